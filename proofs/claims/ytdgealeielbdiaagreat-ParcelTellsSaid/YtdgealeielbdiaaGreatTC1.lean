/-
  Printed by wip/gen: that functions of the program compute this.
-/
import Derived.Test.YtdgealeielbdiaaGreatS4
namespace Go.Proofs
open Go.Gb Go.RowKit
noncomputable section
def aff:Sig xx:=⟨[.d ah,.d ah,.d ah,.d ah],[.fresh ak],fun a=>nU a.1 a.2.1 a.2.2.1 a.2.2.2.1,none⟩
theorem afg:aH 40 aff :=cq aB Tryz.func40 .z 0 (by kernel_rfl) rfl fun _=>by kernel_rfl
def aaO:Sig xx:=⟨[.d ah],[.d .bool],fun a=>oO a.1,none⟩
theorem Bv:aH 56 aaO :=cq aB Tryz.func56 .z 0 (by kernel_rfl) rfl fun _=>by kernel_rfl
def acO:Sig xx:=⟨[.d ah],[.d .bool],fun a=>GV a.1,none⟩
theorem Ub:aH 99 acO :=cq aB Tryz.func99 .z 0 (by kernel_rfl) rfl fun _=>by kernel_rfl
def Uc (n:Nat):Sig xx:=⟨[.d (.sl ah)],[.d .bool],fun a=>pW n a.1,none⟩
def Ud:Hn SI:=(.s .z (.s (.s .z (.b (.lx ⟨[(3,(.v ah))],[],[0],[],1128,[]⟩ 0 ⟨[],[],[],[],1128,[]⟩ .z))) .z))
theorem H9 (n:Nat):aH 65 (Uc n) :=cq aB Tryz.func65 Ud n (by kernel_rfl) rfl fun _=>by kernel_rfl
def Kw (n:Nat):Sig xx:=⟨[.d (.sl ah),.clo [ah] .bool],[.d ah],fun a=>rH n a.1 a.2.1,none⟩
def Ky:Hn SI:=(.s .z (.s (.s .z (.b (.lx ⟨[(8,(.v ah))],[],[0,1,7],[],1256,[]⟩ 0 ⟨[],[],[],[],1256,[]⟩ .z))) .z))
theorem Kz (n:Nat):aH 145 (Kw n) :=cq aB Tryz.func145 Ky n (by kernel_rfl) rfl fun _=>by kernel_rfl
def F5 (n:Nat):Sig xx:=⟨[.d (.sl ah),.clo [ah] .bool],[.d .bool],fun a=>jA n a.1 a.2.1,none⟩
theorem F6 (n:Nat):aH 100 (F5 n) :=cq (au (Kz n) aB) Tryz.func100 .z n (by kernel_rfl) rfl fun _=>by kernel_rfl
def Vp:Sig xx:=⟨[.d ah],[.d .bool],fun a=>AU a.1,none⟩
theorem Vq:aH 101 Vp :=cq (au Bv aB) Tryz.func101 .z 0 (by kernel_rfl) rfl fun _=>by kernel_rfl
def afh:Sig xx:=⟨[.d ak],[.d .bool],fun a=>tK a.1,none⟩
theorem Dx:aH 52 afh :=cq aB Tryz.func52 .z 0 (by kernel_rfl) rfl fun _=>by kernel_rfl
def Ue:Sig xx:=⟨[.nil,.d ah],[.fresh ak],fun a=>LW a.1 a.2.1,none⟩
theorem Uf:aH 153 Ue :=cq aB Tryz.func153 .z 0 (by kernel_rfl) rfl fun _=>by kernel_rfl
def Oo (n:Nat):Sig xx:=⟨[.d (.sl (.sl ak))],[.fresh ak],fun a=>yU n a.1,none⟩
def Oq:Hn SI:=(.s .z (.s .z (.s (.s .z (.b (.l ⟨[(3,(.v ah)),(11,(.v ah))],[],[0,9,10],[],1320,[]⟩ 0 ⟨[(3,(.v ah))],[],[0],[],1320,[]⟩ .z))) (.s .z (.s (.s .z (.b (.l ⟨[(6,(.o 1704)),(27,(.v ah))],[(1704,.l ak)],[25,26],[],1705,[]⟩ 2 ⟨[(6,(.o 1704))],[(1704,.l ak)],[],[],1705,[]⟩ .z))) .z)))))
theorem Ot (n:Nat):aH 108 (Oo n) :=cq (au Uf aB) Tryz.func108 Oq n (by kernel_rfl) rfl fun _=>by kernel_rfl
def Yv:Sig xx:=⟨[.d (.int .u64)],[.d ah],fun a=>bits_Len64 a.1,none⟩
def Yw:Hn SI:=(.s .z (.s (.j ⟨[(0,(.v (.int .u64))),(2,(.v ah))],[],[],[],1064,[]⟩ .z) (.s (.j ⟨[(0,(.v (.int .u64))),(2,(.v ah))],[],[],[],1064,[]⟩ .z) (.s (.j ⟨[(0,(.v (.int .u64))),(2,(.v ah))],[],[],[],1064,[]⟩ .z) .z))))
theorem Yx:aH 144 Yv :=cq aB Tryz.func144 Yw 0 (by kernel_rfl) rfl fun _=>by kernel_rfl
def acP:Sig xx:=⟨[.d (.int .u64)],[.d ah],fun a=>bits_Len a.1,none⟩
theorem zK:aH 97 acP :=cq (au Yx aB) Tryz.func97 .z 0 (by kernel_rfl) rfl fun _=>by kernel_rfl
def Qj:Sig xx:=⟨[.d ah],[.d .bool],fun a=>cmp_isNaN_int a.1,none⟩
theorem FV:aH 158 Qj :=cq aB Tryz.func158 .z 0 (by kernel_rfl) rfl fun _=>by kernel_rfl
def Ug:Sig xx:=⟨[.d ah,.d ah],[.d .bool],fun a=>cmp_Less_int a.1 a.2.1,none⟩
theorem iC:aH 140 Ug :=cq (au FV aB) Tryz.func140 .z 0 (by kernel_rfl) rfl fun _=>by kernel_rfl
def vz (n:Nat):Sig xx:=⟨[.mut ah,.d ah,.d ah],[.mu ah],fun a=>xA n a.1 a.2.1 a.2.2.1,none⟩
def vC:Hn SI:=(.s .z (.b (.l ⟨[(6,(.v ah))],[(0,.l ah)],[0,1,2],[],1192,[]⟩ 0 ⟨[],[(0,.l ah)],[],[],1192,[]⟩ (.s .z (.s (.b (.s .z (.b (.l ⟨[(7,(.v ah))],[(0,.l ah)],[0,1,2,6],[],1512,[]⟩ 2 ⟨[],[(0,.l ah)],[0,1,2,6],[],1512,[]⟩ (.s (.s (.j ⟨[(30,(.v .bool))],[],[0,1,2,6,7],[0],1512,[]⟩ .z) .z) .z))))) .z)))))
theorem vD (n:Nat):aH 134 (vz n) :=cq (au iC aB) Tryz.func134 vC n (by kernel_rfl) rfl fun _=>by kernel_rfl
def BU (n:Nat):Sig xx:=⟨[.mut ah,.d ah,.d ah,.d ah],[.mu ah],fun a=>Ey n a.1 a.2.1 a.2.2.1 a.2.2.2.1,none⟩
def BV:Hn SI:=(.s .z (.b (.lx ⟨[(8,(.v ah))],[(0,.l ah)],[0,2,3],[],1128,[]⟩ 0 ⟨[],[(0,.l ah)],[],[],1128,[]⟩ (.b (.s .z (.s .z (.s (.j ⟨[(9,(.v ah))],[],[0,2,3,8],[0],1576,[]⟩ (.s (.j ⟨[(36,(.v .bool))],[],[0,2,3,8,9],[0],1576,[]⟩ .z) .z)) .z)))))))
theorem BX (n:Nat):aH 169 (BU n) :=cq (au iC aB) Tryz.func169 BV n (by kernel_rfl) rfl fun _=>by kernel_rfl
def BZ (n:Nat):Sig xx:=⟨[.mut ah,.d ah,.d ah],[.mu ah],fun a=>Ez n a.1 a.2.1 a.2.2.1,none⟩
def Ca:Hn SI:=(.s .z (.s .z (.s .z (.s (.s .z (.b (.l ⟨[(9,(.v ah))],[(0,.l ah)],[0,6,7,8],[],1704,[]⟩ 0 ⟨[],[(0,.l ah)],[0,6,7,8],[],1704,[]⟩ .z))) (.s .z (.b (.l ⟨[(10,(.v ah))],[(0,.l ah)],[0,6,7],[],1896,[]⟩ 2 ⟨[],[(0,.l ah)],[],[],1896,[]⟩ .z)))))))
theorem Cb (n:Nat):aH 135 (BZ n) :=cq (au (BX n) aB) Tryz.func135 Ca n (by kernel_rfl) rfl fun _=>by kernel_rfl
def Ji:Sig xx:=⟨[.d ah],[.d (.int .u64)],fun a=>aN a.1,none⟩
theorem jB:aH 170 Ji :=cq (au zK aB) Tryz.func170 .z 0 (by kernel_rfl) rfl fun _=>by kernel_rfl
def KA:Sig xx:=⟨[.mref (.int .u64)],[.d (.int .u64),.mr (.int .u64)],fun a=>aR a.1,none⟩
theorem kr:aH 171 KA :=cq aB Tryz.func171 .z 0 (by kernel_rfl) rfl fun _=>by kernel_rfl
def vE (n:Nat):Sig xx:=⟨[.mut ah,.d ah,.d ah],[.mu ah],fun a=>xB n a.1 a.2.1 a.2.2.1,none⟩
def vF:Hn SI:=(.s .z (.s .z (.s (.s .z (.s .z (.s .z (.b (.l ⟨[(9,(.v ah))],[(0,.l ah),(1512,.c 1 [[(.v (.int .u64))]])],[0,1,6,7,8],[],2280,[]⟩ 0 ⟨[],[(0,.l ah)],[],[],2280,[]⟩ (.s .z (.s (.b (.s .z (.s (.j ⟨[(10,(.v ah))],[],[0,1,6,7,8,9],[0,1512],3176,[]⟩ .z) .z))) .z))))))) .z)))
theorem vG (n:Nat):aH 136 (vE n) :=cq (au jB (au kr aB)) Tryz.func136 vF n (by kernel_rfl) rfl fun _=>by kernel_rfl
def Fb:Sig xx:=⟨[.d (.sl ah),.d ah,.d ah,.mref ah],[.d ah,.d ah,.mr ah],fun a=>GX a.1 a.2.1 a.2.2.1 a.2.2.2.1,none⟩
theorem Fe:aH 189 Fb :=cq (au iC aB) Tryz.func189 .z 0 (by kernel_rfl) rfl fun _=>by kernel_rfl
def Ff:Sig xx:=⟨[.d (.sl ah),.d ah,.d ah,.d ah,.mref ah],[.d ah,.mr ah],fun a=>GY a.1 a.2.1 a.2.2.1 a.2.2.2.1 a.2.2.2.2.1,none⟩
theorem qF:aH 173 Ff :=cq (au Fe aB) Tryz.func173 .z 0 (by kernel_rfl) rfl fun _=>by kernel_rfl
def rW:Sig xx:=⟨[.d (.sl ah),.d ah,.mref ah],[.d ah,.mr ah],fun a=>wh a.1 a.2.1 a.2.2.1,none⟩
theorem rX:aH 172 rW :=cq (au qF aB) Tryz.func172 .z 0 (by kernel_rfl) rfl fun _=>by kernel_rfl
def xX:Sig xx:=⟨[.d (.sl ah),.d ah,.d ah],[.d ah,.d ah],fun a=>zX a.1 a.2.1 a.2.2.1,none⟩
def xY:Hn SI:=(.s .z (.s .z (.s .z (.s .z (.s .z (.s .z (.s (.j ⟨[(11,(.v ah))],[(1384,.c 1 [[(.v ah)]])],[9],[],2600,[]⟩ (.s .z (.s (.s (.j ⟨[(10,(.v ah)),(11,(.v ah)),(12,(.v ah))],[(1384,.c 1 [[(.v ah)]])],[0,9],[],2728,[]⟩ .z) .z) .z))) .z)))))))
theorem xZ:aH 137 xX :=cq (au rX (au qF aB)) Tryz.func137 xY 0 (by kernel_rfl) rfl fun _=>by kernel_rfl
def wJ (n:Nat):Sig xx:=⟨[.mut ah,.d ah,.d ah],[.mu ah],fun a=>yV n a.1 a.2.1 a.2.2.1,none⟩
def wK:Hn SI:=(.s .z (.s .z (.b (.l ⟨[(6,(.v ah)),(7,(.v ah))],[(0,.l ah)],[0],[],1320,[]⟩ 0 ⟨[],[(0,.l ah)],[],[],1320,[]⟩ .z))))
theorem wL (n:Nat):aH 138 (wJ n) :=cq aB Tryz.func138 wK n (by kernel_rfl) rfl fun _=>by kernel_rfl
def mV (n:Nat):Sig xx:=⟨[.mut ah,.d ah,.d ah],[.d .bool,.mu ah],fun a=>ou n a.1 a.2.1 a.2.2.1,none⟩
def mW:Hn SI:=(.s .z (.s .z (.s (.s .z (.b (.lx ⟨[(7,(.v ah)),(8,(.v ah))],[(0,.l ah)],[0,1,2],[],1320,[]⟩ 0 ⟨[],[(0,.l ah)],[],[],1320,[]⟩ (.s .z (.s (.jx ⟨[(7,(.v ah))],[(0,.l ah)],[0,1,2,8],[],1448,[]⟩ (.b (.s (.b (.l ⟨[(7,(.v ah))],[],[0,1,2,8],[0],1448,[]⟩ 2 ⟨[(7,(.v ah))],[],[0,1,2,8],[0],1448,[]⟩ (.s (.s (.j ⟨[(32,(.v .bool))],[],[0,1,2,7,8],[0],1448,[]⟩ .z) .z) .z))) (.s .z (.s .z (.s .z (.s (.j ⟨[],[(0,.l ah)],[0,1,2,7,8],[],3048,[]⟩ (.s .z (.s (.s .z (.b (.l ⟨[(9,(.v ah))],[(0,.l ah)],[0,1,2,7,8],[],3496,[]⟩ 4 ⟨[],[(0,.l ah)],[0,1,2,7,8],[],3496,[]⟩ .z))) .z))) (.s .z (.s (.s .z (.b (.l ⟨[(10,(.v ah))],[(0,.l ah)],[0,1,2,7,8],[],3496,[]⟩ 6 ⟨[],[(0,.l ah)],[0,1,2,7,8],[],3496,[]⟩ .z))) .z))))))))) .z))))) .z)))
theorem mX (n:Nat):aH 139 (mV n) :=cq (au iC aB) Tryz.func139 mW n (by kernel_rfl) rfl fun _=>by kernel_rfl
def rY (n:Nat):Sig xx:=⟨[.mut ah,.d ah,.d ah,.d ah],[.d ah,.mu ah],fun a=>wm n a.1 a.2.1 a.2.2.1 a.2.2.2.1,none⟩
def rZ:Hn SI:=(.s .z (.s .z (.s .z (.s (.b (.l ⟨[(9,(.v ah)),(10,(.v ah))],[(0,.l ah)],[0,1],[],2472,[]⟩ 0 ⟨[(9,(.v ah))],[(0,.l ah)],[],[],2472,[]⟩ (.b (.s (.b (.l ⟨[(9,(.v ah))],[],[0,1,10],[0],2472,[]⟩ 2 ⟨[(9,(.v ah))],[],[0,1,10],[0],2472,[]⟩ (.s (.s (.j ⟨[(43,(.v .bool))],[],[0,1,9,10],[0],2472,[]⟩ .z) .z) .z))) (.s (.b (.l ⟨[(10,(.v ah))],[],[0,1,9],[0],2472,[]⟩ 4 ⟨[(10,(.v ah))],[],[0,1,9],[0],2472,[]⟩ (.s (.s (.j ⟨[(59,(.v .bool))],[],[0,1,9,10],[0],2472,[]⟩ .z) .z) .z))) .z))))) .z))))
theorem sj (n:Nat):aH 141 (rY n) :=cq (au iC aB) Tryz.func141 rZ n (by kernel_rfl) rfl fun _=>by kernel_rfl
def zZ (n:Nat):Sig xx:=⟨[.mut ah,.d ah,.d ah,.d ah],[.d ah,.d .bool,.mu ah],fun a=>CZ n a.1 a.2.1 a.2.2.1 a.2.2.2.1,none⟩
def z8:Hn SI:=(.s .z (.s .z (.s .z (.s (.b (.l ⟨[(10,(.v ah))],[],[0,1,11],[0],2536,[]⟩ 0 ⟨[(10,(.v ah))],[],[0,1,11],[0],2536,[]⟩ (.s (.s (.j ⟨[(43,(.v .bool))],[],[0,1,10,11],[0],2536,[]⟩ .z) .z) .z))) (.s (.b (.l ⟨[(11,(.v ah))],[],[0,1,10],[0],2536,[]⟩ 2 ⟨[(11,(.v ah))],[],[0,1,10],[0],2536,[]⟩ (.s (.s (.j ⟨[(60,(.v .bool))],[],[0,1,10,11],[0],2536,[]⟩ .z) .z) .z))) (.s .z (.s .z (.s .z (.s .z (.s (.b (.l ⟨[(10,(.v ah)),(11,(.v ah))],[(0,.l ah)],[0,1],[],4136,[]⟩ 4 ⟨[(11,(.v ah))],[(0,.l ah)],[0,1],[],4136,[]⟩ (.b (.s (.b (.l ⟨[(10,(.v ah))],[],[0,1,11],[0],4136,[]⟩ 6 ⟨[(10,(.v ah))],[],[0,1,11],[0],4136,[]⟩ (.s (.s (.j ⟨[(112,(.v .bool))],[],[0,1,10,11],[0],4136,[]⟩ .z) .z) .z))) (.s (.b (.l ⟨[(11,(.v ah))],[],[0,1,10],[0],4136,[]⟩ 8 ⟨[(11,(.v ah))],[],[0,1,10],[0],4136,[]⟩ (.s (.s (.j ⟨[(129,(.v .bool))],[],[0,1,10,11],[0],4136,[]⟩ .z) .z) .z))) .z))))) .z))))))))))
theorem Aa (n:Nat):aH 142 (zZ n) :=cq (au iC aB) Tryz.func142 z8 n (by kernel_rfl) rfl fun _=>by kernel_rfl
def Dy:Hn SI:=(.s .z (.s .z (.b (.lx ⟨[(1,(.v ah)),(2,(.v ah)),(3,(.v ah)),(8,(.v .bool)),(9,(.v .bool))],[(0,.l ah)],[0],[],1128,[]⟩ 999999 ⟨[],[],[],[],1128,[]⟩ (.b (.s .z (.s .z (.s .z (.s (.j ⟨[(3,(.v ah))],[(0,.l ah)],[0,1,2,8,9,10],[],1640,[]⟩ .z) (.s .z (.s (.j ⟨[(11,(.v ah)),(12,(.v ah))],[(0,.l ah)],[0,1,2,3,8,9,10],[],2216,[]⟩ .z) (.s (.jx ⟨[],[(0,.l ah)],[0,1,2,3,8,9,10,11],[],2216,[]⟩ (.s (.j ⟨[(68,(.v .bool))],[],[0,1,2,3,8,9,10,11],[0],2216,[]⟩ .z) .z)) (.s (.s (.j ⟨[(87,(.v .bool))],[],[0,1,2,3,8,9,10,11],[0],2216,[]⟩ .z) .z) .z)))))))))))))
theorem Cc (n:Nat) (rc:((List Int))->(Int)->(Int)->(Int)->Option (List Int)) (hr:aH 96 (jm rc)):aH 96 (jm (jE n rc)) :=cq (au (vD n) (au (Cb n) (au (vG n) (au xZ (au (wL n) (au (mX n) (au iC (au (sj n) (au (Aa n) (au hr aB)))))))))) Tryz.func96 Dy n (by kernel_rfl) rfl fun _=>by kernel_rfl
theorem nR (n:Nat):∀ m,aH 96 (jm (dV n m))
 | 0=>cok (jO Tryz.func96 (by kernel_rfl:Tryz.f96.body=some (Tryz.f96.body.getD .skip)) (by kernel_rfl)) (fun _ _ h=>(by cases h)) rfl
 |m+1=>Cc n _ (nR n m)
def Dz (n:Nat):Sig xx:=⟨[.mut ah,.d ah,.d ah,.d ah],[.mu ah],fun a=>kW n a.1 a.2.1 a.2.2.1 a.2.2.2.1,none⟩
theorem DF (n:Nat):aH 96 (Dz n):=nR n n
def Vr (n:Nat):Sig xx:=⟨[.mut ah],[.mu ah],fun a=>gW n a.1,none⟩
theorem jr (n:Nat):aH 42 (Vr n) :=cq (au zK (au (DF n) aB)) Tryz.func42 .z n (by kernel_rfl) rfl fun _=>by kernel_rfl
def Ou (n:Nat):Sig xx:=⟨[.mut ah],[.whole 0,.mu ah],fun a=>fP n a.1,none⟩
def Ov:Hn SI:=(.s .z (.s .z (.s (.s .z (.b (.lx ⟨[(3,(.v ah))],[],[0],[0],1320,[]⟩ 0 ⟨[],[],[0],[0],1320,[]⟩ (.s .z (.s (.b (.s .z (.s (.s .z (.s (.s .z (.b (.l ⟨[(3,(.v ah)),(5,(.v ah))],[(0,.l ah)],[0,4],[],2536,[]⟩ 2 ⟨[(3,(.v ah))],[(0,.l ah)],[0],[],2536,[]⟩ (.s .z (.s (.j ⟨[(3,(.v ah))],[(0,.l ah)],[0,4,5],[],2792,[]⟩ .z) .z))))) .z)) .z))) .z))))) .z)))
theorem gZ (n:Nat):aH 43 (Ou n) :=cq aB Tryz.func43 Ov n (by kernel_rfl) rfl fun _=>by kernel_rfl
def su (n:Nat):Sig xx:=⟨[.mut (.st SI.span),.d ah,.d ah,.clo [(.st SI.span),(.st SI.span)] ah],[.mu (.st SI.span)],fun a=>wu n a.1 a.2.1 a.2.2.1 a.2.2.2.1,none⟩
def sw:Hn SI:=(.s .z (.b (.l ⟨[(8,(.v ah))],[(0,.l (.st SI.span))],[0,1,2,3],[],1192,[]⟩ 0 ⟨[],[(0,.l (.st SI.span))],[],[],1192,[]⟩ (.s .z (.s (.b (.s .z (.b (.l ⟨[(9,(.v ah))],[(0,.l (.st SI.span))],[0,1,2,3,8],[],1512,[]⟩ 2 ⟨[],[(0,.l (.st SI.span))],[0,1,2,3,8],[],1512,[]⟩ (.s (.s (.j ⟨[(34,(.v .bool))],[],[0,1,2,3,8,9],[0],1512,[]⟩ .z) .z) .z))))) .z)))))
theorem sD (n:Nat):aH 190 (su n) :=cq aB Tryz.func190 sw n (by kernel_rfl) rfl fun _=>by kernel_rfl
def Ab (n:Nat):Sig xx:=⟨[.mut (.st SI.span),.d ah,.d ah,.d ah,.clo [(.st SI.span),(.st SI.span)] ah],[.mu (.st SI.span)],fun a=>C8 n a.1 a.2.1 a.2.2.1 a.2.2.2.1 a.2.2.2.2.1,none⟩
def Ac:Hn SI:=(.s .z (.b (.lx ⟨[(10,(.v ah))],[(0,.l (.st SI.span))],[0,2,3,4],[],1128,[]⟩ 0 ⟨[],[(0,.l (.st SI.span))],[],[],1128,[]⟩ (.b (.s .z (.s .z (.s (.j ⟨[(11,(.v ah))],[],[0,2,3,4,10],[0],1576,[]⟩ (.s (.j ⟨[(40,(.v .bool))],[],[0,2,3,4,10,11],[0],1576,[]⟩ .z) .z)) .z)))))))
theorem Ad (n:Nat):aH 209 (Ab n) :=cq aB Tryz.func209 Ac n (by kernel_rfl) rfl fun _=>by kernel_rfl
def Ae (n:Nat):Sig xx:=⟨[.mut (.st SI.span),.d ah,.d ah,.clo [(.st SI.span),(.st SI.span)] ah],[.mu (.st SI.span)],fun a=>C9 n a.1 a.2.1 a.2.2.1 a.2.2.2.1,none⟩
def Af:Hn SI:=(.s .z (.s .z (.s .z (.s (.s .z (.b (.l ⟨[(11,(.v ah))],[(0,.l (.st SI.span))],[0,3,8,9,10],[],1704,[]⟩ 0 ⟨[],[(0,.l (.st SI.span))],[0,3,8,9,10],[],1704,[]⟩ .z))) (.s .z (.b (.l ⟨[(12,(.v ah))],[(0,.l (.st SI.span))],[0,3,8,9],[],1896,[]⟩ 2 ⟨[],[(0,.l (.st SI.span))],[],[],1896,[]⟩ .z)))))))
theorem Ag (n:Nat):aH 191 (Ae n) :=cq (au (Ad n) aB) Tryz.func191 Af n (by kernel_rfl) rfl fun _=>by kernel_rfl
def sF (n:Nat):Sig xx:=⟨[.mut (.st SI.span),.d ah,.d ah,.clo [(.st SI.span),(.st SI.span)] ah],[.mu (.st SI.span)],fun a=>wB n a.1 a.2.1 a.2.2.1 a.2.2.2.1,none⟩
def sG:Hn SI:=(.s .z (.s .z (.s (.s .z (.s .z (.s .z (.b (.l ⟨[(11,(.v ah))],[(0,.l (.st SI.span)),(1512,.c 1 [[(.v (.int .u64))]])],[0,1,8,9,10],[],2280,[]⟩ 0 ⟨[],[(0,.l (.st SI.span))],[],[],2280,[]⟩ (.s .z (.s (.b (.s .z (.s (.j ⟨[(12,(.v ah))],[],[0,1,8,9,10,11],[0,1512],3176,[]⟩ .z) .z))) .z))))))) .z)))
theorem sH (n:Nat):aH 192 (sF n) :=cq (au jB (au kr aB)) Tryz.func192 sG n (by kernel_rfl) rfl fun _=>by kernel_rfl
def DI:Sig xx:=⟨[.d (.sl (.st SI.span)),.d ah,.d ah,.mref ah,.clo [(.st SI.span),(.st SI.span)] ah],[.d ah,.d ah,.mr ah],fun a=>FY a.1 a.2.1 a.2.2.1 a.2.2.2.1 a.2.2.2.2.1,none⟩
theorem DJ:aH 216 DI :=cq aB Tryz.func216 .z 0 (by kernel_rfl) rfl fun _=>by kernel_rfl
def DK:Sig xx:=⟨[.d (.sl (.st SI.span)),.d ah,.d ah,.d ah,.mref ah,.clo [(.st SI.span),(.st SI.span)] ah],[.d ah,.mr ah],fun a=>FZ a.1 a.2.1 a.2.2.1 a.2.2.2.1 a.2.2.2.2.1 a.2.2.2.2.2.1,none⟩
theorem o9:aH 211 DK :=cq (au DJ aB) Tryz.func211 .z 0 (by kernel_rfl) rfl fun _=>by kernel_rfl
def qI:Sig xx:=⟨[.d (.sl (.st SI.span)),.d ah,.mref ah,.clo [(.st SI.span),(.st SI.span)] ah],[.d ah,.mr ah],fun a=>uG a.1 a.2.1 a.2.2.1 a.2.2.2.1,none⟩
theorem qJ:aH 210 qI :=cq (au o9 aB) Tryz.func210 .z 0 (by kernel_rfl) rfl fun _=>by kernel_rfl
def wM:Sig xx:=⟨[.d (.sl (.st SI.span)),.d ah,.d ah,.clo [(.st SI.span),(.st SI.span)] ah],[.d ah,.d ah],fun a=>yX a.1 a.2.1 a.2.2.1 a.2.2.2.1,none⟩
def wN:Hn SI:=(.s .z (.s .z (.s .z (.s .z (.s .z (.s .z (.s (.j ⟨[(13,(.v ah))],[(1384,.c 1 [[(.v ah)]])],[11],[],2600,[]⟩ (.s .z (.s (.s (.j ⟨[(12,(.v ah)),(13,(.v ah)),(14,(.v ah))],[(1384,.c 1 [[(.v ah)]])],[0,3,11],[],2728,[]⟩ .z) .z) .z))) .z)))))))
theorem wO:aH 193 wM :=cq (au qJ (au o9 aB)) Tryz.func193 wN 0 (by kernel_rfl) rfl fun _=>by kernel_rfl
def vH (n:Nat):Sig xx:=⟨[.mut (.st SI.span),.d ah,.d ah,.clo [(.st SI.span),(.st SI.span)] ah],[.mu (.st SI.span)],fun a=>xC n a.1 a.2.1 a.2.2.1 a.2.2.2.1,none⟩
def vI:Hn SI:=(.s .z (.s .z (.b (.l ⟨[(8,(.v ah)),(9,(.v ah))],[(0,.l (.st SI.span))],[0],[],1320,[]⟩ 0 ⟨[],[(0,.l (.st SI.span))],[],[],1320,[]⟩ .z))))
theorem vJ (n:Nat):aH 194 (vH n) :=cq aB Tryz.func194 vI n (by kernel_rfl) rfl fun _=>by kernel_rfl
def mE (n:Nat):Sig xx:=⟨[.mut (.st SI.span),.d ah,.d ah,.clo [(.st SI.span),(.st SI.span)] ah],[.d .bool,.mu (.st SI.span)],fun a=>nE n a.1 a.2.1 a.2.2.1 a.2.2.2.1,none⟩
def mF:Hn SI:=(.s .z (.s .z (.s (.s .z (.b (.lx ⟨[(9,(.v ah)),(10,(.v ah))],[(0,.l (.st SI.span))],[0,1,2,3],[],1320,[]⟩ 0 ⟨[],[(0,.l (.st SI.span))],[],[],1320,[]⟩ (.s .z (.s (.jx ⟨[(9,(.v ah))],[(0,.l (.st SI.span))],[0,1,2,3,10],[],1448,[]⟩ (.b (.s (.b (.l ⟨[(9,(.v ah))],[],[0,1,2,3,10],[0],1448,[]⟩ 2 ⟨[(9,(.v ah))],[],[0,1,2,3,10],[0],1448,[]⟩ (.s (.s (.j ⟨[(36,(.v .bool))],[],[0,1,2,3,9,10],[0],1448,[]⟩ .z) .z) .z))) (.s .z (.s .z (.s .z (.s (.j ⟨[],[(0,.l (.st SI.span))],[0,1,2,3,9,10],[],3048,[]⟩ (.s .z (.s (.s .z (.b (.l ⟨[(11,(.v ah))],[(0,.l (.st SI.span))],[0,1,2,3,9,10],[],3496,[]⟩ 4 ⟨[],[(0,.l (.st SI.span))],[0,1,2,3,9,10],[],3496,[]⟩ .z))) .z))) (.s .z (.s (.s .z (.b (.l ⟨[(12,(.v ah))],[(0,.l (.st SI.span))],[0,1,2,3,9,10],[],3496,[]⟩ 6 ⟨[],[(0,.l (.st SI.span))],[0,1,2,3,9,10],[],3496,[]⟩ .z))) .z))))))))) .z))))) .z)))
theorem mG (n:Nat):aH 195 (mE n) :=cq aB Tryz.func195 mF n (by kernel_rfl) rfl fun _=>by kernel_rfl
def qK (n:Nat):Sig xx:=⟨[.mut (.st SI.span),.d ah,.d ah,.d ah,.clo [(.st SI.span),(.st SI.span)] ah],[.d ah,.mu (.st SI.span)],fun a=>uH n a.1 a.2.1 a.2.2.1 a.2.2.2.1 a.2.2.2.2.1,none⟩
def qL:Hn SI:=(.s .z (.s .z (.s .z (.s (.b (.l ⟨[(11,(.v ah)),(12,(.v ah))],[(0,.l (.st SI.span))],[0,1,4],[],2472,[]⟩ 0 ⟨[(11,(.v ah))],[(0,.l (.st SI.span))],[],[],2472,[]⟩ (.b (.s (.b (.l ⟨[(11,(.v ah))],[],[0,1,4,12],[0],2472,[]⟩ 2 ⟨[(11,(.v ah))],[],[0,1,4,12],[0],2472,[]⟩ (.s (.s (.j ⟨[(47,(.v .bool))],[],[0,1,4,11,12],[0],2472,[]⟩ .z) .z) .z))) (.s (.b (.l ⟨[(12,(.v ah))],[],[0,1,4,11],[0],2472,[]⟩ 4 ⟨[(12,(.v ah))],[],[0,1,4,11],[0],2472,[]⟩ (.s (.s (.j ⟨[(65,(.v .bool))],[],[0,1,4,11,12],[0],2472,[]⟩ .z) .z) .z))) .z))))) .z))))
theorem qM (n:Nat):aH 196 (qK n) :=cq aB Tryz.func196 qL n (by kernel_rfl) rfl fun _=>by kernel_rfl
def zL (n:Nat):Sig xx:=⟨[.mut (.st SI.span),.d ah,.d ah,.d ah,.clo [(.st SI.span),(.st SI.span)] ah],[.d ah,.d .bool,.mu (.st SI.span)],fun a=>BO n a.1 a.2.1 a.2.2.1 a.2.2.2.1 a.2.2.2.2.1,none⟩
def zM:Hn SI:=(.s .z (.s .z (.s .z (.s (.b (.l ⟨[(12,(.v ah))],[],[0,1,4,13],[0],2536,[]⟩ 0 ⟨[(12,(.v ah))],[],[0,1,4,13],[0],2536,[]⟩ (.s (.s (.j ⟨[(47,(.v .bool))],[],[0,1,4,12,13],[0],2536,[]⟩ .z) .z) .z))) (.s (.b (.l ⟨[(13,(.v ah))],[],[0,1,4,12],[0],2536,[]⟩ 2 ⟨[(13,(.v ah))],[],[0,1,4,12],[0],2536,[]⟩ (.s (.s (.j ⟨[(66,(.v .bool))],[],[0,1,4,12,13],[0],2536,[]⟩ .z) .z) .z))) (.s .z (.s .z (.s .z (.s .z (.s (.b (.l ⟨[(12,(.v ah)),(13,(.v ah))],[(0,.l (.st SI.span))],[0,1,4],[],4136,[]⟩ 4 ⟨[(13,(.v ah))],[(0,.l (.st SI.span))],[0,1],[],4136,[]⟩ (.b (.s (.b (.l ⟨[(12,(.v ah))],[],[0,1,4,13],[0],4136,[]⟩ 6 ⟨[(12,(.v ah))],[],[0,1,4,13],[0],4136,[]⟩ (.s (.s (.j ⟨[(120,(.v .bool))],[],[0,1,4,12,13],[0],4136,[]⟩ .z) .z) .z))) (.s (.b (.l ⟨[(13,(.v ah))],[],[0,1,4,12],[0],4136,[]⟩ 8 ⟨[(13,(.v ah))],[],[0,1,4,12],[0],4136,[]⟩ (.s (.s (.j ⟨[(139,(.v .bool))],[],[0,1,4,12,13],[0],4136,[]⟩ .z) .z) .z))) .z))))) .z))))))))))
theorem zN (n:Nat):aH 197 (zL n) :=cq aB Tryz.func197 zM n (by kernel_rfl) rfl fun _=>by kernel_rfl
def Ce:Hn SI:=(.s .z (.s .z (.b (.lx ⟨[(1,(.v ah)),(2,(.v ah)),(3,(.v ah)),(10,(.v .bool)),(11,(.v .bool))],[(0,.l (.st SI.span))],[0,4],[],1128,[]⟩ 999999 ⟨[],[],[],[],1128,[]⟩ (.b (.s .z (.s .z (.s .z (.s (.j ⟨[(3,(.v ah))],[(0,.l (.st SI.span))],[0,1,2,4,10,11,12],[],1640,[]⟩ .z) (.s .z (.s (.j ⟨[(13,(.v ah)),(14,(.v ah))],[(0,.l (.st SI.span))],[0,1,2,3,4,10,11,12],[],2280,[]⟩ .z) (.s (.jx ⟨[],[(0,.l (.st SI.span))],[0,1,2,3,4,10,11,12,13],[],2280,[]⟩ (.s (.j ⟨[(75,(.v .bool))],[],[0,1,2,3,4,10,11,12,13],[0],2280,[]⟩ .z) .z)) (.s (.s (.j ⟨[(97,(.v .bool))],[],[0,1,2,3,4,10,11,12,13],[0],2280,[]⟩ .z) .z) .z)))))))))))))
theorem Ah (n:Nat) (rc:((List aD))->(Int)->(Int)->(Int)->((aD×aD×Unit)->Option Int)->Option (List aD)) (hr:aH 177 (iF rc)):aH 177 (iF (fJ n rc)) :=cq (au (sD n) (au (Ag n) (au (sH n) (au wO (au (vJ n) (au (mG n) (au (qM n) (au (zN n) (au hr aB))))))))) Tryz.func177 Ce n (by kernel_rfl) rfl fun _=>by kernel_rfl
theorem mK (n:Nat):∀ m,aH 177 (iF (bU n m))
 | 0=>cok (jO Tryz.func177 (by kernel_rfl:Tryz.f177.body=some (Tryz.f177.body.getD .skip)) (by kernel_rfl)) (fun _ _ h=>(by cases h)) rfl
 |m+1=>Ah n _ (mK n m)
def Cf (n:Nat):Sig xx:=⟨[.mut (.st SI.span),.d ah,.d ah,.d ah,.clo [(.st SI.span),(.st SI.span)] ah],[.mu (.st SI.span)],fun a=>jZ n a.1 a.2.1 a.2.2.1 a.2.2.2.1 a.2.2.2.2.1,none⟩
theorem Cg (n:Nat):aH 177 (Cf n):=mK n n
def KC (n:Nat):Sig xx:=⟨[.mut (.st SI.span),.clo [(.st SI.span),(.st SI.span)] ah],[.mu (.st SI.span)],fun a=>l8 n a.1 a.2.1,none⟩
theorem KD (n:Nat):aH 154 (KC n) :=cq (au zK (au (Cg n) aB)) Tryz.func154 .z n (by kernel_rfl) rfl fun _=>by kernel_rfl
def MQ:Sig xx:=⟨[.d ah,.d ah],[.d ah],fun a=>cmp_Compare_int a.1 a.2.1,none⟩
theorem qG:aH 115 MQ :=cq (au FV aB) Tryz.func115 .z 0 (by kernel_rfl) rfl fun _=>by kernel_rfl
def Uh:Sig xx:=⟨[.d (.st SI.span),.d (.st SI.span)],[.d ah],fun a=>xD a.1 a.2.1,none⟩
theorem Ui:aH 155 Uh :=cq (au qG aB) Tryz.func155 .z 0 (by kernel_rfl) rfl fun _=>by kernel_rfl
def aaP (n:Nat):Sig xx:=⟨[.d (.sl ak),.d ah],[.fresh (.st SI.span)],fun a=>Iy n a.1 a.2.1,none⟩
def aaQ:Hn SI:=(.s .z (.s .z (.s (.s .z (.b (.l ⟨[(5,(.o 1320)),(14,(.v ah))],[(1320,.l (.st SI.span))],[1,12,13],[],1321,[(5,(.st SI.span))]⟩ 0 ⟨[(5,(.o 1320))],[(1320,.l (.st SI.span))],[],[],1321,[]⟩ (.s .z (.s .z (.s (.j ⟨[(5,(.o 1385))],[(1385,.l (.st SI.span))],[1,12,13,14],[],1386,[]⟩ (.b (.s .z (.s (.j ⟨[(27,(.v .bool))],[],[1,5,7,12,13,14],[1320,1513],1641,[]⟩ .z) .z)))) .z)))))) (.s .z (.s .z (.s (.s .z (.b (.l ⟨[(8,(.o 1705)),(41,(.v ah))],[(1705,.l (.st SI.span))],[39,40],[1320],1706,[(8,(.st SI.span))]⟩ 2 ⟨[(8,(.o 1705))],[(1705,.l (.st SI.span))],[],[],1706,[]⟩ (.s .z (.s .z (.s (.j ⟨[(8,(.o 1770))],[(1770,.l (.st SI.span))],[39,40,41],[1320],1771,[]⟩ (.b (.s .z (.s .z (.s (.j ⟨[(59,(.v .bool))],[],[8,10,11,39,40,41],[1320,1705,1898],2218,[]⟩ .z) .z))))) .z)))))) .z))))))
theorem aaR (n:Nat):aH 109 (aaP n) :=cq (au (KD n) (au Ui aB)) Tryz.func109 aaQ n (by kernel_rfl) rfl fun _=>by kernel_rfl
def aaS (n:Nat):Sig xx:=⟨[.d (.sl (.sl ak))],[.fresh (.st SI.strip)],fun a=>iJ n a.1,none⟩
def aaT:Hn SI:=(.s .z (.s .z (.s .z (.s (.s .z (.b (.l ⟨[(4,(.o 1512)),(13,(.v ah))],[(1512,.l ah)],[3,11,12],[1128],1513,[(4,ah)]⟩ 0 ⟨[(4,(.o 1512))],[(1512,.l ah)],[3],[1128],1513,[]⟩ .z))) (.s .z (.s .z (.s .z (.s (.s .z (.b (.l ⟨[(7,(.o 1961)),(8,(.v ah))],[(1961,.l (.st SI.strip))],[3,4],[1128,1512],1962,[(7,(.st SI.strip))]⟩ 2 ⟨[(7,(.o 1961))],[(1961,.l (.st SI.strip))],[],[],1962,[]⟩ .z))) .z))))))))
theorem Ia (n:Nat):aH 55 (aaS n) :=cq (au (Ot n) (au (jr n) (au (gZ n) (au (aaR n) aB)))) Tryz.func55 aaT n (by kernel_rfl) rfl fun _=>by kernel_rfl
def Qk (n:Nat):Sig xx:=⟨[.d (.sl (.st SI.span)),.d (.sl (.st SI.span))],[.d .bool],fun a=>tL n a.1 a.2.1,none⟩
def Ql:Hn SI:=(.s .z (.s .z (.s (.s .z (.b (.lx ⟨[(13,(.v ah))],[],[0,1,12],[],1576,[]⟩ 0 ⟨[],[],[],[],1576,[]⟩ .z))) .z)))
theorem Qm (n:Nat):aH 107 (Qk n) :=cq aB Tryz.func107 Ql n (by kernel_rfl) rfl fun _=>by kernel_rfl
def acQ (n:Nat):Sig xx:=⟨[.d (.sl (.st SI.strip))],[.fresh ak],fun a=>yY n a.1,none⟩
def acR:Hn SI:=(.s .z (.s .z (.s (.s .z (.b (.l ⟨[(3,(.o 1192)),(4,(.v ah))],[(1192,.l ak)],[0],[],1193,[(3,ak)]⟩ 0 ⟨[(3,(.o 1192))],[(1192,.l ak)],[],[],1193,[]⟩ (.s .z (.b (.s .z (.s (.b (.l ⟨[(5,(.v ah))],[],[0,3,4],[1192],1641,[]⟩ 2 ⟨[(5,(.v ah))],[],[0,3,4],[1192],1641,[]⟩ (.s (.s (.j ⟨[(30,(.v .bool))],[],[0,3,4,5],[1192],1641,[]⟩ .z) .z) .z))) (.s (.s .z (.b (.l ⟨[(3,(.o 2089)),(39,(.v ah))],[(2089,.l ak)],[0,4,5,37,38],[],2090,[]⟩ 4 ⟨[(3,(.o 2089))],[(2089,.l ak)],[0,5],[],2090,[]⟩ .z))) .z)))))))) .z)))
theorem KE (n:Nat):aH 54 (acQ n) :=cq (au (Qm n) aB) Tryz.func54 acR n (by kernel_rfl) rfl fun _=>by kernel_rfl
def Yy:Sig xx:=⟨[.d (.sl ak)],[.d (.sl ak),.d ah],fun a=>yZ a.1,none⟩
theorem MR:aH 53 Yy :=cq aB Tryz.func53 .z 0 (by kernel_rfl) rfl fun _=>by kernel_rfl
def ah8 (n:Nat):Sig xx:=⟨[.d (.sl ak)],[.d (.sl ak),.d ah],fun a=>WH n a.1,none⟩
def ah9:Hn SI:=(.s .z (.s (.s .z (.b (.lx ⟨[(8,(.v ah))],[],[0,6,7],[],1320,[]⟩ 0 ⟨[],[],[0],[],1320,[]⟩ .z))) .z))
theorem Yz (n:Nat):aH 21 (ah8 n) :=cq (au Dx (au (Ia n) (au (KE n) (au MR aB)))) Tryz.func21 ah9 n (by kernel_rfl) rfl fun _=>by kernel_rfl
def Qn (n:Nat):Sig xx:=⟨[.d (.sl ak),.d (.sl ak)],[.d .bool],fun a=>kK n a.1 a.2.1,none⟩
def Qo:Hn SI:=(.s .z (.s .z (.s (.s .z (.b (.lx ⟨[(13,(.v ah))],[],[0,1,12],[],1576,[]⟩ 0 ⟨[],[],[],[],1576,[]⟩ .z))) .z)))
theorem FW (n:Nat):aH 49 (Qn n) :=cq aB Tryz.func49 Qo n (by kernel_rfl) rfl fun _=>by kernel_rfl
def acS (n:Nat):Sig xx:=⟨[.d (.sl ak)],[.d .bool],fun a=>kD n a.1,none⟩
theorem oH (n:Nat):aH 44 (acS n) :=cq (au (Yz n) (au (FW n) aB)) Tryz.func44 .z n (by kernel_rfl) rfl fun _=>by kernel_rfl
def Qp:Sig xx:=⟨[.d (.sl ak)],[.fresh ak],fun a=>tN a.1,none⟩
theorem FX:aH 94 Qp :=cq aB Tryz.func94 .z 0 (by kernel_rfl) rfl fun _=>by kernel_rfl
def ahf:Sig xx:=⟨[.d ak,.d ak],[.d ah,.d ah],fun a=>Yb a.1 a.2.1,none⟩
theorem aaU:aH 98 ahf :=cq aB Tryz.func98 .z 0 (by kernel_rfl) rfl fun _=>by kernel_rfl
def afi:Sig xx:=⟨[.d ak,.d ak],[.d .bool],fun a=>QH a.1 a.2.1,none⟩
def afj:Hn SI:=(.s .z (.s (.s (.j ⟨[(14,(.v .bool))],[],[2,3],[1000,1064],1192,[]⟩ .z) .z) .z))
theorem afk:aH 148 afi :=cq (au Dx (au aaU aB)) Tryz.func148 afj 0 (by kernel_rfl) rfl fun _=>by kernel_rfl
def Jj (n:Nat):Sig xx:=⟨[.d (.sl ak),.clo [ak] .bool],[.d ah],fun a=>qa n a.1 a.2.1,none⟩
def Jk:Hn SI:=(.s .z (.s (.s .z (.b (.lx ⟨[(8,(.v ah))],[],[0,1,7],[],1256,[]⟩ 0 ⟨[],[],[],[],1256,[]⟩ .z))) .z))
theorem Jl (n:Nat):aH 131 (Jj n) :=cq aB Tryz.func131 Jk n (by kernel_rfl) rfl fun _=>by kernel_rfl
def Ow:GSig xx:=⟨[(.v ak),(.p 0),(.p 1)],[(0,.c 1 [[(.o 2)]]),(1,.c 1 [[(.v ah)]]),(2,.l ak)],[(.v .bool)],[(0,.c 1 [[(.o 1000)]]),(1,.c 1 [[(.v ah)]]),(1000,.l ak)],fun v=>lI v.1 v.2.1 v.2.2⟩
def Ox:Sig xx:=⟨[],[.d .bool],fun _=>none,some (Ow)⟩
theorem DL:aH 147 Ox :=cqG (au afk aB) Tryz.func147 .z 0 (by kernel_rfl) fun _=>by kernel_rfl
def Fg (n:Nat):GSig xx:=⟨[(.v (.sl ak)),(.f 147 [] [(.p 0),(.p 1)])],[(0,.c 1 [[(.o 2)]]),(1,.c 1 [[(.v ah)]]),(2,.l ak)],[(.v ah)],[(0,.c 1 [[(.o 1000)]]),(1,.c 1 [[(.v ah)]]),(1000,.l ak)],fun v=>iV n v.1 v.2.1 v.2.2⟩
def Fh (n:Nat):Sig xx:=⟨[],[.d .bool],fun _=>none,some (Fg n)⟩
def Fj:Hn SI:=(.s .z (.s (.s .z (.b (.lx ⟨[(8,(.v ah))],[(0,.c 1 [[(.o 1256)]]),(1,.c 1 [[(.v ah)]]),(1256,.l ak)],[0,1,7],[],1257,[]⟩ 0 ⟨[],[(0,.c 1 [[(.o 1256)]]),(1,.c 1 [[(.v ah)]]),(1256,.l ak)],[],[],1257,[]⟩ .z))) .z))
theorem Fp (n:Nat):aH 131 (Fh n) :=cqG (au DL aB) Tryz.func131 Fj n (by kernel_rfl) fun _=>by kernel_rfl
def DR (n:Nat):GSig xx:=⟨[(.od 0),(.f 147 [] [(.p 1),(.p 2)])],[(0,.l ak),(1,.c 1 [[(.o 3)]]),(2,.c 1 [[(.v ah)]]),(3,.l ak)],[(.od 0)],[(0,.l ak),(1,.c 1 [[(.o 1000)]]),(2,.c 1 [[(.v ah)]]),(1000,.l ak)],fun v=>iD n v.1 v.2.1 v.2.2.1 v.2.2.2⟩
def DT (n:Nat):Sig xx:=⟨[],[.d .bool],fun _=>none,some (DR n)⟩
def DU:Hn SI:=(.s .z (.s .z (.s .z (.s (.s .z (.b (.l ⟨[(5,(.v ah)),(6,(.v ah))],[(0,.l ak),(1,.c 1 [[(.o 1640)]]),(2,.c 1 [[(.v ah)]]),(1640,.l ak)],[0,1],[],1641,[]⟩ 0 ⟨[(5,(.v ah))],[(0,.l ak),(1,.c 1 [[(.o 1640)]]),(2,.c 1 [[(.v ah)]]),(1640,.l ak)],[0],[],1641,[]⟩ (.s .z (.s (.j ⟨[(5,(.v ah))],[(0,.l ak),(1,.c 1 [[(.o 1897)]]),(2,.c 1 [[(.v ah)]]),(1897,.l ak)],[0,1,6],[],1898,[]⟩ .z) .z))))) .z))))
theorem DW (n:Nat):aH 146 (DT n) :=cqG (au (Fp n) (au DL aB)) Tryz.func146 DU n (by kernel_rfl) fun _=>by kernel_rfl
def acT (n:Nat):Sig xx:=⟨[.d (.sl ak)],[.fresh (.sl ak)],fun a=>G5 n a.1,none⟩
def acU:Hn SI:=(.s .z (.s .z (.s .z (.s .z (.s (.b (.l ⟨[(3,(.od 1320)),(4,(.o 1512))],[(1320,.l ak),(1512,.l (.sl ak))],[],[],1513,[(4,(.sl ak))]⟩ 0 ⟨[(4,(.o 1512))],[(1512,.l (.sl ak))],[],[],1513,[]⟩ (.s .z (.b (.s .z (.s .z (.s (.s .z (.b (.l ⟨[(3,(.od 1320)),(6,(.p 2409))],[(1320,.l ak),(1961,.c 1 [[(.o 2410)]]),(2409,.c 1 [[(.v ah)]]),(2410,.l ak)],[4,5],[1512],2411,[]⟩ 2 ⟨[(3,(.od 1320))],[(1320,.l ak),(1961,.c 1 [[(.o 2409)]]),(2409,.l ak)],[4,5],[1512],2410,[]⟩ .z))) .z))))))) .z)))))
theorem Uj (n:Nat):aH 102 (acT n) :=cq (au (oH n) (au FX (au (DW n) (au (Ia n) (au (KE n) aB))))) Tryz.func102 acU n (by kernel_rfl) rfl fun _=>by kernel_rfl
def acV (n:Nat):Sig xx:=⟨[.d ay],[.d .bool],fun a=>Da n a.1,none⟩
theorem Uk (n:Nat):aH 46 (acV n) :=cq (au Bv (au Ub (au (H9 n) (au (F6 n) (au Vq (au (Uj n) aB)))))) Tryz.func46 .z n (by kernel_rfl) rfl fun _=>by kernel_rfl
def Qq:Sig xx:=⟨[.d ak,.ref ak],[.d .bool],fun a=>tO a.1 a.2.1,none⟩
theorem Qr:aH 104 Qq :=cq aB Tryz.func104 .z 0 (by kernel_rfl) rfl fun _=>by kernel_rfl
def Fq (n:Nat):Sig xx:=⟨[.d (.sl ak),.clo [ak] .bool],[.d .bool],fun a=>dW n a.1 a.2.1,none⟩
theorem ku (n:Nat):aH 86 (Fq n) :=cq (au (Jl n) aB) Tryz.func86 .z n (by kernel_rfl) rfl fun _=>by kernel_rfl
def YA (n:Nat):Sig xx:=⟨[.d ak,.ref (.sl ak)],[.d .bool],fun a=>EA n a.1 a.2.1,none⟩
theorem YB (n:Nat):aH 103 (YA n) :=cq (au (ku n) (au Qr aB)) Tryz.func103 .z n (by kernel_rfl) rfl fun _=>by kernel_rfl
def afl (n:Nat):Sig xx:=⟨[.d (.sl ak),.d (.sl ak)],[.d .bool],fun a=>Iz n a.1 a.2.1,none⟩
theorem Oy (n:Nat):aH 47 (afl n) :=cq (au (ku n) (au (YB n) aB)) Tryz.func47 .z n (by kernel_rfl) rfl fun _=>by kernel_rfl
def acW (n:Nat):Sig xx:=⟨[.d (.sl ay)],[.d .bool],fun a=>nG n a.1,none⟩
def acX:Hn SI:=(.s .z (.s .z (.s .z (.s (.s .z (.b (.lx ⟨[(19,(.v ah))],[(1256,.m ah .bool),(1320,.m ah .bool)],[0,3,4,17,18],[],1704,[]⟩ 0 ⟨[],[(1256,.m ah .bool),(1320,.m ah .bool)],[0,3,4],[],1704,[]⟩ (.s .z (.s .z (.s (.b (.s .z (.s (.s (.j ⟨[(41,(.v .bool))],[],[0,3,4,6,17,18,19],[1256,1320,1960],2152,[]⟩ .z) .z) (.s .z (.s .z (.b (.l ⟨[(48,(.v ah))],[(1320,.m ah .bool)],[0,3,4,17,18,19,46,47],[1256],2664,[]⟩ 2 ⟨[],[(1320,.m ah .bool)],[0,3,4,17,18,19],[1256],2664,[]⟩ .z))))))) .z)))))) (.s (.rg ⟨[],[],[0,3,57],[1256],1704,[]⟩ .z) (.s (.s .z (.b (.lx ⟨[(67,(.v ah))],[],[0,66],[],1896,[]⟩ 6 ⟨[],[],[],[],1896,[]⟩ (.s .z (.s .z (.s (.b (.s .z (.s .z (.b (.lx ⟨[(71,(.v ah))],[],[0,10,66,67,70],[],2216,[]⟩ 8 ⟨[],[],[0,66,67],[],2216,[]⟩ .z))))) .z)))))) .z))))))
theorem zO (n:Nat):aH 15 (acW n) :=cq (au (Uk n) (au (Oy n) aB)) Tryz.func15 acX n (by kernel_rfl) rfl fun _=>by kernel_rfl
def Ul (n:Nat):Sig xx:=⟨[.d (.sl ah),.d ah],[.d ah],fun a=>EB n a.1 a.2.1,none⟩
def Um:Hn SI:=(.s .z (.s (.s .z (.b (.lx ⟨[(8,(.v ah))],[],[0,1,7],[],1256,[]⟩ 0 ⟨[],[],[],[],1256,[]⟩ .z))) .z))
theorem Un (n:Nat):aH 156 (Ul n) :=cq aB Tryz.func156 Um n (by kernel_rfl) rfl fun _=>by kernel_rfl
def MS (n:Nat):Sig xx:=⟨[.d (.sl ah),.d ah],[.d .bool],fun a=>kE n a.1 a.2.1,none⟩
theorem Bw (n:Nat):aH 111 (MS n) :=cq (au (Un n) aB) Tryz.func111 .z n (by kernel_rfl) rfl fun _=>by kernel_rfl
def Vs (n:Nat):Sig xx:=⟨[.d ay,.ref ah],[.d .bool],fun a=>uO n a.1 a.2.1,none⟩
theorem Vt (n:Nat):aH 110 (Vs n) :=cq (au (Bw n) aB) Tryz.func110 .z n (by kernel_rfl) rfl fun _=>by kernel_rfl
def KF (n:Nat):Sig xx:=⟨[.d (.sl ay),.clo [ay] .bool],[.d ah],fun a=>l9 n a.1 a.2.1,none⟩
def KG:Hn SI:=(.s .z (.s (.s .z (.b (.lx ⟨[(8,(.v ah))],[],[0,1,7],[],1256,[]⟩ 0 ⟨[],[],[],[],1256,[]⟩ .z))) .z))
theorem KH (n:Nat):aH 118 (KF n) :=cq aB Tryz.func118 KG n (by kernel_rfl) rfl fun _=>by kernel_rfl
def F7 (n:Nat):Sig xx:=⟨[.d (.sl ay),.clo [ay] .bool],[.d .bool],fun a=>eG n a.1 a.2.1,none⟩
theorem qY (n:Nat):aH 66 (F7 n) :=cq (au (KH n) aB) Tryz.func66 .z n (by kernel_rfl) rfl fun _=>by kernel_rfl
def acY (n:Nat):Sig xx:=⟨[.d (.sl ay),.d ah],[.d .bool],fun a=>y5 n a.1 a.2.1,none⟩
theorem KI (n:Nat):aH 57 (acY n) :=cq (au (qY n) (au (Vt n) aB)) Tryz.func57 .z n (by kernel_rfl) rfl fun _=>by kernel_rfl
def aaV (n:Nat):Sig xx:=⟨[.d ay,.ref ay],[.d .bool],fun a=>IA n a.1 a.2.1,none⟩
theorem aaW (n:Nat):aH 93 (aaV n) :=cq (au (Oy n) aB) Tryz.func93 .z n (by kernel_rfl) rfl fun _=>by kernel_rfl
def Uo:Sig xx:=⟨[.d (.sl ah)],[.fresh ah],fun a=>EC a.1,none⟩
theorem Uq:aH 95 Uo :=cq aB Tryz.func95 .z 0 (by kernel_rfl) rfl fun _=>by kernel_rfl
def acZ:Sig xx:=⟨[.d ay],[.d ay],fun a=>uP a.1,none⟩
theorem Ur:aH 41 acZ :=cq (au FX (au Uq aB)) Tryz.func41 .z 0 (by kernel_rfl) rfl fun _=>by kernel_rfl
def vK (n:Nat):Sig xx:=⟨[.mut ay,.d ah,.d ah,.clo [ay,ay] ah],[.mu ay],fun a=>xE n a.1 a.2.1 a.2.2.1 a.2.2.2.1,none⟩
def vL:Hn SI:=(.s .z (.b (.l ⟨[(8,(.v ah))],[(0,.l ay)],[0,1,2,3],[],1192,[]⟩ 0 ⟨[],[(0,.l ay)],[],[],1192,[]⟩ (.s .z (.s (.b (.s .z (.b (.l ⟨[(9,(.v ah))],[(0,.l ay)],[0,1,2,3,8],[],1512,[]⟩ 2 ⟨[],[(0,.l ay)],[0,1,2,3,8],[],1512,[]⟩ (.s (.s (.j ⟨[(34,(.v .bool))],[],[0,1,2,3,8,9],[0],1512,[]⟩ .z) .z) .z))))) .z)))))
theorem vM (n:Nat):aH 178 (vK n) :=cq aB Tryz.func178 vL n (by kernel_rfl) rfl fun _=>by kernel_rfl
def Ch (n:Nat):Sig xx:=⟨[.mut ay,.d ah,.d ah,.d ah,.clo [ay,ay] ah],[.mu ay],fun a=>ED n a.1 a.2.1 a.2.2.1 a.2.2.2.1 a.2.2.2.2.1,none⟩
def Ci:Hn SI:=(.s .z (.b (.lx ⟨[(10,(.v ah))],[(0,.l ay)],[0,2,3,4],[],1128,[]⟩ 0 ⟨[],[(0,.l ay)],[],[],1128,[]⟩ (.b (.s .z (.s .z (.s (.j ⟨[(11,(.v ah))],[],[0,2,3,4,10],[0],1576,[]⟩ (.s (.j ⟨[(40,(.v .bool))],[],[0,2,3,4,10,11],[0],1576,[]⟩ .z) .z)) .z)))))))
theorem Cj (n:Nat):aH 198 (Ch n) :=cq aB Tryz.func198 Ci n (by kernel_rfl) rfl fun _=>by kernel_rfl
def Ck (n:Nat):Sig xx:=⟨[.mut ay,.d ah,.d ah,.clo [ay,ay] ah],[.mu ay],fun a=>EF n a.1 a.2.1 a.2.2.1 a.2.2.2.1,none⟩
def Cm:Hn SI:=(.s .z (.s .z (.s .z (.s (.s .z (.b (.l ⟨[(11,(.v ah))],[(0,.l ay)],[0,3,8,9,10],[],1704,[]⟩ 0 ⟨[],[(0,.l ay)],[0,3,8,9,10],[],1704,[]⟩ .z))) (.s .z (.b (.l ⟨[(12,(.v ah))],[(0,.l ay)],[0,3,8,9],[],1896,[]⟩ 2 ⟨[],[(0,.l ay)],[],[],1896,[]⟩ .z)))))))
theorem Cn (n:Nat):aH 179 (Ck n) :=cq (au (Cj n) aB) Tryz.func179 Cm n (by kernel_rfl) rfl fun _=>by kernel_rfl
def vO (n:Nat):Sig xx:=⟨[.mut ay,.d ah,.d ah,.clo [ay,ay] ah],[.mu ay],fun a=>xG n a.1 a.2.1 a.2.2.1 a.2.2.2.1,none⟩
def vP:Hn SI:=(.s .z (.s .z (.s (.s .z (.s .z (.s .z (.b (.l ⟨[(11,(.v ah))],[(0,.l ay),(1512,.c 1 [[(.v (.int .u64))]])],[0,1,8,9,10],[],2280,[]⟩ 0 ⟨[],[(0,.l ay)],[],[],2280,[]⟩ (.s .z (.s (.b (.s .z (.s (.j ⟨[(12,(.v ah))],[],[0,1,8,9,10,11],[0,1512],3176,[]⟩ .z) .z))) .z))))))) .z)))
theorem vQ (n:Nat):aH 180 (vO n) :=cq (au jB (au kr aB)) Tryz.func180 vP n (by kernel_rfl) rfl fun _=>by kernel_rfl
def Fs:Sig xx:=⟨[.d (.sl ay),.d ah,.d ah,.mref ah,.clo [ay,ay] ah],[.d ah,.d ah,.mr ah],fun a=>G7 a.1 a.2.1 a.2.2.1 a.2.2.2.1 a.2.2.2.2.1,none⟩
theorem Fu:aH 212 Fs :=cq aB Tryz.func212 .z 0 (by kernel_rfl) rfl fun _=>by kernel_rfl
def Fv:Sig xx:=⟨[.d (.sl ay),.d ah,.d ah,.d ah,.mref ah,.clo [ay,ay] ah],[.d ah,.mr ah],fun a=>G8 a.1 a.2.1 a.2.2.1 a.2.2.2.1 a.2.2.2.2.1 a.2.2.2.2.2.1,none⟩
theorem qH:aH 200 Fv :=cq (au Fu aB) Tryz.func200 .z 0 (by kernel_rfl) rfl fun _=>by kernel_rfl
def sJ:Sig xx:=⟨[.d (.sl ay),.d ah,.mref ah,.clo [ay,ay] ah],[.d ah,.mr ah],fun a=>wC a.1 a.2.1 a.2.2.1 a.2.2.2.1,none⟩
theorem sK:aH 199 sJ :=cq (au qH aB) Tryz.func199 .z 0 (by kernel_rfl) rfl fun _=>by kernel_rfl
def yc:Sig xx:=⟨[.d (.sl ay),.d ah,.d ah,.clo [ay,ay] ah],[.d ah,.d ah],fun a=>zY a.1 a.2.1 a.2.2.1 a.2.2.2.1,none⟩
def yg:Hn SI:=(.s .z (.s .z (.s .z (.s .z (.s .z (.s .z (.s (.j ⟨[(13,(.v ah))],[(1384,.c 1 [[(.v ah)]])],[11],[],2600,[]⟩ (.s .z (.s (.s (.j ⟨[(12,(.v ah)),(13,(.v ah)),(14,(.v ah))],[(1384,.c 1 [[(.v ah)]])],[0,3,11],[],2728,[]⟩ .z) .z) .z))) .z)))))))
theorem yh:aH 181 yc :=cq (au sK (au qH aB)) Tryz.func181 yg 0 (by kernel_rfl) rfl fun _=>by kernel_rfl
def wP (n:Nat):Sig xx:=⟨[.mut ay,.d ah,.d ah,.clo [ay,ay] ah],[.mu ay],fun a=>y7 n a.1 a.2.1 a.2.2.1 a.2.2.2.1,none⟩
def wQ:Hn SI:=(.s .z (.s .z (.b (.l ⟨[(8,(.v ah)),(9,(.v ah))],[(0,.l ay)],[0],[],1320,[]⟩ 0 ⟨[],[(0,.l ay)],[],[],1320,[]⟩ .z))))
theorem wR (n:Nat):aH 182 (wP n) :=cq aB Tryz.func182 wQ n (by kernel_rfl) rfl fun _=>by kernel_rfl
def mY (n:Nat):Sig xx:=⟨[.mut ay,.d ah,.d ah,.clo [ay,ay] ah],[.d .bool,.mu ay],fun a=>oz n a.1 a.2.1 a.2.2.1 a.2.2.2.1,none⟩
def mZ:Hn SI:=(.s .z (.s .z (.s (.s .z (.b (.lx ⟨[(9,(.v ah)),(10,(.v ah))],[(0,.l ay)],[0,1,2,3],[],1320,[]⟩ 0 ⟨[],[(0,.l ay)],[],[],1320,[]⟩ (.s .z (.s (.jx ⟨[(9,(.v ah))],[(0,.l ay)],[0,1,2,3,10],[],1448,[]⟩ (.b (.s (.b (.l ⟨[(9,(.v ah))],[],[0,1,2,3,10],[0],1448,[]⟩ 2 ⟨[(9,(.v ah))],[],[0,1,2,3,10],[0],1448,[]⟩ (.s (.s (.j ⟨[(36,(.v .bool))],[],[0,1,2,3,9,10],[0],1448,[]⟩ .z) .z) .z))) (.s .z (.s .z (.s .z (.s (.j ⟨[],[(0,.l ay)],[0,1,2,3,9,10],[],3048,[]⟩ (.s .z (.s (.s .z (.b (.l ⟨[(11,(.v ah))],[(0,.l ay)],[0,1,2,3,9,10],[],3496,[]⟩ 4 ⟨[],[(0,.l ay)],[0,1,2,3,9,10],[],3496,[]⟩ .z))) .z))) (.s .z (.s (.s .z (.b (.l ⟨[(12,(.v ah))],[(0,.l ay)],[0,1,2,3,9,10],[],3496,[]⟩ 6 ⟨[],[(0,.l ay)],[0,1,2,3,9,10],[],3496,[]⟩ .z))) .z))))))))) .z))))) .z)))
theorem ng (n:Nat):aH 183 (mY n) :=cq aB Tryz.func183 mZ n (by kernel_rfl) rfl fun _=>by kernel_rfl
def sM (n:Nat):Sig xx:=⟨[.mut ay,.d ah,.d ah,.d ah,.clo [ay,ay] ah],[.d ah,.mu ay],fun a=>wD n a.1 a.2.1 a.2.2.1 a.2.2.2.1 a.2.2.2.2.1,none⟩
def sN:Hn SI:=(.s .z (.s .z (.s .z (.s (.b (.l ⟨[(11,(.v ah)),(12,(.v ah))],[(0,.l ay)],[0,1,4],[],2472,[]⟩ 0 ⟨[(11,(.v ah))],[(0,.l ay)],[],[],2472,[]⟩ (.b (.s (.b (.l ⟨[(11,(.v ah))],[],[0,1,4,12],[0],2472,[]⟩ 2 ⟨[(11,(.v ah))],[],[0,1,4,12],[0],2472,[]⟩ (.s (.s (.j ⟨[(47,(.v .bool))],[],[0,1,4,11,12],[0],2472,[]⟩ .z) .z) .z))) (.s (.b (.l ⟨[(12,(.v ah))],[],[0,1,4,11],[0],2472,[]⟩ 4 ⟨[(12,(.v ah))],[],[0,1,4,11],[0],2472,[]⟩ (.s (.s (.j ⟨[(65,(.v .bool))],[],[0,1,4,11,12],[0],2472,[]⟩ .z) .z) .z))) .z))))) .z))))
theorem sP (n:Nat):aH 184 (sM n) :=cq aB Tryz.func184 sN n (by kernel_rfl) rfl fun _=>by kernel_rfl
def Ai (n:Nat):Sig xx:=⟨[.mut ay,.d ah,.d ah,.d ah,.clo [ay,ay] ah],[.d ah,.d .bool,.mu ay],fun a=>Db n a.1 a.2.1 a.2.2.1 a.2.2.2.1 a.2.2.2.2.1,none⟩
def Aj:Hn SI:=(.s .z (.s .z (.s .z (.s (.b (.l ⟨[(12,(.v ah))],[],[0,1,4,13],[0],2536,[]⟩ 0 ⟨[(12,(.v ah))],[],[0,1,4,13],[0],2536,[]⟩ (.s (.s (.j ⟨[(47,(.v .bool))],[],[0,1,4,12,13],[0],2536,[]⟩ .z) .z) .z))) (.s (.b (.l ⟨[(13,(.v ah))],[],[0,1,4,12],[0],2536,[]⟩ 2 ⟨[(13,(.v ah))],[],[0,1,4,12],[0],2536,[]⟩ (.s (.s (.j ⟨[(66,(.v .bool))],[],[0,1,4,12,13],[0],2536,[]⟩ .z) .z) .z))) (.s .z (.s .z (.s .z (.s .z (.s (.b (.l ⟨[(12,(.v ah)),(13,(.v ah))],[(0,.l ay)],[0,1,4],[],4136,[]⟩ 4 ⟨[(13,(.v ah))],[(0,.l ay)],[0,1],[],4136,[]⟩ (.b (.s (.b (.l ⟨[(12,(.v ah))],[],[0,1,4,13],[0],4136,[]⟩ 6 ⟨[(12,(.v ah))],[],[0,1,4,13],[0],4136,[]⟩ (.s (.s (.j ⟨[(120,(.v .bool))],[],[0,1,4,12,13],[0],4136,[]⟩ .z) .z) .z))) (.s (.b (.l ⟨[(13,(.v ah))],[],[0,1,4,12],[0],4136,[]⟩ 8 ⟨[(13,(.v ah))],[],[0,1,4,12],[0],4136,[]⟩ (.s (.s (.j ⟨[(139,(.v .bool))],[],[0,1,4,12,13],[0],4136,[]⟩ .z) .z) .z))) .z))))) .z))))))))))
theorem Ak (n:Nat):aH 185 (Ai n) :=cq aB Tryz.func185 Aj n (by kernel_rfl) rfl fun _=>by kernel_rfl
def DX:Hn SI:=(.s .z (.s .z (.b (.lx ⟨[(1,(.v ah)),(2,(.v ah)),(3,(.v ah)),(10,(.v .bool)),(11,(.v .bool))],[(0,.l ay)],[0,4],[],1128,[]⟩ 999999 ⟨[],[],[],[],1128,[]⟩ (.b (.s .z (.s .z (.s .z (.s (.j ⟨[(3,(.v ah))],[(0,.l ay)],[0,1,2,4,10,11,12],[],1640,[]⟩ .z) (.s .z (.s (.j ⟨[(13,(.v ah)),(14,(.v ah))],[(0,.l ay)],[0,1,2,3,4,10,11,12],[],2280,[]⟩ .z) (.s (.jx ⟨[],[(0,.l ay)],[0,1,2,3,4,10,11,12,13],[],2280,[]⟩ (.s (.j ⟨[(75,(.v .bool))],[],[0,1,2,3,4,10,11,12,13],[0],2280,[]⟩ .z) .z)) (.s (.s (.j ⟨[(97,(.v .bool))],[],[0,1,2,3,4,10,11,12,13],[0],2280,[]⟩ .z) .z) .z)))))))))))))
theorem Co (n:Nat) (rc:((List ax))->(Int)->(Int)->(Int)->((ax×ax×Unit)->Option Int)->Option (List ax)) (hr:aH 157 (jo rc)):aH 157 (jo (fZ n rc)) :=cq (au (vM n) (au (Cn n) (au (vQ n) (au yh (au (wR n) (au (ng n) (au (sP n) (au (Ak n) (au hr aB))))))))) Tryz.func157 DX n (by kernel_rfl) rfl fun _=>by kernel_rfl
theorem nS (n:Nat):∀ m,aH 157 (jo (cB n m))
 | 0=>cok (jO Tryz.func157 (by kernel_rfl:Tryz.f157.body=some (Tryz.f157.body.getD .skip)) (by kernel_rfl)) (fun _ _ h=>(by cases h)) rfl
 |m+1=>Co n _ (nS n m)
def DY (n:Nat):Sig xx:=⟨[.mut ay,.d ah,.d ah,.d ah,.clo [ay,ay] ah],[.mu ay],fun a=>kX n a.1 a.2.1 a.2.2.1 a.2.2.2.1 a.2.2.2.2.1,none⟩
theorem DZ (n:Nat):aH 157 (DY n):=nS n n
def MU (n:Nat):Sig xx:=⟨[.mut ay,.clo [ay,ay] ah],[.mu ay],fun a=>nW n a.1 a.2.1,none⟩
theorem MV (n:Nat):aH 113 (MU n) :=cq (au zK (au (DZ n) aB)) Tryz.func113 .z n (by kernel_rfl) rfl fun _=>by kernel_rfl
def Qs:Sig xx:=⟨[.d ay,.d ay],[.d ah],fun a=>tQ a.1 a.2.1,none⟩
theorem Qt:aH 114 Qs :=cq (au qG aB) Tryz.func114 .z 0 (by kernel_rfl) rfl fun _=>by kernel_rfl
def YC (n:Nat):Sig xx:=⟨[.d (.sl ay),.d (.sl ah),.d (.sl ay)],[.fresh ay,.d ah],fun a=>oC n a.1 a.2.1 a.2.2.1,none⟩
def YD:Hn SI:=(.s .z (.s .z (.s (.s .z (.b (.l ⟨[(8,(.o 1384)),(15,(.v ah))],[(1384,.l ay)],[1,2,13,14],[],1385,[(8,ay)]⟩ 0 ⟨[(8,(.o 1384))],[(1384,.l ay)],[2],[],1385,[]⟩ (.s .z (.s .z (.s (.j ⟨[(8,(.o 1449))],[(1449,.l ay)],[1,2,13,14,15],[],1450,[]⟩ .z) .z)))))) (.s (.s .z (.b (.l ⟨[(8,(.o 1577)),(32,(.v ah))],[(1577,.l ay)],[30,31],[],1578,[]⟩ 2 ⟨[(8,(.o 1577))],[(1577,.l ay)],[],[],1578,[]⟩ .z))) .z))))
theorem yj (n:Nat):aH 61 (YC n) :=cq (au (Bw n) (au Ur (au (MV n) (au Qt aB)))) Tryz.func61 YD n (by kernel_rfl) rfl fun _=>by kernel_rfl
def ahg (n:Nat):Sig xx:=⟨[.d (.sl ay),.d ay],[.fresh ay,.d ah],fun a=>NH n a.1 a.2.1,none⟩
def ahh:Hn SI:=(.s .z (.s (.b (.s (.j ⟨[(6,(.v .bool))],[],[0,3],[1000],1192,[]⟩ .z) .z)) .z))
theorem aaX (n:Nat):aH 39 (ahg n) :=cq (au (zO n) (au (Uk n) (au (KI n) (au (qY n) (au (aaW n) (au (yj n) aB)))))) Tryz.func39 ahh n (by kernel_rfl) rfl fun _=>by kernel_rfl
def afm (n:Nat):Sig xx:=⟨[.d (.sl ay),.d ah],[.d ay,.d .bool],fun a=>AY n a.1 a.2.1,none⟩
def afn:Hn SI:=(.s .z (.s (.s .z (.b (.lx ⟨[(10,(.v ah))],[],[1,4,8,9],[1000],1320,[]⟩ 0 ⟨[],[],[4],[1000],1320,[]⟩ .z))) .z))
theorem D5 (n:Nat):aH 11 (afm n) :=cq (au Ur aB) Tryz.func11 afn n (by kernel_rfl) rfl fun _=>by kernel_rfl
def qN (n:Nat):Sig xx:=⟨[.d (.sl (.st SI.strip)),.d ah,.clo [(.st SI.strip),ah] ah],[.d ah,.d .bool],fun a=>fQ n a.1 a.2.1 a.2.2.1,none⟩
def qO:Hn SI:=(.s .z (.s .z (.s .z (.s (.b (.l ⟨[(9,(.v ah)),(10,(.v ah))],[],[0,1,2,8],[],1512,[]⟩ 0 ⟨[(9,(.v ah))],[],[0,1,2,8],[],1512,[]⟩ .z)) .z))))
theorem qP (n:Nat):aH 151 (qN n) :=cq aB Tryz.func151 qO n (by kernel_rfl) rfl fun _=>by kernel_rfl
def ac0:Sig xx:=⟨[.d (.st SI.strip),.d ah],[.d ah],fun a=>uQ a.1 a.2.1,none⟩
theorem ac1:aH 152 ac0 :=cq aB Tryz.func152 .z 0 (by kernel_rfl) rfl fun _=>by kernel_rfl
def aia (n:Nat):Sig xx:=⟨[.d (.sl (.st SI.strip)),.d ah],[.d (.sl (.st SI.span))],fun a=>Te n a.1 a.2.1,none⟩
def aib:Hn SI:=(.s .z (.s .z (.s (.s (.j ⟨[(25,(.v .bool))],[],[0,5],[],1576,[]⟩ .z) .z) .z)))
theorem aic (n:Nat):aH 106 (aia n) :=cq (au (qP n) (au ac1 aB)) Tryz.func106 aib n (by kernel_rfl) rfl fun _=>by kernel_rfl
def Us:Sig xx:=⟨[.nil,.d ah],[.fresh (.st SI.span)],fun a=>L9 a.1 a.2.1,none⟩
theorem Ut:aH 174 Us :=cq aB Tryz.func174 .z 0 (by kernel_rfl) rfl fun _=>by kernel_rfl
def Oz (n:Nat):Sig xx:=⟨[.d (.sl (.sl (.st SI.span)))],[.fresh (.st SI.span)],fun a=>y8 n a.1,none⟩
def OA:Hn SI:=(.s .z (.s .z (.s (.s .z (.b (.l ⟨[(3,(.v ah)),(11,(.v ah))],[],[0,9,10],[],1320,[]⟩ 0 ⟨[(3,(.v ah))],[],[0],[],1320,[]⟩ .z))) (.s .z (.s (.s .z (.b (.l ⟨[(6,(.o 1704)),(27,(.v ah))],[(1704,.l (.st SI.span))],[25,26],[],1705,[]⟩ 2 ⟨[(6,(.o 1704))],[(1704,.l (.st SI.span))],[],[],1705,[]⟩ .z))) .z)))))
theorem OC (n:Nat):aH 149 (Oz n) :=cq (au Ut aB) Tryz.func149 OA n (by kernel_rfl) rfl fun _=>by kernel_rfl
def sQ (n:Nat):Sig xx:=⟨[.d (.sl (.st SI.span)),.d ah,.clo [(.st SI.span),ah] ah],[.d ah,.d .bool],fun a=>gy n a.1 a.2.1 a.2.2.1,none⟩
def sS:Hn SI:=(.s .z (.s .z (.s .z (.s (.b (.l ⟨[(9,(.v ah)),(10,(.v ah))],[],[0,1,2,8],[],1512,[]⟩ 0 ⟨[(9,(.v ah))],[],[0,1,2,8],[],1512,[]⟩ .z)) .z))))
theorem sU (n:Nat):aH 175 (sQ n) :=cq aB Tryz.func175 sS n (by kernel_rfl) rfl fun _=>by kernel_rfl
def Uu:Sig xx:=⟨[.d (.st SI.span),.d ah],[.d ah],fun a=>iX a.1 a.2.1,none⟩
theorem Uv:aH 176 Uu :=cq aB Tryz.func176 .z 0 (by kernel_rfl) rfl fun _=>by kernel_rfl
def aaY (n:Nat):Sig xx:=⟨[.d (.sl (.st SI.span)),.d ah],[.d .bool],fun a=>Dc n a.1 a.2.1,none⟩
theorem aaZ (n:Nat):aH 150 (aaY n) :=cq (au (sU n) (au Uv aB)) Tryz.func150 .z n (by kernel_rfl) rfl fun _=>by kernel_rfl
def ac2 (n:Nat):Sig xx:=⟨[.d (.sl (.st SI.span)),.d (.sl (.st SI.span)),.clo [.bool,.bool] .bool],[.fresh (.st SI.span)],fun a=>G9 n a.1 a.2.1 a.2.2.1,none⟩
def ac3:Hn SI:=(.s .z (.s .z (.s (.s .z (.b (.l ⟨[(7,(.o 1512)),(19,(.v ah))],[(1512,.l ah)],[0,1,2,17,18],[1320],1513,[(7,ah)]⟩ 0 ⟨[(7,(.o 1512))],[(1512,.l ah)],[0,1,2],[],1513,[]⟩ .z))) (.s .z (.s .z (.s .z (.s (.s .z (.b (.l ⟨[(10,(.o 1961)),(11,(.v ah))],[(1961,.l (.st SI.span))],[0,1,2,7],[1512],1962,[(10,(.st SI.span))]⟩ 2 ⟨[(10,(.o 1961))],[(1961,.l (.st SI.span))],[],[],1962,[]⟩ (.s .z (.s (.j ⟨[(10,(.o 2218))],[(2218,.l (.st SI.span))],[0,1,2,7,11],[1512],2219,[]⟩ (.b (.s .z (.s .z (.s .z (.s (.j ⟨[(68,(.v .bool))],[],[0,1,2,7,10,11,12,13],[1512,1961],3370,[]⟩ .z) .z)))))) .z))))) .z)))))))
theorem ac4 (n:Nat):aH 105 (ac2 n) :=cq (au (OC n) (au (jr n) (au (gZ n) (au (aaZ n) aB)))) Tryz.func105 ac3 n (by kernel_rfl) rfl fun _=>by kernel_rfl
def YE (n:Nat):Sig xx:=⟨[.d (.sl ak),.d (.sl ak),.clo [.bool,.bool] .bool],[.d (.sl ak),.d ah],fun a=>y9 n a.1 a.2.1 a.2.2.1,none⟩
def YF:Hn SI:=(.s .z (.s (.s (.j ⟨[(20,(.v .bool))],[],[0,1,2],[],1128,[]⟩ .z) .z) (.s (.f [6,7]) (.s .z (.s (.s .z (.b (.l ⟨[(33,(.v ah))],[(1832,.l (.st SI.strip))],[2,8,9,10,31,32],[],2152,[]⟩ 0 ⟨[],[(1832,.l (.st SI.strip))],[10],[],2152,[]⟩ .z))) .z)))))
theorem MW (n:Nat):aH 50 (YE n) :=cq (au (oH n) (au (Ia n) (au (aic n) (au (ac4 n) (au (KE n) (au MR aB)))))) Tryz.func50 YF n (by kernel_rfl) rfl fun _=>by kernel_rfl
def Uw:Sig xx:=⟨[.d .bool,.d .bool],[.d .bool],fun a=>xH a.1 a.2.1,none⟩
theorem Ux:aH 51 Uw :=cq aB Tryz.func51 .z 0 (by kernel_rfl) rfl fun _=>by kernel_rfl
def aa0 (n:Nat):Sig xx:=⟨[.d (.sl ak),.d (.sl ak)],[.d (.sl ak),.d ah],fun a=>IB n a.1 a.2.1,none⟩
theorem aa1 (n:Nat):aH 19 (aa0 n) :=cq (au (MW n) (au Ux aB)) Tryz.func19 .z n (by kernel_rfl) rfl fun _=>by kernel_rfl
def Vu:Sig xx:=⟨[.d .bool,.d .bool],[.d .bool],fun a=>AZ a.1 a.2.1,none⟩
theorem Vv:aH 112 Vu :=cq aB Tryz.func112 .z 0 (by kernel_rfl) rfl fun _=>by kernel_rfl
def ac5 (n:Nat):Sig xx:=⟨[.d (.sl ak),.d (.sl ak)],[.d (.sl ak),.d ah],fun a=>Md n a.1 a.2.1,none⟩
theorem ac6 (n:Nat):aH 58 (ac5 n) :=cq (au (MW n) (au Vv aB)) Tryz.func58 .z n (by kernel_rfl) rfl fun _=>by kernel_rfl
def Uy (n:Nat):Sig xx:=⟨[.d (.sl ak)],[.d .bool],fun a=>mh n a.1,none⟩
theorem Ib (n:Nat):aH 59 (Uy n) :=cq (au (Uj n) aB) Tryz.func59 .z n (by kernel_rfl) rfl fun _=>by kernel_rfl
def afo (n:Nat):Sig xx:=⟨[.d (.sl ay)],[.fresh ah],fun a=>IC n a.1,none⟩
def afp:Hn SI:=(.s .z (.s .z (.s (.s .z (.b (.l ⟨[(3,(.o 1320)),(8,(.v ah))],[(1320,.l ah)],[6,7],[],1321,[(3,ah)]⟩ 0 ⟨[(3,(.o 1320))],[(1320,.l ah)],[],[],1321,[]⟩ .z))) .z)))
theorem Xe (n:Nat):aH 60 (afo n) :=cq (au (jr n) (au (gZ n) aB)) Tryz.func60 afp n (by kernel_rfl) rfl fun _=>by kernel_rfl
def ac7 (n:Nat):Sig xx:=⟨[.d (.sl ay),.d ah,.d (.sl ak),.d ah,.d ah],[.fresh ay,.d ah],fun a=>Df n a.1 a.2.1 a.2.2.1 a.2.2.2.1 a.2.2.2.2.1,none⟩
def ac8:Hn SI:=(.s .z (.s (.s (.j ⟨[(41,(.v .bool))],[],[0,1,2,3,4],[],1128,[]⟩ .z) .z) (.s .z (.s .z (.s (.s (.j ⟨[(57,(.v .bool))],[],[0,1,2,3,4,12],[1512],1832,[]⟩ .z) .z) (.s .z (.s .z (.s (.b (.s (.j ⟨[(72,(.v .bool))],[],[0,1,3,4,12,14,15,16,17],[1512],2984,[]⟩ (.s (.j ⟨[(72,(.v .bool))],[],[0,1,3,4,12,14,15,16,17],[1512],2984,[]⟩ .z) .z)) (.s .z (.s (.j ⟨[(87,(.v .bool))],[],[0,1,3,4,12,14,16],[1512],2984,[]⟩ .z) (.s .z (.s (.j ⟨[(99,(.v .bool))],[],[0,1,3,4,12,14,16],[1512],2984,[]⟩ .z) .z)))))) .z))))))))
theorem Uz (n:Nat):aH 22 (ac7 n) :=cq (au (zO n) (au (oH n) (au Bv (au (D5 n) (au (KI n) (au (aa1 n) (au (ac6 n) (au (Ib n) (au (Xe n) (au (yj n) aB)))))))))) Tryz.func22 ac8 n (by kernel_rfl) rfl fun _=>by kernel_rfl
def sV (n:Nat):Sig xx:=⟨[.mut ak,.d ah,.d ah,.clo [ak,ak] ah],[.mu ak],fun a=>wE n a.1 a.2.1 a.2.2.1 a.2.2.2.1,none⟩
def sW:Hn SI:=(.s .z (.b (.l ⟨[(8,(.v ah))],[(0,.l ak)],[0,1,2,3],[],1192,[]⟩ 0 ⟨[],[(0,.l ak)],[],[],1192,[]⟩ (.s .z (.s (.b (.s .z (.b (.l ⟨[(9,(.v ah))],[(0,.l ak)],[0,1,2,3,8],[],1512,[]⟩ 2 ⟨[],[(0,.l ak)],[0,1,2,3,8],[],1512,[]⟩ (.s (.s (.j ⟨[(34,(.v .bool))],[],[0,1,2,3,8,9],[0],1512,[]⟩ .z) .z) .z))))) .z)))))
theorem sZ (n:Nat):aH 201 (sV n) :=cq aB Tryz.func201 sW n (by kernel_rfl) rfl fun _=>by kernel_rfl
def Al (n:Nat):Sig xx:=⟨[.mut ak,.d ah,.d ah,.d ah,.clo [ak,ak] ah],[.mu ak],fun a=>Dg n a.1 a.2.1 a.2.2.1 a.2.2.2.1 a.2.2.2.2.1,none⟩
def Am:Hn SI:=(.s .z (.b (.lx ⟨[(10,(.v ah))],[(0,.l ak)],[0,2,3,4],[],1128,[]⟩ 0 ⟨[],[(0,.l ak)],[],[],1128,[]⟩ (.b (.s .z (.s .z (.s (.j ⟨[(11,(.v ah))],[],[0,2,3,4,10],[0],1576,[]⟩ (.s (.j ⟨[(40,(.v .bool))],[],[0,2,3,4,10,11],[0],1576,[]⟩ .z) .z)) .z)))))))
theorem Ao (n:Nat):aH 213 (Al n) :=cq aB Tryz.func213 Am n (by kernel_rfl) rfl fun _=>by kernel_rfl
def Ap (n:Nat):Sig xx:=⟨[.mut ak,.d ah,.d ah,.clo [ak,ak] ah],[.mu ak],fun a=>Dh n a.1 a.2.1 a.2.2.1 a.2.2.2.1,none⟩
def Aq:Hn SI:=(.s .z (.s .z (.s .z (.s (.s .z (.b (.l ⟨[(11,(.v ah))],[(0,.l ak)],[0,3,8,9,10],[],1704,[]⟩ 0 ⟨[],[(0,.l ak)],[0,3,8,9,10],[],1704,[]⟩ .z))) (.s .z (.b (.l ⟨[(12,(.v ah))],[(0,.l ak)],[0,3,8,9],[],1896,[]⟩ 2 ⟨[],[(0,.l ak)],[],[],1896,[]⟩ .z)))))))
theorem Ar (n:Nat):aH 202 (Ap n) :=cq (au (Ao n) aB) Tryz.func202 Aq n (by kernel_rfl) rfl fun _=>by kernel_rfl
def tq (n:Nat):Sig xx:=⟨[.mut ak,.d ah,.d ah,.clo [ak,ak] ah],[.mu ak],fun a=>wF n a.1 a.2.1 a.2.2.1 a.2.2.2.1,none⟩
def tu:Hn SI:=(.s .z (.s .z (.s (.s .z (.s .z (.s .z (.b (.l ⟨[(11,(.v ah))],[(0,.l ak),(1512,.c 1 [[(.v (.int .u64))]])],[0,1,8,9,10],[],2280,[]⟩ 0 ⟨[],[(0,.l ak)],[],[],2280,[]⟩ (.s .z (.s (.b (.s .z (.s (.j ⟨[(12,(.v ah))],[],[0,1,8,9,10,11],[0,1512],3176,[]⟩ .z) .z))) .z))))))) .z)))
theorem tC (n:Nat):aH 203 (tq n) :=cq (au jB (au kr aB)) Tryz.func203 tu n (by kernel_rfl) rfl fun _=>by kernel_rfl
def D6:Sig xx:=⟨[.d (.sl ak),.d ah,.d ah,.mref ah,.clo [ak,ak] ah],[.d ah,.d ah,.mr ah],fun a=>F3 a.1 a.2.1 a.2.2.1 a.2.2.2.1 a.2.2.2.2.1,none⟩
theorem D7:aH 217 D6 :=cq aB Tryz.func217 .z 0 (by kernel_rfl) rfl fun _=>by kernel_rfl
def D8:Sig xx:=⟨[.d (.sl ak),.d ah,.d ah,.d ah,.mref ah,.clo [ak,ak] ah],[.d ah,.mr ah],fun a=>F4 a.1 a.2.1 a.2.2.1 a.2.2.2.1 a.2.2.2.2.1 a.2.2.2.2.2.1,none⟩
theorem pq:aH 215 D8 :=cq (au D7 aB) Tryz.func215 .z 0 (by kernel_rfl) rfl fun _=>by kernel_rfl
def qQ:Sig xx:=⟨[.d (.sl ak),.d ah,.mref ah,.clo [ak,ak] ah],[.d ah,.mr ah],fun a=>uT a.1 a.2.1 a.2.2.1 a.2.2.2.1,none⟩
theorem qR:aH 214 qQ :=cq (au pq aB) Tryz.func214 .z 0 (by kernel_rfl) rfl fun _=>by kernel_rfl
def wS:Sig xx:=⟨[.d (.sl ak),.d ah,.d ah,.clo [ak,ak] ah],[.d ah,.d ah],fun a=>zb a.1 a.2.1 a.2.2.1 a.2.2.2.1,none⟩
def wT:Hn SI:=(.s .z (.s .z (.s .z (.s .z (.s .z (.s .z (.s (.j ⟨[(13,(.v ah))],[(1384,.c 1 [[(.v ah)]])],[11],[],2600,[]⟩ (.s .z (.s (.s (.j ⟨[(12,(.v ah)),(13,(.v ah)),(14,(.v ah))],[(1384,.c 1 [[(.v ah)]])],[0,3,11],[],2728,[]⟩ .z) .z) .z))) .z)))))))
theorem wU:aH 204 wS :=cq (au qR (au pq aB)) Tryz.func204 wT 0 (by kernel_rfl) rfl fun _=>by kernel_rfl
def vR (n:Nat):Sig xx:=⟨[.mut ak,.d ah,.d ah,.clo [ak,ak] ah],[.mu ak],fun a=>xI n a.1 a.2.1 a.2.2.1 a.2.2.2.1,none⟩
def vS:Hn SI:=(.s .z (.s .z (.b (.l ⟨[(8,(.v ah)),(9,(.v ah))],[(0,.l ak)],[0],[],1320,[]⟩ 0 ⟨[],[(0,.l ak)],[],[],1320,[]⟩ .z))))
theorem vU (n:Nat):aH 205 (vR n) :=cq aB Tryz.func205 vS n (by kernel_rfl) rfl fun _=>by kernel_rfl
def mH (n:Nat):Sig xx:=⟨[.mut ak,.d ah,.d ah,.clo [ak,ak] ah],[.d .bool,.mu ak],fun a=>nK n a.1 a.2.1 a.2.2.1 a.2.2.2.1,none⟩
def mI:Hn SI:=(.s .z (.s .z (.s (.s .z (.b (.lx ⟨[(9,(.v ah)),(10,(.v ah))],[(0,.l ak)],[0,1,2,3],[],1320,[]⟩ 0 ⟨[],[(0,.l ak)],[],[],1320,[]⟩ (.s .z (.s (.jx ⟨[(9,(.v ah))],[(0,.l ak)],[0,1,2,3,10],[],1448,[]⟩ (.b (.s (.b (.l ⟨[(9,(.v ah))],[],[0,1,2,3,10],[0],1448,[]⟩ 2 ⟨[(9,(.v ah))],[],[0,1,2,3,10],[0],1448,[]⟩ (.s (.s (.j ⟨[(36,(.v .bool))],[],[0,1,2,3,9,10],[0],1448,[]⟩ .z) .z) .z))) (.s .z (.s .z (.s .z (.s (.j ⟨[],[(0,.l ak)],[0,1,2,3,9,10],[],3048,[]⟩ (.s .z (.s (.s .z (.b (.l ⟨[(11,(.v ah))],[(0,.l ak)],[0,1,2,3,9,10],[],3496,[]⟩ 4 ⟨[],[(0,.l ak)],[0,1,2,3,9,10],[],3496,[]⟩ .z))) .z))) (.s .z (.s (.s .z (.b (.l ⟨[(12,(.v ah))],[(0,.l ak)],[0,1,2,3,9,10],[],3496,[]⟩ 6 ⟨[],[(0,.l ak)],[0,1,2,3,9,10],[],3496,[]⟩ .z))) .z))))))))) .z))))) .z)))
theorem mJ (n:Nat):aH 206 (mH n) :=cq aB Tryz.func206 mI n (by kernel_rfl) rfl fun _=>by kernel_rfl
def qU (n:Nat):Sig xx:=⟨[.mut ak,.d ah,.d ah,.d ah,.clo [ak,ak] ah],[.d ah,.mu ak],fun a=>uU n a.1 a.2.1 a.2.2.1 a.2.2.2.1 a.2.2.2.2.1,none⟩
def qV:Hn SI:=(.s .z (.s .z (.s .z (.s (.b (.l ⟨[(11,(.v ah)),(12,(.v ah))],[(0,.l ak)],[0,1,4],[],2472,[]⟩ 0 ⟨[(11,(.v ah))],[(0,.l ak)],[],[],2472,[]⟩ (.b (.s (.b (.l ⟨[(11,(.v ah))],[],[0,1,4,12],[0],2472,[]⟩ 2 ⟨[(11,(.v ah))],[],[0,1,4,12],[0],2472,[]⟩ (.s (.s (.j ⟨[(47,(.v .bool))],[],[0,1,4,11,12],[0],2472,[]⟩ .z) .z) .z))) (.s (.b (.l ⟨[(12,(.v ah))],[],[0,1,4,11],[0],2472,[]⟩ 4 ⟨[(12,(.v ah))],[],[0,1,4,11],[0],2472,[]⟩ (.s (.s (.j ⟨[(65,(.v .bool))],[],[0,1,4,11,12],[0],2472,[]⟩ .z) .z) .z))) .z))))) .z))))
theorem qW (n:Nat):aH 207 (qU n) :=cq aB Tryz.func207 qV n (by kernel_rfl) rfl fun _=>by kernel_rfl
end
end Go.Proofs
