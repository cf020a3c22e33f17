import Derived.Test.YtnclkjejgffdmaaGreatTC1
namespace Go.Proofs
open Go.Gb Go.RowKit
open Tryz
noncomputable section
variable (n:Nat)
theorem BN:aC 24 (BM n) :=pn (ak (zA n) ay) func24 .z n (by kernel_rfl) λ_=>by kernel_rfl
def Gi:dE xx:=⟨[.p 0,(.f 59 [] [])],[(0,fy),(1,.l aD)],[.v af],[(0,fy),(1,.l aD)],λv=>qL n v.1 v.2.1 v.2.2.1 v.2.2.2.1 v.2.2.2.2.1 v.2.2.2.2.2.1 v.2.2.2.2.2.2.1 v.2.2.2.2.2.2.2.1 v.2.2.2.2.2.2.2.2.1 v.2.2.2.2.2.2.2.2.2⟩
def Gj:cm xx:=⟨[],[.d .bool],λ_=>none,some (Gi n)⟩
def Gl:Hn SI:=(co (.s (.s .z (.b (.l ⟨[(5,.v af),(13,.v af)],[],[1,11,12],[0,1],1512,[]⟩ 0 ⟨[(5,.v af)],[],[],[0,1],1512,[]⟩ .z))) .z))
theorem Gm:aC 54 (Gj n) :=pn (ak Dx ay) func54 Gl n (by kernel_rfl) λ_=>by kernel_rfl
def DR:dE xx:=⟨[.p 0],[(0,fy),(1,.l aD)],[.v af],[(0,fy),(1,.l aD)],λv=>kN n v.1 v.2.1 v.2.2.1 v.2.2.2.1 v.2.2.2.2.1 v.2.2.2.2.2.1 v.2.2.2.2.2.2.1 v.2.2.2.2.2.2.2.1 v.2.2.2.2.2.2.2.2.1 v.2.2.2.2.2.2.2.2.2⟩
def DT:cm xx:=⟨[],[.d .bool],λ_=>none,some (DR n)⟩
theorem DU:aC 25 (DT n) :=pn (ak (Gm n) ay) func25 .z n (by kernel_rfl) λ_=>by kernel_rfl
def BP:dE xx:=⟨[.p 0,.v aA,.v af],[(0,fy),(1,.l aD)],[.v .bool],[(0,fy),(1,.l aD)],λv=>jT n v.1 v.2.1 v.2.2.1 v.2.2.2.1 v.2.2.2.2.1 v.2.2.2.2.2.1 v.2.2.2.2.2.2.1 v.2.2.2.2.2.2.2.1 v.2.2.2.2.2.2.2.2.1 v.2.2.2.2.2.2.2.2.2.1 v.2.2.2.2.2.2.2.2.2.2.1 v.2.2.2.2.2.2.2.2.2.2.2⟩
def BQ:cm xx:=⟨[],[.d .bool],λ_=>none,some (BP n)⟩
def BR:Hn SI:=(ux (.s (.s .z (.b (.l ⟨[(9,.v af),(27,.v af)],[],[7,25,26],[0,1,1512],2280,[]⟩ 0 ⟨[(9,.v af)],[],[7],[0,1,1512],2280,[]⟩ (co (.s (.j ⟨[(9,.v af)],[],[7,25,26,27],[0,1,1512],2344,[]⟩ .z) .z))))) .z))
theorem BU:aC 60 (BQ n) :=pn (ak Ul (ak BG (ak Jk ay))) func60 BR n (by kernel_rfl) λ_=>by kernel_rfl
def zO:dE xx:=⟨[.p 0],[(0,fy),(1,.l aD)],[.v af],[(0,fy),(1,.l aD)],λv=>jq n v.1 v.2.1 v.2.2.1 v.2.2.2.1 v.2.2.2.2.1 v.2.2.2.2.2.1 v.2.2.2.2.2.2.1 v.2.2.2.2.2.2.2.1 v.2.2.2.2.2.2.2.2.1 v.2.2.2.2.2.2.2.2.2⟩
def zP:cm xx:=⟨[],[.d .bool],λ_=>none,some (zO n)⟩
def zQ:Hn SI:=(co (.s (.s .z (.b (.l ⟨[(3,.v af),(14,.v af)],[(0,fy),(1,.l aD)],[0,12,13],[],1512,[]⟩ 0 ⟨[(3,.v af)],[(0,fy),(1,.l aD)],[],[],1512,[]⟩ (co (.s (.b (co (.s (.b (.l ⟨[(6,.v af),(7,.v af)],[(0,fy),(1,.l aD)],[0,5,12,13,14],[1704],2024,[]⟩ 2 ⟨[(6,.v af)],[(0,fy),(1,.l aD)],[0,12,13,14],[],2024,[]⟩ .z)) .z))) .z))))) .z))
theorem zR:aC 26 (zP n) :=pn (ak (BU n) ay) func26 zQ n (by kernel_rfl) λ_=>by kernel_rfl
def xq:dE xx:=⟨[.v aD,.p 0],[(0,.c 1 [[.p 1]]),(1,uv),(2,.l aD)],[.v af],[(0,.c 1 [[.p 1]]),(1,uv),(2,.l aD)],λv=>kI n v.1 v.2.1 v.2.2.1 v.2.2.2.1 v.2.2.2.2.1 v.2.2.2.2.2.1 v.2.2.2.2.2.2.1 v.2.2.2.2.2.2.2.1 v.2.2.2.2.2.2.2.2.1 v.2.2.2.2.2.2.2.2.2.1 v.2.2.2.2.2.2.2.2.2.2⟩
def xu:cm xx:=⟨[],[.d .bool],λ_=>none,some (xq n)⟩
theorem xw:aC 61 (xu n) :=pn (ak (Pb n) ay) func61 .z n (by kernel_rfl) λ_=>by kernel_rfl
def Gn:dE xx:=⟨[.p 0,(.f 61 [] [.p 1])],[(0,uv),(1,.c 1 [[.p 0]]),(2,.l aD)],[.v af],[(0,uv),(1,.c 1 [[.p 0]]),(2,.l aD)],λv=>qM n v.1 v.2.1 v.2.2.1 v.2.2.2.1 v.2.2.2.2.1 v.2.2.2.2.2.1 v.2.2.2.2.2.2.1 v.2.2.2.2.2.2.2.1 v.2.2.2.2.2.2.2.2.1 v.2.2.2.2.2.2.2.2.2⟩
def Gp:cm xx:=⟨[],[.d .bool],λ_=>none,some (Gn n)⟩
def Gq:Hn SI:=(co (.s (.s .z (.b (.l ⟨[(5,.v af),(13,.v af)],[(0,uv),(1,.c 1 [[.p 0]]),(2,.l aD)],[1,11,12],[],1512,[]⟩ 0 ⟨[(5,.v af)],[(0,uv),(1,.c 1 [[.p 0]]),(2,.l aD)],[],[],1512,[]⟩ .z))) .z))
theorem Gr:aC 54 (Gp n) :=pn (ak (xw n) ay) func54 Gq n (by kernel_rfl) λ_=>by kernel_rfl
def zS:dE xx:=⟨[.p 0],[(0,fy),(1,.l aD)],[.v af],[(0,fy),(1,.l aD)],λv=>jr n v.1 v.2.1 v.2.2.1 v.2.2.2.1 v.2.2.2.2.1 v.2.2.2.2.2.1 v.2.2.2.2.2.2.1 v.2.2.2.2.2.2.2.1 v.2.2.2.2.2.2.2.2.1 v.2.2.2.2.2.2.2.2.2⟩
def zT:cm xx:=⟨[],[.d .bool],λ_=>none,some (zS n)⟩
theorem zU:aC 27 (zT n) :=pn (ak (Gr n) ay) func27 .z n (by kernel_rfl) λ_=>by kernel_rfl
def adh:cm xx:=⟨[.d gF,.d (.st SI.Lot),.d dY],[.fresh gI],λa=>jD n a.1 a.2.1 a.2.2.1,none⟩
def adi:Hn SI:=(co (.s (.j ⟨[],[(1384,.c 10 [[.v (.sl bg),.v (.sl aW),.v (.sl bB),.v (.sl aT),.v (.sl bF),.v (.sl bC),.v (.sl aV),.v af,.v (.sl aA),.nil]])],[5,7],[1128],1512,[]⟩ .z) (.s (.s .z (.b (.l ⟨[(31,.v af)],[(1384,HW),(1960,.l aD)],[7,29,30],[1768],1961,[(6668873,aD)]⟩ 0 ⟨[],[(1384,HW),(1960,.l aD)],[7],[],1961,[]⟩ (co (.s (.j ⟨[],[(1384,.c 10 [[.v (.sl bg),.v (.sl aW),.v (.sl bB),.v (.sl aT),.v (.sl bF),.v (.sl bC),.v (.sl aV),.v af,.v (.sl aA),.o 2025]]),(2025,.l aD)],[7,29,30,31],[1768],2026,[]⟩ (.b (.s .z (.s (.j ⟨[(41,.v .bool)],[],[7,9,29,30,31],[1384,1768,1960,2217],2409,[]⟩ .z) .z)))) .z))))) (co (.s (.s .z (.b (.un .z (.un .z (.un .z (.un .z (.un .z (.un .z (.un .z (.un .z (.un .z (.un .z .z)))))))))))) .z)))))
theorem Fv:aC 7 (adh n) :=cq (ak (om n) (ak (A7 n) (ak kT (ak (Gc n) (ak (DI n) (ak (DL n) (ak (BK n) (ak (BN n) (ak (DU n) (ak (zR n) (ak (zU n) ay))))))))))) func7 adi n
def Ri:cm xx:=⟨[.d (.sl gI),.d gI],[.d af],λa=>y5 n a.1 a.2.1,none⟩
def Rj:Hn SI:=(.s .z (.s (.s .z (.b (.lx ⟨[(8,.v af)],[],[0,3,7],[1000],1320,[]⟩ 0 ⟨[],[],[],[],1320,[]⟩ .z))) .z))
theorem Rk:aC 115 (Ri n) :=cq ay func115 Rj n
def Kr:cm xx:=⟨[.d (.sl gI),.d gI],[.d .bool],λa=>uh n a.1 a.2.1,none⟩
theorem Kt:aC 67 (Kr n) :=cq (ak (Rk n) ay) func67 .z n
def uO:cm xx:=⟨[.d d9,.ref dJ],[.d .bool],λa=>lW n a.1 a.2.1,none⟩
theorem Fw:aC 66 (uO n) :=cq (ak (yB n) (ak (Fv n) (ak (Kt n) ay))) func66 .z n
def Z9:cm xx:=⟨[.d dY],[.fresh aD],λa=>wP n a.1,none⟩
theorem Li:aC 118 (Z9 n) :=cq (ak (A7 n) ay) func118 .z n
def YB:cm xx:=⟨[.d (.st SI.G0),.d (.st SI.G0)],[.d .bool],λa=>xL a.1 a.2.1,none⟩
theorem YC:aC 180 YB :=cq (ak BG ay) func180 .z 0
def Pd:cm xx:=⟨[.d aD,.ref aD],[.d .bool],λa=>rH a.1 a.2.1,none⟩
theorem Pe:aC 179 Pd :=cq (ak YC ay) func179 .z 0
def Gs:cm xx:=⟨[.d (.sl aD),.el [aD] .bool],[.d af],λa=>qN n a.1 a.2.1,none⟩
def Gt:Hn SI:=(.s .z (.s (.s .z (.b (.lx ⟨[(8,.v af)],[],[0,1,7],[],1256,[]⟩ 0 ⟨[],[],[],[],1256,[]⟩ .z))) .z))
theorem Gu:aC 135 (Gs n) :=cq ay func135 Gt n
def BV:cm xx:=⟨[.d (.sl aD),.el [aD] .bool],[.d .bool],λa=>fJ n a.1 a.2.1,none⟩
theorem rC:aC 88 (BV n) :=cq (ak (Gu n) ay) func88 .z n
def adj:cm xx:=⟨[.d (.int .u8)],[.d .bool],λa=>EG a.1,none⟩
theorem Pf:aC 243 adj :=cq ay func243 .z 0
def aia:cm xx:=⟨[.d .str,.el [.int .u8] .bool],[.d af],λa=>Oa n a.1 a.2.1,none⟩
def aib:Hn SI:=(co (.s (.b (.l ⟨[(5,.v af)],[],[0,1],[],1128,[]⟩ 0 ⟨[(5,.v af)],[],[],[],1128,[]⟩ (.s (.s (.j ⟨[(16,.v .bool)],[],[0,1,5],[],1128,[]⟩ .z) .z) .z))) .z))
theorem aic:aC 244 (aia n) :=cq ay func244 aib n
def afZ:cm xx:=⟨[.d (.int .u8)],[.d .bool],λa=>Qv a.1,none⟩
theorem af0:aC 246 afZ :=cq ay func246 .z 0
def aac:cm xx:=⟨[.d (.int .u8)],[.d .bool],λa=>Aq a.1,none⟩
theorem aad:aC 245 aac :=cq (ak Pf (ak af0 ay)) func245 .z 0
def aid:cm xx:=⟨[.d .str],[.d .bool],λa=>Ob n a.1,none⟩
def aie:Hn SI:=(.s .z (.s (.s (.j ⟨[(15,.v .bool)],[],[0],[],1064,[]⟩ .z) .z) .z))
theorem aif:aC 213 (aid n) :=cq (ak Pf (ak (aic n) (ak aad ay))) func213 aie n
def Mq:cm xx:=⟨[.d .str,.d .str],[.d .bool],λa=>strings_Contains a.1 a.2.1,none⟩
theorem Mr:aC 214 Mq:=by
 have hcall:dU Tryz.prog 214:=⟨_,func214,by kernel_rfl,by kernel_rfl⟩;refine vx hcall (λ a r h=>?_) rfl;obtain⟨s,b,⟨⟩⟩:=a;have h':strings_Contains s b=some r:=h;unfold strings_Contains at h';cases hb:Nat.ble s.size 4000000 with
 |false=>rw[hb]at h';cases h'
 |true=>
  rw[hb]at h';have h'':some (Lib.contains s.data.toList b.data.toList)=some r:=h';injection h'' with e;subst e;have hw:=Nat.le_of_ble_eq_true hb;exact acI (g:=0) rfl hcall λm w hm=>aeV s b m w (by omega) hm
def aae:cm xx:=⟨[.d .str],[.d .bool],λa=>wQ n a.1,none⟩
theorem aaf:aC 181 (aae n) :=cq (ak (aif n) (ak Mr ay)) func181 .z n
def YD:cm xx:=⟨[.d dY],[.d .bool],λa=>xM n a.1,none⟩
def YE:Hn SI:=(co (.s (.s (.j ⟨[(42,.v .bool)],[],[1,3],[1000,1192],1320,[]⟩ .z) .z) (.s (.s .z (.b (.lx ⟨[(45,.v af)],[],[1,3,43,44],[1000,1192],1512,[]⟩ 0 ⟨[],[],[1],[1000],1512,[]⟩ (co (.s (.b (.s .z (.s (.j ⟨[(59,.v .bool)],[],[1,3,43,44,45],[1000,1192],1960,[]⟩ .z) .z))) .z))))) (.s (.s .z (.b (.lx ⟨[(64,.v af)],[],[62,63],[],1768,[]⟩ 2 ⟨[],[],[],[],1768,[]⟩ (co (.s (.b (co (.s (.s .z (.b (.lx ⟨[(72,.v af)],[(2088,.m .str .bool)],[7,8,62,63,64,70,71],[1960],2472,[]⟩ 4 ⟨[],[],[7,62,63,64],[1960],2472,[]⟩ (co (.s (.b (.s .z (.s (.s (.j ⟨[(95,.v .bool)],[],[7,8,10,62,63,64,70,71,72],[1960,2088,2664],2792,[]⟩ .z) .z) .z))) .z))))) .z))) .z))))) .z))))
theorem YF:aC 117 (YD n) :=cq (ak (Li n) (ak kT (ak (rC n) (ak Pe (ak (aaf n) ay))))) func117 YE n
def uY:cm xx:=⟨[.d (.sl (.st SI.strip)),.d af,.el [.st SI.strip,af] af],[.d af,.d .bool],λa=>jc n a.1 a.2.1 a.2.2.1,none⟩
def uZ:Hn SI:=(io (.s (.b (.l ⟨[(9,.v af),(10,.v af)],[],[0,1,2,8],[],1512,[]⟩ 0 ⟨[(9,.v af)],[],[0,1,2,8],[],1512,[]⟩ .z)) .z))
theorem u6:aC 250 (uY n) :=cq ay func250 uZ n
def aii:cm xx:=⟨[.d (.st SI.strip),.d af],[.d af],λa=>wR a.1 a.2.1,none⟩
theorem aij:aC 251 aii :=cq ay func251 .z 0
def aoJ:cm xx:=⟨[.d (.sl (.st SI.strip)),.d af],[.d (.sl (.st SI.span))],λa=>Xv n a.1 a.2.1,none⟩
def aoK:Hn SI:=(co (.s (.s (.j ⟨[(25,.v .bool)],[],[0,5],[],1576,[]⟩ .z) .z) .z))
theorem aoL:aC 216 (aoJ n) :=cq (ak (u6 n) (ak aij ay)) func216 aoK n
def YG:cm xx:=⟨[.nil,.d af],[.fresh (.st SI.span)],λa=>Oc a.1 a.2.1,none⟩
theorem YH:aC 274 YG :=cq ay func274 .z 0
def Rl:cm xx:=⟨[.d (.sl (.sl (.st SI.span)))],[.fresh (.st SI.span)],λa=>y7 n a.1,none⟩
def Rm:Hn SI:=(co (.s (.s .z (.b (.l ⟨[(3,.v af),(11,.v af)],[],[0,9,10],[],1320,[]⟩ 0 ⟨[(3,.v af)],[],[0],[],1320,[]⟩ .z))) (.s .z (.s (.s .z (.b (.l ⟨[(6,.o 1704),(27,.v af)],[(1704,.l (.st SI.span))],[25,26],[],1705,[]⟩ 2 ⟨[(6,.o 1704)],[(1704,.l (.st SI.span))],[],[],1705,[]⟩ .z))) .z))))
theorem Rn:aC 248 (Rl n) :=cq (ak YH ay) func248 Rm n
def vQ:cm xx:=⟨[.d (.sl (.st SI.span)),.d af,.el [.st SI.span,af] af],[.d af,.d .bool],λa=>jE n a.1 a.2.1 a.2.2.1,none⟩
def vR:Hn SI:=(io (.s (.b (.l ⟨[(9,.v af),(10,.v af)],[],[0,1,2,8],[],1512,[]⟩ 0 ⟨[(9,.v af)],[],[0,1,2,8],[],1512,[]⟩ .z)) .z))
theorem vS:aC 275 (vQ n) :=cq ay func275 vR n
def YI:cm xx:=⟨[.d (.st SI.span),.d af],[.d af],λa=>lY a.1 a.2.1,none⟩
theorem YJ:aC 276 YI :=cq ay func276 .z 0
def af2:cm xx:=⟨[.d (.sl (.st SI.span)),.d af],[.d .bool],λa=>Db n a.1 a.2.1,none⟩
theorem af3:aC 249 (af2 n) :=cq (ak (vS n) (ak YJ ay)) func249 .z n
def aik:cm xx:=⟨[.d (.sl (.st SI.span)),.d (.sl (.st SI.span)),.el [.bool,.bool] .bool],[.fresh (.st SI.span)],λa=>Iz n a.1 a.2.1 a.2.2.1,none⟩
def ail:Hn SI:=(co (.s (.s .z (.b (.l ⟨[(7,.o 1512),(19,.v af)],[(1512,.l af)],[0,1,2,17,18],[1320],1513,[(7,af)]⟩ 0 ⟨[(7,.o 1512)],[(1512,.l af)],[0,1,2],[],1513,[]⟩ .z))) (io (.s (.s .z (.b (.l ⟨[(10,.o 1961),(11,.v af)],[(1961,.l (.st SI.span))],[0,1,2,7],[1512],1962,[(10,.st SI.span)]⟩ 2 ⟨[(10,.o 1961)],[(1961,.l (.st SI.span))],[],[],1962,[]⟩ (.s .z (.s (.j ⟨[(10,.o 2218)],[(2218,.l (.st SI.span))],[0,1,2,7,11],[1512],2219,[]⟩ (.b (io (.s (.j ⟨[(68,.v .bool)],[],[0,1,2,7,10,11,12,13],[1512,1961],3370,[]⟩ .z) .z)))) .z))))) .z))))
theorem aim:aC 215 (aik n) :=cq (ak (Rn n) (ak (o8 n) (ak (nK n) (ak (af3 n) ay)))) func215 ail n
def adk:cm xx:=⟨[.d (.sl aA),.d (.sl aA),.el [.bool,.bool] .bool],[.d (.sl aA),.d af],λa=>EH n a.1 a.2.1 a.2.2.1,none⟩
def adl:Hn SI:=(.s .z (.s (.s (.j ⟨[(20,.v .bool)],[],[0,1,2],[],1128,[]⟩ .z) .z) (.s (.f [6,7]) (.s .z (.s (.s .z (.b (.l ⟨[(33,.v af)],[(1832,.l (.st SI.strip))],[2,8,9,10,31,32],[],2152,[]⟩ 0 ⟨[],[(1832,.l (.st SI.strip))],[10],[],2152,[]⟩ .z))) .z)))))
theorem adm:aC 182 (adk n) :=cq (ak (om n) (ak (SV n) (ak (aoL n) (ak (aim n) (ak (Yw n) (ak OU ay)))))) func182 adl n
def YK:cm xx:=⟨[.d .bool,.d .bool],[.d .bool],λa=>xN a.1 a.2.1,none⟩
theorem YL:aC 183 YK :=cq ay func183 .z 0
def af4:cm xx:=⟨[.d (.sl aA),.d (.sl aA)],[.d (.sl aA),.d af],λa=>JY n a.1 a.2.1,none⟩
theorem af5:aC 119 (af4 n) :=cq (ak (adm n) (ak YL ay)) func119 .z n
def Ms:cm xx:=⟨[.d bF,.ref gI],[.d .bool],λa=>vK a.1 a.2.1,none⟩
theorem Mt:aC 121 Ms :=cq ay func121 .z 0
def Mv:cm xx:=⟨[.d (.sl bF),.el [bF] .bool],[.d af],λa=>vL n a.1 a.2.1,none⟩
def Mw:Hn SI:=(.s .z (.s (.s .z (.b (.lx ⟨[(8,.v af)],[],[0,1,7],[],1256,[]⟩ 0 ⟨[],[],[],[],1256,[]⟩ .z))) .z))
theorem Mx:aC 184 (Mv n) :=cq ay func184 Mw n
def Gv:cm xx:=⟨[.d (.sl bF),.el [bF] .bool],[.d .bool],λa=>mZ n a.1 a.2.1,none⟩
theorem Gw:aC 120 (Gv n) :=cq (ak (Mx n) ay) func120 .z n
def Um:cm xx:=⟨[.d gF,.d (.st SI.Lot),.d dY],[.d .bool],λa=>o7 n a.1 a.2.1 a.2.2.1,none⟩
def Un:Hn SI:=(.s .z (.s (.s (.j ⟨[(30,.v .bool)],[],[3,4,5],[1000,1064,1128],1256,[]⟩ .z) .z) (.s (.s .z (.b (.lx ⟨[(34,.v af)],[],[3,4,5,32,33],[1000,1064,1128,1320],1512,[]⟩ 0 ⟨[],[],[3,5],[1000,1128],1512,[]⟩ (co (.s (.b (co (.s (.j ⟨[(58,.v .bool)],[],[3,4,5,32,33,34],[1000,1064,1128,1320],2600,[]⟩ .z) .z))) .z))))) (.s (.s .z (.b (.lx ⟨[(63,.v af)],[],[3,61,62],[1000],1768,[]⟩ 2 ⟨[],[],[],[],1768,[]⟩ (co (.s (.b (co (.b (.lx ⟨[(70,.v af)],[],[3,61,62,63,68,69],[1000],2344,[]⟩ 4 ⟨[],[],[3,61,62,63],[1000],2344,[]⟩ .z)))) .z))))) .z))))
theorem Uo:aC 76 (Um n) :=cq (ak (YF n) (ak (om n) (ak (Li n) (ak (af5 n) (ak (abH n) (ak Jk (ak (Gw n) (ak Mt ay)))))))) func76 Un n
def Ro:cm xx:=⟨[.d dY],[.fresh aD],λa=>uj n a.1,none⟩
def Rp:Hn SI:=(co (.s (.s .z (.b (.l ⟨[(3,.o 1448),(9,.v af)],[(1448,.l aD)],[7,8],[],1449,[(3,aD)]⟩ 0 ⟨[(3,.o 1448)],[(1448,.l aD)],[],[],1449,[]⟩ .z))) .z))
theorem Rq:aC 77 (Ro n) :=cq ay func77 Rp n
def Rs:cm xx:=⟨[.d (.sl (.st SI.js))],[.fresh (.st SI.side)],λa=>qa n a.1,none⟩
def Rt:Hn SI:=(co (.s (.s .z (.b (.l ⟨[(10,.v af)],[(1192,.l (.st SI.side))],[0,3,9],[],1512,[]⟩ 0 ⟨[],[(1192,.l (.st SI.side))],[3],[],1512,[]⟩ .z))) .z))
theorem DW:aC 253 (Rs n) :=cq ay func253 Rt n
def Ru:cm xx:=⟨[.d (.st SI.js)],[.d .bool],λa=>ul a.1,none⟩
theorem Rv:aC 277 Ru :=cq ay func277 .z 0
def Fx:cm xx:=⟨[.d (.st SI.side)],[.d .bool],λa=>gK a.1,none⟩
theorem uP:aC 254 Fx :=cq ay func254 .z 0
def adn:cm xx:=⟨[.d (.sl af)],[.d af],λa=>vM n a.1,none⟩
def ado:Hn SI:=(co (.s (.s .z (.b (.lx ⟨[(8,.v af)],[],[3,6,7],[],1320,[]⟩ 0 ⟨[],[],[3],[],1320,[]⟩ .z))) .z))
theorem Pg:aC 217 (adn n) :=cq ay func217 ado n
def Ph:cm xx:=⟨[.d (.st SI.js),.d (.st SI.js)],[.d af],λa=>rJ n a.1 a.2.1,none⟩
theorem Pj:aC 278 (Ph n) :=cq (ak pO (ak (Pg n) ay)) func278 .z n
def Fy:cm xx:=⟨[.d (.st SI.side),.d (.st SI.side)],[.d .bool],λa=>lZ a.1 a.2.1,none⟩
theorem Fz:aC 279 Fy :=cq ay func279 .z 0
def Uq:cm xx:=⟨[.d (.sl (.st SI.js))],[.d .bool],λa=>vZ n a.1,none⟩
def Ur:Hn SI:=(.s .z (.s (.s (.j ⟨[(16,.v .bool)],[],[0],[],1064,[]⟩ .z) .z) (.s .z (.s (.s .z (.b (.lx ⟨[(21,.v af)],[],[0,3,19,20],[1128],1448,[]⟩ 0 ⟨[],[],[3],[1128],1448,[]⟩ (co (.s (.b (co (.s (.s (.j ⟨[(61,.v .bool)],[],[0,3,4,19,20,21],[1128],2536,[]⟩ .z) .z) (.s (.j ⟨[(74,.v .bool)],[],[0,3,19,20,21],[1128],2536,[]⟩ .z) .z)))) .z))))) (.s (.s .z (.b (.lx ⟨[(78,.v af)],[],[3,77],[1128],1640,[]⟩ 2 ⟨[],[],[3],[1128],1640,[]⟩ (co (.s (.b (co (.b (.lx ⟨[(8,.v af)],[],[3,7,77,78],[1128],2024,[]⟩ 4 ⟨[],[],[3,77,78],[1128],2024,[]⟩ (.s .z (.s (.b (.s (.j ⟨[(106,.v .bool)],[],[3,7,8,77,78],[1128],2280,[]⟩ .z) .z)) .z)))))) .z))))) .z)))))
theorem Us:aC 252 (Uq n) :=cq (ak (DW n) (ak Rv (ak uP (ak (Pj n) (ak Fz ay))))) func252 Ur n
def Rw:cm xx:=⟨[.d (.sl (.st SI.js))],[.fresh aA,.d af],λa=>um n a.1,none⟩
def Rx:Hn SI:=(io (.s (.s .z (.b (.l ⟨[(4,.o 1576),(19,.v af)],[(1576,.l af)],[0,17,18],[],1577,[(4,af)]⟩ 0 ⟨[(4,.o 1576)],[(1576,.l af)],[0],[],1577,[]⟩ .z))) (ux (.s (.s .z (.b (.l ⟨[(8,.o 2409),(38,.v af)],[(2409,.l aA)],[4,7,37],[1576,1961],2410,[(8,aA)]⟩ 2 ⟨[(8,.o 2409)],[(2409,.l aA)],[],[],2410,[]⟩ (co (.s (.b (co (.s (.s .z (.b (.l ⟨[(10,.o 2858),(43,.v af)],[(2858,.l af)],[4,7,8,9,37,38,41,42],[1576,1961,2409],2859,[(10,af)]⟩ 4 ⟨[(10,.o 2858)],[(2858,.l af)],[4,7,8,9,37,38],[1576,1961,2409],2859,[]⟩ (co (.s (.j ⟨[(10,.o 2923)],[(2923,.l af)],[4,7,8,9,37,38,41,42,43],[1576,1961,2409],2924,[]⟩ (.b (.s .z (.s (.j ⟨[(77,.v .bool)],[],[4,7,8,9,10,12,37,38,41,42,43],[1576,1961,2409,2858,3051],3179,[]⟩ .z) .z)))) .z))))) (co (.b (.l ⟨[(8,.o 3051),(13,.v af)],[(3051,.l aA)],[4,7,9,10,37,38],[1576,1961,2858],3052,[]⟩ 6 ⟨[(8,.o 3051)],[(3051,.l aA)],[4,7,37,38],[1576,1961],3052,[]⟩ .z)))))) .z))))) .z))))
theorem Ry:aC 218 (Rw n) :=cq (ak (Us n) (ak (o8 n) (ak (nK n) (ak (DW n) (ak uP ay))))) func218 Rx n
def YM:cm xx:=⟨[.d bB],[.fresh aA],λa=>xO n a.1,none⟩
theorem YN:aC 186 (YM n) :=cq (ak (Ry n) ay) func186 .z n
def Ut:cm xx:=⟨[.d (.sl aA),.d (.sl aA)],[.d af,.d (.st SI.js)],λa=>wh n a.1 a.2.1,none⟩
def Uu:Hn SI:=(co (.s (.s .z (.b (.l ⟨[(6,.v af),(18,.v af)],[(1192,wa)],[1,5,7,16,17],[1064],1576,[]⟩ 0 ⟨[(6,.v af)],[(1192,wa)],[5,7],[1064],1576,[]⟩ (co (.s (.b (co (.b (.l ⟨[(6,.v af),(24,.v af)],[(1192,wa)],[1,5,7,9,16,17,18,22,23],[1064,1768],2088,[]⟩ 2 ⟨[(6,.v af)],[(1192,wa)],[1,5,7,16,17,18],[1064],2088,[]⟩ (co (.s (.j ⟨[(6,.v af)],[(1192,wa)],[1,5,7,9,16,17,18,22,23,24],[1064,1768],2152,[]⟩ .z) .z)))))) .z))))) .z))
theorem Uv:aC 185 (Ut n) :=cq (ak BG (ak Jk (ak pO (ak (Pg n) ay)))) func185 Uu n
def Uw:cm xx:=⟨[.d gF,.d (.sl aA)],[.fresh af],λa=>wm n a.1 a.2.1,none⟩
def Ux:Hn SI:=(io (.s (.s .z (.b (.l ⟨[(5,.o 1640),(16,.v af)],[(1640,.l af)],[1,14,15],[],1641,[(5,af)]⟩ 0 ⟨[(5,.o 1640)],[(1640,.l af)],[],[],1641,[]⟩ .z))) .z))
theorem Uy:aC 122 (Uw n) :=cq (ak (om n) (ak (YN n) (ak (Uv n) ay))) func122 Ux n
def af6:cm xx:=⟨[.d gF,.d (.sl aA)],[.fresh .str],λa=>Dc n a.1 a.2.1,none⟩
def af7:Hn SI:=(io (.s (.s .z (.b (.l ⟨[(6,.v af),(17,.v af)],[],[2,5,15,16],[1000,1256],1640,[]⟩ 0 ⟨[(6,.v af)],[],[2,5],[1000,1256],1640,[]⟩ (co (.s (.j ⟨[(6,.v af)],[],[2,5,15,16,17],[1000,1256],1704,[]⟩ (.b (.s .z (.s (.j ⟨[(44,.v .bool)],[],[2,5,6,7,15,16,17],[1000,1256],2024,[]⟩ .z) .z)))) .z))))) (.s .z (.s (.s .z (.b (.l ⟨[(9,.o 1896),(49,.v af)],[(1896,.l .str)],[2,6,47,48],[1000,1256],1897,[(9,.str)]⟩ 2 ⟨[(9,.o 1896)],[(1896,.l .str)],[],[],1897,[]⟩ (co (.s (.j ⟨[(9,.o 1961)],[(1961,.l .str)],[2,6,47,48,49],[1000,1256],1962,[]⟩ (.b (.s .z (.s (.j ⟨[(68,.v .bool)],[],[2,6,9,10,47,48,49],[1000,1256,1896],2281,[]⟩ .z) .z)))) .z))))) .z))))
theorem af8:aC 78 (af6 n) :=cq (ak (Uy n) ay) func78 af7 n
def aag:cm xx:=⟨[.d (.st SI.pf),.d dY],[.d (.st SI.kO),.d af],λa=>Ar n a.1 a.2.1,none⟩
theorem aah:aC 29 (aag n) :=cq (ak (yB n) (ak (Uo n) (ak (Rq n) (ak (af8 n) ay)))) func29 .z n
def MB:cm xx:=⟨[.d .str,.ref (.sl .str)],[.d .bool],λa=>kD n a.1 a.2.1,none⟩
theorem MC:aC 123 (MB n) :=cq (ak (jh n) ay) func123 .z n
def Gx:cm xx:=⟨[.d (.sl .str),.el [.str] .bool],[.d af],λa=>qO n a.1 a.2.1,none⟩
def Gy:Hn SI:=(.s .z (.s (.s .z (.b (.lx ⟨[(8,.v af)],[],[0,1,7],[],1256,[]⟩ 0 ⟨[],[],[],[],1256,[]⟩ .z))) .z))
theorem Gz:aC 187 (Gx n) :=cq ay func187 Gy n
def BX:cm xx:=⟨[.d (.sl .str),.el [.str] .bool],[.d .bool],λa=>fK n a.1 a.2.1,none⟩
theorem BZ:aC 124 (BX n) :=cq (ak (Gz n) ay) func124 .z n
def Uz:cm xx:=⟨[.d aT,.d (.sl .str)],[.d .bool],λa=>qZ n a.1 a.2.1,none⟩
theorem UA:aC 80 (Uz n) :=cq (ak (BZ n) (ak (MC n) ay)) func80 .z n
def YO:cm xx:=⟨[.d gF,.d (.sl .str),.d af],[.fresh af],λa=>uo n a.1 a.2.1 a.2.2.1,none⟩
def YP:Hn SI:=(co (.s (.s .z (.b (.l ⟨[(7,.o 1448),(13,.v af)],[(1448,.l af)],[1,2,11,12],[],1449,[(7,af)]⟩ 0 ⟨[(7,.o 1448)],[(1448,.l af)],[],[],1449,[]⟩ (co (.s (.j ⟨[(7,.o 1513)],[(1513,.l af)],[1,2,11,12,13],[],1514,[]⟩ (.b (.s .z (.s (.j ⟨[(37,.v .bool)],[],[1,2,7,8,11,12,13],[1448],1897,[]⟩ .z) .z)))) .z))))) .z))
theorem YQ:aC 32 (YO n) :=cq (ak (UA n) ay) func32 YP n
def ain:cm xx:=⟨[.d af],[.d af,.d .bool],λa=>y8 a.1,none⟩
def aio:Hn SI:=(.s .z (.s (.s .z (.b (.s (.j ⟨[(5,.v .bool)],[],[0,4],[],1192,[]⟩ .z) (.s .z (.s (.j ⟨[(10,.v .bool)],[],[0,4],[],1192,[]⟩ .z) .z))))) .z))
theorem aip:aC 219 ain :=cq ay func219 aio 0
def af9:Hn SI:=(co (.s (.s (.j ⟨[(28,.v .bool)],[],[1,2],[1000],1640,[]⟩ .z) .z) (.s .z (.s (.s .z (.b (.l ⟨[(7,.v af),(32,.v af)],[],[1,30,31],[],1960,[]⟩ 0 ⟨[(7,.v af)],[],[],[],1960,[]⟩ .z))) .z))))
theorem adp(rc:(cu)->(Int)->Option Int)(hr:aC 188 (EJ rc)):aC 188 (EJ (Au n rc)) :=cq (ak aip (ak hr ay)) func188 af9 n
theorem Pk(n:Nat):∀m,aC 188 (EJ (sK n m))
 | 0=>vx (pW func188 (by kernel_rfl:Tryz.f188.body=some (Tryz.f188.body.getD .skip)) (by kernel_rfl)) (λ _ _ h=>(by cases h)) rfl
 |m+1=>adp n _ (Pk n m)
def aga:cm xx:=⟨[.d (.st SI.Expr),.d af],[.d af],λa=>Qw n a.1 a.2.1,none⟩
theorem agb:aC 188 (aga n):=Pk n n
def aiq:cm xx:=⟨[.d (.st SI.Expr)],[.d .bool],λa=>IA n a.1,none⟩
theorem YR:aC 125 (aiq n) :=cq (ak (agb n) ay) func125 .z n
mutual
theorem aoM:∀g:cu,(toE g).wt<=4000000->s9 (toE g) (rF g)
 |⟨op,n,s,key,args⟩,h=>by simp only[toE,ET.wt]at h;have:=ET.rS (IB args);simp only[toE,rF,s9];exact⟨n,key,_,rfl,by unfold maxLen;omega,by omega,YS args (by omega)⟩
theorem YS:∀l:List cu,ET.tP (IB l)<=4000000->oE (IB l) (tK l)
 |[],_=>by simp only[IB,tK,oE]
 |x::xs,h=>by simp only[IB,ET.tP]at h;simp only[IB,tK,oE];exact⟨_,_,rfl,aoM x (by omega),YS xs (by omega)⟩
end
def Pm:cm xx:=⟨[],[.d .bool],λ_=>none,some ⟨[.v (.sl bg)],[],[.p 1000],[(1000,sC)],λv=>lF v⟩⟩
theorem agc:∀l:List gH,sB (l.map toD)<=4000000->oR (l.map toD) (l.map Bo)
 |[],_=>by simp only[List.map_nil,oR]
 |x::xs,h=>by simp only[bE,sB,List.foldr_cons,toD,ET.wt]at h;have:=ET.rS (IB x.eQ);simp only[bE,oR];refine⟨_,_,rfl,⟨_,_,_,_,_,rfl,by simp only[toD];unfold maxLen;omega,?_⟩,agc xs (by simp only[sB];omega)⟩;simp only[toD,s9];exact⟨_,_,_,rfl,by unfold maxLen;omega,by omega,by rw[<- tL];exact YS _ (by omega)⟩
theorem Pn:aC 220 Pm:=by
 have hcall:dU Tryz.prog 220:=⟨_,func220,by kernel_rfl,by kernel_rfl⟩;refine apk hcall ?_;intro v r hr;have h':lF v=some r:=hr;unfold lF at h';cases hb:Nat.ble (sB (List.map toD v)) 4000000 with
 |false=>rw[hb]at h';cases h'
 |true=>
  rw[hb]at h';have h'':some (v,pu (List.map toD v))=some r:=h';injection h'' with e;subst e;have hw:=Nat.le_of_ble_eq_true hb;have hlen:=UY (List.map toD v);have hn:∀d∈List.map toD v,d.2.names.length<=4000000:=λd hd=>by have h1:=UZ hd;have h2:=ET.pH d.2;omega
  exact acG (TL:=41) (TG:=343) (TI:=3) hcall (agc v hw) λsv w hS=>an4 (List.map toD v) (by omega) (λ d hd=>Nat.le_trans (hn d hd) (by omega))
   (λ d hd v0 v1 v2 v3 v4 w hE=>callsIn_wide.1 (amh 0 d.2 v0 v1 v2 v3 v4 w hE (Nat.le_trans (hn d hd) (by omega)))) sv w hS
def UB:cm xx:=⟨[.d (.sl af),.d af],[.fresh af],λa=>q8 a.1 a.2.1,none⟩
theorem UC:aC 300 UB:=by
 have hcall:dU Tryz.prog 300:=⟨_,func300,by kernel_rfl,by kernel_rfl⟩;refine vx hcall (λ a r h=>?_) rfl;obtain⟨l,c,⟨⟩⟩:=a;have h':q8 l c=some r:=h
 match l,h' with
 |[x],h'=>
  simp only[q8]at h';cases hb:(decide (0<=c)&&decide (c<=1000000000000))with
  |false=>rw[hb]at h';cases h'
  |true=>
   rw[hb]at h';have h'':some (List.replicate c.toNat x)=some r:=h';injection h'' with e;subst e;simp only[aY,bD]at hb;obtain⟨h1,h2⟩:=hb;obtain⟨k,hk⟩:=Int.eq_ofNat_of_zero_le h1;subst hk;exact ahk (E:=3) (c:=k) hcall λa cap w hx=>akd x k (Int.ofNat_le.1 (by simpa using h2)) a cap w hx
def Ca:cm xx:=⟨[.ref (.st SI.graph),.d af],[.fresh af],λa=>jV n a.1 a.2.1,none⟩
def Cb:Hn SI:=(ux (.s (.b (.l ⟨[(6,.od 2024)],[(1448,.l af),(2024,.l af)],[0,5],[],2025,[]⟩ 0 ⟨[],[(1448,.l af)],[5],[],2024,[]⟩ (.s .z (.b (io (.b (.l ⟨[(6,.od 3049),(35,.v af)],[(1448,.l af),(3049,.l af)],[0,5,7,33,34],[],3050,[]⟩ 2 ⟨[(6,.od 3049)],[(1448,.l af),(3049,.l af)],[0,5],[],3050,[]⟩ (co (.s (.j ⟨[(6,.od 3114)],[(1448,.l af),(3114,.l af)],[0,5,7,33,34,35],[],3115,[]⟩ (.b (.s .z (.s (.j ⟨[(49,.v .bool)],[],[0,5,6,7,8,33,34,35],[1448,3049],3434,[]⟩ .z) .z)))) .z))))))))) .z))
theorem Cc:aC 283 (Ca n) :=cq (ak UC (ak (AX n) ay)) func283 Cb n
def ME:cm xx:=⟨[.d .str],[.d .bool],λa=>cmp_isNaN_string a.1,none⟩
theorem MF:aC 301 ME :=cq ay func301 .z 0
def Jl:cm xx:=⟨[.d .str,.d .str],[.d af],λa=>nV a.1 a.2.1,none⟩
theorem Jm:aC 284 Jl :=cq (ak MF ay) func284 .z 0
def Ku:cm xx:=⟨[.d (.sl .str),.d (.sl .str)],[.d af],λa=>l9 n a.1 a.2.1,none⟩
def Kv:Hn SI:=(.s .z (.s (.s .z (.b (.lx ⟨[(11,.v af)],[],[0,1,9,10],[],1256,[]⟩ 0 ⟨[],[],[0,1],[],1256,[]⟩ .z))) .z))
theorem Kw:aC 257 (Ku n) :=cq (ak Jm ay) func257 Kv n
def zB:dE xx:=⟨[.v af,.p 0],[(0,ry),(1,.l .bool)],[.v .bool],[(0,ry),(1,.l .bool)],λv=>mQ v.1 v.2⟩
def zC:cm xx:=⟨[],[.d .bool],λ_=>none,some (zB)⟩
theorem zD:aC 259 zC :=pn ay func259 .z 0 (by kernel_rfl) λ_=>by kernel_rfl
def GA:dE xx:=⟨[.v (.sl af),(.f 259 [] [.p 0])],[(0,ry),(1,.l .bool)],[.v af],[(0,ry),(1,.l .bool)],λv=>ng n v.1 v.2⟩
def GD:cm xx:=⟨[],[.d .bool],λ_=>none,some (GA n)⟩
def GH:Hn SI:=(.s .z (.s (.s .z (.b (.lx ⟨[(8,.v af)],[(0,ry),(1,.l .bool)],[0,1,7],[],1256,[]⟩ 0 ⟨[],[(0,ry),(1,.l .bool)],[],[],1256,[]⟩ .z))) .z))
theorem GJ:aC 285 (GD n) :=pn (ak zD ay) func285 GH n (by kernel_rfl) λ_=>by kernel_rfl
def Ce:dE xx:=⟨[.v (.sl af),(.f 259 [] [.p 0])],[(0,ry),(1,.l .bool)],[.v .bool],[(0,ry),(1,.l .bool)],λv=>iw n v.1 v.2⟩
def Cf:cm xx:=⟨[],[.d .bool],λ_=>none,some (Ce n)⟩
theorem Cg:aC 258 (Cf n) :=pn (ak (GJ n) ay) func258 .z n (by kernel_rfl) λ_=>by kernel_rfl
def Jo:cm xx:=⟨[.ref (.st SI.graph)],[.fresh af],λa=>nX n a.1,none⟩
def Jp:Hn SI:=(io (.s (.s .z (.b (.l ⟨[(4,.o 2024),(20,.v af)],[(1448,xT),(2024,.l af),(1384,.l .bool)],[0,3,19],[],2025,[(4,af)]⟩ 0 ⟨[(4,.o 2024)],[(2024,.l af)],[],[],2025,[]⟩ (co (.s (.b (.s .z (.s (.s .z (.b (.l ⟨[(5,.v af),(27,.v af)],[(1448,xT),(1384,.l .bool)],[0,3,4,19,20,25,26],[2024],2537,[]⟩ 2 ⟨[(5,.v af)],[(1448,xT),(1384,.l .bool)],[0,3,4,19,20],[2024],2537,[]⟩ (co (.s (.j ⟨[(5,.v af)],[(1448,xT),(1384,.l .bool)],[0,3,4,19,20,25,26,27],[2024],2601,[]⟩ (.b (co (.s (.j ⟨[(66,.v .bool)],[],[0,3,4,5,6,19,20,25,26,27],[1384,1448,2024],3177,[]⟩ .z) .z)))) .z))))) .z))) .z))))) .z))
theorem Jq:aC 222 (Jo n) :=cq (ak (Cg n) ay) func222 Jp n
def Ch:dE xx:=⟨[.p 0,.v af],[(0,sC)],[.oz 1000],[(0,sC),(1000,.l .str)],λv=>jX n v.1 v.2.1 v.2.2⟩
def Ci:cm xx:=⟨[],[.d .bool],λ_=>none,some (Ch n)⟩
def Cj:Hn SI:=(ux (.b (.lx ⟨[(6,.o 1512),(7,.v af)],[(1512,.l .str)],[0,1,5],[0,1192],1513,[(6,.str)]⟩ 999999 ⟨[],[],[],[],1512,[]⟩ (.b (co (.s (.s .z (.b (.l ⟨[(8,.v af),(34,.v af)],[],[0,1,5,6,32,33],[0,1192,2153],2921,[]⟩ 2 ⟨[(8,.v af)],[],[0,1,5,6],[0,1192,2153],2921,[]⟩ (co (.s (.j ⟨[(8,.v af)],[],[0,1,5,6,32,33,34],[0,1192,2153],2985,[]⟩ (.b (.s .z (.s (.j ⟨[(57,.v .bool)],[],[0,1,5,6,8,10,32,33,34],[0,1192,2153],3177,[]⟩ .z) .z)))) .z))))) .z))))))
theorem Ck:aC 256 (Ci n) :=pn (ak (Cc n) ay) func256 Cj n (by kernel_rfl) λ_=>by kernel_rfl
def zF:dE xx:=⟨[.p 0],[(0,sC)],[.oz 1000],[(0,sC),(1000,.l .str)],λv=>iY n v.1 v.2⟩
def zG:cm xx:=⟨[],[.d .bool],λ_=>none,some (zF n)⟩
def zH:Hn SI:=(co (.s (.s .z (.b (.l ⟨[(3,.oz 1512),(11,.v af)],[(0,sC),(1512,.l .str)],[0,10],[],1513,[(1099511627779,.str)]⟩ 0 ⟨[(3,.oz 1512)],[(0,sC),(1512,.l .str)],[],[],1513,[]⟩ (co (.s (.j ⟨[(3,.oz 1577)],[(0,sC),(1577,.l .str)],[0,10,11],[],1578,[]⟩ (.b (co (.s (.s (.j ⟨[(18,.v .bool)],[],[0,3,5,10,11],[0,1512,1833],1961,[]⟩ .z) .z) (.s (.j ⟨[(40,.v .bool)],[],[0,3,5,10,11],[0,1512,1833],1961,[]⟩ .z) .z))))) .z))))) .z))
theorem zI:aC 221 (zG n) :=pn (ak (Ck n) (ak (Kw n) ay)) func221 zH n (by kernel_rfl) λ_=>by kernel_rfl
def YT:cm xx:=⟨[.d gF],[.fresh af,.d (.sl .str),.d af],λa=>nY n a.1,none⟩
def YU:Hn SI:=(co (.s (.s .z (.b (.l ⟨[(15,.v af)],[(1256,.m .str .bool)],[1,5,13,14],[1000,1384],1576,[]⟩ 0 ⟨[],[(1256,.m .str .bool)],[1,5],[1000],1576,[]⟩ .z))) (.s (.s .z (.b (.lx ⟨[(25,.v af)],[(1256,.m .str .bool)],[1,5,23,24],[1000],1832,[]⟩ 2 ⟨[],[],[1],[1000],1832,[]⟩ .z))) (.s .z (.s (.s .z (.s (.j ⟨[(43,.v .bool)],[],[10,11],[1960,2152],2280,[]⟩ .z) .z)) .z)))))
theorem YV:aC 189 (YT n) :=cq (ak AZ (ak Pn (ak (zI n) (ak (Jq n) ay)))) func189 YU n
def Ky:cm xx:=⟨[.d aW,.ref (.st SI.Expr)],[.d .bool],λa=>Av a.1 a.2.1,none⟩
theorem Kz:aC 223 Ky :=cq ay func223 .z 0
def KA:cm xx:=⟨[.d gI,.ref (.st SI.Expr)],[.d .bool],λa=>Aw a.1 a.2.1,none⟩
theorem KC:aC 224 KA :=cq ay func224 .z 0
def ano:cm xx:=⟨[.d .bool],[.d af],λa=>y9 a.1,none⟩
theorem agf:aC 191 ano :=cq ay func191 .z 0
def aai:cm xx:=⟨[.d af,.d af],[.d af],λa=>wU a.1 a.2.1,none⟩
def aaj:Hn SI:=(io (.s (.j ⟨[(5,.v af)],[],[],[],1448,[]⟩ (.s .z (.s (.j ⟨[(23,.v .bool)],[],[5],[],1704,[]⟩ .z) .z))) .z))
theorem aak:aC 225 aai :=cq ay func225 aaj 0
def agh:cm xx:=⟨[.d af,.d af,.d af],[.d af],λa=>JZ a.1 a.2.1 a.2.2.1,none⟩
theorem agi:aC 192 agh :=cq (ak aak (ak agf ay)) func192 .z 0
def KD:dE xx:=⟨[(.a [.v (.sl bg),.v (.sl aW),.v (.sl bB),.v (.sl aT),.v (.sl bF),.v (.sl bC),.v (.sl aV),.v af,.mp 0,.v (.sl .str)]),.v (.st SI.Expr)],[(0,.m .str af)],[.v af],[(0,.m .str af)],λv=>jw n v.1 v.2.1 v.2.2.1 v.2.2.2.1 v.2.2.2.2.1 v.2.2.2.2.2.1 v.2.2.2.2.2.2.1 v.2.2.2.2.2.2.2.1 v.2.2.2.2.2.2.2.2.1 v.2.2.2.2.2.2.2.2.2.1 v.2.2.2.2.2.2.2.2.2.2⟩
def KE:cm xx:=⟨[],[.d .bool],λ_=>none,some (KD n)⟩
theorem KF:aC 190 (KE n) :=pn (ak (wW n) (ak Kz (ak (qc n) (ak KC ay)))) func190 .z n (by kernel_rfl) λ_=>by kernel_rfl
def GK:Hn SI:=(co (.s (.s .z (.b (.l ⟨[(5,.o 1512),(11,.v af)],[(0,.m .str af),(1512,.l af)],[2,3,9,10],[1000,1064],1513,[(5,af)]⟩ 0 ⟨[(5,.o 1512)],[(0,.m .str af),(1512,.l af)],[2,3],[1000,1064],1513,[]⟩ (co (.s (.j ⟨[(5,.o 1577)],[(0,.m .str af),(1577,.l af)],[2,3,9,10,11],[1000,1064],1578,[]⟩ (.b (.s .z (.s (.s (.j ⟨[(31,.v .bool)],[],[2,3,5,7,9,10,11],[0,1000,1064,1512,1769],1961,[]⟩ .z) .z) .z)))) .z))))) .z))
theorem FB(rc:((List gH))->((List bO))->((List fC))->((List bX))->((List jA))->((List ig))->((List dD))->(Int)->((List ByteArray))->(cu)->((List (ByteArray×Int)))->Option (Int×(List (ByteArray×Int))))(hr:aC 127 (jY rc)):aC 127 (jY (eZ n rc)) :=pn (ak hr (ak (KF n) (ak (jh n) (ak agf (ak agi ay))))) func127 GK n (by kernel_rfl) λ_=>by kernel_rfl
theorem uQ(n:Nat):∀m,aC 127 (jY (bQ n m))
 | 0=>apk (pW func127 (by kernel_rfl:Tryz.f127.body=some (Tryz.f127.body.getD .skip)) (by kernel_rfl)) (λ _ _ h=>(by cases h))
 |m+1=>FB n _ (uQ n m)
def GL:cm xx:=jY (bQ n n)
theorem vg:aC 127 (GL n):=uQ n n
def UD:dE xx:=⟨[.v gF,.v (.sl gI),.v (.sl .str)],[],[(.a [.v (.sl bg),.v (.sl aW),.v (.sl bB),.v (.sl aT),.v (.sl bF),.v (.sl bC),.v (.sl aV),.v af,.mp 1000,.v (.sl .str)]),.o 1001],[(1000,.m .str af),(1001,.l af)],λv=>mR n v.1 v.2.1 v.2.2⟩
def UE:cm xx:=⟨[],[.d .bool],λ_=>none,some (UD n)⟩
def UF:Hn SI:=(io (.s (.s .z (.b (.l ⟨[(26,.v af)],[(1256,.m .str af),(1576,.m .str .bool)],[3,6,8,9,24,25],[1000,1064,1448],1896,[]⟩ 0 ⟨[],[(1256,.m .str af),(1576,.m .str .bool)],[3,6,8,9],[1000,1064,1448],1896,[]⟩ (co (.s (.j ⟨[],[(1256,.m .str af),(1576,.m .str .bool)],[3,6,8,9,24,25,26],[1000,1064,1448],1960,[]⟩ .z) .z))))) (io (.s (.s .z (.b (.l ⟨[(61,.v af)],[(1256,.m .str af),(2088,.l af)],[3,6,8,9,12,59,60],[1000,1064,1448,1576,2280],3112,[]⟩ 2 ⟨[],[(1256,.m .str af),(2088,.l af)],[6,8,12],[1064,1448],3112,[]⟩ (co (.s (.j ⟨[],[(1256,.m .str af),(2088,.l af)],[3,6,8,9,12,59,60,61],[1000,1064,1448,1576,2280],3176,[]⟩ (.b (co (.s (.j ⟨[],[(1256,.m .str af),(2088,.l af)],[3,6,8,9,12,17,18,59,60,61],[1000,1064,1448,1576,2280,3688],3816,[]⟩ .z) .z)))) .z))))) .z))))
theorem UG:aC 126 (UE n) :=pn (ak (YV n) (ak (YR n) (ak (vg n) ay))) func126 UF n (by kernel_rfl) λ_=>by kernel_rfl
def akY:cm xx:=⟨[.d gF,.d (.sl gI),.d (.sl .str),.d (.st SI.Expr)],[.d af],λa=>Ay n a.1 a.2.1 a.2.2.1 a.2.2.2.1,none⟩
theorem akZ:aC 81 (akY n) :=cq (ak (YR n) (ak (UG n) (ak (vg n) ay))) func81 .z n
def air:cm xx:=⟨[.d (.sl aA)],[.d aA,.d .bool],λa=>Og n a.1,none⟩
def ais:Hn SI:=(.s .z (.s (.s .z (.b (.l ⟨[(3,.v .bool),(8,.v af)],[(1000,BW)],[2,6,7],[],1320,[]⟩ 0 ⟨[(3,.v .bool)],[(1000,BW)],[2],[],1320,[]⟩ (co (.s (.j ⟨[(3,.v .bool)],[(1000,BW)],[2,6,7,8],[],1384,[]⟩ .z) .z))))) .z))
theorem ait:aC 128 (air n) :=cq (ak qF ay) func128 ais n
def agj:cm xx:=⟨[.d (.sl aA)],[.d aA,.d .bool],λa=>J2 n a.1,none⟩
def agk:Hn SI:=(.s .z (.s (.s (.j ⟨[(11,.v .bool)],[],[0,2],[1000],1128,[]⟩ .z) .z) .z))
theorem agl:aC 82 (agj n) :=cq (ak (om n) (ak (ait n) ay)) func82 agk n
def YW:cm xx:=⟨[.d aD],[.fresh (.st SI.lO)],λa=>xR a.1,none⟩
theorem Jr:aC 37 YW :=cq ay func37 .z 0
def Js:cm xx:=⟨[.d (.sl (.st SI.hZ)),.el [.st SI.hZ] .bool],[.d af],λa=>rW n a.1 a.2.1,none⟩
def Jt:Hn SI:=(.s .z (.s (.s .z (.b (.lx ⟨[(8,.v af)],[],[0,1,7],[],1256,[]⟩ 0 ⟨[],[],[],[],1256,[]⟩ .z))) .z))
theorem Ju:aC 226 (Js n) :=cq ay func226 Jt n
def DX:cm xx:=⟨[.d (.sl (.st SI.hZ)),.el [.st SI.hZ] .bool],[.d .bool],λa=>kQ n a.1 a.2.1,none⟩
theorem DY:aC 193 (DX n) :=cq (ak (Ju n) ay) func193 .z n
def YX:cm xx:=⟨[.d af,.d af,.d af],[.d .bool],λa=>nZ a.1 a.2.1 a.2.2.1,none⟩
theorem YZ:aC 227 YX :=cq ay func227 .z 0
def aal:cm xx:=⟨[.d (.st SI.hZ)],[.d .bool],λa=>AA a.1,none⟩
theorem aam:aC 195 aal :=cq (ak YZ ay) func195 .z 0
def Rz:cm xx:=⟨[.d (.st SI.hZ)],[.d .bool],λa=>uq a.1,none⟩
theorem RA:aC 194 Rz :=cq (ak aam ay) func194 .z 0
def aan:cm xx:=⟨[.d aA,.d (.sl (.st SI.hZ))],[.d .bool],λa=>AB n a.1 a.2.1,none⟩
theorem aao:aC 129 (aan n) :=cq (ak qF (ak (DY n) (ak RA ay))) func129 .z n
def ak0:cm xx:=⟨[.d (.sl aA),.d (.sl aA)],[.d .bool],λa=>U1 n a.1 a.2.1,none⟩
theorem ak1:aC 136 (ak0 n) :=cq (ak (FR n) ay) func136 .z n
def aiu:cm xx:=⟨[.d (.sl (.st SI.lO))],[.d .bool],λa=>IC n a.1,none⟩
def aiv:Hn SI:=(co (.s (.s .z (.b (.lx ⟨[(11,.v af)],[],[0,9,10],[],1448,[]⟩ 0 ⟨[],[],[],[],1448,[]⟩ (co (.s (.jx ⟨[],[],[0,9,10,11],[],1512,[]⟩ (.b (.s .z (.s (.s (.j ⟨[(42,.v .bool)],[],[0,3,4,9,10,11],[1704],1896,[]⟩ .z) .z) (co (.s (.j ⟨[(68,.v .bool)],[],[0,9,10,11],[],2472,[]⟩ .z) .z)))))) .z))))) .z))
theorem Y0:aC 89 (aiu n) :=cq (ak (om n) (ak (ak1 n) ay)) func89 aiv n
def Po:cm xx:=⟨[.d aA,.d af,.d af],[.d (.st SI.nF)],λa=>xh a.1 a.2.1 a.2.2.1,none⟩
theorem Pp:aC 228 Po :=cq ay func228 .z 0
def RB:cm xx:=⟨[.d af,.d af],[.d af],λa=>uw a.1 a.2.1,none⟩
def RD:Hn SI:=(co (.s (.j ⟨[(5,.v af)],[],[],[],1320,[]⟩ .z) .z))
theorem RF:aC 229 RB :=cq ay func229 RD 0
def agm:cm xx:=⟨[.d aA,.d (.sl (.st SI.hZ)),.d af,.d af],[.d af],λa=>J3 n a.1 a.2.1 a.2.2.1 a.2.2.2.1,none⟩
def agn:Hn SI:=(io (.s (.s .z (.b (.l ⟨[(9,.v af),(19,.v af)],[],[10,17,18],[1448],1768,[]⟩ 0 ⟨[(9,.v af)],[],[],[],1768,[]⟩ .z))) .z))
theorem agp:aC 196 (agm n) :=cq (ak Pp (ak RF ay)) func196 agn n
def Y1:cm xx:=⟨[.d aA,.d (.sl (.st SI.hZ)),.d (.sl aA)],[.d af],λa=>xU n a.1 a.2.1 a.2.2.1,none⟩
def Y2:Hn SI:=(co (.s (.s .z (.b (.l ⟨[(7,.v af),(16,.v af)],[],[1,3,14,15],[1000],1384,[]⟩ 0 ⟨[(7,.v af)],[],[],[],1384,[]⟩ (co (.s (.b (co (.b (.l ⟨[(7,.v af),(27,.v af)],[],[1,3,9,14,15,16,25,26],[1000,1576,2024],2216,[]⟩ 2 ⟨[(7,.v af)],[],[1,3,14,15,16],[1000],2216,[]⟩ (co (.s (.b (co (.b (.l ⟨[(7,.v af),(38,.v af)],[],[1,3,9,11,14,15,16,25,26,27,36,37],[1000,1576,2024,2792],2984,[]⟩ 4 ⟨[(7,.v af)],[],[1,3,9,14,15,16,25,26,27],[1000,1576,2024],2984,[]⟩ .z)))) .z)))))) .z))))) .z))
theorem Y3:aC 131 (Y1 n) :=cq (ak (agp n) ay) func131 Y2 n
def Pq:cm xx:=⟨[.d (.st SI.lO),.ref aA,.ref (.sl (.st SI.hZ))],[.d .bool],λa=>rP n a.1 a.2.1 a.2.2.1,none⟩
theorem Ps:aC 130 (Pq n) :=cq (ak (Y3 n) ay) func130 .z n
def KG:cm xx:=⟨[.d (.sl (.st SI.lO)),.el [.st SI.lO] .bool],[.d af],λa=>uy n a.1 a.2.1,none⟩
def KH:Hn SI:=(.s .z (.s (.s .z (.b (.lx ⟨[(8,.v af)],[],[0,1,7],[],1256,[]⟩ 0 ⟨[],[],[],[],1256,[]⟩ .z))) .z))
theorem KI:aC 137 (KG n) :=cq ay func137 KH n
def FC:cm xx:=⟨[.d (.sl (.st SI.lO)),.el [.st SI.lO] .bool],[.d .bool],λa=>jd n a.1 a.2.1,none⟩
theorem uR:aC 90 (FC n) :=cq (ak (KI n) ay) func90 .z n
def Y4:cm xx:=⟨[.d aA,.d (.sl (.st SI.hZ)),.d (.sl (.st SI.lO))],[.d .bool],λa=>xV n a.1 a.2.1 a.2.2.1,none⟩
def Y5:Hn SI:=(.s .z (.s (.s (.j ⟨[(15,.v .bool)],[],[2,3,4],[1000,1064],1192,[]⟩ .z) .z) .z))
theorem Y6:aC 84 (Y4 n) :=cq (ak (aao n) (ak (Y0 n) (ak (uR n) (ak (Ps n) ay)))) func84 Y5 n
def Cm:cm xx:=⟨[.d aD,.ref aA,.ref aT],[.d .bool],λa=>jZ n a.1 a.2.1 a.2.2.1,none⟩
theorem Cn:aC 83 (Cm n) :=cq (ak Jr (ak (Y6 n) ay)) func83 .z n
def MH:cm xx:=⟨[.d (.st SI.kO),.el [aD] .bool],[.d .bool],λa=>gM n a.1 a.2.1,none⟩
theorem zJ:aC 34 (MH n) :=cq (ak (rC n) ay) func34 .z n
def Co:cm xx:=⟨[.d aD,.ref aT],[.d .bool],λa=>j3 a.1 a.2.1,none⟩
theorem Cq:aC 85 Co :=cq ay func85 .z 0
def DZ:cm xx:=⟨[.d (.st SI.gx),.ref (.st SI.kO),.ref aD,.ref aT],[.d .bool],λa=>dI a.1 a.2.1 a.2.2.1 a.2.2.2.1,none⟩
def D5:Hn SI:=(co (.s (.s (.j ⟨[(32,.v .bool)],[],[2,3,6],[1256],1384,[]⟩ .z) .z) (.s (.j ⟨[(7,.v .bool)],[],[2,3,6],[1256],1384,[]⟩ .z) .z)))
theorem D6:aC 133 DZ :=cq (ak qF (ak ajq ay)) func133 D5 0
def GN:cm xx:=⟨[.d (.sl (.st SI.gx)),.el [.st SI.gx] .bool],[.d af],λa=>qP n a.1 a.2.1,none⟩
def GQ:Hn SI:=(.s .z (.s (.s .z (.b (.lx ⟨[(8,.v af)],[],[0,1,7],[],1256,[]⟩ 0 ⟨[],[],[],[],1256,[]⟩ .z))) .z))
theorem GR:aC 197 (GN n) :=cq ay func197 GQ n
def Cr:cm xx:=⟨[.d (.sl (.st SI.gx)),.el [.st SI.gx] .bool],[.d .bool],λa=>j4 n a.1 a.2.1,none⟩
theorem Cs:aC 132 (Cr n) :=cq (ak (GR n) ay) func132 .z n
def Jv:cm xx:=⟨[.d (.st SI.kO),.d aT,.d aD],[.d .bool],λa=>rX n a.1 a.2.1 a.2.2.1,none⟩
theorem Jw:aC 87 (Jv n) :=cq (ak (Cs n) (ak D6 ay)) func87 .z n
def Ct:cm xx:=⟨[.d aD,.ref (.st SI.kO),.ref aT],[.d .bool],λa=>j5 n a.1 a.2.1 a.2.2.1,none⟩
theorem Cu:aC 86 (Ct n) :=cq (ak (Jw n) ay) func86 .z n
def GU:cm xx:=⟨[.d (.st SI.kO),.d aT],[.d .bool],λa=>ni n a.1 a.2.1,none⟩
theorem GV:aC 33 (GU n) :=cq (ak (Fv n) (ak (akZ n) (ak (agl n) (ak (zJ n) (ak (Cn n) (ak Cq (ak (Cu n) ay))))))) func33 .z n
def UH:cm xx:=⟨[.d aA,.ref aA],[.d .bool],λa=>wu a.1 a.2.1,none⟩
theorem UI:aC 140 UH :=cq ay func140 .z 0
def KJ:cm xx:=⟨[.d (.sl aA),.el [aA] .bool],[.d af],λa=>uz n a.1 a.2.1,none⟩
def KL:Hn SI:=(.s .z (.s (.s .z (.b (.lx ⟨[(8,.v af)],[],[0,1,7],[],1256,[]⟩ 0 ⟨[],[],[],[],1256,[]⟩ .z))) .z))
theorem KM:aC 199 (KJ n) :=cq ay func199 KL n
def FD:cm xx:=⟨[.d (.sl aA),.el [aA] .bool],[.d .bool],λa=>je n a.1 a.2.1,none⟩
theorem uS:aC 138 (FD n) :=cq (ak (KM n) ay) func138 .z n
def adq:cm xx:=⟨[.d aA,.ref (.sl aA)],[.d .bool],λa=>EM n a.1 a.2.1,none⟩
theorem adr:aC 139 (adq n) :=cq (ak (uS n) (ak UI ay)) func139 .z n
def ak2:cm xx:=⟨[.d (.sl aA),.d (.sl aA)],[.d .bool],λa=>U2 n a.1 a.2.1,none⟩
theorem ak3:aC 92 (ak2 n) :=cq (ak (uS n) (ak (adr n) ay)) func92 .z n
def UJ:cm xx:=⟨[.d (.st SI.lO),.ref (.st SI.fj)],[.d .bool],λa=>q9 n a.1 a.2.1,none⟩
theorem UK:aC 91 (UJ n) :=cq (ak (ak3 n) ay) func91 .z n
def ads:cm xx:=⟨[.d (.sl (.st SI.fj)),.d af,.d (.sl (.st SI.lO))],[.d .bool],λa=>EN n a.1 a.2.1 a.2.2.1,none⟩
def adt:Hn SI:=(co (.s (.s .z (.b (.lx ⟨[(14,.v af)],[],[1,2,12,13],[],1448,[]⟩ 0 ⟨[],[],[],[],1448,[]⟩ (co (.s (.jx ⟨[],[],[1,2,12,13,14],[],1512,[]⟩ (.b (.s .z (.s (.s (.j ⟨[(27,.v .bool)],[],[1,2,8,12,13,14],[1640],1768,[]⟩ .z) .z) .z)))) .z))))) .z))
theorem adu:aC 36 (ads n) :=cq (ak (Y0 n) (ak (om n) (ak (uR n) (ak (UK n) ay)))) func36 adt n
def MI:cm xx:=⟨[.d aD,.ref (.st SI.pf),.ref dY],[.d .bool],λa=>nH n a.1 a.2.1 a.2.2.1,none⟩
theorem MJ:aC 35 (MI n) :=cq (ak Jr (ak (adu n) ay)) func35 .z n
def GX:dE xx:=⟨[.v .str,.v .bool,.p 0],[(0,ry),(1,.l .str)],[],[(0,.c 1 [[.o 1000]]),(1000,.l .str)],λv=>jK n v.1 v.2.1 v.2.2⟩
def GY:cm xx:=⟨[],[.d .bool],λ_=>none,some (GX n)⟩
def GZ:Hn SI:=(.s (.j ⟨[(11,.v .bool)],[],[0,2],[0,1],1000,[]⟩ .z) .z)
theorem G5:aC 30 (GY n) :=pn (ak (jh n) ay) func30 GZ n (by kernel_rfl) λ_=>by kernel_rfl
def UL:cm xx:=⟨[.d (.st SI.pf),.d dY,.d af],[.fresh .str,.d af],λa=>rf n a.1 a.2.1 a.2.2.1,none⟩
def UM:Hn SI:=(yd (.s (.s .z (.b (.l ⟨[(31,.v af)],[(1960,.c 1 [[.o 2664]]),(2664,.l .str)],[3,4,8,10,11,29,30],[1000,1064,1640,2472],2665,[(9028160,.str)]⟩ 0 ⟨[],[(1960,.c 1 [[.o 2664]]),(2664,.l .str)],[3,4,8,10,11],[1000,1064,1640],2665,[]⟩ .z))) .z))
theorem FU:aC 9 (UL n) :=cq (ak (aah n) (ak (YQ n) (ak (GV n) (ak (G5 n) (ak (zJ n) (ak (MJ n) ay)))))) func9 UM n
def uT:cm xx:=⟨[.d d9,.ref dJ],[.d .bool],λa=>mq n a.1 a.2.1,none⟩
theorem FE:aC 71 (uT n) :=cq (ak (FU n) (ak (jh n) ay)) func71 .z n
def zV:cm xx:=⟨[.d (.st SI.Case),.ref d9],[.d .bool],λa=>jy a.1 a.2.1,none⟩
theorem zW:aC 75 zV :=cq ay func75 .z 0
def KN:cm xx:=⟨[.d (.sl (.st SI.Case)),.el [.st SI.Case] .bool],[.d af],λa=>uD n a.1 a.2.1,none⟩
def KO:Hn SI:=(.s .z (.s (.s .z (.b (.lx ⟨[(8,.v af)],[],[0,1,7],[],1256,[]⟩ 0 ⟨[],[],[],[],1256,[]⟩ .z))) .z))
theorem KP:aC 74 (KN n) :=cq ay func74 KO n
def uU:cm xx:=⟨[.d d9,.ref dJ],[.d .bool],λa=>mD n a.1 a.2.1,none⟩
theorem FH:aC 73 (uU n) :=cq (ak (KP n) (ak zW ay)) func73 .z n
noncomputable def Jy(n:Nat):cm xx:=⟨[.d dJ,.d d9],[.d .bool],λa=>fA n a.1 a.2.1,none⟩
noncomputable abbrev mj:Code:=Tryz.f8.body.getD .skip
theorem aqV{h:aG}{c:aL}{F:Nat->Option aK}:oH Tryz.prog (iB rZ) (cO (cA mj)) (λ _=>zd) F (List.range (cO (cA mj)).size) ⟨[(0,qr h),(1,sd c)],[],[]⟩=
 some (⟨[(4,bo false),(3,.ptr (cx 1) 0 0),(2,.ptr (cx 0) 0 0),(0,qr h),(1,sd c)],[(cx 1,some (xm c)),(cx 0,some (ly h))],[(4,none),(3,none),(2,none)]⟩,[]):=by kernel_rfl
noncomputable abbrev Pi:List (Nat×AV):=[(2,.ptr 1001 0 0),(3,.ptr 1002 0 0)]
noncomputable abbrev Pc(h:aG)(c:aL):List (Nat×Option aK):=[(1001,some (ly h)),(1002,some (xm c))]
noncomputable def aqz:Nat->j9
 | 0=>ZX [1001]
 | 3=>ZX [1002]
 | 4=>⟨.ext 0,[cx 1],[],false⟩
 | 9=>aqp [cx 8]
 |_=>zd
noncomputable def m4(h:aG):Nat->j9:=λi=>if i=1 then⟨.ro [] [] [] [] [(1000,⟨4,ot 1001⟩),(1001,ly h)] (.mp 1000) false,[],[],false⟩else aqz i
noncomputable abbrev xt(h:aG)(c:aL):List (Nat×Option aK):=[(cx 1,some ⟨4,ot (cx 1+1)⟩),(cx 1+1,some (ly h))]++Pc h c
noncomputable abbrev xr(h:aG)(c:aL):List (Nat×AV):=[(11,tn c.d6),(10,.ptr 1002 0 3),(9,.mp (cx 1)),(8,qr h)]++Pi
theorem aqA{h:aG}{c:aL}{F:Nat->Option aK}:oH Tryz.prog (iB rZ) (cO (cA (cB mj))) (m4 h) F [0,1,2,3] ⟨Pi,Pc h c,[]⟩=
 some (⟨xr h c,xt h c,[11,10,9,8].map λt=>(t,none)⟩,[xy Tryz.prog 28 [qr h] [] [(1000,⟨4,ot 1001⟩),(1001,ly h)] (.mp 1000),MZ 0 [(1000,⟨4,ot 1001⟩),(1001,ly h)] (.mp 1000),Ho (dF [] ((⟨Pi,Pc h c,[]⟩:ij).st F).obj) [qr h] [] [] []]):=by kernel_rfl
end
end Go.Proofs
