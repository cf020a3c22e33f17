import Derived.Test.YtnclkjejgffdmabGreatTC1
namespace Go.Proofs
open Go.Gb Go.RowKit
open Tryz
noncomputable section
variable (n:Nat)
theorem Cj:aC 87 (Ci n) :=pD (ak (zT n) ay) func87 .z n (by kernel_rfl) λ_=>by kernel_rfl
def GV:ea xx:=⟨[.p 0,(.f 125 [] [])],[(0,gh),(1,.l aD)],[.v af],[(0,gh),(1,.l aD)],λv=>ru n v.1 v.2.1 v.2.2.1 v.2.2.2.1 v.2.2.2.2.1 v.2.2.2.2.2.1 v.2.2.2.2.2.2.1 v.2.2.2.2.2.2.2.1 v.2.2.2.2.2.2.2.2.1 v.2.2.2.2.2.2.2.2.2⟩
def GX:cw xx:=⟨[],[.d .bool],λ_=>none,some (GV n)⟩
def GY:Hn SI:=(cy (.s (.s .z (.b (.l ⟨[(5,.v af),(13,.v af)],[],[1,11,12],[0,1],1512,[]⟩ 0 ⟨[(5,.v af)],[],[],[0,1],1512,[]⟩ .z))) .z))
theorem GZ:aC 120 (GX n) :=pD (ak Ea ay) func120 GY n (by kernel_rfl) λ_=>by kernel_rfl
def Ei:ea xx:=⟨[.p 0],[(0,gh),(1,.l aD)],[.v af],[(0,gh),(1,.l aD)],λv=>kU n v.1 v.2.1 v.2.2.1 v.2.2.2.1 v.2.2.2.2.1 v.2.2.2.2.2.1 v.2.2.2.2.2.2.1 v.2.2.2.2.2.2.2.1 v.2.2.2.2.2.2.2.2.1 v.2.2.2.2.2.2.2.2.2⟩
def Ej:cw xx:=⟨[],[.d .bool],λ_=>none,some (Ei n)⟩
theorem El:aC 88 (Ej n) :=pD (ak (GZ n) ay) func88 .z n (by kernel_rfl) λ_=>by kernel_rfl
def Ck:ea xx:=⟨[.p 0,.v aA,.v af],[(0,gh),(1,.l aD)],[.v .bool],[(0,gh),(1,.l aD)],λv=>jU n v.1 v.2.1 v.2.2.1 v.2.2.2.1 v.2.2.2.2.1 v.2.2.2.2.2.1 v.2.2.2.2.2.2.1 v.2.2.2.2.2.2.2.1 v.2.2.2.2.2.2.2.2.1 v.2.2.2.2.2.2.2.2.2.1 v.2.2.2.2.2.2.2.2.2.2.1 v.2.2.2.2.2.2.2.2.2.2.2⟩
def Cm:cw xx:=⟨[],[.d .bool],λ_=>none,some (Ck n)⟩
def Cn:Hn SI:=(tR (.s (.s .z (.b (.l ⟨[(9,.v af),(27,.v af)],[],[7,25,26],[0,1,1512],2280,[]⟩ 0 ⟨[(9,.v af)],[],[7],[0,1,1512],2280,[]⟩ (cy (.s (.j ⟨[(9,.v af)],[],[7,25,26,27],[0,1,1512],2344,[]⟩ .z) .z))))) .z))
theorem Co:aC 126 (Cm n) :=pD (ak UL (ak Cc (ak JL ay))) func126 Cn n (by kernel_rfl) λ_=>by kernel_rfl
def Af:ea xx:=⟨[.p 0],[(0,gh),(1,.l aD)],[.v af],[(0,gh),(1,.l aD)],λv=>jy n v.1 v.2.1 v.2.2.1 v.2.2.2.1 v.2.2.2.2.1 v.2.2.2.2.2.1 v.2.2.2.2.2.2.1 v.2.2.2.2.2.2.2.1 v.2.2.2.2.2.2.2.2.1 v.2.2.2.2.2.2.2.2.2⟩
def Ag:cw xx:=⟨[],[.d .bool],λ_=>none,some (Af n)⟩
def Ah:Hn SI:=(cy (.s (.s .z (.b (.l ⟨[(3,.v af),(14,.v af)],[(0,gh),(1,.l aD)],[0,12,13],[],1512,[]⟩ 0 ⟨[(3,.v af)],[(0,gh),(1,.l aD)],[],[],1512,[]⟩ (cy (.s (.b (cy (.s (.b (.l ⟨[(6,.v af),(7,.v af)],[(0,gh),(1,.l aD)],[0,5,12,13,14],[1704],2024,[]⟩ 2 ⟨[(6,.v af)],[(0,gh),(1,.l aD)],[0,12,13,14],[],2024,[]⟩ .z)) .z))) .z))))) .z))
theorem Ai:aC 89 (Ag n) :=pD (ak (Co n) ay) func89 Ah n (by kernel_rfl) λ_=>by kernel_rfl
def xV:ea xx:=⟨[.v aD,.p 0],[(0,.c 1 [[.p 1]]),(1,vp),(2,.l aD)],[.v af],[(0,.c 1 [[.p 1]]),(1,vp),(2,.l aD)],λv=>kL n v.1 v.2.1 v.2.2.1 v.2.2.2.1 v.2.2.2.2.1 v.2.2.2.2.2.1 v.2.2.2.2.2.2.1 v.2.2.2.2.2.2.2.1 v.2.2.2.2.2.2.2.2.1 v.2.2.2.2.2.2.2.2.2.1 v.2.2.2.2.2.2.2.2.2.2⟩
def xW:cw xx:=⟨[],[.d .bool],λ_=>none,some (xV n)⟩
theorem xX:aC 127 (xW n) :=pD (ak (PN n) ay) func127 .z n (by kernel_rfl) λ_=>by kernel_rfl
def G5:ea xx:=⟨[.p 0,(.f 127 [] [.p 1])],[(0,vp),(1,.c 1 [[.p 0]]),(2,.l aD)],[.v af],[(0,vp),(1,.c 1 [[.p 0]]),(2,.l aD)],λv=>rz n v.1 v.2.1 v.2.2.1 v.2.2.2.1 v.2.2.2.2.1 v.2.2.2.2.2.1 v.2.2.2.2.2.2.1 v.2.2.2.2.2.2.2.1 v.2.2.2.2.2.2.2.2.1 v.2.2.2.2.2.2.2.2.2⟩
def G6:cw xx:=⟨[],[.d .bool],λ_=>none,some (G5 n)⟩
def G7:Hn SI:=(cy (.s (.s .z (.b (.l ⟨[(5,.v af),(13,.v af)],[(0,vp),(1,.c 1 [[.p 0]]),(2,.l aD)],[1,11,12],[],1512,[]⟩ 0 ⟨[(5,.v af)],[(0,vp),(1,.c 1 [[.p 0]]),(2,.l aD)],[],[],1512,[]⟩ .z))) .z))
theorem G8:aC 120 (G6 n) :=pD (ak (xX n) ay) func120 G7 n (by kernel_rfl) λ_=>by kernel_rfl
def Aj:ea xx:=⟨[.p 0],[(0,gh),(1,.l aD)],[.v af],[(0,gh),(1,.l aD)],λv=>jA n v.1 v.2.1 v.2.2.1 v.2.2.2.1 v.2.2.2.2.1 v.2.2.2.2.2.1 v.2.2.2.2.2.2.1 v.2.2.2.2.2.2.2.1 v.2.2.2.2.2.2.2.2.1 v.2.2.2.2.2.2.2.2.2⟩
def Ak:cw xx:=⟨[],[.d .bool],λ_=>none,some (Aj n)⟩
theorem Al:aC 90 (Ak n) :=pD (ak (G8 n) ay) func90 .z n (by kernel_rfl) λ_=>by kernel_rfl
def adM:cw xx:=⟨[.d gI,.d (.st SI.Lot),.d eT],[.fresh gL],λa=>kM n a.1 a.2.1 a.2.2.1,none⟩
def adN:Hn SI:=(cy (.s (.j ⟨[],[(1384,.c 10 [[.v (.sl bA),.v (.sl aX),.v (.sl bD),.v (.sl aV),.v (.sl bH),.v (.sl bE),.v (.sl aW),.v af,.v (.sl aA),.nil]])],[5,7],[1128],1512,[]⟩ .z) (.s (.s .z (.b (.l ⟨[(31,.v af)],[(1384,IF),(1960,.l aD)],[7,29,30],[1768],1961,[(6668873,aD)]⟩ 0 ⟨[],[(1384,IF),(1960,.l aD)],[7],[],1961,[]⟩ (cy (.s (.j ⟨[],[(1384,.c 10 [[.v (.sl bA),.v (.sl aX),.v (.sl bD),.v (.sl aV),.v (.sl bH),.v (.sl bE),.v (.sl aW),.v af,.v (.sl aA),.o 2025]]),(2025,.l aD)],[7,29,30,31],[1768],2026,[]⟩ (.b (.s .z (.s (.j ⟨[(41,.v .bool)],[],[7,9,29,30,31],[1384,1768,1960,2217],2409,[]⟩ .z) .z)))) .z))))) (cy (.s (.s .z (.b (.un .z (.un .z (.un .z (.un .z (.un .z (.un .z (.un .z (.un .z (.un .z (.un .z .z)))))))))))) .z)))))
theorem PO:aC 54 (adM n) :=cq (ak (oK n) (ak (Br n) (ak kZ (ak (GL n) (ak (Ee n) (ak (Eh n) (ak (Cg n) (ak (Cj n) (ak (El n) (ak (Ai n) (ak (Al n) ay))))))))))) func54 adN n
def RN:cw xx:=⟨[.d (.sl gL),.d gL],[.d af],λa=>zB n a.1 a.2.1,none⟩
def RO:Hn SI:=(.s .z (.s (.s .z (.b (.lx ⟨[(8,.v af)],[],[0,3,7],[1000],1320,[]⟩ 0 ⟨[],[],[],[],1320,[]⟩ .z))) .z))
theorem RP:aC 79 (RN n) :=cq ay func79 RO n
def KX:cw xx:=⟨[.d (.sl gL),.d gL],[.d .bool],λa=>uJ n a.1 a.2.1,none⟩
theorem KY:aC 53 (KX n) :=cq (ak (RP n) ay) func53 .z n
def vk:cw xx:=⟨[.d dL,.ref dx],[.d .bool],λa=>l7 n a.1 a.2.1,none⟩
theorem FZ:aC 52 (vk n) :=cq (ak (DZ n) (ak (PO n) (ak (KY n) ay))) func52 .z n
def aaz:cw xx:=⟨[.d eT],[.fresh aD],λa=>xC n a.1,none⟩
theorem L8:aC 169 (aaz n) :=cq (ak (Br n) ay) func169 .z n
def Y2:cw xx:=⟨[.d (.st SI.Hj),.d (.st SI.Hj)],[.d .bool],λa=>yC a.1 a.2.1,none⟩
theorem Y3:aC 210 Y2 :=cq (ak Cc ay) func210 .z 0
def PS:cw xx:=⟨[.d aD,.ref aD],[.d .bool],λa=>sD a.1 a.2.1,none⟩
theorem PU:aC 209 PS :=cq (ak Y3 ay) func209 .z 0
def G9:cw xx:=⟨[.d (.sl aD),.eE [aD] .bool],[.d af],λa=>rC n a.1 a.2.1,none⟩
def He:Hn SI:=(.s .z (.s (.s .z (.b (.lx ⟨[(8,.v af)],[],[0,1,7],[],1256,[]⟩ 0 ⟨[],[],[],[],1256,[]⟩ .z))) .z))
theorem Hf:aC 185 (G9 n) :=cq ay func185 He n
def Cq:cw xx:=⟨[.d (.sl aD),.eE [aD] .bool],[.d .bool],λa=>fO n a.1 a.2.1,none⟩
theorem rW:aC 140 (Cq n) :=cq (ak (Hf n) ay) func140 .z n
def adO:cw xx:=⟨[.d (.int .u8)],[.d .bool],λa=>Fe a.1,none⟩
theorem PV:aC 255 adO :=cq ay func255 .z 0
def aiL:cw xx:=⟨[.d .str,.eE [.int .u8] .bool],[.d af],λa=>OO n a.1 a.2.1,none⟩
def aiM:Hn SI:=(cy (.s (.b (.l ⟨[(5,.v af)],[],[0,1],[],1128,[]⟩ 0 ⟨[(5,.v af)],[],[],[],1128,[]⟩ (.s (.s (.j ⟨[(16,.v .bool)],[],[0,1,5],[],1128,[]⟩ .z) .z) .z))) .z))
theorem aiN:aC 256 (aiL n) :=cq ay func256 aiM n
def agG:cw xx:=⟨[.d (.int .u8)],[.d .bool],λa=>QZ a.1,none⟩
theorem agH:aC 258 agG :=cq ay func258 .z 0
def aaA:cw xx:=⟨[.d (.int .u8)],[.d .bool],λa=>AY a.1,none⟩
theorem aaB:aC 257 aaA :=cq (ak PV (ak agH ay)) func257 .z 0
def aiO:cw xx:=⟨[.d .str],[.d .bool],λa=>OQ n a.1,none⟩
def aiP:Hn SI:=(.s .z (.s (.s (.j ⟨[(15,.v .bool)],[],[0],[],1064,[]⟩ .z) .z) .z))
theorem aiQ:aC 236 (aiO n) :=cq (ak PV (ak (aiN n) (ak aaB ay))) func236 aiP n
def M6:cw xx:=⟨[.d .str,.d .str],[.d .bool],λa=>strings_Contains a.1 a.2.1,none⟩
theorem M7:aC 237 M6:=by
 have hcall:eF Tryz.prog 237:=⟨_,func237,by kernel_rfl,by kernel_rfl⟩;refine ws hcall (λ a r h=>?_) rfl;obtain⟨s,b,⟨⟩⟩:=a;have h':strings_Contains s b=some r:=h;unfold strings_Contains at h';cases hb:Nat.ble s.size 4000000 with
 |false=>rw[hb]at h';cases h'
 |true=>
  rw[hb]at h';have h'':some (Lib.contains s.data.toList b.data.toList)=some r:=h';injection h'' with e;subst e;have hw:=Nat.le_of_ble_eq_true hb;exact ada (g:=0) rfl hcall λm w hm=>afu s b m w (by omega) hm
def aaC:cw xx:=⟨[.d .str],[.d .bool],λa=>xD n a.1,none⟩
theorem aaD:aC 211 (aaC n) :=cq (ak (aiQ n) (ak M7 ay)) func211 .z n
def Y4:cw xx:=⟨[.d eT],[.d .bool],λa=>yD n a.1,none⟩
def Y5:Hn SI:=(cy (.s (.s (.j ⟨[(42,.v .bool)],[],[1,3],[1000,1192],1320,[]⟩ .z) .z) (.s (.s .z (.b (.lx ⟨[(45,.v af)],[],[1,3,43,44],[1000,1192],1512,[]⟩ 0 ⟨[],[],[1],[1000],1512,[]⟩ (cy (.s (.b (.s .z (.s (.j ⟨[(59,.v .bool)],[],[1,3,43,44,45],[1000,1192],1960,[]⟩ .z) .z))) .z))))) (.s (.s .z (.b (.lx ⟨[(64,.v af)],[],[62,63],[],1768,[]⟩ 2 ⟨[],[],[],[],1768,[]⟩ (cy (.s (.b (cy (.s (.s .z (.b (.lx ⟨[(72,.v af)],[(2088,.m .str .bool)],[7,8,62,63,64,70,71],[1960],2472,[]⟩ 4 ⟨[],[],[7,62,63,64],[1960],2472,[]⟩ (cy (.s (.b (.s .z (.s (.s (.j ⟨[(95,.v .bool)],[],[7,8,10,62,63,64,70,71,72],[1960,2088,2664],2792,[]⟩ .z) .z) .z))) .z))))) .z))) .z))))) .z))))
theorem Y6:aC 168 (Y4 n) :=cq (ak (L8 n) (ak kZ (ak (rW n) (ak PU (ak (aaD n) ay))))) func168 Y5 n
def vF:cw xx:=⟨[.d (.sl (.st SI.strip)),.d af,.eE [.st SI.strip,af] af],[.d af,.d .bool],λa=>jg n a.1 a.2.1 a.2.2.1,none⟩
def vG:Hn SI:=(jj (.s (.b (.l ⟨[(9,.v af),(10,.v af)],[],[0,1,2,8],[],1512,[]⟩ 0 ⟨[(9,.v af)],[],[0,1,2,8],[],1512,[]⟩ .z)) .z))
theorem vH:aC 262 (vF n) :=cq ay func262 vG n
def aiR:cw xx:=⟨[.d (.st SI.strip),.d af],[.d af],λa=>xE a.1 a.2.1,none⟩
theorem aiS:aC 263 aiR :=cq ay func263 .z 0
def apr:cw xx:=⟨[.d (.sl (.st SI.strip)),.d af],[.d (.sl (.st SI.span))],λa=>XR n a.1 a.2.1,none⟩
def aps:Hn SI:=(cy (.s (.s (.j ⟨[(25,.v .bool)],[],[0,5],[],1576,[]⟩ .z) .z) .z))
theorem apt:aC 239 (apr n) :=cq (ak (vH n) (ak aiS ay)) func239 aps n
def Y7:cw xx:=⟨[.nil,.d af],[.fresh (.st SI.span)],λa=>OT a.1 a.2.1,none⟩
theorem Y8:aC 281 Y7 :=cq ay func281 .z 0
def RQ:cw xx:=⟨[.d (.sl (.sl (.st SI.span)))],[.fresh (.st SI.span)],λa=>zC n a.1,none⟩
def RS:Hn SI:=(cy (.s (.s .z (.b (.l ⟨[(3,.v af),(11,.v af)],[],[0,9,10],[],1320,[]⟩ 0 ⟨[(3,.v af)],[],[0],[],1320,[]⟩ .z))) (.s .z (.s (.s .z (.b (.l ⟨[(6,.o 1704),(27,.v af)],[(1704,.l (.st SI.span))],[25,26],[],1705,[]⟩ 2 ⟨[(6,.o 1704)],[(1704,.l (.st SI.span))],[],[],1705,[]⟩ .z))) .z))))
theorem RU:aC 260 (RQ n) :=cq (ak Y8 ay) func260 RS n
def wE:cw xx:=⟨[.d (.sl (.st SI.span)),.d af,.eE [.st SI.span,af] af],[.d af,.d .bool],λa=>jH n a.1 a.2.1 a.2.2.1,none⟩
def wF:Hn SI:=(jj (.s (.b (.l ⟨[(9,.v af),(10,.v af)],[],[0,1,2,8],[],1512,[]⟩ 0 ⟨[(9,.v af)],[],[0,1,2,8],[],1512,[]⟩ .z)) .z))
theorem wG:aC 282 (wE n) :=cq ay func282 wF n
def Y9:cw xx:=⟨[.d (.st SI.span),.d af],[.d af],λa=>l9 a.1 a.2.1,none⟩
theorem Za:aC 283 Y9 :=cq ay func283 .z 0
def agI:cw xx:=⟨[.d (.sl (.st SI.span)),.d af],[.d .bool],λa=>Dv n a.1 a.2.1,none⟩
theorem agJ:aC 261 (agI n) :=cq (ak (wG n) (ak Za ay)) func261 .z n
def aiT:cw xx:=⟨[.d (.sl (.st SI.span)),.d (.sl (.st SI.span)),.eE [.bool,.bool] .bool],[.fresh (.st SI.span)],λa=>Jd n a.1 a.2.1 a.2.2.1,none⟩
def aiU:Hn SI:=(cy (.s (.s .z (.b (.l ⟨[(7,.o 1512),(19,.v af)],[(1512,.l af)],[0,1,2,17,18],[1320],1513,[(7,af)]⟩ 0 ⟨[(7,.o 1512)],[(1512,.l af)],[0,1,2],[],1513,[]⟩ .z))) (jj (.s (.s .z (.b (.l ⟨[(10,.o 1961),(11,.v af)],[(1961,.l (.st SI.span))],[0,1,2,7],[1512],1962,[(10,.st SI.span)]⟩ 2 ⟨[(10,.o 1961)],[(1961,.l (.st SI.span))],[],[],1962,[]⟩ (.s .z (.s (.j ⟨[(10,.o 2218)],[(2218,.l (.st SI.span))],[0,1,2,7,11],[1512],2219,[]⟩ (.b (jj (.s (.j ⟨[(68,.v .bool)],[],[0,1,2,7,10,11,12,13],[1512,1961],3370,[]⟩ .z) .z)))) .z))))) .z))))
theorem aiV:aC 238 (aiT n) :=cq (ak (RU n) (ak (pO n) (ak (nT n) (ak (agJ n) ay)))) func238 aiU n
def adP:cw xx:=⟨[.d (.sl aA),.d (.sl aA),.eE [.bool,.bool] .bool],[.d (.sl aA),.d af],λa=>Ff n a.1 a.2.1 a.2.2.1,none⟩
def adQ:Hn SI:=(.s .z (.s (.s (.j ⟨[(20,.v .bool)],[],[0,1,2],[],1128,[]⟩ .z) .z) (.s (.f [6,7]) (.s .z (.s (.s .z (.b (.l ⟨[(33,.v af)],[(1832,.l (.st SI.strip))],[2,8,9,10,31,32],[],2152,[]⟩ 0 ⟨[],[(1832,.l (.st SI.strip))],[10],[],2152,[]⟩ .z))) .z)))))
theorem adR:aC 212 (adP n) :=cq (ak (oK n) (ak (TH n) (ak (apt n) (ak (aiV n) (ak (YW n) (ak Pp ay)))))) func212 adQ n
def Zb:cw xx:=⟨[.d .bool,.d .bool],[.d .bool],λa=>yE a.1 a.2.1,none⟩
theorem Zc:aC 213 Zb :=cq ay func213 .z 0
def agK:cw xx:=⟨[.d (.sl aA),.d (.sl aA)],[.d (.sl aA),.d af],λa=>Ku n a.1 a.2.1,none⟩
theorem agL:aC 170 (agK n) :=cq (ak (adR n) (ak Zc ay)) func170 .z n
def M8:cw xx:=⟨[.d bH,.ref gL],[.d .bool],λa=>wh a.1 a.2.1,none⟩
theorem M9:aC 172 M8 :=cq ay func172 .z 0
def Na:cw xx:=⟨[.d (.sl bH),.eE [bH] .bool],[.d af],λa=>wm n a.1 a.2.1,none⟩
def Nb:Hn SI:=(.s .z (.s (.s .z (.b (.lx ⟨[(8,.v af)],[],[0,1,7],[],1256,[]⟩ 0 ⟨[],[],[],[],1256,[]⟩ .z))) .z))
theorem Nc:aC 214 (Na n) :=cq ay func214 Nb n
def Hg:cw xx:=⟨[.d (.sl bH),.eE [bH] .bool],[.d .bool],λa=>nJ n a.1 a.2.1,none⟩
theorem Hl:aC 171 (Hg n) :=cq (ak (Nc n) ay) func171 .z n
def UM:cw xx:=⟨[.d gI,.d (.st SI.Lot),.d eT],[.d .bool],λa=>pK n a.1 a.2.1 a.2.2.1,none⟩
def UN:Hn SI:=(.s .z (.s (.s (.j ⟨[(30,.v .bool)],[],[3,4,5],[1000,1064,1128],1256,[]⟩ .z) .z) (.s (.s .z (.b (.lx ⟨[(34,.v af)],[],[3,4,5,32,33],[1000,1064,1128,1320],1512,[]⟩ 0 ⟨[],[],[3,5],[1000,1128],1512,[]⟩ (cy (.s (.b (cy (.s (.j ⟨[(58,.v .bool)],[],[3,4,5,32,33,34],[1000,1064,1128,1320],2600,[]⟩ .z) .z))) .z))))) (.s (.s .z (.b (.lx ⟨[(63,.v af)],[],[3,61,62],[1000],1768,[]⟩ 2 ⟨[],[],[],[],1768,[]⟩ (cy (.s (.b (cy (.b (.lx ⟨[(70,.v af)],[],[3,61,62,63,68,69],[1000],2344,[]⟩ 4 ⟨[],[],[3,61,62,63],[1000],2344,[]⟩ .z)))) .z))))) .z))))
theorem UO:aC 129 (UM n) :=cq (ak (Y6 n) (ak (oK n) (ak (L8 n) (ak (agL n) (ak (acd n) (ak JL (ak (Hl n) (ak M9 ay)))))))) func129 UN n
def RX:cw xx:=⟨[.d eT],[.fresh aD],λa=>uK n a.1,none⟩
def RY:Hn SI:=(cy (.s (.s .z (.b (.l ⟨[(3,.o 1448),(9,.v af)],[(1448,.l aD)],[7,8],[],1449,[(3,aD)]⟩ 0 ⟨[(3,.o 1448)],[(1448,.l aD)],[],[],1449,[]⟩ .z))) .z))
theorem RZ:aC 130 (RX n) :=cq ay func130 RY n
def R3:cw xx:=⟨[.d (.sl (.st SI.j8))],[.fresh (.st SI.side)],λa=>qp n a.1,none⟩
def R4:Hn SI:=(cy (.s (.s .z (.b (.l ⟨[(10,.v af)],[(1192,.l (.st SI.side))],[0,3,9],[],1512,[]⟩ 0 ⟨[],[(1192,.l (.st SI.side))],[3],[],1512,[]⟩ .z))) .z))
theorem Em:aC 265 (R3 n) :=cq ay func265 R4 n
def R5:cw xx:=⟨[.d (.st SI.j8)],[.d .bool],λa=>uL a.1,none⟩
theorem R6:aC 284 R5 :=cq ay func284 .z 0
def F3:cw xx:=⟨[.d (.st SI.side)],[.d .bool],λa=>gM a.1,none⟩
theorem vo:aC 266 F3 :=cq ay func266 .z 0
def adS:cw xx:=⟨[.d (.sl af)],[.d af],λa=>wu n a.1,none⟩
def adT:Hn SI:=(cy (.s (.s .z (.b (.lx ⟨[(8,.v af)],[],[3,6,7],[],1320,[]⟩ 0 ⟨[],[],[3],[],1320,[]⟩ .z))) .z))
theorem PW:aC 240 (adS n) :=cq ay func240 adT n
def PX:cw xx:=⟨[.d (.st SI.j8),.d (.st SI.j8)],[.d af],λa=>sF n a.1 a.2.1,none⟩
theorem PY:aC 285 (PX n) :=cq (ak qb (ak (PW n) ay)) func285 .z n
def F4:cw xx:=⟨[.d (.st SI.side),.d (.st SI.side)],[.d .bool],λa=>mh a.1 a.2.1,none⟩
theorem F5:aC 286 F4 :=cq ay func286 .z 0
def UQ:cw xx:=⟨[.d (.sl (.st SI.j8))],[.d .bool],λa=>wM n a.1,none⟩
def UR:Hn SI:=(.s .z (.s (.s (.j ⟨[(16,.v .bool)],[],[0],[],1064,[]⟩ .z) .z) (.s .z (.s (.s .z (.b (.lx ⟨[(21,.v af)],[],[0,3,19,20],[1128],1448,[]⟩ 0 ⟨[],[],[3],[1128],1448,[]⟩ (cy (.s (.b (cy (.s (.s (.j ⟨[(61,.v .bool)],[],[0,3,4,19,20,21],[1128],2536,[]⟩ .z) .z) (.s (.j ⟨[(74,.v .bool)],[],[0,3,19,20,21],[1128],2536,[]⟩ .z) .z)))) .z))))) (.s (.s .z (.b (.lx ⟨[(78,.v af)],[],[3,77],[1128],1640,[]⟩ 2 ⟨[],[],[3],[1128],1640,[]⟩ (cy (.s (.b (cy (.b (.lx ⟨[(8,.v af)],[],[3,7,77,78],[1128],2024,[]⟩ 4 ⟨[],[],[3,77,78],[1128],2024,[]⟩ (.s .z (.s (.b (.s (.j ⟨[(106,.v .bool)],[],[3,7,8,77,78],[1128],2280,[]⟩ .z) .z)) .z)))))) .z))))) .z)))))
theorem UU:aC 264 (UQ n) :=cq (ak (Em n) (ak R6 (ak vo (ak (PY n) (ak F5 ay))))) func264 UR n
def R7:cw xx:=⟨[.d (.sl (.st SI.j8))],[.fresh aA,.d af],λa=>uM n a.1,none⟩
def R8:Hn SI:=(jj (.s (.s .z (.b (.l ⟨[(4,.o 1576),(19,.v af)],[(1576,.l af)],[0,17,18],[],1577,[(4,af)]⟩ 0 ⟨[(4,.o 1576)],[(1576,.l af)],[0],[],1577,[]⟩ .z))) (tR (.s (.s .z (.b (.l ⟨[(8,.o 2409),(38,.v af)],[(2409,.l aA)],[4,7,37],[1576,1961],2410,[(8,aA)]⟩ 2 ⟨[(8,.o 2409)],[(2409,.l aA)],[],[],2410,[]⟩ (cy (.s (.b (cy (.s (.s .z (.b (.l ⟨[(10,.o 2858),(43,.v af)],[(2858,.l af)],[4,7,8,9,37,38,41,42],[1576,1961,2409],2859,[(10,af)]⟩ 4 ⟨[(10,.o 2858)],[(2858,.l af)],[4,7,8,9,37,38],[1576,1961,2409],2859,[]⟩ (cy (.s (.j ⟨[(10,.o 2923)],[(2923,.l af)],[4,7,8,9,37,38,41,42,43],[1576,1961,2409],2924,[]⟩ (.b (.s .z (.s (.j ⟨[(77,.v .bool)],[],[4,7,8,9,10,12,37,38,41,42,43],[1576,1961,2409,2858,3051],3179,[]⟩ .z) .z)))) .z))))) (cy (.b (.l ⟨[(8,.o 3051),(13,.v af)],[(3051,.l aA)],[4,7,9,10,37,38],[1576,1961,2858],3052,[]⟩ 6 ⟨[(8,.o 3051)],[(3051,.l aA)],[4,7,37,38],[1576,1961],3052,[]⟩ .z)))))) .z))))) .z))))
theorem R9:aC 241 (R7 n) :=cq (ak (UU n) (ak (pO n) (ak (nT n) (ak (Em n) (ak vo ay))))) func241 R8 n
def Zd:cw xx:=⟨[.d bD],[.fresh aA],λa=>yF n a.1,none⟩
theorem Ze:aC 216 (Zd n) :=cq (ak (R9 n) ay) func216 .z n
def UW:cw xx:=⟨[.d (.sl aA),.d (.sl aA)],[.d af,.d (.st SI.j8)],λa=>wO n a.1 a.2.1,none⟩
def UX:Hn SI:=(cy (.s (.s .z (.b (.l ⟨[(6,.v af),(18,.v af)],[(1192,wy)],[1,5,7,16,17],[1064],1576,[]⟩ 0 ⟨[(6,.v af)],[(1192,wy)],[5,7],[1064],1576,[]⟩ (cy (.s (.b (cy (.b (.l ⟨[(6,.v af),(24,.v af)],[(1192,wy)],[1,5,7,9,16,17,18,22,23],[1064,1768],2088,[]⟩ 2 ⟨[(6,.v af)],[(1192,wy)],[1,5,7,16,17,18],[1064],2088,[]⟩ (cy (.s (.j ⟨[(6,.v af)],[(1192,wy)],[1,5,7,9,16,17,18,22,23,24],[1064,1768],2152,[]⟩ .z) .z)))))) .z))))) .z))
theorem UY:aC 215 (UW n) :=cq (ak Cc (ak JL (ak qb (ak (PW n) ay)))) func215 UX n
def UZ:cw xx:=⟨[.d gI,.d (.sl aA)],[.fresh af],λa=>wP n a.1 a.2.1,none⟩
def U0:Hn SI:=(jj (.s (.s .z (.b (.l ⟨[(5,.o 1640),(16,.v af)],[(1640,.l af)],[1,14,15],[],1641,[(5,af)]⟩ 0 ⟨[(5,.o 1640)],[(1640,.l af)],[],[],1641,[]⟩ .z))) .z))
theorem U1:aC 173 (UZ n) :=cq (ak (oK n) (ak (Ze n) (ak (UY n) ay))) func173 U0 n
def agM:cw xx:=⟨[.d gI,.d (.sl aA)],[.fresh .str],λa=>Dw n a.1 a.2.1,none⟩
def agN:Hn SI:=(jj (.s (.s .z (.b (.l ⟨[(6,.v af),(17,.v af)],[],[2,5,15,16],[1000,1256],1640,[]⟩ 0 ⟨[(6,.v af)],[],[2,5],[1000,1256],1640,[]⟩ (cy (.s (.j ⟨[(6,.v af)],[],[2,5,15,16,17],[1000,1256],1704,[]⟩ (.b (.s .z (.s (.j ⟨[(44,.v .bool)],[],[2,5,6,7,15,16,17],[1000,1256],2024,[]⟩ .z) .z)))) .z))))) (.s .z (.s (.s .z (.b (.l ⟨[(9,.o 1896),(49,.v af)],[(1896,.l .str)],[2,6,47,48],[1000,1256],1897,[(9,.str)]⟩ 2 ⟨[(9,.o 1896)],[(1896,.l .str)],[],[],1897,[]⟩ (cy (.s (.j ⟨[(9,.o 1961)],[(1961,.l .str)],[2,6,47,48,49],[1000,1256],1962,[]⟩ (.b (.s .z (.s (.j ⟨[(68,.v .bool)],[],[2,6,9,10,47,48,49],[1000,1256,1896],2281,[]⟩ .z) .z)))) .z))))) .z))))
theorem agO:aC 131 (agM n) :=cq (ak (U1 n) ay) func131 agN n
def aaE:cw xx:=⟨[.d (.st SI.pw),.d eT],[.d (.st SI.lj),.d af],λa=>AZ n a.1 a.2.1,none⟩
theorem aaF:aC 92 (aaE n) :=cq (ak (DZ n) (ak (UO n) (ak (RZ n) (ak (agO n) ay)))) func92 .z n
def Nf:cw xx:=⟨[.d .str,.ref (.sl .str)],[.d .bool],λa=>kF n a.1 a.2.1,none⟩
theorem Ng:aC 174 (Nf n) :=cq (ak (jm n) ay) func174 .z n
def Ho:cw xx:=⟨[.d (.sl .str),.eE [.str] .bool],[.d af],λa=>rD n a.1 a.2.1,none⟩
def Hq:Hn SI:=(.s .z (.s (.s .z (.b (.lx ⟨[(8,.v af)],[],[0,1,7],[],1256,[]⟩ 0 ⟨[],[],[],[],1256,[]⟩ .z))) .z))
theorem Hr:aC 217 (Ho n) :=cq ay func217 Hq n
def Cr:cw xx:=⟨[.d (.sl .str),.eE [.str] .bool],[.d .bool],λa=>fP n a.1 a.2.1,none⟩
theorem Cs:aC 175 (Cr n) :=cq (ak (Hr n) ay) func175 .z n
def U2:cw xx:=⟨[.d aV,.d (.sl .str)],[.d .bool],λa=>rQ n a.1 a.2.1,none⟩
theorem U3:aC 132 (U2 n) :=cq (ak (Cs n) (ak (Ng n) ay)) func132 .z n
def Zf:cw xx:=⟨[.d gI,.d (.sl .str),.d af],[.fresh af],λa=>uN n a.1 a.2.1 a.2.2.1,none⟩
def Zg:Hn SI:=(cy (.s (.s .z (.b (.l ⟨[(7,.o 1448),(13,.v af)],[(1448,.l af)],[1,2,11,12],[],1449,[(7,af)]⟩ 0 ⟨[(7,.o 1448)],[(1448,.l af)],[],[],1449,[]⟩ (cy (.s (.j ⟨[(7,.o 1513)],[(1513,.l af)],[1,2,11,12,13],[],1514,[]⟩ (.b (.s .z (.s (.j ⟨[(37,.v .bool)],[],[1,2,7,8,11,12,13],[1448],1897,[]⟩ .z) .z)))) .z))))) .z))
theorem Zh:aC 94 (Zf n) :=cq (ak (U3 n) ay) func94 Zg n
def aiW:cw xx:=⟨[.d af],[.d af,.d .bool],λa=>zD a.1,none⟩
def aiX:Hn SI:=(.s .z (.s (.s .z (.b (.s (.j ⟨[(5,.v .bool)],[],[0,4],[],1192,[]⟩ .z) (.s .z (.s (.j ⟨[(10,.v .bool)],[],[0,4],[],1192,[]⟩ .z) .z))))) .z))
theorem aiY:aC 242 aiW :=cq ay func242 aiX 0
def agP:Hn SI:=(cy (.s (.s (.j ⟨[(28,.v .bool)],[],[1,2],[1000],1640,[]⟩ .z) .z) (.s .z (.s (.s .z (.b (.l ⟨[(7,.v af),(32,.v af)],[],[1,30,31],[],1960,[]⟩ 0 ⟨[(7,.v af)],[],[],[],1960,[]⟩ .z))) .z))))
theorem adU(rc:(dh)->(Int)->Option Int)(hr:aC 218 (Fh rc)):aC 218 (Fh (A7 n rc)) :=cq (ak aiY (ak hr ay)) func218 agP n
theorem PZ(n:Nat):∀m,aC 218 (Fh (tJ n m))
 | 0=>ws (qh func218 (by kernel_rfl:Tryz.f218.body=some (Tryz.f218.body.getD .skip)) (by kernel_rfl)) (λ _ _ h=>(by cases h)) rfl
 |m+1=>adU n _ (PZ n m)
def agQ:cw xx:=⟨[.d (.st SI.Expr),.d af],[.d af],λa=>Q0 n a.1 a.2.1,none⟩
theorem agR:aC 218 (agQ n):=PZ n n
def aiZ:cw xx:=⟨[.d (.st SI.Expr)],[.d .bool],λa=>Je n a.1,none⟩
theorem Zi:aC 176 (aiZ n) :=cq (ak (agR n) ay) func176 .z n
mutual
theorem apu:∀g:dh,(toE g).wt<=4000000->tt (toE g) (sj g)
 |⟨op,n,s,key,args⟩,h=>by simp only[toE,ET.wt]at h;have:=ET.sq (Jf args);simp only[toE,sj,tt];exact⟨n,key,_,rfl,by unfold maxLen;omega,by omega,Zj args (by omega)⟩
theorem Zj:∀l:List dh,ET.ur (Jf l)<=4000000->pd (Jf l) (uo l)
 |[],_=>by simp only[Jf,uo,pd]
 |x::xs,h=>by simp only[Jf,ET.ur]at h;simp only[Jf,uo,pd];exact⟨_,_,rfl,apu x (by omega),Zj xs (by omega)⟩
end
def P5:cw xx:=⟨[],[.d .bool],λ_=>none,some ⟨[.v (.sl bA)],[],[.p 1000],[(1000,ta)],λv=>lM v⟩⟩
theorem agS:∀l:List gK,s9 (l.map toD)<=4000000->pf (l.map toD) (l.map BL)
 |[],_=>by simp only[List.map_nil,pf]
 |x::xs,h=>by simp only[bG,s9,List.foldr_cons,toD,ET.wt]at h;have:=ET.sq (Jf x.fj);simp only[bG,pf];refine⟨_,_,rfl,⟨_,_,_,_,_,rfl,by simp only[toD];unfold maxLen;omega,?_⟩,agS xs (by simp only[s9];omega)⟩;simp only[toD,tt];exact⟨_,_,_,rfl,by unfold maxLen;omega,by omega,by rw[<- uq];exact Zj _ (by omega)⟩
theorem P6:aC 243 P5:=by
 have hcall:eF Tryz.prog 243:=⟨_,func243,by kernel_rfl,by kernel_rfl⟩;refine ap3 hcall ?_;intro v r hr;have h':lM v=some r:=hr;unfold lM at h';cases hb:Nat.ble (s9 (List.map toD v)) 4000000 with
 |false=>rw[hb]at h';cases h'
 |true=>
  rw[hb]at h';have h'':some (v,pU (List.map toD v))=some r:=h';injection h'' with e;subst e;have hw:=Nat.le_of_ble_eq_true hb;have hlen:=Vp (List.map toD v);have hn:∀d∈List.map toD v,d.2.names.length<=4000000:=λd hd=>by have h1:=Vq hd;have h2:=ET.p4 d.2;omega
  exact ac9 (TL:=41) (TG:=350) (TI:=3) hcall (agS v hw) λsv w hS=>aoM (List.map toD v) (by omega) (λ d hd=>Nat.le_trans (hn d hd) (by omega))
   (λ d hd v0 v1 v2 v3 v4 w hE=>callsIn_wide.1 (am2 0 d.2 v0 v1 v2 v3 v4 w hE (Nat.le_trans (hn d hd) (by omega)))) sv w hS
def U4:cw xx:=⟨[.d (.sl af),.d af],[.fresh af],λa=>rR a.1 a.2.1,none⟩
theorem U5:aC 304 U4:=by
 have hcall:eF Tryz.prog 304:=⟨_,func304,by kernel_rfl,by kernel_rfl⟩;refine ws hcall (λ a r h=>?_) rfl;obtain⟨l,c,⟨⟩⟩:=a;have h':rR l c=some r:=h
 match l,h' with
 |[x],h'=>
  simp only[rR]at h';cases hb:(decide (0<=c)&&decide (c<=1000000000000))with
  |false=>rw[hb]at h';cases h'
  |true=>
   rw[hb]at h';have h'':some (List.replicate c.toNat x)=some r:=h';injection h'' with e;subst e;simp only[aY,bF]at hb;obtain⟨h1,h2⟩:=hb;obtain⟨k,hk⟩:=Int.eq_ofNat_of_zero_le h1;subst hk;exact ahV (E:=3) (c:=k) hcall λa cap w hx=>akV x k (Int.ofNat_le.1 (by simpa using h2)) a cap w hx
def Ct:cw xx:=⟨[.ref (.st SI.graph),.d af],[.fresh af],λa=>jW n a.1 a.2.1,none⟩
def Cu:Hn SI:=(tR (.s (.b (.l ⟨[(6,.od 2024)],[(1448,.l af),(2024,.l af)],[0,5],[],2025,[]⟩ 0 ⟨[],[(1448,.l af)],[5],[],2024,[]⟩ (.s .z (.b (jj (.b (.l ⟨[(6,.od 3049),(35,.v af)],[(1448,.l af),(3049,.l af)],[0,5,7,33,34],[],3050,[]⟩ 2 ⟨[(6,.od 3049)],[(1448,.l af),(3049,.l af)],[0,5],[],3050,[]⟩ (cy (.s (.j ⟨[(6,.od 3114)],[(1448,.l af),(3114,.l af)],[0,5,7,33,34,35],[],3115,[]⟩ (.b (.s .z (.s (.j ⟨[(49,.v .bool)],[],[0,5,6,7,8,33,34,35],[1448,3049],3434,[]⟩ .z) .z)))) .z))))))))) .z))
theorem Cv:aC 290 (Ct n) :=cq (ak U5 (ak (Bo n) ay)) func290 Cu n
def Nh:cw xx:=⟨[.d .str],[.d .bool],λa=>cmp_isNaN_string a.1,none⟩
theorem Ni:aC 305 Nh :=cq ay func305 .z 0
def JM:cw xx:=⟨[.d .str,.d .str],[.d af],λa=>oC a.1 a.2.1,none⟩
theorem JN:aC 291 JM :=cq (ak Ni ay) func291 .z 0
def KZ:cw xx:=⟨[.d (.sl .str),.d (.sl .str)],[.d af],λa=>mG n a.1 a.2.1,none⟩
def K3:Hn SI:=(.s .z (.s (.s .z (.b (.lx ⟨[(11,.v af)],[],[0,1,9,10],[],1256,[]⟩ 0 ⟨[],[],[0,1],[],1256,[]⟩ .z))) .z))
theorem K4:aC 269 (KZ n) :=cq (ak JN ay) func269 K3 n
def zU:ea xx:=⟨[.v af,.p 0],[(0,sf),(1,.l .bool)],[.v .bool],[(0,sf),(1,.l .bool)],λv=>ny v.1 v.2⟩
def zV:cw xx:=⟨[],[.d .bool],λ_=>none,some (zU)⟩
theorem zW:aC 271 zV :=pD ay func271 .z 0 (by kernel_rfl) λ_=>by kernel_rfl
def Ht:ea xx:=⟨[.v (.sl af),(.f 271 [] [.p 0])],[(0,sf),(1,.l .bool)],[.v af],[(0,sf),(1,.l .bool)],λv=>nK n v.1 v.2⟩
def Hu:cw xx:=⟨[],[.d .bool],λ_=>none,some (Ht n)⟩
def Hw:Hn SI:=(.s .z (.s (.s .z (.b (.lx ⟨[(8,.v af)],[(0,sf),(1,.l .bool)],[0,1,7],[],1256,[]⟩ 0 ⟨[],[(0,sf),(1,.l .bool)],[],[],1256,[]⟩ .z))) .z))
theorem Hy:aC 292 (Hu n) :=pD (ak zW ay) func292 Hw n (by kernel_rfl) λ_=>by kernel_rfl
def Cw:ea xx:=⟨[.v (.sl af),(.f 271 [] [.p 0])],[(0,sf),(1,.l .bool)],[.v .bool],[(0,sf),(1,.l .bool)],λv=>iA n v.1 v.2⟩
def Cx:cw xx:=⟨[],[.d .bool],λ_=>none,some (Cw n)⟩
theorem Cy:aC 270 (Cx n) :=pD (ak (Hy n) ay) func270 .z n (by kernel_rfl) λ_=>by kernel_rfl
def JO:cw xx:=⟨[.ref (.st SI.graph)],[.fresh af],λa=>oD n a.1,none⟩
def JP:Hn SI:=(jj (.s (.s .z (.b (.l ⟨[(4,.o 2024),(20,.v af)],[(1448,yz),(2024,.l af),(1384,.l .bool)],[0,3,19],[],2025,[(4,af)]⟩ 0 ⟨[(4,.o 2024)],[(2024,.l af)],[],[],2025,[]⟩ (cy (.s (.b (.s .z (.s (.s .z (.b (.l ⟨[(5,.v af),(27,.v af)],[(1448,yz),(1384,.l .bool)],[0,3,4,19,20,25,26],[2024],2537,[]⟩ 2 ⟨[(5,.v af)],[(1448,yz),(1384,.l .bool)],[0,3,4,19,20],[2024],2537,[]⟩ (cy (.s (.j ⟨[(5,.v af)],[(1448,yz),(1384,.l .bool)],[0,3,4,19,20,25,26,27],[2024],2601,[]⟩ (.b (cy (.s (.j ⟨[(66,.v .bool)],[],[0,3,4,5,6,19,20,25,26,27],[1384,1448,2024],3177,[]⟩ .z) .z)))) .z))))) .z))) .z))))) .z))
theorem JQ:aC 245 (JO n) :=cq (ak (Cy n) ay) func245 JP n
def Cz:ea xx:=⟨[.p 0,.v af],[(0,ta)],[.oz 1000],[(0,ta),(1000,.l .str)],λv=>jY n v.1 v.2.1 v.2.2⟩
def CB:cw xx:=⟨[],[.d .bool],λ_=>none,some (Cz n)⟩
def CF:Hn SI:=(tR (.b (.lx ⟨[(6,.o 1512),(7,.v af)],[(1512,.l .str)],[0,1,5],[0,1192],1513,[(6,.str)]⟩ 999999 ⟨[],[],[],[],1512,[]⟩ (.b (cy (.s (.s .z (.b (.l ⟨[(8,.v af),(34,.v af)],[],[0,1,5,6,32,33],[0,1192,2153],2921,[]⟩ 2 ⟨[(8,.v af)],[],[0,1,5,6],[0,1192,2153],2921,[]⟩ (cy (.s (.j ⟨[(8,.v af)],[],[0,1,5,6,32,33,34],[0,1192,2153],2985,[]⟩ (.b (.s .z (.s (.j ⟨[(57,.v .bool)],[],[0,1,5,6,8,10,32,33,34],[0,1192,2153],3177,[]⟩ .z) .z)))) .z))))) .z))))))
theorem CG:aC 268 (CB n) :=pD (ak (Cv n) ay) func268 CF n (by kernel_rfl) λ_=>by kernel_rfl
def zX:ea xx:=⟨[.p 0],[(0,ta)],[.oz 1000],[(0,ta),(1000,.l .str)],λv=>jc n v.1 v.2⟩
def zY:cw xx:=⟨[],[.d .bool],λ_=>none,some (zX n)⟩
def zZ:Hn SI:=(cy (.s (.s .z (.b (.l ⟨[(3,.oz 1512),(11,.v af)],[(0,ta),(1512,.l .str)],[0,10],[],1513,[(1099511627779,.str)]⟩ 0 ⟨[(3,.oz 1512)],[(0,ta),(1512,.l .str)],[],[],1513,[]⟩ (cy (.s (.j ⟨[(3,.oz 1577)],[(0,ta),(1577,.l .str)],[0,10,11],[],1578,[]⟩ (.b (cy (.s (.s (.j ⟨[(18,.v .bool)],[],[0,3,5,10,11],[0,1512,1833],1961,[]⟩ .z) .z) (.s (.j ⟨[(40,.v .bool)],[],[0,3,5,10,11],[0,1512,1833],1961,[]⟩ .z) .z))))) .z))))) .z))
theorem z8:aC 244 (zY n) :=pD (ak (CG n) (ak (K4 n) ay)) func244 zZ n (by kernel_rfl) λ_=>by kernel_rfl
def Zk:cw xx:=⟨[.d gI],[.fresh af,.d (.sl .str),.d af],λa=>oF n a.1,none⟩
def Zl:Hn SI:=(cy (.s (.s .z (.b (.l ⟨[(15,.v af)],[(1256,.m .str .bool)],[1,5,13,14],[1000,1384],1576,[]⟩ 0 ⟨[],[(1256,.m .str .bool)],[1,5],[1000],1576,[]⟩ .z))) (.s (.s .z (.b (.lx ⟨[(25,.v af)],[(1256,.m .str .bool)],[1,5,23,24],[1000],1832,[]⟩ 2 ⟨[],[],[1],[1000],1832,[]⟩ .z))) (.s .z (.s (.s .z (.s (.j ⟨[(43,.v .bool)],[],[10,11],[1960,2152],2280,[]⟩ .z) .z)) .z)))))
theorem Zm:aC 219 (Zk n) :=cq (ak Bq (ak P6 (ak (z8 n) (ak (JQ n) ay)))) func219 Zl n
def K5:cw xx:=⟨[.d aX,.ref (.st SI.Expr)],[.d .bool],λa=>A8 a.1 a.2.1,none⟩
theorem K6:aC 246 K5 :=cq ay func246 .z 0
def K7:cw xx:=⟨[.d gL,.ref (.st SI.Expr)],[.d .bool],λa=>A9 a.1 a.2.1,none⟩
theorem K8:aC 247 K7 :=cq ay func247 .z 0
def an9:cw xx:=⟨[.d .bool],[.d af],λa=>zF a.1,none⟩
theorem agT:aC 221 an9 :=cq ay func221 .z 0
def aaG:cw xx:=⟨[.d af,.d af],[.d af],λa=>xI a.1 a.2.1,none⟩
def aaH:Hn SI:=(jj (.s (.j ⟨[(5,.v af)],[],[],[],1448,[]⟩ (.s .z (.s (.j ⟨[(23,.v .bool)],[],[5],[],1704,[]⟩ .z) .z))) .z))
theorem aaI:aC 248 aaG :=cq ay func248 aaH 0
def agU:cw xx:=⟨[.d af,.d af,.d af],[.d af],λa=>Kv a.1 a.2.1 a.2.2.1,none⟩
theorem agV:aC 222 agU :=cq (ak aaI (ak agT ay)) func222 .z 0
def K9:ea xx:=⟨[(.a [.v (.sl bA),.v (.sl aX),.v (.sl bD),.v (.sl aV),.v (.sl bH),.v (.sl bE),.v (.sl aW),.v af,.mp 0,.v (.sl .str)]),.v (.st SI.Expr)],[(0,.m .str af)],[.v af],[(0,.m .str af)],λv=>jC n v.1 v.2.1 v.2.2.1 v.2.2.2.1 v.2.2.2.2.1 v.2.2.2.2.2.1 v.2.2.2.2.2.2.1 v.2.2.2.2.2.2.2.1 v.2.2.2.2.2.2.2.2.1 v.2.2.2.2.2.2.2.2.2.1 v.2.2.2.2.2.2.2.2.2.2⟩
def La:cw xx:=⟨[],[.d .bool],λ_=>none,some (K9 n)⟩
theorem Lb:aC 220 (La n) :=pD (ak (xN n) (ak K6 (ak (qC n) (ak K8 ay)))) func220 .z n (by kernel_rfl) λ_=>by kernel_rfl
def Hz:Hn SI:=(cy (.s (.s .z (.b (.l ⟨[(5,.o 1512),(11,.v af)],[(0,.m .str af),(1512,.l af)],[2,3,9,10],[1000,1064],1513,[(5,af)]⟩ 0 ⟨[(5,.o 1512)],[(0,.m .str af),(1512,.l af)],[2,3],[1000,1064],1513,[]⟩ (cy (.s (.j ⟨[(5,.o 1577)],[(0,.m .str af),(1577,.l af)],[2,3,9,10,11],[1000,1064],1578,[]⟩ (.b (.s .z (.s (.s (.j ⟨[(31,.v .bool)],[],[2,3,5,7,9,10,11],[0,1000,1064,1512,1769],1961,[]⟩ .z) .z) .z)))) .z))))) .z))
theorem F6(rc:((List gK))->((List bQ))->((List fG))->((List cK))->((List jE))->((List iw))->((List dH))->(Int)->((List ByteArray))->(dh)->((List (ByteArray×Int)))->Option (Int×(List (ByteArray×Int))))(hr:aC 178 (jZ rc)):aC 178 (jZ (fA n rc)) :=pD (ak hr (ak (Lb n) (ak (jm n) (ak agT (ak agV ay))))) func178 Hz n (by kernel_rfl) λ_=>by kernel_rfl
theorem vv(n:Nat):∀m,aC 178 (jZ (bS n m))
 | 0=>ap3 (qh func178 (by kernel_rfl:Tryz.f178.body=some (Tryz.f178.body.getD .skip)) (by kernel_rfl)) (λ _ _ h=>(by cases h))
 |m+1=>F6 n _ (vv n m)
def HV:cw xx:=jZ (bS n n)
theorem vK:aC 178 (HV n):=vv n n
def U6:ea xx:=⟨[.v gI,.v (.sl gL),.v (.sl .str)],[],[(.a [.v (.sl bA),.v (.sl aX),.v (.sl bD),.v (.sl aV),.v (.sl bH),.v (.sl bE),.v (.sl aW),.v af,.mp 1000,.v (.sl .str)]),.o 1001],[(1000,.m .str af),(1001,.l af)],λv=>nC n v.1 v.2.1 v.2.2⟩
def U7:cw xx:=⟨[],[.d .bool],λ_=>none,some (U6 n)⟩
def U8:Hn SI:=(jj (.s (.s .z (.b (.l ⟨[(26,.v af)],[(1256,.m .str af),(1576,.m .str .bool)],[3,6,8,9,24,25],[1000,1064,1448],1896,[]⟩ 0 ⟨[],[(1256,.m .str af),(1576,.m .str .bool)],[3,6,8,9],[1000,1064,1448],1896,[]⟩ (cy (.s (.j ⟨[],[(1256,.m .str af),(1576,.m .str .bool)],[3,6,8,9,24,25,26],[1000,1064,1448],1960,[]⟩ .z) .z))))) (jj (.s (.s .z (.b (.l ⟨[(61,.v af)],[(1256,.m .str af),(2088,.l af)],[3,6,8,9,12,59,60],[1000,1064,1448,1576,2280],3112,[]⟩ 2 ⟨[],[(1256,.m .str af),(2088,.l af)],[6,8,12],[1064,1448],3112,[]⟩ (cy (.s (.j ⟨[],[(1256,.m .str af),(2088,.l af)],[3,6,8,9,12,59,60,61],[1000,1064,1448,1576,2280],3176,[]⟩ (.b (cy (.s (.j ⟨[],[(1256,.m .str af),(2088,.l af)],[3,6,8,9,12,17,18,59,60,61],[1000,1064,1448,1576,2280,3688],3816,[]⟩ .z) .z)))) .z))))) .z))))
theorem U9:aC 177 (U7 n) :=pD (ak (Zm n) (ak (Zi n) (ak (vK n) ay))) func177 U8 n (by kernel_rfl) λ_=>by kernel_rfl
def alL:cw xx:=⟨[.d gI,.d (.sl gL),.d (.sl .str),.d (.st SI.Expr)],[.d af],λa=>Ba n a.1 a.2.1 a.2.2.1 a.2.2.2.1,none⟩
theorem alM:aC 133 (alL n) :=cq (ak (Zi n) (ak (U9 n) (ak (vK n) ay))) func133 .z n
def ai0:cw xx:=⟨[.d (.sl aA)],[.d aA,.d .bool],λa=>OW n a.1,none⟩
def ai1:Hn SI:=(.s .z (.s (.s .z (.b (.l ⟨[(3,.v .bool),(8,.v af)],[(1000,CC)],[2,6,7],[],1320,[]⟩ 0 ⟨[(3,.v .bool)],[(1000,CC)],[2],[],1320,[]⟩ (cy (.s (.j ⟨[(3,.v .bool)],[(1000,CC)],[2,6,7,8],[],1384,[]⟩ .z) .z))))) .z))
theorem ai2:aC 179 (ai0 n) :=cq (ak qY ay) func179 ai1 n
def agW:cw xx:=⟨[.d (.sl aA)],[.d aA,.d .bool],λa=>Kw n a.1,none⟩
def agX:Hn SI:=(.s .z (.s (.s (.j ⟨[(11,.v .bool)],[],[0,2],[1000],1128,[]⟩ .z) .z) .z))
theorem agY:aC 134 (agW n) :=cq (ak (oK n) (ak (ai2 n) ay)) func134 agX n
def Zn:cw xx:=⟨[.d aD],[.fresh (.st SI.mj)],λa=>yI a.1,none⟩
theorem JR:aC 99 Zn :=cq ay func99 .z 0
def JS:cw xx:=⟨[.d (.sl (.st SI.ip)),.eE [.st SI.ip] .bool],[.d af],λa=>sP n a.1 a.2.1,none⟩
def JU:Hn SI:=(.s .z (.s (.s .z (.b (.lx ⟨[(8,.v af)],[],[0,1,7],[],1256,[]⟩ 0 ⟨[],[],[],[],1256,[]⟩ .z))) .z))
theorem JV:aC 249 (JS n) :=cq ay func249 JU n
def En:cw xx:=⟨[.d (.sl (.st SI.ip)),.eE [.st SI.ip] .bool],[.d .bool],λa=>kW n a.1 a.2.1,none⟩
theorem Eo:aC 223 (En n) :=cq (ak (JV n) ay) func223 .z n
def Zo:cw xx:=⟨[.d af,.d af,.d af],[.d .bool],λa=>oG a.1 a.2.1 a.2.2.1,none⟩
theorem Zp:aC 250 Zo :=cq ay func250 .z 0
def aaJ:cw xx:=⟨[.d (.st SI.ip)],[.d .bool],λa=>Bc a.1,none⟩
theorem aaK:aC 225 aaJ :=cq (ak Zp ay) func225 .z 0
def Sb:cw xx:=⟨[.d (.st SI.ip)],[.d .bool],λa=>uO a.1,none⟩
theorem Sc:aC 224 Sb :=cq (ak aaK ay) func224 .z 0
def aaL:cw xx:=⟨[.d aA,.d (.sl (.st SI.ip))],[.d .bool],λa=>Bd n a.1 a.2.1,none⟩
theorem aaM:aC 180 (aaL n) :=cq (ak qY (ak (Eo n) (ak Sc ay))) func180 .z n
def alN:cw xx:=⟨[.d (.sl aA),.d (.sl aA)],[.d .bool],λa=>Vs n a.1 a.2.1,none⟩
theorem alO:aC 186 (alN n) :=cq (ak (Gn n) ay) func186 .z n
def ai3:cw xx:=⟨[.d (.sl (.st SI.mj))],[.d .bool],λa=>Jg n a.1,none⟩
def ai4:Hn SI:=(cy (.s (.s .z (.b (.lx ⟨[(11,.v af)],[],[0,9,10],[],1448,[]⟩ 0 ⟨[],[],[],[],1448,[]⟩ (cy (.s (.jx ⟨[],[],[0,9,10,11],[],1512,[]⟩ (.b (.s .z (.s (.s (.j ⟨[(42,.v .bool)],[],[0,3,4,9,10,11],[1704],1896,[]⟩ .z) .z) (cy (.s (.j ⟨[(68,.v .bool)],[],[0,9,10,11],[],2472,[]⟩ .z) .z)))))) .z))))) .z))
theorem Zq:aC 141 (ai3 n) :=cq (ak (oK n) (ak (alO n) ay)) func141 ai4 n
def P7:cw xx:=⟨[.d aA,.d af,.d af],[.d (.st SI.oA)],λa=>xS a.1 a.2.1 a.2.2.1,none⟩
theorem P8:aC 251 P7 :=cq ay func251 .z 0
def Sd:cw xx:=⟨[.d af,.d af],[.d af],λa=>uP a.1 a.2.1,none⟩
def Sg:Hn SI:=(cy (.s (.j ⟨[(5,.v af)],[],[],[],1320,[]⟩ .z) .z))
theorem Si:aC 252 Sd :=cq ay func252 Sg 0
def agZ:cw xx:=⟨[.d aA,.d (.sl (.st SI.ip)),.d af,.d af],[.d af],λa=>Ky n a.1 a.2.1 a.2.2.1 a.2.2.2.1,none⟩
def ag0:Hn SI:=(jj (.s (.s .z (.b (.l ⟨[(9,.v af),(19,.v af)],[],[10,17,18],[1448],1768,[]⟩ 0 ⟨[(9,.v af)],[],[],[],1768,[]⟩ .z))) .z))
theorem ag1:aC 226 (agZ n) :=cq (ak P8 (ak Si ay)) func226 ag0 n
def Zr:cw xx:=⟨[.d aA,.d (.sl (.st SI.ip)),.d (.sl aA)],[.d af],λa=>yK n a.1 a.2.1 a.2.2.1,none⟩
def Zt:Hn SI:=(cy (.s (.s .z (.b (.l ⟨[(7,.v af),(16,.v af)],[],[1,3,14,15],[1000],1384,[]⟩ 0 ⟨[(7,.v af)],[],[],[],1384,[]⟩ (cy (.s (.b (cy (.b (.l ⟨[(7,.v af),(27,.v af)],[],[1,3,9,14,15,16,25,26],[1000,1576,2024],2216,[]⟩ 2 ⟨[(7,.v af)],[],[1,3,14,15,16],[1000],2216,[]⟩ (cy (.s (.b (cy (.b (.l ⟨[(7,.v af),(38,.v af)],[],[1,3,9,11,14,15,16,25,26,27,36,37],[1000,1576,2024,2792],2984,[]⟩ 4 ⟨[(7,.v af)],[],[1,3,9,14,15,16,25,26,27],[1000,1576,2024],2984,[]⟩ .z)))) .z)))))) .z))))) .z))
theorem Zu:aC 182 (Zr n) :=cq (ak (ag1 n) ay) func182 Zt n
def P9:cw xx:=⟨[.d (.st SI.mj),.ref aA,.ref (.sl (.st SI.ip))],[.d .bool],λa=>sI n a.1 a.2.1 a.2.2.1,none⟩
theorem Qa:aC 181 (P9 n) :=cq (ak (Zu n) ay) func181 .z n
def Lc:cw xx:=⟨[.d (.sl (.st SI.mj)),.eE [.st SI.mj] .bool],[.d af],λa=>uQ n a.1 a.2.1,none⟩
def Ld:Hn SI:=(.s .z (.s (.s .z (.b (.lx ⟨[(8,.v af)],[],[0,1,7],[],1256,[]⟩ 0 ⟨[],[],[],[],1256,[]⟩ .z))) .z))
theorem Le:aC 187 (Lc n) :=cq ay func187 Ld n
def F7:cw xx:=⟨[.d (.sl (.st SI.mj)),.eE [.st SI.mj] .bool],[.d .bool],λa=>jh n a.1 a.2.1,none⟩
theorem vw:aC 142 (F7 n) :=cq (ak (Le n) ay) func142 .z n
def Zv:cw xx:=⟨[.d aA,.d (.sl (.st SI.ip)),.d (.sl (.st SI.mj))],[.d .bool],λa=>yL n a.1 a.2.1 a.2.2.1,none⟩
def Zw:Hn SI:=(.s .z (.s (.s (.j ⟨[(15,.v .bool)],[],[2,3,4],[1000,1064],1192,[]⟩ .z) .z) .z))
theorem Zx:aC 136 (Zv n) :=cq (ak (aaM n) (ak (Zq n) (ak (vw n) (ak (Qa n) ay)))) func136 Zw n
def CJ:cw xx:=⟨[.d aD,.ref aA,.ref aV],[.d .bool],λa=>j3 n a.1 a.2.1 a.2.2.1,none⟩
theorem CK:aC 135 (CJ n) :=cq (ak JR (ak (Zx n) ay)) func135 .z n
def Nj:cw xx:=⟨[.d (.st SI.lj),.eE [aD] .bool],[.d .bool],λa=>gQ n a.1 a.2.1,none⟩
theorem Aa:aC 96 (Nj n) :=cq (ak (rW n) ay) func96 .z n
def CO:cw xx:=⟨[.d aD,.ref aV],[.d .bool],λa=>j4 a.1 a.2.1,none⟩
theorem CP:aC 137 CO :=cq ay func137 .z 0
def Ep:cw xx:=⟨[.d (.st SI.ie),.ref (.st SI.lj),.ref aD,.ref aV],[.d .bool],λa=>dP a.1 a.2.1 a.2.2.1 a.2.2.2.1,none⟩
def Er:Hn SI:=(cy (.s (.s (.j ⟨[(32,.v .bool)],[],[2,3,6],[1256],1384,[]⟩ .z) .z) (.s (.j ⟨[(7,.v .bool)],[],[2,3,6],[1256],1384,[]⟩ .z) .z)))
theorem Es:aC 184 Ep :=cq (ak qY (ak aj9 ay)) func184 Er 0
def HY:cw xx:=⟨[.d (.sl (.st SI.ie)),.eE [.st SI.ie] .bool],[.d af],λa=>rE n a.1 a.2.1,none⟩
def HZ:Hn SI:=(.s .z (.s (.s .z (.b (.lx ⟨[(8,.v af)],[],[0,1,7],[],1256,[]⟩ 0 ⟨[],[],[],[],1256,[]⟩ .z))) .z))
theorem H6:aC 227 (HY n) :=cq ay func227 HZ n
def CQ:cw xx:=⟨[.d (.sl (.st SI.ie)),.eE [.st SI.ie] .bool],[.d .bool],λa=>j5 n a.1 a.2.1,none⟩
theorem CR:aC 183 (CQ n) :=cq (ak (H6 n) ay) func183 .z n
def JW:cw xx:=⟨[.d (.st SI.lj),.d aV,.d aD],[.d .bool],λa=>sQ n a.1 a.2.1 a.2.2.1,none⟩
theorem JX:aC 139 (JW n) :=cq (ak (CR n) (ak Es ay)) func139 .z n
def CU:cw xx:=⟨[.d aD,.ref (.st SI.lj),.ref aV],[.d .bool],λa=>j6 n a.1 a.2.1 a.2.2.1,none⟩
theorem CV:aC 138 (CU n) :=cq (ak (JX n) ay) func138 .z n
def H7:cw xx:=⟨[.d (.st SI.lj),.d aV],[.d .bool],λa=>nL n a.1 a.2.1,none⟩
theorem H8:aC 95 (H7 n) :=cq (ak (PO n) (ak (alM n) (ak (agY n) (ak (Aa n) (ak (CK n) (ak CP (ak (CV n) ay))))))) func95 .z n
def Va:cw xx:=⟨[.d aA,.ref aA],[.d .bool],λa=>wQ a.1 a.2.1,none⟩
theorem Vb:aC 190 Va :=cq ay func190 .z 0
def Lf:cw xx:=⟨[.d (.sl aA),.eE [aA] .bool],[.d af],λa=>uR n a.1 a.2.1,none⟩
def Lg:Hn SI:=(.s .z (.s (.s .z (.b (.lx ⟨[(8,.v af)],[],[0,1,7],[],1256,[]⟩ 0 ⟨[],[],[],[],1256,[]⟩ .z))) .z))
theorem Lh:aC 228 (Lf n) :=cq ay func228 Lg n
def F8:cw xx:=⟨[.d (.sl aA),.eE [aA] .bool],[.d .bool],λa=>ji n a.1 a.2.1,none⟩
theorem vz:aC 188 (F8 n) :=cq (ak (Lh n) ay) func188 .z n
def adV:cw xx:=⟨[.d aA,.ref (.sl aA)],[.d .bool],λa=>Fq n a.1 a.2.1,none⟩
theorem adW:aC 189 (adV n) :=cq (ak (vz n) (ak Vb ay)) func189 .z n
def alP:cw xx:=⟨[.d (.sl aA),.d (.sl aA)],[.d .bool],λa=>Vt n a.1 a.2.1,none⟩
theorem alQ:aC 144 (alP n) :=cq (ak (vz n) (ak (adW n) ay)) func144 .z n
def Vd:cw xx:=⟨[.d (.st SI.mj),.ref (.st SI.fX)],[.d .bool],λa=>rT n a.1 a.2.1,none⟩
theorem Ve:aC 143 (Vd n) :=cq (ak (alQ n) ay) func143 .z n
def adX:cw xx:=⟨[.d (.sl (.st SI.fX)),.d af,.d (.sl (.st SI.mj))],[.d .bool],λa=>Fs n a.1 a.2.1 a.2.2.1,none⟩
def adY:Hn SI:=(cy (.s (.s .z (.b (.lx ⟨[(14,.v af)],[],[1,2,12,13],[],1448,[]⟩ 0 ⟨[],[],[],[],1448,[]⟩ (cy (.s (.jx ⟨[],[],[1,2,12,13,14],[],1512,[]⟩ (.b (.s .z (.s (.s (.j ⟨[(27,.v .bool)],[],[1,2,8,12,13,14],[1640],1768,[]⟩ .z) .z) .z)))) .z))))) .z))
theorem adZ:aC 98 (adX n) :=cq (ak (Zq n) (ak (oK n) (ak (vw n) (ak (Ve n) ay)))) func98 adY n
def Nk:cw xx:=⟨[.d aD,.ref (.st SI.pw),.ref eT],[.d .bool],λa=>nQ n a.1 a.2.1 a.2.2.1,none⟩
theorem Nl:aC 97 (Nk n) :=cq (ak JR (ak (adZ n) ay)) func97 .z n
def H9:ea xx:=⟨[.v .str,.v .bool,.p 0],[(0,sf),(1,.l .str)],[],[(0,.c 1 [[.o 1000]]),(1000,.l .str)],λv=>jN n v.1 v.2.1 v.2.2⟩
def Ia:cw xx:=⟨[],[.d .bool],λ_=>none,some (H9 n)⟩
def Ib:Hn SI:=(.s (.j ⟨[(11,.v .bool)],[],[0,2],[0,1],1000,[]⟩ .z) .z)
theorem Ic:aC 93 (Ia n) :=pD (ak (jm n) ay) func93 Ib n (by kernel_rfl) λ_=>by kernel_rfl
def Vf:cw xx:=⟨[.d (.st SI.pw),.d eT,.d af],[.fresh .str,.d af],λa=>wS n a.1 a.2.1 a.2.2.1,none⟩
def Vg:Hn SI:=(yW (.s (.s .z (.b (.l ⟨[(31,.v af)],[(1960,.c 1 [[.o 2664]]),(2664,.l .str)],[3,4,8,10,11,29,30],[1000,1064,1640,2472],2665,[(9028160,.str)]⟩ 0 ⟨[],[(1960,.c 1 [[.o 2664]]),(2664,.l .str)],[3,4,8,10,11],[1000,1064,1640],2665,[]⟩ .z))) .z))
theorem Vh:aC 59 (Vf n) :=cq (ak (aaF n) (ak (Zh n) (ak (H8 n) (ak (Ic n) (ak (Aa n) (ak (Nl n) ay)))))) func59 Vg n
def vB:cw xx:=⟨[.d dL,.ref dx],[.d .bool],λa=>mI n a.1 a.2.1,none⟩
theorem F9:aC 58 (vB n) :=cq (ak (Vh n) (ak (jm n) ay)) func58 .z n
def Am:cw xx:=⟨[.d (.st SI.Case),.ref dL],[.d .bool],λa=>jD a.1 a.2.1,none⟩
theorem Ao:aC 63 Am :=cq ay func63 .z 0
def Li:cw xx:=⟨[.d (.sl (.st SI.Case)),.eE [.st SI.Case] .bool],[.d af],λa=>uS n a.1 a.2.1,none⟩
def Lj:Hn SI:=(.s .z (.s (.s .z (.b (.lx ⟨[(8,.v af)],[],[0,1,7],[],1256,[]⟩ 0 ⟨[],[],[],[],1256,[]⟩ .z))) .z))
theorem Ll:aC 62 (Li n) :=cq ay func62 Lj n
def vC:cw xx:=⟨[.d dL,.ref dx],[.d .bool],λa=>mJ n a.1 a.2.1,none⟩
theorem Ga:aC 61 (vC n) :=cq (ak (Ll n) (ak Ao ay)) func61 .z n
noncomputable def JY(n:Nat):cw xx:=⟨[.d dx,.d dL],[.d .bool],λa=>iB n a.1 a.2.1,none⟩
noncomputable abbrev mA:Code:=Tryz.f13.body.getD .skip
theorem arO{h:aG}{c:aJ}{F:Nat->Option aN}:oV Tryz.prog (iE sU) (cO (cA mA)) (λ _=>As) F (List.range (cO (cA mA)).size) ⟨[(0,q6 h),(1,sx c)],[],[]⟩=
 some (⟨[(4,bo false),(3,.ptr (cC 1) 0 0),(2,.ptr (cC 0) 0 0),(0,q6 h),(1,sx c)],[(cC 1,some (yd c)),(cC 0,some (l4 h))],[(4,none),(3,none),(2,none)]⟩,[]):=by kernel_rfl
noncomputable abbrev P1:List (Nat×AV):=[(2,.ptr 1001 0 0),(3,.ptr 1002 0 0)]
noncomputable abbrev P0(h:aG)(c:aJ):List (Nat×Option aN):=[(1001,some (l4 h)),(1002,some (yd c))]
noncomputable def ars:Nat->kw
 | 0=>yi [1001]
 | 3=>yi [1002]
 | 4=>⟨.ext 0,[cC 1],[],false⟩
 | 9=>arh [cC 8]
 |_=>As
noncomputable def nh(h:aG):Nat->kw:=λi=>if i=1 then⟨.rS [] [] [] [] [(1000,⟨4,oS 1001⟩),(1001,l4 h)] (.mp 1000) false,[],[],false⟩else ars i
noncomputable abbrev yp(h:aG)(c:aJ):List (Nat×Option aN):=[(cC 1,some ⟨4,oS (cC 1+1)⟩),(cC 1+1,some (l4 h))]++P0 h c
noncomputable abbrev yn(h:aG)(c:aJ):List (Nat×AV):=[(11,tn c.ee),(10,.ptr 1002 0 3),(9,.mp (cC 1)),(8,q6 h)]++P1
end
end Go.Proofs
