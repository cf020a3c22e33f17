import Derived.Test.YtnclkjejgffdmacGreatTC1
namespace Go.Proofs
open Go.Gb Go.RowKit
open Tryz
noncomputable section
variable (n:Nat)
theorem CK:aD 83 (CJ n):=pS (ak (Al n) ay) func83 .z n
def Ho:ea xx:=⟨[.p 0,.f 114 [] []],[(0,gd),(1,.l aF)],[.v af],[(0,gd),(1,.l aF)],λ(qa,qb,qc,qd,qe,qf,qg,qh,qi,qj)=>rU n qa qb qc qd qe qf qg qh qi qj⟩
def Hq:cy xx:=tzG (Ho n)
def Hr:Hn SI:=(cx (.s (.s .z (.b (.l ⟨[(5,.v af),(13,.v af)],[],[1,11,12],[0,1],1512,[]⟩ 0 ⟨[(5,.v af)],[],[],[0,1],1512,[]⟩ .z))) .z))
theorem Ht:aD 109 (Hq n):=pS (ak Er ay) func109 Hr n
def EB:ea xx:=⟨[.p 0],[(0,gd),(1,.l aF)],[.v af],[(0,gd),(1,.l aF)],λ(qa,qb,qc,qd,qe,qf,qg,qh,qi,qj)=>lg n qa qb qc qd qe qf qg qh qi qj⟩
def EC:cy xx:=tzG (EB n)
theorem ED:aD 84 (EC n):=pS (ak (Ht n) ay) func84 .z n
def CO:ea xx:=⟨[.p 0,.v aA,.v af],[(0,gd),(1,.l aF)],[.v .bool],[(0,gd),(1,.l aF)],λ(qa,qb,qc,qd,qe,qf,qg,qh,qi,qj,qk,ql)=>j4 n qa qb qc qd qe qf qg qh qi qj qk ql⟩
def CP:cy xx:=tzG (CO n)
def CQ:Hn SI:=(wg (.s (.s .z (.b (.l ⟨[(9,.v af),(27,.v af)],[],[7,25,26],[0,1,1512],2280,[]⟩ 0 ⟨[(9,.v af)],[],[7],[0,1,1512],2280,[]⟩ (cx (.s (.j ⟨[(9,.v af)],[],[7,25,26,27],[0,1,1512],2344,[]⟩ .z) .z))))) .z))
theorem CR:aD 115 (CP n):=pS (ak U7 (ak Cy (ak JZ ay))) func115 CQ n
def AJ:ea xx:=⟨[.p 0],[(0,gd),(1,.l aF)],[.v af],[(0,gd),(1,.l aF)],λ(qa,qb,qc,qd,qe,qf,qg,qh,qi,qj)=>jD n qa qb qc qd qe qf qg qh qi qj⟩
def AL:cy xx:=tzG (AJ n)
def AO:Hn SI:=(cx (.s (.s .z (.b (.l ⟨[(3,.v af),(14,.v af)],[(0,gd),(1,.l aF)],[0,12,13],[],1512,[]⟩ 0 ⟨[(3,.v af)],[(0,gd),(1,.l aF)],[],[],1512,[]⟩ (cx (.s (.b (cx (.s (.b (.l ⟨[(6,.v af),(7,.v af)],[(0,gd),(1,.l aF)],[0,5,12,13,14],[1704],2024,[]⟩ 2 ⟨[(6,.v af)],[(0,gd),(1,.l aF)],[0,12,13,14],[],2024,[]⟩ .z)) .z))) .z))))) .z))
theorem AP:aD 85 (AL n):=pS (ak (CR n) ay) func85 AO n
def yE:ea xx:=⟨[.v aF,.p 0],[(0,.c 1 [[.p 1]]),(1,we),(2,.l aF)],[.v af],[(0,.c 1 [[.p 1]]),(1,we),(2,.l aF)],λ(qa,qb,qc,qd,qe,qf,qg,qh,qi,qj,qk)=>kS n qa qb qc qd qe qf qg qh qi qj qk⟩
def yF:cy xx:=tzG (yE n)
theorem yG:aD 116 (yF n):=pS (ak (Qf n) ay) func116 .z n
def Hu:ea xx:=⟨[.p 0,.f 116 [] [.p 1]],[(0,we),(1,.c 1 [[.p 0]]),(2,.l aF)],[.v af],[(0,we),(1,.c 1 [[.p 0]]),(2,.l aF)],λ(qa,qb,qc,qd,qe,qf,qg,qh,qi,qj)=>rV n qa qb qc qd qe qf qg qh qi qj⟩
def Hw:cy xx:=tzG (Hu n)
def Hy:Hn SI:=(cx (.s (.s .z (.b (.l ⟨[(5,.v af),(13,.v af)],[(0,we),(1,.c 1 [[.p 0]]),(2,.l aF)],[1,11,12],[],1512,[]⟩ 0 ⟨[(5,.v af)],[(0,we),(1,.c 1 [[.p 0]]),(2,.l aF)],[],[],1512,[]⟩ .z))) .z))
theorem Hz:aD 109 (Hw n):=pS (ak (yG n) ay) func109 Hy n
def AQ:ea xx:=⟨[.p 0],[(0,gd),(1,.l aF)],[.v af],[(0,gd),(1,.l aF)],λ(qa,qb,qc,qd,qe,qf,qg,qh,qi,qj)=>jE n qa qb qc qd qe qf qg qh qi qj⟩
def AR:cy xx:=tzG (AQ n)
theorem AU:aD 86 (AR n):=pS (ak (Hz n) ay) func86 .z n
def aen:cy xx:=⟨[.d gT,.d (.st SI.Lot),.d eX],[.fresh gX],λa=>kT n a.1 a.2.1 a.2.2.1,none⟩
def aeo:Hn SI:=(cx (.s (.j ⟨[],[(1384,.c 10 [[.v (.sl bA),.v (.sl aY),.v (.sl bD),.v (.sl aW),.v (.sl bG),.v (.sl bE),.v (.sl aX),.v af,.v (.sl aA),.nil]])],[5,7],[1128],1512,[]⟩ .z) (.s (.s .z (.b (.l ⟨[(31,.v af)],[(1384,Kf),(1960,.l aF)],[7,29,30],[1768],1961,[(6668873,aF)]⟩ 0 ⟨[],[(1384,Kf),(1960,.l aF)],[7],[],1961,[]⟩ (cx (.s (.j ⟨[],[(1384,.c 10 [[.v (.sl bA),.v (.sl aY),.v (.sl bD),.v (.sl aW),.v (.sl bG),.v (.sl bE),.v (.sl aX),.v af,.v (.sl aA),.o 2025]]),(2025,.l aF)],[7,29,30,31],[1768],2026,[]⟩ (.b (.s .z (.s (.j ⟨[(41,.v .bool)],[],[7,9,29,30,31],[1384,1768,1960,2217],2409,[]⟩ .z) .z)))) .z))))) (cx (.s (.s .z (.b (.un .z (.un .z (.un .z (.un .z (.un .z (.un .z (.un .z (.un .z (.un .z (.un .z .z)))))))))))) .z)))))
theorem Qg:aD 52 (aen n):=cq (ak (o7 n) (ak (BN n) (ak lF (ak (G9 n) (ak (Ew n) (ak (EA n) (ak (CF n) (ak (CK n) (ak (ED n) (ak (AP n) (ak (AU n) ay))))))))))) func52 aeo n
def Si:cy xx:=⟨[.d (.sl gX),.d gX],[.d af],λa=>zU n a.1 a.2.1,none⟩
def Sj:Hn SI:=(.s .z (.s (.s .z (.b (.lx ⟨[(8,.v af)],[],[0,3,7],[1000],1320,[]⟩ 0 ⟨[],[],[],[],1320,[]⟩ .z))) .z))
theorem Sk:aD 75 (Si n):=cq ay func75 Sj n
def Lc:cy xx:=⟨[.d (.sl gX),.d gX],[.d .bool],λa=>uY n a.1 a.2.1,none⟩
theorem Ld:aD 51 (Lc n):=cq (ak (Sk n) ay) func51 .z n
def vN:cy xx:=⟨[.d dL,.ref dF],[.d .bool],λa=>mE n a.1 a.2.1,none⟩
theorem Gi:aD 50 (vN n):=cq (ak (El n) (ak (Qg n) (ak (Ld n) ay))) func50 .z n
def aa4:cy xx:=⟨[.d eX],[.fresh aF],λa=>xV n a.1,none⟩
theorem Mr:aD 164 (aa4 n):=cq (ak (BN n) ay) func164 .z n
def Zw:cy xx:=⟨[.d (.st SI.HI),.d (.st SI.HI)],[.d .bool],λa=>yT a.1 a.2.1,none⟩
theorem Zx:aD 209 Zw:=cq (ak Cy ay) func209 .z 0
def Qh:cy xx:=⟨[.d aF,.ref aF],[.d .bool],λa=>sZ a.1 a.2.1,none⟩
theorem Qi:aD 208 Qh:=cq (ak Zx ay) func208 .z 0
def HV:cy xx:=⟨[.d (.sl aF),.eC [aF] .bool],[.d af],λa=>rW n a.1 a.2.1,none⟩
def HY:Hn SI:=(.s .z (.s (.s .z (.b (.lx ⟨[(8,.v af)],[],[0,1,7],[],1256,[]⟩ 0 ⟨[],[],[],[],1256,[]⟩ .z))) .z))
theorem HZ:aD 181 (HV n):=cq ay func181 HY n
def CU:cy xx:=⟨[.d (.sl aF),.eC [aF] .bool],[.d .bool],λa=>fZ n a.1 a.2.1,none⟩
theorem sP:aD 129 (CU n):=cq (ak (HZ n) ay) func129 .z n
def aep:cy xx:=⟨[.d (.int .u8)],[.d .bool],λa=>FC a.1,none⟩
theorem Qj:aD 256 aep:=cq ay func256 .z 0
def ajm:cy xx:=⟨[.d .str,.eC [.int .u8] .bool],[.d af],λa=>O8 n a.1 a.2.1,none⟩
def ajn:Hn SI:=(cx (.s (.b (.l ⟨[(5,.v af)],[],[0,1],[],1128,[]⟩ 0 ⟨[(5,.v af)],[],[],[],1128,[]⟩ (.s (.s (.j ⟨[(16,.v .bool)],[],[0,1,5],[],1128,[]⟩ .z) .z) .z))) .z))
theorem ajo:aD 257 (ajm n):=cq ay func257 ajn n
def ahe:cy xx:=⟨[.d (.int .u8)],[.d .bool],λa=>Rm a.1,none⟩
theorem ahf:aD 259 ahe:=cq ay func259 .z 0
def aa5:cy xx:=⟨[.d (.int .u8)],[.d .bool],λa=>Bq a.1,none⟩
theorem aa6:aD 258 aa5:=cq (ak Qj (ak ahf ay)) func258 .z 0
def ajp:cy xx:=⟨[.d .str],[.d .bool],λa=>O9 n a.1,none⟩
def ajq:Hn SI:=(.s .z (.s (.s (.j ⟨[(15,.v .bool)],[],[0],[],1064,[]⟩ .z) .z) .z))
theorem ajr:aD 237 (ajp n):=cq (ak Qj (ak (ajo n) (ak aa6 ay))) func237 ajq n
def Nl:cy xx:=⟨[.d .str,.d .str],[.d .bool],λa=>strings_Contains a.1 a.2.1,none⟩
theorem Nn:aD 238 Nl:=by
 have hcall:eH Tryz.prog 238:=⟨_,func238,by kernel_rfl,by kernel_rfl⟩;refine xl hcall (λ a r h=>?_) rfl;obtain⟨s,b,⟨⟩⟩:=a;have h':strings_Contains s b=some r:=h;unfold strings_Contains at h';cases hb:Nat.ble s.size 4000000 with
 |false=>rw[hb]at h';cases h'
 |true=>
  rw[hb]at h';have h'':some (Lib.contains s.data.toList b.data.toList)=some r:=h';injection h'' with e;subst e;have hw:=Nat.le_of_ble_eq_true hb;exact adH (g:=0) rfl hcall λm w hm=>af3 s b m w (by omega) hm
def aa7:cy xx:=⟨[.d .str],[.d .bool],λa=>xW n a.1,none⟩
theorem aa8:aD 210 (aa7 n):=cq (ak (ajr n) (ak Nn ay)) func210 .z n
def Zy:cy xx:=⟨[.d eX],[.d .bool],λa=>yU n a.1,none⟩
def Zz:Hn SI:=(cx (.s (.s (.j ⟨[(42,.v .bool)],[],[1,3],[1000,1192],1320,[]⟩ .z) .z) (.s (.s .z (.b (.lx ⟨[(45,.v af)],[],[1,3,43,44],[1000,1192],1512,[]⟩ 0 ⟨[],[],[1],[1000],1512,[]⟩ (cx (.s (.b (.s .z (.s (.j ⟨[(59,.v .bool)],[],[1,3,43,44,45],[1000,1192],1960,[]⟩ .z) .z))) .z))))) (.s (.s .z (.b (.lx ⟨[(64,.v af)],[],[62,63],[],1768,[]⟩ 2 ⟨[],[],[],[],1768,[]⟩ (cx (.s (.b (cx (.s (.s .z (.b (.lx ⟨[(72,.v af)],[(2088,.m .str .bool)],[7,8,62,63,64,70,71],[1960],2472,[]⟩ 4 ⟨[],[],[7,62,63,64],[1960],2472,[]⟩ (cx (.s (.b (.s .z (.s (.s (.j ⟨[(95,.v .bool)],[],[7,8,10,62,63,64,70,71,72],[1960,2088,2664],2792,[]⟩ .z) .z) .z))) .z))))) .z))) .z))))) .z))))
theorem ZA:aD 163 (Zy n):=cq (ak (Mr n) (ak lF (ak (sP n) (ak Qi (ak (aa8 n) ay))))) func163 Zz n
def vW:cy xx:=⟨[.d (.sl (.st SI.strip)),.d af,.eC [.st SI.strip,af] af],[.d af,.d .bool],λa=>jm n a.1 a.2.1 a.2.2.1,none⟩
def vX:Hn SI:=(iu (.s (.b (.l ⟨[(9,.v af),(10,.v af)],[],[0,1,2,8],[],1512,[]⟩ 0 ⟨[(9,.v af)],[],[0,1,2,8],[],1512,[]⟩ .z)) .z))
theorem vY:aD 263 (vW n):=cq ay func263 vX n
def ajs:cy xx:=⟨[.d (.st SI.strip),.d af],[.d af],λa=>xX a.1 a.2.1,none⟩
theorem ajt:aD 264 ajs:=cq ay func264 .z 0
def ap9:cy xx:=⟨[.d (.sl (.st SI.strip)),.d af],[.d (.sl (.st SI.span))],λa=>Yn n a.1 a.2.1,none⟩
def aqa:Hn SI:=(cx (.s (.s (.j ⟨[(25,.v .bool)],[],[0,5],[],1576,[]⟩ .z) .z) .z))
theorem aqb:aD 240 (ap9 n):=cq (ak (vY n) (ak ajt ay)) func240 aqa n
def ZB:cy xx:=⟨[.nil,.d af],[.fresh (.st SI.span)],λa=>Pb a.1 a.2.1,none⟩
theorem ZC:aD 282 ZB:=cq ay func282 .z 0
def Sl:cy xx:=⟨[.d (.sl (.sl (.st SI.span)))],[.fresh (.st SI.span)],λa=>zV n a.1,none⟩
def Sm:Hn SI:=(cx (.s (.s .z (.b (.l ⟨[(3,.v af),(11,.v af)],[],[0,9,10],[],1320,[]⟩ 0 ⟨[(3,.v af)],[],[0],[],1320,[]⟩ .z))) (.s .z (.s (.s .z (.b (.l ⟨[(6,.o 1704),(27,.v af)],[(1704,.l (.st SI.span))],[25,26],[],1705,[]⟩ 2 ⟨[(6,.o 1704)],[(1704,.l (.st SI.span))],[],[],1705,[]⟩ .z))) .z))))
theorem Sn:aD 261 (Sl n):=cq (ak ZC ay) func261 Sm n
def wU:cy xx:=⟨[.d (.sl (.st SI.span)),.d af,.eC [.st SI.span,af] af],[.d af,.d .bool],λa=>jL n a.1 a.2.1 a.2.2.1,none⟩
def wV:Hn SI:=(iu (.s (.b (.l ⟨[(9,.v af),(10,.v af)],[],[0,1,2,8],[],1512,[]⟩ 0 ⟨[(9,.v af)],[],[0,1,2,8],[],1512,[]⟩ .z)) .z))
theorem wW:aD 283 (wU n):=cq ay func283 wV n
def ZE:cy xx:=⟨[.d (.st SI.span),.d af],[.d af],λa=>mG a.1 a.2.1,none⟩
theorem ZF:aD 284 ZE:=cq ay func284 .z 0
def ahg:cy xx:=⟨[.d (.sl (.st SI.span)),.d af],[.d .bool],λa=>D7 n a.1 a.2.1,none⟩
theorem ahh:aD 262 (ahg n):=cq (ak (wW n) (ak ZF ay)) func262 .z n
def aju:cy xx:=⟨[.d (.sl (.st SI.span)),.d (.sl (.st SI.span)),.eC [.bool,.bool] .bool],[.fresh (.st SI.span)],λa=>Jr n a.1 a.2.1 a.2.2.1,none⟩
def ajv:Hn SI:=(cx (.s (.s .z (.b (.l ⟨[(7,.o 1512),(19,.v af)],[(1512,.l af)],[0,1,2,17,18],[1320],1513,[(7,af)]⟩ 0 ⟨[(7,.o 1512)],[(1512,.l af)],[0,1,2],[],1513,[]⟩ .z))) (iu (.s (.s .z (.b (.l ⟨[(10,.o 1961),(11,.v af)],[(1961,.l (.st SI.span))],[0,1,2,7],[1512],1962,[(10,.st SI.span)]⟩ 2 ⟨[(10,.o 1961)],[(1961,.l (.st SI.span))],[],[],1962,[]⟩ (.s .z (.s (.j ⟨[(10,.o 2218)],[(2218,.l (.st SI.span))],[0,1,2,7,11],[1512],2219,[]⟩ (.b (iu (.s (.j ⟨[(68,.v .bool)],[],[0,1,2,7,10,11,12,13],[1512,1961],3370,[]⟩ .z) .z)))) .z))))) .z))))
theorem ajw:aD 239 (aju n):=cq (ak (Sn n) (ak (qc n) (ak (oD n) (ak (ahh n) ay)))) func239 ajv n
def aer:cy xx:=⟨[.d (.sl aA),.d (.sl aA),.eC [.bool,.bool] .bool],[.d (.sl aA),.d af],λa=>FD n a.1 a.2.1 a.2.2.1,none⟩
def aes:Hn SI:=(.s .z (.s (.s (.j ⟨[(20,.v .bool)],[],[0,1,2],[],1128,[]⟩ .z) .z) (.s (.f [6,7]) (.s .z (.s (.s .z (.b (.l ⟨[(33,.v af)],[(1832,.l (.st SI.strip))],[2,8,9,10,31,32],[],2152,[]⟩ 0 ⟨[],[(1832,.l (.st SI.strip))],[10],[],2152,[]⟩ .z))) .z)))))
theorem aeu:aD 211 (aer n):=cq (ak (o7 n) (ak (Uh n) (ak (aqb n) (ak (ajw n) (ak (Zq n) (ak PW ay)))))) func211 aes n
def ZG:cy xx:=⟨[.d .bool,.d .bool],[.d .bool],λa=>yV a.1 a.2.1,none⟩
theorem ZH:aD 212 ZG:=cq ay func212 .z 0
def ahi:cy xx:=⟨[.d (.sl aA),.d (.sl aA)],[.d (.sl aA),.d af],λa=>KI n a.1 a.2.1,none⟩
theorem ahj:aD 165 (ahi n):=cq (ak (aeu n) (ak ZH ay)) func165 .z n
def Np:cy xx:=⟨[.d bG,.ref gX],[.d .bool],λa=>wN a.1 a.2.1,none⟩
theorem Nq:aD 167 Np:=cq ay func167 .z 0
def Ns:cy xx:=⟨[.d (.sl bG),.eC [bG] .bool],[.d af],λa=>wO n a.1 a.2.1,none⟩
def Nt:Hn SI:=(.s .z (.s (.s .z (.b (.lx ⟨[(8,.v af)],[],[0,1,7],[],1256,[]⟩ 0 ⟨[],[],[],[],1256,[]⟩ .z))) .z))
theorem Nu:aD 213 (Ns n):=cq ay func213 Nt n
def H6:cy xx:=⟨[.d (.sl bG),.eC [bG] .bool],[.d .bool],λa=>nQ n a.1 a.2.1,none⟩
theorem H7:aD 166 (H6 n):=cq (ak (Nu n) ay) func166 .z n
def U8:cy xx:=⟨[.d gT,.d (.st SI.Lot),.d eX],[.d .bool],λa=>qa n a.1 a.2.1 a.2.2.1,none⟩
def U9:Hn SI:=(.s .z (.s (.s (.j ⟨[(30,.v .bool)],[],[3,4,5],[1000,1064,1128],1256,[]⟩ .z) .z) (.s (.s .z (.b (.lx ⟨[(34,.v af)],[],[3,4,5,32,33],[1000,1064,1128,1320],1512,[]⟩ 0 ⟨[],[],[3,5],[1000,1128],1512,[]⟩ (cx (.s (.b (cx (.s (.j ⟨[(58,.v .bool)],[],[3,4,5,32,33,34],[1000,1064,1128,1320],2600,[]⟩ .z) .z))) .z))))) (.s (.s .z (.b (.lx ⟨[(63,.v af)],[],[3,61,62],[1000],1768,[]⟩ 2 ⟨[],[],[],[],1768,[]⟩ (cx (.s (.b (cx (.b (.lx ⟨[(70,.v af)],[],[3,61,62,63,68,69],[1000],2344,[]⟩ 4 ⟨[],[],[3,61,62,63],[1000],2344,[]⟩ .z)))) .z))))) .z))))
theorem Va:aD 118 (U8 n):=cq (ak (ZA n) (ak (o7 n) (ak (Mr n) (ak (ahj n) (ak (acO n) (ak JZ (ak (H7 n) (ak Nq ay)))))))) func118 U9 n
def Sq:cy xx:=⟨[.d eX],[.fresh aF],λa=>uZ n a.1,none⟩
def Sr:Hn SI:=(cx (.s (.s .z (.b (.l ⟨[(3,.o 1448),(9,.v af)],[(1448,.l aF)],[7,8],[],1449,[(3,aF)]⟩ 0 ⟨[(3,.o 1448)],[(1448,.l aF)],[],[],1449,[]⟩ .z))) .z))
theorem Sv:aD 119 (Sq n):=cq ay func119 Sr n
def Sw:cy xx:=⟨[.d (.sl (.st SI.j9))],[.fresh (.st SI.side)],λa=>qM n a.1,none⟩
def Sy:Hn SI:=(cx (.s (.s .z (.b (.l ⟨[(10,.v af)],[(1192,.l (.st SI.side))],[0,3,9],[],1512,[]⟩ 0 ⟨[],[(1192,.l (.st SI.side))],[3],[],1512,[]⟩ .z))) .z))
theorem EF:aD 266 (Sw n):=cq ay func266 Sy n
def Sz:cy xx:=⟨[.d (.st SI.j9)],[.d .bool],λa=>u6 a.1,none⟩
theorem SA:aD 285 Sz:=cq ay func285 .z 0
def Gj:cy xx:=⟨[.d (.st SI.side)],[.d .bool],λa=>gY a.1,none⟩
theorem vO:aD 267 Gj:=cq ay func267 .z 0
def aev:cy xx:=⟨[.d (.sl af)],[.d af],λa=>wP n a.1,none⟩
def aew:Hn SI:=(cx (.s (.s .z (.b (.lx ⟨[(8,.v af)],[],[3,6,7],[],1320,[]⟩ 0 ⟨[],[],[3],[],1320,[]⟩ .z))) .z))
theorem Qk:aD 241 (aev n):=cq ay func241 aew n
def Ql:cy xx:=⟨[.d (.st SI.j9),.d (.st SI.j9)],[.d af],λa=>tq n a.1 a.2.1,none⟩
theorem Qm:aD 286 (Ql n):=cq (ak qz (ak (Qk n) ay)) func286 .z n
def Gl:cy xx:=⟨[.d (.st SI.side),.d (.st SI.side)],[.d .bool],λa=>mH a.1 a.2.1,none⟩
theorem Gm:aD 287 Gl:=cq ay func287 .z 0
def Vb:cy xx:=⟨[.d (.sl (.st SI.j9))],[.d .bool],λa=>xu n a.1,none⟩
def Vd:Hn SI:=(.s .z (.s (.s (.j ⟨[(16,.v .bool)],[],[0],[],1064,[]⟩ .z) .z) (.s .z (.s (.s .z (.b (.lx ⟨[(21,.v af)],[],[0,3,19,20],[1128],1448,[]⟩ 0 ⟨[],[],[3],[1128],1448,[]⟩ (cx (.s (.b (cx (.s (.s (.j ⟨[(61,.v .bool)],[],[0,3,4,19,20,21],[1128],2536,[]⟩ .z) .z) (.s (.j ⟨[(74,.v .bool)],[],[0,3,19,20,21],[1128],2536,[]⟩ .z) .z)))) .z))))) (.s (.s .z (.b (.lx ⟨[(78,.v af)],[],[3,77],[1128],1640,[]⟩ 2 ⟨[],[],[3],[1128],1640,[]⟩ (cx (.s (.b (cx (.b (.lx ⟨[(8,.v af)],[],[3,7,77,78],[1128],2024,[]⟩ 4 ⟨[],[],[3,77,78],[1128],2024,[]⟩ (.s .z (.s (.b (.s (.j ⟨[(106,.v .bool)],[],[3,7,8,77,78],[1128],2280,[]⟩ .z) .z)) .z)))))) .z))))) .z)))))
theorem Ve:aD 265 (Vb n):=cq (ak (EF n) (ak SA (ak vO (ak (Qm n) (ak Gm ay))))) func265 Vd n
def SB:cy xx:=⟨[.d (.sl (.st SI.j9))],[.fresh aA,.d af],λa=>u7 n a.1,none⟩
def SC:Hn SI:=(iu (.s (.s .z (.b (.l ⟨[(4,.o 1576),(19,.v af)],[(1576,.l af)],[0,17,18],[],1577,[(4,af)]⟩ 0 ⟨[(4,.o 1576)],[(1576,.l af)],[0],[],1577,[]⟩ .z))) (wg (.s (.s .z (.b (.l ⟨[(8,.o 2409),(38,.v af)],[(2409,.l aA)],[4,7,37],[1576,1961],2410,[(8,aA)]⟩ 2 ⟨[(8,.o 2409)],[(2409,.l aA)],[],[],2410,[]⟩ (cx (.s (.b (cx (.s (.s .z (.b (.l ⟨[(10,.o 2858),(43,.v af)],[(2858,.l af)],[4,7,8,9,37,38,41,42],[1576,1961,2409],2859,[(10,af)]⟩ 4 ⟨[(10,.o 2858)],[(2858,.l af)],[4,7,8,9,37,38],[1576,1961,2409],2859,[]⟩ (cx (.s (.j ⟨[(10,.o 2923)],[(2923,.l af)],[4,7,8,9,37,38,41,42,43],[1576,1961,2409],2924,[]⟩ (.b (.s .z (.s (.j ⟨[(77,.v .bool)],[],[4,7,8,9,10,12,37,38,41,42,43],[1576,1961,2409,2858,3051],3179,[]⟩ .z) .z)))) .z))))) (cx (.b (.l ⟨[(8,.o 3051),(13,.v af)],[(3051,.l aA)],[4,7,9,10,37,38],[1576,1961,2858],3052,[]⟩ 6 ⟨[(8,.o 3051)],[(3051,.l aA)],[4,7,37,38],[1576,1961],3052,[]⟩ .z)))))) .z))))) .z))))
theorem SF:aD 242 (SB n):=cq (ak (Ve n) (ak (qc n) (ak (oD n) (ak (EF n) (ak vO ay))))) func242 SC n
def ZI:cy xx:=⟨[.d bD],[.fresh aA],λa=>yX n a.1,none⟩
theorem ZJ:aD 215 (ZI n):=cq (ak (SF n) ay) func215 .z n
def Vf:cy xx:=⟨[.d (.sl aA),.d (.sl aA)],[.d af,.d (.st SI.j9)],λa=>xw n a.1 a.2.1,none⟩
def Vg:Hn SI:=(cx (.s (.s .z (.b (.l ⟨[(6,.v af),(18,.v af)],[(1192,xn)],[1,5,7,16,17],[1064],1576,[]⟩ 0 ⟨[(6,.v af)],[(1192,xn)],[5,7],[1064],1576,[]⟩ (cx (.s (.b (cx (.b (.l ⟨[(6,.v af),(24,.v af)],[(1192,xn)],[1,5,7,9,16,17,18,22,23],[1064,1768],2088,[]⟩ 2 ⟨[(6,.v af)],[(1192,xn)],[1,5,7,16,17,18],[1064],2088,[]⟩ (cx (.s (.j ⟨[(6,.v af)],[(1192,xn)],[1,5,7,9,16,17,18,22,23,24],[1064,1768],2152,[]⟩ .z) .z)))))) .z))))) .z))
theorem Vh:aD 214 (Vf n):=cq (ak Cy (ak JZ (ak qz (ak (Qk n) ay)))) func214 Vg n
def Vi:cy xx:=⟨[.d gT,.d (.sl aA)],[.fresh af],λa=>xA n a.1 a.2.1,none⟩
def Vj:Hn SI:=(iu (.s (.s .z (.b (.l ⟨[(5,.o 1640),(16,.v af)],[(1640,.l af)],[1,14,15],[],1641,[(5,af)]⟩ 0 ⟨[(5,.o 1640)],[(1640,.l af)],[],[],1641,[]⟩ .z))) .z))
theorem Vk:aD 168 (Vi n):=cq (ak (o7 n) (ak (ZJ n) (ak (Vh n) ay))) func168 Vj n
def ahk:cy xx:=⟨[.d gT,.d (.sl aA)],[.fresh .str],λa=>D8 n a.1 a.2.1,none⟩
def ahl:Hn SI:=(iu (.s (.s .z (.b (.l ⟨[(6,.v af),(17,.v af)],[],[2,5,15,16],[1000,1256],1640,[]⟩ 0 ⟨[(6,.v af)],[],[2,5],[1000,1256],1640,[]⟩ (cx (.s (.j ⟨[(6,.v af)],[],[2,5,15,16,17],[1000,1256],1704,[]⟩ (.b (.s .z (.s (.j ⟨[(44,.v .bool)],[],[2,5,6,7,15,16,17],[1000,1256],2024,[]⟩ .z) .z)))) .z))))) (.s .z (.s (.s .z (.b (.l ⟨[(9,.o 1896),(49,.v af)],[(1896,.l .str)],[2,6,47,48],[1000,1256],1897,[(9,.str)]⟩ 2 ⟨[(9,.o 1896)],[(1896,.l .str)],[],[],1897,[]⟩ (cx (.s (.j ⟨[(9,.o 1961)],[(1961,.l .str)],[2,6,47,48,49],[1000,1256],1962,[]⟩ (.b (.s .z (.s (.j ⟨[(68,.v .bool)],[],[2,6,9,10,47,48,49],[1000,1256,1896],2281,[]⟩ .z) .z)))) .z))))) .z))))
theorem ahm:aD 120 (ahk n):=cq (ak (Vk n) ay) func120 ahl n
def aa9:cy xx:=⟨[.d (.st SI.pH),.d eX],[.d (.st SI.lv),.d af],λa=>Br n a.1 a.2.1,none⟩
theorem abb:aD 88 (aa9 n):=cq (ak (El n) (ak (Va n) (ak (Sv n) (ak (ahm n) ay)))) func88 .z n
def Nv:cy xx:=⟨[.d .str,.ref (.sl .str)],[.d .bool],λa=>kM n a.1 a.2.1,none⟩
theorem Nw:aD 169 (Nv n):=cq (ak (jw n) ay) func169 .z n
def H8:cy xx:=⟨[.d (.sl .str),.eC [.str] .bool],[.d af],λa=>rX n a.1 a.2.1,none⟩
def H9:Hn SI:=(.s .z (.s (.s .z (.b (.lx ⟨[(8,.v af)],[],[0,1,7],[],1256,[]⟩ 0 ⟨[],[],[],[],1256,[]⟩ .z))) .z))
theorem Ia:aD 216 (H8 n):=cq ay func216 H9 n
def CV:cy xx:=⟨[.d (.sl .str),.eC [.str] .bool],[.d .bool],λa=>gm n a.1 a.2.1,none⟩
theorem CW:aD 170 (CV n):=cq (ak (Ia n) ay) func170 .z n
def Vl:cy xx:=⟨[.d aW,.d (.sl .str)],[.d .bool],λa=>sI n a.1 a.2.1,none⟩
theorem Vm:aD 121 (Vl n):=cq (ak (CW n) (ak (Nw n) ay)) func121 .z n
def ZK:cy xx:=⟨[.d gT,.d (.sl .str),.d af],[.fresh af],λa=>ve n a.1 a.2.1 a.2.2.1,none⟩
def ZL:Hn SI:=(cx (.s (.s .z (.b (.l ⟨[(7,.o 1448),(13,.v af)],[(1448,.l af)],[1,2,11,12],[],1449,[(7,af)]⟩ 0 ⟨[(7,.o 1448)],[(1448,.l af)],[],[],1449,[]⟩ (cx (.s (.j ⟨[(7,.o 1513)],[(1513,.l af)],[1,2,11,12,13],[],1514,[]⟩ (.b (.s .z (.s (.j ⟨[(37,.v .bool)],[],[1,2,7,8,11,12,13],[1448],1897,[]⟩ .z) .z)))) .z))))) .z))
theorem ZM:aD 90 (ZK n):=cq (ak (Vm n) ay) func90 ZL n
def ajx:cy xx:=⟨[.d af],[.d af,.d .bool],λa=>zW a.1,none⟩
def ajy:Hn SI:=(.s .z (.s (.s .z (.b (.s (.j ⟨[(5,.v .bool)],[],[0,4],[],1192,[]⟩ .z) (.s .z (.s (.j ⟨[(10,.v .bool)],[],[0,4],[],1192,[]⟩ .z) .z))))) .z))
theorem ajz:aD 243 ajx:=cq ay func243 ajy 0
def ahn:Hn SI:=(cx (.s (.s (.j ⟨[(28,.v .bool)],[],[1,2],[1000],1640,[]⟩ .z) .z) (.s .z (.s (.s .z (.b (.l ⟨[(7,.v af),(32,.v af)],[],[1,30,31],[],1960,[]⟩ 0 ⟨[(7,.v af)],[],[],[],1960,[]⟩ .z))) .z))))
theorem aex(rc:(dD)->(Int)->J Int)(hr:aD 217 (FH rc)):aD 217 (FH (Bt n rc)):=cq (ak ajz (ak hr ay)) func217 ahn n
theorem Qn(n:Nat):∀m,aD 217 (FH (ul n m))
 | 0=>xl (qG func217 (by kernel_rfl:Tryz.f217.body=some (Tryz.f217.body.getD .skip)) (by kernel_rfl)) (λ _ _ h=>(by cases h)) rfl
 |m+1=>aex n _ (Qn n m)
def aho:cy xx:=⟨[.d (.st SI.Expr),.d af],[.d af],λa=>Rn n a.1 a.2.1,none⟩
theorem ahp:aD 217 (aho n):=Qn n n
def ajA:cy xx:=⟨[.d (.st SI.Expr)],[.d .bool],λa=>Js n a.1,none⟩
theorem ZN:aD 171 (ajA n):=cq (ak (ahp n) ay) func171 .z n
mutual
theorem aqc:∀g:dD,(toE g).wt<=4000000->tI (toE g) (sV g)
 |⟨op,n,s,key,args⟩,h=>by simp only[toE,ET.wt]at h;have:=ET.sX (Jt args);simp only[toE,sV,tI];exact⟨n,key,_,rfl,by unfold maxLen;omega,by omega,ZO args (by omega)⟩
theorem ZO:∀l:List dD,ET.u9 (Jt l)<=4000000->pn (Jt l) (uM l)
 |[],_=>by simp only[Jt,uM,pn]
 |x::xs,h=>by simp only[Jt,ET.u9]at h;simp only[Jt,uM,pn];exact⟨_,_,rfl,aqc x (by omega),ZO xs (by omega)⟩
end
def Qo:cy xx:=⟨[],[.d .bool],λ_=>none,some ⟨[.v (.sl bA)],[],[.p 1000],[(1000,tt)],λv=>lW v⟩⟩
theorem ahq:∀l:Y gW,tm (l.map toD)<=4000000->pp (l.map toD) (l.map Ci)
 |[],_=>by simp only[List.map_nil,pp]
 |x::xs,h=>by simp only[bq,tm,List.foldr_cons,toD,ET.wt]at h;have:=ET.sX (Jt x.fh);simp only[bq,pp];refine⟨_,_,rfl,⟨_,_,_,_,_,rfl,by simp only[toD];unfold maxLen;omega,?_⟩,ahq xs (by simp only[tm];omega)⟩;simp only[toD,tI];exact⟨_,_,_,rfl,by unfold maxLen;omega,by omega,by rw[<- uN];exact ZO _ (by omega)⟩
theorem Qp:aD 244 Qo:=by
 have hcall:eH Tryz.prog 244:=⟨_,func244,by kernel_rfl,by kernel_rfl⟩;refine aqJ hcall ?_;intro v r hr;have h':lW v=some r:=hr;unfold lW at h';cases hb:Nat.ble (tm (List.map toD v)) 4000000 with
 |false=>rw[hb]at h';cases h'
 |true=>
  rw[hb]at h';have h'':some (v,qh (List.map toD v))=some r:=h';injection h'' with e;subst e;have hw:=Nat.le_of_ble_eq_true hb;have hlen:=VQ (List.map toD v);have hn:∀d∈List.map toD v,d.2.names.length<=4000000:=λd hd=>by have h1:=VU hd;have h2:=ET.qk d.2;omega
  exact adG (TL:=41) (TG:=353) (TI:=3) hcall (ahq v hw) λsv w hS=>apr (List.map toD v) (by omega) (λ d hd=>Nat.le_trans (hn d hd) (by omega))
   (λ d hd v0 v1 v2 v3 v4 w hE=>callsIn_wide.1 (anD 0 d.2 v0 v1 v2 v3 v4 w hE (Nat.le_trans (hn d hd) (by omega)))) sv w hS
def Vn:cy xx:=⟨[.d (.sl af),.d af],[.fresh af],λa=>sJ a.1 a.2.1,none⟩
theorem Vo:aD 305 Vn:=by
 have hcall:eH Tryz.prog 305:=⟨_,func305,by kernel_rfl,by kernel_rfl⟩;refine xl hcall (λ a r h=>?_) rfl;obtain⟨l,c,⟨⟩⟩:=a;have h':sJ l c=some r:=h
 match l,h' with
 |[x],h'=>
  simp only[sJ]at h';cases hb:(decide (0<=c)&&decide (c<=1000000000000))with
  |false=>rw[hb]at h';cases h'
  |true=>
   rw[hb]at h';have h'':some (List.replicate c.toNat x)=some r:=h';injection h'' with e;subst e;simp only[aT,bf]at hb;obtain⟨h1,h2⟩:=hb;obtain⟨k,hk⟩:=Int.eq_ofNat_of_zero_le h1;subst hk;exact aiv (Θ:=3) (c:=k) hcall λa cap w hx=>alu x k (Int.ofNat_le.1 (by simpa using h2)) a cap w hx
def CX:cy xx:=⟨[.ref (.st SI.graph),.d af],[.fresh af],λa=>j6 n a.1 a.2.1,none⟩
def CY:Hn SI:=(wg (.s (.b (.l ⟨[(6,.od 2024)],[(1448,.l af),(2024,.l af)],[0,5],[],2025,[]⟩ 0 ⟨[],[(1448,.l af)],[5],[],2024,[]⟩ (.s .z (.b (iu (.b (.l ⟨[(6,.od 3049),(35,.v af)],[(1448,.l af),(3049,.l af)],[0,5,7,33,34],[],3050,[]⟩ 2 ⟨[(6,.od 3049)],[(1448,.l af),(3049,.l af)],[0,5],[],3050,[]⟩ (cx (.s (.j ⟨[(6,.od 3114)],[(1448,.l af),(3114,.l af)],[0,5,7,33,34,35],[],3115,[]⟩ (.b (.s .z (.s (.j ⟨[(49,.v .bool)],[],[0,5,6,7,8,33,34,35],[1448,3049],3434,[]⟩ .z) .z)))) .z))))))))) .z))
theorem CZ:aD 291 (CX n):=cq (ak Vo (ak (BL n) ay)) func291 CY n
def Ny:cy xx:=⟨[.d .str],[.d .bool],λa=>cmp_isNaN_string a.1,none⟩
theorem Nz:aD 306 Ny:=cq ay func306 .z 0
def J2:cy xx:=⟨[.d .str,.d .str],[.d af],λa=>oP a.1 a.2.1,none⟩
theorem J3:aD 292 J2:=cq (ak Nz ay) func292 .z 0
def Le:cy xx:=⟨[.d (.sl .str),.d (.sl .str)],[.d af],λa=>mO n a.1 a.2.1,none⟩
def Lf:Hn SI:=(.s .z (.s (.s .z (.b (.lx ⟨[(11,.v af)],[],[0,1,9,10],[],1256,[]⟩ 0 ⟨[],[],[0,1],[],1256,[]⟩ .z))) .z))
theorem Lg:aD 270 (Le n):=cq (ak J3 ay) func270 Lf n
def Am:ea xx:=⟨[.v af,.p 0],[(0,sy),(1,.l .bool)],[.v .bool],[(0,sy),(1,.l .bool)],λv=>nJ v.1 v.2⟩
def Ao:cy xx:=tzG (Am)
theorem Ap:aD 272 Ao:=pS ay func272 .z 0
def Ib:ea xx:=⟨[.v (.sl af),.f 272 [] [.p 0]],[(0,sy),(1,.l .bool)],[.v af],[(0,sy),(1,.l .bool)],λv=>nR n v.1 v.2⟩
def Ic:cy xx:=tzG (Ib n)
def Ie:Hn SI:=(.s .z (.s (.s .z (.b (.lx ⟨[(8,.v af)],[(0,sy),(1,.l .bool)],[0,1,7],[],1256,[]⟩ 0 ⟨[],[(0,sy),(1,.l .bool)],[],[],1256,[]⟩ .z))) .z))
theorem Ig:aD 293 (Ic n):=pS (ak Ap ay) func293 Ie n
def C8:ea xx:=⟨[.v (.sl af),.f 272 [] [.p 0]],[(0,sy),(1,.l .bool)],[.v .bool],[(0,sy),(1,.l .bool)],λv=>iJ n v.1 v.2⟩
def C9:cy xx:=tzG (C8 n)
theorem Da:aD 271 (C9 n):=pS (ak (Ig n) ay) func271 .z n
def J4:cy xx:=⟨[.ref (.st SI.graph)],[.fresh af],λa=>oQ n a.1,none⟩
def J5:Hn SI:=(iu (.s (.s .z (.b (.l ⟨[(4,.o 2024),(20,.v af)],[(1448,z7),(2024,.l af),(1384,.l .bool)],[0,3,19],[],2025,[(4,af)]⟩ 0 ⟨[(4,.o 2024)],[(2024,.l af)],[],[],2025,[]⟩ (cx (.s (.b (.s .z (.s (.s .z (.b (.l ⟨[(5,.v af),(27,.v af)],[(1448,z7),(1384,.l .bool)],[0,3,4,19,20,25,26],[2024],2537,[]⟩ 2 ⟨[(5,.v af)],[(1448,z7),(1384,.l .bool)],[0,3,4,19,20],[2024],2537,[]⟩ (cx (.s (.j ⟨[(5,.v af)],[(1448,z7),(1384,.l .bool)],[0,3,4,19,20,25,26,27],[2024],2601,[]⟩ (.b (cx (.s (.j ⟨[(66,.v .bool)],[],[0,3,4,5,6,19,20,25,26,27],[1384,1448,2024],3177,[]⟩ .z) .z)))) .z))))) .z))) .z))))) .z))
theorem J6:aD 246 (J4 n):=cq (ak (Da n) ay) func246 J5 n
def Db:ea xx:=⟨[.p 0,.v af],[(0,tt)],[.oz 1000],[(0,tt),(1000,.l .str)],λv=>ko n v.1 v.2.1 v.2.2⟩
def Dc:cy xx:=tzG (Db n)
def Df:Hn SI:=(wg (.b (.lx ⟨[(6,.o 1512),(7,.v af)],[(1512,.l .str)],[0,1,5],[0,1192],1513,[(6,.str)]⟩ 999999 ⟨[],[],[],[],1512,[]⟩ (.b (cx (.s (.s .z (.b (.l ⟨[(8,.v af),(34,.v af)],[],[0,1,5,6,32,33],[0,1192,2153],2921,[]⟩ 2 ⟨[(8,.v af)],[],[0,1,5,6],[0,1192,2153],2921,[]⟩ (cx (.s (.j ⟨[(8,.v af)],[],[0,1,5,6,32,33,34],[0,1192,2153],2985,[]⟩ (.b (.s .z (.s (.j ⟨[(57,.v .bool)],[],[0,1,5,6,8,10,32,33,34],[0,1192,2153],3177,[]⟩ .z) .z)))) .z))))) .z))))))
theorem Dg:aD 269 (Dc n):=pS (ak (CZ n) ay) func269 Df n
def Aq:ea xx:=⟨[.p 0],[(0,tt)],[.oz 1000],[(0,tt),(1000,.l .str)],λv=>ji n v.1 v.2⟩
def Ar:cy xx:=tzG (Aq n)
def Au:Hn SI:=(cx (.s (.s .z (.b (.l ⟨[(3,.oz 1512),(11,.v af)],[(0,tt),(1512,.l .str)],[0,10],[],1513,[(1099511627779,.str)]⟩ 0 ⟨[(3,.oz 1512)],[(0,tt),(1512,.l .str)],[],[],1513,[]⟩ (cx (.s (.j ⟨[(3,.oz 1577)],[(0,tt),(1577,.l .str)],[0,10,11],[],1578,[]⟩ (.b (cx (.s (.s (.j ⟨[(18,.v .bool)],[],[0,3,5,10,11],[0,1512,1833],1961,[]⟩ .z) .z) (.s (.j ⟨[(40,.v .bool)],[],[0,3,5,10,11],[0,1512,1833],1961,[]⟩ .z) .z))))) .z))))) .z))
theorem Av:aD 245 (Ar n):=pS (ak (Dg n) (ak (Lg n) ay)) func245 Au n
def ZP:cy xx:=⟨[.d gT],[.fresh af,.d (.sl .str),.d af],λa=>oU n a.1,none⟩
def ZQ:Hn SI:=(cx (.s (.s .z (.b (.l ⟨[(15,.v af)],[(1256,.m .str .bool)],[1,5,13,14],[1000,1384],1576,[]⟩ 0 ⟨[],[(1256,.m .str .bool)],[1,5],[1000],1576,[]⟩ .z))) (.s (.s .z (.b (.lx ⟨[(25,.v af)],[(1256,.m .str .bool)],[1,5,23,24],[1000],1832,[]⟩ 2 ⟨[],[],[1],[1000],1832,[]⟩ .z))) (.s .z (.s (.s .z (.s (.j ⟨[(43,.v .bool)],[],[10,11],[1960,2152],2280,[]⟩ .z) .z)) .z)))))
theorem ZR:aD 218 (ZP n):=cq (ak BM (ak Qp (ak (Av n) (ak (J6 n) ay)))) func218 ZQ n
def Lh:cy xx:=⟨[.d aY,.ref (.st SI.Expr)],[.d .bool],λa=>Bu a.1 a.2.1,none⟩
theorem Li:aD 247 Lh:=cq ay func247 .z 0
def Lj:cy xx:=⟨[.d gX,.ref (.st SI.Expr)],[.d .bool],λa=>Bv a.1 a.2.1,none⟩
theorem Ll:aD 248 Lj:=cq ay func248 .z 0
def aoN:cy xx:=⟨[.d .bool],[.d af],λa=>zX a.1,none⟩
theorem ahr:aD 220 aoN:=cq ay func220 .z 0
def abd:cy xx:=⟨[.d af,.d af],[.d af],λa=>yc a.1 a.2.1,none⟩
def abe:Hn SI:=(iu (.s (.j ⟨[(5,.v af)],[],[],[],1448,[]⟩ (.s .z (.s (.j ⟨[(23,.v .bool)],[],[5],[],1704,[]⟩ .z) .z))) .z))
theorem abf:aD 249 abd:=cq ay func249 abe 0
def ahs:cy xx:=⟨[.d af,.d af,.d af],[.d af],λa=>KJ a.1 a.2.1 a.2.2.1,none⟩
theorem aht:aD 221 ahs:=cq (ak abf (ak ahr ay)) func221 .z 0
def Lm:ea xx:=⟨[.a [.v (.sl bA),.v (.sl aY),.v (.sl bD),.v (.sl aW),.v (.sl bG),.v (.sl bE),.v (.sl aX),.v af,.mp 0,.v (.sl .str)],.v (.st SI.Expr)],[(0,.m .str af)],[.v af],[(0,.m .str af)],λ(qa,qb,qc,qd,qe,qf,qg,qh,qi,qj,qk)=>jG n qa qb qc qd qe qf qg qh qi qj qk⟩
def Lp:cy xx:=tzG (Lm n)
theorem Lr:aD 219 (Lp n):=pS (ak (yu n) (ak Li (ak (qQ n) (ak Ll ay)))) func219 .z n
def Ih:Hn SI:=(cx (.s (.s .z (.b (.l ⟨[(5,.o 1512),(11,.v af)],[(0,.m .str af),(1512,.l af)],[2,3,9,10],[1000,1064],1513,[(5,af)]⟩ 0 ⟨[(5,.o 1512)],[(0,.m .str af),(1512,.l af)],[2,3],[1000,1064],1513,[]⟩ (cx (.s (.j ⟨[(5,.o 1577)],[(0,.m .str af),(1577,.l af)],[2,3,9,10,11],[1000,1064],1578,[]⟩ (.b (.s .z (.s (.s (.j ⟨[(31,.v .bool)],[],[2,3,5,7,9,10,11],[0,1000,1064,1512,1769],1961,[]⟩ .z) .z) .z)))) .z))))) .z))
theorem Gn(rc:((List gW))->((List bQ))->((List fO))->((List dw))->((List jI))->((List iG))->((List dM))->(Int)->((List ByteArray))->(dD)->((List (ByteArray×Int)))->J (Int×(List (ByteArray×Int))))(hr:aD 173 (kr rc)):aD 173 (kr (fH n rc)):=pS (ak hr (ak (Lr n) (ak (jw n) (ak ahr (ak aht ay))))) func173 Ih n
theorem vP(n:Nat):∀m,aD 173 (kr (bS n m))
 | 0=>aqJ (qG func173 (by kernel_rfl:Tryz.f173.body=some (Tryz.f173.body.getD .skip)) (by kernel_rfl)) (λ _ _ h=>(by cases h))
 |m+1=>Gn n _ (vP n m)
def Ii:cy xx:=kr (bS n n)
theorem wm:aD 173 (Ii n):=vP n n
def Vp:ea xx:=⟨[.v gT,.v (.sl gX),.v (.sl .str)],[],[.a [.v (.sl bA),.v (.sl aY),.v (.sl bD),.v (.sl aW),.v (.sl bG),.v (.sl bE),.v (.sl aX),.v af,.mp 1000,.v (.sl .str)],.o 1001],[(1000,.m .str af),(1001,.l af)],λv=>nK n v.1 v.2.1 v.2.2⟩
def Vq:cy xx:=tzG (Vp n)
def Vr:Hn SI:=(iu (.s (.s .z (.b (.l ⟨[(26,.v af)],[(1256,.m .str af),(1576,.m .str .bool)],[3,6,8,9,24,25],[1000,1064,1448],1896,[]⟩ 0 ⟨[],[(1256,.m .str af),(1576,.m .str .bool)],[3,6,8,9],[1000,1064,1448],1896,[]⟩ (cx (.s (.j ⟨[],[(1256,.m .str af),(1576,.m .str .bool)],[3,6,8,9,24,25,26],[1000,1064,1448],1960,[]⟩ .z) .z))))) (iu (.s (.s .z (.b (.l ⟨[(61,.v af)],[(1256,.m .str af),(2088,.l af)],[3,6,8,9,12,59,60],[1000,1064,1448,1576,2280],3112,[]⟩ 2 ⟨[],[(1256,.m .str af),(2088,.l af)],[6,8,12],[1064,1448],3112,[]⟩ (cx (.s (.j ⟨[],[(1256,.m .str af),(2088,.l af)],[3,6,8,9,12,59,60,61],[1000,1064,1448,1576,2280],3176,[]⟩ (.b (cx (.s (.j ⟨[],[(1256,.m .str af),(2088,.l af)],[3,6,8,9,12,17,18,59,60,61],[1000,1064,1448,1576,2280,3688],3816,[]⟩ .z) .z)))) .z))))) .z))))
theorem Vs:aD 172 (Vq n):=pS (ak (ZR n) (ak (ZN n) (ak (wm n) ay))) func172 Vr n
def amj:cy xx:=⟨[.d gT,.d (.sl gX),.d (.sl .str),.d (.st SI.Expr)],[.d af],λa=>Bw n a.1 a.2.1 a.2.2.1 a.2.2.2.1,none⟩
theorem amk:aD 122 (amj n):=cq (ak (ZN n) (ak (Vs n) (ak (wm n) ay))) func122 .z n
def ajB:cy xx:=⟨[.d (.sl aA)],[.d aA,.d .bool],λa=>Pf n a.1,none⟩
def ajC:Hn SI:=(.s .z (.s (.s .z (.b (.l ⟨[(3,.v .bool),(8,.v af)],[(1000,De)],[2,6,7],[],1320,[]⟩ 0 ⟨[(3,.v .bool)],[(1000,De)],[2],[],1320,[]⟩ (cx (.s (.j ⟨[(3,.v .bool)],[(1000,De)],[2,6,7,8],[],1384,[]⟩ .z) .z))))) .z))
theorem ajD:aD 174 (ajB n):=cq (ak rM ay) func174 ajC n
def ahu:cy xx:=⟨[.d (.sl aA)],[.d aA,.d .bool],λa=>KL n a.1,none⟩
def ahv:Hn SI:=(.s .z (.s (.s (.j ⟨[(11,.v .bool)],[],[0,2],[1000],1128,[]⟩ .z) .z) .z))
theorem ahw:aD 123 (ahu n):=cq (ak (o7 n) (ak (ajD n) ay)) func123 ahv n
def ZT:cy xx:=⟨[.d aF],[.fresh (.st SI.mm)],λa=>y5 a.1,none⟩
theorem J7:aD 95 ZT:=cq ay func95 .z 0
def J8:cy xx:=⟨[.d (.sl (.st SI.io)),.eC [.st SI.io] .bool],[.d af],λa=>tN n a.1 a.2.1,none⟩
def J9:Hn SI:=(.s .z (.s (.s .z (.b (.lx ⟨[(8,.v af)],[],[0,1,7],[],1256,[]⟩ 0 ⟨[],[],[],[],1256,[]⟩ .z))) .z))
theorem Ka:aD 250 (J8 n):=cq ay func250 J9 n
def EG:cy xx:=⟨[.d (.sl (.st SI.io)),.eC [.st SI.io] .bool],[.d .bool],λa=>lu n a.1 a.2.1,none⟩
theorem EH:aD 222 (EG n):=cq (ak (Ka n) ay) func222 .z n
def ZU:cy xx:=⟨[.d af,.d af,.d af],[.d .bool],λa=>oV a.1 a.2.1 a.2.2.1,none⟩
theorem ZV:aD 251 ZU:=cq ay func251 .z 0
def abg:cy xx:=⟨[.d (.st SI.io)],[.d .bool],λa=>BA a.1,none⟩
theorem abh:aD 224 abg:=cq (ak ZV ay) func224 .z 0
def SG:cy xx:=⟨[.d (.st SI.io)],[.d .bool],λa=>vg a.1,none⟩
theorem SH:aD 223 SG:=cq (ak abh ay) func223 .z 0
def abj:cy xx:=⟨[.d aA,.d (.sl (.st SI.io))],[.d .bool],λa=>BB n a.1 a.2.1,none⟩
theorem abk:aD 175 (abj n):=cq (ak rM (ak (EH n) (ak SH ay))) func175 .z n
def aml:cy xx:=⟨[.d (.sl aA),.d (.sl aA)],[.d .bool],λa=>VX n a.1 a.2.1,none⟩
theorem amm:aD 182 (aml n):=cq (ak (GJ n) ay) func182 .z n
def ajE:cy xx:=⟨[.d (.sl (.st SI.mm))],[.d .bool],λa=>Ju n a.1,none⟩
def ajF:Hn SI:=(cx (.s (.s .z (.b (.lx ⟨[(11,.v af)],[],[0,9,10],[],1448,[]⟩ 0 ⟨[],[],[],[],1448,[]⟩ (cx (.s (.jx ⟨[],[],[0,9,10,11],[],1512,[]⟩ (.b (.s .z (.s (.s (.j ⟨[(42,.v .bool)],[],[0,3,4,9,10,11],[1704],1896,[]⟩ .z) .z) (cx (.s (.j ⟨[(68,.v .bool)],[],[0,9,10,11],[],2472,[]⟩ .z) .z)))))) .z))))) .z))
theorem ZW:aD 130 (ajE n):=cq (ak (o7 n) (ak (amm n) ay)) func130 ajF n
def Qq:cy xx:=⟨[.d aA,.d af,.d af],[.d (.st SI.oX)],λa=>yC a.1 a.2.1 a.2.2.1,none⟩
theorem Qr:aD 252 Qq:=cq ay func252 .z 0
def SK:cy xx:=⟨[.d af,.d af],[.d af],λa=>vk a.1 a.2.1,none⟩
def SL:Hn SI:=(cx (.s (.j ⟨[(5,.v af)],[],[],[],1320,[]⟩ .z) .z))
theorem SQ:aD 253 SK:=cq ay func253 SL 0
def ahx:cy xx:=⟨[.d aA,.d (.sl (.st SI.io)),.d af,.d af],[.d af],λa=>KM n a.1 a.2.1 a.2.2.1 a.2.2.2.1,none⟩
def ahy:Hn SI:=(iu (.s (.s .z (.b (.l ⟨[(9,.v af),(19,.v af)],[],[10,17,18],[1448],1768,[]⟩ 0 ⟨[(9,.v af)],[],[],[],1768,[]⟩ .z))) .z))
theorem ahz:aD 225 (ahx n):=cq (ak Qr (ak SQ ay)) func225 ahy n
def ZX:cy xx:=⟨[.d aA,.d (.sl (.st SI.io)),.d (.sl aA)],[.d af],λa=>y8 n a.1 a.2.1 a.2.2.1,none⟩
def ZY:Hn SI:=(cx (.s (.s .z (.b (.l ⟨[(7,.v af),(16,.v af)],[],[1,3,14,15],[1000],1384,[]⟩ 0 ⟨[(7,.v af)],[],[],[],1384,[]⟩ (cx (.s (.b (cx (.b (.l ⟨[(7,.v af),(27,.v af)],[],[1,3,9,14,15,16,25,26],[1000,1576,2024],2216,[]⟩ 2 ⟨[(7,.v af)],[],[1,3,14,15,16],[1000],2216,[]⟩ (cx (.s (.b (cx (.b (.l ⟨[(7,.v af),(38,.v af)],[],[1,3,9,11,14,15,16,25,26,27,36,37],[1000,1576,2024,2792],2984,[]⟩ 4 ⟨[(7,.v af)],[],[1,3,9,14,15,16,25,26,27],[1000,1576,2024],2984,[]⟩ .z)))) .z)))))) .z))))) .z))
theorem Z0:aD 177 (ZX n):=cq (ak (ahz n) ay) func177 ZY n
def Qs:cy xx:=⟨[.d (.st SI.mm),.ref aA,.ref (.sl (.st SI.io))],[.d .bool],λa=>tF n a.1 a.2.1 a.2.2.1,none⟩
theorem Qt:aD 176 (Qs n):=cq (ak (Z0 n) ay) func176 .z n
def Ls:cy xx:=⟨[.d (.sl (.st SI.mm)),.eC [.st SI.mm] .bool],[.d af],λa=>vo n a.1 a.2.1,none⟩
def Lu:Hn SI:=(.s .z (.s (.s .z (.b (.lx ⟨[(8,.v af)],[],[0,1,7],[],1256,[]⟩ 0 ⟨[],[],[],[],1256,[]⟩ .z))) .z))
theorem Lv:aD 183 (Ls n):=cq ay func183 Lu n
def Gp:cy xx:=⟨[.d (.sl (.st SI.mm)),.eC [.st SI.mm] .bool],[.d .bool],λa=>jo n a.1 a.2.1,none⟩
theorem vQ:aD 131 (Gp n):=cq (ak (Lv n) ay) func131 .z n
def Z4:cy xx:=⟨[.d aA,.d (.sl (.st SI.io)),.d (.sl (.st SI.mm))],[.d .bool],λa=>y9 n a.1 a.2.1 a.2.2.1,none⟩
def Z5:Hn SI:=(.s .z (.s (.s (.j ⟨[(15,.v .bool)],[],[2,3,4],[1000,1064],1192,[]⟩ .z) .z) .z))
theorem Z6:aD 125 (Z4 n):=cq (ak (abk n) (ak (ZW n) (ak (vQ n) (ak (Qt n) ay)))) func125 Z5 n
def Dh:cy xx:=⟨[.d aF,.ref aA,.ref aW],[.d .bool],λa=>ku n a.1 a.2.1 a.2.2.1,none⟩
theorem Di:aD 124 (Dh n):=cq (ak J7 (ak (Z6 n) ay)) func124 .z n
def NA:cy xx:=⟨[.d (.st SI.lv),.eC [aF] .bool],[.d .bool],λa=>ic n a.1 a.2.1,none⟩
theorem Aw:aD 92 (NA n):=cq (ak (sP n) ay) func92 .z n
def Dj:cy xx:=⟨[.d aF,.ref aW],[.d .bool],λa=>kz a.1 a.2.1,none⟩
theorem Dk:aD 126 Dj:=cq ay func126 .z 0
def EI:cy xx:=⟨[.d (.st SI.ia),.ref (.st SI.lv),.ref aF,.ref aW],[.d .bool],λa=>dU a.1 a.2.1 a.2.2.1 a.2.2.2.1,none⟩
def EJ:Hn SI:=(cx (.s (.s (.j ⟨[(32,.v .bool)],[],[2,3,6],[1256],1384,[]⟩ .z) .z) (.s (.j ⟨[(7,.v .bool)],[],[2,3,6],[1256],1384,[]⟩ .z) .z)))
theorem EK:aD 179 EI:=cq (ak rM (ak akH ay)) func179 EJ 0
def Ij:cy xx:=⟨[.d (.sl (.st SI.ia)),.eC [.st SI.ia] .bool],[.d af],λa=>rY n a.1 a.2.1,none⟩
def Ik:Hn SI:=(.s .z (.s (.s .z (.b (.lx ⟨[(8,.v af)],[],[0,1,7],[],1256,[]⟩ 0 ⟨[],[],[],[],1256,[]⟩ .z))) .z))
theorem Il:aD 226 (Ij n):=cq ay func226 Ik n
def Dl:cy xx:=⟨[.d (.sl (.st SI.ia)),.eC [.st SI.ia] .bool],[.d .bool],λa=>kC n a.1 a.2.1,none⟩
theorem Dm:aD 178 (Dl n):=cq (ak (Il n) ay) func178 .z n
def Kb:cy xx:=⟨[.d (.st SI.lv),.d aW,.d aF],[.d .bool],λa=>tO n a.1 a.2.1 a.2.2.1,none⟩
theorem Kc:aD 128 (Kb n):=cq (ak (Dm n) (ak EK ay)) func128 .z n
def Dn:cy xx:=⟨[.d aF,.ref (.st SI.lv),.ref aW],[.d .bool],λa=>kD n a.1 a.2.1 a.2.2.1,none⟩
theorem Dp:aD 127 (Dn n):=cq (ak (Kc n) ay) func127 .z n
def Im:cy xx:=⟨[.d (.st SI.lv),.d aW],[.d .bool],λa=>nS n a.1 a.2.1,none⟩
theorem Io:aD 91 (Im n):=cq (ak (Qg n) (ak (amk n) (ak (ahw n) (ak (Aw n) (ak (Di n) (ak Dk (ak (Dp n) ay))))))) func91 .z n
def Vt:cy xx:=⟨[.d aA,.ref aA],[.d .bool],λa=>xB a.1 a.2.1,none⟩
theorem Vu:aD 186 Vt:=cq ay func186 .z 0
def Lx:cy xx:=⟨[.d (.sl aA),.eC [aA] .bool],[.d af],λa=>vv n a.1 a.2.1,none⟩
def LA:Hn SI:=(.s .z (.s (.s .z (.b (.lx ⟨[(8,.v af)],[],[0,1,7],[],1256,[]⟩ 0 ⟨[],[],[],[],1256,[]⟩ .z))) .z))
theorem LB:aD 228 (Lx n):=cq ay func228 LA n
def Gq:cy xx:=⟨[.d (.sl aA),.eC [aA] .bool],[.d .bool],λa=>jq n a.1 a.2.1,none⟩
theorem vR:aD 184 (Gq n):=cq (ak (LB n) ay) func184 .z n
def aey:cy xx:=⟨[.d aA,.ref (.sl aA)],[.d .bool],λa=>FK n a.1 a.2.1,none⟩
theorem aez:aD 185 (aey n):=cq (ak (vR n) (ak Vu ay)) func185 .z n
def amn:cy xx:=⟨[.d (.sl aA),.d (.sl aA)],[.d .bool],λa=>VY n a.1 a.2.1,none⟩
theorem amo:aD 133 (amn n):=cq (ak (vR n) (ak (aez n) ay)) func133 .z n
def Vv:cy xx:=⟨[.d (.st SI.mm),.ref (.st SI.fW)],[.d .bool],λa=>sK n a.1 a.2.1,none⟩
theorem Vw:aD 132 (Vv n):=cq (ak (amo n) ay) func132 .z n
def aeA:cy xx:=⟨[.d (.sl (.st SI.fW)),.d af,.d (.sl (.st SI.mm))],[.d .bool],λa=>FL n a.1 a.2.1 a.2.2.1,none⟩
def aeB:Hn SI:=(cx (.s (.s .z (.b (.lx ⟨[(14,.v af)],[],[1,2,12,13],[],1448,[]⟩ 0 ⟨[],[],[],[],1448,[]⟩ (cx (.s (.jx ⟨[],[],[1,2,12,13,14],[],1512,[]⟩ (.b (.s .z (.s (.s (.j ⟨[(27,.v .bool)],[],[1,2,8,12,13,14],[1640],1768,[]⟩ .z) .z) .z)))) .z))))) .z))
theorem aeC:aD 94 (aeA n):=cq (ak (ZW n) (ak (o7 n) (ak (vQ n) (ak (Vw n) ay)))) func94 aeB n
def NC:cy xx:=⟨[.d aF,.ref (.st SI.pH),.ref eX],[.d .bool],λa=>og n a.1 a.2.1 a.2.2.1,none⟩
theorem ND:aD 93 (NC n):=cq (ak J7 (ak (aeC n) ay)) func93 .z n
def Ip:ea xx:=⟨[.v .str,.v .bool,.p 0],[(0,sy),(1,.l .str)],[],[(0,.c 1 [[.o 1000]]),(1000,.l .str)],λv=>jR n v.1 v.2.1 v.2.2⟩
def Iq:cy xx:=tzG (Ip n)
def Ir:Hn SI:=(.s (.j ⟨[(11,.v .bool)],[],[0,2],[0,1],1000,[]⟩ .z) .z)
theorem Iu:aD 89 (Iq n):=pS (ak (jw n) ay) func89 Ir n
def Vx:cy xx:=⟨[.d (.st SI.pH),.d eX,.d af],[.fresh .str,.d af],λa=>xD n a.1 a.2.1 a.2.2.1,none⟩
def Vy:Hn SI:=(An (.s (.s .z (.b (.l ⟨[(31,.v af)],[(1960,.c 1 [[.o 2664]]),(2664,.l .str)],[3,4,8,10,11,29,30],[1000,1064,1640,2472],2665,[(9028160,.str)]⟩ 0 ⟨[],[(1960,.c 1 [[.o 2664]]),(2664,.l .str)],[3,4,8,10,11],[1000,1064,1640],2665,[]⟩ .z))) .z))
theorem Vz:aD 57 (Vx n):=cq (ak (abb n) (ak (ZM n) (ak (Io n) (ak (Iu n) (ak (Aw n) (ak (ND n) ay)))))) func57 Vy n
def vS:cy xx:=⟨[.d dL,.ref dF],[.d .bool],λa=>mR n a.1 a.2.1,none⟩
theorem Gr:aD 56 (vS n):=cq (ak (Vz n) (ak (jw n) ay)) func56 .z n
def AX:cy xx:=⟨[.d (.st SI.Case),.ref dL],[.d .bool],λa=>jH a.1 a.2.1,none⟩
theorem AY:aD 61 AX:=cq ay func61 .z 0
def LC:cy xx:=⟨[.d (.sl (.st SI.Case)),.eC [.st SI.Case] .bool],[.d af],λa=>vw n a.1 a.2.1,none⟩
def LD:Hn SI:=(.s .z (.s (.s .z (.b (.lx ⟨[(8,.v af)],[],[0,1,7],[],1256,[]⟩ 0 ⟨[],[],[],[],1256,[]⟩ .z))) .z))
theorem LF:aD 60 (LC n):=cq ay func60 LD n
def vT:cy xx:=⟨[.d dL,.ref dF],[.d .bool],λa=>mU n a.1 a.2.1,none⟩
theorem Gs:aD 59 (vT n):=cq (ak (LF n) (ak AY ay)) func59 .z n
noncomputable def Ke(n:Nat):cy xx:=⟨[.d dF,.d dL],[.d .bool],λa=>rF n a.1 a.2.1,none⟩
noncomputable abbrev mN:Code:=Tryz.f21.body.getD .skip
theorem asB{h:aC}{c:aK}{F:S}:pG Tryz.prog (iM tT) (cO (cA mN)) (λ _=>A1) F (List.range (cO (cA mN)).size) ⟨[(0,ri h),(1,sY c)],[],[]⟩=
 some (⟨[(4,bo false),(3,.ptr (cD 1) 0 0),(2,.ptr (cD 0) 0 0),(0,ri h),(1,sY c)],[(cD 1,some (yq c)),(cD 0,some (mf h))],[(4,none),(3,none),(2,none)]⟩,[]):=by kernel_rfl
noncomputable abbrev RK:Y (Nat×AV):=[(2,.ptr 1001 0 0),(3,.ptr 1002 0 0)]
noncomputable abbrev RE(h:aC)(c:aK):Y (Nat×Option aN):=[(1001,some (mf h)),(1002,some (yq c))]
noncomputable def asc:Nat->ky
 | 0=>zj [1001]
 | 3=>zj [1002]
 | 4=>⟨.ext 0,[cD 1],[],false⟩
 | 9=>ar3 [cD 8]
 |_=>A1
noncomputable def nq(h:aC):Nat->ky:=λi=>if i=1 then⟨.so [] [] [] [] [(1000,⟨4,pd 1001⟩),(1001,mf h)] (.mp 1000) false,[],[],false⟩else asc i
noncomputable abbrev yy(h:aC)(c:aK):Y (Nat×Option aN):=[(cD 1,some ⟨4,pd (cD 1+1)⟩),(cD 1+1,some (mf h))]++RE h c
noncomputable abbrev yv(h:aC)(c:aK):Y (Nat×AV):=[(11,tn c.ec),(10,.ptr 1002 0 3),(9,.mp (cD 1)),(8,ri h)]++RK
end
end Go.Proofs
