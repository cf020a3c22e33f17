import Derived.Test.YthkmffljjjfbjaaGreatS2
namespace Go.Proofs
open Go.Gb Go.RowKit
abbrev eJ:OP SI:=.c 10 [[.v (.sl bg),.v (.sl aX),.v (.sl bA),.v (.sl aW),.v (.sl bE),.v (.sl bB),.v (.sl aU),.v ai,.v (.sl aA),.o 1]]
abbrev pg:OP SI:=.c 1 [[.o 1]]
abbrev pP:OP SI:=.c 2 [[.v (.sl bg),(.v (.sl (.sl ai)))]]
abbrev sq:OP SI:=.c 10 [[.v (.sl bg),.v (.sl aX),.v (.sl bA),.v (.sl aW),.v (.sl bE),.v (.sl bB),.v (.sl aU),.v ai,.v (.sl aA),.o 2]]
abbrev s9:OP SI:=.c 2 [[.v ai,.v ai]]
abbrev tI:OP SI:=.c 1 [[.o 1384]]
abbrev wi:OP SI:=.c 4 [[.v ai,.v ai,.v ai,.v ai]]
abbrev B8:OP SI:=.c 10 [[.v (.sl bg),.v (.sl aX),.v (.sl bA),.v (.sl aW),.v (.sl bE),.v (.sl bB),.v (.sl aU),.v ai,.v (.sl aA),.o 1960]]
abbrev cj(a:Hn SI):Hn SI:=.s .z (.s .z a)
abbrev hZ(a:Hn SI):Hn SI:=.s .z (.s .z (.s .z a))
abbrev tM(a:Hn SI):Hn SI:=.s .z (.s .z (.s .z (.s .z a)))
abbrev Cd(a:Hn SI):Hn SI:=.s .z (.s .z (.s .z (.s .z (.s .z a))))
abbrev HU(a:Hn SI):Hn SI:=.s .z (.s .z (.s .z (.s .z (.s .z (.s .z a)))))
open Tryz
noncomputable section
variable (n:Nat)
def afH:ca xx:=⟨[.d ai],[.d (.st SI.Expr)],λa=>Ym a.1,none⟩
theorem afI:aK 8 afH :=cq aD func8 .z 0
def Pe:ca xx:=⟨[.d (.sl aA)],[.fresh aA],λa=>zf a.1,none⟩
theorem Pf:aK 83 Pe :=cq aD func83 .z 0
def TN:ca xx:=⟨[.d (.sl ai)],[.fresh ai],λa=>Ce a.1,none⟩
theorem TP:aK 84 TN :=cq aD func84 .z 0
def adm:ca xx:=⟨[.d (.st SI.Lot)],[.d (.st SI.Lot)],λa=>Kg a.1,none⟩
theorem adn:aK 43 adm :=cq (au Pf (au TP aD)) func43 .z 0
def afJ:ca xx:=⟨[.d (.sl (.st SI.Lot)),.d ai],[.d (.st SI.Lot),.d .bool],λa=>Kh n a.1 a.2.1,none⟩
def afK:Hn SI:=(.s .z (.s (.s .z (.b (.lx ⟨[(10,.v ai)],[],[1,4,8,9],[1000],1320,[]⟩ 0 ⟨[],[],[4],[1000],1320,[]⟩ .z))) .z))
theorem afL:aK 23 (afJ n) :=cq (au adn aD) func23 afK n
def KW:ca xx:=⟨[.d eG,.d ai,.d ai],[.fresh aI],λa=>mO n a.1 a.2.1 a.2.2.1,none⟩
def KX:Hn SI:=(cj (.s (.s .z (.b (.l ⟨[(7,.o 1448),(13,.v ai)],[(1448,.l aI)],[1,2,11,12],[],1449,[(7,aI)]⟩ 0 ⟨[(7,.o 1448)],[(1448,.l aI)],[],[],1449,[]⟩ (cj (.s (.j ⟨[(7,.o 1513)],[(1513,.l aI)],[1,2,11,12,13],[],1514,[]⟩ (.b (.s .z (.s (.j ⟨[(25,.v .bool)],[],[1,2,7,9,11,12,13],[1448,1705],1897,[]⟩ .z) .z)))) .z))))) .z))
theorem yT:aK 57 (KW n) :=cq aD func57 KX n
def Vr:ca xx:=⟨[.d eG],[.fresh aI],λa=>uo n a.1,none⟩
theorem Ir:aK 45 (Vr n) :=cq (au (yT n) aD) func45 .z n
def afM:ca xx:=⟨[.d aA],[.d .bool],λa=>nE a.1,none⟩
theorem oI:aK 73 afM :=cq aD func73 .z 0
def Dy:ca xx:=⟨[.d aI],[.d .bool],λa=>fF a.1,none⟩
def Dz:Hn SI:=(cj (.s (.s (.j ⟨[(26,.v .bool)],[],[1],[1000],1384,[]⟩ .z) .z) (.s (.s (.j ⟨[(34,.v .bool)],[],[1],[1000],1384,[]⟩ .z) .z) .z)))
theorem jY:aK 58 Dy :=cq (au oI aD) func58 Dz 0
def aa7:ca xx:=⟨[.d aA],[.d aA,.d .bool],λa=>vW a.1,none⟩
theorem OG:aK 90 aa7 :=cq (au oI aD) func90 .z 0
def Vs:ca xx:=⟨[.d aA,.d aA],[.d aA,.d .bool],λa=>qC a.1 a.2.1,none⟩
def Vt:Hn SI:=(.s .z (.s (.s (.j ⟨[(13,.v .bool)],[],[2,3,4],[1000,1064,1128],1256,[]⟩ .z) .z) .z))
theorem zq:aK 123 Vs :=cq (au oI (au OG aD)) func123 Vt 0
def TQ:ca xx:=⟨[.d (.st SI.AS),.d (.st SI.AS)],[.d .bool],λa=>vv a.1 a.2.1,none⟩
theorem TS:aK 86 TQ :=cq (au zq aD) func86 .z 0
def KY:ca xx:=⟨[.d aI,.ref aI],[.d .bool],λa=>pR a.1 a.2.1,none⟩
theorem KZ:aK 85 KY :=cq (au TS aD) func85 .z 0
def DF:ca xx:=⟨[.d (.sl aI),.du [aI] .bool],[.d ai],λa=>oU n a.1 a.2.1,none⟩
def DI:Hn SI:=(.s .z (.s (.s .z (.b (.lx ⟨[(8,.v ai)],[],[0,1,7],[],1256,[]⟩ 0 ⟨[],[],[],[],1256,[]⟩ .z))) .z))
theorem DJ:aK 75 (DF n) :=cq aD func75 DI n
def zu:ca xx:=⟨[.d (.sl aI),.du [aI] .bool],[.d .bool],λa=>fw n a.1 a.2.1,none⟩
theorem pK:aK 37 (zu n) :=cq (au (DJ n) aD) func37 .z n
def YJ:ca xx:=⟨[.d (.int .u8)],[.d .bool],λa=>Ch a.1,none⟩
theorem K3:aK 154 YJ :=cq aD func154 .z 0
def ado:ca xx:=⟨[.d .str,.du [.int .u8] .bool],[.d ai],λa=>Ki n a.1 a.2.1,none⟩
def adp:Hn SI:=(cj (.s (.b (.l ⟨[(5,.v ai)],[],[0,1],[],1128,[]⟩ 0 ⟨[(5,.v ai)],[],[],[],1128,[]⟩ (.s (.s (.j ⟨[(16,.v .bool)],[],[0,1,5],[],1128,[]⟩ .z) .z) .z))) .z))
theorem adq:aK 155 (ado n) :=cq aD func155 adp n
def aa8:ca xx:=⟨[.d (.int .u8)],[.d .bool],λa=>MH a.1,none⟩
theorem aa9:aK 157 aa8 :=cq aD func157 .z 0
def Vu:ca xx:=⟨[.d (.int .u8)],[.d .bool],λa=>yA a.1,none⟩
theorem Vv:aK 156 Vu :=cq (au K3 (au aa9 aD)) func156 .z 0
def adr:ca xx:=⟨[.d .str],[.d .bool],λa=>Kj n a.1,none⟩
def ads:Hn SI:=(.s .z (.s (.s (.j ⟨[(15,.v .bool)],[],[0],[],1064,[]⟩ .z) .z) .z))
theorem adt:aK 124 (adr n) :=cq (au K3 (au (adq n) (au Vv aD))) func124 ads n
def I9:ca xx:=⟨[.d .str,.d .str],[.d .bool],λa=>strings_Contains a.1 a.2.1,none⟩
theorem Ja:aK 125 I9:=by
 have hcall:eT Tryz.prog 125:=⟨_,func125,by kernel_rfl,by kernel_rfl⟩;refine vu hcall (λ a r h=>?_) rfl;obtain⟨s,b,⟨⟩⟩:=a;have h':strings_Contains s b=some r:=h;unfold strings_Contains at h';cases hb:Nat.ble s.size 4000000 with
 |false=>rw[hb]at h';cases h'
 |true=>
  rw[hb]at h';have h'':some (Lib.contains s.data.toList b.data.toList)=some r:=h';injection h'' with e;subst e;have hw:=Nat.le_of_ble_eq_true hb;exact Yf (g:=0) rfl hcall λm w hm=>aav s b m w (by omega) hm
def Vw:ca xx:=⟨[.d .str],[.d .bool],λa=>uq n a.1,none⟩
theorem Vx:aK 87 (Vw n) :=cq (au (adt n) (au Ja aD)) func87 .z n
def TU:ca xx:=⟨[.d eG],[.d .bool],λa=>vw n a.1,none⟩
def TW:Hn SI:=(cj (.s (.s (.j ⟨[(42,.v .bool)],[],[1,3],[1000,1192],1320,[]⟩ .z) .z) (.s (.s .z (.b (.lx ⟨[(45,.v ai)],[],[1,3,43,44],[1000,1192],1512,[]⟩ 0 ⟨[],[],[1],[1000],1512,[]⟩ (cj (.s (.b (.s .z (.s (.j ⟨[(59,.v .bool)],[],[1,3,43,44,45],[1000,1192],1960,[]⟩ .z) .z))) .z))))) (.s (.s .z (.b (.lx ⟨[(64,.v ai)],[],[62,63],[],1768,[]⟩ 2 ⟨[],[],[],[],1768,[]⟩ (cj (.s (.b (cj (.s (.s .z (.b (.lx ⟨[(72,.v ai)],[(2088,.m .str .bool)],[7,8,62,63,64,70,71],[1960],2472,[]⟩ 4 ⟨[],[],[7,62,63,64],[1960],2472,[]⟩ (cj (.s (.b (.s .z (.s (.s (.j ⟨[(95,.v .bool)],[],[7,8,10,62,63,64,70,71,72],[1960,2088,2664],2792,[]⟩ .z) .z) .z))) .z))))) .z))) .z))))) .z))))
theorem TY:aK 44 (TU n) :=cq (au (Ir n) (au jY (au (pK n) (au KZ (au (Vx n) aD))))) func44 TW n
def T9:ca xx:=⟨[.nil,.d ai],[.fresh aA],λa=>Kk a.1 a.2.1,none⟩
theorem Ua:aK 191 T9 :=cq aD func191 .z 0
def M9:ca xx:=⟨[.d (.sl (.sl aA))],[.fresh aA],λa=>wK n a.1,none⟩
def Na:Hn SI:=(cj (.s (.s .z (.b (.l ⟨[(3,.v ai),(11,.v ai)],[],[0,9,10],[],1320,[]⟩ 0 ⟨[(3,.v ai)],[],[0],[],1320,[]⟩ .z))) (.s .z (.s (.s .z (.b (.l ⟨[(6,.o 1704),(27,.v ai)],[(1704,.l aA)],[25,26],[],1705,[]⟩ 2 ⟨[(6,.o 1704)],[(1704,.l aA)],[],[],1705,[]⟩ .z))) .z))))
theorem Nb:aK 151 (M9 n) :=cq (au Ua aD) func151 Na n
def Vy:ca xx:=⟨[.mut ai],[.mu ai],λa=>nQ n a.1,none⟩
theorem tO:aK 103 (Vy n):=by
 have hcall:eT Tryz.prog 103:=⟨_,func103,by kernel_rfl,by kernel_rfl⟩;refine vu hcall (λ a r h=>?_) rfl;obtain⟨l,⟨⟩⟩:=a;exact afg Tryz.so103 rfl hcall h
def Nc:ca xx:=⟨[.mut ai],[.whole 0,.mu ai],λa=>nR n a.1,none⟩
def Nf:Hn SI:=(cj (.s (.s .z (.b (.lx ⟨[(3,.v ai)],[],[0],[0],1320,[]⟩ 0 ⟨[],[],[0],[0],1320,[]⟩ (.s .z (.s (.b (.s .z (.s (.s .z (.s (.s .z (.b (.l ⟨[(3,.v ai),(5,.v ai)],[(0,.l ai)],[0,4],[],2536,[]⟩ 2 ⟨[(3,.v ai)],[(0,.l ai)],[0],[],2536,[]⟩ (.s .z (.s (.j ⟨[(3,.v ai)],[(0,.l ai)],[0,4,5],[],2792,[]⟩ .z) .z))))) .z)) .z))) .z))))) .z))
theorem sU:aK 152 (Nc n) :=cq aD func152 Nf n
def Jb:ca xx:=⟨[.mut (.st SI.span),.du [.st SI.span,.st SI.span] ai],[.mu (.st SI.span)],λa=>sN n a.1 a.2.1,none⟩
theorem Jc:aK 192 (Jb n):=by
 have hcall:eT Tryz.prog 192:=⟨_,func192,by kernel_rfl,by kernel_rfl⟩;refine vu hcall (λ a r h=>?_) rfl;obtain⟨l,φ,⟨⟩⟩:=a;refine WR (X:=xx) (i:=SI.span) (hI:=(inferInstance:Inhabited aL)) Tryz.so192 rfl hcall Tryz.underlying229 (by kernel_rfl) (λ x t ht=>?_) h;cases x;have ht:t∈[_,_]:=ht;simp only[aN,fO,or_false]at ht;rcases ht with rfl |rfl<;>exact⟨_,rfl,trivial⟩
def Pg:ca xx:=⟨[.d ai],[.d .bool],λa=>cmp_isNaN_int a.1,none⟩
theorem Ph:aK 142 Pg :=cq aD func142 .z 0
def K4:ca xx:=⟨[.d ai,.d ai],[.d ai],λa=>cmp_Compare_int a.1 a.2.1,none⟩
theorem nI:aK 102 K4 :=cq (au Ph aD) func102 .z 0
def Ub:ca xx:=⟨[.d (.st SI.span),.d (.st SI.span)],[.d ai],λa=>vz a.1 a.2.1,none⟩
theorem Uc:aK 193 Ub :=cq (au nI aD) func193 .z 0
def abb:ca xx:=⟨[.d (.sl aA),.d ai],[.fresh (.st SI.span)],λa=>Gt n a.1 a.2.1,none⟩
def abd:Hn SI:=(cj (.s (.s .z (.b (.l ⟨[(5,.o 1320),(14,.v ai)],[(1320,.l (.st SI.span))],[1,12,13],[],1321,[(5,.st SI.span)]⟩ 0 ⟨[(5,.o 1320)],[(1320,.l (.st SI.span))],[],[],1321,[]⟩ (cj (.s (.j ⟨[(5,.o 1385)],[(1385,.l (.st SI.span))],[1,12,13,14],[],1386,[]⟩ (.b (.s .z (.s (.j ⟨[(27,.v .bool)],[],[1,5,7,12,13,14],[1320,1513],1641,[]⟩ .z) .z)))) .z))))) (cj (.s (.s .z (.b (.l ⟨[(8,.o 1705),(41,.v ai)],[(1705,.l (.st SI.span))],[39,40],[1320],1706,[(8,.st SI.span)]⟩ 2 ⟨[(8,.o 1705)],[(1705,.l (.st SI.span))],[],[],1706,[]⟩ (cj (.s (.j ⟨[(8,.o 1770)],[(1770,.l (.st SI.span))],[39,40,41],[1320],1771,[]⟩ (.b (cj (.s (.j ⟨[(59,.v .bool)],[],[8,10,11,39,40,41],[1320,1705,1898],2218,[]⟩ .z) .z)))) .z))))) .z))))
theorem abe:aK 153 (abb n) :=cq (au (Jc n) (au Uc aD)) func153 abd n
def abf:ca xx:=⟨[.d (.sl (.sl aA))],[.fresh (.st SI.strip)],λa=>ng n a.1,none⟩
def abg:Hn SI:=(hZ (.s (.s .z (.b (.l ⟨[(4,.o 1512),(13,.v ai)],[(1512,.l ai)],[3,11,12],[1128],1513,[(4,ai)]⟩ 0 ⟨[(4,.o 1512)],[(1512,.l ai)],[3],[1128],1513,[]⟩ .z))) (hZ (.s (.s .z (.b (.l ⟨[(7,.o 1961),(8,.v ai)],[(1961,.l (.st SI.strip))],[3,4],[1128,1512],1962,[(7,.st SI.strip)]⟩ 2 ⟨[(7,.o 1961)],[(1961,.l (.st SI.strip))],[],[],1962,[]⟩ .z))) .z))))
theorem OH:aK 121 (abf n) :=cq (au (Nb n) (au (tO n) (au (sU n) (au (abe n) aD)))) func121 abg n
def Pj:ca xx:=⟨[.d (.sl (.st SI.span)),.d (.sl (.st SI.span))],[.d .bool],λa=>tu n a.1 a.2.1,none⟩
def Pk:Hn SI:=(cj (.s (.s .z (.b (.lx ⟨[(13,.v ai)],[],[0,1,12],[],1576,[]⟩ 0 ⟨[],[],[],[],1576,[]⟩ .z))) .z))
theorem Pm:aK 150 (Pj n) :=cq aD func150 Pk n
def adu:ca xx:=⟨[.d (.sl (.st SI.strip))],[.fresh aA],λa=>Fe n a.1,none⟩
def adv:Hn SI:=(cj (.s (.s .z (.b (.l ⟨[(3,.o 1192),(4,.v ai)],[(1192,.l aA)],[0],[],1193,[(3,aA)]⟩ 0 ⟨[(3,.o 1192)],[(1192,.l aA)],[],[],1193,[]⟩ (.s .z (.b (.s .z (.s (.b (.l ⟨[(5,.v ai)],[],[0,3,4],[1192],1641,[]⟩ 2 ⟨[(5,.v ai)],[],[0,3,4],[1192],1641,[]⟩ (.s (.s (.j ⟨[(30,.v .bool)],[],[0,3,4,5],[1192],1641,[]⟩ .z) .z) .z))) (.s (.s .z (.b (.l ⟨[(3,.o 2089),(39,.v ai)],[(2089,.l aA)],[0,4,5,37,38],[],2090,[]⟩ 4 ⟨[(3,.o 2089)],[(2089,.l aA)],[0,5],[],2090,[]⟩ .z))) .z)))))))) .z))
theorem Ud:aK 120 (adu n) :=cq (au (Pm n) aD) func120 adv n
def YK:ca xx:=⟨[.d (.sl aA)],[.d (.sl aA),.d ai],λa=>wL a.1,none⟩
theorem K5:aK 119 YK :=cq aD func119 .z 0
def aiS:ca xx:=⟨[.d (.sl aA)],[.d (.sl aA),.d ai],λa=>HC n a.1,none⟩
def aiT:Hn SI:=(.s .z (.s (.s .z (.b (.lx ⟨[(8,.v ai)],[],[0,6,7],[],1320,[]⟩ 0 ⟨[],[],[0],[],1320,[]⟩ .z))) .z))
theorem aiU:aK 77 (aiS n) :=cq (au oI (au (OH n) (au (Ud n) (au K5 aD)))) func77 aiT n
def Pn:ca xx:=⟨[.d (.sl aA),.d (.sl aA)],[.d .bool],λa=>ni n a.1 a.2.1,none⟩
def Po:Hn SI:=(cj (.s (.s .z (.b (.lx ⟨[(13,.v ai)],[],[0,1,12],[],1576,[]⟩ 0 ⟨[],[],[],[],1576,[]⟩ .z))) .z))
theorem Di:aK 78 (Pn n) :=cq aD func78 Po n
def adw:ca xx:=⟨[.d (.sl aA)],[.d .bool],λa=>mQ n a.1,none⟩
theorem nW:aK 39 (adw n) :=cq (au (aiU n) (au (Di n) aD)) func39 .z n
def rV:ca xx:=⟨[.d (.sl (.st SI.strip)),.d ai,.du [.st SI.strip,ai] ai],[.d ai,.d .bool],λa=>iF n a.1 a.2.1 a.2.2.1,none⟩
def rW:Hn SI:=(hZ (.s (.b (.l ⟨[(9,.v ai),(10,.v ai)],[],[0,1,2,8],[],1512,[]⟩ 0 ⟨[(9,.v ai)],[],[0,1,2,8],[],1512,[]⟩ .z)) .z))
theorem rX:aK 161 (rV n) :=cq aD func161 rW n
def adx:ca xx:=⟨[.d (.st SI.strip),.d ai],[.d ai],λa=>uz a.1 a.2.1,none⟩
theorem ady:aK 162 adx :=cq aD func162 .z 0
def aiV:ca xx:=⟨[.d (.sl (.st SI.strip)),.d ai],[.d (.sl (.st SI.span))],λa=>SQ n a.1 a.2.1,none⟩
def aiW:Hn SI:=(cj (.s (.s (.j ⟨[(25,.v .bool)],[],[0,5],[],1576,[]⟩ .z) .z) .z))
theorem aiX:aK 127 (aiV n) :=cq (au (rX n) (au ady aD)) func127 aiW n
def Ue:ca xx:=⟨[.nil,.d ai],[.fresh (.st SI.span)],λa=>Kr a.1 a.2.1,none⟩
theorem Uf:aK 195 Ue :=cq aD func195 .z 0
def Ng:ca xx:=⟨[.d (.sl (.sl (.st SI.span)))],[.fresh (.st SI.span)],λa=>wM n a.1,none⟩
def Nh:Hn SI:=(cj (.s (.s .z (.b (.l ⟨[(3,.v ai),(11,.v ai)],[],[0,9,10],[],1320,[]⟩ 0 ⟨[(3,.v ai)],[],[0],[],1320,[]⟩ .z))) (.s .z (.s (.s .z (.b (.l ⟨[(6,.o 1704),(27,.v ai)],[(1704,.l (.st SI.span))],[25,26],[],1705,[]⟩ 2 ⟨[(6,.o 1704)],[(1704,.l (.st SI.span))],[],[],1705,[]⟩ .z))) .z))))
theorem Ni:aK 159 (Ng n) :=cq (au Uf aD) func159 Nh n
def sV:ca xx:=⟨[.d (.sl (.st SI.span)),.d ai,.du [.st SI.span,ai] ai],[.d ai,.d .bool],λa=>iU n a.1 a.2.1 a.2.2.1,none⟩
def sW:Hn SI:=(hZ (.s (.b (.l ⟨[(9,.v ai),(10,.v ai)],[],[0,1,2,8],[],1512,[]⟩ 0 ⟨[(9,.v ai)],[],[0,1,2,8],[],1512,[]⟩ .z)) .z))
theorem sZ:aK 196 (sV n) :=cq aD func196 sW n
def Ug:ca xx:=⟨[.d (.st SI.span),.d ai],[.d ai],λa=>kJ a.1 a.2.1,none⟩
theorem Uh:aK 197 Ug :=cq aD func197 .z 0
def abh:ca xx:=⟨[.d (.sl (.st SI.span)),.d ai],[.d .bool],λa=>Az n a.1 a.2.1,none⟩
theorem abj:aK 160 (abh n) :=cq (au (sZ n) (au Uh aD)) func160 .z n
def adz:ca xx:=⟨[.d (.sl (.st SI.span)),.d (.sl (.st SI.span)),.du [.bool,.bool] .bool],[.fresh (.st SI.span)],λa=>Ff n a.1 a.2.1 a.2.2.1,none⟩
def adA:Hn SI:=(cj (.s (.s .z (.b (.l ⟨[(7,.o 1512),(19,.v ai)],[(1512,.l ai)],[0,1,2,17,18],[1320],1513,[(7,ai)]⟩ 0 ⟨[(7,.o 1512)],[(1512,.l ai)],[0,1,2],[],1513,[]⟩ .z))) (hZ (.s (.s .z (.b (.l ⟨[(10,.o 1961),(11,.v ai)],[(1961,.l (.st SI.span))],[0,1,2,7],[1512],1962,[(10,.st SI.span)]⟩ 2 ⟨[(10,.o 1961)],[(1961,.l (.st SI.span))],[],[],1962,[]⟩ (.s .z (.s (.j ⟨[(10,.o 2218)],[(2218,.l (.st SI.span))],[0,1,2,7,11],[1512],2219,[]⟩ (.b (hZ (.s (.j ⟨[(68,.v .bool)],[],[0,1,2,7,10,11,12,13],[1512,1961],3370,[]⟩ .z) .z)))) .z))))) .z))))
theorem adB:aK 126 (adz n) :=cq (au (Ni n) (au (tO n) (au (sU n) (au (abj n) aD)))) func126 adA n
def YL:ca xx:=⟨[.d (.sl aA),.d (.sl aA),.du [.bool,.bool] .bool],[.d (.sl aA),.d ai],λa=>Ci n a.1 a.2.1 a.2.2.1,none⟩
def YM:Hn SI:=(.s .z (.s (.s (.j ⟨[(20,.v .bool)],[],[0,1,2],[],1128,[]⟩ .z) .z) (.s (.f [6,7]) (.s .z (.s (.s .z (.b (.l ⟨[(33,.v ai)],[(1832,.l (.st SI.strip))],[2,8,9,10,31,32],[],2152,[]⟩ 0 ⟨[],[(1832,.l (.st SI.strip))],[10],[],2152,[]⟩ .z))) .z)))))
theorem YN:aK 88 (YL n) :=cq (au (nW n) (au (OH n) (au (aiX n) (au (adB n) (au (Ud n) (au K5 aD)))))) func88 YM n
def Ui:ca xx:=⟨[.d .bool,.d .bool],[.d .bool],λa=>vB a.1 a.2.1,none⟩
theorem Uj:aK 89 Ui :=cq aD func89 .z 0
def abk:ca xx:=⟨[.d (.sl aA),.d (.sl aA)],[.d (.sl aA),.d ai],λa=>Gu n a.1 a.2.1,none⟩
theorem abl:aK 46 (abk n) :=cq (au (YN n) (au Uj aD)) func46 .z n
def ahQ:ca xx:=⟨[.d aA],[.d ai],λa=>wN a.1,none⟩
theorem FN:aK 48 ahQ :=cq (au OG aD) func48 .z 0
def afN:ca xx:=⟨[.d (.sl aA)],[.d ai],λa=>Kv n a.1,none⟩
def afO:Hn SI:=(hZ (.s (.s .z (.b (.l ⟨[(3,.v ai),(11,.v ai)],[],[9,10],[],1512,[]⟩ 0 ⟨[(3,.v ai)],[],[],[],1512,[]⟩ .z))) .z))
theorem Xf:aK 47 (afN n) :=cq (au (nW n) (au FN aD)) func47 afO n
def Jd:ca xx:=⟨[.d bE,.ref (.st SI.Entry)],[.d .bool],λa=>sO a.1 a.2.1,none⟩
theorem Je:aK 50 Jd :=cq aD func50 .z 0
def Jf:ca xx:=⟨[.d (.sl bE),.du [bE] .bool],[.d ai],λa=>sP n a.1 a.2.1,none⟩
def Jg:Hn SI:=(.s .z (.s (.s .z (.b (.lx ⟨[(8,.v ai)],[],[0,1,7],[],1256,[]⟩ 0 ⟨[],[],[],[],1256,[]⟩ .z))) .z))
theorem Jh:aK 91 (Jf n) :=cq aD func91 Jg n
def DK:ca xx:=⟨[.d (.sl bE),.du [bE] .bool],[.d .bool],λa=>lI n a.1 a.2.1,none⟩
theorem DL:aK 49 (DK n) :=cq (au (Jh n) aD) func49 .z n
def Pp:ca xx:=⟨[.d (.st SI.kf),.d (.st SI.Lot),.d eG],[.d .bool],λa=>nk n a.1 a.2.1 a.2.2.1,none⟩
def Pq:Hn SI:=(.s .z (.s (.s (.j ⟨[(30,.v .bool)],[],[3,4,5],[1000,1064,1128],1256,[]⟩ .z) .z) (.s (.s .z (.b (.lx ⟨[(34,.v ai)],[],[3,4,5,32,33],[1000,1064,1128,1320],1512,[]⟩ 0 ⟨[],[],[3,5],[1000,1128],1512,[]⟩ (cj (.s (.b (cj (.s (.j ⟨[(58,.v .bool)],[],[3,4,5,32,33,34],[1000,1064,1128,1320],2600,[]⟩ .z) .z))) .z))))) (.s (.s .z (.b (.lx ⟨[(63,.v ai)],[],[3,61,62],[1000],1768,[]⟩ 2 ⟨[],[],[],[],1768,[]⟩ (cj (.s (.b (cj (.b (.lx ⟨[(70,.v ai)],[],[3,61,62,63,68,69],[1000],2344,[]⟩ 4 ⟨[],[],[3,61,62,63],[1000],2344,[]⟩ .z)))) .z))))) .z))))
theorem Ps:aK 24 (Pp n) :=cq (au (TY n) (au (nW n) (au (Ir n) (au (abl n) (au (Xf n) (au FN (au (DL n) (au Je aD)))))))) func24 Pq n
def Nj:ca xx:=⟨[.d eG],[.fresh aI],λa=>q9 n a.1,none⟩
def Nk:Hn SI:=(cj (.s (.s .z (.b (.l ⟨[(3,.o 1448),(9,.v ai)],[(1448,.l aI)],[7,8],[],1449,[(3,aI)]⟩ 0 ⟨[(3,.o 1448)],[(1448,.l aI)],[],[],1449,[]⟩ .z))) .z))
theorem Nl:aK 25 (Nj n) :=cq aD func25 Nk n
def Nn:ca xx:=⟨[.d (.sl (.st SI.gS))],[.fresh (.st SI.side)],λa=>nS n a.1,none⟩
def Np:Hn SI:=(cj (.s (.s .z (.b (.l ⟨[(10,.v ai)],[(1192,.l (.st SI.side))],[0,3,9],[],1512,[]⟩ 0 ⟨[],[(1192,.l (.st SI.side))],[3],[],1512,[]⟩ .z))) .z))
theorem AZ:aK 164 (Nn n) :=cq aD func164 Np n
def Nq:ca xx:=⟨[.d (.st SI.gS)],[.d .bool],λa=>rf a.1,none⟩
theorem Ns:aK 198 Nq :=cq aD func198 .z 0
def CO:ca xx:=⟨[.d (.st SI.side)],[.d .bool],λa=>fV a.1,none⟩
theorem rQ:aK 165 CO :=cq aD func165 .z 0
def YO:ca xx:=⟨[.d (.sl ai)],[.d ai],λa=>qf n a.1,none⟩
def YP:Hn SI:=(cj (.s (.s .z (.b (.lx ⟨[(8,.v ai)],[],[3,6,7],[],1320,[]⟩ 0 ⟨[],[],[3],[],1320,[]⟩ .z))) .z))
theorem K6:aK 128 (YO n) :=cq aD func128 YP n
def K7:ca xx:=⟨[.d (.st SI.gS),.d (.st SI.gS)],[.d ai],λa=>pU n a.1 a.2.1,none⟩
theorem K8:aK 199 (K7 n) :=cq (au nI (au (K6 n) aD)) func199 .z n
def CP:ca xx:=⟨[.d (.st SI.side),.d (.st SI.side)],[.d .bool],λa=>kK a.1 a.2.1,none⟩
theorem CQ:aK 200 CP :=cq aD func200 .z 0
def Pv:ca xx:=⟨[.d (.sl (.st SI.gS))],[.d .bool],λa=>tF n a.1,none⟩
def Pw:Hn SI:=(.s .z (.s (.s (.j ⟨[(16,.v .bool)],[],[0],[],1064,[]⟩ .z) .z) (.s .z (.s (.s .z (.b (.lx ⟨[(21,.v ai)],[],[0,3,19,20],[1128],1448,[]⟩ 0 ⟨[],[],[3],[1128],1448,[]⟩ (cj (.s (.b (cj (.s (.s (.j ⟨[(61,.v .bool)],[],[0,3,4,19,20,21],[1128],2536,[]⟩ .z) .z) (.s (.j ⟨[(74,.v .bool)],[],[0,3,19,20,21],[1128],2536,[]⟩ .z) .z)))) .z))))) (.s (.s .z (.b (.lx ⟨[(78,.v ai)],[],[3,77],[1128],1640,[]⟩ 2 ⟨[],[],[3],[1128],1640,[]⟩ (cj (.s (.b (cj (.b (.lx ⟨[(8,.v ai)],[],[3,7,77,78],[1128],2024,[]⟩ 4 ⟨[],[],[3,77,78],[1128],2024,[]⟩ (.s .z (.s (.b (.s (.j ⟨[(106,.v .bool)],[],[3,7,8,77,78],[1128],2280,[]⟩ .z) .z)) .z)))))) .z))))) .z)))))
theorem Px:aK 163 (Pv n) :=cq (au (AZ n) (au Ns (au rQ (au (K8 n) (au CQ aD))))) func163 Pw n
def Nt:ca xx:=⟨[.d (.sl (.st SI.gS))],[.fresh aA,.d ai],λa=>rq n a.1,none⟩
def Nu:Hn SI:=(hZ (.s (.s .z (.b (.l ⟨[(4,.o 1576),(19,.v ai)],[(1576,.l ai)],[0,17,18],[],1577,[(4,ai)]⟩ 0 ⟨[(4,.o 1576)],[(1576,.l ai)],[0],[],1577,[]⟩ .z))) (tM (.s (.s .z (.b (.l ⟨[(8,.o 2409),(38,.v ai)],[(2409,.l aA)],[4,7,37],[1576,1961],2410,[(8,aA)]⟩ 2 ⟨[(8,.o 2409)],[(2409,.l aA)],[],[],2410,[]⟩ (cj (.s (.b (cj (.s (.s .z (.b (.l ⟨[(10,.o 2858),(43,.v ai)],[(2858,.l ai)],[4,7,8,9,37,38,41,42],[1576,1961,2409],2859,[(10,ai)]⟩ 4 ⟨[(10,.o 2858)],[(2858,.l ai)],[4,7,8,9,37,38],[1576,1961,2409],2859,[]⟩ (cj (.s (.j ⟨[(10,.o 2923)],[(2923,.l ai)],[4,7,8,9,37,38,41,42,43],[1576,1961,2409],2924,[]⟩ (.b (.s .z (.s (.j ⟨[(77,.v .bool)],[],[4,7,8,9,10,12,37,38,41,42,43],[1576,1961,2409,2858,3051],3179,[]⟩ .z) .z)))) .z))))) (cj (.b (.l ⟨[(8,.o 3051),(13,.v ai)],[(3051,.l aA)],[4,7,9,10,37,38],[1576,1961,2858],3052,[]⟩ 6 ⟨[(8,.o 3051)],[(3051,.l aA)],[4,7,37,38],[1576,1961],3052,[]⟩ .z)))))) .z))))) .z))))
theorem Nv:aK 129 (Nt n) :=cq (au (Px n) (au (tO n) (au (sU n) (au (AZ n) (au rQ aD))))) func129 Nu n
def Uk:ca xx:=⟨[.d bA],[.fresh aA],λa=>vC n a.1,none⟩
theorem Ul:aK 93 (Uk n) :=cq (au (Nv n) aD) func93 .z n
def Py:ca xx:=⟨[.d (.sl aA),.d (.sl aA)],[.d ai,.d (.st SI.gS)],λa=>tH n a.1 a.2.1,none⟩
def Pz:Hn SI:=(cj (.s (.s .z (.b (.l ⟨[(6,.v ai),(18,.v ai)],[(1192,s9)],[1,5,7,16,17],[1064],1576,[]⟩ 0 ⟨[(6,.v ai)],[(1192,s9)],[5,7],[1064],1576,[]⟩ (cj (.s (.b (cj (.b (.l ⟨[(6,.v ai),(24,.v ai)],[(1192,s9)],[1,5,7,9,16,17,18,22,23],[1064,1768],2088,[]⟩ 2 ⟨[(6,.v ai)],[(1192,s9)],[1,5,7,16,17,18],[1064],2088,[]⟩ (cj (.s (.j ⟨[(6,.v ai)],[(1192,s9)],[1,5,7,9,16,17,18,22,23,24],[1064,1768],2152,[]⟩ .z) .z)))))) .z))))) .z))
theorem PD:aK 92 (Py n) :=cq (au zq (au FN (au nI (au (K6 n) aD)))) func92 Pz n
def PE:ca xx:=⟨[.d (.st SI.kf),.d (.sl aA)],[.fresh ai],λa=>tJ n a.1 a.2.1,none⟩
def PG:Hn SI:=(hZ (.s (.s .z (.b (.l ⟨[(5,.o 1640),(16,.v ai)],[(1640,.l ai)],[1,14,15],[],1641,[(5,ai)]⟩ 0 ⟨[(5,.o 1640)],[(1640,.l ai)],[],[],1641,[]⟩ .z))) .z))
theorem PI:aK 51 (PE n) :=cq (au (nW n) (au (Ul n) (au (PD n) aD))) func51 PG n
def abm:ca xx:=⟨[.d (.st SI.kf),.d (.sl aA)],[.fresh .str],λa=>AA n a.1 a.2.1,none⟩
def abn:Hn SI:=(hZ (.s (.s .z (.b (.l ⟨[(6,.v ai),(17,.v ai)],[],[2,5,15,16],[1000,1256],1640,[]⟩ 0 ⟨[(6,.v ai)],[],[2,5],[1000,1256],1640,[]⟩ (cj (.s (.j ⟨[(6,.v ai)],[],[2,5,15,16,17],[1000,1256],1704,[]⟩ (.b (.s .z (.s (.j ⟨[(44,.v .bool)],[],[2,5,6,7,15,16,17],[1000,1256],2024,[]⟩ .z) .z)))) .z))))) (.s .z (.s (.s .z (.b (.l ⟨[(9,.o 1896),(49,.v ai)],[(1896,.l .str)],[2,6,47,48],[1000,1256],1897,[(9,.str)]⟩ 2 ⟨[(9,.o 1896)],[(1896,.l .str)],[],[],1897,[]⟩ (cj (.s (.j ⟨[(9,.o 1961)],[(1961,.l .str)],[2,6,47,48,49],[1000,1256],1962,[]⟩ (.b (.s .z (.s (.j ⟨[(68,.v .bool)],[],[2,6,9,10,47,48,49],[1000,1256,1896],2281,[]⟩ .z) .z)))) .z))))) .z))))
theorem abo:aK 26 (abm n) :=cq (au (PI n) aD) func26 abn n
def Vz:ca xx:=⟨[.d (.st SI.iS),.d eG],[.d (.st SI.i8),.d ai],λa=>uF n a.1 a.2.1,none⟩
theorem Iu:aK 12 (Vz n) :=cq (au (afL n) (au (Ps n) (au (Nl n) (au (abo n) aD)))) func12 .z n
def K9:ca xx:=⟨[.d (.sl .str),.d .str],[.d ai],λa=>pV n a.1 a.2.1,none⟩
def La:Hn SI:=(.s .z (.s (.s .z (.b (.lx ⟨[(8,.v ai)],[],[0,1,7],[],1256,[]⟩ 0 ⟨[],[],[],[],1256,[]⟩ .z))) .z))
theorem Lb:aK 27 (K9 n) :=cq aD func27 La n
def FO:ca xx:=⟨[.d (.sl .str),.d .str],[.d .bool],λa=>eZ n a.1 a.2.1,none⟩
theorem nX:aK 14 (FO n) :=cq (au (Lb n) aD) func14 .z n
def Ji:ca xx:=⟨[.d .str,.ref (.sl .str)],[.d .bool],λa=>jH n a.1 a.2.1,none⟩
theorem Jj:aK 52 (Ji n) :=cq (au (nX n) aD) func52 .z n
def DR:ca xx:=⟨[.d (.sl .str),.du [.str] .bool],[.d ai],λa=>oV n a.1 a.2.1,none⟩
def DT:Hn SI:=(.s .z (.s (.s .z (.b (.lx ⟨[(8,.v ai)],[],[0,1,7],[],1256,[]⟩ 0 ⟨[],[],[],[],1256,[]⟩ .z))) .z))
theorem DU:aK 94 (DR n) :=cq aD func94 DT n
def zw:ca xx:=⟨[.d (.sl .str),.du [.str] .bool],[.d .bool],λa=>fA n a.1 a.2.1,none⟩
theorem zx:aK 53 (zw n) :=cq (au (DU n) aD) func53 .z n
def PK:ca xx:=⟨[.d aW,.d (.sl .str)],[.d .bool],λa=>pz n a.1 a.2.1,none⟩
theorem PL:aK 28 (PK n) :=cq (au (zx n) (au (Jj n) aD)) func28 .z n
def Um:ca xx:=⟨[.d (.st SI.kf),.d (.sl .str),.d ai],[.fresh ai],λa=>ru n a.1 a.2.1 a.2.2.1,none⟩
def Un:Hn SI:=(cj (.s (.s .z (.b (.l ⟨[(7,.o 1448),(13,.v ai)],[(1448,.l ai)],[1,2,11,12],[],1449,[(7,ai)]⟩ 0 ⟨[(7,.o 1448)],[(1448,.l ai)],[],[],1449,[]⟩ (cj (.s (.j ⟨[(7,.o 1513)],[(1513,.l ai)],[1,2,11,12,13],[],1514,[]⟩ (.b (.s .z (.s (.j ⟨[(37,.v .bool)],[],[1,2,7,8,11,12,13],[1448],1897,[]⟩ .z) .z)))) .z))))) .z))
theorem Uo:aK 15 (Um n) :=cq (au (PL n) aD) func15 Un n
def Jk:ca xx:=⟨[.mut aA,.du [aA,aA] ai],[.mu aA],λa=>sQ n a.1 a.2.1,none⟩
theorem Jl:aK 100 (Jk n):=by
 have hcall:eT Tryz.prog 100:=⟨_,func100,by kernel_rfl,by kernel_rfl⟩;refine vu hcall (λ a r h=>?_) rfl;obtain⟨l,φ,⟨⟩⟩:=a;refine WR (X:=xx) (i:=SI.lj) (hI:=(inferInstance:Inhabited ax)) Tryz.so100 rfl hcall Tryz.underlying47 (by kernel_rfl) (λ x t ht=>?_) h;cases x;have ht:t∈[_,_,_,_]:=ht;simp only[aN,fO,or_false]at ht;rcases ht with rfl |rfl |rfl |rfl<;>exact⟨_,rfl,trivial⟩
def A7:ca xx:=⟨[.d aA,.d aA],[.d ai],λa=>gX a.1 a.2.1,none⟩
theorem A8:aK 101 A7 :=cq (au nI aD) func101 .z 0
def Lc:ca xx:=⟨[.d aI],[.d ai],λa=>ko a.1,none⟩
def Ld:Hn SI:=(.s .z (.s (.s (.j ⟨[(9,.v .bool)],[],[1],[1000],1128,[]⟩ .z) .z) .z))
theorem yU:aK 107 Lc :=cq (au jY aD) func107 Ld 0
def PN:ca xx:=⟨[.d aI],[.d ai],λa=>nu a.1,none⟩
theorem Dj:aK 105 PN :=cq (au jY (au FN (au yU aD))) func105 .z 0
def zy:ca xx:=⟨[.d aI],[.d ai],λa=>mD a.1,none⟩
theorem zA:aK 108 zy :=cq aD func108 .z 0
def A9:ca xx:=⟨[.d aI],[.d ai],λa=>nC a.1,none⟩
theorem Ba:aK 109 A9 :=cq aD func109 .z 0
def PO:ca xx:=⟨[.d aA,.d ai],[.d aA,.d .bool],λa=>zh a.1 a.2.1,none⟩
theorem PS:aK 144 PO :=cq (au oI aD) func144 .z 0
def Nw:ca xx:=⟨[.d (.st SI.Entry),.ref (.st SI.lP),.ref ai],[.d .bool],λa=>jO a.1 a.2.1 a.2.2.1,none⟩
theorem Ny:aK 190 Nw :=cq aD func190 .z 0
def FP:ca xx:=⟨[.d (.sl (.st SI.Entry)),.du [.st SI.Entry] .bool],[.d ai],λa=>jP n a.1 a.2.1,none⟩
def FQ:Hn SI:=(.s .z (.s (.s .z (.b (.lx ⟨[(8,.v ai)],[],[0,1,7],[],1256,[]⟩ 0 ⟨[],[],[],[],1256,[]⟩ .z))) .z))
theorem uJ:aK 137 (FP n) :=cq aD func137 FQ n
def VA:ca xx:=⟨[.d (.st SI.kf),.d ai],[.d ai],λa=>yB n a.1 a.2.1,none⟩
def VB:Hn SI:=(cj (.s (.s .z (.b (.lx ⟨[(14,.v ai)],[],[3,5,12,13],[1064,1256],1640,[]⟩ 0 ⟨[],[],[],[],1640,[]⟩ (cj (.s (.b (hZ (.s (.j ⟨[(8,.v ai)],[],[],[],2344,[]⟩ .z) .z))) .z))))) .z))
theorem VD:aK 145 (VA n) :=cq (au (uJ n) (au Ny aD)) func145 VB n
def Le:ca xx:=⟨[.d (.st SI.kf),.d aI],[.d ai],λa=>kr n a.1 a.2.1,none⟩
def Lf:Hn SI:=(cj (.s (.s (.j ⟨[(20,.v .bool)],[],[5,6],[],1704,[]⟩ .z) .z) .z))
theorem Lg:aK 112 (Le n) :=cq (au (VD n) (au Dj aD)) func112 Lf n
def DW:cN xx:=⟨[.p 0],[(0,eJ),(1,.l aI)],[.v ai],[(0,eJ),(1,.l aI)],λv=>lJ n v.1 v.2.1 v.2.2.1 v.2.2.2.1 v.2.2.2.2.1 v.2.2.2.2.2.1 v.2.2.2.2.2.2.1 v.2.2.2.2.2.2.2.1 v.2.2.2.2.2.2.2.2.1 v.2.2.2.2.2.2.2.2.2⟩
def DX:ca xx:=⟨[],[.d .bool],λ_=>none,some (DW n)⟩
theorem DY:aK 59 (DX n) :=mT (au (Xf n) aD) func59 .z n (by kernel_rfl) λ_=>by kernel_rfl
def Bb:cN xx:=⟨[.p 0],[(0,eJ),(1,.l aI)],[.v ai],[(0,eJ),(1,.l aI)],λv=>gY n v.1 v.2.1 v.2.2.1 v.2.2.2.1 v.2.2.2.2.1 v.2.2.2.2.2.1 v.2.2.2.2.2.2.1 v.2.2.2.2.2.2.2.1 v.2.2.2.2.2.2.2.2.1 v.2.2.2.2.2.2.2.2.2⟩
def Bc:ca xx:=⟨[],[.d .bool],λ_=>none,some (Bb n)⟩
def Bd:Hn SI:=(hZ (.s (.s .z (.b (.l ⟨[(3,.o 1960),(23,.v ai)],[(1448,.l aA),(1960,.l ai)],[4,21,22],[0,1],1961,[(3,ai)]⟩ 0 ⟨[(3,.o 1960)],[(1448,.l aA),(1960,.l ai)],[4],[0,1],1961,[]⟩ .z))) (hZ (.s (.s .z (.b (.l ⟨[(7,.v ai),(56,.v ai)],[],[3,4,55],[0,1,1448,1960],2601,[]⟩ 2 ⟨[(7,.v ai)],[],[],[0,1],2601,[]⟩ (cj (.s (.b (hZ (.b (.l ⟨[(7,.v ai),(9,.v ai),(61,.v ai)],[],[3,4,8,55,56,59,60],[0,1,1448,1960],3049,[]⟩ 4 ⟨[(7,.v ai)],[],[3,4,55,56],[0,1,1448,1960],3049,[]⟩ (cj (.s (.j ⟨[(7,.v ai),(9,.v ai)],[],[3,4,8,55,56,59,60,61],[0,1,1448,1960],3113,[]⟩ (.b (.s .z (.s (.j ⟨[(86,.v .bool)],[],[3,4,7,8,9,11,55,56,59,60,61],[0,1,1448,1960,3241],3369,[]⟩ .z) .z)))) .z)))))) .z))))) .z))))
theorem Be:aK 60 (Bc n) :=mT (au (Jl n) (au A8 (au (tO n) aD))) func60 Bd n (by kernel_rfl) λ_=>by kernel_rfl
def DZ:cN xx:=⟨[.p 0,(.f 105 [] [])],[(0,eJ),(1,.l aI)],[.v ai],[(0,eJ),(1,.l aI)],λv=>oW n v.1 v.2.1 v.2.2.1 v.2.2.2.1 v.2.2.2.2.1 v.2.2.2.2.2.1 v.2.2.2.2.2.2.1 v.2.2.2.2.2.2.2.1 v.2.2.2.2.2.2.2.2.1 v.2.2.2.2.2.2.2.2.2⟩
def D5:ca xx:=⟨[],[.d .bool],λ_=>none,some (DZ n)⟩
def D6:Hn SI:=(cj (.s (.s .z (.b (.l ⟨[(5,.v ai),(13,.v ai)],[],[1,11,12],[0,1],1512,[]⟩ 0 ⟨[(5,.v ai)],[],[],[0,1],1512,[]⟩ .z))) .z))
theorem D7:aK 104 (D5 n) :=mT (au Dj aD) func104 D6 n (by kernel_rfl) λ_=>by kernel_rfl
def Bf:cN xx:=⟨[.p 0],[(0,eJ),(1,.l aI)],[.v ai],[(0,eJ),(1,.l aI)],λv=>jU n v.1 v.2.1 v.2.2.1 v.2.2.2.1 v.2.2.2.2.1 v.2.2.2.2.2.1 v.2.2.2.2.2.2.1 v.2.2.2.2.2.2.2.1 v.2.2.2.2.2.2.2.2.1 v.2.2.2.2.2.2.2.2.2⟩
def Bg:ca xx:=⟨[],[.d .bool],λ_=>none,some (Bf n)⟩
theorem Bh:aK 61 (Bg n) :=mT (au (D7 n) aD) func61 .z n (by kernel_rfl) λ_=>by kernel_rfl
def wV:cN xx:=⟨[.p 0,(.f 107 [] [])],[(0,eJ),(1,.l aI)],[.v ai],[(0,eJ),(1,.l aI)],λv=>kY n v.1 v.2.1 v.2.2.1 v.2.2.2.1 v.2.2.2.2.1 v.2.2.2.2.2.1 v.2.2.2.2.2.2.1 v.2.2.2.2.2.2.2.1 v.2.2.2.2.2.2.2.2.1 v.2.2.2.2.2.2.2.2.2⟩
def wW:ca xx:=⟨[],[.d .bool],λ_=>none,some (wV n)⟩
def wX:Hn SI:=(cj (.s (.s .z (.b (.l ⟨[(5,.v ai),(13,.v ai)],[],[1,11,12],[0,1],1512,[]⟩ 0 ⟨[(5,.v ai)],[],[],[0,1],1512,[]⟩ .z))) .z))
theorem wY:aK 106 (wW n) :=mT (au yU aD) func106 wX n (by kernel_rfl) λ_=>by kernel_rfl
def zB:cN xx:=⟨[.p 0],[(0,eJ),(1,.l aI)],[.v ai],[(0,eJ),(1,.l aI)],λv=>jf n v.1 v.2.1 v.2.2.1 v.2.2.2.1 v.2.2.2.2.1 v.2.2.2.2.2.1 v.2.2.2.2.2.2.1 v.2.2.2.2.2.2.2.1 v.2.2.2.2.2.2.2.2.1 v.2.2.2.2.2.2.2.2.2⟩
def zC:ca xx:=⟨[],[.d .bool],λ_=>none,some (zB n)⟩
theorem zD:aK 62 (zC n) :=mT (au (wY n) aD) func62 .z n (by kernel_rfl) λ_=>by kernel_rfl
def wZ:cN xx:=⟨[.p 0,(.f 108 [] [])],[(0,eJ),(1,.l aI)],[.v ai],[(0,eJ),(1,.l aI)],λv=>kZ n v.1 v.2.1 v.2.2.1 v.2.2.2.1 v.2.2.2.2.1 v.2.2.2.2.2.1 v.2.2.2.2.2.2.1 v.2.2.2.2.2.2.2.1 v.2.2.2.2.2.2.2.2.1 v.2.2.2.2.2.2.2.2.2⟩
def xg:ca xx:=⟨[],[.d .bool],λ_=>none,some (wZ n)⟩
def xh:Hn SI:=(cj (.s (.s .z (.b (.l ⟨[(5,.v ai),(13,.v ai)],[],[1,11,12],[0,1],1512,[]⟩ 0 ⟨[(5,.v ai)],[],[],[0,1],1512,[]⟩ .z))) .z))
theorem xk:aK 106 (xg n) :=mT (au zA aD) func106 xh n (by kernel_rfl) λ_=>by kernel_rfl
def zF:cN xx:=⟨[.p 0],[(0,eJ),(1,.l aI)],[.v ai],[(0,eJ),(1,.l aI)],λv=>jg n v.1 v.2.1 v.2.2.1 v.2.2.2.1 v.2.2.2.2.1 v.2.2.2.2.2.1 v.2.2.2.2.2.2.1 v.2.2.2.2.2.2.2.1 v.2.2.2.2.2.2.2.2.1 v.2.2.2.2.2.2.2.2.2⟩
def zG:ca xx:=⟨[],[.d .bool],λ_=>none,some (zF n)⟩
theorem zH:aK 63 (zG n) :=mT (au (xk n) aD) func63 .z n (by kernel_rfl) λ_=>by kernel_rfl
def D8:cN xx:=⟨[.p 0,(.f 109 [] [])],[(0,eJ),(1,.l aI)],[.v ai],[(0,eJ),(1,.l aI)],λv=>oZ n v.1 v.2.1 v.2.2.1 v.2.2.2.1 v.2.2.2.2.1 v.2.2.2.2.2.1 v.2.2.2.2.2.2.1 v.2.2.2.2.2.2.2.1 v.2.2.2.2.2.2.2.2.1 v.2.2.2.2.2.2.2.2.2⟩
def D9:ca xx:=⟨[],[.d .bool],λ_=>none,some (D8 n)⟩
def Ea:Hn SI:=(cj (.s (.s .z (.b (.l ⟨[(5,.v ai),(13,.v ai)],[],[1,11,12],[0,1],1512,[]⟩ 0 ⟨[(5,.v ai)],[],[],[0,1],1512,[]⟩ .z))) .z))
theorem Eb:aK 104 (D9 n) :=mT (au Ba aD) func104 Ea n (by kernel_rfl) λ_=>by kernel_rfl
def Bj:cN xx:=⟨[.p 0],[(0,eJ),(1,.l aI)],[.v ai],[(0,eJ),(1,.l aI)],λv=>jV n v.1 v.2.1 v.2.2.1 v.2.2.2.1 v.2.2.2.2.1 v.2.2.2.2.2.1 v.2.2.2.2.2.2.1 v.2.2.2.2.2.2.2.1 v.2.2.2.2.2.2.2.2.1 v.2.2.2.2.2.2.2.2.2⟩
def Bl:ca xx:=⟨[],[.d .bool],λ_=>none,some (Bj n)⟩
theorem Bn:aK 64 (Bl n) :=mT (au (Eb n) aD) func64 .z n (by kernel_rfl) λ_=>by kernel_rfl
def zI:cN xx:=⟨[.p 0,.v aA,.v ai],[(0,eJ),(1,.l aI)],[.v .bool],[(0,eJ),(1,.l aI)],λv=>ji n v.1 v.2.1 v.2.2.1 v.2.2.2.1 v.2.2.2.2.1 v.2.2.2.2.2.1 v.2.2.2.2.2.2.1 v.2.2.2.2.2.2.2.1 v.2.2.2.2.2.2.2.2.1 v.2.2.2.2.2.2.2.2.2.1 v.2.2.2.2.2.2.2.2.2.2.1 v.2.2.2.2.2.2.2.2.2.2.2⟩
def zJ:ca xx:=⟨[],[.d .bool],λ_=>none,some (zI n)⟩
def zK:Hn SI:=(tM (.s (.s .z (.b (.l ⟨[(9,.v ai),(27,.v ai)],[],[7,25,26],[0,1,1512],2280,[]⟩ 0 ⟨[(9,.v ai)],[],[7],[0,1,1512],2280,[]⟩ (cj (.s (.j ⟨[(9,.v ai)],[],[7,25,26,27],[0,1,1512],2344,[]⟩ .z) .z))))) .z))
theorem zL:aK 110 (zJ n) :=mT (au PS (au zq (au FN aD))) func110 zK n (by kernel_rfl) λ_=>by kernel_rfl
def xK:cN xx:=⟨[.p 0],[(0,eJ),(1,.l aI)],[.v ai],[(0,eJ),(1,.l aI)],λv=>iP n v.1 v.2.1 v.2.2.1 v.2.2.2.1 v.2.2.2.2.1 v.2.2.2.2.2.1 v.2.2.2.2.2.2.1 v.2.2.2.2.2.2.2.1 v.2.2.2.2.2.2.2.2.1 v.2.2.2.2.2.2.2.2.2⟩
def xL:ca xx:=⟨[],[.d .bool],λ_=>none,some (xK n)⟩
def xM:Hn SI:=(cj (.s (.s .z (.b (.l ⟨[(3,.v ai),(14,.v ai)],[(0,eJ),(1,.l aI)],[0,12,13],[],1512,[]⟩ 0 ⟨[(3,.v ai)],[(0,eJ),(1,.l aI)],[],[],1512,[]⟩ (cj (.s (.b (cj (.s (.b (.l ⟨[(6,.v ai),(7,.v ai)],[(0,eJ),(1,.l aI)],[0,5,12,13,14],[1704],2024,[]⟩ 2 ⟨[(6,.v ai)],[(0,eJ),(1,.l aI)],[0,12,13,14],[],2024,[]⟩ .z)) .z))) .z))))) .z))
theorem xN:aK 65 (xL n) :=mT (au (zL n) aD) func65 xM n (by kernel_rfl) λ_=>by kernel_rfl
def uR:cN xx:=⟨[.v aI,.p 0],[(0,.c 1 [[.p 1]]),(1,sq),(2,.l aI)],[.v ai],[(0,.c 1 [[.p 1]]),(1,sq),(2,.l aI)],λv=>jR n v.1 v.2.1 v.2.2.1 v.2.2.2.1 v.2.2.2.2.1 v.2.2.2.2.2.1 v.2.2.2.2.2.2.1 v.2.2.2.2.2.2.2.1 v.2.2.2.2.2.2.2.2.1 v.2.2.2.2.2.2.2.2.2.1 v.2.2.2.2.2.2.2.2.2.2⟩
def uS:ca xx:=⟨[],[.d .bool],λ_=>none,some (uR n)⟩
theorem uT:aK 111 (uS n) :=mT (au (Lg n) aD) func111 .z n (by kernel_rfl) λ_=>by kernel_rfl
def Ec:cN xx:=⟨[.p 0,(.f 111 [] [.p 1])],[(0,sq),(1,.c 1 [[.p 0]]),(2,.l aI)],[.v ai],[(0,sq),(1,.c 1 [[.p 0]]),(2,.l aI)],λv=>o6 n v.1 v.2.1 v.2.2.1 v.2.2.2.1 v.2.2.2.2.1 v.2.2.2.2.2.1 v.2.2.2.2.2.2.1 v.2.2.2.2.2.2.2.1 v.2.2.2.2.2.2.2.2.1 v.2.2.2.2.2.2.2.2.2⟩
def Ed:ca xx:=⟨[],[.d .bool],λ_=>none,some (Ec n)⟩
def Ee:Hn SI:=(cj (.s (.s .z (.b (.l ⟨[(5,.v ai),(13,.v ai)],[(0,sq),(1,.c 1 [[.p 0]]),(2,.l aI)],[1,11,12],[],1512,[]⟩ 0 ⟨[(5,.v ai)],[(0,sq),(1,.c 1 [[.p 0]]),(2,.l aI)],[],[],1512,[]⟩ .z))) .z))
theorem Ef:aK 104 (Ed n) :=mT (au (uT n) aD) func104 Ee n (by kernel_rfl) λ_=>by kernel_rfl
def xO:cN xx:=⟨[.p 0],[(0,eJ),(1,.l aI)],[.v ai],[(0,eJ),(1,.l aI)],λv=>iQ n v.1 v.2.1 v.2.2.1 v.2.2.2.1 v.2.2.2.2.1 v.2.2.2.2.2.1 v.2.2.2.2.2.2.1 v.2.2.2.2.2.2.2.1 v.2.2.2.2.2.2.2.2.1 v.2.2.2.2.2.2.2.2.2⟩
def xP:ca xx:=⟨[],[.d .bool],λ_=>none,some (xO n)⟩
theorem xQ:aK 66 (xP n) :=mT (au (Ef n) aD) func66 .z n (by kernel_rfl) λ_=>by kernel_rfl
def YQ:ca xx:=⟨[.d (.st SI.kf),.d (.st SI.Lot),.d eG],[.fresh (.st SI.Entry)],λa=>nT n a.1 a.2.1 a.2.2.1,none⟩
def YR:Hn SI:=(cj (.s (.j ⟨[],[(1384,.c 10 [[.v (.sl bg),.v (.sl aX),.v (.sl bA),.v (.sl aW),.v (.sl bE),.v (.sl bB),.v (.sl aU),.v ai,.v (.sl aA),.nil]])],[5,7],[1128],1512,[]⟩ .z) (.s (.s .z (.b (.l ⟨[(31,.v ai)],[(1384,B8),(1960,.l aI)],[7,29,30],[1768],1961,[(6668873,aI)]⟩ 0 ⟨[],[(1384,B8),(1960,.l aI)],[7],[],1961,[]⟩ (cj (.s (.j ⟨[],[(1384,.c 10 [[.v (.sl bg),.v (.sl aX),.v (.sl bA),.v (.sl aW),.v (.sl bE),.v (.sl bB),.v (.sl aU),.v ai,.v (.sl aA),.o 2025]]),(2025,.l aI)],[7,29,30,31],[1768],2026,[]⟩ (.b (.s .z (.s (.j ⟨[(41,.v .bool)],[],[7,9,29,30,31],[1384,1768,1960,2217],2409,[]⟩ .z) .z)))) .z))))) (cj (.s (.s .z (.b (.un .z (.un .z (.un .z (.un .z (.un .z (.un .z (.un .z (.un .z (.un .z (.un .z .z)))))))))))) .z)))))
theorem YS:aK 30 (YQ n) :=cq (au (nW n) (au (yT n) (au jY (au (DY n) (au (Be n) (au (Bh n) (au (zD n) (au (zH n) (au (Bn n) (au (xN n) (au (xQ n) aD))))))))))) func30 YR n
def adC:ca xx:=⟨[.d ai],[.d ai,.d .bool],λa=>wO a.1,none⟩
def adD:Hn SI:=(.s .z (.s (.s .z (.b (.s (.j ⟨[(5,.v .bool)],[],[0,4],[],1192,[]⟩ .z) (.s .z (.s (.j ⟨[(10,.v .bool)],[],[0,4],[],1192,[]⟩ .z) .z))))) .z))
theorem adE:aK 130 adC :=cq aD func130 adD 0
def abp:Hn SI:=(cj (.s (.s (.j ⟨[(28,.v .bool)],[],[1,2],[1000],1640,[]⟩ .z) .z) (.s .z (.s (.s .z (.b (.l ⟨[(7,.v ai),(32,.v ai)],[],[1,30,31],[],1960,[]⟩ 0 ⟨[(7,.v ai)],[],[],[],1960,[]⟩ .z))) .z))))
theorem YT(rc:(bH)->(Int)->Option Int)(hr:aK 95 (Cm rc)):aK 95 (Cm (yC n rc)) :=cq (au adE (au hr aD)) func95 abp n
theorem Lh(n:Nat):∀m,aK 95 (Cm (qE n m))
 | 0=>vu (uj func95 (by kernel_rfl:Tryz.f95.body=some (Tryz.f95.body.getD .skip)) (by kernel_rfl)) (λ _ _ h=>(by cases h)) rfl
 |m+1=>YT n _ (Lh n m)
def abq:ca xx:=⟨[.d (.st SI.Expr),.d ai],[.d ai],λa=>MK n a.1 a.2.1,none⟩
theorem abr:aK 95 (abq n):=Lh n n
def adF:ca xx:=⟨[.d (.st SI.Expr)],[.d .bool],λa=>Fg n a.1,none⟩
theorem Uq:aK 54 (adF n) :=cq (au (abr n) aD) func54 .z n
def Li:ca xx:=⟨[],[.fresh .str],λ_=>uP,none⟩
theorem Lj:aK 131 Li :=cq aD func131 .z 0
mutual
theorem aiY:∀g:bH,(toE g).wt<=4000000->oT (toE g) (pQ g)
 |⟨op,n,s,key,args⟩,h=>by
  simp only[toE,ET.wt]at h;have:=ET.pp (Fh args);simp only[toE,pQ,oT];exact⟨n,key,_,rfl,by unfold maxLen;omega,by omega,Ur args (by omega)⟩
theorem Ur:∀l:List bH,ET.rx (Fh l)<=4000000->ju (Fh l) (qV l)
 |[],_=>by simp only[Fh,qV,ju]
 |x::xs,h=>by
  simp only[Fh,ET.rx]at h;simp only[Fh,qV,ju];exact⟨_,_,rfl,aiY x (by omega),Ur xs (by omega)⟩
end
def Ll:ca xx:=⟨[],[.d .bool],λ_=>none,some ⟨[.v (.sl bg)],[],[.p 1000],[(1000,pP)],λv=>ku v⟩⟩
theorem abt:∀l:List eH,pN (l.map toD)<=4000000->jz (l.map toD) (l.map Cc)
 |[],_=>by simp only[List.map_nil,jz]
 |x::xs,h=>by
  simp only[aF,pN,List.foldr_cons,toD,ET.wt]at h;have:=ET.pp (Fh x.ed);simp only[aF,jz];refine⟨_,_,rfl,⟨_,_,_,_,_,rfl,by simp only[toD];unfold maxLen;omega,?_⟩,abt xs (by simp only[pN];omega)⟩;simp only[toD,oT];exact⟨_,_,_,rfl,by unfold maxLen;omega,by omega,by rw[<- qW];exact Ur _ (by omega)⟩
theorem Lm:aK 132 Ll:=by
 have hcall:eT Tryz.prog 132:=⟨_,func132,by kernel_rfl,by kernel_rfl⟩;refine NX hcall ?_;intro v r hr;have h':ku v=some r:=hr;unfold ku at h';cases hb:Nat.ble (pN (List.map toD v)) 4000000 with
 |false=>rw[hb]at h';cases h'
 |true=>
  rw[hb]at h';have h'':some (v,ny (List.map toD v))=some r:=h';injection h'' with e;subst e;have hw:=Nat.le_of_ble_eq_true hb;have hlen:=Qj (List.map toD v);have hn:∀d∈List.map toD v,d.2.names.length<=4000000:=λd hd=>by have h1:=Qk hd;have h2:=ET.nb d.2;omega
  exact Ye (TL:=66) (TG:=247) (TI:=3) hcall (abt v hw) λsv w hS=>aiu (List.map toD v) (by omega) (λ d hd=>Nat.le_trans (hn d hd) (by omega))
   (λ d hd v0 v1 v2 v3 v4 w hE=>callsIn_wide.1 (ag2 0 d.2 v0 v1 v2 v3 v4 w hE (Nat.le_trans (hn d hd) (by omega)))) sv w hS
def PU:ca xx:=⟨[.d (.sl ai),.d ai],[.fresh ai],λa=>pF a.1 a.2.1,none⟩
theorem PV:aK 224 PU:=by
 have hcall:eT Tryz.prog 224:=⟨_,func224,by kernel_rfl,by kernel_rfl⟩;refine vu hcall (λ a r h=>?_) rfl;obtain⟨l,c,⟨⟩⟩:=a;have h':pF l c=some r:=h
 match l,h' with
 |[x],h'=>
  simp only[pF]at h';cases hb:(decide (0<=c)&&decide (c<=1000000000000))with
  |false=>rw[hb]at h';cases h'
  |true=>
   rw[hb]at h';have h'':some (List.replicate c.toNat x)=some r:=h';injection h'' with e;subst e;simp only[aJ,aR]at hb;obtain⟨h1,h2⟩:=hb;obtain⟨k,hk⟩:=Int.eq_ofNat_of_zero_le h1;subst hk;exact acK (E:=3) (c:=k) hcall λa cap w hx=>afj x k (Int.ofNat_le.1 (by simpa using h2)) a cap w hx
def Us:ca xx:=⟨[.d (.sl ai),.d ai],[.d ai],λa=>Cn n a.1 a.2.1,none⟩
def Ut:Hn SI:=(.s .z (.s (.s .z (.b (.lx ⟨[(8,.v ai)],[],[0,1,7],[],1256,[]⟩ 0 ⟨[],[],[],[],1256,[]⟩ .z))) .z))
theorem Uu:aK 242 (Us n) :=cq aD func242 Ut n
def Lp:ca xx:=⟨[.d (.sl ai),.d ai],[.d .bool],λa=>pX n a.1 a.2.1,none⟩
theorem Lr:aK 225 (Lp n) :=cq (au (Uu n) aD) func225 .z n
def zM:ca xx:=⟨[.ref (.st SI.graph),.d ai],[.fresh ai],λa=>jl n a.1 a.2.1,none⟩
def zN:Hn SI:=(tM (.s (.b (.l ⟨[(6,.od 2024)],[(1448,.l ai),(2024,.l ai)],[0,5],[],2025,[]⟩ 0 ⟨[],[(1448,.l ai)],[5],[],2024,[]⟩ (.s .z (.b (hZ (.b (.l ⟨[(6,.od 3049),(35,.v ai)],[(1448,.l ai),(3049,.l ai)],[0,5,7,33,34],[],3050,[]⟩ 2 ⟨[(6,.od 3049)],[(1448,.l ai),(3049,.l ai)],[0,5],[],3050,[]⟩ (cj (.s (.j ⟨[(6,.od 3114)],[(1448,.l ai),(3114,.l ai)],[0,5,7,33,34,35],[],3115,[]⟩ (.b (.s .z (.s (.j ⟨[(49,.v .bool)],[],[0,5,6,7,8,33,34,35],[1448,3049],3434,[]⟩ .z) .z)))) .z))))))))) .z))
theorem zO:aK 204 (zM n) :=cq (au PV (au (Lr n) aD)) func204 zN n
def Jm:ca xx:=⟨[.d .str],[.d .bool],λa=>cmp_isNaN_string a.1,none⟩
theorem Jo:aK 226 Jm :=cq aD func226 .z 0
def FR:ca xx:=⟨[.d .str,.d .str],[.d ai],λa=>mE a.1 a.2.1,none⟩
theorem FT:aK 205 FR :=cq (au Jo aD) func205 .z 0
def G6:ca xx:=⟨[.d (.sl .str),.d (.sl .str)],[.d ai],λa=>kQ n a.1 a.2.1,none⟩
def G7:Hn SI:=(.s .z (.s (.s .z (.b (.lx ⟨[(11,.v ai)],[],[0,1,9,10],[],1256,[]⟩ 0 ⟨[],[],[0,1],[],1256,[]⟩ .z))) .z))
theorem G8:aK 168 (G6 n) :=cq (au FT aD) func168 G7 n
end
end Go.Proofs
