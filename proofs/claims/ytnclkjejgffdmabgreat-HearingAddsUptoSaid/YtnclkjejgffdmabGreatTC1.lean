import Derived.Test.YtnclkjejgffdmabGreatS2
open List (mem_map all_eq_true map_map all_cons)
namespace Go.Proofs
open Go.Gb Go.RowKit
abbrev gh:OP SI:=.c 10 [[.v (.sl bA),.v (.sl aX),.v (.sl bD),.v (.sl aV),.v (.sl bH),.v (.sl bE),.v (.sl aW),.v af,.v (.sl aA),.o 1]]
abbrev sf:OP SI:=.c 1 [[.o 1]]
abbrev ta:OP SI:=.c 2 [[.v (.sl bA),(.v (.sl (.sl af)))]]
abbrev vp:OP SI:=.c 10 [[.v (.sl bA),.v (.sl aX),.v (.sl bD),.v (.sl aV),.v (.sl bH),.v (.sl bE),.v (.sl aW),.v af,.v (.sl aA),.o 2]]
abbrev wy:OP SI:=.c 2 [[.v af,.v af]]
abbrev yz:OP SI:=.c 1 [[.o 1384]]
abbrev CC:OP SI:=.c 4 [[.v af,.v af,.v af,.v af]]
abbrev IF:OP SI:=.c 10 [[.v (.sl bA),.v (.sl aX),.v (.sl bD),.v (.sl aV),.v (.sl bH),.v (.sl bE),.v (.sl aW),.v af,.v (.sl aA),.o 1960]]
abbrev cy(a:Hn SI):Hn SI:=.s .z (.s .z a)
abbrev jj(a:Hn SI):Hn SI:=.s .z (.s .z (.s .z a))
abbrev tR(a:Hn SI):Hn SI:=.s .z (.s .z (.s .z (.s .z a)))
abbrev yW(a:Hn SI):Hn SI:=.s .z (.s .z (.s .z (.s .z (.s .z a))))
abbrev Vc(a:Hn SI):Hn SI:=.s .z (.s .z (.s .z (.s .z (.s .z (.s .z a)))))
open Tryz
noncomputable section
variable (n:Nat)
def aai:cw xx:=⟨[.d af,.d af],[.d dx],λa=>tC a.1 a.2.1,none⟩
theorem aaj:aC 15 aai :=cq ay func15 .z 0
def JF:cw xx:=⟨[.d (.sl aX),.eE [aX] .bool],[.d af],λa=>og n a.1 a.2.1,none⟩
def JG:Hn SI:=(.s .z (.s (.s .z (.b (.lx ⟨[(8,.v af)],[],[0,1,7],[],1256,[]⟩ 0 ⟨[],[],[],[],1256,[]⟩ .z))) .z))
theorem xN:aC 68 (JF n) :=cq ay func68 JG n
def agp:cw xx:=⟨[.d aX],[.d .bool],λa=>abN a.1,none⟩
theorem agq:aC 69 agp :=cq ay func69 .z 0
def agr:cw xx:=⟨[.d gL,.ref .str],[.d .bool],λa=>abO a.1 a.2.1,none⟩
theorem ags:aC 71 agr :=cq ay func71 .z 0
def JH:cw xx:=⟨[.d (.sl gL),.eE [gL] .bool],[.d af],λa=>iX n a.1 a.2.1,none⟩
def JI:Hn SI:=(.s .z (.s (.s .z (.b (.lx ⟨[(8,.v af)],[],[0,1,7],[],1256,[]⟩ 0 ⟨[],[],[],[],1256,[]⟩ .z))) .z))
theorem qC:aC 70 (JH n) :=cq ay func70 JI n
def anY:cw xx:=⟨[.d gI,.d .str],[.d af],λa=>QW n a.1 a.2.1,none⟩
theorem agt:aC 42 (anY n) :=cq (ak (xN n) (ak agq (ak (qC n) (ak ags ay)))) func42 .z n
def alx:cw xx:=⟨[.d gI],[.d af],λa=>OA n a.1,none⟩
theorem aly:aC 27 (alx n) :=cq (ak (agt n) ay) func27 .z n
def Uq:cw xx:=⟨[.d (.sl fJ)],[.fresh fJ],λa=>BM a.1,none⟩
theorem Ur:aC 64 Uq :=cq ay func64 .z 0
def MS:cw xx:=⟨[.mut fJ,.eE [fJ,fJ] af],[.mu fJ],λa=>vX n a.1 a.2.1,none⟩
theorem MU:aC 65 (MS n):=by have hcall:eF Tryz.prog 65:=⟨_,func65,by kernel_rfl,by kernel_rfl⟩;refine ws hcall (λ a r h=>?_) rfl;obtain⟨l,φ,⟨⟩⟩:=a;refine QU (X:=xx) (i:=SI.rm) (hI:=(inferInstance:Inhabited dK)) Tryz.so65 rfl hcall Tryz.underlying148 (by kernel_rfl) (λ x t ht=>?_) h;cases x;have ht:t∈[_,_]:=ht;simp only[aI,bB,or_false]at ht;rcases ht with rfl |rfl<;>exact⟨_,rfl,trivial⟩
def MV:cw xx:=⟨[.d fJ,.d fJ],[.d af],λa=>nO a.1 a.2.1,none⟩
theorem MW:aC 66 MV :=cq ay func66 .z 0
def Us:cw xx:=⟨[.d (.sl fJ)],[.fresh fJ,.d .bool],λa=>wK n a.1,none⟩
def Ut:Hn SI:=(yW (.s (.s .z (.b (.lx ⟨[(20,.v af)],[],[4,5,18,19],[1384],1896,[]⟩ 0 ⟨[],[],[4,5],[1384],1896,[]⟩ (cy (.s (.b (.s .z (.s (.j ⟨[(38,.v .bool)],[],[4,5,18,19,20],[1384],2216,[]⟩ .z) .z))) .z))))) (.s (.s .z (.b (.l ⟨[(5,.o 2088),(42,.v af)],[(2088,.l fJ)],[40,41],[1384],2089,[(5,fJ)]⟩ 2 ⟨[(5,.o 2088)],[(2088,.l fJ)],[],[],2089,[]⟩ (cy (.s (.j ⟨[(5,.o 2153)],[(2153,.l fJ)],[40,41,42],[1384],2154,[]⟩ (.b (.s .z (.s (.s .z (.s (.j ⟨[(60,.v .bool)],[],[5,9,10,40,41,42],[1384,2088,2281],2665,[]⟩ .z) .z)) .z)))) .z))))) .z)))
theorem Uu:aC 36 (Us n) :=cq (ak Ur (ak (MU n) (ak MW ay))) func36 Ut n
def Rs:cw xx:=⟨[.d af],[.d .bool],λa=>nP a.1,none⟩
theorem DW:aC 38 Rs :=cq ay func38 .z 0
def Rt:cw xx:=⟨[.d (.sl af)],[.d .bool],λa=>uw n a.1,none⟩
def Ru:Hn SI:=(cy (.s (.s .z (.b (.lx ⟨[(10,.v af)],[],[0,8,9],[],1448,[]⟩ 0 ⟨[],[],[],[],1448,[]⟩ (cy (.s (.b (.s .z (.s (.j ⟨[(30,.v .bool)],[],[0,8,9,10],[],1832,[]⟩ .z) .z))) .z))))) .z))
theorem Rv:aC 37 (Rt n) :=cq (ak DW ay) func37 Ru n
def Uv:cw xx:=⟨[.d (.sl af),.d af],[.d af],λa=>ku n a.1 a.2.1,none⟩
def Uw:Hn SI:=(cy (.s (.s .z (.b (.l ⟨[(5,.v af),(17,.v af)],[],[1,15,16],[],1768,[]⟩ 0 ⟨[(5,.v af)],[],[],[],1768,[]⟩ (cy (.s (.j ⟨[(5,.v af)],[],[1,15,16,17],[],1832,[]⟩ (.b (.s .z (.s (.j ⟨[(28,.v .bool)],[],[1,5,15,16,17],[],2024,[]⟩ .z) .z)))) .z))))) .z))
theorem Ux:aC 67 (Uv n) :=cq ay func67 Uw n
def Rw:cw xx:=⟨[.d (.sl af),.d (.sl fJ),.d af,.d af],[.d af],λa=>uy n a.1 a.2.1 a.2.2.1 a.2.2.2.1,none⟩
def Rx:Hn SI:=(cy (.s (.s .z (.b (.l ⟨[(9,.v af),(25,.v af)],[],[0,2,3,23,24],[],1896,[]⟩ 0 ⟨[(9,.v af)],[],[],[],1896,[]⟩ (cy (.s (.j ⟨[(9,.v af)],[],[0,2,3,23,24,25],[],1960,[]⟩ .z) .z))))) .z))
theorem Ry:aC 41 (Rw n) :=cq (ak (Ux n) ay) func41 Rx n
def FQ:cw xx:=⟨[.d af,.ref (.sl af),.ref (.sl fJ),.ref af,.ref af],[.d .bool],λa=>jd n a.1 a.2.1 a.2.2.1 a.2.2.2.1 a.2.2.2.2.1,none⟩
theorem FR:aC 40 (FQ n) :=cq (ak (Ry n) ay) func40 .z n
def aak:cw xx:=⟨[.d af,.eE [af] .bool],[.d af],λa=>sort_Search n a.1 a.2.1,none⟩
def aal:Hn SI:=(cy (.s (.b (.l ⟨[(5,.v af),(6,.v af)],[],[1],[],1256,[]⟩ 0 ⟨[(5,.v af)],[],[],[],1256,[]⟩ .z)) .z))
theorem aam:aC 39 (aak n) :=cq ay func39 aal n
def KR:cw xx:=⟨[.d (.sl af),.d (.sl fJ),.d af,.d af],[.d af,.d af],λa=>gm n a.1 a.2.1 a.2.2.1 a.2.2.2.1,none⟩
def KS:Hn SI:=(.s .z (.s (.f [6]) (.s (.s (.j ⟨[(35,.v .bool)],[],[4,6,7,10],[1000,1064,1128,1640],1832,[]⟩ .z) .z) .z)))
theorem KT:aC 26 (KR n) :=cq (ak (Uu n) (ak (Rv n) (ak DW (ak (aam n) (ak (FR n) ay))))) func26 KS n
def MX:cw xx:=⟨[.d dx],[.d af,.d af],λa=>fu n a.1,none⟩
theorem oJ:aC 11 (MX n) :=cq (ak (aly n) (ak (KT n) ay)) func11 .z n
def Rz:cw xx:=⟨[.d dx],[.d .bool],λa=>jf a.1,none⟩
theorem DX:aC 20 Rz :=cq ay func20 .z 0
def RA:cw xx:=⟨[.d dx,.d af],[.d .bool],λa=>qj n a.1 a.2.1,none⟩
theorem DY:aC 23 (RA n) :=cq (ak (oJ n) ay) func23 .z n
def Uy:cw xx:=⟨[.d (.sl aA)],[.fresh aA],λa=>BN a.1,none⟩
theorem Uz:aC 72 Uy :=cq ay func72 .z 0
def YQ:cw xx:=⟨[.d (.sl af)],[.fresh af],λa=>yA a.1,none⟩
theorem YR:aC 73 YQ :=cq ay func73 .z 0
def aiG:cw xx:=⟨[.d (.st SI.Lot)],[.d (.st SI.Lot)],λa=>Dr a.1,none⟩
theorem aiH:aC 43 aiG :=cq (ak Uz (ak YR ay)) func43 .z 0
def alz:cw xx:=⟨[.d (.sl (.st SI.Lot)),.d af],[.d (.st SI.Lot),.d .bool],λa=>qN n a.1 a.2.1,none⟩
def alA:Hn SI:=(.s .z (.s (.s .z (.b (.lx ⟨[(10,.v af)],[],[1,4,8,9],[1000],1320,[]⟩ 0 ⟨[],[],[4],[1000],1320,[]⟩ .z))) .z))
theorem DZ:aC 28 (alz n) :=cq (ak aiH ay) func28 alA n
def aan:cw xx:=⟨[.d gI,.d eT],[.d af],λa=>xw n a.1 a.2.1,none⟩
def aao:Hn SI:=(jj (.s (.s .z (.b (.l ⟨[(6,.v af),(15,.v af)],[],[2,5,13,14],[1000,1256],1704,[]⟩ 0 ⟨[(6,.v af)],[],[],[],1704,[]⟩ (cy (.s (.b (cy (.b (.l ⟨[(6,.v af),(22,.v af)],[],[2,5,13,14,15,20,21],[1000,1256],2280,[]⟩ 2 ⟨[(6,.v af)],[],[2,5,13,14,15],[1000,1256],2280,[]⟩ (cy (.s (.j ⟨[(6,.v af)],[],[2,5,13,14,15,20,21,22],[1000,1256],2344,[]⟩ (.b (.s .z (.s (.j ⟨[(33,.v .bool)],[],[2,5,6,10,13,14,15,20,21,22],[1000,1256,2472],2600,[]⟩ .z) .z)))) .z)))))) .z))))) .z))
theorem aap:aC 75 (aan n) :=cq (ak (agt n) ay) func75 aao n
def alB:cw xx:=⟨[.d aA],[.d .bool],λa=>pX a.1,none⟩
theorem qY:aC 115 alB :=cq ay func115 .z 0
def YS:cw xx:=⟨[.nil,.d af],[.fresh aA],λa=>OC a.1 a.2.1,none⟩
theorem YT:aC 230 YS :=cq ay func230 .z 0
def RB:cw xx:=⟨[.d (.sl (.sl aA))],[.fresh aA],λa=>zu n a.1,none⟩
def RD:Hn SI:=(cy (.s (.s .z (.b (.l ⟨[(3,.v af),(11,.v af)],[],[0,9,10],[],1320,[]⟩ 0 ⟨[(3,.v af)],[],[0],[],1320,[]⟩ .z))) (.s .z (.s (.s .z (.b (.l ⟨[(6,.o 1704),(27,.v af)],[(1704,.l aA)],[25,26],[],1705,[]⟩ 2 ⟨[(6,.o 1704)],[(1704,.l aA)],[],[],1705,[]⟩ .z))) .z))))
theorem RF:aC 197 (RB n) :=cq (ak YT ay) func197 RD n
def aaq:cw xx:=⟨[.mut af],[.mu af],λa=>lX n a.1,none⟩
theorem pO:aC 46 (aaq n):=by have hcall:eF Tryz.prog 46:=⟨_,func46,by kernel_rfl,by kernel_rfl⟩;refine ws hcall (λ a r h=>?_) rfl;obtain⟨l,⟨⟩⟩:=a;exact akS Tryz.so46 rfl hcall h
def RG:cw xx:=⟨[.mut af],[.whole 0,.mu af],λa=>kH n a.1,none⟩
def RH:Hn SI:=(cy (.s (.s .z (.b (.lx ⟨[(3,.v af)],[],[0],[0],1320,[]⟩ 0 ⟨[],[],[0],[0],1320,[]⟩ (.s .z (.s (.b (.s .z (.s (.s .z (.s (.s .z (.b (.l ⟨[(3,.v af),(5,.v af)],[(0,.l af)],[0,4],[],2536,[]⟩ 2 ⟨[(3,.v af)],[(0,.l af)],[0],[],2536,[]⟩ (.s .z (.s (.j ⟨[(3,.v af)],[(0,.l af)],[0,4,5],[],2792,[]⟩ .z) .z))))) .z)) .z))) .z))))) .z))
theorem nT:aC 47 (RG n) :=cq ay func47 RH n
def MZ:cw xx:=⟨[.mut (.st SI.span),.eE [.st SI.span,.st SI.span] af],[.mu (.st SI.span)],λa=>vY n a.1 a.2.1,none⟩
theorem M0:aC 231 (MZ n):=by have hcall:eF Tryz.prog 231:=⟨_,func231,by kernel_rfl,by kernel_rfl⟩;refine ws hcall (λ a r h=>?_) rfl;obtain⟨l,φ,⟨⟩⟩:=a;refine QU (X:=xx) (i:=SI.span) (hI:=(inferInstance:Inhabited aR)) Tryz.so231 rfl hcall Tryz.underlying284 (by kernel_rfl) (λ x t ht=>?_) h;cases x;have ht:t∈[_,_]:=ht;simp only[aI,bB,or_false]at ht;rcases ht with rfl |rfl<;>exact⟨_,rfl,trivial⟩
def UA:cw xx:=⟨[.d af],[.d .bool],λa=>cmp_isNaN_int a.1,none⟩
theorem UB:aC 159 UA :=cq ay func159 .z 0
def Po:cw xx:=⟨[.d af,.d af],[.d af],λa=>cmp_Compare_int a.1 a.2.1,none⟩
theorem qb:aC 119 Po :=cq (ak UB ay) func119 .z 0
def YU:cw xx:=⟨[.d (.st SI.span),.d (.st SI.span)],[.d af],λa=>yB a.1 a.2.1,none⟩
theorem YV:aC 232 YU :=cq (ak qb ay) func232 .z 0
def agu:cw xx:=⟨[.d (.sl aA),.d af],[.fresh (.st SI.span)],λa=>Kr n a.1 a.2.1,none⟩
def agv:Hn SI:=(cy (.s (.s .z (.b (.l ⟨[(5,.o 1320),(14,.v af)],[(1320,.l (.st SI.span))],[1,12,13],[],1321,[(5,.st SI.span)]⟩ 0 ⟨[(5,.o 1320)],[(1320,.l (.st SI.span))],[],[],1321,[]⟩ (cy (.s (.j ⟨[(5,.o 1385)],[(1385,.l (.st SI.span))],[1,12,13,14],[],1386,[]⟩ (.b (.s .z (.s (.j ⟨[(27,.v .bool)],[],[1,5,7,12,13,14],[1320,1513],1641,[]⟩ .z) .z)))) .z))))) (cy (.s (.s .z (.b (.l ⟨[(8,.o 1705),(41,.v af)],[(1705,.l (.st SI.span))],[39,40],[1320],1706,[(8,.st SI.span)]⟩ 2 ⟨[(8,.o 1705)],[(1705,.l (.st SI.span))],[],[],1706,[]⟩ (cy (.s (.j ⟨[(8,.o 1770)],[(1770,.l (.st SI.span))],[39,40,41],[1320],1771,[]⟩ (.b (cy (.s (.j ⟨[(59,.v .bool)],[],[8,10,11,39,40,41],[1320,1705,1898],2218,[]⟩ .z) .z)))) .z))))) .z))))
theorem agx:aC 198 (agu n) :=cq (ak (M0 n) (ak YV ay)) func198 agv n
def agy:cw xx:=⟨[.d (.sl (.sl aA))],[.fresh (.st SI.strip)],λa=>pG n a.1,none⟩
def agz:Hn SI:=(jj (.s (.s .z (.b (.l ⟨[(4,.o 1512),(13,.v af)],[(1512,.l af)],[3,11,12],[1128],1513,[(4,af)]⟩ 0 ⟨[(4,.o 1512)],[(1512,.l af)],[3],[1128],1513,[]⟩ .z))) (jj (.s (.s .z (.b (.l ⟨[(7,.o 1961),(8,.v af)],[(1961,.l (.st SI.strip))],[3,4],[1128,1512],1962,[(7,.st SI.strip)]⟩ 2 ⟨[(7,.o 1961)],[(1961,.l (.st SI.strip))],[],[],1962,[]⟩ .z))) .z))))
theorem TH:aC 162 (agy n) :=cq (ak (RF n) (ak (pO n) (ak (nT n) (ak (agx n) ay)))) func162 agz n
def UC:cw xx:=⟨[.d (.sl (.st SI.span)),.d (.sl (.st SI.span))],[.d .bool],λa=>wL n a.1 a.2.1,none⟩
def UD:Hn SI:=(cy (.s (.s .z (.b (.lx ⟨[(13,.v af)],[],[0,1,12],[],1576,[]⟩ 0 ⟨[],[],[],[],1576,[]⟩ .z))) .z))
theorem UE:aC 196 (UC n) :=cq ay func196 UD n
def aiI:cw xx:=⟨[.d (.sl (.st SI.strip))],[.fresh aA],λa=>Jb n a.1,none⟩
def aiJ:Hn SI:=(cy (.s (.s .z (.b (.l ⟨[(3,.o 1192),(4,.v af)],[(1192,.l aA)],[0],[],1193,[(3,aA)]⟩ 0 ⟨[(3,.o 1192)],[(1192,.l aA)],[],[],1193,[]⟩ (.s .z (.b (.s .z (.s (.b (.l ⟨[(5,.v af)],[],[0,3,4],[1192],1641,[]⟩ 2 ⟨[(5,.v af)],[],[0,3,4],[1192],1641,[]⟩ (.s (.s (.j ⟨[(30,.v .bool)],[],[0,3,4,5],[1192],1641,[]⟩ .z) .z) .z))) (.s (.s .z (.b (.l ⟨[(3,.o 2089),(39,.v af)],[(2089,.l aA)],[0,4,5,37,38],[],2090,[]⟩ 4 ⟨[(3,.o 2089)],[(2089,.l aA)],[0,5],[],2090,[]⟩ .z))) .z)))))))) .z))
theorem YW:aC 161 (aiI n) :=cq (ak (UE n) ay) func161 aiJ n
def adL:cw xx:=⟨[.d (.sl aA)],[.d (.sl aA),.d af],λa=>zw a.1,none⟩
theorem Pp:aC 160 adL :=cq ay func160 .z 0
def apl:cw xx:=⟨[.d (.sl aA)],[.d (.sl aA),.d af],λa=>Th n a.1,none⟩
def apm:Hn SI:=(.s .z (.s (.s .z (.b (.lx ⟨[(8,.v af)],[],[0,6,7],[],1320,[]⟩ 0 ⟨[],[],[0],[],1320,[]⟩ .z))) .z))
theorem apn:aC 113 (apl n) :=cq (ak qY (ak (TH n) (ak (YW n) (ak Pp ay)))) func113 apm n
def UF:cw xx:=⟨[.d (.sl aA),.d (.sl aA)],[.d .bool],λa=>pI n a.1 a.2.1,none⟩
def UG:Hn SI:=(cy (.s (.s .z (.b (.lx ⟨[(13,.v af)],[],[0,1,12],[],1576,[]⟩ 0 ⟨[],[],[],[],1576,[]⟩ .z))) .z))
theorem Gn:aC 114 (UF n) :=cq ay func114 UG n
def aiK:cw xx:=⟨[.d (.sl aA)],[.d .bool],λa=>lY n a.1,none⟩
theorem oK:aC 80 (aiK n) :=cq (ak (apn n) (ak (Gn n) ay)) func80 .z n
def anZ:cw xx:=⟨[.d aA,.d aA],[.d af,.d af],λa=>anh a.1 a.2.1,none⟩
theorem an1:aC 194 anZ :=cq ay func194 .z 0
def apo:cw xx:=⟨[.d aA,.d aA],[.d af],λa=>OF a.1 a.2.1,none⟩
def apq:Hn SI:=(.s .z (.s (.s (.j ⟨[(14,.v .bool)],[],[2,3],[1000,1064],1192,[]⟩ .z) .z) .z))
theorem aj9:aC 153 apo :=cq (ak qY (ak an1 ay)) func153 apq 0
def an2:cw xx:=⟨[.d (.sl aA),.d (.sl aA)],[.d af,.d .bool],λa=>XQ n a.1 a.2.1,none⟩
def an3:Hn SI:=(.s .z (.s (.s (.j ⟨[(28,.v .bool)],[],[0,1],[],1128,[]⟩ .z) .z) (.s .z (.s (.s .z (.b (.l ⟨[(6,.v af),(31,.v af)],[],[1,29,30],[],1384,[]⟩ 0 ⟨[(6,.v af)],[],[],[],1384,[]⟩ (cy (.s (.b (cy (.b (.l ⟨[(6,.v af),(37,.v af)],[],[1,8,29,30,31,35,36],[1576],1896,[]⟩ 2 ⟨[(6,.v af)],[],[1,29,30,31],[],1896,[]⟩ .z)))) .z))))) .z))))
theorem an4:aC 101 (an2 n) :=cq (ak (oK n) (ak aj9 ay)) func101 an3 n
def alC:cw xx:=⟨[.d (.sl (.st SI.Lot)),.d af,.d af],[.fresh af],λa=>OJ n a.1 a.2.1 a.2.2.1,none⟩
def alD:Hn SI:=(tR (.s (.s .z (.b (.l ⟨[(9,.o 2024),(27,.v af)],[(2024,.l (.sl aA))],[0,1,2,7,25,26],[1448],2025,[(9,.sl aA)]⟩ 0 ⟨[(9,.o 2024)],[(2024,.l (.sl aA))],[0,1,2,7],[1448],2025,[]⟩ .z))) (.s .z (.s (.s .z (.b (.l ⟨[(12,.o 2281),(39,.v af)],[(2281,.l af)],[0,1,2,7,37,38],[1448,2024],2282,[(12,af)]⟩ 2 ⟨[(12,.o 2281)],[(2281,.l af)],[],[],2282,[]⟩ (cy (.s (.j ⟨[(12,.o 2346)],[(2346,.l af)],[0,1,2,7,37,38,39],[1448,2024],2347,[]⟩ (.b (cy (.s (.j ⟨[(65,.v .bool)],[],[0,1,2,7,12,13,37,38,39],[1448,2024,2281],3242,[]⟩ .z) .z)))) .z))))) .z))))
theorem alE:aC 74 (alC n) :=cq (ak (DZ n) (ak (an4 n) (ak (pO n) (ak (nT n) ay)))) func74 alD n
def alF:cw xx:=⟨[.d (.st SI.pw),.d eT],[.fresh af],λa=>Vr n a.1 a.2.1,none⟩
theorem alG:aC 45 (alF n) :=cq (ak (aap n) (ak (alE n) ay)) func45 .z n
def agA:cw xx:=⟨[.d (.st SI.pw),.d eT],[.fresh af],λa=>Kt n a.1 a.2.1,none⟩
def agB:Hn SI:=(cy (.s (.s .z (.b (.l ⟨[(5,.o 1576),(14,.v af)],[(1576,.l af)],[2,12,13],[1000,1384],1577,[(5,af)]⟩ 0 ⟨[(5,.o 1576)],[(1576,.l af)],[],[],1577,[]⟩ .z))) .z))
theorem agC:aC 30 (agA n) :=cq (ak (alG n) (ak (DZ n) (ak (pO n) (ak (nT n) ay)))) func30 agB n
def YX:cw xx:=⟨[.d (.sl af),.d af],[.d af],λa=>E9 n a.1 a.2.1,none⟩
def YZ:Hn SI:=(.s .z (.s (.s .z (.b (.lx ⟨[(8,.v af)],[],[0,1,7],[],1256,[]⟩ 0 ⟨[],[],[],[],1256,[]⟩ .z))) .z))
theorem Y0:aC 44 (YX n) :=cq ay func44 YZ n
def Pq:cw xx:=⟨[.d (.sl af),.d af],[.d .bool],λa=>oW n a.1 a.2.1,none⟩
theorem Bo:aC 29 (Pq n) :=cq (ak (Y0 n) ay) func29 .z n
def an5:cw xx:=⟨[.d (.st SI.pw),.d eT,.d af],[.d .bool],λa=>Mx n a.1 a.2.1 a.2.2.1,none⟩
theorem agD:aC 12 (an5 n) :=cq (ak (DZ n) (ak (agC n) (ak (Bo n) ay))) func12 .z n
def UH:cw xx:=⟨[.d dx,.d af],[.d .bool],λa=>rM n a.1 a.2.1,none⟩
theorem Gp:aC 24 (UH n) :=cq (ak (agD n) ay) func24 .z n
noncomputable def sU:List (TypeId×pS):=(86,⟨1,8,false,[.nilFunc],.other,[]⟩)::(88,⟨2,16,true,[.nilFunc,.nilFunc],.struct [(0,86),(1,86)],[]⟩)::(90,⟨1,8,false,[.map none],.map 3 88,[]⟩)::tab
theorem xU:fw Tryz.prog (iE sU):=aex (by kernel_rfl)
noncomputable def cA:Code->Code
 | .seq a _=>a
 |c=>c
noncomputable def cB:Code->Code
 | .seq _ b=>b
 |c=>c
noncomputable def cO:Code->Array Oper
 | .region _ o _=>o
 |_=>#[]
noncomputable def As:kw:=⟨.none,[],[],false⟩
noncomputable def arh(l:List Nat):kw:=⟨.none,l,l,false⟩
noncomputable def yi(l:List Nat):kw:=⟨.none,l,[],false⟩
noncomputable abbrev tn(n:Int):AV:= .t (.sc (.int .i64 n))
noncomputable abbrev bo(b:Bool):AV:= .t (.sc (.bool b))
noncomputable abbrev q6(h:aG):AV:= .agg ((jF h).map AV.t)
noncomputable abbrev sx(c:aJ):AV:= .agg ((zq c).map AV.t)
noncomputable abbrev l4(h:aG):aN:=⟨22,[(jF h).map AV.t]⟩
noncomputable abbrev yd(c:aJ):aN:=⟨6,[(zq c).map AV.t]⟩
noncomputable abbrev hf0:AV:= .fn 48 [] []
noncomputable abbrev hfB(f B:Nat):AV:= .fn f [] [.ptr B 0 0]
noncomputable abbrev oS(B:Nat):List (List AV):=[[tn 0,.agg [hf0,hf0]],[tn 1,.agg [.fn 49 [] [],hfB 52 B]],[tn 2,.agg [hfB 55 B,hfB 58 B]],[tn 3,.agg [.fn 60 [] [],hfB 61 B]]]
noncomputable def fR(ρ:List (Nat×Nat))(k:Nat):Nat:=(lk ρ k).getD k
noncomputable def gR(ρ:List (Nat×Nat))(k:Nat):Nat:=(lk (ρ.map λp=>(p.2,p.1)) k).getD k
noncomputable def dR(ρ:List (Nat×Nat))(k:Nat):Bool:=(ρ.map (·.1)).contains k || !(ρ.map (·.2)).contains k
noncomputable def okR(ρ:List (Nat×Nat)):Bool:=ρ.all λp=>gR ρ (fR ρ p.1)==p.1&&Nat.ble 1000 p.2
theorem lR{α:Type}{l:List (Nat×α)}{k:Nat}(h:k∉l.map (·.1)):lk l k=none:=by
 induction l with
 |nil=>rfl
 |cons p l ih=>
  simp only[bG,aI,not_or]at h;simp only[lk];rw[aP (λ e=>h.1 e.symm)];exact ih h.2
theorem u7(ρ:List (Nat×Nat)){L' L2:ix}(hρ:okR ρ=true)
 (hE:∀p∈L2.env,(lk L'.ok p.1).join=none/\(refs ((lk L'.env p.1).getD .undef)).all (dR ρ)=true/\il (fR ρ) ((lk L'.env p.1).getD .undef)=p.2)
 (hO:∀q∈L2.obj,∀o',q.2=some o'->∃k o,lk L'.obj k=some (some o)/\dR ρ k=true/\fR ρ k=q.1/\o'=CY (fR ρ) o/\(o.rows.all λr=>(dD r).all (dR ρ))=true) (hok:L2.ok=[])
 (h1:(L2.env.all λp=>(refs p.2).all (Nat.blt · 1000000))=true) (h2:(L2.obj.all λq=>Nat.blt q.1 1000000&&((q.2.map λo=>o.rows.all λr=>(dD r).all (Nat.blt · 1000000)).getD true))=true):Gb.Told (L'.st λ_=>none) (L2.st λ_=>none):=by
 have hx:∀j o',(L2.st λ_=>none).obj j=some o'->(j,some o')∈L2.obj:=λj o' hj=>by
  simp only[ix.st]at hj;cases h:lk L2.obj j with
  |none=>rw[h]at hj;cases hj
  |some x=>rw[h]at hj;rw[<- hj];exact pR h
 have hmem:∀k,dR ρ k=true->gR ρ (fR ρ k)=k:=λk hk=>by
  by_cases h:k∈ρ.map (·.1)
  ·obtain⟨p,hp,rfl⟩:=mem_map.1 h;have:=all_eq_true.1 hρ p hp;simp only[aY,beq_iff_eq]at this;exact this.1
  ·have hn:k∉ρ.map (·.2):=λh'=>(by unfold dR at hk;simp only[Bool.or_eq_true,List.contains_iff_mem,Bool.not_eq_true']at hk;rcases hk with hk |hk;exact h hk;rw[List.contains_iff_mem.2 h']at hk;cases hk);have e:fR ρ k=k:=(by unfold fR;rw[lR h];rfl);rw[e];unfold gR;rw[lR (by rw[map_map];exact hn)];rfl
 refine aoF (fR ρ) (gR ρ) (λ k=>dR ρ k=true) hmem (λ j hj=>?_) (λ p hp=>?_) (λ j o' hj=>?_) hok ⟨λ t k hk=>?_,λk o hk=>?_⟩
 ·unfold gR;rw[lR];rfl;intro h;rw[map_map]at h;obtain⟨p,hp,e⟩:=mem_map.1 h;have:=all_eq_true.1 hρ p hp;simp only[aY,Nat.ble_eq]at this;have e:p.2=j:=e;omega
 ·obtain⟨a,b,c⟩:=hE p hp;exact⟨a,λk hk=>all_eq_true.1 b k hk,c⟩
 ·obtain⟨k,o,a,b,c,d,e⟩:=hO _ (hx j o' hj) o' rfl;refine⟨k,o,?_,b,c,d,λr hr q hq=>all_eq_true.1 (all_eq_true.1 e r hr) q hq⟩;simp only[ix.st,a]
 ·simp only[ix.st]at hk;cases h:lk L2.env t with
  |none=>rw[h]at hk;simp[refs]at hk
  |some x=>
   rw[h]at hk;exact Nat.blt_eq.mp (all_eq_true.1 (all_eq_true.1 h1 _ (pR h)) k hk)
 ·have:=all_eq_true.1 h2 _ (hx k o hk);simp only[Option.map_some,Option.getD_some,aY]at this;refine⟨Nat.blt_eq.mp this.1,λr hr x hx j hj=>?_⟩;exact Nat.blt_eq.mp (all_eq_true.1 (all_eq_true.1 this.2 r hr) j (J7 hx j hj))
noncomputable abbrev hcC:Code:=Tryz.f31.body.getD .skip
theorem arI{h:aG}{F:Nat->Option aN}:oV Tryz.prog (iE sU) (cO (cA hcC)) (λ _=>As) F (List.range (cO (cA hcC)).size) ⟨[(0,q6 h)],[],[]⟩=
 some (⟨[(2,.t (.sc (.map none))),(1,.ptr (cC 0) 0 0),(0,q6 h)],[(cC 0,some (l4 h))],[(2,none),(1,none)]⟩,[]):=by kernel_rfl
noncomputable abbrev HH:List (Nat×AV):=[(1,.ptr 1001 0 0)]
noncomputable abbrev HG(h:aG):List (Nat×Option aN):=[(1001,some (l4 h))]
theorem arJ{h:aG}{F:Nat->Option aN}:oV Tryz.prog (iE sU) (cO (cA (cB hcC))) (λ _=>As) F (List.range (cO (cA (cB hcC))).size) ⟨HH,HG h,[]⟩=
 some (⟨(3,hf0)::HH,HG h,[(3,none)]⟩,[]):=by kernel_rfl
noncomputable def ari:Nat->kw
 | 0=>⟨.ext 0,[],[],false⟩
 | 4 | 7 | 11 | 14=>⟨.ext 0,[cC 0],[cC 0],false⟩
 |_=>As
noncomputable abbrev arK(B:Nat):List (Nat×AV):=[(15,.mp (cC 0)),(14,.agg [.fn 60 [] [],hfB 61 B]),(13,hfB 61 B),(12,.agg [hfB 55 B,hfB 58 B]),(11,hfB 58 B),(10,hfB 55 B),(9,.agg [.fn 49 [] [],hfB 52 B]),(8,hfB 52 B),(7,.agg [hf0,hf0]),(6,hf0),(5,hf0),(4,.mp (cC 0)),(3,hf0)]++HH
theorem arL{h:aG}{F:Nat->Option aN}:oV Tryz.prog (iE sU) (cO (cA (cB (cB hcC)))) ari F (List.range (cO (cA (cB (cB hcC)))).size) ⟨(3,hf0)::HH,HG h,[]⟩=
 some (⟨(2,.mp (cC 0))::arK 1001,[(cC 0,some ⟨4,oS 1001⟩),(cC 0,some ⟨3,(oS 1001).take 3⟩),(cC 0,some ⟨2,(oS 1001).take 2⟩),(cC 0,some ⟨1,(oS 1001).take 1⟩),(cC 0,some ⟨0,[]⟩)]++HG h,[2,15,14,13,12,11,10,9,8,7,6,5,4].map λt=>(t,none)⟩,[]):=by kernel_rfl
theorem apK(h:aG):yr Tryz.prog 31 [q6 h] [] [(1000,⟨4,oS 1001⟩),(1001,l4 h)] (.mp 1000):=by
 have hb:Tryz.f31.body=some hcC:=by kernel_rfl
 have hn : (Tryz.f31.name == "runtime.NumGoroutine") = false := by kernel_rfl
 refine aa6 xU func31 hb hn (by show 1<=Tryz.f31.ntmps;decide +kernel) (λ k hk=>by have hk:k∈([]:List Nat):=hk;cases hk) (by simp) (by simp) ?_;show Ev _ _ (Code.seq (cA hcC) (Code.seq (cA (cB hcC)) (Code.seq (cA (cB (cB hcC))) Code.ret))) _ ((⟨[(0,q6 h)],[],[]⟩:ix).st λ_=>none);refine BA (sN (ag:=cO (cA hcC)) (σ2:=(⟨HH,HG h,[]⟩:ix).st λ_=>none) xU (by kernel_rfl) arI trivial ?_ ?_)
 ·refine u7 [(cC 0,1001)] (by kernel_rfl) (λ p hp=>?_) (λ q hq o' ho=>?_) rfl (by kernel_rfl) (by kernel_rfl)
  ·simp only[bC]at hp;subst hp;exact⟨rfl,rfl,rfl⟩
  ·simp only[bC]at hq;subst hq;cases ho;exact⟨cC 0,l4 h,rfl,rfl,rfl,rfl,rfl⟩
 refine BA (sN (ag:=cO (cA (cB hcC))) (σ2:=(⟨(3,hf0)::HH,HG h,[]⟩:ix).st λ_=>none) xU (by kernel_rfl) arJ trivial ?_ ?_)
 ·refine u7 [] (by kernel_rfl) (λ p hp=>?_) (λ q hq o' ho=>?_) rfl (by kernel_rfl) (by kernel_rfl)
  ·simp only[aI,bB,or_false]at hp;rcases hp with rfl |rfl<;>exact⟨rfl,rfl,rfl⟩
  ·simp only[bC]at hq;subst hq;cases ho;exact⟨1001,l4 h,rfl,rfl,rfl,rfl,rfl⟩
 refine BA (sN (ag:=cO (cA (cB (cB hcC)))) (σ2:=(⟨[(2,.mp 1000)],[(1000,some ⟨4,oS 1001⟩),(1001,some (l4 h))],[]⟩:ix).st λ_=>none) xU (by kernel_rfl) arL trivial ?_ (T3 ⟨[.mp 1000],rfl,?_⟩))
 ·refine u7 [(cC 0,1000)] (by kernel_rfl) (λ p hp=>?_) (λ q hq o' ho=>?_) rfl (by kernel_rfl) (by kernel_rfl)
  ·simp only[bC]at hp;subst hp;exact⟨rfl,rfl,rfl⟩
  ·simp only[aI,bB,or_false]at hq;rcases hq with rfl |rfl
   ·cases ho;exact⟨cC 0,⟨4,oS 1001⟩,rfl,rfl,rfl,rfl,rfl⟩
   ·cases ho;exact⟨1001,l4 h,rfl,rfl,rfl,rfl,rfl⟩
 ·intro w0 O0 β I w vs hM hv;obtain⟨vs⟩:=vs
  match vs,hv with
  |[v],hv=>
   refine⟨β,I,?_,λ_ h=>h,hv.1⟩;have e:∀k,((⟨[(2,.mp 1000)],[(1000,some ⟨4,oS 1001⟩),(1001,some (l4 h))],[]⟩:ix).st λ_=>none).obj k=py [(1000,⟨4,oS 1001⟩),(1001,l4 h)] k:=λk=>by
    simp only[ix.st,lk,py];by_cases h1:1000=k
    ·simp only[aU h1]
    ·simp only[aP h1];by_cases h2:1001=k
     ·simp only[aU h2]
     ·simp only[aP h2]
   rw[<- funext e];exact hM
theorem JJ{P:Program}{T:eR}{ag:Array Oper}{df:Nat->kw}{F:Nat->Option aN}:∀(a b:List Nat)(L L1 L2:ix)(o1 o2:List Prop),oV P T ag df F a L=some (L1,o1)->oV P T ag df F b L1=some (L2,o2)->oV P T ag df F (a++b) L=some (L2,o1++o2)
 |[],b,L,L1,L2,o1,o2,h1,h2=>by simp only[oV,bL,Prod.mk.injEq]at h1;obtain⟨rfl,rfl⟩:=h1;exact h2
 |i::a,b,L,L1,L2,o1,o2,h1,h2=>by simp only[oV,ah]at h1;obtain⟨o,e1,out,e2,q,e3,e4⟩:=h1;simp only[bL,Prod.mk.injEq]at e4;obtain⟨rfl,rfl⟩:=e4;have:=JJ a b _ q.1 L2 q.2 o2 e3 h2;simp only[List.cons_append,oV,e1,e2,ai,this,aT]
noncomputable abbrev nf:AV:= .t (.sc .nilFunc)
theorem akb(h:aG):Nz 0 [(1000,⟨4,oS 1001⟩),(1001,l4 h)] (.mp 1000):=by
 refine⟨λ q hq=>?_,by show [1000,1001].Nodup;decide,λq hq r hr k hk=>?_,λk hk=>?_⟩
 ·simp only[aI,bB,or_false]at hq;rcases hq with rfl |rfl<;>exact .inr ⟨Nat.le_of_ble_eq_true rfl,Nat.le_of_ble_eq_true rfl⟩
 ·simp only[aI,bB,or_false]at hq;rcases hq with rfl |rfl
  ·simp only[oS,aI,bB,or_false]at hr;rcases hr with rfl |rfl |rfl |rfl<;>simp[dD,refs]at hk<;>(subst hk;exact .inr ⟨by decide,by decide⟩)
  ·simp only[bC]at hr;subst hr;have hk:k∈([]:List Nat):=hk;cases hk
 ·simp[refs]at hk;subst hk;exact .inr ⟨by decide,by decide⟩
theorem akc{h:aG}{get:Nat->Option aN}:Io get [q6 h] [] [] []:=by refine⟨λ k hk=>(by cases hk),λk hk=>?_,λj hs q o hj=>by simp at hj⟩;have hk:k∈([]:List Nat):=hk;cases hk
theorem akd{B:Nat}{x:Int}(h0:x≠0)(h1:x≠1)(h2:x≠2)(h3:x≠3):xY (.int .i64 x) (oS B)=some none:=by simp[xY,Ny,h0,h1,h2,h3]
def ve:cw xx:=⟨[.d (.sl af),.d af],[.d .bool],λa=>fM n a.1 a.2.1,none⟩
def Ps:Hn SI:=(cy (.s (.s .z (.b (.lx ⟨[(5,.v af),(10,.v af)],[],[1,8,9],[],1320,[]⟩ 0 ⟨[],[],[],[],1320,[]⟩ (cy (.s (.b (.s .z (.s (.s (.j ⟨[(21,.v .bool)],[],[1,7,8,9,10],[],1576,[]⟩ .z) .z) .z))) .z))))) .z))
theorem Bp:aC 21 (ve n) :=cq ay func21 Ps n
def kg:cw xx:=⟨[.d dL],[.d .bool],λa=>qm a.1,none⟩
theorem vg:aC 48 kg :=cq ay func48 .z 0
def Pv:cw xx:=⟨[],[.fresh .str],λ_=>oZ,none⟩
theorem Bq:aC 51 Pv :=cq ay func51 .z 0
def Pw:cw xx:=⟨[.d (.sl .str),.d .str],[.d af],λa=>sw n a.1 a.2.1,none⟩
def Px:Hn SI:=(.s .z (.s (.s .z (.b (.lx ⟨[(8,.v af)],[],[0,1,7],[],1256,[]⟩ 0 ⟨[],[],[],[],1256,[]⟩ .z))) .z))
theorem Py:aC 78 (Pw n) :=cq ay func78 Px n
def JK:cw xx:=⟨[.d (.sl .str),.d .str],[.d .bool],λa=>dZ n a.1 a.2.1,none⟩
theorem jm:aC 50 (JK n) :=cq (ak (Py n) ay) func50 .z n
def oL:cw xx:=⟨[.d dL],[.d .bool],λa=>lZ n a.1,none⟩
theorem FT:aC 49 (oL n) :=cq (ak Bq (ak (jm n) ay)) func49 .z n
def Ad:cw xx:=⟨[.d aV,.ref dL],[.d .bool],λa=>jw a.1 a.2.1,none⟩
theorem Ae:aC 57 Ad :=cq ay func57 .z 0
def KU:cw xx:=⟨[.d (.sl aV),.eE [aV] .bool],[.d af],λa=>uI n a.1 a.2.1,none⟩
def KV:Hn SI:=(.s .z (.s (.s .z (.b (.lx ⟨[(8,.v af)],[],[0,1,7],[],1256,[]⟩ 0 ⟨[],[],[],[],1256,[]⟩ .z))) .z))
theorem KW:aC 91 (KU n) :=cq ay func91 KV n
def FU:cw xx:=⟨[.d (.sl aV),.eE [aV] .bool],[.d .bool],λa=>qo n a.1 a.2.1,none⟩
theorem FV:aC 56 (FU n) :=cq (ak (KW n) ay) func56 .z n
def oM:cw xx:=⟨[.d dL,.ref dx],[.d .bool],λa=>l5 n a.1 a.2.1,none⟩
theorem FW:aC 55 (oM n) :=cq (ak (FV n) (ak Ae ay)) func55 .z n
def oN:cw xx:=⟨[.d dL],[.d .bool],λa=>l6 a.1,none⟩
theorem FX:aC 60 oN :=cq ay func60 .z 0
noncomputable abbrev ma:Code:=Tryz.f25.body.getD .skip
theorem arM{h:aG}{c:aJ}{F:Nat->Option aN}:oV Tryz.prog (iE sU) (cO (cA ma)) (λ _=>As) F (List.range (cO (cA ma)).size) ⟨[(0,q6 h),(1,sx c)],[],[]⟩=
 some (⟨[(4,bo false),(3,.ptr (cC 1) 0 0),(2,.ptr (cC 0) 0 0),(0,q6 h),(1,sx c)],[(cC 1,some (yd c)),(cC 0,some (l4 h))],[(4,none),(3,none),(2,none)]⟩,[]):=by kernel_rfl
noncomputable abbrev P4:List (Nat×AV):=[(2,.ptr 1001 0 0),(3,.ptr 1002 0 0)]
noncomputable abbrev P3(h:aG)(c:aJ):List (Nat×Option aN):=[(1001,some (l4 h)),(1002,some (yd c))]
noncomputable def arj:Nat->kw
 | 0=>yi [1001]
 | 3=>yi [1002]
 | 4=>⟨.ext 0,[cC 1],[],false⟩
 | 9=>arh [cC 8]
 |_=>As
noncomputable def pr(h:aG):Nat->kw:=λi=>if i=1 then⟨.rS [] [] [] [] [(1000,⟨4,oS 1001⟩),(1001,l4 h)] (.mp 1000) false,[],[],false⟩else arj i
noncomputable abbrev yf(h:aG)(c:aJ):List (Nat×Option aN):=[(cC 1,some ⟨4,oS (cC 1+1)⟩),(cC 1+1,some (l4 h))]++P3 h c
noncomputable abbrev ye(h:aG)(c:aJ):List (Nat×AV):=[(11,tn c.ee),(10,.ptr 1002 0 3),(9,.mp (cC 1)),(8,q6 h)]++P4
theorem ark{h:aG}{c:aJ}{F:Nat->Option aN}:oV Tryz.prog (iE sU) (cO (cA (cB ma))) (pr h) F [0,1,2,3] ⟨P4,P3 h c,[]⟩=
 some (⟨ye h c,yf h c,[11,10,9,8].map λt=>(t,none)⟩,[yr Tryz.prog 31 [q6 h] [] [(1000,⟨4,oS 1001⟩),(1001,l4 h)] (.mp 1000),Nz 0 [(1000,⟨4,oS 1001⟩),(1001,l4 h)] (.mp 1000),Io (dI [] ((⟨P4,P3 h c,[]⟩:ix).st F).obj) [q6 h] [] [] []]):=by kernel_rfl
noncomputable abbrev zp:List (Nat×Option Bool):=[(11,none),(10,none),(9,none),(8,none)]
theorem arl{h:aG}{c:aJ}{F:Nat->Option aN}:∃g:Option Out->Option Out,(∀ o,g (some o)=some o)/\Gb.opAt Tryz.prog (iE sU) (cO (cA (cB ma))) (pr h) 4 ((⟨ye h c,yf h c,zp⟩:ix).st F)=
 (g ((xY (.int .i64 c.ee) (oS (cC 1+1))).bind λr=>(xe r (some (.agg [nf,nf]))).bind λv=>pv (.eI [v,bo r.isSome]))).bind λout=>if out.upd.all (λ p=>EA 4 p.1 || [].contains p.1)then some (⟨out.v,out.upd,[]++out.obs⟩,none)else none:=
 ⟨λ X=>X,λ_=>rfl,by kernel_rfl⟩
theorem TJ{h:aG}{c:aJ}{F:Nat->Option aN}{f1 f2:Nat}{c1 c2:List AV}{b:Bool}:oV Tryz.prog (iE sU) (cO (cA (cB ma))) (pr h) F [5,6,7,8,9,10] ⟨(12,.eI [.agg [.fn f1 [] c1,.fn f2 [] c2],bo b])::ye h c,yf h c,(12,none)::zp⟩=
 some (⟨[(6,bo b),(5,.ptr (cC 8) 0 0),(14,bo b),(13,.agg [.fn f1 [] c1,.fn f2 [] c2]),(7,.eI [.agg [.fn f1 [] c1,.fn f2 [] c2],bo b]),(12,.eI [.agg [.fn f1 [] c1,.fn f2 [] c2],bo b])]++ye h c,[(cC 8,some ⟨2,[[.fn f1 [] c1,.fn f2 [] c2]]⟩),(cC 8,some ⟨2,[[nf,nf]]⟩)]++yf h c,[(6,none),(5,none),(14,none),(13,none),(7,none),(12,none)]++zp⟩,[]):=by kernel_rfl
theorem arn{h:aG}{c:aJ}{F:Nat->Option aN}{b:Bool}:oV Tryz.prog (iE sU) (cO (cA (cB ma))) (pr h) F [5,6,7,8,9,10] ⟨(12,.eI [.agg [nf,nf],bo b])::ye h c,yf h c,(12,none)::zp⟩=
 some (⟨[(6,bo b),(5,.ptr (cC 8) 0 0),(14,bo b),(13,.agg [nf,nf]),(7,.eI [.agg [nf,nf],bo b]),(12,.eI [.agg [nf,nf],bo b])]++ye h c,[(cC 8,some ⟨2,[[nf,nf]]⟩),(cC 8,some ⟨2,[[nf,nf]]⟩)]++yf h c,[(6,none),(5,none),(14,none),(13,none),(7,none),(12,none)]++zp⟩,[]):=by kernel_rfl
theorem aro{h:aG}:Ws (cO (cA (cB ma))) (pr h)=true:=by kernel_rfl
theorem arp{h:aG}{c:aJ}{F:Nat->Option aN}{r:Option (Nat×AV)}{v:AV}(hm:xY (.int .i64 c.ee) (oS (cC 1+1))=some r)(hz:xe r (some (.agg [nf,nf]))=some v):
 oV Tryz.prog (iE sU) (cO (cA (cB ma))) (pr h) F [4] ⟨ye h c,yf h c,zp⟩=some (⟨(12,.eI [v,bo r.isSome])::ye h c,yf h c,(12,none)::zp⟩,[]):=by
 obtain⟨g,hg,e⟩:=arl (h:=h) (c:=c) (F:=F);rw[hm]at e;simp only[ai,hz,pv,hg]at e;have e1:(cO (cA (cB ma)))[4]? =some ((cO (cA (cB ma)))[4]!):=by kernel_rfl
 have e2:((cO (cA (cB ma)))[4]!).dst=some 12:=by kernel_rfl
 simp only[oV,e1,ai,e];simp only[ix.app,e2];rfl
noncomputable abbrev UI(b:Bool):List (Nat×AV):=[(2,.ptr 1001 0 0),(3,.ptr 1002 0 0),(5,.ptr 1003 0 0),(6,bo b)]
noncomputable abbrev Y1(h:aG)(c:aJ)(x y:AV):List (Nat×Option aN):=[(1001,some (l4 h)),(1002,some (yd c)),(1003,some ⟨2,[[x,y]]⟩),(1004,some (l4 h))]
noncomputable def Su(h:aG)(a r b:Bool):Nat->kw
 | 3=>yi [1002]
 | 5=>yi [1001]
 | 6=>⟨.num (h.claims.length:Int),[],[],false⟩
 | 7=>⟨.call [] (.one (.d (.s (.sc (.bool a))))) false,[],[],false⟩
 | 11=>yi [1003]
 | 12=>yi [1002]
 | 13=>if b then⟨.call [.row (jF h)] (.one (.d (.s (.sc (.bool r))))) false,[1004],[1004],false⟩else⟨.call [] (.one (.d (.s (.sc (.bool r))))) false,[],[],false⟩
 |_=>As
noncomputable abbrev hfA(h:aG)(c:aJ)(a:Bool):Prop:=sd Tryz.prog 21 [.t (.sl (c.attacks.map λy=>[.sc (.int .i64 y)])),tn (h.claims.length:Int)] (.one (.d (.s (.sc (.bool a)))))
noncomputable abbrev Lq(h:aG):Prop:=(h.claims.length:Int)=((h.claims.map zq).length:Int)
noncomputable abbrev Ys(h:aG)(c:aJ)(a:Bool):List (Nat×AV):=[(23,bo a),(22,bo a),(21,tn (h.claims.length:Int)),(20,.t (.sl (h.claims.map zq))),(19,.ptr 1001 0 21),(18,.t (.sl (c.attacks.map λy=>[.sc (.int .i64 y)]))),(17,.ptr 1002 0 2),(16,bo true),(15,bo true)]
theorem arN{h:aG}{c:aJ}{F:Nat->Option aN}{y:AV}{f:Nat}{r:Bool}:∃E O K,oV Tryz.prog (iE sU) (cO (cA (cB (cB ma)))) (Su h true r true) F (List.range (cO (cA (cB (cB ma)))).size) ⟨UI true,Y1 h c (hfB f 1004) y,[]⟩=
 some (⟨(4,bo r)::E,O,(4,none)::K⟩,[Lq h,hfA h c true,(l4 h).rows[0]? =some ((jF h).map AV.t),sd Tryz.prog f [sx c,.ff (jF h) 0] (.one (.d (.s (.sc (.bool r)))))]):=
 ⟨[(29,bo r),(28,bo r),(27,sx c),(26,hfB f 1004),(25,.ptr 1003 0 0),(24,bo true)]++Ys h c true++UI true,(1004,none)::Y1 h c (hfB f 1004) y,[29,28,27,26,25,24,23,22,21,20,19,18,17,16,15].map λt=>(t,none),by kernel_rfl⟩
theorem an6{h:aG}{c:aJ}{F:Nat->Option aN}{y:AV}{f:Nat}{r:Bool}:∃E O K,oV Tryz.prog (iE sU) (cO (cA (cB (cB ma)))) (Su h true r false) F (List.range (cO (cA (cB (cB ma)))).size) ⟨UI true,Y1 h c (.fn f [] []) y,[]⟩=
 some (⟨(4,bo r)::E,O,(4,none)::K⟩,[Lq h,hfA h c true,sd Tryz.prog f [sx c] (.one (.d (.s (.sc (.bool r)))))]):=
 ⟨[(29,bo r),(28,bo r),(27,sx c),(26,.fn f [] []),(25,.ptr 1003 0 0),(24,bo true)]++Ys h c true++UI true,Y1 h c (.fn f [] []) y,[29,28,27,26,25,24,23,22,21,20,19,18,17,16,15].map λt=>(t,none),by kernel_rfl⟩
theorem Ss{h:aG}{c:aJ}{F:Nat->Option aN}{x y:AV}:∃E O K,oV Tryz.prog (iE sU) (cO (cA (cB (cB ma)))) (Su h false false false) F (List.range (cO (cA (cB (cB ma)))).size) ⟨UI true,Y1 h c x y,[]⟩=
 some (⟨(4,bo false)::E,O,(4,none)::K⟩,[Lq h,hfA h c false,false=true->false=true]):=
 ⟨[(29,bo false),(28,.undef),(27,.undef),(26,.undef),(25,.undef),(24,bo false)]++Ys h c false++UI true,Y1 h c x y,[(29,none),(28,some false),(27,some false),(26,some false),(25,some false),(24,none),(23,none),(22,none),(21,none),(20,none),(19,none),(18,none),(17,none),(16,none),(15,none)],by kernel_rfl⟩
theorem arq{h:aG}{c:aJ}{F:Nat->Option aN}:∃E O K,oV Tryz.prog (iE sU) (cO (cA (cB (cB ma)))) (Su h false false false) F (List.range (cO (cA (cB (cB ma)))).size) ⟨UI false,Y1 h c nf nf,[]⟩=
 some (⟨(4,bo false)::E,O,(4,none)::K⟩,[false=true->false=true,false=true->false=true]):=
 ⟨[(29,bo false),(28,.undef),(27,.undef),(26,.undef),(25,.undef),(24,bo false),(23,bo false),(22,.undef),(21,.undef),(20,.undef),(19,.undef),(18,.undef),(17,.undef),(16,bo false),(15,bo false)]++UI false,Y1 h c nf nf,[(29,none),(28,some false),(27,some false),(26,some false),(25,some false),(24,none),(23,none),(22,some false),(21,some false),(20,some false),(19,some false),(18,some false),(17,some false),(16,none),(15,none)],by kernel_rfl⟩
theorem Pz{Q:Exit->St->Prop}{h:aG}{c:aJ}{r:Option (Nat×AV)}{x y x' y':AV}(hm:xY (.int .i64 c.ee) (oS (cC 1+1))=some r)(hz:xe r (some (.agg [nf,nf]))=some (.agg [x,y]))
 (hr:oV Tryz.prog (iE sU) (cO (cA (cB ma))) (pr h) (λ _=>none) [5,6,7,8,9,10] ⟨(12,.eI [.agg [x,y],bo r.isSome])::ye h c,yf h c,(12,none)::zp⟩=
  some (⟨[(6,bo r.isSome),(5,.ptr (cC 8) 0 0),(14,bo r.isSome),(13,.agg [x,y]),(7,.eI [.agg [x,y],bo r.isSome]),(12,.eI [.agg [x,y],bo r.isSome])]++ye h c,[(cC 8,some ⟨2,[[x,y]]⟩),(cC 8,some ⟨2,[[nf,nf]]⟩)]++yf h c,[(6,none),(5,none),(14,none),(13,none),(7,none),(12,none)]++zp⟩,[]))
 (hx:∀z∈[(x,x'),(y,y')],il (fR [(cC 8,1003),(cC 1+1,1004)]) z.1=z.2/\(refs z.1).all (dR [(cC 8,1003),(cC 1+1,1004)])=true/\(refs z.2).all (Nat.blt · 1000000)=true)
 (hq:Ev Tryz.prog Tryz.f25.ntmps (.seq (cA (cB (cB ma))) .ret) Q ((⟨UI r.isSome,Y1 h c x' y',[]⟩:ix).st λ_=>none)):
 Ev Tryz.prog Tryz.f25.ntmps ma Q ((⟨[(0,q6 h),(1,sx c)],[],[]⟩:ix).st λ_=>none):=by
 show Ev _ _ (Code.seq (cA ma) (Code.seq (cA (cB ma)) (Code.seq (cA (cB (cB ma))) Code.ret))) _ _;refine BA (sN (ag:=cO (cA ma)) (σ2:=(⟨P4,P3 h c,[]⟩:ix).st λ_=>none) xU (by kernel_rfl) arM trivial ?_ ?_)
 ·refine u7 [(cC 0,1001),(cC 1,1002)] (by kernel_rfl) (λ p hp=>?_) (λ q hq o' ho=>?_) rfl (by kernel_rfl) (by kernel_rfl)
  ·simp only[aI,bB,or_false]at hp;rcases hp with rfl |rfl<;>exact⟨rfl,rfl,rfl⟩
  ·simp only[aI,bB,or_false]at hq;rcases hq with rfl |rfl
   ·cases ho;exact⟨cC 0,l4 h,rfl,rfl,rfl,rfl,rfl⟩
   ·cases ho;exact⟨cC 1,yd c,rfl,rfl,rfl,rfl,rfl⟩
 have hrun:=JJ [0,1,2,3] ([4]++[5,6,7,8,9,10]) _ _ _ _ _ ark (JJ [4] [5,6,7,8,9,10] _ _ _ _ _ (arp hm hz) hr);refine BA (Xy (ag:=cO (cA (cB ma))) (σ2:=(⟨UI r.isSome,Y1 h c x' y',[]⟩:ix).st λ_=>none) xU mixed (by kernel_rfl) aro hrun ?_ ?_ hq)
 ·exact⟨apK h,akb h,akc⟩
 ·obtain⟨a1,a2,a3⟩:=hx (x,x') (by simp);obtain⟨b1,b2,b3⟩:=hx (y,y') (by simp);refine u7 [(cC 8,1003),(cC 1+1,1004)] (by kernel_rfl) (λ p hp=>?_) (λ q hq o' ho=>?_) rfl (by cases r<;>rfl) ?_
  ·simp only[aI,bB,or_false]at hp;rcases hp with rfl |rfl |rfl |rfl<;>exact⟨rfl,rfl,rfl⟩
  ·simp only[aI,bB,or_false]at hq;rcases hq with rfl |rfl |rfl |rfl
   ·cases ho;exact⟨1001,l4 h,rfl,rfl,rfl,rfl,rfl⟩
   ·cases ho;exact⟨1002,yd c,rfl,rfl,rfl,rfl,rfl⟩
   ·cases ho;refine⟨cC 8,⟨2,[[x,y]]⟩,rfl,rfl,rfl,?_,?_⟩
    ·simp only[CY,bG,List.map_nil,vN];rw[a1,b1]
    ·simp only[all_cons,List.all_nil,dD,List.append_nil,List.all_append];rw[a2,b2];rfl
   ·cases ho;exact⟨cC 1+1,l4 h,rfl,rfl,rfl,rfl,rfl⟩
  ·have e:(Nat.blt 1003 1000000&&((some (⟨2,[[x',y']]⟩:aN)).map λo=>o.rows.all λr=>(dD r).all (Nat.blt · 1000000)).getD true)=true:=(by simp only[Option.map_some,Option.getD_some,all_cons,List.all_nil,dD,List.append_nil,List.all_append];rw[a3,b3];rfl);simp only[Y1,all_cons,List.all_nil,e,Bool.and_true];rfl
theorem FY{S:List (Nat×Option aN)}{b r:Bool}{obs:List Prop}{df:Nat->kw}{E:List (Nat×AV)}{O:List (Nat×Option aN)}{K:List (Nat×Option Bool)}
 (hr:oV Tryz.prog (iE sU) (cO (cA (cB (cB ma)))) df (λ _=>none) (List.range (cO (cA (cB (cB ma)))).size) ⟨UI b,S,[]⟩=some (⟨(4,bo r)::E,O,(4,none)::K⟩,obs)) (ho:iT obs):
 Ev Tryz.prog Tryz.f25.ntmps (.seq (cA (cB (cB ma))) .ret) (N1 (iE sU) Tryz.f25.results.toList (.one (.d (.s (.sc (.bool r))))) []) ((⟨UI b,S,[]⟩:ix).st λ_=>none):=by refine BA (sN (ag:=cO (cA (cB (cB ma)))) (σ2:=(⟨[(4,bo r)],[],[]⟩:ix).st λ_=>none) xU (by kernel_rfl) hr ho ?_ (T3 ⟨[bo r],none,rfl,rfl,λj p hj=>by simp at hj⟩));refine u7 [] (by kernel_rfl) (λ p hp=>?_) (λ q hq=>by cases hq) rfl rfl rfl;simp only[bC]at hp;subst hp;exact⟨rfl,rfl,rfl⟩
noncomputable def D5(n:Nat):cw xx:=⟨[.d dx,.d dL],[.d .bool],λa=>kI n a.1 a.2.1,none⟩
theorem BT(h:aG):Lq h:=by simp[Lq]
theorem an7(ka:aC 21 (ve n))(k1:aC 48 kg)(k2:aC 49 (oL n))(k4:aC 55 (oM n))(k6:aC 60 oN)(h:aG)(c:aJ)(r:Bool)(e:kI n h c=some r):ra Tryz.prog 25 [q6 h,sx c] [] [] (.one (.d (.s (.sc (.bool r))))):=by
 have hb:Tryz.f25.body=some ma:=by kernel_rfl
 have hn : (Tryz.f25.name == "runtime.NumGoroutine") = false := by kernel_rfl
 refine Qu (args:=[q6 h,sx c]) (os:=[]) (os':=[]) xU func25 hb hn (by show 2<=Tryz.f25.ntmps;decide +kernel) (λ k hk=>by have hk:k∈([]:List Nat):=hk;cases hk) (by simp) rfl ?_;show Ev _ _ ma (N1 (iE sU) Tryz.f25.results.toList (.one (.d (.s (.sc (.bool r))))) []) ((⟨[(0,q6 h),(1,sx c)],[],[]⟩:ix).st λ_=>none);unfold kI at e;have fa:∀{a:Bool},fM n c.attacks (h.claims.length:Int)=some a->hfA h c a:=λ{a} ha=>oO (ka.2.1 (c.attacks,(h.claims.length:Int),()) a ha);have sp:∀{X:Option Bool},((fM n c.attacks (h.claims.length:Int)).bind λa=>bif a then X else some false)=some r->(hfA h c true/\X=some r)\/(hfA h c false/\r=false):=λ{X} hx=>by
  rw[ah]at hx;obtain⟨a,ha,hx⟩:=hx;cases a with
  |true=>exact .inl ⟨fa ha,hx⟩
  |false=>injection hx with hx;exact .inr ⟨fa ha,hx.symm⟩
 by_cases h0:c.ee=0
 ·rw[h0]at e;rcases sp e with ⟨g1,g2⟩ |⟨g1,rfl⟩
  ·have f:=oO (k1.2.1 (c,()) r g2);obtain⟨E,O,K,hr⟩:=an6 (h:=h) (c:=c) (F:=λ_=>none) (y:=hf0) (f:=48) (r:=r);exact Pz (r:=some (0,.agg [hf0,hf0])) (by rw[h0];rfl) rfl TJ (λ z hz=>by simp only[aI,bB,or_false]at hz;rcases hz with rfl |rfl<;>exact⟨rfl,rfl,rfl⟩) (FY hr ⟨BT h,g1,f⟩)
  ·obtain⟨E,O,K,hr⟩:=Ss (h:=h) (c:=c) (F:=λ_=>none) (x:=hf0) (y:=hf0);exact Pz (r:=some (0,.agg [hf0,hf0])) (by rw[h0];rfl) rfl TJ (λ z hz=>by simp only[aI,bB,or_false]at hz;rcases hz with rfl |rfl<;>exact⟨rfl,rfl,rfl⟩) (FY hr ⟨BT h,g1,λe=>e⟩)
 by_cases h1:c.ee=1
 ·rw[h1]at e;rcases sp e with ⟨g1,g2⟩ |⟨g1,rfl⟩
  ·have f:=oO (k2.2.1 (c,()) r g2);obtain⟨E,O,K,hr⟩:=an6 (h:=h) (c:=c) (F:=λ_=>none) (y:=hfB 52 1004) (f:=49) (r:=r);exact Pz (r:=some (1,.agg [.fn 49 [] [],hfB 52 (cC 1+1)])) (by rw[h1];rfl) rfl TJ (λ z hz=>by simp only[aI,bB,or_false]at hz;rcases hz with rfl |rfl<;>exact⟨rfl,rfl,rfl⟩) (FY hr ⟨BT h,g1,f⟩)
  ·obtain⟨E,O,K,hr⟩:=Ss (h:=h) (c:=c) (F:=λ_=>none) (x:= .fn 49 [] []) (y:=hfB 52 1004);exact Pz (r:=some (1,.agg [.fn 49 [] [],hfB 52 (cC 1+1)])) (by rw[h1];rfl) rfl TJ (λ z hz=>by simp only[aI,bB,or_false]at hz;rcases hz with rfl |rfl<;>exact⟨rfl,rfl,rfl⟩) (FY hr ⟨BT h,g1,λe=>e⟩)
 by_cases h2:c.ee=2
 ·rw[h2]at e;rcases sp e with ⟨g1,g2⟩ |⟨g1,rfl⟩
  ·have f:=oO (k4.2.1 (c,h,()) r g2);obtain⟨E,O,K,hr⟩:=arN (h:=h) (c:=c) (F:=λ_=>none) (y:=hfB 58 1004) (f:=55) (r:=r);exact Pz (r:=some (2,.agg [hfB 55 (cC 1+1),hfB 58 (cC 1+1)])) (by rw[h2];rfl) rfl TJ (λ z hz=>by simp only[aI,bB,or_false]at hz;rcases hz with rfl |rfl<;>exact⟨rfl,rfl,rfl⟩) (FY hr ⟨BT h,g1,rfl,f⟩)
  ·obtain⟨E,O,K,hr⟩:=Ss (h:=h) (c:=c) (F:=λ_=>none) (x:=hfB 55 1004) (y:=hfB 58 1004);exact Pz (r:=some (2,.agg [hfB 55 (cC 1+1),hfB 58 (cC 1+1)])) (by rw[h2];rfl) rfl TJ (λ z hz=>by simp only[aI,bB,or_false]at hz;rcases hz with rfl |rfl<;>exact⟨rfl,rfl,rfl⟩) (FY hr ⟨BT h,g1,λe=>e⟩)
 by_cases h3:c.ee=3
 ·rw[h3]at e;rcases sp e with ⟨g1,g2⟩ |⟨g1,rfl⟩
  ·have f:=oO (k6.2.1 (c,()) r g2);obtain⟨E,O,K,hr⟩:=an6 (h:=h) (c:=c) (F:=λ_=>none) (y:=hfB 61 1004) (f:=60) (r:=r);exact Pz (r:=some (3,.agg [.fn 60 [] [],hfB 61 (cC 1+1)])) (by rw[h3];rfl) rfl TJ (λ z hz=>by simp only[aI,bB,or_false]at hz;rcases hz with rfl |rfl<;>exact⟨rfl,rfl,rfl⟩) (FY hr ⟨BT h,g1,f⟩)
  ·obtain⟨E,O,K,hr⟩:=Ss (h:=h) (c:=c) (F:=λ_=>none) (x:= .fn 60 [] []) (y:=hfB 61 1004);exact Pz (r:=some (3,.agg [.fn 60 [] [],hfB 61 (cC 1+1)])) (by rw[h3];rfl) rfl TJ (λ z hz=>by simp only[aI,bB,or_false]at hz;rcases hz with rfl |rfl<;>exact⟨rfl,rfl,rfl⟩) (FY hr ⟨BT h,g1,λe=>e⟩)
 ·have er:r=false:=by rw[show (c.ee==0)=false by simpa using h0,show(c.ee==1)=false by simpa using h1,show(c.ee==2)=false by simpa using h2,show(c.ee==3)=false by simpa using h3]at e;injection e with e;exact e.symm
  subst er;obtain⟨E,O,K,hr⟩:=arq (h:=h) (c:=c) (F:=λ_=>none);exact Pz (r:=none) (akd h0 h1 h2 h3) rfl arn (λ z hz=>by simp only[aI,bB,or_false]at hz;rcases hz with rfl |rfl<;>exact⟨rfl,rfl,rfl⟩) (FY hr ⟨λ e=>e,λe=>e⟩)
theorem RI(ka:aC 21 (ve n))(k1:aC 48 kg)(k2:aC 49 (oL n))(k4:aC 55 (oM n))(k6:aC 60 oN):aC 25 (D5 n):=
 ws (qh (c:=ma) func25 (by kernel_rfl) (by kernel_rfl)) (λ a r e=>an7 n ka k1 k2 k4 k6 a.1 a.2.1 r e) rfl
theorem D6:aC 25 (D5 n):=RI n (Bp n) vg (FT n) (FW n) FX
def PD:cw xx:=⟨[.d eT,.d af,.d af],[.fresh aD],λa=>o6 n a.1 a.2.1 a.2.2.1,none⟩
def PE:Hn SI:=(cy (.s (.s .z (.b (.l ⟨[(7,.o 1448),(13,.v af)],[(1448,.l aD)],[1,2,11,12],[],1449,[(7,aD)]⟩ 0 ⟨[(7,.o 1448)],[(1448,.l aD)],[],[],1449,[]⟩ (cy (.s (.j ⟨[(7,.o 1513)],[(1513,.l aD)],[1,2,11,12,13],[],1514,[]⟩ (.b (.s .z (.s (.j ⟨[(25,.v .bool)],[],[1,2,7,9,11,12,13],[1448,1705],1897,[]⟩ .z) .z)))) .z))))) .z))
theorem Br:aC 81 (PD n) :=cq ay func81 PE n
def GD:cw xx:=⟨[.d aD],[.d .bool],λa=>fU a.1,none⟩
def GH:Hn SI:=(cy (.s (.s (.j ⟨[(26,.v .bool)],[],[1],[1000],1384,[]⟩ .z) .z) (.s (.s (.j ⟨[(34,.v .bool)],[],[1],[1000],1384,[]⟩ .z) .z) .z)))
theorem kZ:aC 82 GD :=cq (ak qY ay) func82 GH 0
def agF:cw xx:=⟨[.d aA],[.d aA,.d .bool],λa=>yV a.1,none⟩
theorem TK:aC 199 agF :=cq (ak qY ay) func199 .z 0
def an8:cw xx:=⟨[.d aA],[.d af],λa=>zA a.1,none⟩
theorem JL:aC 163 an8 :=cq (ak TK ay) func163 .z 0
def alJ:cw xx:=⟨[.d (.sl aA)],[.d af],λa=>OL n a.1,none⟩
def alK:Hn SI:=(jj (.s (.s .z (.b (.l ⟨[(3,.v af),(11,.v af)],[],[9,10],[],1512,[]⟩ 0 ⟨[(3,.v af)],[],[],[],1512,[]⟩ .z))) .z))
theorem acd:aC 116 (alJ n) :=cq (ak (oK n) (ak JL ay)) func116 alK n
def M4:cw xx:=⟨[.mut aA,.eE [aA,aA] af],[.mu aA],λa=>vZ n a.1 a.2.1,none⟩
theorem M5:aC 117 (M4 n):=by have hcall:eF Tryz.prog 117:=⟨_,func117,by kernel_rfl,by kernel_rfl⟩;refine ws hcall (λ a r h=>?_) rfl;obtain⟨l,φ,⟨⟩⟩:=a;refine QU (X:=xx) (i:=SI.np) (hI:=(inferInstance:Inhabited ax)) Tryz.so117 rfl hcall Tryz.underlying95 (by kernel_rfl) (λ x t ht=>?_) h;cases x;have ht:t∈[_,_,_,_]:=ht;simp only[aI,bB,or_false]at ht;rcases ht with rfl |rfl |rfl |rfl<;>exact⟨_,rfl,trivial⟩
def D7:cw xx:=⟨[.d aA,.d aA],[.d af],λa=>iO a.1 a.2.1,none⟩
theorem D8:aC 118 D7 :=cq (ak qb ay) func118 .z 0
def PG:cw xx:=⟨[.d aD],[.d af],λa=>lH a.1,none⟩
def PI:Hn SI:=(.s .z (.s (.s (.j ⟨[(9,.v .bool)],[],[1],[1000],1128,[]⟩ .z) .z) .z))
theorem Bt:aC 123 PG :=cq (ak kZ ay) func123 PI 0
def UJ:cw xx:=⟨[.d aD],[.d af],λa=>pJ a.1,none⟩
theorem Gq:aC 121 UJ :=cq (ak kZ (ak JL (ak Bt ay))) func121 .z 0
def Ca:cw xx:=⟨[.d aD],[.d af],λa=>ow a.1,none⟩
theorem Cb:aC 124 Ca :=cq ay func124 .z 0
def D9:cw xx:=⟨[.d aD],[.d af],λa=>pV a.1,none⟩
theorem Ea:aC 125 D9 :=cq ay func125 .z 0
def UK:cw xx:=⟨[.d aA,.d af],[.d aA,.d .bool],λa=>BP a.1 a.2.1,none⟩
theorem UL:aC 165 UK :=cq (ak qY ay) func165 .z 0
def aau:cw xx:=⟨[.d aA,.d aA],[.d aA,.d .bool],λa=>tH a.1 a.2.1,none⟩
def aav:Hn SI:=(.s .z (.s (.s (.j ⟨[(13,.v .bool)],[],[2,3,4],[1000,1064,1128],1256,[]⟩ .z) .z) .z))
theorem Cc:aC 166 aau :=cq (ak qY (ak TK ay)) func166 aav 0
def RJ:cw xx:=⟨[.d gL,.ref (.st SI.oy),.ref af],[.d .bool],λa=>kJ a.1 a.2.1 a.2.2.1,none⟩
theorem RL:aC 208 RJ :=cq ay func208 .z 0
def aaw:cw xx:=⟨[.d gI,.d af],[.d af],λa=>AU n a.1 a.2.1,none⟩
def aax:Hn SI:=(cy (.s (.s .z (.b (.lx ⟨[(14,.v af)],[],[3,5,12,13],[1064,1256],1640,[]⟩ 0 ⟨[],[],[],[],1640,[]⟩ (cy (.s (.b (jj (.s (.j ⟨[(8,.v af)],[],[],[],2344,[]⟩ .z) .z))) .z))))) .z))
theorem aay:aC 167 (aaw n) :=cq (ak (qC n) (ak RL ay)) func167 aax n
def PK:cw xx:=⟨[.d gI,.d aD],[.d af],λa=>jG n a.1 a.2.1,none⟩
def PL:Hn SI:=(cy (.s (.s (.j ⟨[(20,.v .bool)],[],[5,6],[],1704,[]⟩ .z) .z) .z))
theorem PN:aC 128 (PK n) :=cq (ak (aay n) (ak Gq ay)) func128 PL n
def GJ:ea xx:=⟨[.p 0],[(0,gh),(1,.l aD)],[.v af],[(0,gh),(1,.l aD)],λv=>nI n v.1 v.2.1 v.2.2.1 v.2.2.2.1 v.2.2.2.2.1 v.2.2.2.2.2.1 v.2.2.2.2.2.2.1 v.2.2.2.2.2.2.2.1 v.2.2.2.2.2.2.2.2.1 v.2.2.2.2.2.2.2.2.2⟩
def GK:cw xx:=⟨[],[.d .bool],λ_=>none,some (GJ n)⟩
theorem GL:aC 83 (GK n) :=pD (ak (acd n) ay) func83 .z n (by kernel_rfl) λ_=>by kernel_rfl
def Eb:ea xx:=⟨[.p 0],[(0,gh),(1,.l aD)],[.v af],[(0,gh),(1,.l aD)],λv=>iP n v.1 v.2.1 v.2.2.1 v.2.2.2.1 v.2.2.2.2.1 v.2.2.2.2.2.1 v.2.2.2.2.2.2.1 v.2.2.2.2.2.2.2.1 v.2.2.2.2.2.2.2.2.1 v.2.2.2.2.2.2.2.2.2⟩
def Ec:cw xx:=⟨[],[.d .bool],λ_=>none,some (Eb n)⟩
def Ed:Hn SI:=(jj (.s (.s .z (.b (.l ⟨[(3,.o 1960),(23,.v af)],[(1448,.l aA),(1960,.l af)],[4,21,22],[0,1],1961,[(3,af)]⟩ 0 ⟨[(3,.o 1960)],[(1448,.l aA),(1960,.l af)],[4],[0,1],1961,[]⟩ .z))) (jj (.s (.s .z (.b (.l ⟨[(7,.v af),(56,.v af)],[],[3,4,55],[0,1,1448,1960],2601,[]⟩ 2 ⟨[(7,.v af)],[],[],[0,1],2601,[]⟩ (cy (.s (.b (jj (.b (.l ⟨[(7,.v af),(9,.v af),(61,.v af)],[],[3,4,8,55,56,59,60],[0,1,1448,1960],3049,[]⟩ 4 ⟨[(7,.v af)],[],[3,4,55,56],[0,1,1448,1960],3049,[]⟩ (cy (.s (.j ⟨[(7,.v af),(9,.v af)],[],[3,4,8,55,56,59,60,61],[0,1,1448,1960],3113,[]⟩ (.b (.s .z (.s (.j ⟨[(86,.v .bool)],[],[3,4,7,8,9,11,55,56,59,60,61],[0,1,1448,1960,3241],3369,[]⟩ .z) .z)))) .z)))))) .z))))) .z))))
theorem Ee:aC 84 (Ec n) :=pD (ak (M5 n) (ak D8 (ak (pO n) ay))) func84 Ed n (by kernel_rfl) λ_=>by kernel_rfl
def GN:ea xx:=⟨[.p 0,(.f 121 [] [])],[(0,gh),(1,.l aD)],[.v af],[(0,gh),(1,.l aD)],λv=>rq n v.1 v.2.1 v.2.2.1 v.2.2.2.1 v.2.2.2.2.1 v.2.2.2.2.2.1 v.2.2.2.2.2.2.1 v.2.2.2.2.2.2.2.1 v.2.2.2.2.2.2.2.2.1 v.2.2.2.2.2.2.2.2.2⟩
def GQ:cw xx:=⟨[],[.d .bool],λ_=>none,some (GN n)⟩
def GR:Hn SI:=(cy (.s (.s .z (.b (.l ⟨[(5,.v af),(13,.v af)],[],[1,11,12],[0,1],1512,[]⟩ 0 ⟨[(5,.v af)],[],[],[0,1],1512,[]⟩ .z))) .z))
theorem GU:aC 120 (GQ n) :=pD (ak Gq ay) func120 GR n (by kernel_rfl) λ_=>by kernel_rfl
def Ef:ea xx:=⟨[.p 0],[(0,gh),(1,.l aD)],[.v af],[(0,gh),(1,.l aD)],λv=>kT n v.1 v.2.1 v.2.2.1 v.2.2.2.1 v.2.2.2.2.1 v.2.2.2.2.2.1 v.2.2.2.2.2.2.1 v.2.2.2.2.2.2.2.1 v.2.2.2.2.2.2.2.2.1 v.2.2.2.2.2.2.2.2.2⟩
def Eg:cw xx:=⟨[],[.d .bool],λ_=>none,some (Ef n)⟩
theorem Eh:aC 85 (Eg n) :=pD (ak (GU n) ay) func85 .z n (by kernel_rfl) λ_=>by kernel_rfl
def zM:ea xx:=⟨[.p 0,(.f 123 [] [])],[(0,gh),(1,.l aD)],[.v af],[(0,gh),(1,.l aD)],λv=>nk n v.1 v.2.1 v.2.2.1 v.2.2.2.1 v.2.2.2.2.1 v.2.2.2.2.2.1 v.2.2.2.2.2.2.1 v.2.2.2.2.2.2.2.1 v.2.2.2.2.2.2.2.2.1 v.2.2.2.2.2.2.2.2.2⟩
def zN:cw xx:=⟨[],[.d .bool],λ_=>none,some (zM n)⟩
def zO:Hn SI:=(cy (.s (.s .z (.b (.l ⟨[(5,.v af),(13,.v af)],[],[1,11,12],[0,1],1512,[]⟩ 0 ⟨[(5,.v af)],[],[],[0,1],1512,[]⟩ .z))) .z))
theorem zP:aC 122 (zN n) :=pD (ak Bt ay) func122 zO n (by kernel_rfl) λ_=>by kernel_rfl
def Ce:ea xx:=⟨[.p 0],[(0,gh),(1,.l aD)],[.v af],[(0,gh),(1,.l aD)],λv=>jR n v.1 v.2.1 v.2.2.1 v.2.2.2.1 v.2.2.2.2.1 v.2.2.2.2.2.1 v.2.2.2.2.2.2.1 v.2.2.2.2.2.2.2.1 v.2.2.2.2.2.2.2.2.1 v.2.2.2.2.2.2.2.2.2⟩
def Cf:cw xx:=⟨[],[.d .bool],λ_=>none,some (Ce n)⟩
theorem Cg:aC 86 (Cf n) :=pD (ak (zP n) ay) func86 .z n (by kernel_rfl) λ_=>by kernel_rfl
def zQ:ea xx:=⟨[.p 0,(.f 124 [] [])],[(0,gh),(1,.l aD)],[.v af],[(0,gh),(1,.l aD)],λv=>nu n v.1 v.2.1 v.2.2.1 v.2.2.2.1 v.2.2.2.2.1 v.2.2.2.2.2.1 v.2.2.2.2.2.2.1 v.2.2.2.2.2.2.2.1 v.2.2.2.2.2.2.2.2.1 v.2.2.2.2.2.2.2.2.2⟩
def zR:cw xx:=⟨[],[.d .bool],λ_=>none,some (zQ n)⟩
def zS:Hn SI:=(cy (.s (.s .z (.b (.l ⟨[(5,.v af),(13,.v af)],[],[1,11,12],[0,1],1512,[]⟩ 0 ⟨[(5,.v af)],[],[],[0,1],1512,[]⟩ .z))) .z))
theorem zT:aC 122 (zR n) :=pD (ak Cb ay) func122 zS n (by kernel_rfl) λ_=>by kernel_rfl
def Ch:ea xx:=⟨[.p 0],[(0,gh),(1,.l aD)],[.v af],[(0,gh),(1,.l aD)],λv=>jS n v.1 v.2.1 v.2.2.1 v.2.2.2.1 v.2.2.2.2.1 v.2.2.2.2.2.1 v.2.2.2.2.2.2.1 v.2.2.2.2.2.2.2.1 v.2.2.2.2.2.2.2.2.1 v.2.2.2.2.2.2.2.2.2⟩
def Ci:cw xx:=⟨[],[.d .bool],λ_=>none,some (Ch n)⟩
end
end Go.Proofs
