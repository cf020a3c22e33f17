import Derived.Test.YtnclkjejgffdmacGreatS2
open List (mem_map all_eq_true map_map all_cons)
namespace Go.Proofs
open Go.Gb Go.RowKit
abbrev gd:OP SI:=.c 10 [[.v (.sl bA),.v (.sl aY),.v (.sl bD),.v (.sl aW),.v (.sl bG),.v (.sl bE),.v (.sl aX),.v af,.v (.sl aA),.o 1]]
abbrev sy:OP SI:=.c 1 [[.o 1]]
abbrev tt:OP SI:=.c 2 [[.v (.sl bA),.v (.sl (.sl af))]]
abbrev we:OP SI:=.c 10 [[.v (.sl bA),.v (.sl aY),.v (.sl bD),.v (.sl aW),.v (.sl bG),.v (.sl bE),.v (.sl aX),.v af,.v (.sl aA),.o 2]]
abbrev xn:OP SI:=.c 2 [[.v af,.v af]]
abbrev z7:OP SI:=.c 1 [[.o 1384]]
abbrev De:OP SI:=.c 4 [[.v af,.v af,.v af,.v af]]
abbrev Kf:OP SI:=.c 10 [[.v (.sl bA),.v (.sl aY),.v (.sl bD),.v (.sl aW),.v (.sl bG),.v (.sl bE),.v (.sl aX),.v af,.v (.sl aA),.o 1960]]
abbrev Kd:OP SI:=.c 6 [[.v af,.v af,.o 3433,.v af,.v .str,.v af]]
abbrev cx(a:Hn SI):Hn SI:=.s .z (.s .z a)
abbrev iu(a:Hn SI):Hn SI:=.s .z (.s .z (.s .z a))
abbrev wg(a:Hn SI):Hn SI:=.s .z (.s .z (.s .z (.s .z a)))
abbrev An(a:Hn SI):Hn SI:=.s .z (.s .z (.s .z (.s .z (.s .z a))))
abbrev W5(a:Hn SI):Hn SI:=.s .z (.s .z (.s .z (.s .z (.s .z (.s .z a)))))
open Tryz
noncomputable section
variable (n:Nat)
def aaN:cy xx:=⟨[.d af,.d af],[.d dF],λa=>ug a.1 a.2.1,none⟩
theorem aaO:aD 12 aaN:=cq ay func12 .z 0
def JR:cy xx:=⟨[.d (.sl aY),.eC [aY] .bool],[.d af],λa=>oK n a.1 a.2.1,none⟩
def JS:Hn SI:=(.s .z (.s (.s .z (.b (.lx ⟨[(8,.v af)],[],[0,1,7],[],1256,[]⟩ 0 ⟨[],[],[],[],1256,[]⟩ .z))) .z))
theorem yu:aD 65 (JR n):=cq ay func65 JS n
def agZ:cy xx:=⟨[.d aY],[.d .bool],λa=>aci a.1,none⟩
theorem ag0:aD 66 agZ:=cq ay func66 .z 0
def ag1:cy xx:=⟨[.d gX,.ref .str],[.d .bool],λa=>acj a.1 a.2.1,none⟩
theorem ag2:aD 68 ag1:=cq ay func68 .z 0
def JU:cy xx:=⟨[.d (.sl gX),.eC [gX] .bool],[.d af],λa=>jd n a.1 a.2.1,none⟩
def JV:Hn SI:=(.s .z (.s (.s .z (.b (.lx ⟨[(8,.v af)],[],[0,1,7],[],1256,[]⟩ 0 ⟨[],[],[],[],1256,[]⟩ .z))) .z))
theorem qQ:aD 67 (JU n):=cq ay func67 JV n
def aoC:cy xx:=⟨[.d gT,.d .str],[.d af],λa=>Rj n a.1 a.2.1,none⟩
theorem ag3:aD 42 (aoC n):=cq (ak (yu n) (ak ag0 (ak (qQ n) (ak ag2 ay)))) func42 .z n
def al6:cy xx:=⟨[.d gT],[.d af],λa=>Fx n a.1,none⟩
theorem acN:aD 25 (al6 n):=cq (ak (ag3 n) ay) func25 .z n
def UI:cy xx:=⟨[.d (.sl fG)],[.fresh fG],λa=>sF a.1,none⟩
theorem GH:aD 27 UI:=cq ay func27 .z 0
def Na:cy xx:=⟨[.mut fG,.eC [fG,fG] af],[.mu fG],λa=>wK n a.1 a.2.1,none⟩
theorem Nb:aD 62 (Na n):=by have hcall:eH Tryz.prog 62:=⟨_,func62,by kernel_rfl,by kernel_rfl⟩;refine xl hcall (λ a r h=>?_) rfl;obtain⟨l,Z,⟨⟩⟩:=a;refine Rh (X:=xx) (i:=SI.nr) (hI:=(inferInstance:Inhabited bM)) Tryz.so62 rfl hcall Tryz.underlying48 (by kernel_rfl) (λ x t ht=>?_) h;cases x;have ht:t∈[_,_]:=ht;simp only[aI,bB,or_false]at ht;rcases ht with rfl|rfl<;>exact⟨_,rfl,trivial⟩
def Nc:cy xx:=⟨[.d fG,.d fG],[.d af],λa=>nX a.1 a.2.1,none⟩
theorem Nf:aD 63 Nc:=cq ay func63 .z 0
def UJ:cy xx:=⟨[.d (.sl fG)],[.fresh fG,.d .bool],λa=>xh n a.1,none⟩
def UK:Hn SI:=(An (.s (.s .z (.b (.lx ⟨[(20,.v af)],[],[4,5,18,19],[1384],1896,[]⟩ 0 ⟨[],[],[4,5],[1384],1896,[]⟩ (cx (.s (.b (.s .z (.s (.j ⟨[(38,.v .bool)],[],[4,5,18,19,20],[1384],2216,[]⟩ .z) .z))) .z))))) (.s (.s .z (.b (.l ⟨[(5,.o 2088),(42,.v af)],[(2088,.l fG)],[40,41],[1384],2089,[(5,fG)]⟩ 2 ⟨[(5,.o 2088)],[(2088,.l fG)],[],[],2089,[]⟩ (cx (.s (.j ⟨[(5,.o 2153)],[(2153,.l fG)],[40,41,42],[1384],2154,[]⟩ (.b (.s .z (.s (.s .z (.s (.j ⟨[(60,.v .bool)],[],[5,9,10,40,41,42],[1384,2088,2281],2665,[]⟩ .z) .z)) .z)))) .z))))) .z)))
theorem UL:aD 36 (UJ n):=cq (ak GH (ak (Nb n) (ak Nf ay))) func36 UK n
def RO:cy xx:=⟨[.d af],[.d .bool],λa=>nY a.1,none⟩
theorem Ej:aD 38 RO:=cq ay func38 .z 0
def RP:cy xx:=⟨[.d (.sl af)],[.d .bool],λa=>uO n a.1,none⟩
def RQ:Hn SI:=(cx (.s (.s .z (.b (.lx ⟨[(10,.v af)],[],[0,8,9],[],1448,[]⟩ 0 ⟨[],[],[],[],1448,[]⟩ (cx (.s (.b (.s .z (.s (.j ⟨[(30,.v .bool)],[],[0,8,9,10],[],1832,[]⟩ .z) .z))) .z))))) .z))
theorem RS:aD 37 (RP n):=cq (ak Ej ay) func37 RQ n
def UM:cy xx:=⟨[.d (.sl af),.d af],[.d af],λa=>kH n a.1 a.2.1,none⟩
def UN:Hn SI:=(cx (.s (.s .z (.b (.l ⟨[(5,.v af),(17,.v af)],[],[1,15,16],[],1768,[]⟩ 0 ⟨[(5,.v af)],[],[],[],1768,[]⟩ (cx (.s (.j ⟨[(5,.v af)],[],[1,15,16,17],[],1832,[]⟩ (.b (.s .z (.s (.j ⟨[(28,.v .bool)],[],[1,5,15,16,17],[],2024,[]⟩ .z) .z)))) .z))))) .z))
theorem UO:aD 64 (UM n):=cq ay func64 UN n
def RU:cy xx:=⟨[.d (.sl af),.d (.sl fG),.d af,.d af],[.d af],λa=>uP n a.1 a.2.1 a.2.2.1 a.2.2.2.1,none⟩
def RX:Hn SI:=(cx (.s (.s .z (.b (.l ⟨[(9,.v af),(25,.v af)],[],[0,2,3,23,24],[],1896,[]⟩ 0 ⟨[(9,.v af)],[],[],[],1896,[]⟩ (cx (.s (.j ⟨[(9,.v af)],[],[0,2,3,23,24,25],[],1960,[]⟩ .z) .z))))) .z))
theorem RY:aD 41 (RU n):=cq (ak (UO n) ay) func41 RX n
def F8:cy xx:=⟨[.d af,.ref (.sl af),.ref (.sl fG),.ref af,.ref af],[.d .bool],λ(qa,qb,qc,qd,qe,_)=>jk n qa qb qc qd qe,none⟩
theorem F9:aD 40 (F8 n):=cq (ak (RY n) ay) func40 .z n
def aaP:cy xx:=⟨[.d af,.eC [af] .bool],[.d af],λa=>sort_Search n a.1 a.2.1,none⟩
def aaQ:Hn SI:=(cx (.s (.b (.l ⟨[(5,.v af),(6,.v af)],[],[1],[],1256,[]⟩ 0 ⟨[(5,.v af)],[],[],[],1256,[]⟩ .z)) .z))
theorem aaR:aD 39 (aaP n):=cq ay func39 aaQ n
def K7:cy xx:=⟨[.d (.sl af),.d (.sl fG),.d af,.d af],[.d af,.d af],λa=>eY n a.1 a.2.1 a.2.2.1 a.2.2.2.1,none⟩
def K8:Hn SI:=(.s .z (.s (.f [6]) (.s (.s (.j ⟨[(35,.v .bool)],[],[4,6,7,10],[1000,1064,1128,1640],1832,[]⟩ .z) .z) .z)))
theorem yM:aD 24 (K7 n):=cq (ak (UL n) (ak (RS n) (ak Ej (ak (aaR n) (ak (F9 n) ay))))) func24 K8 n
def Ng:cy xx:=⟨[.d dF],[.d af,.d af],λa=>dS n a.1,none⟩
theorem o6:aD 8 (Ng n):=cq (ak (acN n) (ak (yM n) ay)) func8 .z n
def RZ:cy xx:=⟨[.d dF],[.d .bool],λa=>fQ a.1,none⟩
theorem wT:aD 17 RZ:=cq ay func17 .z 0
def R3:cy xx:=⟨[.d dF,.d af],[.d .bool],λa=>uQ n a.1 a.2.1,none⟩
theorem R4:aD 18 (R3 n):=cq (ak (o6 n) ay) func18 .z n
def UQ:cy xx:=⟨[.d (.sl aA)],[.fresh aA],λa=>Cj a.1,none⟩
theorem UR:aD 98 UQ:=cq ay func98 .z 0
def Zl:cy xx:=⟨[.d (.sl af)],[.fresh af],λa=>q9 a.1,none⟩
theorem JW:aD 26 Zl:=cq ay func26 .z 0
def ajh:cy xx:=⟨[.d (.st SI.Lot)],[.d (.st SI.Lot)],λa=>DZ a.1,none⟩
theorem aji:aD 69 ajh:=cq (ak UR (ak JW ay)) func69 .z 0
def al7:cy xx:=⟨[.d (.sl (.st SI.Lot)),.d af],[.d (.st SI.Lot),.d .bool],λa=>rf n a.1 a.2.1,none⟩
def al8:Hn SI:=(.s .z (.s (.s .z (.b (.lx ⟨[(10,.v af)],[],[1,4,8,9],[1000],1320,[]⟩ 0 ⟨[],[],[4],[1000],1320,[]⟩ .z))) .z))
theorem El:aD 43 (al7 n):=cq (ak aji ay) func43 al8 n
def aaS:cy xx:=⟨[.d gT,.d eX],[.d af],λa=>xR n a.1 a.2.1,none⟩
def aaT:Hn SI:=(iu (.s (.s .z (.b (.l ⟨[(6,.v af),(15,.v af)],[],[2,5,13,14],[1000,1256],1704,[]⟩ 0 ⟨[(6,.v af)],[],[],[],1704,[]⟩ (cx (.s (.b (cx (.b (.l ⟨[(6,.v af),(22,.v af)],[],[2,5,13,14,15,20,21],[1000,1256],2280,[]⟩ 2 ⟨[(6,.v af)],[],[2,5,13,14,15],[1000,1256],2280,[]⟩ (cx (.s (.j ⟨[(6,.v af)],[],[2,5,13,14,15,20,21,22],[1000,1256],2344,[]⟩ (.b (.s .z (.s (.j ⟨[(33,.v .bool)],[],[2,5,6,10,13,14,15,20,21,22],[1000,1256,2472],2600,[]⟩ .z) .z)))) .z)))))) .z))))) .z))
theorem aaU:aD 100 (aaS n):=cq (ak (ag3 n) ay) func100 aaT n
def al9:cy xx:=⟨[.d aA],[.d .bool],λa=>qm a.1,none⟩
theorem rM:aD 104 al9:=cq ay func104 .z 0
def Zm:cy xx:=⟨[.nil,.d af],[.fresh aA],λa=>OX a.1 a.2.1,none⟩
theorem Zn:aD 231 Zm:=cq ay func231 .z 0
def R5:cy xx:=⟨[.d (.sl (.sl aA))],[.fresh aA],λa=>zP n a.1,none⟩
def R6:Hn SI:=(cx (.s (.s .z (.b (.l ⟨[(3,.v af),(11,.v af)],[],[0,9,10],[],1320,[]⟩ 0 ⟨[(3,.v af)],[],[0],[],1320,[]⟩ .z))) (.s .z (.s (.s .z (.b (.l ⟨[(6,.o 1704),(27,.v af)],[(1704,.l aA)],[25,26],[],1705,[]⟩ 2 ⟨[(6,.o 1704)],[(1704,.l aA)],[],[],1705,[]⟩ .z))) .z))))
theorem R7:aD 196 (R5 n):=cq (ak Zn ay) func196 R6 n
def aaV:cy xx:=⟨[.mut af],[.mu af],λa=>l8 n a.1,none⟩
theorem qc:aD 72 (aaV n):=by have hcall:eH Tryz.prog 72:=⟨_,func72,by kernel_rfl,by kernel_rfl⟩;refine xl hcall (λ a r h=>?_) rfl;obtain⟨l,⟨⟩⟩:=a;exact alq Tryz.so72 rfl hcall h
def R8:cy xx:=⟨[.mut af],[.whole 0,.mu af],λa=>kP n a.1,none⟩
def R9:Hn SI:=(cx (.s (.s .z (.b (.lx ⟨[(3,.v af)],[],[0],[0],1320,[]⟩ 0 ⟨[],[],[0],[0],1320,[]⟩ (.s .z (.s (.b (.s .z (.s (.s .z (.s (.s .z (.b (.l ⟨[(3,.v af),(5,.v af)],[(0,.l af)],[0,4],[],2536,[]⟩ 2 ⟨[(3,.v af)],[(0,.l af)],[0],[],2536,[]⟩ (.s .z (.s (.j ⟨[(3,.v af)],[(0,.l af)],[0,4,5],[],2792,[]⟩ .z) .z))))) .z)) .z))) .z))))) .z))
theorem oD:aD 73 (R8 n):=cq ay func73 R9 n
def Nh:cy xx:=⟨[.mut (.st SI.span),.eC [.st SI.span,.st SI.span] af],[.mu (.st SI.span)],λa=>wL n a.1 a.2.1,none⟩
theorem Ni:aD 232 (Nh n):=by have hcall:eH Tryz.prog 232:=⟨_,func232,by kernel_rfl,by kernel_rfl⟩;refine xl hcall (λ a r h=>?_) rfl;obtain⟨l,Z,⟨⟩⟩:=a;refine Rh (X:=xx) (i:=SI.span) (hI:=(inferInstance:Inhabited aR)) Tryz.so232 rfl hcall Tryz.underlying283 (by kernel_rfl) (λ x t ht=>?_) h;cases x;have ht:t∈[_,_]:=ht;simp only[aI,bB,or_false]at ht;rcases ht with rfl|rfl<;>exact⟨_,rfl,trivial⟩
def UU:cy xx:=⟨[.d af],[.d .bool],λa=>cmp_isNaN_int a.1,none⟩
theorem UW:aD 159 UU:=cq ay func159 .z 0
def PV:cy xx:=⟨[.d af,.d af],[.d af],λa=>cmp_Compare_int a.1 a.2.1,none⟩
theorem qz:aD 108 PV:=cq (ak UW ay) func108 .z 0
def Zo:cy xx:=⟨[.d (.st SI.span),.d (.st SI.span)],[.d af],λa=>yS a.1 a.2.1,none⟩
theorem Zp:aD 233 Zo:=cq (ak qz ay) func233 .z 0
def ag4:cy xx:=⟨[.d (.sl aA),.d af],[.fresh (.st SI.span)],λa=>KG n a.1 a.2.1,none⟩
def ag5:Hn SI:=(cx (.s (.s .z (.b (.l ⟨[(5,.o 1320),(14,.v af)],[(1320,.l (.st SI.span))],[1,12,13],[],1321,[(5,.st SI.span)]⟩ 0 ⟨[(5,.o 1320)],[(1320,.l (.st SI.span))],[],[],1321,[]⟩ (cx (.s (.j ⟨[(5,.o 1385)],[(1385,.l (.st SI.span))],[1,12,13,14],[],1386,[]⟩ (.b (.s .z (.s (.j ⟨[(27,.v .bool)],[],[1,5,7,12,13,14],[1320,1513],1641,[]⟩ .z) .z)))) .z))))) (cx (.s (.s .z (.b (.l ⟨[(8,.o 1705),(41,.v af)],[(1705,.l (.st SI.span))],[39,40],[1320],1706,[(8,.st SI.span)]⟩ 2 ⟨[(8,.o 1705)],[(1705,.l (.st SI.span))],[],[],1706,[]⟩ (cx (.s (.j ⟨[(8,.o 1770)],[(1770,.l (.st SI.span))],[39,40,41],[1320],1771,[]⟩ (.b (cx (.s (.j ⟨[(59,.v .bool)],[],[8,10,11,39,40,41],[1320,1705,1898],2218,[]⟩ .z) .z)))) .z))))) .z))))
theorem ag6:aD 197 (ag4 n):=cq (ak (Ni n) (ak Zp ay)) func197 ag5 n
def ag7:cy xx:=⟨[.d (.sl (.sl aA))],[.fresh (.st SI.strip)],λa=>pY n a.1,none⟩
def ag8:Hn SI:=(iu (.s (.s .z (.b (.l ⟨[(4,.o 1512),(13,.v af)],[(1512,.l af)],[3,11,12],[1128],1513,[(4,af)]⟩ 0 ⟨[(4,.o 1512)],[(1512,.l af)],[3],[1128],1513,[]⟩ .z))) (iu (.s (.s .z (.b (.l ⟨[(7,.o 1961),(8,.v af)],[(1961,.l (.st SI.strip))],[3,4],[1128,1512],1962,[(7,.st SI.strip)]⟩ 2 ⟨[(7,.o 1961)],[(1961,.l (.st SI.strip))],[],[],1962,[]⟩ .z))) .z))))
theorem Uh:aD 156 (ag7 n):=cq (ak (R7 n) (ak (qc n) (ak (oD n) (ak (ag6 n) ay)))) func156 ag8 n
def UX:cy xx:=⟨[.d (.sl (.st SI.span)),.d (.sl (.st SI.span))],[.d .bool],λa=>xk n a.1 a.2.1,none⟩
def UY:Hn SI:=(cx (.s (.s .z (.b (.lx ⟨[(13,.v af)],[],[0,1,12],[],1576,[]⟩ 0 ⟨[],[],[],[],1576,[]⟩ .z))) .z))
theorem UZ:aD 195 (UX n):=cq ay func195 UY n
def ajj:cy xx:=⟨[.d (.sl (.st SI.strip))],[.fresh aA],λa=>Jp n a.1,none⟩
def ajk:Hn SI:=(cx (.s (.s .z (.b (.l ⟨[(3,.o 1192),(4,.v af)],[(1192,.l aA)],[0],[],1193,[(3,aA)]⟩ 0 ⟨[(3,.o 1192)],[(1192,.l aA)],[],[],1193,[]⟩ (.s .z (.b (.s .z (.s (.b (.l ⟨[(5,.v af)],[],[0,3,4],[1192],1641,[]⟩ 2 ⟨[(5,.v af)],[],[0,3,4],[1192],1641,[]⟩ (.s (.s (.j ⟨[(30,.v .bool)],[],[0,3,4,5],[1192],1641,[]⟩ .z) .z) .z))) (.s (.s .z (.b (.l ⟨[(3,.o 2089),(39,.v af)],[(2089,.l aA)],[0,4,5,37,38],[],2090,[]⟩ 4 ⟨[(3,.o 2089)],[(2089,.l aA)],[0,5],[],2090,[]⟩ .z))) .z)))))))) .z))
theorem Zq:aD 155 (ajj n):=cq (ak (UZ n) ay) func155 ajk n
def aem:cy xx:=⟨[.d (.sl aA)],[.d (.sl aA),.d af],λa=>zQ a.1,none⟩
theorem PW:aD 154 aem:=cq ay func154 .z 0
def ap4:cy xx:=⟨[.d (.sl aA)],[.d (.sl aA),.d af],λa=>Tu n a.1,none⟩
def ap5:Hn SI:=(.s .z (.s (.s .z (.b (.lx ⟨[(8,.v af)],[],[0,6,7],[],1320,[]⟩ 0 ⟨[],[],[0],[],1320,[]⟩ .z))) .z))
theorem ap6:aD 102 (ap4 n):=cq (ak rM (ak (Uh n) (ak (Zq n) (ak PW ay)))) func102 ap5 n
def U0:cy xx:=⟨[.d (.sl aA),.d (.sl aA)],[.d .bool],λa=>p8 n a.1 a.2.1,none⟩
def U1:Hn SI:=(cx (.s (.s .z (.b (.lx ⟨[(13,.v af)],[],[0,1,12],[],1576,[]⟩ 0 ⟨[],[],[],[],1576,[]⟩ .z))) .z))
theorem GJ:aD 103 (U0 n):=cq ay func103 U1 n
def ajl:cy xx:=⟨[.d (.sl aA)],[.d .bool],λa=>l9 n a.1,none⟩
theorem o7:aD 76 (ajl n):=cq (ak (ap6 n) (ak (GJ n) ay)) func76 .z n
def aoD:cy xx:=⟨[.d aA,.d aA],[.d af,.d af],λa=>anQ a.1 a.2.1,none⟩
theorem aoE:aD 227 aoD:=cq ay func227 .z 0
def ap7:cy xx:=⟨[.d aA,.d aA],[.d af],λa=>P0 a.1 a.2.1,none⟩
def ap8:Hn SI:=(.s .z (.s (.s (.j ⟨[(14,.v .bool)],[],[2,3],[1000,1064],1192,[]⟩ .z) .z) .z))
theorem akH:aD 180 ap7:=cq (ak rM (ak aoE ay)) func180 ap8 0
def aoF:cy xx:=⟨[.d (.sl aA),.d (.sl aA)],[.d af,.d .bool],λa=>Yl n a.1 a.2.1,none⟩
def aoG:Hn SI:=(.s .z (.s (.s (.j ⟨[(28,.v .bool)],[],[0,1],[],1128,[]⟩ .z) .z) (.s .z (.s (.s .z (.b (.l ⟨[(6,.v af),(31,.v af)],[],[1,29,30],[],1384,[]⟩ 0 ⟨[(6,.v af)],[],[],[],1384,[]⟩ (cx (.s (.b (cx (.b (.l ⟨[(6,.v af),(37,.v af)],[],[1,8,29,30,31,35,36],[1576],1896,[]⟩ 2 ⟨[(6,.v af)],[],[1,29,30,31],[],1896,[]⟩ .z)))) .z))))) .z))))
theorem aoH:aD 144 (aoF n):=cq (ak (o7 n) (ak akH ay)) func144 aoG n
def ama:cy xx:=⟨[.d (.sl (.st SI.Lot)),.d af,.d af],[.fresh af],λa=>O5 n a.1 a.2.1 a.2.2.1,none⟩
def amb:Hn SI:=(wg (.s (.s .z (.b (.l ⟨[(9,.o 2024),(27,.v af)],[(2024,.l (.sl aA))],[0,1,2,7,25,26],[1448],2025,[(9,.sl aA)]⟩ 0 ⟨[(9,.o 2024)],[(2024,.l (.sl aA))],[0,1,2,7],[1448],2025,[]⟩ .z))) (.s .z (.s (.s .z (.b (.l ⟨[(12,.o 2281),(39,.v af)],[(2281,.l af)],[0,1,2,7,37,38],[1448,2024],2282,[(12,af)]⟩ 2 ⟨[(12,.o 2281)],[(2281,.l af)],[],[],2282,[]⟩ (cx (.s (.j ⟨[(12,.o 2346)],[(2346,.l af)],[0,1,2,7,37,38,39],[1448,2024],2347,[]⟩ (.b (cx (.s (.j ⟨[(65,.v .bool)],[],[0,1,2,7,12,13,37,38,39],[1448,2024,2281],3242,[]⟩ .z) .z)))) .z))))) .z))))
theorem amc:aD 99 (ama n):=cq (ak (El n) (ak (aoH n) (ak (qc n) (ak (oD n) ay)))) func99 amb n
def amd:cy xx:=⟨[.d (.st SI.pH),.d eX],[.fresh af],λa=>VW n a.1 a.2.1,none⟩
theorem ame:aD 71 (amd n):=cq (ak (aaU n) (ak (amc n) ay)) func71 .z n
def ag9:cy xx:=⟨[.d (.st SI.pH),.d eX],[.fresh af],λa=>KH n a.1 a.2.1,none⟩
def aha:Hn SI:=(cx (.s (.s .z (.b (.l ⟨[(5,.o 1576),(14,.v af)],[(1576,.l af)],[2,12,13],[1000,1384],1577,[(5,af)]⟩ 0 ⟨[(5,.o 1576)],[(1576,.l af)],[],[],1577,[]⟩ .z))) .z))
theorem ahb:aD 45 (ag9 n):=cq (ak (ame n) (ak (El n) (ak (qc n) (ak (oD n) ay)))) func45 aha n
def Zr:cy xx:=⟨[.d (.sl af),.d af],[.d af],λa=>Fy n a.1 a.2.1,none⟩
def Zt:Hn SI:=(.s .z (.s (.s .z (.b (.lx ⟨[(8,.v af)],[],[0,1,7],[],1256,[]⟩ 0 ⟨[],[],[],[],1256,[]⟩ .z))) .z))
theorem Zu:aD 70 (Zr n):=cq ay func70 Zt n
def PX:cy xx:=⟨[.d (.sl af),.d af],[.d .bool],λa=>pI n a.1 a.2.1,none⟩
theorem BL:aD 44 (PX n):=cq (ak (Zu n) ay) func44 .z n
def aoI:cy xx:=⟨[.d (.st SI.pH),.d eX,.d af],[.d .bool],λa=>Ym n a.1 a.2.1 a.2.2.1,none⟩
theorem aoJ:aD 32 (aoI n):=cq (ak (El n) (ak (ahb n) (ak (BL n) ay))) func32 .z n
def U2:cy xx:=⟨[.d dF,.d af],[.d .bool],λa=>xq n a.1 a.2.1,none⟩
theorem U3:aD 19 (U2 n):=cq (ak (aoJ n) ay) func19 .z n
noncomputable def tT:Y (TypeId×p6):=(119,⟨1,8,false,[.nilFunc],.other,[]⟩)::(121,⟨2,16,true,[.nilFunc,.nilFunc],.struct [(0,119),(1,119)],[]⟩)::(123,⟨1,8,false,[.map none],.map 3 121,[]⟩)::tab
theorem yD:fF Tryz.prog (iM tT):=ae4 (by kernel_rfl)
noncomputable def cA:Code->Code
 |.seq a _=>a
 |c=>c
noncomputable def cB:Code->Code
 |.seq _ b=>b
 |c=>c
noncomputable def cO:Code->Array Oper
 |.region _ o _=>o
 |_=>#[]
noncomputable def A1:ky:=⟨.none,[],[],false⟩
noncomputable def ar3(l:Y Nat):ky:=⟨.none,l,l,false⟩
noncomputable def zj(l:Y Nat):ky:=⟨.none,l,[],false⟩
noncomputable abbrev tn(n:Int):AV:=.t (.sc (.int .i64 n))
noncomputable abbrev bo(b:Bool):AV:=.t (.sc (.bool b))
noncomputable abbrev ri(h:aC):AV:=.agg ((jJ h).map AV.t)
noncomputable abbrev sY(c:aK):AV:=.agg ((zO c).map AV.t)
noncomputable abbrev mf(h:aC):aN:=⟨22,[(jJ h).map AV.t]⟩
noncomputable abbrev yq(c:aK):aN:=⟨6,[(zO c).map AV.t]⟩
noncomputable abbrev hf0:AV:=.fn 46 [] []
noncomputable abbrev hfB(f B:Nat):AV:=.fn f [] [.ptr B 0 0]
noncomputable abbrev pd(B:Nat):Y (List AV):=[[tn 0,.agg [hf0,hf0]],[tn 1,.agg [.fn 47 [] [],hfB 50 B]],[tn 2,.agg [hfB 53 B,hfB 56 B]],[tn 3,.agg [.fn 58 [] [],hfB 59 B]]]
noncomputable def fR(ρ:Y (Nat×Nat))(k:Nat):Nat:=(lk ρ k).getD k
noncomputable def gR(ρ:Y (Nat×Nat))(k:Nat):Nat:=(lk (ρ.map λp=>(p.2,p.1)) k).getD k
noncomputable def dR(ρ:Y (Nat×Nat))(k:Nat):Bool:=(ρ.map (·.1)).contains k || !(ρ.map (·.2)).contains k
noncomputable def okR(ρ:Y (Nat×Nat)):Bool:=ρ.all λp=>gR ρ (fR ρ p.1)==p.1&&Nat.ble 1000 p.2
theorem ma{α:Type}{l:Y (Nat×α)}{k:Nat}(h:k∉l.map (·.1)):lk l k=none:=by
 induction l with
 |nil=>rfl
 |cons p l ih=>
  simp only[bq,aI,not_or]at h;simp only[lk];rw[aM (λ e=>h.1 e.symm)];exact ih h.2
theorem vJ(ρ:Y (Nat×Nat)){L' L2:ix}(hρ:okR ρ=true)
 (hE:∀p∈L2.env,(lk L'.ok p.1).join=none/\(refs ((lk L'.env p.1).getD .undef)).all (dR ρ)=true/\ik (fR ρ) ((lk L'.env p.1).getD .undef)=p.2)
 (hO:∀q∈L2.obj,∀o',q.2=some o'->∃k o,lk L'.obj k=some (some o)/\dR ρ k=true/\fR ρ k=q.1/\o'=Dt (fR ρ) o/\(o.rows.all λr=>(dJ r).all (dR ρ))=true) (hok:L2.ok=[])
 (h1:(L2.env.all λp=>(refs p.2).all (Nat.blt · 1000000))=true) (h2:(L2.obj.all λq=>Nat.blt q.1 1000000&&((q.2.map λo=>o.rows.all λr=>(dJ r).all (Nat.blt · 1000000)).getD true))=true):Gb.Told (L'.st λ_=>none) (L2.st λ_=>none):=by
 have hx:∀j o',(L2.st λ_=>none).obj j=some o'->(j,some o')∈L2.obj:=λj o' hj=>by
  simp only[ix.st]at hj;cases h:lk L2.obj j with
  |none=>rw[h]at hj;cases hj
  |some x=>rw[h]at hj;rw[<- hj];exact qf h
 have hmem:∀k,dR ρ k=true->gR ρ (fR ρ k)=k:=λk hk=>by
  by_cases h:k∈ρ.map (·.1)
  .obtain⟨p,hp,rfl⟩:=mem_map.1 h;have:=all_eq_true.1 hρ p hp;simp only[aT,beq_iff_eq]at this;exact this.1
  .have hn:k∉ρ.map (·.2):=λh'=>(by unfold dR at hk;simp only[Bool.or_eq_true,List.contains_iff_mem,Bool.not_eq_true']at hk;rcases hk with hk|hk;exact h hk;rw[List.contains_iff_mem.2 h']at hk;cases hk);have e:fR ρ k=k:=(by unfold fR;rw[ma h];rfl);rw[e];unfold gR;rw[ma (by rw[map_map];exact hn)];rfl
 refine apj (fR ρ) (gR ρ) (λ k=>dR ρ k=true) hmem (λ j hj=>?_) (λ p hp=>?_) (λ j o' hj=>?_) hok ⟨λ t k hk=>?_,λk o hk=>?_⟩
 .unfold gR;rw[ma];rfl;intro h;rw[map_map]at h;obtain⟨p,hp,e⟩:=mem_map.1 h;have:=all_eq_true.1 hρ p hp;simp only[aT,Nat.ble_eq]at this;have e:p.2=j:=e;omega
 .obtain⟨a,b,c⟩:=hE p hp;exact⟨a,λk hk=>all_eq_true.1 b k hk,c⟩
 .obtain⟨k,o,a,b,c,d,e⟩:=hO _ (hx j o' hj) o' rfl;refine⟨k,o,?_,b,c,d,λr hr q hq=>all_eq_true.1 (all_eq_true.1 e r hr) q hq⟩;simp only[ix.st,a]
 .simp only[ix.st]at hk;cases h:lk L2.env t with
  |none=>rw[h]at hk;simp[refs]at hk
  |some x=>
   rw[h]at hk;exact Nat.blt_eq.mp (all_eq_true.1 (all_eq_true.1 h1 _ (qf h)) k hk)
 .have:=all_eq_true.1 h2 _ (hx k o hk);simp only[Option.map_some,Option.getD_some,aT]at this;refine⟨Nat.blt_eq.mp this.1,λr hr x hx j hj=>?_⟩;exact Nat.blt_eq.mp (all_eq_true.1 (all_eq_true.1 this.2 r hr) j (Kl hx j hj))
noncomputable abbrev hcC:Code:=Tryz.f33.body.getD .skip
theorem asv{h:aC}{F:S}:pG Tryz.prog (iM tT) (cO (cA hcC)) (λ _=>A1) F (List.range (cO (cA hcC)).size) ⟨[(0,ri h)],[],[]⟩=
 some (⟨[(2,.t (.sc (.map none))),(1,.ptr (cD 0) 0 0),(0,ri h)],[(cD 0,some (mf h))],[(2,none),(1,none)]⟩,[]):=by kernel_rfl
noncomputable abbrev HU:Y (Nat×AV):=[(1,.ptr 1001 0 0)]
noncomputable abbrev HT(h:aC):Y (Nat×Option aN):=[(1001,some (mf h))]
theorem asw{h:aC}{F:S}:pG Tryz.prog (iM tT) (cO (cA (cB hcC))) (λ _=>A1) F (List.range (cO (cA (cB hcC))).size) ⟨HU,HT h,[]⟩=
 some (⟨(3,hf0)::HU,HT h,[(3,none)]⟩,[]):=by kernel_rfl
noncomputable def ar4:Nat->ky
 | 0=>⟨.ext 0,[],[],false⟩
 | 4| 7| 11| 14=>⟨.ext 0,[cD 0],[cD 0],false⟩
 |_=>A1
noncomputable abbrev asx(B:Nat):Y (Nat×AV):=[(15,.mp (cD 0)),(14,.agg [.fn 58 [] [],hfB 59 B]),(13,hfB 59 B),(12,.agg [hfB 53 B,hfB 56 B]),(11,hfB 56 B),(10,hfB 53 B),(9,.agg [.fn 47 [] [],hfB 50 B]),(8,hfB 50 B),(7,.agg [hf0,hf0]),(6,hf0),(5,hf0),(4,.mp (cD 0)),(3,hf0)]++HU
theorem asy{h:aC}{F:S}:pG Tryz.prog (iM tT) (cO (cA (cB (cB hcC)))) ar4 F (List.range (cO (cA (cB (cB hcC)))).size) ⟨(3,hf0)::HU,HT h,[]⟩=
 some (⟨(2,.mp (cD 0))::asx 1001,[(cD 0,some ⟨4,pd 1001⟩),(cD 0,some ⟨3,(pd 1001).take 3⟩),(cD 0,some ⟨2,(pd 1001).take 2⟩),(cD 0,some ⟨1,(pd 1001).take 1⟩),(cD 0,some ⟨0,[]⟩)]++HT h,[2,15,14,13,12,11,10,9,8,7,6,5,4].map λt=>(t,none)⟩,[]):=by kernel_rfl
theorem aqs(h:aC):zz Tryz.prog 33 [ri h] [] [(1000,⟨4,pd 1001⟩),(1001,mf h)] (.mp 1000):=by
 have hb:Tryz.f33.body=some hcC:=by kernel_rfl
 have hn : (Tryz.f33.name == "runtime.NumGoroutine") = false := by kernel_rfl
 refine abC yD func33 hb hn (by show 1<=Tryz.f33.ntmps;decide +kernel) (λ k hk=>by have hk:k∈([]:Y Nat):=hk;cases hk) (by simp) (by simp) ?_;show Ev _ _ (Code.seq (cA hcC) (Code.seq (cA (cB hcC)) (Code.seq (cA (cB (cB hcC))) Code.ret))) _ ((⟨[(0,ri h)],[],[]⟩:ix).st λ_=>none);refine BX (tK (ag:=cO (cA hcC)) (σ2:=(⟨HU,HT h,[]⟩:ix).st λ_=>none) yD (by kernel_rfl) asv trivial ?_ ?_)
 .refine vJ [(cD 0,1001)] (by kernel_rfl) (λ p hp=>?_) (λ q hq o' ho=>?_) rfl (by kernel_rfl) (by kernel_rfl)
  .simp only[bC]at hp;subst hp;exact⟨rfl,rfl,rfl⟩
  .simp only[bC]at hq;subst hq;cases ho;exact⟨cD 0,mf h,rfl,rfl,rfl,rfl,rfl⟩
 refine BX (tK (ag:=cO (cA (cB hcC))) (σ2:=(⟨(3,hf0)::HU,HT h,[]⟩:ix).st λ_=>none) yD (by kernel_rfl) asw trivial ?_ ?_)
 .refine vJ [] (by kernel_rfl) (λ p hp=>?_) (λ q hq o' ho=>?_) rfl (by kernel_rfl) (by kernel_rfl)
  .simp only[aI,bB,or_false]at hp;rcases hp with rfl|rfl<;>exact⟨rfl,rfl,rfl⟩
  .simp only[bC]at hq;subst hq;cases ho;exact⟨1001,mf h,rfl,rfl,rfl,rfl,rfl⟩
 refine BX (tK (ag:=cO (cA (cB (cB hcC)))) (σ2:=(⟨[(2,.mp 1000)],[(1000,some ⟨4,pd 1001⟩),(1001,some (mf h))],[]⟩:ix).st λ_=>none) yD (by kernel_rfl) asy trivial ?_ (Wg ⟨[.mp 1000],rfl,?_⟩))
 .refine vJ [(cD 0,1000)] (by kernel_rfl) (λ p hp=>?_) (λ q hq o' ho=>?_) rfl (by kernel_rfl) (by kernel_rfl)
  .simp only[bC]at hp;subst hp;exact⟨rfl,rfl,rfl⟩
  .simp only[aI,bB,or_false]at hq;rcases hq with rfl|rfl
   .cases ho;exact⟨cD 0,⟨4,pd 1001⟩,rfl,rfl,rfl,rfl,rfl⟩
   .cases ho;exact⟨1001,mf h,rfl,rfl,rfl,rfl,rfl⟩
 .intro w0 O0 G I w vs hM hv;obtain⟨vs⟩:=vs
  match vs,hv with
  |[v],hv=>
   refine⟨G,I,?_,λ_ h=>h,hv.1⟩;have e:∀k,((⟨[(2,.mp 1000)],[(1000,some ⟨4,pd 1001⟩),(1001,some (mf h))],[]⟩:ix).st λ_=>none).obj k=pN [(1000,⟨4,pd 1001⟩),(1001,mf h)] k:=λk=>by
    simp only[ix.st,lk,pN];by_cases h1:1000=k
    .simp only[aP h1]
    .simp only[aM h1];by_cases h2:1001=k
     .simp only[aP h2]
     .simp only[aM h2]
   rw[<- funext e];exact hM
theorem JX{P:Q}{T:eM}{ag:Array Oper}{dp:Nat->ky}{F:S}:∀(a b:Y Nat)(L L1 L2:ix)(o1 o2:Y Prop),pG P T ag dp F a L=some (L1,o1)->pG P T ag dp F b L1=some (L2,o2)->pG P T ag dp F (a++b) L=some (L2,o1++o2)
 |[],b,L,L1,L2,o1,o2,h1,h2=>by simp only[pG,bK,Prod.mk.injEq]at h1;obtain⟨rfl,rfl⟩:=h1;exact h2
 |i::a,b,L,L1,L2,o1,o2,h1,h2=>by simp only[pG,ah]at h1;obtain⟨o,e1,out,e2,q,e3,e4⟩:=h1;simp only[bK,Prod.mk.injEq]at e4;obtain⟨rfl,rfl⟩:=e4;have:=JX a b _ q.1 L2 q.2 o2 e3 h2;simp only[List.cons_append,pG,e1,e2,ai,this,aU]
noncomputable abbrev nf:AV:=.t (.sc .nilFunc)
theorem akI(h:aC):NT 0 [(1000,⟨4,pd 1001⟩),(1001,mf h)] (.mp 1000):=by
 refine⟨λ q hq=>?_,by show [1000,1001].Nodup;decide,λq hq r hr k hk=>?_,λk hk=>?_⟩
 .simp only[aI,bB,or_false]at hq;rcases hq with rfl|rfl<;>exact .inr ⟨Nat.le_of_ble_eq_true rfl,Nat.le_of_ble_eq_true rfl⟩
 .simp only[aI,bB,or_false]at hq;rcases hq with rfl|rfl
  .simp only[pd,aI,bB,or_false]at hr;rcases hr with rfl|rfl|rfl|rfl<;>simp[dJ,refs]at hk<;>(subst hk;exact .inr ⟨by decide,by decide⟩)
  .simp only[bC]at hr;subst hr;have hk:k∈([]:Y Nat):=hk;cases hk
 .simp[refs]at hk;subst hk;exact .inr ⟨by decide,by decide⟩
theorem akJ{h:aC}{get:S}:II get [ri h] [] [] []:=by refine⟨λ k hk=>(by cases hk),λk hk=>?_,λj hs q o hj=>by simp at hj⟩;have hk:k∈([]:Y Nat):=hk;cases hk
theorem akK{B:Nat}{x:Int}(h0:x≠0)(h1:x≠1)(h2:x≠2)(h3:x≠3):yH (.int .i64 x) (pd B)=some none:=by simp[yH,NS,h0,h1,h2,h3]
def vK:cy xx:=⟨[.d (.sl af),.d af],[.d .bool],λa=>fD n a.1 a.2.1,none⟩
def PY:Hn SI:=(cx (.s (.s .z (.b (.lx ⟨[(5,.v af),(10,.v af)],[],[1,8,9],[],1320,[]⟩ 0 ⟨[],[],[],[],1320,[]⟩ (cx (.s (.b (.s .z (.s (.s (.j ⟨[(21,.v .bool)],[],[1,7,8,9,10],[],1576,[]⟩ .z) .z) .z))) .z))))) .z))
theorem vL:aD 22 (vK n):=cq ay func22 PY n
def kE:cy xx:=⟨[.d dL],[.d .bool],λa=>qK a.1,none⟩
theorem vM:aD 46 kE:=cq ay func46 .z 0
def PZ:cy xx:=⟨[],[.fresh .str],λ_=>pJ,none⟩
theorem BM:aD 49 PZ:=cq ay func49 .z 0
def P5:cy xx:=⟨[.d (.sl .str),.d .str],[.d af],λa=>sW n a.1 a.2.1,none⟩
def P6:Hn SI:=(.s .z (.s (.s .z (.b (.lx ⟨[(8,.v af)],[],[0,1,7],[],1256,[]⟩ 0 ⟨[],[],[],[],1256,[]⟩ .z))) .z))
theorem P7:aD 74 (P5 n):=cq ay func74 P6 n
def JY:cy xx:=⟨[.d (.sl .str),.d .str],[.d .bool],λa=>eF n a.1 a.2.1,none⟩
theorem jw:aD 48 (JY n):=cq (ak (P7 n) ay) func48 .z n
def o8:cy xx:=⟨[.d dL],[.d .bool],λa=>mh n a.1,none⟩
theorem Ga:aD 47 (o8 n):=cq (ak BM (ak (jw n) ay)) func47 .z n
def AA:cy xx:=⟨[.d aW,.ref dL],[.d .bool],λa=>jC a.1 a.2.1,none⟩
theorem AB:aD 55 AA:=cq ay func55 .z 0
def K9:cy xx:=⟨[.d (.sl aW),.eC [aW] .bool],[.d af],λa=>uX n a.1 a.2.1,none⟩
def La:Hn SI:=(.s .z (.s (.s .z (.b (.lx ⟨[(8,.v af)],[],[0,1,7],[],1256,[]⟩ 0 ⟨[],[],[],[],1256,[]⟩ .z))) .z))
theorem Lb:aD 87 (K9 n):=cq ay func87 La n
def Gc:cy xx:=⟨[.d (.sl aW),.eC [aW] .bool],[.d .bool],λa=>qL n a.1 a.2.1,none⟩
theorem Gd:aD 54 (Gc n):=cq (ak (Lb n) ay) func54 .z n
def o9:cy xx:=⟨[.d dL,.ref dF],[.d .bool],λa=>mq n a.1 a.2.1,none⟩
theorem Gf:aD 53 (o9 n):=cq (ak (Gd n) (ak AB ay)) func53 .z n
def pq:cy xx:=⟨[.d dL],[.d .bool],λa=>mD a.1,none⟩
theorem Gg:aD 58 pq:=cq ay func58 .z 0
noncomputable abbrev mi:Code:=Tryz.f20.body.getD .skip
theorem asz{h:aC}{c:aK}{F:S}:pG Tryz.prog (iM tT) (cO (cA mi)) (λ _=>A1) F (List.range (cO (cA mi)).size) ⟨[(0,ri h),(1,sY c)],[],[]⟩=
 some (⟨[(4,bo false),(3,.ptr (cD 1) 0 0),(2,.ptr (cD 0) 0 0),(0,ri h),(1,sY c)],[(cD 1,some (yq c)),(cD 0,some (mf h))],[(4,none),(3,none),(2,none)]⟩,[]):=by kernel_rfl
noncomputable abbrev RW:Y (Nat×AV):=[(2,.ptr 1001 0 0),(3,.ptr 1002 0 0)]
noncomputable abbrev RR(h:aC)(c:aK):Y (Nat×Option aN):=[(1001,some (mf h)),(1002,some (yq c))]
noncomputable def ar5:Nat->ky
 | 0=>zj [1001]
 | 3=>zj [1002]
 | 4=>⟨.ext 0,[cD 1],[],false⟩
 | 9=>ar3 [cD 8]
 |_=>A1
noncomputable def pD(h:aC):Nat->ky:=λi=>if i=1 then⟨.so [] [] [] [] [(1000,⟨4,pd 1001⟩),(1001,mf h)] (.mp 1000) false,[],[],false⟩else ar5 i
noncomputable abbrev zg(h:aC)(c:aK):Y (Nat×Option aN):=[(cD 1,some ⟨4,pd (cD 1+1)⟩),(cD 1+1,some (mf h))]++RR h c
noncomputable abbrev zd(h:aC)(c:aK):Y (Nat×AV):=[(11,tn c.ec),(10,.ptr 1002 0 3),(9,.mp (cD 1)),(8,ri h)]++RW
theorem ar6{h:aC}{c:aK}{F:S}:pG Tryz.prog (iM tT) (cO (cA (cB mi))) (pD h) F [0,1,2,3] ⟨RW,RR h c,[]⟩=
 some (⟨zd h c,zg h c,[11,10,9,8].map λt=>(t,none)⟩,[zz Tryz.prog 33 [ri h] [] [(1000,⟨4,pd 1001⟩),(1001,mf h)] (.mp 1000),NT 0 [(1000,⟨4,pd 1001⟩),(1001,mf h)] (.mp 1000),II (dN [] ((⟨RW,RR h c,[]⟩:ix).st F).obj) [ri h] [] [] []]):=by kernel_rfl
noncomputable abbrev AH:Y (Nat×Option Bool):=[(11,none),(10,none),(9,none),(8,none)]
theorem ar7{h:aC}{c:aK}{F:S}:∃g:J Out->J Out,(∀ o,g (some o)=some o)/\Gb.opAt Tryz.prog (iM tT) (cO (cA (cB mi))) (pD h) 4 ((⟨zd h c,zg h c,AH⟩:ix).st F)=
 (g ((yH (.int .i64 c.ec) (pd (cD 1+1))).bind λr=>(xy r (some (.agg [nf,nf]))).bind λv=>pv (.eE [v,bo r.isSome]))).bind λout=>if out.upd.all (λ p=>EP 4 p.1 || [].contains p.1)then some (⟨out.v,out.upd,[]++out.obs⟩,none)else none:=
 ⟨λ X=>X,λ_=>rfl,by kernel_rfl⟩
theorem Ui{h:aC}{c:aK}{F:S}{f1 f2:Nat}{c1 c2:Y AV}{b:Bool}:pG Tryz.prog (iM tT) (cO (cA (cB mi))) (pD h) F [5,6,7,8,9,10] ⟨(12,.eE [.agg [.fn f1 [] c1,.fn f2 [] c2],bo b])::zd h c,zg h c,(12,none)::AH⟩=
 some (⟨[(6,bo b),(5,.ptr (cD 8) 0 0),(14,bo b),(13,.agg [.fn f1 [] c1,.fn f2 [] c2]),(7,.eE [.agg [.fn f1 [] c1,.fn f2 [] c2],bo b]),(12,.eE [.agg [.fn f1 [] c1,.fn f2 [] c2],bo b])]++zd h c,[(cD 8,some ⟨2,[[.fn f1 [] c1,.fn f2 [] c2]]⟩),(cD 8,some ⟨2,[[nf,nf]]⟩)]++zg h c,[(6,none),(5,none),(14,none),(13,none),(7,none),(12,none)]++AH⟩,[]):=by kernel_rfl
theorem ar8{h:aC}{c:aK}{F:S}{b:Bool}:pG Tryz.prog (iM tT) (cO (cA (cB mi))) (pD h) F [5,6,7,8,9,10] ⟨(12,.eE [.agg [nf,nf],bo b])::zd h c,zg h c,(12,none)::AH⟩=
 some (⟨[(6,bo b),(5,.ptr (cD 8) 0 0),(14,bo b),(13,.agg [nf,nf]),(7,.eE [.agg [nf,nf],bo b]),(12,.eE [.agg [nf,nf],bo b])]++zd h c,[(cD 8,some ⟨2,[[nf,nf]]⟩),(cD 8,some ⟨2,[[nf,nf]]⟩)]++zg h c,[(6,none),(5,none),(14,none),(13,none),(7,none),(12,none)]++AH⟩,[]):=by kernel_rfl
theorem ar9{h:aC}:WW (cO (cA (cB mi))) (pD h)=true:=by kernel_rfl
theorem asa{h:aC}{c:aK}{F:S}{r:J (Nat×AV)}{v:AV}(hm:yH (.int .i64 c.ec) (pd (cD 1+1))=some r)(hz:xy r (some (.agg [nf,nf]))=some v):
 pG Tryz.prog (iM tT) (cO (cA (cB mi))) (pD h) F [4] ⟨zd h c,zg h c,AH⟩=some (⟨(12,.eE [v,bo r.isSome])::zd h c,zg h c,(12,none)::AH⟩,[]):=by
 obtain⟨g,hg,e⟩:=ar7 (h:=h) (c:=c) (F:=F);rw[hm]at e;simp only[ai,hz,pv,hg]at e;have e1:(cO (cA (cB mi)))[4]? =some ((cO (cA (cB mi)))[4]!):=by kernel_rfl
 have e2:((cO (cA (cB mi)))[4]!).dst=some 12:=by kernel_rfl
 simp only[pG,e1,ai,e];simp only[ix.app,e2];rfl
noncomputable abbrev U4(b:Bool):Y (Nat×AV):=[(2,.ptr 1001 0 0),(3,.ptr 1002 0 0),(5,.ptr 1003 0 0),(6,bo b)]
noncomputable abbrev Zv(h:aC)(c:aK)(x y:AV):Y (Nat×Option aN):=[(1001,some (mf h)),(1002,some (yq c)),(1003,some ⟨2,[[x,y]]⟩),(1004,some (mf h))]
noncomputable def TO(h:aC)(a r b:Bool):Nat->ky
 | 3=>zj [1002]
 | 5=>zj [1001]
 | 6=>⟨.num (h.claims.length:Int),[],[],false⟩
 | 7=>⟨.call [] (.one (.d (.s (.sc (.bool a))))) false,[],[],false⟩
 | 11=>zj [1003]
 | 12=>zj [1002]
 | 13=>if b then⟨.call [.row (jJ h)] (.one (.d (.s (.sc (.bool r))))) false,[1004],[1004],false⟩else⟨.call [] (.one (.d (.s (.sc (.bool r))))) false,[],[],false⟩
 |_=>A1
noncomputable abbrev hfA(h:aC)(c:aK)(a:Bool):Prop:=sq Tryz.prog 22 [.t (.sl (c.attacks.map λy=>[.sc (.int .i64 y)])),tn (h.claims.length:Int)] (.one (.d (.s (.sc (.bool a)))))
noncomputable abbrev L7(h:aC):Prop:=(h.claims.length:Int)=((h.claims.map zO).length:Int)
noncomputable abbrev hfL(h:aC)(c:aK)(a:Bool):Y (Nat×AV):=[(23,bo a),(22,bo a),(21,tn (h.claims.length:Int)),(20,.t (.sl (h.claims.map zO))),(19,.ptr 1001 0 21),(18,.t (.sl (c.attacks.map λy=>[.sc (.int .i64 y)]))),(17,.ptr 1002 0 2),(16,bo true),(15,bo true)]
theorem asA{h:aC}{c:aK}{F:S}{y:AV}{f:Nat}{r:Bool}:∃Θ O K,pG Tryz.prog (iM tT) (cO (cA (cB (cB mi)))) (TO h true r true) F (List.range (cO (cA (cB (cB mi)))).size) ⟨U4 true,Zv h c (hfB f 1004) y,[]⟩=
 some (⟨(4,bo r)::Θ,O,(4,none)::K⟩,[L7 h,hfA h c true,(mf h).rows[0]? =some ((jJ h).map AV.t),sq Tryz.prog f [sY c,.eW (jJ h) 0] (.one (.d (.s (.sc (.bool r)))))]):=
 ⟨[(29,bo r),(28,bo r),(27,sY c),(26,hfB f 1004),(25,.ptr 1003 0 0),(24,bo true)]++hfL h c true++U4 true,(1004,none)::Zv h c (hfB f 1004) y,[29,28,27,26,25,24,23,22,21,20,19,18,17,16,15].map λt=>(t,none),by kernel_rfl⟩
theorem aoK{h:aC}{c:aK}{F:S}{y:AV}{f:Nat}{r:Bool}:∃Θ O K,pG Tryz.prog (iM tT) (cO (cA (cB (cB mi)))) (TO h true r false) F (List.range (cO (cA (cB (cB mi)))).size) ⟨U4 true,Zv h c (.fn f [] []) y,[]⟩=
 some (⟨(4,bo r)::Θ,O,(4,none)::K⟩,[L7 h,hfA h c true,sq Tryz.prog f [sY c] (.one (.d (.s (.sc (.bool r)))))]):=
 ⟨[(29,bo r),(28,bo r),(27,sY c),(26,.fn f [] []),(25,.ptr 1003 0 0),(24,bo true)]++hfL h c true++U4 true,Zv h c (.fn f [] []) y,[29,28,27,26,25,24,23,22,21,20,19,18,17,16,15].map λt=>(t,none),by kernel_rfl⟩
theorem TE{h:aC}{c:aK}{F:S}{x y:AV}:∃Θ O K,pG Tryz.prog (iM tT) (cO (cA (cB (cB mi)))) (TO h false false false) F (List.range (cO (cA (cB (cB mi)))).size) ⟨U4 true,Zv h c x y,[]⟩=
 some (⟨(4,bo false)::Θ,O,(4,none)::K⟩,[L7 h,hfA h c false,false=true->false=true]):=
 ⟨[(29,bo false),(28,.undef),(27,.undef),(26,.undef),(25,.undef),(24,bo false)]++hfL h c false++U4 true,Zv h c x y,[(29,none),(28,some false),(27,some false),(26,some false),(25,some false),(24,none),(23,none),(22,none),(21,none),(20,none),(19,none),(18,none),(17,none),(16,none),(15,none)],by kernel_rfl⟩
theorem asb{h:aC}{c:aK}{F:S}:∃Θ O K,pG Tryz.prog (iM tT) (cO (cA (cB (cB mi)))) (TO h false false false) F (List.range (cO (cA (cB (cB mi)))).size) ⟨U4 false,Zv h c nf nf,[]⟩=
 some (⟨(4,bo false)::Θ,O,(4,none)::K⟩,[false=true->false=true,false=true->false=true]):=
 ⟨[(29,bo false),(28,.undef),(27,.undef),(26,.undef),(25,.undef),(24,bo false),(23,bo false),(22,.undef),(21,.undef),(20,.undef),(19,.undef),(18,.undef),(17,.undef),(16,bo false),(15,bo false)]++U4 false,Zv h c nf nf,[(29,none),(28,some false),(27,some false),(26,some false),(25,some false),(24,none),(23,none),(22,some false),(21,some false),(20,some false),(19,some false),(18,some false),(17,some false),(16,none),(15,none)],by kernel_rfl⟩
theorem P8{Ξ:Exit->St->Prop}{h:aC}{c:aK}{r:J (Nat×AV)}{x y x' y':AV}(hm:yH (.int .i64 c.ec) (pd (cD 1+1))=some r)(hz:xy r (some (.agg [nf,nf]))=some (.agg [x,y]))
 (hr:pG Tryz.prog (iM tT) (cO (cA (cB mi))) (pD h) (λ _=>none) [5,6,7,8,9,10] ⟨(12,.eE [.agg [x,y],bo r.isSome])::zd h c,zg h c,(12,none)::AH⟩=
  some (⟨[(6,bo r.isSome),(5,.ptr (cD 8) 0 0),(14,bo r.isSome),(13,.agg [x,y]),(7,.eE [.agg [x,y],bo r.isSome]),(12,.eE [.agg [x,y],bo r.isSome])]++zd h c,[(cD 8,some ⟨2,[[x,y]]⟩),(cD 8,some ⟨2,[[nf,nf]]⟩)]++zg h c,[(6,none),(5,none),(14,none),(13,none),(7,none),(12,none)]++AH⟩,[]))
 (hx:∀z∈[(x,x'),(y,y')],ik (fR [(cD 8,1003),(cD 1+1,1004)]) z.1=z.2/\(refs z.1).all (dR [(cD 8,1003),(cD 1+1,1004)])=true/\(refs z.2).all (Nat.blt · 1000000)=true)
 (hq:Ev Tryz.prog Tryz.f20.ntmps (.seq (cA (cB (cB mi))) .ret) Ξ ((⟨U4 r.isSome,Zv h c x' y',[]⟩:ix).st λ_=>none)):
 Ev Tryz.prog Tryz.f20.ntmps mi Ξ ((⟨[(0,ri h),(1,sY c)],[],[]⟩:ix).st λ_=>none):=by
 show Ev _ _ (Code.seq (cA mi) (Code.seq (cA (cB mi)) (Code.seq (cA (cB (cB mi))) Code.ret))) _ _;refine BX (tK (ag:=cO (cA mi)) (σ2:=(⟨RW,RR h c,[]⟩:ix).st λ_=>none) yD (by kernel_rfl) asz trivial ?_ ?_)
 .refine vJ [(cD 0,1001),(cD 1,1002)] (by kernel_rfl) (λ p hp=>?_) (λ q hq o' ho=>?_) rfl (by kernel_rfl) (by kernel_rfl)
  .simp only[aI,bB,or_false]at hp;rcases hp with rfl|rfl<;>exact⟨rfl,rfl,rfl⟩
  .simp only[aI,bB,or_false]at hq;rcases hq with rfl|rfl
   .cases ho;exact⟨cD 0,mf h,rfl,rfl,rfl,rfl,rfl⟩
   .cases ho;exact⟨cD 1,yq c,rfl,rfl,rfl,rfl,rfl⟩
 have hrun:=JX [0,1,2,3] ([4]++[5,6,7,8,9,10]) _ _ _ _ _ ar6 (JX [4] [5,6,7,8,9,10] _ _ _ _ _ (asa hm hz) hr);refine BX (X5 (ag:=cO (cA (cB mi))) (σ2:=(⟨U4 r.isSome,Zv h c x' y',[]⟩:ix).st λ_=>none) yD mixed (by kernel_rfl) ar9 hrun ?_ ?_ hq)
 .exact⟨aqs h,akI h,akJ⟩
 .obtain⟨a1,a2,a3⟩:=hx (x,x') (by simp);obtain⟨b1,b2,b3⟩:=hx (y,y') (by simp);refine vJ [(cD 8,1003),(cD 1+1,1004)] (by kernel_rfl) (λ p hp=>?_) (λ q hq o' ho=>?_) rfl (by cases r<;>rfl) ?_
  .simp only[aI,bB,or_false]at hp;rcases hp with rfl|rfl|rfl|rfl<;>exact⟨rfl,rfl,rfl⟩
  .simp only[aI,bB,or_false]at hq;rcases hq with rfl|rfl|rfl|rfl
   .cases ho;exact⟨1001,mf h,rfl,rfl,rfl,rfl,rfl⟩
   .cases ho;exact⟨1002,yq c,rfl,rfl,rfl,rfl,rfl⟩
   .cases ho;refine⟨cD 8,⟨2,[[x,y]]⟩,rfl,rfl,rfl,?_,?_⟩
    .simp only[Dt,bq,List.map_nil,wB];rw[a1,b1]
    .simp only[all_cons,List.all_nil,dJ,List.append_nil,List.all_append];rw[a2,b2];rfl
   .cases ho;exact⟨cD 1+1,mf h,rfl,rfl,rfl,rfl,rfl⟩
  .have e:(Nat.blt 1003 1000000&&((some (⟨2,[[x',y']]⟩:aN)).map λo=>o.rows.all λr=>(dJ r).all (Nat.blt · 1000000)).getD true)=true:=(by simp only[Option.map_some,Option.getD_some,all_cons,List.all_nil,dJ,List.append_nil,List.all_append];rw[a3,b3];rfl);simp only[Zv,all_cons,List.all_nil,e,Bool.and_true];rfl
theorem Gh{Φ:Y (Nat×Option aN)}{b r:Bool}{obs:Y Prop}{dp:Nat->ky}{Θ:Y (Nat×AV)}{O:Y (Nat×Option aN)}{K:Y (Nat×Option Bool)}
 (hr:pG Tryz.prog (iM tT) (cO (cA (cB (cB mi)))) dp (λ _=>none) (List.range (cO (cA (cB (cB mi)))).size) ⟨U4 b,Φ,[]⟩=some (⟨(4,bo r)::Θ,O,(4,none)::K⟩,obs)) (ho:iZ obs):
 Ev Tryz.prog Tryz.f20.ntmps (.seq (cA (cB (cB mi))) .ret) (Pc (iM tT) Tryz.f20.results.toList (.one (.d (.s (.sc (.bool r))))) []) ((⟨U4 b,Φ,[]⟩:ix).st λ_=>none):=by refine BX (tK (ag:=cO (cA (cB (cB mi)))) (σ2:=(⟨[(4,bo r)],[],[]⟩:ix).st λ_=>none) yD (by kernel_rfl) hr ho ?_ (Wg ⟨[bo r],none,rfl,rfl,λj p hj=>by simp at hj⟩));refine vJ [] (by kernel_rfl) (λ p hp=>?_) (λ q hq=>by cases hq) rfl rfl rfl;simp only[bC]at hp;subst hp;exact⟨rfl,rfl,rfl⟩
noncomputable def Em(n:Nat):cy xx:=⟨[.d dF,.d dL],[.d .bool],λa=>nZ n a.1 a.2.1,none⟩
theorem CH(h:aC):L7 h:=by simp[L7]
theorem aoL(ka:aD 22 (vK n))(k1:aD 46 kE)(k2:aD 47 (o8 n))(k4:aD 53 (o9 n))(k6:aD 58 pq)(h:aC)(c:aK)(r:Bool)(e:nZ n h c=some r):ro Tryz.prog 20 [ri h,sY c] [] [] (.one (.d (.s (.sc (.bool r))))):=by
 have hb:Tryz.f20.body=some mi:=by kernel_rfl
 have hn : (Tryz.f20.name == "runtime.NumGoroutine") = false := by kernel_rfl
 refine QK (args:=[ri h,sY c]) (os:=[]) (os':=[]) yD func20 hb hn (by show 2<=Tryz.f20.ntmps;decide +kernel) (λ k hk=>by have hk:k∈([]:Y Nat):=hk;cases hk) (by simp) rfl ?_;show Ev _ _ mi (Pc (iM tT) Tryz.f20.results.toList (.one (.d (.s (.sc (.bool r))))) []) ((⟨[(0,ri h),(1,sY c)],[],[]⟩:ix).st λ_=>none);unfold nZ at e;have fa:∀{a:Bool},fD n c.attacks (h.claims.length:Int)=some a->hfA h c a:=λ{a} ha=>pu (ka.2.1 (c.attacks,(h.claims.length:Int),()) a ha);have sp:∀{X:J Bool},((fD n c.attacks (h.claims.length:Int)).bind λa=>bif a then X else some false)=some r->(hfA h c true/\X=some r)\/(hfA h c false/\r=false):=λ{X} hx=>by
  rw[ah]at hx;obtain⟨a,ha,hx⟩:=hx;cases a with
  |true=>exact .inl ⟨fa ha,hx⟩
  |false=>injection hx with hx;exact .inr ⟨fa ha,hx.symm⟩
 by_cases h0:c.ec=0
 .rw[h0]at e;rcases sp e with ⟨g1,g2⟩|⟨g1,rfl⟩
  .have f:=pu (k1.2.1 (c,()) r g2);obtain⟨Θ,O,K,hr⟩:=aoK (h:=h) (c:=c) (F:=λ_=>none) (y:=hf0) (f:=46) (r:=r);exact P8 (r:=some (0,.agg [hf0,hf0])) (by rw[h0];rfl) rfl Ui (λ z hz=>by simp only[aI,bB,or_false]at hz;rcases hz with rfl|rfl<;>exact⟨rfl,rfl,rfl⟩) (Gh hr ⟨CH h,g1,f⟩)
  .obtain⟨Θ,O,K,hr⟩:=TE (h:=h) (c:=c) (F:=λ_=>none) (x:=hf0) (y:=hf0);exact P8 (r:=some (0,.agg [hf0,hf0])) (by rw[h0];rfl) rfl Ui (λ z hz=>by simp only[aI,bB,or_false]at hz;rcases hz with rfl|rfl<;>exact⟨rfl,rfl,rfl⟩) (Gh hr ⟨CH h,g1,λe=>e⟩)
 by_cases h1:c.ec=1
 .rw[h1]at e;rcases sp e with ⟨g1,g2⟩|⟨g1,rfl⟩
  .have f:=pu (k2.2.1 (c,()) r g2);obtain⟨Θ,O,K,hr⟩:=aoK (h:=h) (c:=c) (F:=λ_=>none) (y:=hfB 50 1004) (f:=47) (r:=r);exact P8 (r:=some (1,.agg [.fn 47 [] [],hfB 50 (cD 1+1)])) (by rw[h1];rfl) rfl Ui (λ z hz=>by simp only[aI,bB,or_false]at hz;rcases hz with rfl|rfl<;>exact⟨rfl,rfl,rfl⟩) (Gh hr ⟨CH h,g1,f⟩)
  .obtain⟨Θ,O,K,hr⟩:=TE (h:=h) (c:=c) (F:=λ_=>none) (x:=.fn 47 [] []) (y:=hfB 50 1004);exact P8 (r:=some (1,.agg [.fn 47 [] [],hfB 50 (cD 1+1)])) (by rw[h1];rfl) rfl Ui (λ z hz=>by simp only[aI,bB,or_false]at hz;rcases hz with rfl|rfl<;>exact⟨rfl,rfl,rfl⟩) (Gh hr ⟨CH h,g1,λe=>e⟩)
 by_cases h2:c.ec=2
 .rw[h2]at e;rcases sp e with ⟨g1,g2⟩|⟨g1,rfl⟩
  .have f:=pu (k4.2.1 (c,h,()) r g2);obtain⟨Θ,O,K,hr⟩:=asA (h:=h) (c:=c) (F:=λ_=>none) (y:=hfB 56 1004) (f:=53) (r:=r);exact P8 (r:=some (2,.agg [hfB 53 (cD 1+1),hfB 56 (cD 1+1)])) (by rw[h2];rfl) rfl Ui (λ z hz=>by simp only[aI,bB,or_false]at hz;rcases hz with rfl|rfl<;>exact⟨rfl,rfl,rfl⟩) (Gh hr ⟨CH h,g1,rfl,f⟩)
  .obtain⟨Θ,O,K,hr⟩:=TE (h:=h) (c:=c) (F:=λ_=>none) (x:=hfB 53 1004) (y:=hfB 56 1004);exact P8 (r:=some (2,.agg [hfB 53 (cD 1+1),hfB 56 (cD 1+1)])) (by rw[h2];rfl) rfl Ui (λ z hz=>by simp only[aI,bB,or_false]at hz;rcases hz with rfl|rfl<;>exact⟨rfl,rfl,rfl⟩) (Gh hr ⟨CH h,g1,λe=>e⟩)
 by_cases h3:c.ec=3
 .rw[h3]at e;rcases sp e with ⟨g1,g2⟩|⟨g1,rfl⟩
  .have f:=pu (k6.2.1 (c,()) r g2);obtain⟨Θ,O,K,hr⟩:=aoK (h:=h) (c:=c) (F:=λ_=>none) (y:=hfB 59 1004) (f:=58) (r:=r);exact P8 (r:=some (3,.agg [.fn 58 [] [],hfB 59 (cD 1+1)])) (by rw[h3];rfl) rfl Ui (λ z hz=>by simp only[aI,bB,or_false]at hz;rcases hz with rfl|rfl<;>exact⟨rfl,rfl,rfl⟩) (Gh hr ⟨CH h,g1,f⟩)
  .obtain⟨Θ,O,K,hr⟩:=TE (h:=h) (c:=c) (F:=λ_=>none) (x:=.fn 58 [] []) (y:=hfB 59 1004);exact P8 (r:=some (3,.agg [.fn 58 [] [],hfB 59 (cD 1+1)])) (by rw[h3];rfl) rfl Ui (λ z hz=>by simp only[aI,bB,or_false]at hz;rcases hz with rfl|rfl<;>exact⟨rfl,rfl,rfl⟩) (Gh hr ⟨CH h,g1,λe=>e⟩)
 .have er:r=false:=by rw[show (c.ec==0)=false by simpa using h0,show(c.ec==1)=false by simpa using h1,show(c.ec==2)=false by simpa using h2,show(c.ec==3)=false by simpa using h3]at e;injection e with e;exact e.symm
  subst er;obtain⟨Θ,O,K,hr⟩:=asb (h:=h) (c:=c) (F:=λ_=>none);exact P8 (r:=none) (akK h0 h1 h2 h3) rfl ar8 (λ z hz=>by simp only[aI,bB,or_false]at hz;rcases hz with rfl|rfl<;>exact⟨rfl,rfl,rfl⟩) (Gh hr ⟨λ e=>e,λe=>e⟩)
theorem Sb(ka:aD 22 (vK n))(k1:aD 46 kE)(k2:aD 47 (o8 n))(k4:aD 53 (o9 n))(k6:aD 58 pq):aD 20 (Em n):=
 xl (qG (c:=mi) func20 (by kernel_rfl) (by kernel_rfl)) (λ a r e=>aoL n ka k1 k2 k4 k6 a.1 a.2.1 r e) rfl
theorem Sc:aD 20 (Em n):=Sb n (vL n) vM (Ga n) (Gf n) Gg
def P9:cy xx:=⟨[.d eX,.d af,.d af],[.fresh aF],λa=>pK n a.1 a.2.1 a.2.2.1,none⟩
def Qa:Hn SI:=(cx (.s (.s .z (.b (.l ⟨[(7,.o 1448),(13,.v af)],[(1448,.l aF)],[1,2,11,12],[],1449,[(7,aF)]⟩ 0 ⟨[(7,.o 1448)],[(1448,.l aF)],[],[],1449,[]⟩ (cx (.s (.j ⟨[(7,.o 1513)],[(1513,.l aF)],[1,2,11,12,13],[],1514,[]⟩ (.b (.s .z (.s (.j ⟨[(25,.v .bool)],[],[1,2,7,9,11,12,13],[1448,1705],1897,[]⟩ .z) .z)))) .z))))) .z))
theorem BN:aD 77 (P9 n):=cq ay func77 Qa n
def G5:cy xx:=⟨[.d aF],[.d .bool],λa=>gB a.1,none⟩
def G6:Hn SI:=(cx (.s (.s (.j ⟨[(26,.v .bool)],[],[1],[1000],1384,[]⟩ .z) .z) (.s (.s (.j ⟨[(34,.v .bool)],[],[1],[1000],1384,[]⟩ .z) .z) .z)))
theorem lF:aD 78 G5:=cq (ak rM ay) func78 G6 0
def ahd:cy xx:=⟨[.d aA],[.d aA,.d .bool],λa=>zq a.1,none⟩
theorem Uj:aD 198 ahd:=cq (ak rM ay) func198 .z 0
def aoM:cy xx:=⟨[.d aA],[.d af],λa=>zT a.1,none⟩
theorem JZ:aD 157 aoM:=cq (ak Uj ay) func157 .z 0
def amh:cy xx:=⟨[.d (.sl aA)],[.d af],λa=>O6 n a.1,none⟩
def ami:Hn SI:=(iu (.s (.s .z (.b (.l ⟨[(3,.v af),(11,.v af)],[],[9,10],[],1512,[]⟩ 0 ⟨[(3,.v af)],[],[],[],1512,[]⟩ .z))) .z))
theorem acO:aD 105 (amh n):=cq (ak (o7 n) (ak JZ ay)) func105 ami n
def Nj:cy xx:=⟨[.mut aA,.eC [aA,aA] af],[.mu aA],λa=>wM n a.1 a.2.1,none⟩
theorem Nk:aD 106 (Nj n):=by have hcall:eH Tryz.prog 106:=⟨_,func106,by kernel_rfl,by kernel_rfl⟩;refine xl hcall (λ a r h=>?_) rfl;obtain⟨l,Z,⟨⟩⟩:=a;refine Rh (X:=xx) (i:=SI.nw) (hI:=(inferInstance:Inhabited ax)) Tryz.so106 rfl hcall Tryz.underlying90 (by kernel_rfl) (λ x t ht=>?_) h;cases x;have ht:t∈[_,_,_,_]:=ht;simp only[aI,bB,or_false]at ht;rcases ht with rfl|rfl|rfl|rfl<;>exact⟨_,rfl,trivial⟩
def En:cy xx:=⟨[.d aA,.d aA],[.d af],λa=>iV a.1 a.2.1,none⟩
theorem Eo:aD 107 En:=cq (ak qz ay) func107 .z 0
def Qb:cy xx:=⟨[.d aF],[.d af],λa=>lQ a.1,none⟩
def Qc:Hn SI:=(.s .z (.s (.s (.j ⟨[(9,.v .bool)],[],[1],[1000],1128,[]⟩ .z) .z) .z))
theorem BP:aD 112 Qb:=cq (ak lF ay) func112 Qc 0
def U5:cy xx:=⟨[.d aF],[.d af],λa=>p9 a.1,none⟩
theorem GK:aD 110 U5:=cq (ak lF (ak JZ (ak BP ay))) func110 .z 0
def Cw:cy xx:=⟨[.d aF],[.d af],λa=>oO a.1,none⟩
theorem Cx:aD 113 Cw:=cq ay func113 .z 0
def Ep:cy xx:=⟨[.d aF],[.d af],λa=>qi a.1,none⟩
theorem Er:aD 114 Ep:=cq ay func114 .z 0
def U6:cy xx:=⟨[.d aA,.d af],[.d aA,.d .bool],λa=>Ck a.1 a.2.1,none⟩
theorem U7:aD 160 U6:=cq (ak rM ay) func160 .z 0
def aaZ:cy xx:=⟨[.d aA,.d aA],[.d aA,.d .bool],λa=>uj a.1 a.2.1,none⟩
def aa0:Hn SI:=(.s .z (.s (.s (.j ⟨[(13,.v .bool)],[],[2,3,4],[1000,1064,1128],1256,[]⟩ .z) .z) .z))
theorem Cy:aD 161 aaZ:=cq (ak rM (ak Uj ay)) func161 aa0 0
def Sd:cy xx:=⟨[.d gX,.ref (.st SI.oT),.ref af],[.d .bool],λa=>kQ a.1 a.2.1 a.2.2.1,none⟩
theorem Sg:aD 207 Sd:=cq ay func207 .z 0
def aa1:cy xx:=⟨[.d gT,.d af],[.d af],λa=>Bo n a.1 a.2.1,none⟩
def aa2:Hn SI:=(cx (.s (.s .z (.b (.lx ⟨[(14,.v af)],[],[3,5,12,13],[1064,1256],1640,[]⟩ 0 ⟨[],[],[],[],1640,[]⟩ (cx (.s (.b (iu (.s (.j ⟨[(8,.v af)],[],[],[],2344,[]⟩ .z) .z))) .z))))) .z))
theorem aa3:aD 162 (aa1 n):=cq (ak (qQ n) (ak Sg ay)) func162 aa2 n
def Qd:cy xx:=⟨[.d gT,.d aF],[.d af],λa=>jK n a.1 a.2.1,none⟩
def Qe:Hn SI:=(cx (.s (.s (.j ⟨[(20,.v .bool)],[],[5,6],[],1704,[]⟩ .z) .z) .z))
theorem Qf:aD 117 (Qd n):=cq (ak (aa3 n) (ak GK ay)) func117 Qe n
def G7:ea xx:=⟨[.p 0],[(0,gd),(1,.l aF)],[.v af],[(0,gd),(1,.l aF)],λ(qa,qb,qc,qd,qe,qf,qg,qh,qi,qj)=>nP n qa qb qc qd qe qf qg qh qi qj⟩
def G8:cy xx:=tzG (G7 n)
theorem G9:aD 79 (G8 n):=pS (ak (acO n) ay) func79 .z n
def Es:ea xx:=⟨[.p 0],[(0,gd),(1,.l aF)],[.v af],[(0,gd),(1,.l aF)],λ(qa,qb,qc,qd,qe,qf,qg,qh,qi,qj)=>iW n qa qb qc qd qe qf qg qh qi qj⟩
def Et:cy xx:=tzG (Es n)
def Eu:Hn SI:=(iu (.s (.s .z (.b (.l ⟨[(3,.o 1960),(23,.v af)],[(1448,.l aA),(1960,.l af)],[4,21,22],[0,1],1961,[(3,af)]⟩ 0 ⟨[(3,.o 1960)],[(1448,.l aA),(1960,.l af)],[4],[0,1],1961,[]⟩ .z))) (iu (.s (.s .z (.b (.l ⟨[(7,.v af),(56,.v af)],[],[3,4,55],[0,1,1448,1960],2601,[]⟩ 2 ⟨[(7,.v af)],[],[],[0,1],2601,[]⟩ (cx (.s (.b (iu (.b (.l ⟨[(7,.v af),(9,.v af),(61,.v af)],[],[3,4,8,55,56,59,60],[0,1,1448,1960],3049,[]⟩ 4 ⟨[(7,.v af)],[],[3,4,55,56],[0,1,1448,1960],3049,[]⟩ (cx (.s (.j ⟨[(7,.v af),(9,.v af)],[],[3,4,8,55,56,59,60,61],[0,1,1448,1960],3113,[]⟩ (.b (.s .z (.s (.j ⟨[(86,.v .bool)],[],[3,4,7,8,9,11,55,56,59,60,61],[0,1,1448,1960,3241],3369,[]⟩ .z) .z)))) .z)))))) .z))))) .z))))
theorem Ew:aD 80 (Et n):=pS (ak (Nk n) (ak Eo (ak (qc n) ay))) func80 Eu n
def He:ea xx:=⟨[.p 0,.f 110 [] []],[(0,gd),(1,.l aF)],[.v af],[(0,gd),(1,.l aF)],λ(qa,qb,qc,qd,qe,qf,qg,qh,qi,qj)=>rT n qa qb qc qd qe qf qg qh qi qj⟩
def Hf:cy xx:=tzG (He n)
def Hg:Hn SI:=(cx (.s (.s .z (.b (.l ⟨[(5,.v af),(13,.v af)],[],[1,11,12],[0,1],1512,[]⟩ 0 ⟨[(5,.v af)],[],[],[0,1],1512,[]⟩ .z))) .z))
theorem Hl:aD 109 (Hf n):=pS (ak GK ay) func109 Hg n
def Ey:ea xx:=⟨[.p 0],[(0,gd),(1,.l aF)],[.v af],[(0,gd),(1,.l aF)],λ(qa,qb,qc,qd,qe,qf,qg,qh,qi,qj)=>kZ n qa qb qc qd qe qf qg qh qi qj⟩
def Ez:cy xx:=tzG (Ey n)
theorem EA:aD 81 (Ez n):=pS (ak (Hl n) ay) func81 .z n
def Ae:ea xx:=⟨[.p 0,.f 112 [] []],[(0,gd),(1,.l aF)],[.v af],[(0,gd),(1,.l aF)],λ(qa,qb,qc,qd,qe,qf,qg,qh,qi,qj)=>nH n qa qb qc qd qe qf qg qh qi qj⟩
def Af:cy xx:=tzG (Ae n)
def Ag:Hn SI:=(cx (.s (.s .z (.b (.l ⟨[(5,.v af),(13,.v af)],[],[1,11,12],[0,1],1512,[]⟩ 0 ⟨[(5,.v af)],[],[],[0,1],1512,[]⟩ .z))) .z))
theorem Ah:aD 111 (Af n):=pS (ak BP ay) func111 Ag n
def Cz:ea xx:=⟨[.p 0],[(0,gd),(1,.l aF)],[.v af],[(0,gd),(1,.l aF)],λ(qa,qb,qc,qd,qe,qf,qg,qh,qi,qj)=>jY n qa qb qc qd qe qf qg qh qi qj⟩
def CB:cy xx:=tzG (Cz n)
theorem CF:aD 82 (CB n):=pS (ak (Ah n) ay) func82 .z n
def Ai:ea xx:=⟨[.p 0,.f 113 [] []],[(0,gd),(1,.l aF)],[.v af],[(0,gd),(1,.l aF)],λ(qa,qb,qc,qd,qe,qf,qg,qh,qi,qj)=>nI n qa qb qc qd qe qf qg qh qi qj⟩
def Aj:cy xx:=tzG (Ai n)
def Ak:Hn SI:=(cx (.s (.s .z (.b (.l ⟨[(5,.v af),(13,.v af)],[],[1,11,12],[0,1],1512,[]⟩ 0 ⟨[(5,.v af)],[],[],[0,1],1512,[]⟩ .z))) .z))
theorem Al:aD 111 (Aj n):=pS (ak Cx ay) func111 Ak n
def CG:ea xx:=⟨[.p 0],[(0,gd),(1,.l aF)],[.v af],[(0,gd),(1,.l aF)],λ(qa,qb,qc,qd,qe,qf,qg,qh,qi,qj)=>jZ n qa qb qc qd qe qf qg qh qi qj⟩
def CJ:cy xx:=tzG (CG n)
end
end Go.Proofs
