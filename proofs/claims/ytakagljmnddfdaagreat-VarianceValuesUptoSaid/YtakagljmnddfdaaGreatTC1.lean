import Derived.Test.YtakagljmnddfdaaGreatS3
namespace Go.Proofs
open Go.Gb Go.RowKit
abbrev eR:OP SI:=.c 10 [[.v (.sl bB),.v (.sl aZ),.v (.sl bD),.v (.sl aU),.v (.sl bH),.v (.sl bF),.v (.sl aX),.v ah,.v (.sl aB),.o 1]]
abbrev p7:OP SI:=.c 1 [[.o 1]]
abbrev rx:OP SI:=.c 1 [[.v .str]]
abbrev ro:OP SI:=.c 2 [[.v (.sl bB),(.v (.sl (.sl ah)))]]
abbrev tM:OP SI:=.c 10 [[.v (.sl bB),.v (.sl aZ),.v (.sl bD),.v (.sl aU),.v (.sl bH),.v (.sl bF),.v (.sl aX),.v ah,.v (.sl aB),.o 2]]
abbrev uu:OP SI:=.c 1 [[.v (.sl .str)]]
abbrev ut:OP SI:=.c 2 [[.v ah,.v ah]]
abbrev xc:OP SI:=.c 1 [[.o 1384]]
abbrev AW:OP SI:=.c 4 [[.v ah,.v ah,.v ah,.v ah]]
abbrev Hj:OP SI:=.c 10 [[.v (.sl bB),.v (.sl aZ),.v (.sl bD),.v (.sl aU),.v (.sl bH),.v (.sl bF),.v (.sl aX),.v ah,.v (.sl aB),.o 1960]]
abbrev b8(a:Hn SI):Hn SI:=.s .z (.s .z a)
abbrev fi(a:Hn SI):Hn SI:=.s .z (.s .z (.s .z a))
abbrev pr(a:Hn SI):Hn SI:=.s .z (.s .z (.s .z (.s .z a)))
abbrev Rd(a:Hn SI):Hn SI:=.s .z (.s .z (.s .z (.s .z (.s .z a))))
open Tryz
noncomputable section
variable (n:Nat)
def ajc:bz xx:=⟨[],[.d gG],λ_=>O7,none⟩
theorem ajd:aK 12 ajc :=cq aA func12 .z 0
def ZA:bz xx:=⟨[.d gG],[.d .bool],λa=>uP n a.1,none⟩
def ZB:Hn SI:=(.s .z (.s (.s (.j ⟨[(18,.v .bool)],[],[1],[1000],1128,[]⟩ .z) .z) (.s (.s .z (.b (.lx ⟨[(22,.v ah)],[],[1,20,21],[1000],1384,[]⟩ 0 ⟨[],[],[],[],1384,[]⟩ (b8 (.s (.b (.s .z (.s (.j ⟨[(41,.v .bool)],[],[1,20,21,22],[1000],1704,[]⟩ .z) .z))) .z))))) .z)))
theorem J6:aK 45 (ZA n) :=cq aA func45 ZB n
def ZC:bz xx:=⟨[.d gG],[.d (.st SI.cW)],λa=>uQ n a.1,none⟩
def ZE:Hn SI:=(b8 (.s (.s .z (.b (.l ⟨[(9,.v ah)],[(1128,.l .bool)],[2,3,7,8],[1064],1448,[]⟩ 0 ⟨[],[(1128,.l .bool)],[2,3],[1064],1448,[]⟩ .z))) .z))
theorem J7:aK 47 (ZC n) :=cq aA func47 ZE n
def ZF:bz xx:=⟨[.d (.st SI.cW)],[.d (.st SI.cW)],λa=>uR n a.1,none⟩
def ZG:Hn SI:=(.s .z (.s (.s .z (.b (.l ⟨[(3,.p 1320)],[(1000,.l .bool),(1320,.l .bool)],[1,2],[1064],1321,[]⟩ 0 ⟨[],[(1000,.l .bool)],[1,2],[1064],1320,[]⟩ (.s .z (.s (.b (b8 (.b (.l ⟨[(12,.v ah)],[(1000,.l .bool)],[1,2,3],[1064,1320],1705,[]⟩ 2 ⟨[],[(1000,.l .bool)],[1,2,3],[1064,1320],1705,[]⟩ (b8 (.s (.b (b8 (.b (.l ⟨[(15,.v ah)],[(1000,.l .bool)],[1,2,3,4,12],[1064,1320],1961,[]⟩ 4 ⟨[],[(1000,.l .bool)],[1,2,3,12],[1064,1320],1961,[]⟩ (b8 (.s (.b (b8 (.b (.l ⟨[(18,.v ah)],[(1000,.l .bool)],[1,2,3,4,5,12,15],[1064,1320],2217,[]⟩ 6 ⟨[],[(1000,.l .bool)],[1,2,3,4,12,15],[1064,1320],2217,[]⟩ (b8 (.s (.j ⟨[],[(1000,.l .bool)],[1,2,3,4,5,12,15,18],[1064,1320],2281,[]⟩ .z) .z)))))) .z)))))) .z)))))) .z))))) .z))
theorem ZH:aK 46 (ZF n) :=cq aA func46 ZG n
def Va:bz xx:=⟨[.d gG],[.d (.st SI.cW),.d .bool],λa=>rW n a.1,none⟩
def Vb:Hn SI:=(fi (.s (.s .z (.b (.lx ⟨[(14,.v ah)],[],[1,2,4],[1000,1064,1576],1768,[]⟩ 0 ⟨[],[],[1,2,4],[1000,1064,1576],1768,[]⟩ .z))) (.s (.s .z (.b (.l ⟨[(26,.v ah)],[(1576,.l .bool)],[2,4,25],[1064],1960,[]⟩ 2 ⟨[],[(1576,.l .bool)],[2,4],[1064],1960,[]⟩ .z))) .z)))
theorem Gz:aK 17 (Va n) :=cq (au (J6 n) (au (J7 n) (au (ZH n) aA))) func17 Vb n
def ZI:bz xx:=⟨[.d (.sl gG)],[.d .bool],λa=>uS n a.1,none⟩
def ZJ:Hn SI:=(.s .z (.s (.s .z (.b (.lx ⟨[(9,.v ah)],[],[0,7,8],[],1256,[]⟩ 0 ⟨[],[],[0],[],1256,[]⟩ .z))) .z))
theorem J8:aK 8 (ZI n) :=cq (au (Gz n) aA) func8 ZJ n
def Vd:bz xx:=⟨[.d (.sl aB)],[.fresh aB],λa=>Cn a.1,none⟩
theorem Ve:aK 125 Vd :=cq aA func125 .z 0
def ZK:bz xx:=⟨[.d (.sl ah)],[.fresh ah],λa=>nZ a.1,none⟩
theorem vK:aK 21 ZK :=cq aA func21 .z 0
def aje:bz xx:=⟨[.d (.st SI.Lot)],[.d (.st SI.Lot)],λa=>O8 a.1,none⟩
theorem ajf:aK 76 aje :=cq (au Ve (au vK aA)) func76 .z 0
def al0:bz xx:=⟨[.d (.sl (.st SI.Lot)),.d ah],[.d (.st SI.Lot),.d .bool],λa=>Bw n a.1 a.2.1,none⟩
def al1:Hn SI:=(.s .z (.s (.s .z (.b (.lx ⟨[(10,.v ah)],[],[1,4,8,9],[1000],1320,[]⟩ 0 ⟨[],[],[4],[1000],1320,[]⟩ .z))) .z))
theorem Sj:aK 35 (al0 n) :=cq (au ajf aA) func35 al1 n
def Sk:bz xx:=⟨[.mut .str],[.mu .str],λa=>uT n a.1,none⟩
theorem Sl:aK 78 (Sk n):=by
 have hcall:eU Tryz.prog 78:=⟨_,func78,by kernel_rfl,by kernel_rfl⟩;refine An hcall (λ a r h=>?_) rfl;obtain⟨l,⟨⟩⟩:=a;exact alk Tryz.so78 rfl hcall h
def Lm:bz xx:=⟨[.mut .str],[.whole 0,.mu .str],λa=>pU n a.1,none⟩
def Lp:Hn SI:=(b8 (.s (.s .z (.b (.lx ⟨[(3,.v ah)],[],[0],[0],1320,[]⟩ 0 ⟨[],[],[0],[0],1320,[]⟩ (.s .z (.s (.b (.s .z (.s (.s .z (.s (.s .z (.b (.l ⟨[(3,.v ah),(5,.v ah)],[(0,.l .str)],[0,4],[],2536,[]⟩ 2 ⟨[(3,.v ah)],[(0,.l .str)],[0],[],2536,[]⟩ (.s .z (.s (.j ⟨[(3,.v ah)],[(0,.l .str)],[0,4,5],[],2792,[]⟩ .z) .z))))) .z)) .z))) .z))))) .z))
theorem Lr:aK 37 (Lm n) :=cq aA func37 Lp n
def GX:cH xx:=⟨[.v (.sl .str)],[],[(.f 79 [] [.p 1000])],[(1000,uu)],λv=>rC v⟩
def GY:bz xx:=tzG (GX)
theorem GZ:aK 39 GY :=lr aA func39 .z 0
def aqO:bz xx:=tzG (aq5 .str 79)
theorem aqP:aK 126 aqO:=Nd (ul func126 (by kernel_rfl:Tryz.f126.body=some (Tryz.f126.body.getD .skip)) (by kernel_rfl)) (amZ (λ _=>rfl) (λ _=>trivial) (ul func126 (by kernel_rfl:Tryz.f126.body=some (Tryz.f126.body.getD .skip)) (by kernel_rfl)) sE)
def FZ:cH xx:=⟨[(.f 79 [] [.p 0])],[(0,uu)],[.o 1000],[(0,uu),(1000,.l .str)],λv=>qm v⟩
def F3:bz xx:=tzG (FZ)
theorem F4:aK 77 F3 :=lr (au aqP aA) func77 .z 0
def G5:cH xx:=⟨[(.f 79 [] [.p 0])],[(0,uu)],[.o 1000],[(0,uu),(1000,.l .str)],λv=>rD n v⟩
def G6:bz xx:=tzG (G5 n)
theorem G7:aK 38 (G6 n) :=lr (au F4 (au (Sl n) aA)) func38 .z n
def G8:bz xx:=⟨[.ref (.sl .str)],[.d ah],λa=>nk n a.1,none⟩
theorem G9:aK 36 (G8 n) :=cq (au GZ (au (G7 n) (au (Lr n) aA))) func36 .z n
def al2:bz xx:=⟨[.d aB],[.d .bool],λa=>pV a.1,none⟩
theorem qX:aK 115 al2 :=cq aA func115 .z 0
def ZL:bz xx:=⟨[.nil,.d ah],[.fresh aB],λa=>O9 a.1 a.2.1,none⟩
theorem ZM:aK 254 ZL :=cq aA func254 .z 0
def Sm:bz xx:=⟨[.d (.sl (.sl aB))],[.fresh aB],λa=>zN n a.1,none⟩
def Sn:Hn SI:=(b8 (.s (.s .z (.b (.l ⟨[(3,.v ah),(11,.v ah)],[],[0,9,10],[],1320,[]⟩ 0 ⟨[(3,.v ah)],[],[0],[],1320,[]⟩ .z))) (.s .z (.s (.s .z (.b (.l ⟨[(6,.o 1704),(27,.v ah)],[(1704,.l aB)],[25,26],[],1705,[]⟩ 2 ⟨[(6,.o 1704)],[(1704,.l aB)],[],[],1705,[]⟩ .z))) .z))))
theorem Sq:aK 216 (Sm n) :=cq (au ZM aA) func216 Sn n
def abu:bz xx:=⟨[.mut ah],[.mu ah],λa=>nR n a.1,none⟩
theorem sH:aK 81 (abu n):=by
 have hcall:eU Tryz.prog 81:=⟨_,func81,by kernel_rfl,by kernel_rfl⟩;refine An hcall (λ a r h=>?_) rfl;obtain⟨l,⟨⟩⟩:=a;exact alj Tryz.so81 rfl hcall h
def Sr:bz xx:=⟨[.mut ah],[.whole 0,.mu ah],λa=>nL n a.1,none⟩
def Sv:Hn SI:=(b8 (.s (.s .z (.b (.lx ⟨[(3,.v ah)],[],[0],[0],1320,[]⟩ 0 ⟨[],[],[0],[0],1320,[]⟩ (.s .z (.s (.b (.s .z (.s (.s .z (.s (.s .z (.b (.l ⟨[(3,.v ah),(5,.v ah)],[(0,.l ah)],[0,4],[],2536,[]⟩ 2 ⟨[(3,.v ah)],[(0,.l ah)],[0],[],2536,[]⟩ (.s .z (.s (.j ⟨[(3,.v ah)],[(0,.l ah)],[0,4,5],[],2792,[]⟩ .z) .z))))) .z)) .z))) .z))))) .z))
theorem qY:aK 82 (Sr n) :=cq aA func82 Sv n
def Nj:bz xx:=⟨[.mut (.st SI.span),.du [.st SI.span,.st SI.span] ah],[.mu (.st SI.span)],λa=>wE n a.1 a.2.1,none⟩
theorem Nk:aK 255 (Nj n):=by
 have hcall:eU Tryz.prog 255:=⟨_,func255,by kernel_rfl,by kernel_rfl⟩;refine An hcall (λ a r h=>?_) rfl;obtain⟨l,φ,⟨⟩⟩:=a;refine acK (X:=xx) (i:=SI.span) (hI:=(inferInstance:Inhabited aN)) Tryz.so255 rfl hcall Tryz.underlying315 (by kernel_rfl) (λ x t ht=>?_) h;cases x;have ht:t∈[_,_]:=ht;simp only[aO,fM,or_false]at ht;rcases ht with rfl |rfl<;>exact⟨_,rfl,trivial⟩
def Vf:bz xx:=⟨[.d ah],[.d .bool],λa=>cmp_isNaN_int a.1,none⟩
theorem Vg:aK 208 Vf :=cq aA func208 .z 0
def P5:bz xx:=⟨[.d ah,.d ah],[.d ah],λa=>cmp_Compare_int a.1 a.2.1,none⟩
theorem qb:aK 148 P5 :=cq (au Vg aA) func148 .z 0
def ZN:bz xx:=⟨[.d (.st SI.span),.d (.st SI.span)],[.d ah],λa=>yI a.1 a.2.1,none⟩
theorem ZO:aK 256 ZN :=cq (au qb aA) func256 .z 0
def ag3:bz xx:=⟨[.d (.sl aB),.d ah],[.fresh (.st SI.span)],λa=>KS n a.1 a.2.1,none⟩
def ag4:Hn SI:=(b8 (.s (.s .z (.b (.l ⟨[(5,.o 1320),(14,.v ah)],[(1320,.l (.st SI.span))],[1,12,13],[],1321,[(5,.st SI.span)]⟩ 0 ⟨[(5,.o 1320)],[(1320,.l (.st SI.span))],[],[],1321,[]⟩ (b8 (.s (.j ⟨[(5,.o 1385)],[(1385,.l (.st SI.span))],[1,12,13,14],[],1386,[]⟩ (.b (.s .z (.s (.j ⟨[(27,.v .bool)],[],[1,5,7,12,13,14],[1320,1513],1641,[]⟩ .z) .z)))) .z))))) (b8 (.s (.s .z (.b (.l ⟨[(8,.o 1705),(41,.v ah)],[(1705,.l (.st SI.span))],[39,40],[1320],1706,[(8,.st SI.span)]⟩ 2 ⟨[(8,.o 1705)],[(1705,.l (.st SI.span))],[],[],1706,[]⟩ (b8 (.s (.j ⟨[(8,.o 1770)],[(1770,.l (.st SI.span))],[39,40,41],[1320],1771,[]⟩ (.b (b8 (.s (.j ⟨[(59,.v .bool)],[],[8,10,11,39,40,41],[1320,1705,1898],2218,[]⟩ .z) .z)))) .z))))) .z))))
theorem ag5:aK 217 (ag3 n) :=cq (au (Nk n) (au ZO aA)) func217 ag4 n
def ag6:bz xx:=⟨[.d (.sl (.sl aB))],[.fresh (.st SI.strip)],λa=>pG n a.1,none⟩
def ag7:Hn SI:=(fi (.s (.s .z (.b (.l ⟨[(4,.o 1512),(13,.v ah)],[(1512,.l ah)],[3,11,12],[1128],1513,[(4,ah)]⟩ 0 ⟨[(4,.o 1512)],[(1512,.l ah)],[3],[1128],1513,[]⟩ .z))) (fi (.s (.s .z (.b (.l ⟨[(7,.o 1961),(8,.v ah)],[(1961,.l (.st SI.strip))],[3,4],[1128,1512],1962,[(7,.st SI.strip)]⟩ 2 ⟨[(7,.o 1961)],[(1961,.l (.st SI.strip))],[],[],1962,[]⟩ .z))) .z))))
theorem UB:aK 166 (ag6 n) :=cq (au (Sq n) (au (sH n) (au (qY n) (au (ag5 n) aA)))) func166 ag7 n
def Vh:bz xx:=⟨[.d (.sl (.st SI.span)),.d (.sl (.st SI.span))],[.d .bool],λa=>wO n a.1 a.2.1,none⟩
def Vi:Hn SI:=(b8 (.s (.s .z (.b (.lx ⟨[(13,.v ah)],[],[0,1,12],[],1576,[]⟩ 0 ⟨[],[],[],[],1576,[]⟩ .z))) .z))
theorem Vj:aK 215 (Vh n) :=cq aA func215 Vi n
def ajg:bz xx:=⟨[.d (.sl (.st SI.strip))],[.fresh aB],λa=>Jy n a.1,none⟩
def ajh:Hn SI:=(b8 (.s (.s .z (.b (.l ⟨[(3,.o 1192),(4,.v ah)],[(1192,.l aB)],[0],[],1193,[(3,aB)]⟩ 0 ⟨[(3,.o 1192)],[(1192,.l aB)],[],[],1193,[]⟩ (.s .z (.b (.s .z (.s (.b (.l ⟨[(5,.v ah)],[],[0,3,4],[1192],1641,[]⟩ 2 ⟨[(5,.v ah)],[],[0,3,4],[1192],1641,[]⟩ (.s (.s (.j ⟨[(30,.v .bool)],[],[0,3,4,5],[1192],1641,[]⟩ .z) .z) .z))) (.s (.s .z (.b (.l ⟨[(3,.o 2089),(39,.v ah)],[(2089,.l aB)],[0,4,5,37,38],[],2090,[]⟩ 4 ⟨[(3,.o 2089)],[(2089,.l aB)],[0,5],[],2090,[]⟩ .z))) .z)))))))) .z))
theorem ZP:aK 165 (ajg n) :=cq (au (Vj n) aA) func165 ajh n
def aez:bz xx:=⟨[.d (.sl aB)],[.d (.sl aB),.d ah],λa=>zO a.1,none⟩
theorem P6:aK 164 aez :=cq aA func164 .z 0
def apG:bz xx:=⟨[.d (.sl aB)],[.d (.sl aB),.d ah],λa=>Ok n a.1,none⟩
def apH:Hn SI:=(.s .z (.s (.s .z (.b (.lx ⟨[(8,.v ah)],[],[0,6,7],[],1320,[]⟩ 0 ⟨[],[],[0],[],1320,[]⟩ .z))) .z))
theorem apI:aK 119 (apG n) :=cq (au qX (au (UB n) (au (ZP n) (au P6 aA)))) func119 apH n
def Vk:bz xx:=⟨[.d (.sl aB),.d (.sl aB)],[.d .bool],λa=>pI n a.1 a.2.1,none⟩
def Vl:Hn SI:=(b8 (.s (.s .z (.b (.lx ⟨[(13,.v ah)],[],[0,1,12],[],1576,[]⟩ 0 ⟨[],[],[],[],1576,[]⟩ .z))) .z))
theorem GA:aK 120 (Vk n) :=cq aA func120 Vl n
def aji:bz xx:=⟨[.d (.sl aB)],[.d .bool],λa=>l5 n a.1,none⟩
theorem oL:aK 71 (aji n) :=cq (au (apI n) (au (GA n) aA)) func71 .z n
def P7:bz xx:=⟨[.d dR,.d ah,.d ah],[.fresh aI],λa=>oU n a.1 a.2.1 a.2.2.1,none⟩
def P8:Hn SI:=(b8 (.s (.s .z (.b (.l ⟨[(7,.o 1448),(13,.v ah)],[(1448,.l aI)],[1,2,11,12],[],1449,[(7,aI)]⟩ 0 ⟨[(7,.o 1448)],[(1448,.l aI)],[],[],1449,[]⟩ (b8 (.s (.j ⟨[(7,.o 1513)],[(1513,.l aI)],[1,2,11,12,13],[],1514,[]⟩ (.b (.s .z (.s (.j ⟨[(25,.v .bool)],[],[1,2,7,9,11,12,13],[1448,1705],1897,[]⟩ .z) .z)))) .z))))) .z))
theorem BU:aK 99 (P7 n) :=cq aA func99 P8 n
def He:bz xx:=⟨[.d aI],[.d .bool],λa=>gu a.1,none⟩
def Hf:Hn SI:=(b8 (.s (.s (.j ⟨[(26,.v .bool)],[],[1],[1000],1384,[]⟩ .z) .z) (.s (.s (.j ⟨[(34,.v .bool)],[],[1],[1000],1384,[]⟩ .z) .z) .z)))
theorem kY:aK 100 He :=cq (au qX aA) func100 Hf 0
def ag8:bz xx:=⟨[.d aB],[.d aB,.d .bool],λa=>zi a.1,none⟩
theorem UC:aK 136 ag8 :=cq (au qX aA) func136 .z 0
def aoi:bz xx:=⟨[.d aB],[.d ah],λa=>zP a.1,none⟩
theorem J9:aK 90 aoi :=cq (au UC aA) func90 .z 0
def al3:bz xx:=⟨[.d (.sl aB)],[.d ah],λa=>Ph n a.1,none⟩
def al4:Hn SI:=(fi (.s (.s .z (.b (.l ⟨[(3,.v ah),(11,.v ah)],[],[9,10],[],1512,[]⟩ 0 ⟨[(3,.v ah)],[],[],[],1512,[]⟩ .z))) .z))
theorem ac2:aK 89 (al3 n) :=cq (au (oL n) (au J9 aA)) func89 al4 n
def Nl:bz xx:=⟨[.mut aB,.du [aB,aB] ah],[.mu aB],λa=>wF n a.1 a.2.1,none⟩
theorem Nn:aK 146 (Nl n):=by
 have hcall:eU Tryz.prog 146:=⟨_,func146,by kernel_rfl,by kernel_rfl⟩;refine An hcall (λ a r h=>?_) rfl;obtain⟨l,φ,⟨⟩⟩:=a;refine acK (X:=xx) (i:=SI.l4) (hI:=(inferInstance:Inhabited ax)) Tryz.so146 rfl hcall Tryz.underlying69 (by kernel_rfl) (λ x t ht=>?_) h;cases x;have ht:t∈[_,_,_,_]:=ht;simp only[aO,fM,or_false]at ht;rcases ht with rfl |rfl |rfl |rfl<;>exact⟨_,rfl,trivial⟩
def Et:bz xx:=⟨[.d aB,.d aB],[.d ah],λa=>iV a.1 a.2.1,none⟩
theorem Eu:aK 147 Et :=cq (au qb aA) func147 .z 0
def P9:bz xx:=⟨[.d aI],[.d ah],λa=>lD a.1,none⟩
def Qa:Hn SI:=(.s .z (.s (.s (.j ⟨[(9,.v .bool)],[],[1],[1000],1128,[]⟩ .z) .z) .z))
theorem BV:aK 152 P9 :=cq (au kY aA) func152 Qa 0
def Vm:bz xx:=⟨[.d aI],[.d ah],λa=>pJ a.1,none⟩
theorem GD:aK 150 Vm :=cq (au kY (au J9 (au BV aA))) func150 .z 0
def Cz:bz xx:=⟨[.d aI],[.d ah],λa=>oh a.1,none⟩
theorem CB:aK 153 Cz :=cq aA func153 .z 0
def Ew:bz xx:=⟨[.d aI],[.d ah],λa=>pR a.1,none⟩
theorem Ey:aK 154 Ew :=cq aA func154 .z 0
def Vn:bz xx:=⟨[.d aB,.d ah],[.d aB,.d .bool],λa=>Co a.1 a.2.1,none⟩
theorem Vo:aK 209 Vn :=cq (au qX aA) func209 .z 0
def abv:bz xx:=⟨[.d aB,.d aB],[.d aB,.d .bool],λa=>uq a.1 a.2.1,none⟩
def abw:Hn SI:=(.s .z (.s (.s (.j ⟨[(13,.v .bool)],[],[2,3,4],[1000,1064,1128],1256,[]⟩ .z) .z) .z))
theorem CF:aK 190 abv :=cq (au qX (au UC aA)) func190 abw 0
def Sw:bz xx:=⟨[.d (.st SI.Entry),.ref (.st SI.mw),.ref ah],[.d .bool],λa=>kN a.1 a.2.1 a.2.2.1,none⟩
theorem Sy:aK 253 Sw :=cq aA func253 .z 0
def Ka:bz xx:=⟨[.d (.sl (.st SI.Entry)),.du [.st SI.Entry] .bool],[.d ah],λa=>kP n a.1 a.2.1,none⟩
def Kb:Hn SI:=(.s .z (.s (.s .z (.b (.lx ⟨[(8,.v ah)],[],[0,1,7],[],1256,[]⟩ 0 ⟨[],[],[],[],1256,[]⟩ .z))) .z))
theorem xR:aK 204 (Ka n) :=cq aA func204 Kb n
def abx:bz xx:=⟨[.d (.st SI.j8),.d ah],[.d ah],λa=>Bz n a.1 a.2.1,none⟩
def aby:Hn SI:=(b8 (.s (.s .z (.b (.lx ⟨[(14,.v ah)],[],[3,5,12,13],[1064,1256],1640,[]⟩ 0 ⟨[],[],[],[],1640,[]⟩ (b8 (.s (.b (fi (.s (.j ⟨[(8,.v ah)],[],[],[],2344,[]⟩ .z) .z))) .z))))) .z))
theorem abz:aK 210 (abx n) :=cq (au (xR n) (au Sy aA)) func210 aby n
def Qb:bz xx:=⟨[.d (.st SI.j8),.d aI],[.d ah],λa=>lF n a.1 a.2.1,none⟩
def Qc:Hn SI:=(b8 (.s (.s (.j ⟨[(20,.v .bool)],[],[5,6],[],1704,[]⟩ .z) .z) .z))
theorem Qd:aK 157 (Qb n) :=cq (au (abz n) (au GD aA)) func157 Qc n
def Hg:cH xx:=⟨[.p 0],[(0,eR),(1,.l aI)],[.v ah],[(0,eR),(1,.l aI)],λ(qa,qb,qc,qd,qe,qf,qg,qh,qi,qj)=>nu n qa qb qc qd qe qf qg qh qi qj⟩
def Hl:bz xx:=tzG (Hg n)
theorem Ho:aK 101 (Hl n) :=lr (au (ac2 n) aA) func101 .z n
def Ez:cH xx:=⟨[.p 0],[(0,eR),(1,.l aI)],[.v ah],[(0,eR),(1,.l aI)],λ(qa,qb,qc,qd,qe,qf,qg,qh,qi,qj)=>iW n qa qb qc qd qe qf qg qh qi qj⟩
def EA:bz xx:=tzG (Ez n)
def EB:Hn SI:=(fi (.s (.s .z (.b (.l ⟨[(3,.o 1960),(23,.v ah)],[(1448,.l aB),(1960,.l ah)],[4,21,22],[0,1],1961,[(3,ah)]⟩ 0 ⟨[(3,.o 1960)],[(1448,.l aB),(1960,.l ah)],[4],[0,1],1961,[]⟩ .z))) (fi (.s (.s .z (.b (.l ⟨[(7,.v ah),(56,.v ah)],[],[3,4,55],[0,1,1448,1960],2601,[]⟩ 2 ⟨[(7,.v ah)],[],[],[0,1],2601,[]⟩ (b8 (.s (.b (fi (.b (.l ⟨[(7,.v ah),(9,.v ah),(61,.v ah)],[],[3,4,8,55,56,59,60],[0,1,1448,1960],3049,[]⟩ 4 ⟨[(7,.v ah)],[],[3,4,55,56],[0,1,1448,1960],3049,[]⟩ (b8 (.s (.j ⟨[(7,.v ah),(9,.v ah)],[],[3,4,8,55,56,59,60,61],[0,1,1448,1960],3113,[]⟩ (.b (.s .z (.s (.j ⟨[(86,.v .bool)],[],[3,4,7,8,9,11,55,56,59,60,61],[0,1,1448,1960,3241],3369,[]⟩ .z) .z)))) .z)))))) .z))))) .z))))
theorem EC:aK 102 (EA n) :=lr (au (Nn n) (au Eu (au (sH n) aA))) func102 EB n
def Hq:cH xx:=⟨[.p 0,(.f 150 [] [])],[(0,eR),(1,.l aI)],[.v ah],[(0,eR),(1,.l aI)],λ(qa,qb,qc,qd,qe,qf,qg,qh,qi,qj)=>rE n qa qb qc qd qe qf qg qh qi qj⟩
def Hr:bz xx:=tzG (Hq n)
def Ht:Hn SI:=(b8 (.s (.s .z (.b (.l ⟨[(5,.v ah),(13,.v ah)],[],[1,11,12],[0,1],1512,[]⟩ 0 ⟨[(5,.v ah)],[],[],[0,1],1512,[]⟩ .z))) .z))
theorem Hu:aK 149 (Hr n) :=lr (au GD aA) func149 Ht n
def ED:cH xx:=⟨[.p 0],[(0,eR),(1,.l aI)],[.v ah],[(0,eR),(1,.l aI)],λ(qa,qb,qc,qd,qe,qf,qg,qh,qi,qj)=>kU n qa qb qc qd qe qf qg qh qi qj⟩
def EF:bz xx:=tzG (ED n)
theorem EG:aK 103 (EF n) :=lr (au (Hu n) aA) func103 .z n
def Ac:cH xx:=⟨[.p 0,(.f 152 [] [])],[(0,eR),(1,.l aI)],[.v ah],[(0,eR),(1,.l aI)],λ(qa,qb,qc,qd,qe,qf,qg,qh,qi,qj)=>mV n qa qb qc qd qe qf qg qh qi qj⟩
def Ad:bz xx:=tzG (Ac n)
def Ae:Hn SI:=(b8 (.s (.s .z (.b (.l ⟨[(5,.v ah),(13,.v ah)],[],[1,11,12],[0,1],1512,[]⟩ 0 ⟨[(5,.v ah)],[],[],[0,1],1512,[]⟩ .z))) .z))
theorem Af:aK 151 (Ad n) :=lr (au BV aA) func151 Ae n
def CG:cH xx:=⟨[.p 0],[(0,eR),(1,.l aI)],[.v ah],[(0,eR),(1,.l aI)],λ(qa,qb,qc,qd,qe,qf,qg,qh,qi,qj)=>jT n qa qb qc qd qe qf qg qh qi qj⟩
def CJ:bz xx:=tzG (CG n)
theorem CK:aK 104 (CJ n) :=lr (au (Af n) aA) func104 .z n
def Ag:cH xx:=⟨[.p 0,(.f 153 [] [])],[(0,eR),(1,.l aI)],[.v ah],[(0,eR),(1,.l aI)],λ(qa,qb,qc,qd,qe,qf,qg,qh,qi,qj)=>mW n qa qb qc qd qe qf qg qh qi qj⟩
def Ah:bz xx:=tzG (Ag n)
def Ai:Hn SI:=(b8 (.s (.s .z (.b (.l ⟨[(5,.v ah),(13,.v ah)],[],[1,11,12],[0,1],1512,[]⟩ 0 ⟨[(5,.v ah)],[],[],[0,1],1512,[]⟩ .z))) .z))
theorem Aj:aK 151 (Ah n) :=lr (au CB aA) func151 Ai n
def CO:cH xx:=⟨[.p 0],[(0,eR),(1,.l aI)],[.v ah],[(0,eR),(1,.l aI)],λ(qa,qb,qc,qd,qe,qf,qg,qh,qi,qj)=>jU n qa qb qc qd qe qf qg qh qi qj⟩
def CP:bz xx:=tzG (CO n)
theorem CQ:aK 105 (CP n) :=lr (au (Aj n) aA) func105 .z n
def Hw:cH xx:=⟨[.p 0,(.f 154 [] [])],[(0,eR),(1,.l aI)],[.v ah],[(0,eR),(1,.l aI)],λ(qa,qb,qc,qd,qe,qf,qg,qh,qi,qj)=>rF n qa qb qc qd qe qf qg qh qi qj⟩
def Hy:bz xx:=tzG (Hw n)
def Hz:Hn SI:=(b8 (.s (.s .z (.b (.l ⟨[(5,.v ah),(13,.v ah)],[],[1,11,12],[0,1],1512,[]⟩ 0 ⟨[(5,.v ah)],[],[],[0,1],1512,[]⟩ .z))) .z))
theorem HV:aK 149 (Hy n) :=lr (au Ey aA) func149 Hz n
def EH:cH xx:=⟨[.p 0],[(0,eR),(1,.l aI)],[.v ah],[(0,eR),(1,.l aI)],λ(qa,qb,qc,qd,qe,qf,qg,qh,qi,qj)=>kV n qa qb qc qd qe qf qg qh qi qj⟩
def EI:bz xx:=tzG (EH n)
theorem EJ:aK 106 (EI n) :=lr (au (HV n) aA) func106 .z n
def CR:cH xx:=⟨[.p 0,.v aB,.v ah],[(0,eR),(1,.l aI)],[.v .bool],[(0,eR),(1,.l aI)],λ(qa,qb,qc,qd,qe,qf,qg,qh,qi,qj,qk,ql)=>jW n qa qb qc qd qe qf qg qh qi qj qk ql⟩
def CU:bz xx:=tzG (CR n)
def CV:Hn SI:=(pr (.s (.s .z (.b (.l ⟨[(9,.v ah),(27,.v ah)],[],[7,25,26],[0,1,1512],2280,[]⟩ 0 ⟨[(9,.v ah)],[],[7],[0,1,1512],2280,[]⟩ (b8 (.s (.j ⟨[(9,.v ah)],[],[7,25,26,27],[0,1,1512],2344,[]⟩ .z) .z))))) .z))
theorem CW:aK 155 (CU n) :=lr (au Vo (au CF (au J9 aA))) func155 CV n
def AA:cH xx:=⟨[.p 0],[(0,eR),(1,.l aI)],[.v ah],[(0,eR),(1,.l aI)],λ(qa,qb,qc,qd,qe,qf,qg,qh,qi,qj)=>jC n qa qb qc qd qe qf qg qh qi qj⟩
def AB:bz xx:=tzG (AA n)
def AJ:Hn SI:=(b8 (.s (.s .z (.b (.l ⟨[(3,.v ah),(14,.v ah)],[(0,eR),(1,.l aI)],[0,12,13],[],1512,[]⟩ 0 ⟨[(3,.v ah)],[(0,eR),(1,.l aI)],[],[],1512,[]⟩ (b8 (.s (.b (b8 (.s (.b (.l ⟨[(6,.v ah),(7,.v ah)],[(0,eR),(1,.l aI)],[0,5,12,13,14],[1704],2024,[]⟩ 2 ⟨[(6,.v ah)],[(0,eR),(1,.l aI)],[0,12,13,14],[],2024,[]⟩ .z)) .z))) .z))))) .z))
theorem AL:aK 107 (AB n) :=lr (au (CW n) aA) func107 AJ n
def yg:cH xx:=⟨[.v aI,.p 0],[(0,.c 1 [[.p 1]]),(1,tM),(2,.l aI)],[.v ah],[(0,.c 1 [[.p 1]]),(1,tM),(2,.l aI)],λ(qa,qb,qc,qd,qe,qf,qg,qh,qi,qj,qk)=>kR n qa qb qc qd qe qf qg qh qi qj qk⟩
def yh:bz xx:=tzG (yg n)
theorem yj:aK 156 (yh n) :=lr (au (Qd n) aA) func156 .z n
def HY:cH xx:=⟨[.p 0,(.f 156 [] [.p 1])],[(0,tM),(1,.c 1 [[.p 0]]),(2,.l aI)],[.v ah],[(0,tM),(1,.c 1 [[.p 0]]),(2,.l aI)],λ(qa,qb,qc,qd,qe,qf,qg,qh,qi,qj)=>rG n qa qb qc qd qe qf qg qh qi qj⟩
def HZ:bz xx:=tzG (HY n)
def H6:Hn SI:=(b8 (.s (.s .z (.b (.l ⟨[(5,.v ah),(13,.v ah)],[(0,tM),(1,.c 1 [[.p 0]]),(2,.l aI)],[1,11,12],[],1512,[]⟩ 0 ⟨[(5,.v ah)],[(0,tM),(1,.c 1 [[.p 0]]),(2,.l aI)],[],[],1512,[]⟩ .z))) .z))
theorem H7:aK 149 (HZ n) :=lr (au (yj n) aA) func149 H6 n
def AO:cH xx:=⟨[.p 0],[(0,eR),(1,.l aI)],[.v ah],[(0,eR),(1,.l aI)],λ(qa,qb,qc,qd,qe,qf,qg,qh,qi,qj)=>jD n qa qb qc qd qe qf qg qh qi qj⟩
def AP:bz xx:=tzG (AO n)
theorem AQ:aK 108 (AP n) :=lr (au (H7 n) aA) func108 .z n
def aeA:bz xx:=⟨[.d (.st SI.j8),.d (.st SI.Lot),.d dR],[.fresh (.st SI.Entry)],λa=>om n a.1 a.2.1 a.2.2.1,none⟩
def aeB:Hn SI:=(b8 (.s (.j ⟨[],[(1384,.c 10 [[.v (.sl bB),.v (.sl aZ),.v (.sl bD),.v (.sl aU),.v (.sl bH),.v (.sl bF),.v (.sl aX),.v ah,.v (.sl aB),.nil]])],[5,7],[1128],1512,[]⟩ .z) (.s (.s .z (.b (.l ⟨[(31,.v ah)],[(1384,Hj),(1960,.l aI)],[7,29,30],[1768],1961,[(6668873,aI)]⟩ 0 ⟨[],[(1384,Hj),(1960,.l aI)],[7],[],1961,[]⟩ (b8 (.s (.j ⟨[],[(1384,.c 10 [[.v (.sl bB),.v (.sl aZ),.v (.sl bD),.v (.sl aU),.v (.sl bH),.v (.sl bF),.v (.sl aX),.v ah,.v (.sl aB),.o 2025]]),(2025,.l aI)],[7,29,30,31],[1768],2026,[]⟩ (.b (.s .z (.s (.j ⟨[(41,.v .bool)],[],[7,9,29,30,31],[1384,1768,1960,2217],2409,[]⟩ .z) .z)))) .z))))) (b8 (.s (.s .z (.b (.un .z (.un .z (.un .z (.un .z (.un .z (.un .z (.un .z (.un .z (.un .z (.un .z .z)))))))))))) .z)))))
theorem Qe:aK 62 (aeA n) :=cq (au (oL n) (au (BU n) (au kY (au (Ho n) (au (EC n) (au (EG n) (au (CK n) (au (CQ n) (au (EJ n) (au (AL n) (au (AQ n) aA))))))))))) func62 aeB n
def Np:bz xx:=⟨[.d (.st SI.iS),.d (.st SI.Lot),.d dR],[.d ah],λa=>qK n a.1 a.2.1 a.2.2.1,none⟩
def Nq:Hn SI:=(.s .z (.s (.s .z (.b (.lx ⟨[(15,.v ah)],[],[13,14],[1512],1704,[]⟩ 0 ⟨[],[],[],[],1704,[]⟩ .z))) .z))
theorem Ns:aK 41 (Np n) :=cq (au (Qe n) aA) func41 Nq n
def H8:bz xx:=⟨[.ref (.st SI.iS),.ref (.st SI.Lot),.ref dR],[.d ah],λa=>ny n a.1 a.2.1 a.2.2.1,none⟩
theorem H9:aK 40 (H8 n) :=cq (au (Ns n) aA) func40 .z n
def aoj:bz xx:=⟨[.d aB,.d aB],[.d ah,.d ah],λa=>anA a.1 a.2.1,none⟩
theorem aok:aK 163 aoj :=cq aA func163 .z 0
def apJ:bz xx:=⟨[.d aB,.d aB],[.d ah],λa=>LR a.1 a.2.1,none⟩
def apK:Hn SI:=(.s .z (.s (.s (.j ⟨[(14,.v .bool)],[],[2,3],[1000,1064],1192,[]⟩ .z) .z) .z))
theorem akx:aK 116 apJ :=cq (au qX (au aok aA)) func116 apK 0
def aol:bz xx:=⟨[.d (.sl aB),.d (.sl aB)],[.d ah,.d .bool],λa=>YJ n a.1 a.2.1,none⟩
def aom:Hn SI:=(.s .z (.s (.s (.j ⟨[(28,.v .bool)],[],[0,1],[],1128,[]⟩ .z) .z) (.s .z (.s (.s .z (.b (.l ⟨[(6,.v ah),(31,.v ah)],[],[1,29,30],[],1384,[]⟩ 0 ⟨[(6,.v ah)],[],[],[],1384,[]⟩ (b8 (.s (.b (b8 (.b (.l ⟨[(6,.v ah),(37,.v ah)],[],[1,8,29,30,31,35,36],[1576],1896,[]⟩ 2 ⟨[(6,.v ah)],[],[1,29,30,31],[],1896,[]⟩ .z)))) .z))))) .z))))
theorem aon:aK 80 (aol n) :=cq (au (oL n) (au akx aA)) func80 aom n
def al5:bz xx:=⟨[.d (.sl (.st SI.Lot)),.d ah,.d ah],[.fresh ah],λa=>Wt n a.1 a.2.1 a.2.2.1,none⟩
def al6:Hn SI:=(pr (.s (.s .z (.b (.l ⟨[(9,.o 2024),(27,.v ah)],[(2024,.l (.sl aB))],[0,1,2,7,25,26],[1448],2025,[(9,.sl aB)]⟩ 0 ⟨[(9,.o 2024)],[(2024,.l (.sl aB))],[0,1,2,7],[1448],2025,[]⟩ .z))) (.s .z (.s (.s .z (.b (.l ⟨[(12,.o 2281),(39,.v ah)],[(2281,.l ah)],[0,1,2,7,37,38],[1448,2024],2282,[(12,ah)]⟩ 2 ⟨[(12,.o 2281)],[(2281,.l ah)],[],[],2282,[]⟩ (b8 (.s (.j ⟨[(12,.o 2346)],[(2346,.l ah)],[0,1,2,7,37,38,39],[1448,2024],2347,[]⟩ (.b (b8 (.s (.j ⟨[(65,.v .bool)],[],[0,1,2,7,12,13,37,38,39],[1448,2024,2281],3242,[]⟩ .z) .z)))) .z))))) .z))))
theorem al7:aK 43 (al5 n) :=cq (au (Sj n) (au (aon n) (au (sH n) (au (qY n) aA)))) func43 al6 n
def Ia:bz xx:=⟨[.ref (.st SI.iS),.ref dR],[.d ah],λa=>nC n a.1 a.2.1,none⟩
theorem Ib:aK 42 (Ia n) :=cq (au (al7 n) aA) func42 .z n
def Ic:bz xx:=⟨[.ref (.st SI.Lot)],[.d ah],λa=>rH a.1,none⟩
theorem Ie:aK 44 Ic :=cq aA func44 .z 0
def Nt:bz xx:=⟨[.d (.st SI.iS),.d dR,.d (.sl .str)],[.fresh ah],λa=>qL n a.1 a.2.1 a.2.2.1,none⟩
def Nu:Hn SI:=(pr (.s (.s .z (.b (.un .z (.un .z (.un .z (.un .z (.un .z .z))))))) .z))
theorem Nv:aK 16 (Nt n) :=cq (au (Sj n) (au (G9 n) (au (H9 n) (au (Ib n) (au Ie aA))))) func16 Nu n
def Qf:bz xx:=⟨[.d (.st SI.iS),.d (.sl gG),.d dR,.d (.sl .str)],[.fresh ah],λa=>iQ n a.1 a.2.1 a.2.2.1 a.2.2.2.1,none⟩
def Qg:Hn SI:=(pr (.s (.s .z (.b (.l ⟨[(27,.v ah)],[(1832,.l ah)],[9,10,25,26],[1576],2152,[]⟩ 0 ⟨[],[(1832,.l ah)],[10],[],2152,[]⟩ (b8 (.s (.b (fi (.s (.j ⟨[(14,.v ah)],[],[9,10,11,25,26,27],[1576,1832],3368,[]⟩ .z) .z))) .z))))) .z))
theorem BX:aK 7 (Qf n) :=cq (au (J8 n) (au (Nv n) aA)) func7 Qg n
def abA:bz xx:=⟨[.d (.st SI.cW),.d ah],[.d (.st SI.gz)],λa=>Jz n a.1 a.2.1,none⟩
def abB:Hn SI:=(b8 (.s (.s .z (.b (.l ⟨[(9,.v ah)],[(1128,.l ah)],[1,2,4,5],[1000,1064],1256,[]⟩ 0 ⟨[],[(1128,.l ah)],[1,2,4,5],[1000,1064],1256,[]⟩ .z))) (.s .z (.s (.s .z (.b (.l ⟨[(17,.v ah)],[(1128,.l ah)],[1,2,4,5],[1000,1064],1512,[]⟩ 2 ⟨[],[(1128,.l ah)],[4,5],[1064],1512,[]⟩ (b8 (.s (.b (.s .z (.b (.l ⟨[(7,.v ah)],[(1128,.l ah)],[1,2,4,5,17],[1000,1064],1704,[]⟩ 4 ⟨[],[(1128,.l ah)],[1,2,4,5,17],[1000,1064],1704,[]⟩ (.s .z (.s (.b (.s .z (.b (.l ⟨[(8,.v ah)],[(1128,.l ah)],[1,2,4,5,7,17],[1000,1064],1960,[]⟩ 6 ⟨[],[(1128,.l ah)],[1,2,4,5,7,17],[1000,1064],1960,[]⟩ (.s .z (.s (.j ⟨[],[(1128,.l ah)],[1,2,4,5,7,8,17],[1000,1064],2088,[]⟩ (.b (.s (.j ⟨[(38,.v .bool)],[],[1,2,4,5,7,8,17],[1000,1064,1128],2088,[]⟩ .z) .z))) .z)))))) .z)))))) .z))))) .z))))
theorem abC:aK 227 (abA n) :=cq aA func227 abB n
def Vp:bz xx:=⟨[.d (.st SI.cW)],[.fresh ah],λa=>Mv n a.1,none⟩
def Vq:Hn SI:=(b8 (.s (.s .z (.b (.l ⟨[(3,.v ah),(4,.v ah),(11,.v ah)],[],[1],[1000],1320,[]⟩ 0 ⟨[(3,.v ah),(4,.v ah)],[],[1],[1000],1320,[]⟩ (b8 (.s (.b (fi (.b (.l ⟨[(3,.v ah),(4,.v ah),(7,.v ah)],[],[1,5,6,11],[1000,1704],1960,[]⟩ 2 ⟨[(3,.v ah),(4,.v ah)],[],[1,11],[1000],1960,[]⟩ (.s .z (.s (.j ⟨[(3,.v ah),(4,.v ah)],[],[1,5,6,7,11],[1000,1704],2088,[]⟩ (.b (.s (.j ⟨[(34,.v .bool)],[],[1,3,4,5,6,7,11],[1000,1704],2088,[]⟩ .z) .z))) .z)))))) .z))))) (b8 (.s (.b (.l ⟨[(9,.o 1960)],[(1960,.l ah)],[1,3,4,8],[1000,1768],1961,[]⟩ 4 ⟨[(9,.o 1960)],[(1960,.l ah)],[],[],1961,[]⟩ (.s .z (.b (.s .z (.b (.l ⟨[(9,.o 1960),(10,.v ah)],[(1960,.l ah)],[1,3,4,8],[1000,1768],2345,[]⟩ 6 ⟨[(9,.o 2345)],[(2345,.l ah)],[1,3,4,8],[1000,1768],2346,[]⟩ (.s (.b (.s (.j ⟨[(74,.v .bool)],[],[1,3,4,8,9,10],[1000,1768,1960],2345,[]⟩ .z) .z)) .z)))))))) .z))))
theorem Vr:aK 188 (Vp n) :=cq (au (abC n) aA) func188 Vq n
def Vs:bz xx:=⟨[.d (.sl .bool)],[.fresh .bool],λa=>Cq a.1,none⟩
theorem Vt:aK 189 Vs :=cq aA func189 .z 0
def Sz:bz xx:=⟨[.d gG],[.fresh (.sl .bool),.d (.sl ah),.d ah],λa=>uY n a.1,none⟩
def SA:Hn SI:=(pr (.s (.s .z (.b (.l ⟨[(7,.o 2472),(26,.v ah)],[(2472,.l (.sl .bool))],[1,5,25],[1000,1576],2473,[(7,.sl .bool)]⟩ 1 ⟨[(7,.o 2472)],[(2472,.l (.sl .bool))],[],[],2473,[]⟩ .z))) .z))
theorem SB:aK 130 (Sz n) :=cq (au (Gz n) (au (J6 n) (au (J7 n) (au (Vr n) (au Vt aA))))) func130 SA n
def SC:bz xx:=⟨[.d (.sl gG)],[.fresh (.sl (.sl .bool)),.d .bool],λa=>uZ n a.1,none⟩
def SF:Hn SI:=(fi (.s (.s .z (.b (.lx ⟨[(4,.o 1576),(15,.v ah)],[(1576,.l (.sl (.sl .bool)))],[13,14],[],1577,[(4,.sl (.sl .bool))]⟩ 0 ⟨[(4,.o 1576)],[(1576,.l (.sl (.sl .bool)))],[],[],1577,[]⟩ .z))) .z))
theorem SG:aK 83 (SC n) :=cq (au (SB n) aA) func83 SF n
def y5:bz xx:=⟨[.d (.sl (.sl (.sl .bool))),.d (.sl ah)],[.d .bool],λa=>eD n a.1 a.2.1,none⟩
def y7:Hn SI:=(b8 (.s (.s .z (.b (.lx ⟨[(14,.v ah)],[],[0,12,13],[],1576,[]⟩ 0 ⟨[],[],[],[],1576,[]⟩ (b8 (.s (.b (.s .z (.s (.j ⟨[(29,.v .bool)],[],[0,12,13,14],[],1960,[]⟩ .z) .z))) .z))))) .z))
theorem kz:aK 49 (y5 n) :=cq aA func49 y7 n
def Qh:bz xx:=⟨[.d (.sl gG),.d (.sl dx)],[.fresh (.sl (.sl .bool)),.d .bool],λa=>oV n a.1 a.2.1,none⟩
def Qi:Hn SI:=(fi (.s (.s .z (.b (.lx ⟨[(19,.v ah)],[(1576,.m ah .bool)],[1,6,7,8,17,18],[1192],1896,[]⟩ 0 ⟨[],[],[1,6,7],[1192],1896,[]⟩ (b8 (.s (.b (.s .z (.s (.s (.j ⟨[(37,.v .bool)],[],[1,6,7,8,10,17,18,19],[1192,1576,2088],2216,[]⟩ .z) .z) .z))) .z))))) .z))
theorem BZ:aK 48 (Qh n) :=cq (au (SG n) (au (kz n) aA)) func48 Qi n
def AR:bz xx:=⟨[.d (.sl (.sl (.sl .bool))),.d (.sl ah),.d (.sl ah)],[.fresh ah],λa=>gU n a.1 a.2.1 a.2.2.1,none⟩
def AU:Hn SI:=(b8 (.s (.s .z (.b (.l ⟨[(7,.o 1320),(11,.v ah)],[(1320,.l ah)],[0,1,2,10],[],1321,[(7,ah)]⟩ 0 ⟨[(7,.o 1320)],[(1320,.l ah)],[],[],1321,[]⟩ (b8 (.s (.j ⟨[(7,.o 1385)],[(1385,.l ah)],[0,1,2,10,11],[],1386,[]⟩ .z) .z))))) .z))
theorem AX:aK 85 (AR n) :=cq aA func85 AU n
def CX:bz xx:=⟨[.d (.sl (.sl (.sl .bool))),.d dx,.d (.sl ah)],[.fresh ah],λa=>iH n a.1 a.2.1 a.2.2.1,none⟩
theorem sI:aK 54 (CX n) :=cq (au (AX n) aA) func54 .z n
def AY:bz xx:=⟨[.d (.sl (.sl (.sl .bool))),.d (.sl dx),.d (.sl ah)],[.d ah,.fresh ah],λa=>jE n a.1 a.2.1 a.2.2.1,none⟩
def AZ:Hn SI:=(fi (.s (.s .z (.b (.l ⟨[(8,.o 1512),(15,.v ah)],[(1192,.m .bool .bool),(1512,.l ah)],[0,2,9,13,14],[],1513,[(8,ah)]⟩ 0 ⟨[(8,.o 1512)],[(1192,.m .bool .bool),(1512,.l ah)],[9],[],1513,[]⟩ (b8 (.s (.j ⟨[(8,.o 1577)],[(1192,.m .bool .bool),(1577,.l ah)],[0,2,9,13,14,15],[],1578,[]⟩ .z) .z))))) (.s (.b (.s (.j ⟨[(34,.v .bool)],[],[8,9],[1192,1512],1513,[]⟩ .z) .z)) .z)))
theorem A7:aK 50 (AY n) :=cq (au (sI n) aA) func50 AZ n
def Nw:bz xx:=⟨[.d (.sl gG),.d (.sl dx),.d (.sl ah)],[.d ah,.fresh ah,.d ah],λa=>qM n a.1 a.2.1 a.2.2.1,none⟩
def Ny:Hn SI:=(b8 (.s (.s (.j ⟨[(26,.v .bool)],[],[1,2,9],[1320],1704,[]⟩ .z) .z) .z))
theorem Nz:aK 18 (Nw n) :=cq (au (BZ n) (au (kz n) (au (A7 n) aA))) func18 Ny n
def Vu:bz xx:=⟨[.d (.sl dx)],[.fresh dx],λa=>Cr a.1,none⟩
theorem Vv:aK 51 Vu :=cq aA func51 .z 0
def SH:bz xx:=⟨[.d (.sl dx)],[.fresh dx],λa=>nM n a.1,none⟩
def SK:Hn SI:=(b8 (.s (.s .z (.b (.l ⟨[(9,.v ah)],[(1128,.l dx)],[3,8],[],1448,[]⟩ 0 ⟨[],[(1128,.l dx)],[3],[],1448,[]⟩ .z))) .z))
theorem SL:aK 19 (SH n) :=cq (au Vv (au vK aA)) func19 SK n
def NA:bz xx:=⟨[.d dx,.ref dx],[.d .bool],λa=>Ec a.1 a.2.1,none⟩
theorem NC:aK 53 NA :=cq aA func53 .z 0
def Ls:bz xx:=⟨[.d (.sl dx),.du [dx] .bool],[.d ah],λa=>u6 n a.1 a.2.1,none⟩
def Lu:Hn SI:=(.s .z (.s (.s .z (.b (.lx ⟨[(8,.v ah)],[],[0,1,7],[],1256,[]⟩ 0 ⟨[],[],[],[],1256,[]⟩ .z))) .z))
theorem Lv:aK 84 (Ls n) :=cq aA func84 Lu n
def F5:bz xx:=⟨[.d (.sl dx),.du [dx] .bool],[.d .bool],λa=>l6 n a.1 a.2.1,none⟩
theorem F6:aK 52 (F5 n) :=cq (au (Lv n) aA) func52 .z n
def Qj:bz xx:=⟨[.d dx],[.d dx],λa=>oW a.1,none⟩
theorem Qk:aK 55 Qj :=cq (au vK aA) func55 .z 0
def Vw:bz xx:=⟨[.d (.sl gG),.d (.sl dx),.d dx],[.fresh dx,.d ah],λa=>wP n a.1 a.2.1 a.2.2.1,none⟩
def Vx:Hn SI:=(b8 (.s (.b (.s (.j ⟨[(19,.v .bool)],[],[1,5,8],[1000,1320],1704,[]⟩ .z) .z)) (.s .z (.s (.s .z (.b (.lx ⟨[(10,.o 2472),(39,.v ah)],[(2472,.l dx)],[5,8,37,38],[1000,1320],2473,[(10,dx)]⟩ 1 ⟨[(10,.o 2472)],[(2472,.l dx)],[5],[1000],2473,[]⟩ (b8 (.s (.b (.s .z (.s (.s (.j ⟨[(56,.v .bool)],[],[5,8,10,12,37,38,39],[1000,1320,2472,2665],2793,[]⟩ .z) .z) .z))) .z))))) .z))))
theorem Vy:aK 20 (Vw n) :=cq (au (BZ n) (au (kz n) (au (F6 n) (au NC (au (sI n) (au Qk aA)))))) func20 Vx n
def Ql:bz xx:=⟨[.d (.sl gG),.d (.sl dx),.d ah,.d (.sl ah),.d .bool],[.d .bool,.fresh dx,.d ah],λ(qa,qb,qc,qd,qe,_)=>gL n qa qb qc qd qe,none⟩
def Qm:Hn SI:=(pr (.s (.j ⟨[(16,.v .bool)],[],[0,1,2,3],[],2408,[]⟩ .z) .z))
theorem Ca:aK 9 (Ql n) :=cq (au (Nz n) (au (SL n) (au vK (au (Vy n) aA)))) func9 Qm n
def ZQ:bz xx:=⟨[.d (.sl ah),.d (.sl ah)],[.d .bool],λa=>FC n a.1 a.2.1,none⟩
def ZR:Hn SI:=(b8 (.s (.s .z (.b (.lx ⟨[(5,.v ah)],[],[0,1],[],1448,[]⟩ 0 ⟨[],[],[],[],1448,[]⟩ .z))) .z))
theorem ZT:aK 13 (ZQ n) :=cq aA func13 ZR n
def Qn:bz xx:=⟨[.d aU,.ref .str],[.d .bool],λa=>oZ a.1 a.2.1,none⟩
theorem Cb:aK 31 Qn :=cq aA func31 .z 0
def Lx:bz xx:=⟨[.d (.sl aU),.du [aU] .bool],[.d ah],λa=>u7 n a.1 a.2.1,none⟩
def LA:Hn SI:=(.s .z (.s (.s .z (.b (.lx ⟨[(8,.v ah)],[],[0,1,7],[],1256,[]⟩ 0 ⟨[],[],[],[],1256,[]⟩ .z))) .z))
theorem LB:aK 75 (Lx n) :=cq aA func75 LA n
def F7:bz xx:=⟨[.d (.sl aU),.du [aU] .bool],[.d .bool],λa=>l7 n a.1 a.2.1,none⟩
theorem F8:aK 33 (F7 n) :=cq (au (LB n) aA) func33 .z n
def Kc:cH xx:=⟨[.v aU,.p 0],[(0,.c 1 [[(.f 31 [] [.p 1])]]),(1,rx)],[.v .bool],[(0,.c 1 [[(.f 31 [] [.p 1])]]),(1,rx)],λv=>oq v.1 v.2⟩
def Ke:bz xx:=tzG (Kc)
theorem Kg:aK 32 Ke :=lr (au Cb aA) func32 .z 0
def F9:cH xx:=⟨[.v (.sl aU),(.f 32 [] [.p 0])],[(0,.c 1 [[(.f 31 [] [.p 1])]]),(1,rx)],[.v ah],[(0,.c 1 [[(.f 31 [] [.p 1])]]),(1,rx)],λv=>qo n v.1 v.2⟩
def Ga:bz xx:=tzG (F9 n)
def Gc:Hn SI:=(.s .z (.s (.s .z (.b (.lx ⟨[(8,.v ah)],[(0,.c 1 [[(.f 31 [] [.p 1])]]),(1,rx)],[0,1,7],[],1256,[]⟩ 0 ⟨[],[(0,.c 1 [[(.f 31 [] [.p 1])]]),(1,rx)],[],[],1256,[]⟩ .z))) .z))
theorem Gd:aK 75 (Ga n) :=lr (au Kg aA) func75 Gc n
def A8:cH xx:=⟨[.v (.sl aU),(.f 32 [] [.p 0])],[(0,.c 1 [[(.f 31 [] [.p 1])]]),(1,rx)],[.v .bool],[(0,.c 1 [[(.f 31 [] [.p 1])]]),(1,rx)],λv=>jG n v.1 v.2⟩
def A9:bz xx:=tzG (A8 n)
theorem Ba:aK 33 (A9 n) :=lr (au (Gd n) aA) func33 .z n
def ZU:bz xx:=⟨[.d (.st SI.j8),.d (.sl .str)],[.d .bool],λa=>ow n a.1 a.2.1,none⟩
def ZV:Hn SI:=(.s .z (.s (.s .z (.b (.lx ⟨[(11,.v ah)],[],[1,2,9,10],[1000],1320,[]⟩ 0 ⟨[],[],[1],[],1320,[]⟩ (b8 (.s (.b (fi (.s (.j ⟨[(27,.v .bool)],[],[1,2,9,10,11],[1000],1960,[]⟩ .z) .z))) .z))))) .z))
theorem Kh:aK 11 (ZU n) :=cq (au (arx (F8 n) (Ba n)) (au Cb aA)) func11 ZV n
def ag9:bz xx:=⟨[],[.d .bool],λ_=>KT n,none⟩
def aha:Hn SI:=(.s .z (.s (.f [3]) (pr (.s (.f [8]) (.s (.f [9]) (.s (.f [9]) (.s .z (.s (.j ⟨[(18,.v .bool)],[],[5,7,10,13,16],[2792,5160],5672,[]⟩ .z) .z))))))))
theorem ahb:aK 4 (ag9 n) :=cq (au ajd (au (BX n) (au (Ca n) (au (ZT n) (au (Kh n) aA))))) func4 aha n
def al8:bz xx:=⟨[.d (.st SI.iS)],[.d .bool],λa=>Wu n a.1,none⟩
def al9:Hn SI:=(b8 (.s (.s (.j ⟨[(48,.v .bool)],[],[1,3],[1000,1256],1384,[]⟩ .z) .z) (.s (.s .z (.b (.lx ⟨[(4,.v ah)],[],[1,3],[1000,1256],1448,[]⟩ 0 ⟨[],[],[1],[1000],1448,[]⟩ (.s .z (.s (.b (.s (.j ⟨[(73,.v .bool)],[],[1,3,4],[1000,1256],1768,[]⟩ .z) .z)) .z))))) (.s (.s .z (.b (.lx ⟨[(5,.v ah)],[],[1],[1000],1512,[]⟩ 2 ⟨[],[],[1],[1000],1512,[]⟩ .z))) (.s (.s .z (.b (.lx ⟨[(6,.v ah)],[],[1],[1000],1576,[]⟩ 4 ⟨[],[],[],[],1576,[]⟩ .z))) .z)))))
theorem ama:aK 14 (al8 n) :=cq aA func14 al9 n
def Qo:bz xx:=⟨[.d (.sl dR)],[.d .bool],λa=>o6 n a.1,none⟩
def Qp:Hn SI:=(.s .z (.s (.s .z (.b (.lx ⟨[(3,.v ah)],[],[0],[],1128,[]⟩ 0 ⟨[],[],[0],[],1128,[]⟩ (.s .z (.s (.b (.s (.s .z (.b (.lx ⟨[(4,.v ah)],[],[0,3],[],1448,[]⟩ 2 ⟨[],[],[0,3],[],1448,[]⟩ (.s .z (.s (.b (.s (.j ⟨[(44,.v .bool)],[],[0,3,4],[],1960,[]⟩ .z) .z)) .z))))) .z)) .z))))) .z))
theorem Qq:aK 34 (Qo n) :=cq aA func34 Qp n
def amb:bz xx:=⟨[.d (.st SI.j8),.d (.st SI.kq),.d (.sl (.st SI.Act))],[.d .bool],λa=>Wv n a.1 a.2.1 a.2.2.1,none⟩
def amc:Hn SI:=(.s .z (.s (.s .z (.b (.lx ⟨[(7,.v ah)],[],[2,3,4],[1000,1064],1256,[]⟩ 0 ⟨[],[],[2,3,4],[1000,1064],1256,[]⟩ .z))) .z))
theorem amd:aK 15 (amb n) :=cq (au (Qq n) aA) func15 amc n
def ame:bz xx:=⟨[.d (.st SI.iS),.d dR,.d (.sl .str)],[.d .bool],λa=>Ww n a.1 a.2.1 a.2.2.1,none⟩
theorem amf:aK 5 (ame n) :=cq (au (ama n) (au (amd n) aA)) func5 .z n
def ZW:bz xx:=⟨[.d (.sl gG),.d (.sl dx)],[.d .bool],λa=>yJ n a.1 a.2.1,none⟩
def ZX:Hn SI:=(.s .z (.s (.s .z (.b (.lx ⟨[(5,.v ah)],[],[0,1],[],1128,[]⟩ 0 ⟨[],[],[0,1],[],1128,[]⟩ .z))) (.s (.s .z (.b (.lx ⟨[(6,.v ah)],[],[0,1],[],1192,[]⟩ 2 ⟨[],[],[0,1],[],1192,[]⟩ .z))) .z)))
theorem ZY:aK 6 (ZW n) :=cq aA func6 ZX n
def abD:bz xx:=⟨[.d dR],[.fresh aI],λa=>xJ n a.1,none⟩
theorem ME:aK 87 (abD n) :=cq (au (BU n) aA) func87 .z n
def Z0:bz xx:=⟨[.d (.st SI.E4),.d (.st SI.E4)],[.d .bool],λa=>yK a.1 a.2.1,none⟩
theorem Z4:aK 132 Z0 :=cq (au CF aA) func132 .z 0
def Qr:bz xx:=⟨[.d aI,.ref aI],[.d .bool],λa=>tC a.1 a.2.1,none⟩
theorem Qs:aK 131 Qr :=cq (au Z4 aA) func131 .z 0
def Ig:bz xx:=⟨[.d (.sl aI),.du [aI] .bool],[.d ah],λa=>rJ n a.1 a.2.1,none⟩
def Ih:Hn SI:=(.s .z (.s (.s .z (.b (.lx ⟨[(8,.v ah)],[],[0,1,7],[],1256,[]⟩ 0 ⟨[],[],[],[],1256,[]⟩ .z))) .z))
theorem Ii:aK 117 (Ig n) :=cq aA func117 Ih n
def CY:bz xx:=⟨[.d (.sl aI),.du [aI] .bool],[.d .bool],λa=>fU n a.1 a.2.1,none⟩
theorem sJ:aK 69 (CY n) :=cq (au (Ii n) aA) func69 .z n
def aeC:bz xx:=⟨[.d (.int .u8)],[.d .bool],λa=>FE a.1,none⟩
theorem Qt:aK 228 aeC :=cq aA func228 .z 0
def ajj:bz xx:=⟨[.d .str,.du [.int .u8] .bool],[.d ah],λa=>Pj n a.1 a.2.1,none⟩
def ajk:Hn SI:=(b8 (.s (.b (.l ⟨[(5,.v ah)],[],[0,1],[],1128,[]⟩ 0 ⟨[(5,.v ah)],[],[],[],1128,[]⟩ (.s (.s (.j ⟨[(16,.v .bool)],[],[0,1,5],[],1128,[]⟩ .z) .z) .z))) .z))
theorem ajl:aK 229 (ajj n) :=cq aA func229 ajk n
def ahc:bz xx:=⟨[.d (.int .u8)],[.d .bool],λa=>RI a.1,none⟩
theorem ahd:aK 231 ahc :=cq aA func231 .z 0
def abE:bz xx:=⟨[.d (.int .u8)],[.d .bool],λa=>BB a.1,none⟩
theorem abF:aK 230 abE :=cq (au Qt (au ahd aA)) func230 .z 0
def ajm:bz xx:=⟨[.d .str],[.d .bool],λa=>Pk n a.1,none⟩
def ajn:Hn SI:=(.s .z (.s (.s (.j ⟨[(15,.v .bool)],[],[0],[],1064,[]⟩ .z) .z) .z))
theorem ajo:aK 191 (ajm n) :=cq (au Qt (au (ajl n) (au abF aA))) func191 ajn n
def ND:bz xx:=⟨[.d .str,.d .str],[.d .bool],λa=>strings_Contains a.1 a.2.1,none⟩
theorem NE:aK 192 ND:=by
 have hcall:eU Tryz.prog 192:=⟨_,func192,by kernel_rfl,by kernel_rfl⟩;refine An hcall (λ a r h=>?_) rfl;obtain⟨s,b,⟨⟩⟩:=a;have h':strings_Contains s b=some r:=h;unfold strings_Contains at h';cases hb:Nat.ble s.size 4000000 with
 |false=>rw[hb]at h';cases h'
 |true=>
  rw[hb]at h';have h'':some (Lib.contains s.data.toList b.data.toList)=some r:=h';injection h'' with e;subst e;have hw:=Nat.le_of_ble_eq_true hb;exact adZ (g:=0) rfl hcall λm w hm=>af3 s b m w (by omega) hm
end
end Go.Proofs
