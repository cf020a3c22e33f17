import Derived.Test.YthblhgapkimgcaaGreatS2
namespace Go.Proofs
open Go.Gb Go.RowKit
abbrev ff:OP SI:=.c 10 [[.v (.sl bC),.v (.sl aZ),.v (.sl bE),.v (.sl bg),.v (.sl bK),.v (.sl bH),.v (.sl aV),.v ah,.v (.sl ay),.o 1]]
abbrev qr:OP SI:=.c 1 [[.o 1]]
abbrev ry:OP SI:=.c 2 [[.v (.sl bC),(.v (.sl (.sl ah)))]]
abbrev tE:OP SI:=.c 10 [[.v (.sl bC),.v (.sl aZ),.v (.sl bE),.v (.sl bg),.v (.sl bK),.v (.sl bH),.v (.sl aV),.v ah,.v (.sl ay),.o 2]]
abbrev ut:OP SI:=.c 4 [[.v ah,.v ah,.v ah,.v ah]]
abbrev ur:OP SI:=.c 2 [[.v ah,.v ah]]
abbrev wj:OP SI:=.c 1 [[.o 1384]]
abbrev GM:OP SI:=.c 10 [[.v (.sl bC),.v (.sl aZ),.v (.sl bE),.v (.sl bg),.v (.sl bK),.v (.sl bH),.v (.sl aV),.v ah,.v (.sl ay),.o 1960]]
abbrev GG:OP SI:=.c 13 [[.v (.sl bC),.v (.sl aZ),.v (.sl bE),.v (.sl bg),.v (.sl bK),.v (.sl bH),.v (.sl aV),.v ah,.v (.sl iP),(.v (.sl (.st SI.eQ))),(.v (.sl (.st SI.Window))),(.v (.sl (.st SI.gb))),(.v (.sl (.st SI.Entry)))]]
abbrev cg(a:Hn SI):Hn SI:=.s .z (.s .z a)
abbrev gj(a:Hn SI):Hn SI:=.s .z (.s .z (.s .z a))
abbrev uu(a:Hn SI):Hn SI:=.s .z (.s .z (.s .z (.s .z a)))
abbrev wn(a:Hn SI):Hn SI:=.s .z (.s .z (.s .z (.s .z (.s .z a))))
abbrev PH(a:Hn SI):Hn SI:=.s .z (.s .z (.s .z (.s .z (.s .z (.s .z (.s .z (.s .z a)))))))
open Tryz
noncomputable section
variable (n:Nat)
def agY:bz xx:=⟨[.d ah],[.d dG],λa=>fC a.1,none⟩
theorem agZ:aJ 11 agY :=cq aB func11 .z 0
def ajZ:bz xx:=⟨[.d ay],[.d .bool],λa=>nD a.1,none⟩
theorem oG:aJ 65 ajZ :=cq aB func65 .z 0
def XC:bz xx:=⟨[.nil,.d ah],[.fresh ay],λa=>Ns a.1 a.2.1,none⟩
theorem XD:aJ 195 XC :=cq aB func195 .z 0
def Qw:bz xx:=⟨[.d (.sl (.sl ay))],[.fresh ay],λa=>yR n a.1,none⟩
def Qx:Hn SI:=(cg (.s (.s .z (.b (.l ⟨[(3,.v ah),(11,.v ah)],[],[0,9,10],[],1320,[]⟩ 0 ⟨[(3,.v ah)],[],[0],[],1320,[]⟩ .z))) (.s .z (.s (.s .z (.b (.l ⟨[(6,.o 1704),(27,.v ah)],[(1704,.l ay)],[25,26],[],1705,[]⟩ 2 ⟨[(6,.o 1704)],[(1704,.l ay)],[],[],1705,[]⟩ .z))) .z))))
theorem Qy:aJ 153 (Qw n) :=cq (au XD aB) func153 Qx n
def Y4:bz xx:=⟨[.mut ah],[.mu ah],λa=>oV n a.1,none⟩
theorem vS:aJ 131 (Y4 n):=by
 have hcall:eO Tryz.prog 131:=⟨_,func131,by kernel_rfl,by kernel_rfl⟩;refine zj hcall (λ a r h=>?_) rfl;obtain⟨l,⟨⟩⟩:=a;exact ajm Tryz.so131 rfl hcall h
def Qz:bz xx:=⟨[.mut ah],[.whole 0,.mu ah],λa=>oW n a.1,none⟩
def QA:Hn SI:=(cg (.s (.s .z (.b (.lx ⟨[(3,.v ah)],[],[0],[0],1320,[]⟩ 0 ⟨[],[],[0],[0],1320,[]⟩ (.s .z (.s (.b (.s .z (.s (.s .z (.s (.s .z (.b (.l ⟨[(3,.v ah),(5,.v ah)],[(0,.l ah)],[0,4],[],2536,[]⟩ 2 ⟨[(3,.v ah)],[(0,.l ah)],[0],[],2536,[]⟩ (.s .z (.s (.j ⟨[(3,.v ah)],[(0,.l ah)],[0,4,5],[],2792,[]⟩ .z) .z))))) .z)) .z))) .z))))) .z))
theorem vB:aJ 154 (Qz n) :=cq aB func154 QA n
def Lh:bz xx:=⟨[.mut (.st SI.span),.d7 [.st SI.span,.st SI.span] ah],[.mu (.st SI.span)],λa=>uZ n a.1 a.2.1,none⟩
theorem Li:aJ 196 (Lh n):=by
 have hcall:eO Tryz.prog 196:=⟨_,func196,by kernel_rfl,by kernel_rfl⟩;refine zj hcall (λ a r h=>?_) rfl;obtain⟨l,φ,⟨⟩⟩:=a;refine aao (X:=xx) (i:=SI.span) (hI:=(inferInstance:Inhabited aO)) Tryz.so196 rfl hcall Tryz.underlying241 (by kernel_rfl) (λ x t ht=>?_) h;cases x;have ht:t∈[_,_]:=ht;simp only[aN,fq,or_false]at ht;rcases ht with rfl |rfl<;>exact⟨_,rfl,trivial⟩
def SV:bz xx:=⟨[.d ah],[.d .bool],λa=>cmp_isNaN_int a.1,none⟩
theorem SY:aJ 150 SV :=cq aB func150 .z 0
def Ou:bz xx:=⟨[.d ah,.d ah],[.d ah],λa=>cmp_Compare_int a.1 a.2.1,none⟩
theorem lW:aJ 108 Ou :=cq (au SY aB) func108 .z 0
def XE:bz xx:=⟨[.d (.st SI.span),.d (.st SI.span)],[.d ah],λa=>xL a.1 a.2.1,none⟩
theorem XF:aJ 197 XE :=cq (au lW aB) func197 .z 0
def aeT:bz xx:=⟨[.d (.sl ay),.d ah],[.fresh (.st SI.span)],λa=>JC n a.1 a.2.1,none⟩
def aeU:Hn SI:=(cg (.s (.s .z (.b (.l ⟨[(5,.o 1320),(14,.v ah)],[(1320,.l (.st SI.span))],[1,12,13],[],1321,[(5,.st SI.span)]⟩ 0 ⟨[(5,.o 1320)],[(1320,.l (.st SI.span))],[],[],1321,[]⟩ (cg (.s (.j ⟨[(5,.o 1385)],[(1385,.l (.st SI.span))],[1,12,13,14],[],1386,[]⟩ (.b (.s .z (.s (.j ⟨[(27,.v .bool)],[],[1,5,7,12,13,14],[1320,1513],1641,[]⟩ .z) .z)))) .z))))) (cg (.s (.s .z (.b (.l ⟨[(8,.o 1705),(41,.v ah)],[(1705,.l (.st SI.span))],[39,40],[1320],1706,[(8,.st SI.span)]⟩ 2 ⟨[(8,.o 1705)],[(1705,.l (.st SI.span))],[],[],1706,[]⟩ (cg (.s (.j ⟨[(8,.o 1770)],[(1770,.l (.st SI.span))],[39,40,41],[1320],1771,[]⟩ (.b (cg (.s (.j ⟨[(59,.v .bool)],[],[8,10,11,39,40,41],[1320,1705,1898],2218,[]⟩ .z) .z)))) .z))))) .z))))
theorem aeV:aJ 155 (aeT n) :=cq (au (Li n) (au XF aB)) func155 aeU n
def aeW:bz xx:=⟨[.d (.sl (.sl ay))],[.fresh (.st SI.strip)],λa=>oq n a.1,none⟩
def aeX:Hn SI:=(gj (.s (.s .z (.b (.l ⟨[(4,.o 1512),(13,.v ah)],[(1512,.l ah)],[3,11,12],[1128],1513,[(4,ah)]⟩ 0 ⟨[(4,.o 1512)],[(1512,.l ah)],[3],[1128],1513,[]⟩ .z))) (gj (.s (.s .z (.b (.l ⟨[(7,.o 1961),(8,.v ah)],[(1961,.l (.st SI.strip))],[3,4],[1128,1512],1962,[(7,.st SI.strip)]⟩ 2 ⟨[(7,.o 1961)],[(1961,.l (.st SI.strip))],[],[],1962,[]⟩ .z))) .z))))
theorem R7:aJ 110 (aeW n) :=cq (au (Qy n) (au (vS n) (au (vB n) (au (aeV n) aB)))) func110 aeX n
def S9:bz xx:=⟨[.d (.sl (.st SI.span)),.d (.sl (.st SI.span))],[.d .bool],λa=>vG n a.1 a.2.1,none⟩
def Ta:Hn SI:=(cg (.s (.s .z (.b (.lx ⟨[(13,.v ah)],[],[0,1,12],[],1576,[]⟩ 0 ⟨[],[],[],[],1576,[]⟩ .z))) .z))
theorem Td:aJ 160 (S9 n) :=cq aB func160 Ta n
def ag0:bz xx:=⟨[.d (.sl (.st SI.strip))],[.fresh ay],λa=>H9 n a.1,none⟩
def ag1:Hn SI:=(cg (.s (.s .z (.b (.l ⟨[(3,.o 1192),(4,.v ah)],[(1192,.l ay)],[0],[],1193,[(3,ay)]⟩ 0 ⟨[(3,.o 1192)],[(1192,.l ay)],[],[],1193,[]⟩ (.s .z (.b (.s .z (.s (.b (.l ⟨[(5,.v ah)],[],[0,3,4],[1192],1641,[]⟩ 2 ⟨[(5,.v ah)],[],[0,3,4],[1192],1641,[]⟩ (.s (.s (.j ⟨[(30,.v .bool)],[],[0,3,4,5],[1192],1641,[]⟩ .z) .z) .z))) (.s (.s .z (.b (.l ⟨[(3,.o 2089),(39,.v ah)],[(2089,.l ay)],[0,4,5,37,38],[],2090,[]⟩ 4 ⟨[(3,.o 2089)],[(2089,.l ay)],[0,5],[],2090,[]⟩ .z))) .z)))))))) .z))
theorem XG:aJ 114 (ag0 n) :=cq (au (Td n) aB) func114 ag1 n
def acd:bz xx:=⟨[.d (.sl ay)],[.d (.sl ay),.d ah],λa=>yS a.1,none⟩
theorem Ov:aJ 113 acd :=cq aB func113 .z 0
def anJ:bz xx:=⟨[.d (.sl ay)],[.d (.sl ay),.d ah],λa=>M1 n a.1,none⟩
def anK:Hn SI:=(.s .z (.s (.s .z (.b (.lx ⟨[(8,.v ah)],[],[0,6,7],[],1320,[]⟩ 0 ⟨[],[],[0],[],1320,[]⟩ .z))) .z))
theorem anL:aJ 98 (anJ n) :=cq (au oG (au (R7 n) (au (XG n) (au Ov aB)))) func98 anK n
def Te:bz xx:=⟨[.d (.sl ay),.d (.sl ay)],[.d .bool],λa=>ow n a.1 a.2.1,none⟩
def Tf:Hn SI:=(cg (.s (.s .z (.b (.lx ⟨[(13,.v ah)],[],[0,1,12],[],1576,[]⟩ 0 ⟨[],[],[],[],1576,[]⟩ .z))) .z))
theorem Fw:aJ 99 (Te n) :=cq aB func99 Tf n
def ag2:bz xx:=⟨[.d (.sl ay)],[.d .bool],λa=>nU n a.1,none⟩
theorem pq:aJ 55 (ag2 n) :=cq (au (anL n) (au (Fw n) aB)) func55 .z n
def ag3:bz xx:=⟨[.d (.sl ay)],[.d ay,.d .bool],λa=>Nz n a.1,none⟩
def ag4:Hn SI:=(.s .z (.s (.s .z (.b (.l ⟨[(3,.v .bool),(8,.v ah)],[(1000,ut)],[2,6,7],[],1320,[]⟩ 0 ⟨[(3,.v .bool)],[(1000,ut)],[2],[],1320,[]⟩ (cg (.s (.j ⟨[(3,.v .bool)],[(1000,ut)],[2,6,7,8],[],1384,[]⟩ .z) .z))))) .z))
theorem ag5:aJ 64 (ag3 n) :=cq (au oG aB) func64 ag4 n
def aeY:bz xx:=⟨[.d (.sl ay)],[.d ay,.d .bool],λa=>CG n a.1,none⟩
def aeZ:Hn SI:=(.s .z (.s (.s (.j ⟨[(11,.v .bool)],[],[0,2],[1000],1128,[]⟩ .z) .z) .z))
theorem R8:aJ 35 (aeY n) :=cq (au (pq n) (au (ag5 n) aB)) func35 aeZ n
def ae0:bz xx:=⟨[.d ay],[.d ay,.d .bool],λa=>sG a.1,none⟩
theorem IV:aJ 66 ae0 :=cq (au oG aB) func66 .z 0
def ag6:bz xx:=⟨[.d ay,.d ah],[.d ay,.d .bool],λa=>NA a.1 a.2.1,none⟩
def ag7:Hn SI:=(.s .z (.s (.s (.j ⟨[(12,.v .bool)],[],[1,2,4],[1000,1064],1192,[]⟩ .z) .z) .z))
theorem ag8:aJ 36 ag6 :=cq (au oG (au IV aB)) func36 ag7 0
def uL:bz xx:=⟨[.d (.sl (.st SI.strip)),.d ah,.d7 [.st SI.strip,ah] ah],[.d ah,.d .bool],λa=>ja n a.1 a.2.1 a.2.2.1,none⟩
def uM:Hn SI:=(gj (.s (.b (.l ⟨[(9,.v ah),(10,.v ah)],[],[0,1,2,8],[],1512,[]⟩ 0 ⟨[(9,.v ah)],[],[0,1,2,8],[],1512,[]⟩ .z)) .z))
theorem uN:aJ 158 (uL n) :=cq aB func158 uM n
def ag9:bz xx:=⟨[.d (.st SI.strip),.d ah],[.d ah],λa=>wF a.1 a.2.1,none⟩
theorem aha:aJ 159 ag9 :=cq aB func159 .z 0
def anM:bz xx:=⟨[.d (.sl (.st SI.strip)),.d ah],[.d (.sl (.st SI.span))],λa=>WR n a.1 a.2.1,none⟩
def anN:Hn SI:=(cg (.s (.s (.j ⟨[(25,.v .bool)],[],[0,5],[],1576,[]⟩ .z) .z) .z))
theorem anO:aJ 112 (anM n) :=cq (au (uN n) (au aha aB)) func112 anN n
def XH:bz xx:=⟨[.nil,.d ah],[.fresh (.st SI.span)],λa=>NC a.1 a.2.1,none⟩
theorem XI:aJ 198 XH :=cq aB func198 .z 0
def QB:bz xx:=⟨[.d (.sl (.sl (.st SI.span)))],[.fresh (.st SI.span)],λa=>yT n a.1,none⟩
def QC:Hn SI:=(cg (.s (.s .z (.b (.l ⟨[(3,.v ah),(11,.v ah)],[],[0,9,10],[],1320,[]⟩ 0 ⟨[(3,.v ah)],[],[0],[],1320,[]⟩ .z))) (.s .z (.s (.s .z (.b (.l ⟨[(6,.o 1704),(27,.v ah)],[(1704,.l (.st SI.span))],[25,26],[],1705,[]⟩ 2 ⟨[(6,.o 1704)],[(1704,.l (.st SI.span))],[],[],1705,[]⟩ .z))) .z))))
theorem QD:aJ 156 (QB n) :=cq (au XI aB) func156 QC n
def vC:bz xx:=⟨[.d (.sl (.st SI.span)),.d ah,.d7 [.st SI.span,ah] ah],[.d ah,.d .bool],λa=>jr n a.1 a.2.1 a.2.2.1,none⟩
def vD:Hn SI:=(gj (.s (.b (.l ⟨[(9,.v ah),(10,.v ah)],[],[0,1,2,8],[],1512,[]⟩ 0 ⟨[(9,.v ah)],[],[0,1,2,8],[],1512,[]⟩ .z)) .z))
theorem vE:aJ 199 (vC n) :=cq aB func199 vD n
def XJ:bz xx:=⟨[.d (.st SI.span),.d ah],[.d ah],λa=>lF a.1 a.2.1,none⟩
theorem XK:aJ 200 XJ :=cq aB func200 .z 0
def ae1:bz xx:=⟨[.d (.sl (.st SI.span)),.d ah],[.d .bool],λa=>CJ n a.1 a.2.1,none⟩
theorem ae2:aJ 157 (ae1 n) :=cq (au (vE n) (au XK aB)) func157 .z n
def ahb:bz xx:=⟨[.d (.sl (.st SI.span)),.d (.sl (.st SI.span)),.d7 [.bool,.bool] .bool],[.fresh (.st SI.span)],λa=>Ia n a.1 a.2.1 a.2.2.1,none⟩
def ahc:Hn SI:=(cg (.s (.s .z (.b (.l ⟨[(7,.o 1512),(19,.v ah)],[(1512,.l ah)],[0,1,2,17,18],[1320],1513,[(7,ah)]⟩ 0 ⟨[(7,.o 1512)],[(1512,.l ah)],[0,1,2],[],1513,[]⟩ .z))) (gj (.s (.s .z (.b (.l ⟨[(10,.o 1961),(11,.v ah)],[(1961,.l (.st SI.span))],[0,1,2,7],[1512],1962,[(10,.st SI.span)]⟩ 2 ⟨[(10,.o 1961)],[(1961,.l (.st SI.span))],[],[],1962,[]⟩ (.s .z (.s (.j ⟨[(10,.o 2218)],[(2218,.l (.st SI.span))],[0,1,2,7,11],[1512],2219,[]⟩ (.b (gj (.s (.j ⟨[(68,.v .bool)],[],[0,1,2,7,10,11,12,13],[1512,1961],3370,[]⟩ .z) .z)))) .z))))) .z))))
theorem ahd:aJ 111 (ahb n) :=cq (au (QD n) (au (vS n) (au (vB n) (au (ae2 n) aB)))) func111 ahc n
def ace:bz xx:=⟨[.d (.sl ay),.d (.sl ay),.d7 [.bool,.bool] .bool],[.d (.sl ay),.d ah],λa=>Ej n a.1 a.2.1 a.2.2.1,none⟩
def acf:Hn SI:=(.s .z (.s (.s (.j ⟨[(20,.v .bool)],[],[0,1,2],[],1128,[]⟩ .z) .z) (.s (.f [6,7]) (.s .z (.s (.s .z (.b (.l ⟨[(33,.v ah)],[(1832,.l (.st SI.strip))],[2,8,9,10,31,32],[],2152,[]⟩ 0 ⟨[],[(1832,.l (.st SI.strip))],[10],[],2152,[]⟩ .z))) .z)))))
theorem acg:aJ 67 (ace n) :=cq (au (pq n) (au (R7 n) (au (anO n) (au (ahd n) (au (XG n) (au Ov aB)))))) func67 acf n
def XL:bz xx:=⟨[.d .bool,.d .bool],[.d .bool],λa=>xM a.1 a.2.1,none⟩
theorem XM:aJ 68 XL :=cq aB func68 .z 0
def ae3:bz xx:=⟨[.d (.sl ay),.d (.sl ay)],[.d (.sl ay),.d ah],λa=>CK n a.1 a.2.1,none⟩
theorem R9:aJ 37 (ae3 n) :=cq (au (acg n) (au XM aB)) func37 .z n
def ami:bz xx:=⟨[.d ay],[.d ah],λa=>oZ a.1,none⟩
theorem zb:aJ 39 ami :=cq (au IV aB) func39 .z 0
def aj0:bz xx:=⟨[.d (.sl ay)],[.d ah],λa=>JD n a.1,none⟩
def aj1:Hn SI:=(gj (.s (.s .z (.b (.l ⟨[(3,.v ah),(11,.v ah)],[],[9,10],[],1512,[]⟩ 0 ⟨[(3,.v ah)],[],[],[],1512,[]⟩ .z))) .z))
theorem QE:aJ 38 (aj0 n) :=cq (au (pq n) (au zb aB)) func38 aj1 n
def XO:bz xx:=⟨[.d iP,.d ah],[.d ay,.d .bool],λa=>nE n a.1 a.2.1,none⟩
def XP:Hn SI:=(cg (.s (.s (.j ⟨[(26,.v .bool)],[],[1,2,4,6],[1000,1064,1576],1768,[]⟩ .z) .z) .z))
theorem IW:aJ 18 (XO n) :=cq (au (R8 n) (au ag8 (au (R9 n) (au (QE n) (au zb aB))))) func18 XP n
def ach:bz xx:=⟨[.d (.sl ah)],[.d ah],λa=>rM n a.1,none⟩
def aci:Hn SI:=(cg (.s (.s .z (.b (.lx ⟨[(8,.v ah)],[],[3,6,7],[],1320,[]⟩ 0 ⟨[],[],[3],[],1320,[]⟩ .z))) .z))
theorem EX:aJ 107 (ach n) :=cq aB func107 aci n
def aj2:bz xx:=⟨[],[.d .bool],λ_=>none,some (@pbG xx SI.j7 SI.en (inferInstance:Inhabited aT) vy 106 104)⟩
theorem aj3:aJ 105 aj2:=
 L4 (mX func105 (by kernel_rfl:Tryz.f105.body=some (Tryz.f105.body.getD .skip)) (by kernel_rfl)) (am0 (X:=xx) (ip:=SI.j7) (ik:=SI.en) (hI:=(inferInstance:Inhabited aT)) Tryz.so105 rfl (mX func105 (by kernel_rfl:Tryz.f105.body=some (Tryz.f105.body.getD .skip)) (by kernel_rfl)) (mX func106 (by kernel_rfl:Tryz.f106.body=some (Tryz.f106.body.getD .skip)) (by kernel_rfl)) (fs:=(Tryz.prog.underlying 51).elim #[] λd=>match d with | .struct fs=>fs |_=>#[]) (by kernel_rfl) (by kernel_rfl) M2 (tm:=187) (kt:=189) (et:=3) (ei:=(Ro tab 3).get (by kernel_rfl)) (by kernel_rfl) (by kernel_rfl) (aa0 (mk:=(2,.i64)) M2 (by kernel_rfl)) (λ r=>by cases r<;>rfl) vy
  (aot (ti:=3) am5 aoy (λ x y=>ah5 (X:=xx) (cs:=[.int .i64,.int .i64]) (r:= .int .i64) lW (x,y,()) (apl x y)) λa b c d e=>ah5 (X:=xx) (cs:=[.sl ah]) (r:= .int .i64) (EX 10) ([a,b,c,d,e],()) (ad6 a b c d e)))
def QF:bz xx:=⟨[.d (.sl iP)],[.fresh fe],λa=>tL n a.1,none⟩
def QG:Hn SI:=(uu (.s (.s .z (.b (.l ⟨[(3,.o 1640),(17,.v ah)],[(1128,.m (.st SI.en) ah),(1320,.m ah .bool),(1640,.l fe)],[4,5,15,16],[1192],1641,[(3,fe)]⟩ 0 ⟨[(3,.o 1640)],[(1128,.m (.st SI.en) ah),(1640,.l fe)],[4],[1192],1641,[]⟩ (cg (.s (.j ⟨[(3,.o 1705)],[(1128,.m (.st SI.en) ah),(1320,.m ah .bool),(1705,.l fe)],[4,5,15,16,17],[1192],1706,[]⟩ (.b (.s .z (.s (.s (.j ⟨[(34,.v .bool)],[],[3,4,5,7,15,16,17],[1128,1192,1320,1640,1833],1961,[]⟩ .z) .z) (cg (.b (.l ⟨[(3,.o 2281),(38,.v ah)],[(1128,.m (.st SI.en) ah),(2281,.l fe)],[4,5,7,15,16,17],[1192,1320,1833],2282,[]⟩ 2 ⟨[(3,.o 2281)],[(1128,.m (.st SI.en) ah),(2281,.l fe)],[4,5,15,16,17],[1192,1320],2282,[]⟩ (cg (.s (.j ⟨[(3,.o 2346)],[(1128,.m (.st SI.en) ah),(2346,.l fe)],[4,5,7,15,16,17,38],[1192,1320,1833],2347,[]⟩ (.b (wn (.b (.l ⟨[(3,.o 3754),(56,.v ah)],[(3754,.l fe)],[4,5,7,8,15,16,17,38],[1128,1192,1320,1833],3755,[]⟩ 4 ⟨[(3,.o 3754)],[(3754,.l fe)],[4,5,7,15,16,17,38],[1128,1192,1320,1833],3755,[]⟩ .z))))) .z))))))))) .z))))) .z))
theorem QH:aJ 61 (QF n) :=cq (au (IW n) (au zb (au aj3 aB))) func61 QG n
def Ow:bz xx:=⟨[.d iP,.ref fe],[.d .bool],λa=>qW a.1 a.2.1,none⟩
theorem Ox:aJ 60 Ow :=cq aB func60 .z 0
def Lj:bz xx:=⟨[.d (.sl iP),.d7 [iP] .bool],[.d ah],λa=>u6 n a.1 a.2.1,none⟩
def Ll:Hn SI:=(.s .z (.s (.s .z (.b (.lx ⟨[(8,.v ah)],[],[0,1,7],[],1256,[]⟩ 0 ⟨[],[],[],[],1256,[]⟩ .z))) .z))
theorem Lm:aJ 59 (Lj n) :=cq aB func59 Ll n
def Tg:bz xx:=⟨[.d iP,.d fe],[.d (.st SI.dE),.d .bool],λa=>qD n a.1 a.2.1,none⟩
def Ti:Hn SI:=(cg (.s (.s (.j ⟨[(54,.v .bool)],[],[3,4,6],[1064,1128,1704],1896,[]⟩ .z) .z) (.s .z (.s (.j ⟨[],[(2408,.c 9 [[.v ah,.v ah,.v ah,.v ah,.v ah,.v ah,.v ah,.v ah,.v .bool]])],[3,4,8],[1064,1128],2536,[]⟩ .z) .z))))
theorem Fx:aJ 8 (Tg n) :=cq (au (IW n) aB) func8 Ti n
def XQ:bz xx:=⟨[.d fI,.d fe],[.d (.st SI.dE),.d .bool],λa=>tN n a.1 a.2.1,none⟩
theorem IX:aJ 28 (XQ n) :=cq (au (Lm n) (au Ox (au (Fx n) aB))) func28 .z n
def Tj:bz xx:=⟨[.d fI],[.fresh (.st SI.site)],λa=>qE n a.1,none⟩
def Tk:Hn SI:=(cg (.s (.s .z (.b (.l ⟨[(3,.o 1512),(12,.v ah)],[(1512,.l (.st SI.site))],[1,10,11],[1000,1320],1513,[(3,.st SI.site)]⟩ 0 ⟨[(3,.o 1512)],[(1512,.l (.st SI.site))],[],[],1513,[]⟩ (cg (.s (.j ⟨[(3,.o 1577)],[(1577,.l (.st SI.site))],[1,10,11,12],[1000,1320],1578,[]⟩ .z) .z))))) .z))
theorem Fy:aJ 32 (Tj n) :=cq (au (QH n) (au (IX n) aB)) func32 Tk n
def Tm:bz xx:=⟨[.d fI,.d dG],[.d fI],λa=>witness_under a.1 a.2.1,none⟩
theorem wY:aJ 30 Tm :=cq aB func30 .z 0
def Tn:bz xx:=⟨[.d (.sl ay)],[.fresh ay],λa=>A9 a.1,none⟩
theorem Tp:aJ 115 Tn :=cq aB func115 .z 0
def XR:bz xx:=⟨[.d (.sl ah)],[.fresh ah],λa=>Em a.1,none⟩
theorem XT:aJ 116 XR :=cq aB func116 .z 0
def ahe:bz xx:=⟨[.d iP],[.d iP],λa=>NF a.1,none⟩
theorem ahf:aJ 69 ahe :=cq (au Tp (au XT aB)) func69 .z 0
def aj4:bz xx:=⟨[.d (.sl iP),.d ah],[.d iP,.d .bool],λa=>NG n a.1 a.2.1,none⟩
def aj5:Hn SI:=(.s .z (.s (.s .z (.b (.lx ⟨[(10,.v ah)],[],[1,4,8,9],[1000],1320,[]⟩ 0 ⟨[],[],[4],[1000],1320,[]⟩ .z))) .z))
theorem aj6:aJ 40 (aj4 n) :=cq (au ahf aB) func40 aj5 n
def Oy:bz xx:=⟨[.d (.st SI.dE),.d ah,.d ah],[.fresh aG],λa=>nV n a.1 a.2.1 a.2.2.1,none⟩
def Oz:Hn SI:=(cg (.s (.s .z (.b (.l ⟨[(7,.o 1448),(13,.v ah)],[(1448,.l aG)],[1,2,11,12],[],1449,[(7,aG)]⟩ 0 ⟨[(7,.o 1448)],[(1448,.l aG)],[],[],1449,[]⟩ (cg (.s (.j ⟨[(7,.o 1513)],[(1513,.l aG)],[1,2,11,12,13],[],1514,[]⟩ (.b (.s .z (.s (.j ⟨[(25,.v .bool)],[],[1,2,7,9,11,12,13],[1448,1705],1897,[]⟩ .z) .z)))) .z))))) .z))
theorem Az:aJ 80 (Oy n) :=cq aB func80 Oz n
def Y5:bz xx:=⟨[.d (.st SI.dE)],[.fresh aG],λa=>wI n a.1,none⟩
theorem KM:aJ 71 (Y5 n) :=cq (au (Az n) aB) func71 .z n
def FQ:bz xx:=⟨[.d aG],[.d .bool],λa=>fZ a.1,none⟩
def FR:Hn SI:=(cg (.s (.s (.j ⟨[(26,.v .bool)],[],[1],[1000],1384,[]⟩ .z) .z) (.s (.s (.j ⟨[(34,.v .bool)],[],[1],[1000],1384,[]⟩ .z) .z) .z)))
theorem kK:aJ 81 FQ :=cq (au oG aB) func81 FR 0
def Y6:bz xx:=⟨[.d ay,.d ay],[.d ay,.d .bool],λa=>sH a.1 a.2.1,none⟩
def Y7:Hn SI:=(.s .z (.s (.s (.j ⟨[(13,.v .bool)],[],[2,3,4],[1000,1064,1128],1256,[]⟩ .z) .z) .z))
theorem Bh:aJ 161 Y6 :=cq (au oG (au IV aB)) func161 Y7 0
def XU:bz xx:=⟨[.d (.st SI.D1),.d (.st SI.D1)],[.d .bool],λa=>xN a.1 a.2.1,none⟩
theorem XV:aJ 118 XU :=cq (au Bh aB) func118 .z 0
def OA:bz xx:=⟨[.d aG,.ref aG],[.d .bool],λa=>qX a.1 a.2.1,none⟩
theorem OC:aJ 117 OA :=cq (au XV aB) func117 .z 0
def FT:bz xx:=⟨[.d (.sl aG),.d7 [aG] .bool],[.d ah],λa=>qi n a.1 a.2.1,none⟩
def FU:Hn SI:=(.s .z (.s (.s .z (.b (.lx ⟨[(8,.v ah)],[],[0,1,7],[],1256,[]⟩ 0 ⟨[],[],[],[],1256,[]⟩ .z))) .z))
theorem FV:aJ 96 (FT n) :=cq aB func96 FU n
def Bj:bz xx:=⟨[.d (.sl aG),.d7 [aG] .bool],[.d .bool],λa=>fK n a.1 a.2.1,none⟩
theorem qQ:aJ 53 (Bj n) :=cq (au (FV n) aB) func53 .z n
def acj:bz xx:=⟨[.d (.int .u8)],[.d .bool],λa=>Ep a.1,none⟩
theorem OD:aJ 201 acj :=cq aB func201 .z 0
def ahg:bz xx:=⟨[.d .str,.d7 [.int .u8] .bool],[.d ah],λa=>NH n a.1 a.2.1,none⟩
def ahh:Hn SI:=(cg (.s (.b (.l ⟨[(5,.v ah)],[],[0,1],[],1128,[]⟩ 0 ⟨[(5,.v ah)],[],[],[],1128,[]⟩ (.s (.s (.j ⟨[(16,.v .bool)],[],[0,1,5],[],1128,[]⟩ .z) .z) .z))) .z))
theorem ahi:aJ 202 (ahg n) :=cq aB func202 ahh n
def ae4:bz xx:=⟨[.d (.int .u8)],[.d .bool],λa=>Qa a.1,none⟩
theorem ae5:aJ 204 ae4 :=cq aB func204 .z 0
def Y8:bz xx:=⟨[.d (.int .u8)],[.d .bool],λa=>Af a.1,none⟩
theorem Y9:aJ 203 Y8 :=cq (au OD (au ae5 aB)) func203 .z 0
def ahj:bz xx:=⟨[.d .str],[.d .bool],λa=>NI n a.1,none⟩
def ahk:Hn SI:=(.s .z (.s (.s (.j ⟨[(15,.v .bool)],[],[0],[],1064,[]⟩ .z) .z) .z))
theorem ahl:aJ 162 (ahj n) :=cq (au OD (au (ahi n) (au Y9 aB))) func162 ahk n
def Lp:bz xx:=⟨[.d .str,.d .str],[.d .bool],λa=>strings_Contains a.1 a.2.1,none⟩
theorem Lr:aJ 163 Lp:=by
 have hcall:eO Tryz.prog 163:=⟨_,func163,by kernel_rfl,by kernel_rfl⟩;refine zj hcall (λ a r h=>?_) rfl;obtain⟨s,b,⟨⟩⟩:=a;have h':strings_Contains s b=some r:=h;unfold strings_Contains at h';cases hb:Nat.ble s.size 4000000 with
 |false=>rw[hb]at h';cases h'
 |true=>
  rw[hb]at h';have h'':some (Lib.contains s.data.toList b.data.toList)=some r:=h';injection h'' with e;subst e;have hw:=Nat.le_of_ble_eq_true hb;exact abF (g:=0) rfl hcall λm w hm=>ad8 s b m w (by omega) hm
def Za:bz xx:=⟨[.d .str],[.d .bool],λa=>wJ n a.1,none⟩
theorem Zb:aJ 119 (Za n) :=cq (au (ahl n) (au Lr aB)) func119 .z n
def XW:bz xx:=⟨[.d (.st SI.dE)],[.d .bool],λa=>xO n a.1,none⟩
def XY:Hn SI:=(cg (.s (.s (.j ⟨[(42,.v .bool)],[],[1,3],[1000,1192],1320,[]⟩ .z) .z) (.s (.s .z (.b (.lx ⟨[(45,.v ah)],[],[1,3,43,44],[1000,1192],1512,[]⟩ 0 ⟨[],[],[1],[1000],1512,[]⟩ (cg (.s (.b (.s .z (.s (.j ⟨[(59,.v .bool)],[],[1,3,43,44,45],[1000,1192],1960,[]⟩ .z) .z))) .z))))) (.s (.s .z (.b (.lx ⟨[(64,.v ah)],[],[62,63],[],1768,[]⟩ 2 ⟨[],[],[],[],1768,[]⟩ (cg (.s (.b (cg (.s (.s .z (.b (.lx ⟨[(72,.v ah)],[(2088,.m .str .bool)],[7,8,62,63,64,70,71],[1960],2472,[]⟩ 4 ⟨[],[],[7,62,63,64],[1960],2472,[]⟩ (cg (.s (.b (.s .z (.s (.s (.j ⟨[(95,.v .bool)],[],[7,8,10,62,63,64,70,71,72],[1960,2088,2664],2792,[]⟩ .z) .z) .z))) .z))))) .z))) .z))))) .z))))
theorem XZ:aJ 70 (XW n) :=cq (au (KM n) (au kK (au (qQ n) (au OC (au (Zb n) aB))))) func70 XY n
def Ls:bz xx:=⟨[.d bK,.ref (.st SI.Entry)],[.d .bool],λa=>u7 a.1 a.2.1,none⟩
theorem Lu:aJ 73 Ls :=cq aB func73 .z 0
def Lv:bz xx:=⟨[.d (.sl bK),.d7 [bK] .bool],[.d ah],λa=>ve n a.1 a.2.1,none⟩
def Lx:Hn SI:=(.s .z (.s (.s .z (.b (.lx ⟨[(8,.v ah)],[],[0,1,7],[],1256,[]⟩ 0 ⟨[],[],[],[],1256,[]⟩ .z))) .z))
theorem LA:aJ 120 (Lv n) :=cq aB func120 Lx n
def FW:bz xx:=⟨[.d (.sl bK),.d7 [bK] .bool],[.d .bool],λa=>mG n a.1 a.2.1,none⟩
theorem FX:aJ 72 (FW n) :=cq (au (LA n) aB) func72 .z n
def Tq:bz xx:=⟨[.d dG,.d iP,.d (.st SI.dE)],[.d .bool],λa=>oC n a.1 a.2.1 a.2.2.1,none⟩
def Tt:Hn SI:=(.s .z (.s (.s (.j ⟨[(30,.v .bool)],[],[3,4,5],[1000,1064,1128],1256,[]⟩ .z) .z) (.s (.s .z (.b (.lx ⟨[(34,.v ah)],[],[3,4,5,32,33],[1000,1064,1128,1320],1512,[]⟩ 0 ⟨[],[],[3,5],[1000,1128],1512,[]⟩ (cg (.s (.b (cg (.s (.j ⟨[(58,.v .bool)],[],[3,4,5,32,33,34],[1000,1064,1128,1320],2600,[]⟩ .z) .z))) .z))))) (.s (.s .z (.b (.lx ⟨[(63,.v ah)],[],[3,61,62],[1000],1768,[]⟩ 2 ⟨[],[],[],[],1768,[]⟩ (cg (.s (.b (cg (.b (.lx ⟨[(70,.v ah)],[],[3,61,62,63,68,69],[1000],2344,[]⟩ 4 ⟨[],[],[3,61,62,63],[1000],2344,[]⟩ .z)))) .z))))) .z))))
theorem Tv:aJ 41 (Tq n) :=cq (au (XZ n) (au (pq n) (au (KM n) (au (R9 n) (au (QE n) (au zb (au (FX n) (au Lu aB)))))))) func41 Tt n
def QI:bz xx:=⟨[.d (.st SI.dE)],[.fresh aG],λa=>tO n a.1,none⟩
def QJ:Hn SI:=(cg (.s (.s .z (.b (.l ⟨[(3,.o 1448),(9,.v ah)],[(1448,.l aG)],[7,8],[],1449,[(3,aG)]⟩ 0 ⟨[(3,.o 1448)],[(1448,.l aG)],[],[],1449,[]⟩ .z))) .z))
theorem QK:aJ 42 (QI n) :=cq aB func42 QJ n
def QL:bz xx:=⟨[.d (.sl (.st SI.iu))],[.fresh (.st SI.side)],λa=>o6 n a.1,none⟩
def QM:Hn SI:=(cg (.s (.s .z (.b (.l ⟨[(10,.v ah)],[(1192,.l (.st SI.side))],[0,3,9],[],1512,[]⟩ 0 ⟨[],[(1192,.l (.st SI.side))],[3],[],1512,[]⟩ .z))) .z))
theorem C8:aJ 207 (QL n) :=cq aB func207 QM n
def QN:bz xx:=⟨[.d (.st SI.iu)],[.d .bool],λa=>tQ a.1,none⟩
theorem QO:aJ 243 QN :=cq aB func243 .z 0
def EY:bz xx:=⟨[.d (.st SI.side)],[.d .bool],λa=>gI a.1,none⟩
theorem uG:aJ 208 EY :=cq aB func208 .z 0
def OE:bz xx:=⟨[.d (.st SI.iu),.d (.st SI.iu)],[.d ah],λa=>qY n a.1 a.2.1,none⟩
theorem OG:aJ 244 (OE n) :=cq (au lW (au (EX n) aB)) func244 .z n
def EZ:bz xx:=⟨[.d (.st SI.side),.d (.st SI.side)],[.d .bool],λa=>lJ a.1 a.2.1,none⟩
theorem E5:aJ 245 EZ :=cq aB func245 .z 0
def Tw:bz xx:=⟨[.d (.sl (.st SI.iu))],[.d .bool],λa=>vI n a.1,none⟩
def Tx:Hn SI:=(.s .z (.s (.s (.j ⟨[(16,.v .bool)],[],[0],[],1064,[]⟩ .z) .z) (.s .z (.s (.s .z (.b (.lx ⟨[(21,.v ah)],[],[0,3,19,20],[1128],1448,[]⟩ 0 ⟨[],[],[3],[1128],1448,[]⟩ (cg (.s (.b (cg (.s (.s (.j ⟨[(61,.v .bool)],[],[0,3,4,19,20,21],[1128],2536,[]⟩ .z) .z) (.s (.j ⟨[(74,.v .bool)],[],[0,3,19,20,21],[1128],2536,[]⟩ .z) .z)))) .z))))) (.s (.s .z (.b (.lx ⟨[(78,.v ah)],[],[3,77],[1128],1640,[]⟩ 2 ⟨[],[],[3],[1128],1640,[]⟩ (cg (.s (.b (cg (.b (.lx ⟨[(8,.v ah)],[],[3,7,77,78],[1128],2024,[]⟩ 4 ⟨[],[],[3,77,78],[1128],2024,[]⟩ (.s .z (.s (.b (.s (.j ⟨[(106,.v .bool)],[],[3,7,8,77,78],[1128],2280,[]⟩ .z) .z)) .z)))))) .z))))) .z)))))
theorem Ty:aJ 206 (Tw n) :=cq (au (C8 n) (au QO (au uG (au (OG n) (au E5 aB))))) func206 Tx n
def QR:bz xx:=⟨[.d (.sl (.st SI.iu))],[.fresh ay,.d ah],λa=>tT n a.1,none⟩
def QS:Hn SI:=(gj (.s (.s .z (.b (.l ⟨[(4,.o 1576),(19,.v ah)],[(1576,.l ah)],[0,17,18],[],1577,[(4,ah)]⟩ 0 ⟨[(4,.o 1576)],[(1576,.l ah)],[0],[],1577,[]⟩ .z))) (uu (.s (.s .z (.b (.l ⟨[(8,.o 2409),(38,.v ah)],[(2409,.l ay)],[4,7,37],[1576,1961],2410,[(8,ay)]⟩ 2 ⟨[(8,.o 2409)],[(2409,.l ay)],[],[],2410,[]⟩ (cg (.s (.b (cg (.s (.s .z (.b (.l ⟨[(10,.o 2858),(43,.v ah)],[(2858,.l ah)],[4,7,8,9,37,38,41,42],[1576,1961,2409],2859,[(10,ah)]⟩ 4 ⟨[(10,.o 2858)],[(2858,.l ah)],[4,7,8,9,37,38],[1576,1961,2409],2859,[]⟩ (cg (.s (.j ⟨[(10,.o 2923)],[(2923,.l ah)],[4,7,8,9,37,38,41,42,43],[1576,1961,2409],2924,[]⟩ (.b (.s .z (.s (.j ⟨[(77,.v .bool)],[],[4,7,8,9,10,12,37,38,41,42,43],[1576,1961,2409,2858,3051],3179,[]⟩ .z) .z)))) .z))))) (cg (.b (.l ⟨[(8,.o 3051),(13,.v ah)],[(3051,.l ay)],[4,7,9,10,37,38],[1576,1961,2858],3052,[]⟩ 6 ⟨[(8,.o 3051)],[(3051,.l ay)],[4,7,37,38],[1576,1961],3052,[]⟩ .z)))))) .z))))) .z))))
theorem QT:aJ 164 (QR n) :=cq (au (Ty n) (au (vS n) (au (vB n) (au (C8 n) (au uG aB))))) func164 QS n
def X0:bz xx:=⟨[.d bE],[.fresh ay],λa=>xP n a.1,none⟩
theorem X4:aJ 122 (X0 n) :=cq (au (QT n) aB) func122 .z n
def Tz:bz xx:=⟨[.d (.sl ay),.d (.sl ay)],[.d ah,.d (.st SI.iu)],λa=>vJ n a.1 a.2.1,none⟩
def TA:Hn SI:=(cg (.s (.s .z (.b (.l ⟨[(6,.v ah),(18,.v ah)],[(1192,ur)],[1,5,7,16,17],[1064],1576,[]⟩ 0 ⟨[(6,.v ah)],[(1192,ur)],[5,7],[1064],1576,[]⟩ (cg (.s (.b (cg (.b (.l ⟨[(6,.v ah),(24,.v ah)],[(1192,ur)],[1,5,7,9,16,17,18,22,23],[1064,1768],2088,[]⟩ 2 ⟨[(6,.v ah)],[(1192,ur)],[1,5,7,16,17,18],[1064],2088,[]⟩ (cg (.s (.j ⟨[(6,.v ah)],[(1192,ur)],[1,5,7,9,16,17,18,22,23,24],[1064,1768],2152,[]⟩ .z) .z)))))) .z))))) .z))
theorem TB:aJ 121 (Tz n) :=cq (au Bh (au zb (au lW (au (EX n) aB)))) func121 TA n
def TD:bz xx:=⟨[.d dG,.d (.sl ay)],[.fresh ah],λa=>vK n a.1 a.2.1,none⟩
def TF:Hn SI:=(gj (.s (.s .z (.b (.l ⟨[(5,.o 1640),(16,.v ah)],[(1640,.l ah)],[1,14,15],[],1641,[(5,ah)]⟩ 0 ⟨[(5,.o 1640)],[(1640,.l ah)],[],[],1641,[]⟩ .z))) .z))
theorem TH:aJ 74 (TD n) :=cq (au (pq n) (au (X4 n) (au (TB n) aB))) func74 TF n
def ae6:bz xx:=⟨[.d dG,.d (.sl ay)],[.fresh .str],λa=>CO n a.1 a.2.1,none⟩
def ae7:Hn SI:=(gj (.s (.s .z (.b (.l ⟨[(6,.v ah),(17,.v ah)],[],[2,5,15,16],[1000,1256],1640,[]⟩ 0 ⟨[(6,.v ah)],[],[2,5],[1000,1256],1640,[]⟩ (cg (.s (.j ⟨[(6,.v ah)],[],[2,5,15,16,17],[1000,1256],1704,[]⟩ (.b (.s .z (.s (.j ⟨[(44,.v .bool)],[],[2,5,6,7,15,16,17],[1000,1256],2024,[]⟩ .z) .z)))) .z))))) (.s .z (.s (.s .z (.b (.l ⟨[(9,.o 1896),(49,.v ah)],[(1896,.l .str)],[2,6,47,48],[1000,1256],1897,[(9,.str)]⟩ 2 ⟨[(9,.o 1896)],[(1896,.l .str)],[],[],1897,[]⟩ (cg (.s (.j ⟨[(9,.o 1961)],[(1961,.l .str)],[2,6,47,48,49],[1000,1256],1962,[]⟩ (.b (.s .z (.s (.j ⟨[(68,.v .bool)],[],[2,6,9,10,47,48,49],[1000,1256,1896],2281,[]⟩ .z) .z)))) .z))))) .z))))
theorem ae8:aJ 43 (ae6 n) :=cq (au (TH n) aB) func43 ae7 n
def Zc:bz xx:=⟨[.d fI,.d (.st SI.dE)],[.d (.st SI.ke),.d ah],λa=>Ag n a.1 a.2.1,none⟩
theorem Zd:aJ 19 (Zc n) :=cq (au (aj6 n) (au (Tv n) (au (QK n) (au (ae8 n) aB)))) func19 .z n
def OH:bz xx:=⟨[.d (.sl .str),.d .str],[.d ah],λa=>qZ n a.1 a.2.1,none⟩
def OI:Hn SI:=(.s .z (.s (.s .z (.b (.lx ⟨[(8,.v ah)],[],[0,1,7],[],1256,[]⟩ 0 ⟨[],[],[],[],1256,[]⟩ .z))) .z))
theorem OJ:aJ 44 (OH n) :=cq aB func44 OI n
def IY:bz xx:=⟨[.d (.sl .str),.d .str],[.d .bool],λa=>fJ n a.1 a.2.1,none⟩
theorem pu:aJ 21 (IY n) :=cq (au (OJ n) aB) func21 .z n
def LB:bz xx:=⟨[.d .str,.ref (.sl .str)],[.d .bool],λa=>jX n a.1 a.2.1,none⟩
theorem LC:aJ 75 (LB n) :=cq (au (pu n) aB) func75 .z n
def FY:bz xx:=⟨[.d (.sl .str),.d7 [.str] .bool],[.d ah],λa=>qj n a.1 a.2.1,none⟩
def FZ:Hn SI:=(.s .z (.s (.s .z (.b (.lx ⟨[(8,.v ah)],[],[0,1,7],[],1256,[]⟩ 0 ⟨[],[],[],[],1256,[]⟩ .z))) .z))
theorem F3:aJ 123 (FY n) :=cq aB func123 FZ n
def Bl:bz xx:=⟨[.d (.sl .str),.d7 [.str] .bool],[.d .bool],λa=>fM n a.1 a.2.1,none⟩
theorem Bn:aJ 76 (Bl n) :=cq (au (F3 n) aB) func76 .z n
def TJ:bz xx:=⟨[.d bg,.d (.sl .str)],[.d .bool],λa=>qF n a.1 a.2.1,none⟩
theorem TK:aJ 45 (TJ n) :=cq (au (Bn n) (au (LC n) aB)) func45 .z n
def X5:bz xx:=⟨[.d dG,.d (.sl .str),.d ah],[.fresh ah],λa=>tV n a.1 a.2.1 a.2.2.1,none⟩
def X6:Hn SI:=(cg (.s (.s .z (.b (.l ⟨[(7,.o 1448),(13,.v ah)],[(1448,.l ah)],[1,2,11,12],[],1449,[(7,ah)]⟩ 0 ⟨[(7,.o 1448)],[(1448,.l ah)],[],[],1449,[]⟩ (cg (.s (.j ⟨[(7,.o 1513)],[(1513,.l ah)],[1,2,11,12,13],[],1514,[]⟩ (.b (.s .z (.s (.j ⟨[(37,.v .bool)],[],[1,2,7,8,11,12,13],[1448],1897,[]⟩ .z) .z)))) .z))))) .z))
theorem X7:aJ 22 (X5 n) :=cq (au (TK n) aB) func22 X6 n
def LD:bz xx:=⟨[.mut ay,.d7 [ay,ay] ah],[.mu ay],λa=>vg n a.1 a.2.1,none⟩
theorem LF:aJ 129 (LD n):=by
 have hcall:eO Tryz.prog 129:=⟨_,func129,by kernel_rfl,by kernel_rfl⟩;refine zj hcall (λ a r h=>?_) rfl;obtain⟨l,φ,⟨⟩⟩:=a;refine aao (X:=xx) (i:=SI.mi) (hI:=(inferInstance:Inhabited ax)) Tryz.so129 rfl hcall Tryz.underlying69 (by kernel_rfl) (λ x t ht=>?_) h;cases x;have ht:t∈[_,_,_,_]:=ht;simp only[aN,fq,or_false]at ht;rcases ht with rfl |rfl |rfl |rfl<;>exact⟨_,rfl,trivial⟩
def C9:bz xx:=⟨[.d ay,.d ay],[.d ah],λa=>iJ a.1 a.2.1,none⟩
theorem Da:aJ 130 C9 :=cq (au lW aB) func130 .z 0
def OL:bz xx:=⟨[.d aG],[.d ah],λa=>kS a.1,none⟩
def OM:Hn SI:=(.s .z (.s (.s (.j ⟨[(9,.v .bool)],[],[1],[1000],1128,[]⟩ .z) .z) .z))
theorem AA:aJ 135 OL :=cq (au kK aB) func135 OM 0
def TM:bz xx:=⟨[.d aG],[.d ah],λa=>oD a.1,none⟩
theorem Fz:aJ 133 TM :=cq (au kK (au zb (au AA aB))) func133 .z 0
def Bo:bz xx:=⟨[.d aG],[.d ah],λa=>nI a.1,none⟩
theorem Bp:aJ 136 Bo :=cq aB func136 .z 0
def Db:bz xx:=⟨[.d aG],[.d ah],λa=>oI a.1,none⟩
theorem Dc:aJ 137 Db :=cq aB func137 .z 0
def TN:bz xx:=⟨[.d ay,.d ah],[.d ay,.d .bool],λa=>Ba a.1 a.2.1,none⟩
theorem TP:aJ 177 TN :=cq (au oG aB) func177 .z 0
def QU:bz xx:=⟨[.d (.st SI.Entry),.ref (.st SI.m4),.ref ah],[.d .bool],λa=>kg a.1 a.2.1 a.2.2.1,none⟩
theorem QV:aJ 231 QU :=cq aB func231 .z 0
def IZ:bz xx:=⟨[.d (.sl (.st SI.Entry)),.d7 [.st SI.Entry] .bool],[.d ah],λa=>ko n a.1 a.2.1,none⟩
def I4:Hn SI:=(.s .z (.s (.s .z (.b (.lx ⟨[(8,.v ah)],[],[0,1,7],[],1256,[]⟩ 0 ⟨[],[],[],[],1256,[]⟩ .z))) .z))
theorem wR:aJ 172 (IZ n) :=cq aB func172 I4 n
def Ze:bz xx:=⟨[.d dG,.d ah],[.d ah],λa=>Ah n a.1 a.2.1,none⟩
def Zf:Hn SI:=(cg (.s (.s .z (.b (.lx ⟨[(14,.v ah)],[],[3,5,12,13],[1064,1256],1640,[]⟩ 0 ⟨[],[],[],[],1640,[]⟩ (cg (.s (.b (gj (.s (.j ⟨[(8,.v ah)],[],[],[],2344,[]⟩ .z) .z))) .z))))) .z))
theorem Zg:aJ 178 (Ze n) :=cq (au (wR n) (au QV aB)) func178 Zf n
def OO:bz xx:=⟨[.d dG,.d aG],[.d ah],λa=>kT n a.1 a.2.1,none⟩
def OQ:Hn SI:=(cg (.s (.s (.j ⟨[(20,.v .bool)],[],[5,6],[],1704,[]⟩ .z) .z) .z))
theorem OT:aJ 140 (OO n) :=cq (au (Zg n) (au Fz aB)) func140 OQ n
def F4:cX xx:=⟨[.p 0],[(0,ff),(1,.l aG)],[.v ah],[(0,ff),(1,.l aG)],λv=>mH n v.1 v.2.1 v.2.2.1 v.2.2.2.1 v.2.2.2.2.1 v.2.2.2.2.2.1 v.2.2.2.2.2.2.1 v.2.2.2.2.2.2.2.1 v.2.2.2.2.2.2.2.2.1 v.2.2.2.2.2.2.2.2.2⟩
def F5:bz xx:=⟨[],[.d .bool],λ_=>none,some (F4 n)⟩
theorem F6:aJ 82 (F5 n) :=ov (au (QE n) aB) func82 .z n (by kernel_rfl) λ_=>by kernel_rfl
def Df:cX xx:=⟨[.p 0],[(0,ff),(1,.l aG)],[.v ah],[(0,ff),(1,.l aG)],λv=>iK n v.1 v.2.1 v.2.2.1 v.2.2.2.1 v.2.2.2.2.1 v.2.2.2.2.2.1 v.2.2.2.2.2.2.1 v.2.2.2.2.2.2.2.1 v.2.2.2.2.2.2.2.2.1 v.2.2.2.2.2.2.2.2.2⟩
def Dg:bz xx:=⟨[],[.d .bool],λ_=>none,some (Df n)⟩
def Dh:Hn SI:=(gj (.s (.s .z (.b (.l ⟨[(3,.o 1960),(23,.v ah)],[(1448,.l ay),(1960,.l ah)],[4,21,22],[0,1],1961,[(3,ah)]⟩ 0 ⟨[(3,.o 1960)],[(1448,.l ay),(1960,.l ah)],[4],[0,1],1961,[]⟩ .z))) (gj (.s (.s .z (.b (.l ⟨[(7,.v ah),(56,.v ah)],[],[3,4,55],[0,1,1448,1960],2601,[]⟩ 2 ⟨[(7,.v ah)],[],[],[0,1],2601,[]⟩ (cg (.s (.b (gj (.b (.l ⟨[(7,.v ah),(9,.v ah),(61,.v ah)],[],[3,4,8,55,56,59,60],[0,1,1448,1960],3049,[]⟩ 4 ⟨[(7,.v ah)],[],[3,4,55,56],[0,1,1448,1960],3049,[]⟩ (cg (.s (.j ⟨[(7,.v ah),(9,.v ah)],[],[3,4,8,55,56,59,60,61],[0,1,1448,1960],3113,[]⟩ (.b (.s .z (.s (.j ⟨[(86,.v .bool)],[],[3,4,7,8,9,11,55,56,59,60,61],[0,1,1448,1960,3241],3369,[]⟩ .z) .z)))) .z)))))) .z))))) .z))))
theorem Di:aJ 83 (Dg n) :=ov (au (LF n) (au Da (au (vS n) aB))) func83 Dh n (by kernel_rfl) λ_=>by kernel_rfl
def F7:cX xx:=⟨[.p 0,(.f 133 [] [])],[(0,ff),(1,.l aG)],[.v ah],[(0,ff),(1,.l aG)],λv=>ql n v.1 v.2.1 v.2.2.1 v.2.2.2.1 v.2.2.2.2.1 v.2.2.2.2.2.1 v.2.2.2.2.2.2.1 v.2.2.2.2.2.2.2.1 v.2.2.2.2.2.2.2.2.1 v.2.2.2.2.2.2.2.2.2⟩
def F8:bz xx:=⟨[],[.d .bool],λ_=>none,some (F7 n)⟩
def F9:Hn SI:=(cg (.s (.s .z (.b (.l ⟨[(5,.v ah),(13,.v ah)],[],[1,11,12],[0,1],1512,[]⟩ 0 ⟨[(5,.v ah)],[],[],[0,1],1512,[]⟩ .z))) .z))
theorem Ga:aJ 132 (F8 n) :=ov (au Fz aB) func132 F9 n (by kernel_rfl) λ_=>by kernel_rfl
def Dj:cX xx:=⟨[.p 0],[(0,ff),(1,.l aG)],[.v ah],[(0,ff),(1,.l aG)],λv=>kG n v.1 v.2.1 v.2.2.1 v.2.2.2.1 v.2.2.2.2.1 v.2.2.2.2.2.1 v.2.2.2.2.2.2.1 v.2.2.2.2.2.2.2.1 v.2.2.2.2.2.2.2.2.1 v.2.2.2.2.2.2.2.2.2⟩
def Dk:bz xx:=⟨[],[.d .bool],λ_=>none,some (Dj n)⟩
theorem Dl:aJ 84 (Dk n) :=ov (au (Ga n) aB) func84 .z n (by kernel_rfl) λ_=>by kernel_rfl
def ze:cX xx:=⟨[.p 0,(.f 135 [] [])],[(0,ff),(1,.l aG)],[.v ah],[(0,ff),(1,.l aG)],λv=>l7 n v.1 v.2.1 v.2.2.1 v.2.2.2.1 v.2.2.2.2.1 v.2.2.2.2.2.1 v.2.2.2.2.2.2.1 v.2.2.2.2.2.2.2.1 v.2.2.2.2.2.2.2.2.1 v.2.2.2.2.2.2.2.2.2⟩
def zf:bz xx:=⟨[],[.d .bool],λ_=>none,some (ze n)⟩
def zh:Hn SI:=(cg (.s (.s .z (.b (.l ⟨[(5,.v ah),(13,.v ah)],[],[1,11,12],[0,1],1512,[]⟩ 0 ⟨[(5,.v ah)],[],[],[0,1],1512,[]⟩ .z))) .z))
theorem zi:aJ 134 (zf n) :=ov (au AA aB) func134 zh n (by kernel_rfl) λ_=>by kernel_rfl
def Bq:cX xx:=⟨[.p 0],[(0,ff),(1,.l aG)],[.v ah],[(0,ff),(1,.l aG)],λv=>jF n v.1 v.2.1 v.2.2.1 v.2.2.2.1 v.2.2.2.2.1 v.2.2.2.2.2.1 v.2.2.2.2.2.2.1 v.2.2.2.2.2.2.2.1 v.2.2.2.2.2.2.2.2.1 v.2.2.2.2.2.2.2.2.2⟩
def Br:bz xx:=⟨[],[.d .bool],λ_=>none,some (Bq n)⟩
theorem Bt:aJ 85 (Br n) :=ov (au (zi n) aB) func85 .z n (by kernel_rfl) λ_=>by kernel_rfl
def zk:cX xx:=⟨[.p 0,(.f 136 [] [])],[(0,ff),(1,.l aG)],[.v ah],[(0,ff),(1,.l aG)],λv=>l8 n v.1 v.2.1 v.2.2.1 v.2.2.2.1 v.2.2.2.2.1 v.2.2.2.2.2.1 v.2.2.2.2.2.2.1 v.2.2.2.2.2.2.2.1 v.2.2.2.2.2.2.2.2.1 v.2.2.2.2.2.2.2.2.2⟩
def zl:bz xx:=⟨[],[.d .bool],λ_=>none,some (zk n)⟩
def zm:Hn SI:=(cg (.s (.s .z (.b (.l ⟨[(5,.v ah),(13,.v ah)],[],[1,11,12],[0,1],1512,[]⟩ 0 ⟨[(5,.v ah)],[],[],[0,1],1512,[]⟩ .z))) .z))
theorem zn:aJ 134 (zl n) :=ov (au Bp aB) func134 zm n (by kernel_rfl) λ_=>by kernel_rfl
def Bu:cX xx:=⟨[.p 0],[(0,ff),(1,.l aG)],[.v ah],[(0,ff),(1,.l aG)],λv=>jG n v.1 v.2.1 v.2.2.1 v.2.2.2.1 v.2.2.2.2.1 v.2.2.2.2.2.1 v.2.2.2.2.2.2.1 v.2.2.2.2.2.2.2.1 v.2.2.2.2.2.2.2.2.1 v.2.2.2.2.2.2.2.2.2⟩
def Bv:bz xx:=⟨[],[.d .bool],λ_=>none,some (Bu n)⟩
theorem Bw:aJ 86 (Bv n) :=ov (au (zn n) aB) func86 .z n (by kernel_rfl) λ_=>by kernel_rfl
def Gc:cX xx:=⟨[.p 0,(.f 137 [] [])],[(0,ff),(1,.l aG)],[.v ah],[(0,ff),(1,.l aG)],λv=>qm n v.1 v.2.1 v.2.2.1 v.2.2.2.1 v.2.2.2.2.1 v.2.2.2.2.2.1 v.2.2.2.2.2.2.1 v.2.2.2.2.2.2.2.1 v.2.2.2.2.2.2.2.2.1 v.2.2.2.2.2.2.2.2.2⟩
def Gd:bz xx:=⟨[],[.d .bool],λ_=>none,some (Gc n)⟩
def Gf:Hn SI:=(cg (.s (.s .z (.b (.l ⟨[(5,.v ah),(13,.v ah)],[],[1,11,12],[0,1],1512,[]⟩ 0 ⟨[(5,.v ah)],[],[],[0,1],1512,[]⟩ .z))) .z))
theorem Gg:aJ 132 (Gd n) :=ov (au Dc aB) func132 Gf n (by kernel_rfl) λ_=>by kernel_rfl
def Dm:cX xx:=⟨[.p 0],[(0,ff),(1,.l aG)],[.v ah],[(0,ff),(1,.l aG)],λv=>kH n v.1 v.2.1 v.2.2.1 v.2.2.2.1 v.2.2.2.2.1 v.2.2.2.2.2.1 v.2.2.2.2.2.2.1 v.2.2.2.2.2.2.2.1 v.2.2.2.2.2.2.2.2.1 v.2.2.2.2.2.2.2.2.2⟩
def Dn:bz xx:=⟨[],[.d .bool],λ_=>none,some (Dm n)⟩
theorem Dp:aJ 87 (Dn n) :=ov (au (Gg n) aB) func87 .z n (by kernel_rfl) λ_=>by kernel_rfl
def Bz:cX xx:=⟨[.p 0,.v ay,.v ah],[(0,ff),(1,.l aG)],[.v .bool],[(0,ff),(1,.l aG)],λv=>jI n v.1 v.2.1 v.2.2.1 v.2.2.2.1 v.2.2.2.2.1 v.2.2.2.2.2.1 v.2.2.2.2.2.2.1 v.2.2.2.2.2.2.2.1 v.2.2.2.2.2.2.2.2.1 v.2.2.2.2.2.2.2.2.2.1 v.2.2.2.2.2.2.2.2.2.2.1 v.2.2.2.2.2.2.2.2.2.2.2⟩
def BB:bz xx:=⟨[],[.d .bool],λ_=>none,some (Bz n)⟩
def BD:Hn SI:=(uu (.s (.s .z (.b (.l ⟨[(9,.v ah),(27,.v ah)],[],[7,25,26],[0,1,1512],2280,[]⟩ 0 ⟨[(9,.v ah)],[],[7],[0,1,1512],2280,[]⟩ (cg (.s (.j ⟨[(9,.v ah)],[],[7,25,26,27],[0,1,1512],2344,[]⟩ .z) .z))))) .z))
theorem BG:aJ 138 (BB n) :=ov (au TP (au Bh (au zb aB))) func138 BD n (by kernel_rfl) λ_=>by kernel_rfl
def zK:cX xx:=⟨[.p 0],[(0,ff),(1,.l aG)],[.v ah],[(0,ff),(1,.l aG)],λv=>jk n v.1 v.2.1 v.2.2.1 v.2.2.2.1 v.2.2.2.2.1 v.2.2.2.2.2.1 v.2.2.2.2.2.2.1 v.2.2.2.2.2.2.2.1 v.2.2.2.2.2.2.2.2.1 v.2.2.2.2.2.2.2.2.2⟩
def zL:bz xx:=⟨[],[.d .bool],λ_=>none,some (zK n)⟩
def zM:Hn SI:=(cg (.s (.s .z (.b (.l ⟨[(3,.v ah),(14,.v ah)],[(0,ff),(1,.l aG)],[0,12,13],[],1512,[]⟩ 0 ⟨[(3,.v ah)],[(0,ff),(1,.l aG)],[],[],1512,[]⟩ (cg (.s (.b (cg (.s (.b (.l ⟨[(6,.v ah),(7,.v ah)],[(0,ff),(1,.l aG)],[0,5,12,13,14],[1704],2024,[]⟩ 2 ⟨[(6,.v ah)],[(0,ff),(1,.l aG)],[0,12,13,14],[],2024,[]⟩ .z)) .z))) .z))))) .z))
theorem zN:aJ 88 (zL n) :=ov (au (BG n) aB) func88 zM n (by kernel_rfl) λ_=>by kernel_rfl
def wZ:cX xx:=⟨[.v aG,.p 0],[(0,.c 1 [[.p 1]]),(1,tE),(2,.l aG)],[.v ah],[(0,.c 1 [[.p 1]]),(1,tE),(2,.l aG)],λv=>ku n v.1 v.2.1 v.2.2.1 v.2.2.2.1 v.2.2.2.2.1 v.2.2.2.2.2.1 v.2.2.2.2.2.2.1 v.2.2.2.2.2.2.2.1 v.2.2.2.2.2.2.2.2.1 v.2.2.2.2.2.2.2.2.2.1 v.2.2.2.2.2.2.2.2.2.2⟩
def xg:bz xx:=⟨[],[.d .bool],λ_=>none,some (wZ n)⟩
theorem xh:aJ 139 (xg n) :=ov (au (OT n) aB) func139 .z n (by kernel_rfl) λ_=>by kernel_rfl
def Gh:cX xx:=⟨[.p 0,(.f 139 [] [.p 1])],[(0,tE),(1,.c 1 [[.p 0]]),(2,.l aG)],[.v ah],[(0,tE),(1,.c 1 [[.p 0]]),(2,.l aG)],λv=>qo n v.1 v.2.1 v.2.2.1 v.2.2.2.1 v.2.2.2.2.1 v.2.2.2.2.2.1 v.2.2.2.2.2.2.1 v.2.2.2.2.2.2.2.1 v.2.2.2.2.2.2.2.2.1 v.2.2.2.2.2.2.2.2.2⟩
def Gi:bz xx:=⟨[],[.d .bool],λ_=>none,some (Gh n)⟩
def Gj:Hn SI:=(cg (.s (.s .z (.b (.l ⟨[(5,.v ah),(13,.v ah)],[(0,tE),(1,.c 1 [[.p 0]]),(2,.l aG)],[1,11,12],[],1512,[]⟩ 0 ⟨[(5,.v ah)],[(0,tE),(1,.c 1 [[.p 0]]),(2,.l aG)],[],[],1512,[]⟩ .z))) .z))
theorem Gl:aJ 132 (Gi n) :=ov (au (xh n) aB) func132 Gj n (by kernel_rfl) λ_=>by kernel_rfl
def zO:cX xx:=⟨[.p 0],[(0,ff),(1,.l aG)],[.v ah],[(0,ff),(1,.l aG)],λv=>jl n v.1 v.2.1 v.2.2.1 v.2.2.2.1 v.2.2.2.2.1 v.2.2.2.2.2.1 v.2.2.2.2.2.2.1 v.2.2.2.2.2.2.2.1 v.2.2.2.2.2.2.2.2.1 v.2.2.2.2.2.2.2.2.2⟩
def zP:bz xx:=⟨[],[.d .bool],λ_=>none,some (zO n)⟩
theorem zQ:aJ 89 (zP n) :=ov (au (Gl n) aB) func89 .z n (by kernel_rfl) λ_=>by kernel_rfl
def ack:bz xx:=⟨[.d dG,.d iP,.d (.st SI.dE)],[.fresh (.st SI.Entry)],λa=>kz n a.1 a.2.1 a.2.2.1,none⟩
def acn:Hn SI:=(cg (.s (.j ⟨[],[(1384,.c 10 [[.v (.sl bC),.v (.sl aZ),.v (.sl bE),.v (.sl bg),.v (.sl bK),.v (.sl bH),.v (.sl aV),.v ah,.v (.sl ay),.nil]])],[5,7],[1128],1512,[]⟩ .z) (.s (.s .z (.b (.l ⟨[(31,.v ah)],[(1384,GM),(1960,.l aG)],[7,29,30],[1768],1961,[(6668873,aG)]⟩ 0 ⟨[],[(1384,GM),(1960,.l aG)],[7],[],1961,[]⟩ (cg (.s (.j ⟨[],[(1384,.c 10 [[.v (.sl bC),.v (.sl aZ),.v (.sl bE),.v (.sl bg),.v (.sl bK),.v (.sl bH),.v (.sl aV),.v ah,.v (.sl ay),.o 2025]]),(2025,.l aG)],[7,29,30,31],[1768],2026,[]⟩ (.b (.s .z (.s (.j ⟨[(41,.v .bool)],[],[7,9,29,30,31],[1384,1768,1960,2217],2409,[]⟩ .z) .z)))) .z))))) (cg (.s (.s .z (.b (.un .z (.un .z (.un .z (.un .z (.un .z (.un .z (.un .z (.un .z (.un .z (.un .z .z)))))))))))) .z)))))
theorem aco:aJ 47 (ack n) :=cq (au (pq n) (au (Az n) (au kK (au (F6 n) (au (Di n) (au (Dl n) (au (Bt n) (au (Bw n) (au (Dp n) (au (zN n) (au (zQ n) aB))))))))))) func47 acn n
def ahm:bz xx:=⟨[.d ah],[.d ah,.d .bool],λa=>yU a.1,none⟩
def ahn:Hn SI:=(.s .z (.s (.s .z (.b (.s (.j ⟨[(5,.v .bool)],[],[0,4],[],1192,[]⟩ .z) (.s .z (.s (.j ⟨[(10,.v .bool)],[],[0,4],[],1192,[]⟩ .z) .z))))) .z))
theorem aho:aJ 165 ahm :=cq aB func165 ahn 0
def ae9:Hn SI:=(cg (.s (.s (.j ⟨[(28,.v .bool)],[],[1,2],[1000],1640,[]⟩ .z) .z) (.s .z (.s (.s .z (.b (.l ⟨[(7,.v ah),(32,.v ah)],[],[1,30,31],[],1960,[]⟩ 0 ⟨[(7,.v ah)],[],[],[],1960,[]⟩ .z))) .z))))
theorem acp(rc:(cu)->(Int)->Option Int)(hr:aJ 124 (Es rc)):aJ 124 (Es (Ai n rc)) :=cq (au aho (au hr aB)) func124 ae9 n
theorem OU(n:Nat):∀m,aJ 124 (Es (sI n m))
 | 0=>zj (mX func124 (by kernel_rfl:Tryz.f124.body=some (Tryz.f124.body.getD .skip)) (by kernel_rfl)) (λ _ _ h=>(by cases h)) rfl
 |m+1=>acp n _ (OU n m)
def afa:bz xx:=⟨[.d (.st SI.Expr),.d ah],[.d ah],λa=>Qb n a.1 a.2.1,none⟩
theorem afb:aJ 124 (afa n):=OU n n
def ahp:bz xx:=⟨[.d (.st SI.Expr)],[.d .bool],λa=>Ib n a.1,none⟩
end
end Go.Proofs
