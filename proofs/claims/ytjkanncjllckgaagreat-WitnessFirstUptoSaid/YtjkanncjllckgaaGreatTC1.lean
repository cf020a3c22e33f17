import Derived.Test.YtjkanncjllckgaaGreatS2
namespace Go.Proofs
open Go.Gb Go.RowKit
abbrev fg:OP SI:=.c 10 [[.v (.sl bC),.v (.sl aZ),.v (.sl bE),.v (.sl bg),.v (.sl bJ),.v (.sl bH),.v (.sl aU),.v ah,.v (.sl ay),.o 1]]
abbrev qq:OP SI:=.c 1 [[.o 1]]
abbrev rx:OP SI:=.c 2 [[.v (.sl bC),(.v (.sl (.sl ah)))]]
abbrev tE:OP SI:=.c 10 [[.v (.sl bC),.v (.sl aZ),.v (.sl bE),.v (.sl bg),.v (.sl bJ),.v (.sl bH),.v (.sl aU),.v ah,.v (.sl ay),.o 2]]
abbrev ut:OP SI:=.c 4 [[.v ah,.v ah,.v ah,.v ah]]
abbrev ur:OP SI:=.c 2 [[.v ah,.v ah]]
abbrev wj:OP SI:=.c 1 [[.o 1384]]
abbrev GM:OP SI:=.c 10 [[.v (.sl bC),.v (.sl aZ),.v (.sl bE),.v (.sl bg),.v (.sl bJ),.v (.sl bH),.v (.sl aU),.v ah,.v (.sl ay),.o 1960]]
abbrev GG:OP SI:=.c 13 [[.v (.sl bC),.v (.sl aZ),.v (.sl bE),.v (.sl bg),.v (.sl bJ),.v (.sl bH),.v (.sl aU),.v ah,.v (.sl iQ),(.v (.sl (.st SI.eR))),(.v (.sl (.st SI.Window))),(.v (.sl (.st SI.gb))),(.v (.sl (.st SI.Entry)))]]
abbrev cg(a:Hn SI):Hn SI:=.s .z (.s .z a)
abbrev gO(a:Hn SI):Hn SI:=.s .z (.s .z (.s .z a))
abbrev uv(a:Hn SI):Hn SI:=.s .z (.s .z (.s .z (.s .z a)))
abbrev uu(a:Hn SI):Hn SI:=.s .z (.s .z (.s .z (.s .z (.s .z a))))
abbrev PJ(a:Hn SI):Hn SI:=.s .z (.s .z (.s .z (.s .z (.s .z (.s .z (.s .z (.s .z a)))))))
open Tryz
noncomputable section
variable (n:Nat)
def agR:bx xx:=⟨[.d ah],[.d dD],λa=>fC a.1,none⟩
theorem agS:aJ 10 agR :=cq aB func10 .z 0
def ajQ:bx xx:=⟨[.d ay],[.d .bool],λa=>ny a.1,none⟩
theorem ow:aJ 47 ajQ :=cq aB func47 .z 0
def Xx:bx xx:=⟨[.nil,.d ah],[.fresh ay],λa=>Nt a.1 a.2.1,none⟩
theorem Xy:aJ 147 Xx :=cq aB func147 .z 0
def Qs:bx xx:=⟨[.d (.sl (.sl ay))],[.fresh ay],λa=>yN n a.1,none⟩
def Qt:Hn SI:=(cg (.s (.s .z (.b (.l ⟨[(3,.v ah),(11,.v ah)],[],[0,9,10],[],1320,[]⟩ 0 ⟨[(3,.v ah)],[],[0],[],1320,[]⟩ .z))) (.s .z (.s (.s .z (.b (.l ⟨[(6,.o 1704),(27,.v ah)],[(1704,.l ay)],[25,26],[],1705,[]⟩ 2 ⟨[(6,.o 1704)],[(1704,.l ay)],[],[],1705,[]⟩ .z))) .z))))
theorem Qu:aJ 102 (Qs n) :=cq (au Xy aB) func102 Qt n
def YX:bx xx:=⟨[.mut ah],[.mu ah],λa=>oO n a.1,none⟩
theorem vQ:aJ 103 (YX n):=by
 have hcall:eT Tryz.prog 103:=⟨_,func103,by kernel_rfl,by kernel_rfl⟩;refine zp hcall (λ a r h=>?_) rfl;obtain⟨l,⟨⟩⟩:=a;exact ajb Tryz.so103 rfl hcall h
def Qv:bx xx:=⟨[.mut ah],[.whole 0,.mu ah],λa=>oP n a.1,none⟩
def Qw:Hn SI:=(cg (.s (.s .z (.b (.lx ⟨[(3,.v ah)],[],[0],[0],1320,[]⟩ 0 ⟨[],[],[0],[0],1320,[]⟩ (.s .z (.s (.b (.s .z (.s (.s .z (.s (.s .z (.b (.l ⟨[(3,.v ah),(5,.v ah)],[(0,.l ah)],[0,4],[],2536,[]⟩ 2 ⟨[(3,.v ah)],[(0,.l ah)],[0],[],2536,[]⟩ (.s .z (.s (.j ⟨[(3,.v ah)],[(0,.l ah)],[0,4,5],[],2792,[]⟩ .z) .z))))) .z)) .z))) .z))))) .z))
theorem vv:aJ 104 (Qv n) :=cq aB func104 Qw n
def Le:bx xx:=⟨[.mut (.st SI.span),.d8 [.st SI.span,.st SI.span] ah],[.mu (.st SI.span)],λa=>uX n a.1 a.2.1,none⟩
theorem Lf:aJ 149 (Le n):=by
 have hcall:eT Tryz.prog 149:=⟨_,func149,by kernel_rfl,by kernel_rfl⟩;refine zp hcall (λ a r h=>?_) rfl;obtain⟨l,φ,⟨⟩⟩:=a;refine aai (X:=xx) (i:=SI.span) (hI:=(inferInstance:Inhabited aO)) Tryz.so149 rfl hcall Tryz.underlying198 (by kernel_rfl) (λ x t ht=>?_) h;cases x;have ht:t∈[_,_]:=ht;simp only[aN,fu,or_false]at ht;rcases ht with rfl |rfl<;>exact⟨_,rfl,trivial⟩
def SF:bx xx:=⟨[.d ah],[.d .bool],λa=>cmp_isNaN_int a.1,none⟩
theorem SG:aJ 38 SF :=cq aB func38 .z 0
def Ou:bx xx:=⟨[.d ah,.d ah],[.d ah],λa=>cmp_Compare_int a.1 a.2.1,none⟩
theorem lU:aJ 23 Ou :=cq (au SG aB) func23 .z 0
def Xz:bx xx:=⟨[.d (.st SI.span),.d (.st SI.span)],[.d ah],λa=>xH a.1 a.2.1,none⟩
theorem XA:aJ 150 Xz :=cq (au lU aB) func150 .z 0
def aeL:bx xx:=⟨[.d (.sl ay),.d ah],[.fresh (.st SI.span)],λa=>Jw n a.1 a.2.1,none⟩
def aeM:Hn SI:=(cg (.s (.s .z (.b (.l ⟨[(5,.o 1320),(14,.v ah)],[(1320,.l (.st SI.span))],[1,12,13],[],1321,[(5,.st SI.span)]⟩ 0 ⟨[(5,.o 1320)],[(1320,.l (.st SI.span))],[],[],1321,[]⟩ (cg (.s (.j ⟨[(5,.o 1385)],[(1385,.l (.st SI.span))],[1,12,13,14],[],1386,[]⟩ (.b (.s .z (.s (.j ⟨[(27,.v .bool)],[],[1,5,7,12,13,14],[1320,1513],1641,[]⟩ .z) .z)))) .z))))) (cg (.s (.s .z (.b (.l ⟨[(8,.o 1705),(41,.v ah)],[(1705,.l (.st SI.span))],[39,40],[1320],1706,[(8,.st SI.span)]⟩ 2 ⟨[(8,.o 1705)],[(1705,.l (.st SI.span))],[],[],1706,[]⟩ (cg (.s (.j ⟨[(8,.o 1770)],[(1770,.l (.st SI.span))],[39,40,41],[1320],1771,[]⟩ (.b (cg (.s (.j ⟨[(59,.v .bool)],[],[8,10,11,39,40,41],[1320,1705,1898],2218,[]⟩ .z) .z)))) .z))))) .z))))
theorem aeN:aJ 105 (aeL n) :=cq (au (Lf n) (au XA aB)) func105 aeM n
def aeO:bx xx:=⟨[.d (.sl (.sl ay))],[.fresh (.st SI.strip)],λa=>oh n a.1,none⟩
def aeP:Hn SI:=(gO (.s (.s .z (.b (.l ⟨[(4,.o 1512),(13,.v ah)],[(1512,.l ah)],[3,11,12],[1128],1513,[(4,ah)]⟩ 0 ⟨[(4,.o 1512)],[(1512,.l ah)],[3],[1128],1513,[]⟩ .z))) (gO (.s (.s .z (.b (.l ⟨[(7,.o 1961),(8,.v ah)],[(1961,.l (.st SI.strip))],[3,4],[1128,1512],1962,[(7,.st SI.strip)]⟩ 2 ⟨[(7,.o 1961)],[(1961,.l (.st SI.strip))],[],[],1962,[]⟩ .z))) .z))))
theorem RY:aJ 72 (aeO n) :=cq (au (Qu n) (au (vQ n) (au (vv n) (au (aeN n) aB)))) func72 aeP n
def SH:bx xx:=⟨[.d (.sl (.st SI.span)),.d (.sl (.st SI.span))],[.d .bool],λa=>vD n a.1 a.2.1,none⟩
def SK:Hn SI:=(cg (.s (.s .z (.b (.lx ⟨[(13,.v ah)],[],[0,1,12],[],1576,[]⟩ 0 ⟨[],[],[],[],1576,[]⟩ .z))) .z))
theorem SL:aJ 110 (SH n) :=cq aB func110 SK n
def agT:bx xx:=⟨[.d (.sl (.st SI.strip))],[.fresh ay],λa=>H7 n a.1,none⟩
def agU:Hn SI:=(cg (.s (.s .z (.b (.l ⟨[(3,.o 1192),(4,.v ah)],[(1192,.l ay)],[0],[],1193,[(3,ay)]⟩ 0 ⟨[(3,.o 1192)],[(1192,.l ay)],[],[],1193,[]⟩ (.s .z (.b (.s .z (.s (.b (.l ⟨[(5,.v ah)],[],[0,3,4],[1192],1641,[]⟩ 2 ⟨[(5,.v ah)],[],[0,3,4],[1192],1641,[]⟩ (.s (.s (.j ⟨[(30,.v .bool)],[],[0,3,4,5],[1192],1641,[]⟩ .z) .z) .z))) (.s (.s .z (.b (.l ⟨[(3,.o 2089),(39,.v ah)],[(2089,.l ay)],[0,4,5,37,38],[],2090,[]⟩ 4 ⟨[(3,.o 2089)],[(2089,.l ay)],[0,5],[],2090,[]⟩ .z))) .z)))))))) .z))
theorem XB:aJ 76 (agT n) :=cq (au (SL n) aB) func76 agU n
def ab2:bx xx:=⟨[.d (.sl ay)],[.d (.sl ay),.d ah],λa=>yO a.1,none⟩
theorem Ov:aJ 75 ab2 :=cq aB func75 .z 0
def anF:bx xx:=⟨[.d (.sl ay)],[.d (.sl ay),.d ah],λa=>N3 n a.1,none⟩
def anG:Hn SI:=(.s .z (.s (.s .z (.b (.lx ⟨[(8,.v ah)],[],[0,6,7],[],1320,[]⟩ 0 ⟨[],[],[0],[],1320,[]⟩ .z))) .z))
theorem anH:aJ 70 (anF n) :=cq (au ow (au (RY n) (au (XB n) (au Ov aB)))) func70 anG n
def SQ:bx xx:=⟨[.d (.sl ay),.d (.sl ay)],[.d .bool],λa=>om n a.1 a.2.1,none⟩
def SS:Hn SI:=(cg (.s (.s .z (.b (.lx ⟨[(13,.v ah)],[],[0,1,12],[],1576,[]⟩ 0 ⟨[],[],[],[],1576,[]⟩ .z))) .z))
theorem Fv:aJ 71 (SQ n) :=cq aB func71 SS n
def agV:bx xx:=⟨[.d (.sl ay)],[.d .bool],λa=>nR n a.1,none⟩
theorem o7:aJ 45 (agV n) :=cq (au (anH n) (au (Fv n) aB)) func45 .z n
def agW:bx xx:=⟨[.d (.sl ay)],[.d ay,.d .bool],λa=>NA n a.1,none⟩
def agX:Hn SI:=(.s .z (.s (.s .z (.b (.l ⟨[(3,.v .bool),(8,.v ah)],[(1000,ut)],[2,6,7],[],1320,[]⟩ 0 ⟨[(3,.v .bool)],[(1000,ut)],[2],[],1320,[]⟩ (cg (.s (.j ⟨[(3,.v .bool)],[(1000,ut)],[2,6,7,8],[],1384,[]⟩ .z) .z))))) .z))
theorem agY:aJ 46 (agW n) :=cq (au ow aB) func46 agX n
def aeQ:bx xx:=⟨[.d (.sl ay)],[.d ay,.d .bool],λa=>CB n a.1,none⟩
def aeR:Hn SI:=(.s .z (.s (.s (.j ⟨[(11,.v .bool)],[],[0,2],[1000],1128,[]⟩ .z) .z) .z))
theorem RZ:aJ 31 (aeQ n) :=cq (au (o7 n) (au (agY n) aB)) func31 aeR n
def aeS:bx xx:=⟨[.d ay],[.d ay,.d .bool],λa=>rX a.1,none⟩
theorem IK:aJ 35 aeS :=cq (au ow aB) func35 .z 0
def agZ:bx xx:=⟨[.d ay,.d ah],[.d ay,.d .bool],λa=>NC a.1 a.2.1,none⟩
def ag0:Hn SI:=(.s .z (.s (.s (.j ⟨[(12,.v .bool)],[],[1,2,4],[1000,1064],1192,[]⟩ .z) .z) .z))
theorem ag1:aJ 32 agZ :=cq (au ow (au IK aB)) func32 ag0 0
def uJ:bx xx:=⟨[.d (.sl (.st SI.strip)),.d ah,.d8 [.st SI.strip,ah] ah],[.d ah,.d .bool],λa=>iZ n a.1 a.2.1 a.2.2.1,none⟩
def uK:Hn SI:=(gO (.s (.b (.l ⟨[(9,.v ah),(10,.v ah)],[],[0,1,2,8],[],1512,[]⟩ 0 ⟨[(9,.v ah)],[],[0,1,2,8],[],1512,[]⟩ .z)) .z))
theorem uL:aJ 108 (uJ n) :=cq aB func108 uK n
def ag2:bx xx:=⟨[.d (.st SI.strip),.d ah],[.d ah],λa=>wD a.1 a.2.1,none⟩
theorem ag3:aJ 109 ag2 :=cq aB func109 .z 0
def anI:bx xx:=⟨[.d (.sl (.st SI.strip)),.d ah],[.d (.sl (.st SI.span))],λa=>WM n a.1 a.2.1,none⟩
def anJ:Hn SI:=(cg (.s (.s (.j ⟨[(25,.v .bool)],[],[0,5],[],1576,[]⟩ .z) .z) .z))
theorem anK:aJ 74 (anI n) :=cq (au (uL n) (au ag3 aB)) func74 anJ n
def XC:bx xx:=⟨[.nil,.d ah],[.fresh (.st SI.span)],λa=>ND a.1 a.2.1,none⟩
theorem XD:aJ 151 XC :=cq aB func151 .z 0
def Qx:bx xx:=⟨[.d (.sl (.sl (.st SI.span)))],[.fresh (.st SI.span)],λa=>yP n a.1,none⟩
def Qy:Hn SI:=(cg (.s (.s .z (.b (.l ⟨[(3,.v ah),(11,.v ah)],[],[0,9,10],[],1320,[]⟩ 0 ⟨[(3,.v ah)],[],[0],[],1320,[]⟩ .z))) (.s .z (.s (.s .z (.b (.l ⟨[(6,.o 1704),(27,.v ah)],[(1704,.l (.st SI.span))],[25,26],[],1705,[]⟩ 2 ⟨[(6,.o 1704)],[(1704,.l (.st SI.span))],[],[],1705,[]⟩ .z))) .z))))
theorem Qz:aJ 106 (Qx n) :=cq (au XD aB) func106 Qy n
def vw:bx xx:=⟨[.d (.sl (.st SI.span)),.d ah,.d8 [.st SI.span,ah] ah],[.d ah,.d .bool],λa=>jr n a.1 a.2.1 a.2.2.1,none⟩
def vz:Hn SI:=(gO (.s (.b (.l ⟨[(9,.v ah),(10,.v ah)],[],[0,1,2,8],[],1512,[]⟩ 0 ⟨[(9,.v ah)],[],[0,1,2,8],[],1512,[]⟩ .z)) .z))
theorem vB:aJ 152 (vw n) :=cq aB func152 vz n
def XE:bx xx:=⟨[.d (.st SI.span),.d ah],[.d ah],λa=>lC a.1 a.2.1,none⟩
theorem XF:aJ 153 XE :=cq aB func153 .z 0
def aeT:bx xx:=⟨[.d (.sl (.st SI.span)),.d ah],[.d .bool],λa=>CF n a.1 a.2.1,none⟩
theorem aeU:aJ 107 (aeT n) :=cq (au (vB n) (au XF aB)) func107 .z n
def ag4:bx xx:=⟨[.d (.sl (.st SI.span)),.d (.sl (.st SI.span)),.d8 [.bool,.bool] .bool],[.fresh (.st SI.span)],λa=>H8 n a.1 a.2.1 a.2.2.1,none⟩
def ag5:Hn SI:=(cg (.s (.s .z (.b (.l ⟨[(7,.o 1512),(19,.v ah)],[(1512,.l ah)],[0,1,2,17,18],[1320],1513,[(7,ah)]⟩ 0 ⟨[(7,.o 1512)],[(1512,.l ah)],[0,1,2],[],1513,[]⟩ .z))) (gO (.s (.s .z (.b (.l ⟨[(10,.o 1961),(11,.v ah)],[(1961,.l (.st SI.span))],[0,1,2,7],[1512],1962,[(10,.st SI.span)]⟩ 2 ⟨[(10,.o 1961)],[(1961,.l (.st SI.span))],[],[],1962,[]⟩ (.s .z (.s (.j ⟨[(10,.o 2218)],[(2218,.l (.st SI.span))],[0,1,2,7,11],[1512],2219,[]⟩ (.b (gO (.s (.j ⟨[(68,.v .bool)],[],[0,1,2,7,10,11,12,13],[1512,1961],3370,[]⟩ .z) .z)))) .z))))) .z))))
theorem ag6:aJ 73 (ag4 n) :=cq (au (Qz n) (au (vQ n) (au (vv n) (au (aeU n) aB)))) func73 ag5 n
def ab3:bx xx:=⟨[.d (.sl ay),.d (.sl ay),.d8 [.bool,.bool] .bool],[.d (.sl ay),.d ah],λa=>Eh n a.1 a.2.1 a.2.2.1,none⟩
def ab4:Hn SI:=(.s .z (.s (.s (.j ⟨[(20,.v .bool)],[],[0,1,2],[],1128,[]⟩ .z) .z) (.s (.f [6,7]) (.s .z (.s (.s .z (.b (.l ⟨[(33,.v ah)],[(1832,.l (.st SI.strip))],[2,8,9,10,31,32],[],2152,[]⟩ 0 ⟨[],[(1832,.l (.st SI.strip))],[10],[],2152,[]⟩ .z))) .z)))))
theorem ab5:aJ 48 (ab3 n) :=cq (au (o7 n) (au (RY n) (au (anK n) (au (ag6 n) (au (XB n) (au Ov aB)))))) func48 ab4 n
def XG:bx xx:=⟨[.d .bool,.d .bool],[.d .bool],λa=>xI a.1 a.2.1,none⟩
theorem XH:aJ 49 XG :=cq aB func49 .z 0
def aeV:bx xx:=⟨[.d (.sl ay),.d (.sl ay)],[.d (.sl ay),.d ah],λa=>CG n a.1 a.2.1,none⟩
theorem R3:aJ 33 (aeV n) :=cq (au (ab5 n) (au XH aB)) func33 .z n
def amc:bx xx:=⟨[.d ay],[.d ah],λa=>oQ a.1,none⟩
theorem y8:aJ 18 amc :=cq (au IK aB) func18 .z 0
def ajR:bx xx:=⟨[.d (.sl ay)],[.d ah],λa=>Jy n a.1,none⟩
def ajS:Hn SI:=(gO (.s (.s .z (.b (.l ⟨[(3,.v ah),(11,.v ah)],[],[9,10],[],1512,[]⟩ 0 ⟨[(3,.v ah)],[],[],[],1512,[]⟩ .z))) .z))
theorem QA:aJ 34 (ajR n) :=cq (au (o7 n) (au y8 aB)) func34 ajS n
def XI:bx xx:=⟨[.d iQ,.d ah],[.d ay,.d .bool],λa=>nC n a.1 a.2.1,none⟩
def XJ:Hn SI:=(cg (.s (.s (.j ⟨[(26,.v .bool)],[],[1,2,4,6],[1000,1064,1576],1768,[]⟩ .z) .z) .z))
theorem IL:aJ 17 (XI n) :=cq (au (RZ n) (au ag1 (au (R3 n) (au (QA n) (au y8 aB))))) func17 XJ n
def ab6:bx xx:=⟨[.d (.sl ah)],[.d ah],λa=>rD n a.1,none⟩
def ab7:Hn SI:=(cg (.s (.s .z (.b (.lx ⟨[(8,.v ah)],[],[3,6,7],[],1320,[]⟩ 0 ⟨[],[],[3],[],1320,[]⟩ .z))) .z))
theorem EW:aJ 22 (ab6 n) :=cq aB func22 ab7 n
def ajT:bx xx:=⟨[],[.d .bool],λ_=>none,some (@pbG xx SI.kw SI.ev (inferInstance:Inhabited aQ) vy 21 19)⟩
theorem ajU:aJ 20 ajT:=
 Mn (mW func20 (by kernel_rfl:Tryz.f20.body=some (Tryz.f20.body.getD .skip)) (by kernel_rfl)) (amU (X:=xx) (ip:=SI.kw) (ik:=SI.ev) (hI:=(inferInstance:Inhabited aQ)) Tryz.so20 rfl (mW func20 (by kernel_rfl:Tryz.f20.body=some (Tryz.f20.body.getD .skip)) (by kernel_rfl)) (mW func21 (by kernel_rfl:Tryz.f21.body=some (Tryz.f21.body.getD .skip)) (by kernel_rfl)) (fs:=(Tryz.prog.underlying 42).elim #[] λd=>match d with | .struct fs=>fs |_=>#[]) (by kernel_rfl) (by kernel_rfl) N4 (tm:=62) (kt:=67) (et:=3) (ei:=(Rj tab 3).get (by kernel_rfl)) (by kernel_rfl) (by kernel_rfl) (aaT (mk:=(2,.i64)) N4 (by kernel_rfl)) (λ r=>by cases r<;>rfl) vy
  (aoo (ti:=3) amZ aot (λ x y=>ahY (X:=xx) (cs:=[.int .i64,.int .i64]) (r:= .int .i64) lU (x,y,()) (apg x y)) λa b c d e=>ahY (X:=xx) (cs:=[.sl ah]) (r:= .int .i64) (EW 10) ([a,b,c,d,e],()) (adX a b c d e)))
def QB:bx xx:=⟨[.d (.sl iQ)],[.fresh fq],λa=>oU n a.1,none⟩
def QC:Hn SI:=(uv (.s (.s .z (.b (.l ⟨[(3,.o 1640),(17,.v ah)],[(1128,.m (.st SI.ev) ah),(1320,.m ah .bool),(1640,.l fq)],[4,5,15,16],[1192],1641,[(3,fq)]⟩ 0 ⟨[(3,.o 1640)],[(1128,.m (.st SI.ev) ah),(1640,.l fq)],[4],[1192],1641,[]⟩ (cg (.s (.j ⟨[(3,.o 1705)],[(1128,.m (.st SI.ev) ah),(1320,.m ah .bool),(1705,.l fq)],[4,5,15,16,17],[1192],1706,[]⟩ (.b (.s .z (.s (.s (.j ⟨[(34,.v .bool)],[],[3,4,5,7,15,16,17],[1128,1192,1320,1640,1833],1961,[]⟩ .z) .z) (cg (.b (.l ⟨[(3,.o 2281),(38,.v ah)],[(1128,.m (.st SI.ev) ah),(2281,.l fq)],[4,5,7,15,16,17],[1192,1320,1833],2282,[]⟩ 2 ⟨[(3,.o 2281)],[(1128,.m (.st SI.ev) ah),(2281,.l fq)],[4,5,15,16,17],[1192,1320],2282,[]⟩ (cg (.s (.j ⟨[(3,.o 2346)],[(1128,.m (.st SI.ev) ah),(2346,.l fq)],[4,5,7,15,16,17,38],[1192,1320,1833],2347,[]⟩ (.b (uu (.b (.l ⟨[(3,.o 3754),(56,.v ah)],[(3754,.l fq)],[4,5,7,8,15,16,17,38],[1128,1192,1320,1833],3755,[]⟩ 4 ⟨[(3,.o 3754)],[(3754,.l fq)],[4,5,7,15,16,17,38],[1128,1192,1320,1833],3755,[]⟩ .z))))) .z))))))))) .z))))) .z))
theorem CY:aJ 8 (QB n) :=cq (au (IL n) (au y8 (au ajU aB))) func8 QC n
def Ow:bx xx:=⟨[.d iQ,.ref fq],[.d .bool],λa=>qP a.1 a.2.1,none⟩
theorem Ox:aJ 40 Ow :=cq aB func40 .z 0
def Lg:bx xx:=⟨[.d (.sl iQ),.d8 [iQ] .bool],[.d ah],λa=>uY n a.1 a.2.1,none⟩
def Lh:Hn SI:=(.s .z (.s (.s .z (.b (.lx ⟨[(8,.v ah)],[],[0,1,7],[],1256,[]⟩ 0 ⟨[],[],[],[],1256,[]⟩ .z))) .z))
theorem Li:aJ 39 (Lg n) :=cq aB func39 Lh n
def SV:bx xx:=⟨[.d iQ,.d fq],[.d (.st SI.dE),.d .bool],λa=>vF n a.1 a.2.1,none⟩
def SY:Hn SI:=(cg (.s (.s (.j ⟨[(54,.v .bool)],[],[3,4,6],[1064,1128,1704],1896,[]⟩ .z) .z) (.s .z (.s (.j ⟨[],[(2408,.c 9 [[.v ah,.v ah,.v ah,.v ah,.v ah,.v ah,.v ah,.v ah,.v .bool]])],[3,4,8],[1064,1128],2536,[]⟩ .z) .z))))
theorem S9:aJ 41 (SV n) :=cq (au (IL n) aB) func41 SY n
def XK:bx xx:=⟨[.d fJ,.d fq],[.d (.st SI.dE),.d .bool],λa=>tF n a.1 a.2.1,none⟩
theorem IQ:aJ 24 (XK n) :=cq (au (Li n) (au Ox (au (S9 n) aB))) func24 .z n
def Ta:bx xx:=⟨[.d fJ],[.fresh (.st SI.site)],λa=>qw n a.1,none⟩
def Td:Hn SI:=(cg (.s (.s .z (.b (.l ⟨[(3,.o 1512),(12,.v ah)],[(1512,.l (.st SI.site))],[1,10,11],[1000,1320],1513,[(3,.st SI.site)]⟩ 0 ⟨[(3,.o 1512)],[(1512,.l (.st SI.site))],[],[],1513,[]⟩ (cg (.s (.j ⟨[(3,.o 1577)],[(1577,.l (.st SI.site))],[1,10,11,12],[1000,1320],1578,[]⟩ .z) .z))))) .z))
theorem Fw:aJ 28 (Ta n) :=cq (au (CY n) (au (IQ n) aB)) func28 Td n
def Te:bx xx:=⟨[.d fJ,.d dD],[.d fJ],λa=>witness_under a.1 a.2.1,none⟩
theorem wW:aJ 26 Te :=cq aB func26 .z 0
def Tf:bx xx:=⟨[.d (.sl ay)],[.fresh ay],λa=>A7 a.1,none⟩
theorem Tg:aJ 154 Tf :=cq aB func154 .z 0
def XL:bx xx:=⟨[.d (.sl ah)],[.fresh ah],λa=>Ej a.1,none⟩
theorem XM:aJ 155 XL :=cq aB func155 .z 0
def ag7:bx xx:=⟨[.d iQ],[.d iQ],λa=>NG a.1,none⟩
theorem ag8:aJ 112 ag7 :=cq (au Tg (au XM aB)) func112 .z 0
def ajV:bx xx:=⟨[.d (.sl iQ),.d ah],[.d iQ,.d .bool],λa=>NH n a.1 a.2.1,none⟩
def ajW:Hn SI:=(.s .z (.s (.s .z (.b (.lx ⟨[(10,.v ah)],[],[1,4,8,9],[1000],1320,[]⟩ 0 ⟨[],[],[4],[1000],1320,[]⟩ .z))) .z))
theorem ajX:aJ 82 (ajV n) :=cq (au ag8 aB) func82 ajW n
def Oy:bx xx:=⟨[.d (.st SI.dE),.d ah,.d ah],[.fresh aG],λa=>nS n a.1 a.2.1 a.2.2.1,none⟩
def Oz:Hn SI:=(cg (.s (.s .z (.b (.l ⟨[(7,.o 1448),(13,.v ah)],[(1448,.l aG)],[1,2,11,12],[],1449,[(7,aG)]⟩ 0 ⟨[(7,.o 1448)],[(1448,.l aG)],[],[],1449,[]⟩ (cg (.s (.j ⟨[(7,.o 1513)],[(1513,.l aG)],[1,2,11,12,13],[],1514,[]⟩ (.b (.s .z (.s (.j ⟨[(25,.v .bool)],[],[1,2,7,9,11,12,13],[1448,1705],1897,[]⟩ .z) .z)))) .z))))) .z))
theorem Au:aJ 123 (Oy n) :=cq aB func123 Oz n
def YZ:bx xx:=⟨[.d (.st SI.dE)],[.fresh aG],λa=>wG n a.1,none⟩
theorem KI:aJ 114 (YZ n) :=cq (au (Au n) aB) func114 .z n
def FN:bx xx:=⟨[.d aG],[.d .bool],λa=>gm a.1,none⟩
def FO:Hn SI:=(cg (.s (.s (.j ⟨[(26,.v .bool)],[],[1],[1000],1384,[]⟩ .z) .z) (.s (.s (.j ⟨[(34,.v .bool)],[],[1],[1000],1384,[]⟩ .z) .z) .z)))
theorem kI:aJ 124 FN :=cq (au ow aB) func124 FO 0
def Y0:bx xx:=⟨[.d ay,.d ay],[.d ay,.d .bool],λa=>rY a.1 a.2.1,none⟩
def Y1:Hn SI:=(.s .z (.s (.s (.j ⟨[(13,.v .bool)],[],[2,3,4],[1000,1064,1128],1256,[]⟩ .z) .z) .z))
theorem Bf:aJ 200 Y0 :=cq (au ow (au IK aB)) func200 Y1 0
def XO:bx xx:=⟨[.d (.st SI.D2),.d (.st SI.D2)],[.d .bool],λa=>xJ a.1 a.2.1,none⟩
theorem XP:aJ 157 XO :=cq (au Bf aB) func157 .z 0
def OA:bx xx:=⟨[.d aG,.ref aG],[.d .bool],λa=>qQ a.1 a.2.1,none⟩
theorem OC:aJ 156 OA :=cq (au XP aB) func156 .z 0
def FP:bx xx:=⟨[.d (.sl aG),.d8 [aG] .bool],[.d ah],λa=>qc n a.1 a.2.1,none⟩
def FQ:Hn SI:=(.s .z (.s (.s .z (.b (.lx ⟨[(8,.v ah)],[],[0,1,7],[],1256,[]⟩ 0 ⟨[],[],[],[],1256,[]⟩ .z))) .z))
theorem FR:aJ 139 (FP n) :=cq aB func139 FQ n
def Bg:bx xx:=⟨[.d (.sl aG),.d8 [aG] .bool],[.d .bool],λa=>fM n a.1 a.2.1,none⟩
theorem qL:aJ 95 (Bg n) :=cq (au (FR n) aB) func95 .z n
def ab8:bx xx:=⟨[.d (.int .u8)],[.d .bool],λa=>En a.1,none⟩
theorem OD:aJ 233 ab8 :=cq aB func233 .z 0
def ag9:bx xx:=⟨[.d .str,.d8 [.int .u8] .bool],[.d ah],λa=>NI n a.1 a.2.1,none⟩
def aha:Hn SI:=(cg (.s (.b (.l ⟨[(5,.v ah)],[],[0,1],[],1128,[]⟩ 0 ⟨[(5,.v ah)],[],[],[],1128,[]⟩ (.s (.s (.j ⟨[(16,.v .bool)],[],[0,1,5],[],1128,[]⟩ .z) .z) .z))) .z))
theorem ahb:aJ 234 (ag9 n) :=cq aB func234 aha n
def aeW:bx xx:=⟨[.d (.int .u8)],[.d .bool],λa=>P7 a.1,none⟩
theorem aeX:aJ 236 aeW :=cq aB func236 .z 0
def Y2:bx xx:=⟨[.d (.int .u8)],[.d .bool],λa=>Ac a.1,none⟩
theorem Y3:aJ 235 Y2 :=cq (au OD (au aeX aB)) func235 .z 0
def ahc:bx xx:=⟨[.d .str],[.d .bool],λa=>NJ n a.1,none⟩
def ahd:Hn SI:=(.s .z (.s (.s (.j ⟨[(15,.v .bool)],[],[0],[],1064,[]⟩ .z) .z) .z))
theorem ahe:aJ 201 (ahc n) :=cq (au OD (au (ahb n) (au Y3 aB))) func201 ahd n
def Lj:bx xx:=⟨[.d .str,.d .str],[.d .bool],λa=>strings_Contains a.1 a.2.1,none⟩
theorem Ll:aJ 202 Lj:=by
 have hcall:eT Tryz.prog 202:=⟨_,func202,by kernel_rfl,by kernel_rfl⟩;refine zp hcall (λ a r h=>?_) rfl;obtain⟨s,b,⟨⟩⟩:=a;have h':strings_Contains s b=some r:=h;unfold strings_Contains at h';cases hb:Nat.ble s.size 4000000 with
 |false=>rw[hb]at h';cases h'
 |true=>
  rw[hb]at h';have h'':some (Lib.contains s.data.toList b.data.toList)=some r:=h';injection h'' with e;subst e;have hw:=Nat.le_of_ble_eq_true hb;exact aby (g:=0) rfl hcall λm w hm=>adZ s b m w (by omega) hm
def Y4:bx xx:=⟨[.d .str],[.d .bool],λa=>wH n a.1,none⟩
theorem Y5:aJ 158 (Y4 n) :=cq (au (ahe n) (au Ll aB)) func158 .z n
def XQ:bx xx:=⟨[.d (.st SI.dE)],[.d .bool],λa=>xK n a.1,none⟩
def XR:Hn SI:=(cg (.s (.s (.j ⟨[(42,.v .bool)],[],[1,3],[1000,1192],1320,[]⟩ .z) .z) (.s (.s .z (.b (.lx ⟨[(45,.v ah)],[],[1,3,43,44],[1000,1192],1512,[]⟩ 0 ⟨[],[],[1],[1000],1512,[]⟩ (cg (.s (.b (.s .z (.s (.j ⟨[(59,.v .bool)],[],[1,3,43,44,45],[1000,1192],1960,[]⟩ .z) .z))) .z))))) (.s (.s .z (.b (.lx ⟨[(64,.v ah)],[],[62,63],[],1768,[]⟩ 2 ⟨[],[],[],[],1768,[]⟩ (cg (.s (.b (cg (.s (.s .z (.b (.lx ⟨[(72,.v ah)],[(2088,.m .str .bool)],[7,8,62,63,64,70,71],[1960],2472,[]⟩ 4 ⟨[],[],[7,62,63,64],[1960],2472,[]⟩ (cg (.s (.b (.s .z (.s (.s (.j ⟨[(95,.v .bool)],[],[7,8,10,62,63,64,70,71,72],[1960,2088,2664],2792,[]⟩ .z) .z) .z))) .z))))) .z))) .z))))) .z))))
theorem XT:aJ 113 (XQ n) :=cq (au (KI n) (au kI (au (qL n) (au OC (au (Y5 n) aB))))) func113 XR n
def Lm:bx xx:=⟨[.d bJ,.ref (.st SI.Entry)],[.d .bool],λa=>uZ a.1 a.2.1,none⟩
theorem Lp:aJ 116 Lm :=cq aB func116 .z 0
def Lr:bx xx:=⟨[.d (.sl bJ),.d8 [bJ] .bool],[.d ah],λa=>u6 n a.1 a.2.1,none⟩
def Ls:Hn SI:=(.s .z (.s (.s .z (.b (.lx ⟨[(8,.v ah)],[],[0,1,7],[],1256,[]⟩ 0 ⟨[],[],[],[],1256,[]⟩ .z))) .z))
theorem Lu:aJ 159 (Lr n) :=cq aB func159 Ls n
def FT:bx xx:=⟨[.d (.sl bJ),.d8 [bJ] .bool],[.d .bool],λa=>mE n a.1 a.2.1,none⟩
theorem FU:aJ 115 (FT n) :=cq (au (Lu n) aB) func115 .z n
def Ti:bx xx:=⟨[.d dD,.d iQ,.d (.st SI.dE)],[.d .bool],λa=>oo n a.1 a.2.1 a.2.2.1,none⟩
def Tj:Hn SI:=(.s .z (.s (.s (.j ⟨[(30,.v .bool)],[],[3,4,5],[1000,1064,1128],1256,[]⟩ .z) .z) (.s (.s .z (.b (.lx ⟨[(34,.v ah)],[],[3,4,5,32,33],[1000,1064,1128,1320],1512,[]⟩ 0 ⟨[],[],[3,5],[1000,1128],1512,[]⟩ (cg (.s (.b (cg (.s (.j ⟨[(58,.v .bool)],[],[3,4,5,32,33,34],[1000,1064,1128,1320],2600,[]⟩ .z) .z))) .z))))) (.s (.s .z (.b (.lx ⟨[(63,.v ah)],[],[3,61,62],[1000],1768,[]⟩ 2 ⟨[],[],[],[],1768,[]⟩ (cg (.s (.b (cg (.b (.lx ⟨[(70,.v ah)],[],[3,61,62,63,68,69],[1000],2344,[]⟩ 4 ⟨[],[],[3,61,62,63],[1000],2344,[]⟩ .z)))) .z))))) .z))))
theorem Tk:aJ 83 (Ti n) :=cq (au (XT n) (au (o7 n) (au (KI n) (au (R3 n) (au (QA n) (au y8 (au (FU n) (au Lp aB)))))))) func83 Tj n
def QD:bx xx:=⟨[.d (.st SI.dE)],[.fresh aG],λa=>tH n a.1,none⟩
def QE:Hn SI:=(cg (.s (.s .z (.b (.l ⟨[(3,.o 1448),(9,.v ah)],[(1448,.l aG)],[7,8],[],1449,[(3,aG)]⟩ 0 ⟨[(3,.o 1448)],[(1448,.l aG)],[],[],1449,[]⟩ .z))) .z))
theorem QF:aJ 84 (QD n) :=cq aB func84 QE n
def QG:bx xx:=⟨[.d (.sl (.st SI.iu))],[.fresh (.st SI.side)],λa=>oV n a.1,none⟩
def QH:Hn SI:=(cg (.s (.s .z (.b (.l ⟨[(10,.v ah)],[(1192,.l (.st SI.side))],[0,3,9],[],1512,[]⟩ 0 ⟨[],[(1192,.l (.st SI.side))],[3],[],1512,[]⟩ .z))) .z))
theorem CZ:aJ 239 (QG n) :=cq aB func239 QH n
def QI:bx xx:=⟨[.d (.st SI.iu)],[.d .bool],λa=>tJ a.1,none⟩
theorem QJ:aJ 260 QI :=cq aB func260 .z 0
def EX:bx xx:=⟨[.d (.st SI.side)],[.d .bool],λa=>gJ a.1,none⟩
theorem uE:aJ 240 EX :=cq aB func240 .z 0
def OE:bx xx:=⟨[.d (.st SI.iu),.d (.st SI.iu)],[.d ah],λa=>qR n a.1 a.2.1,none⟩
theorem OG:aJ 261 (OE n) :=cq (au lU (au (EW n) aB)) func261 .z n
def EY:bx xx:=⟨[.d (.st SI.side),.d (.st SI.side)],[.d .bool],λa=>lH a.1 a.2.1,none⟩
theorem EZ:aJ 262 EY :=cq aB func262 .z 0
def Tm:bx xx:=⟨[.d (.sl (.st SI.iu))],[.d .bool],λa=>vG n a.1,none⟩
def Tn:Hn SI:=(.s .z (.s (.s (.j ⟨[(16,.v .bool)],[],[0],[],1064,[]⟩ .z) .z) (.s .z (.s (.s .z (.b (.lx ⟨[(21,.v ah)],[],[0,3,19,20],[1128],1448,[]⟩ 0 ⟨[],[],[3],[1128],1448,[]⟩ (cg (.s (.b (cg (.s (.s (.j ⟨[(61,.v .bool)],[],[0,3,4,19,20,21],[1128],2536,[]⟩ .z) .z) (.s (.j ⟨[(74,.v .bool)],[],[0,3,19,20,21],[1128],2536,[]⟩ .z) .z)))) .z))))) (.s (.s .z (.b (.lx ⟨[(78,.v ah)],[],[3,77],[1128],1640,[]⟩ 2 ⟨[],[],[3],[1128],1640,[]⟩ (cg (.s (.b (cg (.b (.lx ⟨[(8,.v ah)],[],[3,7,77,78],[1128],2024,[]⟩ 4 ⟨[],[],[3,77,78],[1128],2024,[]⟩ (.s .z (.s (.b (.s (.j ⟨[(106,.v .bool)],[],[3,7,8,77,78],[1128],2280,[]⟩ .z) .z)) .z)))))) .z))))) .z)))))
theorem Tp:aJ 238 (Tm n) :=cq (au (CZ n) (au QJ (au uE (au (OG n) (au EZ aB))))) func238 Tn n
def QK:bx xx:=⟨[.d (.sl (.st SI.iu))],[.fresh ay,.d ah],λa=>tK n a.1,none⟩
def QL:Hn SI:=(gO (.s (.s .z (.b (.l ⟨[(4,.o 1576),(19,.v ah)],[(1576,.l ah)],[0,17,18],[],1577,[(4,ah)]⟩ 0 ⟨[(4,.o 1576)],[(1576,.l ah)],[0],[],1577,[]⟩ .z))) (uv (.s (.s .z (.b (.l ⟨[(8,.o 2409),(38,.v ah)],[(2409,.l ay)],[4,7,37],[1576,1961],2410,[(8,ay)]⟩ 2 ⟨[(8,.o 2409)],[(2409,.l ay)],[],[],2410,[]⟩ (cg (.s (.b (cg (.s (.s .z (.b (.l ⟨[(10,.o 2858),(43,.v ah)],[(2858,.l ah)],[4,7,8,9,37,38,41,42],[1576,1961,2409],2859,[(10,ah)]⟩ 4 ⟨[(10,.o 2858)],[(2858,.l ah)],[4,7,8,9,37,38],[1576,1961,2409],2859,[]⟩ (cg (.s (.j ⟨[(10,.o 2923)],[(2923,.l ah)],[4,7,8,9,37,38,41,42,43],[1576,1961,2409],2924,[]⟩ (.b (.s .z (.s (.j ⟨[(77,.v .bool)],[],[4,7,8,9,10,12,37,38,41,42,43],[1576,1961,2409,2858,3051],3179,[]⟩ .z) .z)))) .z))))) (cg (.b (.l ⟨[(8,.o 3051),(13,.v ah)],[(3051,.l ay)],[4,7,9,10,37,38],[1576,1961,2858],3052,[]⟩ 6 ⟨[(8,.o 3051)],[(3051,.l ay)],[4,7,37,38],[1576,1961],3052,[]⟩ .z)))))) .z))))) .z))))
theorem QM:aJ 203 (QK n) :=cq (au (Tp n) (au (vQ n) (au (vv n) (au (CZ n) (au uE aB))))) func203 QL n
def XU:bx xx:=⟨[.d bE],[.fresh ay],λa=>xL n a.1,none⟩
theorem XV:aJ 161 (XU n) :=cq (au (QM n) aB) func161 .z n
def Tq:bx xx:=⟨[.d (.sl ay),.d (.sl ay)],[.d ah,.d (.st SI.iu)],λa=>vH n a.1 a.2.1,none⟩
def Tt:Hn SI:=(cg (.s (.s .z (.b (.l ⟨[(6,.v ah),(18,.v ah)],[(1192,ur)],[1,5,7,16,17],[1064],1576,[]⟩ 0 ⟨[(6,.v ah)],[(1192,ur)],[5,7],[1064],1576,[]⟩ (cg (.s (.b (cg (.b (.l ⟨[(6,.v ah),(24,.v ah)],[(1192,ur)],[1,5,7,9,16,17,18,22,23],[1064,1768],2088,[]⟩ 2 ⟨[(6,.v ah)],[(1192,ur)],[1,5,7,16,17,18],[1064],2088,[]⟩ (cg (.s (.j ⟨[(6,.v ah)],[(1192,ur)],[1,5,7,9,16,17,18,22,23,24],[1064,1768],2152,[]⟩ .z) .z)))))) .z))))) .z))
theorem Tv:aJ 160 (Tq n) :=cq (au Bf (au y8 (au lU (au (EW n) aB)))) func160 Tt n
def Tw:bx xx:=⟨[.d dD,.d (.sl ay)],[.fresh ah],λa=>vI n a.1 a.2.1,none⟩
def Tx:Hn SI:=(gO (.s (.s .z (.b (.l ⟨[(5,.o 1640),(16,.v ah)],[(1640,.l ah)],[1,14,15],[],1641,[(5,ah)]⟩ 0 ⟨[(5,.o 1640)],[(1640,.l ah)],[],[],1641,[]⟩ .z))) .z))
theorem Ty:aJ 117 (Tw n) :=cq (au (o7 n) (au (XV n) (au (Tv n) aB))) func117 Tx n
def aeY:bx xx:=⟨[.d dD,.d (.sl ay)],[.fresh .str],λa=>CJ n a.1 a.2.1,none⟩
def aeZ:Hn SI:=(gO (.s (.s .z (.b (.l ⟨[(6,.v ah),(17,.v ah)],[],[2,5,15,16],[1000,1256],1640,[]⟩ 0 ⟨[(6,.v ah)],[],[2,5],[1000,1256],1640,[]⟩ (cg (.s (.j ⟨[(6,.v ah)],[],[2,5,15,16,17],[1000,1256],1704,[]⟩ (.b (.s .z (.s (.j ⟨[(44,.v .bool)],[],[2,5,6,7,15,16,17],[1000,1256],2024,[]⟩ .z) .z)))) .z))))) (.s .z (.s (.s .z (.b (.l ⟨[(9,.o 1896),(49,.v ah)],[(1896,.l .str)],[2,6,47,48],[1000,1256],1897,[(9,.str)]⟩ 2 ⟨[(9,.o 1896)],[(1896,.l .str)],[],[],1897,[]⟩ (cg (.s (.j ⟨[(9,.o 1961)],[(1961,.l .str)],[2,6,47,48,49],[1000,1256],1962,[]⟩ (.b (.s .z (.s (.j ⟨[(68,.v .bool)],[],[2,6,9,10,47,48,49],[1000,1256,1896],2281,[]⟩ .z) .z)))) .z))))) .z))))
theorem ae0:aJ 85 (aeY n) :=cq (au (Ty n) aB) func85 aeZ n
def Y6:bx xx:=⟨[.d fJ,.d (.st SI.dE)],[.d (.st SI.ka),.d ah],λa=>Ad n a.1 a.2.1,none⟩
theorem Y7:aJ 60 (Y6 n) :=cq (au (ajX n) (au (Tk n) (au (QF n) (au (ae0 n) aB)))) func60 .z n
def OH:bx xx:=⟨[.d (.sl .str),.d .str],[.d ah],λa=>qU n a.1 a.2.1,none⟩
def OI:Hn SI:=(.s .z (.s (.s .z (.b (.lx ⟨[(8,.v ah)],[],[0,1,7],[],1256,[]⟩ 0 ⟨[],[],[],[],1256,[]⟩ .z))) .z))
theorem OJ:aJ 86 (OH n) :=cq aB func86 OI n
def IU:bx xx:=⟨[.d (.sl .str),.d .str],[.d .bool],λa=>fK n a.1 a.2.1,none⟩
theorem o8:aJ 62 (IU n) :=cq (au (OJ n) aB) func62 .z n
def Lv:bx xx:=⟨[.d .str,.ref (.sl .str)],[.d .bool],λa=>jY n a.1 a.2.1,none⟩
theorem Lx:aJ 118 (Lv n) :=cq (au (o8 n) aB) func118 .z n
def FV:bx xx:=⟨[.d (.sl .str),.d8 [.str] .bool],[.d ah],λa=>qd n a.1 a.2.1,none⟩
def FW:Hn SI:=(.s .z (.s (.s .z (.b (.lx ⟨[(8,.v ah)],[],[0,1,7],[],1256,[]⟩ 0 ⟨[],[],[],[],1256,[]⟩ .z))) .z))
theorem FX:aJ 162 (FV n) :=cq aB func162 FW n
def Bh:bx xx:=⟨[.d (.sl .str),.d8 [.str] .bool],[.d .bool],λa=>fO n a.1 a.2.1,none⟩
theorem Bj:aJ 119 (Bh n) :=cq (au (FX n) aB) func119 .z n
def Tz:bx xx:=⟨[.d bg,.d (.sl .str)],[.d .bool],λa=>qx n a.1 a.2.1,none⟩
theorem TA:aJ 87 (Tz n) :=cq (au (Bj n) (au (Lx n) aB)) func87 .z n
def XW:bx xx:=⟨[.d dD,.d (.sl .str),.d ah],[.fresh ah],λa=>tL n a.1 a.2.1 a.2.2.1,none⟩
def XY:Hn SI:=(cg (.s (.s .z (.b (.l ⟨[(7,.o 1448),(13,.v ah)],[(1448,.l ah)],[1,2,11,12],[],1449,[(7,ah)]⟩ 0 ⟨[(7,.o 1448)],[(1448,.l ah)],[],[],1449,[]⟩ (cg (.s (.j ⟨[(7,.o 1513)],[(1513,.l ah)],[1,2,11,12,13],[],1514,[]⟩ (.b (.s .z (.s (.j ⟨[(37,.v .bool)],[],[1,2,7,8,11,12,13],[1448],1897,[]⟩ .z) .z)))) .z))))) .z))
theorem XZ:aJ 63 (XW n) :=cq (au (TA n) aB) func63 XY n
def LA:bx xx:=⟨[.mut ay,.d8 [ay,ay] ah],[.mu ay],λa=>u7 n a.1 a.2.1,none⟩
theorem LB:aJ 168 (LA n):=by
 have hcall:eT Tryz.prog 168:=⟨_,func168,by kernel_rfl,by kernel_rfl⟩;refine zp hcall (λ a r h=>?_) rfl;obtain⟨l,φ,⟨⟩⟩:=a;refine aai (X:=xx) (i:=SI.mj) (hI:=(inferInstance:Inhabited ax)) Tryz.so168 rfl hcall Tryz.underlying50 (by kernel_rfl) (λ x t ht=>?_) h;cases x;have ht:t∈[_,_,_,_]:=ht;simp only[aN,fu,or_false]at ht;rcases ht with rfl |rfl |rfl |rfl<;>exact⟨_,rfl,trivial⟩
def C8:bx xx:=⟨[.d ay,.d ay],[.d ah],λa=>iL a.1 a.2.1,none⟩
theorem C9:aJ 169 C8 :=cq (au lU aB) func169 .z 0
def OL:bx xx:=⟨[.d aG],[.d ah],λa=>kQ a.1,none⟩
def OM:Hn SI:=(.s .z (.s (.s (.j ⟨[(9,.v .bool)],[],[1],[1000],1128,[]⟩ .z) .z) .z))
theorem Av:aJ 173 OL :=cq (au kI aB) func173 OM 0
def TB:bx xx:=⟨[.d aG],[.d ah],λa=>oq a.1,none⟩
theorem Fx:aJ 171 TB :=cq (au kI (au y8 (au Av aB))) func171 .z 0
def Bl:bx xx:=⟨[.d aG],[.d ah],λa=>nG a.1,none⟩
theorem Bn:aJ 174 Bl :=cq aB func174 .z 0
def Da:bx xx:=⟨[.d aG],[.d ah],λa=>oD a.1,none⟩
theorem Db:aJ 175 Da :=cq aB func175 .z 0
def TD:bx xx:=⟨[.d ay,.d ah],[.d ay,.d .bool],λa=>A8 a.1 a.2.1,none⟩
theorem TF:aJ 215 TD :=cq (au ow aB) func215 .z 0
def QN:bx xx:=⟨[.d (.st SI.Entry),.ref (.st SI.mT),.ref ah],[.d .bool],λa=>ko a.1 a.2.1 a.2.2.1,none⟩
theorem QO:aJ 254 QN :=cq aB func254 .z 0
def IV:bx xx:=⟨[.d (.sl (.st SI.Entry)),.d8 [.st SI.Entry] .bool],[.d ah],λa=>kr n a.1 a.2.1,none⟩
def IW:Hn SI:=(.s .z (.s (.s .z (.b (.lx ⟨[(8,.v ah)],[],[0,1,7],[],1256,[]⟩ 0 ⟨[],[],[],[],1256,[]⟩ .z))) .z))
theorem wP:aJ 211 (IV n) :=cq aB func211 IW n
def Y8:bx xx:=⟨[.d dD,.d ah],[.d ah],λa=>Ae n a.1 a.2.1,none⟩
def Y9:Hn SI:=(cg (.s (.s .z (.b (.lx ⟨[(14,.v ah)],[],[3,5,12,13],[1064,1256],1640,[]⟩ 0 ⟨[],[],[],[],1640,[]⟩ (cg (.s (.b (gO (.s (.j ⟨[(8,.v ah)],[],[],[],2344,[]⟩ .z) .z))) .z))))) .z))
theorem Za:aJ 216 (Y8 n) :=cq (au (wP n) (au QO aB)) func216 Y9 n
def OO:bx xx:=⟨[.d dD,.d aG],[.d ah],λa=>kR n a.1 a.2.1,none⟩
def OQ:Hn SI:=(cg (.s (.s (.j ⟨[(20,.v .bool)],[],[5,6],[],1704,[]⟩ .z) .z) .z))
theorem OT:aJ 178 (OO n) :=cq (au (Za n) (au Fx aB)) func178 OQ n
def FY:cX xx:=⟨[.p 0],[(0,fg),(1,.l aG)],[.v ah],[(0,fg),(1,.l aG)],λv=>mF n v.1 v.2.1 v.2.2.1 v.2.2.2.1 v.2.2.2.2.1 v.2.2.2.2.2.1 v.2.2.2.2.2.2.1 v.2.2.2.2.2.2.2.1 v.2.2.2.2.2.2.2.2.1 v.2.2.2.2.2.2.2.2.2⟩
def FZ:bx xx:=⟨[],[.d .bool],λ_=>none,some (FY n)⟩
theorem F3:aJ 125 (FZ n) :=ov (au (QA n) aB) func125 .z n (by kernel_rfl) λ_=>by kernel_rfl
def Dc:cX xx:=⟨[.p 0],[(0,fg),(1,.l aG)],[.v ah],[(0,fg),(1,.l aG)],λv=>iM n v.1 v.2.1 v.2.2.1 v.2.2.2.1 v.2.2.2.2.1 v.2.2.2.2.2.1 v.2.2.2.2.2.2.1 v.2.2.2.2.2.2.2.1 v.2.2.2.2.2.2.2.2.1 v.2.2.2.2.2.2.2.2.2⟩
def Df:bx xx:=⟨[],[.d .bool],λ_=>none,some (Dc n)⟩
def Dg:Hn SI:=(gO (.s (.s .z (.b (.l ⟨[(3,.o 1960),(23,.v ah)],[(1448,.l ay),(1960,.l ah)],[4,21,22],[0,1],1961,[(3,ah)]⟩ 0 ⟨[(3,.o 1960)],[(1448,.l ay),(1960,.l ah)],[4],[0,1],1961,[]⟩ .z))) (gO (.s (.s .z (.b (.l ⟨[(7,.v ah),(56,.v ah)],[],[3,4,55],[0,1,1448,1960],2601,[]⟩ 2 ⟨[(7,.v ah)],[],[],[0,1],2601,[]⟩ (cg (.s (.b (gO (.b (.l ⟨[(7,.v ah),(9,.v ah),(61,.v ah)],[],[3,4,8,55,56,59,60],[0,1,1448,1960],3049,[]⟩ 4 ⟨[(7,.v ah)],[],[3,4,55,56],[0,1,1448,1960],3049,[]⟩ (cg (.s (.j ⟨[(7,.v ah),(9,.v ah)],[],[3,4,8,55,56,59,60,61],[0,1,1448,1960],3113,[]⟩ (.b (.s .z (.s (.j ⟨[(86,.v .bool)],[],[3,4,7,8,9,11,55,56,59,60,61],[0,1,1448,1960,3241],3369,[]⟩ .z) .z)))) .z)))))) .z))))) .z))))
theorem Dh:aJ 126 (Df n) :=ov (au (LB n) (au C9 (au (vQ n) aB))) func126 Dg n (by kernel_rfl) λ_=>by kernel_rfl
def F4:cX xx:=⟨[.p 0,(.f 171 [] [])],[(0,fg),(1,.l aG)],[.v ah],[(0,fg),(1,.l aG)],λv=>qf n v.1 v.2.1 v.2.2.1 v.2.2.2.1 v.2.2.2.2.1 v.2.2.2.2.2.1 v.2.2.2.2.2.2.1 v.2.2.2.2.2.2.2.1 v.2.2.2.2.2.2.2.2.1 v.2.2.2.2.2.2.2.2.2⟩
def F5:bx xx:=⟨[],[.d .bool],λ_=>none,some (F4 n)⟩
def F6:Hn SI:=(cg (.s (.s .z (.b (.l ⟨[(5,.v ah),(13,.v ah)],[],[1,11,12],[0,1],1512,[]⟩ 0 ⟨[(5,.v ah)],[],[],[0,1],1512,[]⟩ .z))) .z))
theorem F7:aJ 170 (F5 n) :=ov (au Fx aB) func170 F6 n (by kernel_rfl) λ_=>by kernel_rfl
def Di:cX xx:=⟨[.p 0],[(0,fg),(1,.l aG)],[.v ah],[(0,fg),(1,.l aG)],λv=>kE n v.1 v.2.1 v.2.2.1 v.2.2.2.1 v.2.2.2.2.1 v.2.2.2.2.2.1 v.2.2.2.2.2.2.1 v.2.2.2.2.2.2.2.1 v.2.2.2.2.2.2.2.2.1 v.2.2.2.2.2.2.2.2.2⟩
def Dj:bx xx:=⟨[],[.d .bool],λ_=>none,some (Di n)⟩
theorem Dk:aJ 127 (Dj n) :=ov (au (F7 n) aB) func127 .z n (by kernel_rfl) λ_=>by kernel_rfl
def y9:cX xx:=⟨[.p 0,(.f 173 [] [])],[(0,fg),(1,.l aG)],[.v ah],[(0,fg),(1,.l aG)],λv=>l5 n v.1 v.2.1 v.2.2.1 v.2.2.2.1 v.2.2.2.2.1 v.2.2.2.2.2.1 v.2.2.2.2.2.2.1 v.2.2.2.2.2.2.2.1 v.2.2.2.2.2.2.2.2.1 v.2.2.2.2.2.2.2.2.2⟩
def za:bx xx:=⟨[],[.d .bool],λ_=>none,some (y9 n)⟩
def zb:Hn SI:=(cg (.s (.s .z (.b (.l ⟨[(5,.v ah),(13,.v ah)],[],[1,11,12],[0,1],1512,[]⟩ 0 ⟨[(5,.v ah)],[],[],[0,1],1512,[]⟩ .z))) .z))
theorem ze:aJ 172 (za n) :=ov (au Av aB) func172 zb n (by kernel_rfl) λ_=>by kernel_rfl
def Bo:cX xx:=⟨[.p 0],[(0,fg),(1,.l aG)],[.v ah],[(0,fg),(1,.l aG)],λv=>jG n v.1 v.2.1 v.2.2.1 v.2.2.2.1 v.2.2.2.2.1 v.2.2.2.2.2.1 v.2.2.2.2.2.2.1 v.2.2.2.2.2.2.2.1 v.2.2.2.2.2.2.2.2.1 v.2.2.2.2.2.2.2.2.2⟩
def Bp:bx xx:=⟨[],[.d .bool],λ_=>none,some (Bo n)⟩
theorem Bq:aJ 128 (Bp n) :=ov (au (ze n) aB) func128 .z n (by kernel_rfl) λ_=>by kernel_rfl
def zf:cX xx:=⟨[.p 0,(.f 174 [] [])],[(0,fg),(1,.l aG)],[.v ah],[(0,fg),(1,.l aG)],λv=>l6 n v.1 v.2.1 v.2.2.1 v.2.2.2.1 v.2.2.2.2.1 v.2.2.2.2.2.1 v.2.2.2.2.2.2.1 v.2.2.2.2.2.2.2.1 v.2.2.2.2.2.2.2.2.1 v.2.2.2.2.2.2.2.2.2⟩
def zh:bx xx:=⟨[],[.d .bool],λ_=>none,some (zf n)⟩
def zi:Hn SI:=(cg (.s (.s .z (.b (.l ⟨[(5,.v ah),(13,.v ah)],[],[1,11,12],[0,1],1512,[]⟩ 0 ⟨[(5,.v ah)],[],[],[0,1],1512,[]⟩ .z))) .z))
theorem zk:aJ 172 (zh n) :=ov (au Bn aB) func172 zi n (by kernel_rfl) λ_=>by kernel_rfl
def Br:cX xx:=⟨[.p 0],[(0,fg),(1,.l aG)],[.v ah],[(0,fg),(1,.l aG)],λv=>jH n v.1 v.2.1 v.2.2.1 v.2.2.2.1 v.2.2.2.2.1 v.2.2.2.2.2.1 v.2.2.2.2.2.2.1 v.2.2.2.2.2.2.2.1 v.2.2.2.2.2.2.2.2.1 v.2.2.2.2.2.2.2.2.2⟩
def Bt:bx xx:=⟨[],[.d .bool],λ_=>none,some (Br n)⟩
theorem Bu:aJ 129 (Bt n) :=ov (au (zk n) aB) func129 .z n (by kernel_rfl) λ_=>by kernel_rfl
def F8:cX xx:=⟨[.p 0,(.f 175 [] [])],[(0,fg),(1,.l aG)],[.v ah],[(0,fg),(1,.l aG)],λv=>qg n v.1 v.2.1 v.2.2.1 v.2.2.2.1 v.2.2.2.2.1 v.2.2.2.2.2.1 v.2.2.2.2.2.2.1 v.2.2.2.2.2.2.2.1 v.2.2.2.2.2.2.2.2.1 v.2.2.2.2.2.2.2.2.2⟩
def F9:bx xx:=⟨[],[.d .bool],λ_=>none,some (F8 n)⟩
def Ga:Hn SI:=(cg (.s (.s .z (.b (.l ⟨[(5,.v ah),(13,.v ah)],[],[1,11,12],[0,1],1512,[]⟩ 0 ⟨[(5,.v ah)],[],[],[0,1],1512,[]⟩ .z))) .z))
theorem Gc:aJ 170 (F9 n) :=ov (au Db aB) func170 Ga n (by kernel_rfl) λ_=>by kernel_rfl
def Dl:cX xx:=⟨[.p 0],[(0,fg),(1,.l aG)],[.v ah],[(0,fg),(1,.l aG)],λv=>kF n v.1 v.2.1 v.2.2.1 v.2.2.2.1 v.2.2.2.2.1 v.2.2.2.2.2.1 v.2.2.2.2.2.2.1 v.2.2.2.2.2.2.2.1 v.2.2.2.2.2.2.2.2.1 v.2.2.2.2.2.2.2.2.2⟩
def Dm:bx xx:=⟨[],[.d .bool],λ_=>none,some (Dl n)⟩
theorem Dn:aJ 130 (Dm n) :=ov (au (Gc n) aB) func130 .z n (by kernel_rfl) λ_=>by kernel_rfl
def Bv:cX xx:=⟨[.p 0,.v ay,.v ah],[(0,fg),(1,.l aG)],[.v .bool],[(0,fg),(1,.l aG)],λv=>jJ n v.1 v.2.1 v.2.2.1 v.2.2.2.1 v.2.2.2.2.1 v.2.2.2.2.2.1 v.2.2.2.2.2.2.1 v.2.2.2.2.2.2.2.1 v.2.2.2.2.2.2.2.2.1 v.2.2.2.2.2.2.2.2.2.1 v.2.2.2.2.2.2.2.2.2.2.1 v.2.2.2.2.2.2.2.2.2.2.2⟩
def Bw:bx xx:=⟨[],[.d .bool],λ_=>none,some (Bv n)⟩
def Bz:Hn SI:=(uv (.s (.s .z (.b (.l ⟨[(9,.v ah),(27,.v ah)],[],[7,25,26],[0,1,1512],2280,[]⟩ 0 ⟨[(9,.v ah)],[],[7],[0,1,1512],2280,[]⟩ (cg (.s (.j ⟨[(9,.v ah)],[],[7,25,26,27],[0,1,1512],2344,[]⟩ .z) .z))))) .z))
theorem BB:aJ 176 (Bw n) :=ov (au TF (au Bf (au y8 aB))) func176 Bz n (by kernel_rfl) λ_=>by kernel_rfl
def zH:cX xx:=⟨[.p 0],[(0,fg),(1,.l aG)],[.v ah],[(0,fg),(1,.l aG)],λv=>jk n v.1 v.2.1 v.2.2.1 v.2.2.2.1 v.2.2.2.2.1 v.2.2.2.2.2.1 v.2.2.2.2.2.2.1 v.2.2.2.2.2.2.2.1 v.2.2.2.2.2.2.2.2.1 v.2.2.2.2.2.2.2.2.2⟩
def zI:bx xx:=⟨[],[.d .bool],λ_=>none,some (zH n)⟩
def zJ:Hn SI:=(cg (.s (.s .z (.b (.l ⟨[(3,.v ah),(14,.v ah)],[(0,fg),(1,.l aG)],[0,12,13],[],1512,[]⟩ 0 ⟨[(3,.v ah)],[(0,fg),(1,.l aG)],[],[],1512,[]⟩ (cg (.s (.b (cg (.s (.b (.l ⟨[(6,.v ah),(7,.v ah)],[(0,fg),(1,.l aG)],[0,5,12,13,14],[1704],2024,[]⟩ 2 ⟨[(6,.v ah)],[(0,fg),(1,.l aG)],[0,12,13,14],[],2024,[]⟩ .z)) .z))) .z))))) .z))
theorem zK:aJ 131 (zI n) :=ov (au (BB n) aB) func131 zJ n (by kernel_rfl) λ_=>by kernel_rfl
def wX:cX xx:=⟨[.v aG,.p 0],[(0,.c 1 [[.p 1]]),(1,tE),(2,.l aG)],[.v ah],[(0,.c 1 [[.p 1]]),(1,tE),(2,.l aG)],λv=>kz n v.1 v.2.1 v.2.2.1 v.2.2.2.1 v.2.2.2.2.1 v.2.2.2.2.2.1 v.2.2.2.2.2.2.1 v.2.2.2.2.2.2.2.1 v.2.2.2.2.2.2.2.2.1 v.2.2.2.2.2.2.2.2.2.1 v.2.2.2.2.2.2.2.2.2.2⟩
def wY:bx xx:=⟨[],[.d .bool],λ_=>none,some (wX n)⟩
theorem wZ:aJ 177 (wY n) :=ov (au (OT n) aB) func177 .z n (by kernel_rfl) λ_=>by kernel_rfl
def Gd:cX xx:=⟨[.p 0,(.f 177 [] [.p 1])],[(0,tE),(1,.c 1 [[.p 0]]),(2,.l aG)],[.v ah],[(0,tE),(1,.c 1 [[.p 0]]),(2,.l aG)],λv=>qh n v.1 v.2.1 v.2.2.1 v.2.2.2.1 v.2.2.2.2.1 v.2.2.2.2.2.1 v.2.2.2.2.2.2.1 v.2.2.2.2.2.2.2.1 v.2.2.2.2.2.2.2.2.1 v.2.2.2.2.2.2.2.2.2⟩
def Gf:bx xx:=⟨[],[.d .bool],λ_=>none,some (Gd n)⟩
def Gg:Hn SI:=(cg (.s (.s .z (.b (.l ⟨[(5,.v ah),(13,.v ah)],[(0,tE),(1,.c 1 [[.p 0]]),(2,.l aG)],[1,11,12],[],1512,[]⟩ 0 ⟨[(5,.v ah)],[(0,tE),(1,.c 1 [[.p 0]]),(2,.l aG)],[],[],1512,[]⟩ .z))) .z))
theorem Gh:aJ 170 (Gf n) :=ov (au (wZ n) aB) func170 Gg n (by kernel_rfl) λ_=>by kernel_rfl
def zL:cX xx:=⟨[.p 0],[(0,fg),(1,.l aG)],[.v ah],[(0,fg),(1,.l aG)],λv=>jl n v.1 v.2.1 v.2.2.1 v.2.2.2.1 v.2.2.2.2.1 v.2.2.2.2.2.1 v.2.2.2.2.2.2.1 v.2.2.2.2.2.2.2.1 v.2.2.2.2.2.2.2.2.1 v.2.2.2.2.2.2.2.2.2⟩
def zM:bx xx:=⟨[],[.d .bool],λ_=>none,some (zL n)⟩
theorem zN:aJ 132 (zM n) :=ov (au (Gh n) aB) func132 .z n (by kernel_rfl) λ_=>by kernel_rfl
def ab9:bx xx:=⟨[.d dD,.d iQ,.d (.st SI.dE)],[.fresh (.st SI.Entry)],λa=>kC n a.1 a.2.1 a.2.2.1,none⟩
def acd:Hn SI:=(cg (.s (.j ⟨[],[(1384,.c 10 [[.v (.sl bC),.v (.sl aZ),.v (.sl bE),.v (.sl bg),.v (.sl bJ),.v (.sl bH),.v (.sl aU),.v ah,.v (.sl ay),.nil]])],[5,7],[1128],1512,[]⟩ .z) (.s (.s .z (.b (.l ⟨[(31,.v ah)],[(1384,GM),(1960,.l aG)],[7,29,30],[1768],1961,[(6668873,aG)]⟩ 0 ⟨[],[(1384,GM),(1960,.l aG)],[7],[],1961,[]⟩ (cg (.s (.j ⟨[],[(1384,.c 10 [[.v (.sl bC),.v (.sl aZ),.v (.sl bE),.v (.sl bg),.v (.sl bJ),.v (.sl bH),.v (.sl aU),.v ah,.v (.sl ay),.o 2025]]),(2025,.l aG)],[7,29,30,31],[1768],2026,[]⟩ (.b (.s .z (.s (.j ⟨[(41,.v .bool)],[],[7,9,29,30,31],[1384,1768,1960,2217],2409,[]⟩ .z) .z)))) .z))))) (cg (.s (.s .z (.b (.un .z (.un .z (.un .z (.un .z (.un .z (.un .z (.un .z (.un .z (.un .z (.un .z .z)))))))))))) .z)))))
theorem ace:aJ 89 (ab9 n) :=cq (au (o7 n) (au (Au n) (au kI (au (F3 n) (au (Dh n) (au (Dk n) (au (Bq n) (au (Bu n) (au (Dn n) (au (zK n) (au (zN n) aB))))))))))) func89 acd n
def ahf:bx xx:=⟨[.d ah],[.d ah,.d .bool],λa=>yQ a.1,none⟩
def ahg:Hn SI:=(.s .z (.s (.s .z (.b (.s (.j ⟨[(5,.v .bool)],[],[0,4],[],1192,[]⟩ .z) (.s .z (.s (.j ⟨[(10,.v .bool)],[],[0,4],[],1192,[]⟩ .z) .z))))) .z))
theorem ahh:aJ 204 ahf :=cq aB func204 ahg 0
def ae1:Hn SI:=(cg (.s (.s (.j ⟨[(28,.v .bool)],[],[1,2],[1000],1640,[]⟩ .z) .z) (.s .z (.s (.s .z (.b (.l ⟨[(7,.v ah),(32,.v ah)],[],[1,30,31],[],1960,[]⟩ 0 ⟨[(7,.v ah)],[],[],[],1960,[]⟩ .z))) .z))))
theorem acf(rc:(bZ)->(Int)->Option Int)(hr:aJ 163 (Ep rc)):aJ 163 (Ep (Af n rc)) :=cq (au ahh (au hr aB)) func163 ae1 n
theorem OU(n:Nat):∀m,aJ 163 (Ep (rZ n m))
 | 0=>zp (mW func163 (by kernel_rfl:Tryz.f163.body=some (Tryz.f163.body.getD .skip)) (by kernel_rfl)) (λ _ _ h=>(by cases h)) rfl
 |m+1=>acf n _ (OU n m)
def ae2:bx xx:=⟨[.d (.st SI.Expr),.d ah],[.d ah],λa=>P8 n a.1 a.2.1,none⟩
theorem ae3:aJ 163 (ae2 n):=OU n n
def ahi:bx xx:=⟨[.d (.st SI.Expr)],[.d .bool],λa=>H9 n a.1,none⟩
end
end Go.Proofs
