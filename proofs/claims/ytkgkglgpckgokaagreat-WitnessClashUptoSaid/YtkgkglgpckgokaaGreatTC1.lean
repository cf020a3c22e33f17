import Derived.Test.YtkgkglgpckgokaaGreatS2
namespace Go.Proofs
open Go.Gb Go.RowKit
abbrev fg:OP SI:=.c 10 [[.v (.sl bC),.v (.sl aZ),.v (.sl bE),.v (.sl bg),.v (.sl bJ),.v (.sl bH),.v (.sl aU),.v ah,.v (.sl ay),.o 1]]
abbrev qq:OP SI:=.c 1 [[.o 1]]
abbrev rx:OP SI:=.c 2 [[.v (.sl bC),(.v (.sl (.sl ah)))]]
abbrev tG:OP SI:=.c 10 [[.v (.sl bC),.v (.sl aZ),.v (.sl bE),.v (.sl bg),.v (.sl bJ),.v (.sl bH),.v (.sl aU),.v ah,.v (.sl ay),.o 2]]
abbrev uu:OP SI:=.c 4 [[.v ah,.v ah,.v ah,.v ah]]
abbrev ut:OP SI:=.c 2 [[.v ah,.v ah]]
abbrev wj:OP SI:=.c 1 [[.o 1384]]
abbrev GO:OP SI:=.c 10 [[.v (.sl bC),.v (.sl aZ),.v (.sl bE),.v (.sl bg),.v (.sl bJ),.v (.sl bH),.v (.sl aU),.v ah,.v (.sl ay),.o 1960]]
abbrev GM:OP SI:=.c 13 [[.v (.sl bC),.v (.sl aZ),.v (.sl bE),.v (.sl bg),.v (.sl bJ),.v (.sl bH),.v (.sl aU),.v ah,.v (.sl iM),(.v (.sl (.st SI.eR))),(.v (.sl (.st SI.Window))),(.v (.sl (.st SI.gb))),(.v (.sl (.st SI.Entry)))]]
abbrev cg(a:Hn SI):Hn SI:=.s .z (.s .z a)
abbrev gO(a:Hn SI):Hn SI:=.s .z (.s .z (.s .z a))
abbrev uv(a:Hn SI):Hn SI:=.s .z (.s .z (.s .z (.s .z a)))
abbrev wn(a:Hn SI):Hn SI:=.s .z (.s .z (.s .z (.s .z (.s .z a))))
abbrev PM(a:Hn SI):Hn SI:=.s .z (.s .z (.s .z (.s .z (.s .z (.s .z (.s .z (.s .z a)))))))
open Tryz
noncomputable section
variable (n:Nat)
def agO:bx xx:=⟨[.d ah],[.d dw],λa=>fD a.1,none⟩
theorem agP:aJ 15 agO :=cq aB func15 .z 0
def ajO:bx xx:=⟨[.d ay],[.d .bool],λa=>nu a.1,none⟩
theorem oq:aJ 60 ajO :=cq aB func60 .z 0
def Xt:bx xx:=⟨[.nil,.d ah],[.fresh ay],λa=>Nk a.1 a.2.1,none⟩
theorem Xu:aJ 183 Xt :=cq aB func183 .z 0
def Qn:bx xx:=⟨[.d (.sl (.sl ay))],[.fresh ay],λa=>yL n a.1,none⟩
def Qo:Hn SI:=(cg (.s (.s .z (.b (.l ⟨[(3,.v ah),(11,.v ah)],[],[0,9,10],[],1320,[]⟩ 0 ⟨[(3,.v ah)],[],[0],[],1320,[]⟩ .z))) (.s .z (.s (.s .z (.b (.l ⟨[(6,.o 1704),(27,.v ah)],[(1704,.l ay)],[25,26],[],1705,[]⟩ 2 ⟨[(6,.o 1704)],[(1704,.l ay)],[],[],1705,[]⟩ .z))) .z))))
theorem Qp:aJ 139 (Qn n) :=cq (au Xu aB) func139 Qo n
def YT:bx xx:=⟨[.mut ah],[.mu ah],λa=>oN n a.1,none⟩
theorem vN:aJ 140 (YT n):=by
 have hcall:eO Tryz.prog 140:=⟨_,func140,by kernel_rfl,by kernel_rfl⟩;refine zp hcall (λ a r h=>?_) rfl;obtain⟨l,⟨⟩⟩:=a;exact ai8 Tryz.so140 rfl hcall h
def Qq:bx xx:=⟨[.mut ah],[.whole 0,.mu ah],λa=>oO n a.1,none⟩
def Qr:Hn SI:=(cg (.s (.s .z (.b (.lx ⟨[(3,.v ah)],[],[0],[0],1320,[]⟩ 0 ⟨[],[],[0],[0],1320,[]⟩ (.s .z (.s (.b (.s .z (.s (.s .z (.s (.s .z (.b (.l ⟨[(3,.v ah),(5,.v ah)],[(0,.l ah)],[0,4],[],2536,[]⟩ 2 ⟨[(3,.v ah)],[(0,.l ah)],[0],[],2536,[]⟩ (.s .z (.s (.j ⟨[(3,.v ah)],[(0,.l ah)],[0,4,5],[],2792,[]⟩ .z) .z))))) .z)) .z))) .z))))) .z))
theorem vg:aJ 141 (Qq n) :=cq aB func141 Qr n
def K9:bx xx:=⟨[.mut (.st SI.span),.d7 [.st SI.span,.st SI.span] ah],[.mu (.st SI.span)],λa=>uU n a.1 a.2.1,none⟩
theorem La:aJ 185 (K9 n):=by
 have hcall:eO Tryz.prog 185:=⟨_,func185,by kernel_rfl,by kernel_rfl⟩;refine zp hcall (λ a r h=>?_) rfl;obtain⟨l,φ,⟨⟩⟩:=a;refine aae (X:=xx) (i:=SI.span) (hI:=(inferInstance:Inhabited aO)) Tryz.so185 rfl hcall Tryz.underlying236 (by kernel_rfl) (λ x t ht=>?_) h;cases x;have ht:t∈[_,_]:=ht;simp only[aN,fu,or_false]at ht;rcases ht with rfl |rfl<;>exact⟨_,rfl,trivial⟩
def SA:bx xx:=⟨[.d ah],[.d .bool],λa=>cmp_isNaN_int a.1,none⟩
theorem SB:aJ 44 SA :=cq aB func44 .z 0
def Ol:bx xx:=⟨[.d ah,.d ah],[.d ah],λa=>cmp_Compare_int a.1 a.2.1,none⟩
theorem lQ:aJ 30 Ol :=cq (au SB aB) func30 .z 0
def Xv:bx xx:=⟨[.d (.st SI.span),.d (.st SI.span)],[.d ah],λa=>xE a.1 a.2.1,none⟩
theorem Xw:aJ 186 Xv :=cq (au lQ aB) func186 .z 0
def aeH:bx xx:=⟨[.d (.sl ay),.d ah],[.fresh (.st SI.span)],λa=>Jt n a.1 a.2.1,none⟩
def aeI:Hn SI:=(cg (.s (.s .z (.b (.l ⟨[(5,.o 1320),(14,.v ah)],[(1320,.l (.st SI.span))],[1,12,13],[],1321,[(5,.st SI.span)]⟩ 0 ⟨[(5,.o 1320)],[(1320,.l (.st SI.span))],[],[],1321,[]⟩ (cg (.s (.j ⟨[(5,.o 1385)],[(1385,.l (.st SI.span))],[1,12,13,14],[],1386,[]⟩ (.b (.s .z (.s (.j ⟨[(27,.v .bool)],[],[1,5,7,12,13,14],[1320,1513],1641,[]⟩ .z) .z)))) .z))))) (cg (.s (.s .z (.b (.l ⟨[(8,.o 1705),(41,.v ah)],[(1705,.l (.st SI.span))],[39,40],[1320],1706,[(8,.st SI.span)]⟩ 2 ⟨[(8,.o 1705)],[(1705,.l (.st SI.span))],[],[],1706,[]⟩ (cg (.s (.j ⟨[(8,.o 1770)],[(1770,.l (.st SI.span))],[39,40,41],[1320],1771,[]⟩ (.b (cg (.s (.j ⟨[(59,.v .bool)],[],[8,10,11,39,40,41],[1320,1705,1898],2218,[]⟩ .z) .z)))) .z))))) .z))))
theorem aeJ:aJ 142 (aeH n) :=cq (au (La n) (au Xw aB)) func142 aeI n
def aeK:bx xx:=⟨[.d (.sl (.sl ay))],[.fresh (.st SI.strip)],λa=>og n a.1,none⟩
def aeL:Hn SI:=(gO (.s (.s .z (.b (.l ⟨[(4,.o 1512),(13,.v ah)],[(1512,.l ah)],[3,11,12],[1128],1513,[(4,ah)]⟩ 0 ⟨[(4,.o 1512)],[(1512,.l ah)],[3],[1128],1513,[]⟩ .z))) (gO (.s (.s .z (.b (.l ⟨[(7,.o 1961),(8,.v ah)],[(1961,.l (.st SI.strip))],[3,4],[1128,1512],1962,[(7,.st SI.strip)]⟩ 2 ⟨[(7,.o 1961)],[(1961,.l (.st SI.strip))],[],[],1962,[]⟩ .z))) .z))))
theorem RS:aJ 94 (aeK n) :=cq (au (Qp n) (au (vN n) (au (vg n) (au (aeJ n) aB)))) func94 aeL n
def SC:bx xx:=⟨[.d (.sl (.st SI.span)),.d (.sl (.st SI.span))],[.d .bool],λa=>vz n a.1 a.2.1,none⟩
def SF:Hn SI:=(cg (.s (.s .z (.b (.lx ⟨[(13,.v ah)],[],[0,1,12],[],1576,[]⟩ 0 ⟨[],[],[],[],1576,[]⟩ .z))) .z))
theorem SG:aJ 147 (SC n) :=cq aB func147 SF n
def agQ:bx xx:=⟨[.d (.sl (.st SI.strip))],[.fresh ay],λa=>Hz n a.1,none⟩
def agR:Hn SI:=(cg (.s (.s .z (.b (.l ⟨[(3,.o 1192),(4,.v ah)],[(1192,.l ay)],[0],[],1193,[(3,ay)]⟩ 0 ⟨[(3,.o 1192)],[(1192,.l ay)],[],[],1193,[]⟩ (.s .z (.b (.s .z (.s (.b (.l ⟨[(5,.v ah)],[],[0,3,4],[1192],1641,[]⟩ 2 ⟨[(5,.v ah)],[],[0,3,4],[1192],1641,[]⟩ (.s (.s (.j ⟨[(30,.v .bool)],[],[0,3,4,5],[1192],1641,[]⟩ .z) .z) .z))) (.s (.s .z (.b (.l ⟨[(3,.o 2089),(39,.v ah)],[(2089,.l ay)],[0,4,5,37,38],[],2090,[]⟩ 4 ⟨[(3,.o 2089)],[(2089,.l ay)],[0,5],[],2090,[]⟩ .z))) .z)))))))) .z))
theorem Xx:aJ 98 (agQ n) :=cq (au (SG n) aB) func98 agR n
def abX:bx xx:=⟨[.d (.sl ay)],[.d (.sl ay),.d ah],λa=>yM a.1,none⟩
theorem Om:aJ 97 abX :=cq aB func97 .z 0
def anB:bx xx:=⟨[.d (.sl ay)],[.d (.sl ay),.d ah],λa=>N4 n a.1,none⟩
def anC:Hn SI:=(.s .z (.s (.s .z (.b (.lx ⟨[(8,.v ah)],[],[0,6,7],[],1320,[]⟩ 0 ⟨[],[],[0],[],1320,[]⟩ .z))) .z))
theorem anD:aJ 92 (anB n) :=cq (au oq (au (RS n) (au (Xx n) (au Om aB)))) func92 anC n
def SH:bx xx:=⟨[.d (.sl ay),.d (.sl ay)],[.d .bool],λa=>oh n a.1 a.2.1,none⟩
def SK:Hn SI:=(cg (.s (.s .z (.b (.lx ⟨[(13,.v ah)],[],[0,1,12],[],1576,[]⟩ 0 ⟨[],[],[],[],1576,[]⟩ .z))) .z))
theorem Fh:aJ 93 (SH n) :=cq aB func93 SK n
def agS:bx xx:=⟨[.d (.sl ay)],[.d .bool],λa=>nQ n a.1,none⟩
theorem oZ:aJ 58 (agS n) :=cq (au (anD n) (au (Fh n) aB)) func58 .z n
def agT:bx xx:=⟨[.d (.sl ay)],[.d ay,.d .bool],λa=>Nt n a.1,none⟩
def agU:Hn SI:=(.s .z (.s (.s .z (.b (.l ⟨[(3,.v .bool),(8,.v ah)],[(1000,uu)],[2,6,7],[],1320,[]⟩ 0 ⟨[(3,.v .bool)],[(1000,uu)],[2],[],1320,[]⟩ (cg (.s (.j ⟨[(3,.v .bool)],[(1000,uu)],[2,6,7,8],[],1384,[]⟩ .z) .z))))) .z))
theorem agV:aJ 59 (agT n) :=cq (au oq aB) func59 agU n
def aeM:bx xx:=⟨[.d (.sl ay)],[.d ay,.d .bool],λa=>Cw n a.1,none⟩
def aeN:Hn SI:=(.s .z (.s (.s (.j ⟨[(11,.v .bool)],[],[0,2],[1000],1128,[]⟩ .z) .z) .z))
theorem RU:aJ 37 (aeM n) :=cq (au (oZ n) (au (agV n) aB)) func37 aeN n
def aeO:bx xx:=⟨[.d ay],[.d ay,.d .bool],λa=>rV a.1,none⟩
theorem IE:aJ 41 aeO :=cq (au oq aB) func41 .z 0
def agW:bx xx:=⟨[.d ay,.d ah],[.d ay,.d .bool],λa=>Nu a.1 a.2.1,none⟩
def agX:Hn SI:=(.s .z (.s (.s (.j ⟨[(12,.v .bool)],[],[1,2,4],[1000,1064],1192,[]⟩ .z) .z) .z))
theorem agY:aJ 38 agW :=cq (au oq (au IE aB)) func38 agX 0
def uG:bx xx:=⟨[.d (.sl (.st SI.strip)),.d ah,.d7 [.st SI.strip,ah] ah],[.d ah,.d .bool],λa=>iX n a.1 a.2.1 a.2.2.1,none⟩
def uH:Hn SI:=(gO (.s (.b (.l ⟨[(9,.v ah),(10,.v ah)],[],[0,1,2,8],[],1512,[]⟩ 0 ⟨[(9,.v ah)],[],[0,1,2,8],[],1512,[]⟩ .z)) .z))
theorem uI:aJ 145 (uG n) :=cq aB func145 uH n
def agZ:bx xx:=⟨[.d (.st SI.strip),.d ah],[.d ah],λa=>wz a.1 a.2.1,none⟩
theorem ag0:aJ 146 agZ :=cq aB func146 .z 0
def anE:bx xx:=⟨[.d (.sl (.st SI.strip)),.d ah],[.d (.sl (.st SI.span))],λa=>WJ n a.1 a.2.1,none⟩
def anF:Hn SI:=(cg (.s (.s (.j ⟨[(25,.v .bool)],[],[0,5],[],1576,[]⟩ .z) .z) .z))
theorem anG:aJ 96 (anE n) :=cq (au (uI n) (au ag0 aB)) func96 anF n
def Xy:bx xx:=⟨[.nil,.d ah],[.fresh (.st SI.span)],λa=>Nv a.1 a.2.1,none⟩
theorem Xz:aJ 187 Xy :=cq aB func187 .z 0
def Qs:bx xx:=⟨[.d (.sl (.sl (.st SI.span)))],[.fresh (.st SI.span)],λa=>yN n a.1,none⟩
def Qt:Hn SI:=(cg (.s (.s .z (.b (.l ⟨[(3,.v ah),(11,.v ah)],[],[0,9,10],[],1320,[]⟩ 0 ⟨[(3,.v ah)],[],[0],[],1320,[]⟩ .z))) (.s .z (.s (.s .z (.b (.l ⟨[(6,.o 1704),(27,.v ah)],[(1704,.l (.st SI.span))],[25,26],[],1705,[]⟩ 2 ⟨[(6,.o 1704)],[(1704,.l (.st SI.span))],[],[],1705,[]⟩ .z))) .z))))
theorem Qu:aJ 143 (Qs n) :=cq (au Xz aB) func143 Qt n
def vk:bx xx:=⟨[.d (.sl (.st SI.span)),.d ah,.d7 [.st SI.span,ah] ah],[.d ah,.d .bool],λa=>jo n a.1 a.2.1 a.2.2.1,none⟩
def vo:Hn SI:=(gO (.s (.b (.l ⟨[(9,.v ah),(10,.v ah)],[],[0,1,2,8],[],1512,[]⟩ 0 ⟨[(9,.v ah)],[],[0,1,2,8],[],1512,[]⟩ .z)) .z))
theorem vv:aJ 188 (vk n) :=cq aB func188 vo n
def XA:bx xx:=⟨[.d (.st SI.span),.d ah],[.d ah],λa=>lq a.1 a.2.1,none⟩
theorem XB:aJ 189 XA :=cq aB func189 .z 0
def aeP:bx xx:=⟨[.d (.sl (.st SI.span)),.d ah],[.d .bool],λa=>Cx n a.1 a.2.1,none⟩
theorem aeQ:aJ 144 (aeP n) :=cq (au (vv n) (au XB aB)) func144 .z n
def ag1:bx xx:=⟨[.d (.sl (.st SI.span)),.d (.sl (.st SI.span)),.d7 [.bool,.bool] .bool],[.fresh (.st SI.span)],λa=>HV n a.1 a.2.1 a.2.2.1,none⟩
def ag2:Hn SI:=(cg (.s (.s .z (.b (.l ⟨[(7,.o 1512),(19,.v ah)],[(1512,.l ah)],[0,1,2,17,18],[1320],1513,[(7,ah)]⟩ 0 ⟨[(7,.o 1512)],[(1512,.l ah)],[0,1,2],[],1513,[]⟩ .z))) (gO (.s (.s .z (.b (.l ⟨[(10,.o 1961),(11,.v ah)],[(1961,.l (.st SI.span))],[0,1,2,7],[1512],1962,[(10,.st SI.span)]⟩ 2 ⟨[(10,.o 1961)],[(1961,.l (.st SI.span))],[],[],1962,[]⟩ (.s .z (.s (.j ⟨[(10,.o 2218)],[(2218,.l (.st SI.span))],[0,1,2,7,11],[1512],2219,[]⟩ (.b (gO (.s (.j ⟨[(68,.v .bool)],[],[0,1,2,7,10,11,12,13],[1512,1961],3370,[]⟩ .z) .z)))) .z))))) .z))))
theorem ag3:aJ 95 (ag1 n) :=cq (au (Qu n) (au (vN n) (au (vg n) (au (aeQ n) aB)))) func95 ag2 n
def abY:bx xx:=⟨[.d (.sl ay),.d (.sl ay),.d7 [.bool,.bool] .bool],[.d (.sl ay),.d ah],λa=>Ec n a.1 a.2.1 a.2.2.1,none⟩
def abZ:Hn SI:=(.s .z (.s (.s (.j ⟨[(20,.v .bool)],[],[0,1,2],[],1128,[]⟩ .z) .z) (.s (.f [6,7]) (.s .z (.s (.s .z (.b (.l ⟨[(33,.v ah)],[(1832,.l (.st SI.strip))],[2,8,9,10,31,32],[],2152,[]⟩ 0 ⟨[],[(1832,.l (.st SI.strip))],[10],[],2152,[]⟩ .z))) .z)))))
theorem ab0:aJ 61 (abY n) :=cq (au (oZ n) (au (RS n) (au (anG n) (au (ag3 n) (au (Xx n) (au Om aB)))))) func61 abZ n
def XC:bx xx:=⟨[.d .bool,.d .bool],[.d .bool],λa=>xG a.1 a.2.1,none⟩
theorem XD:aJ 62 XC :=cq aB func62 .z 0
def aeR:bx xx:=⟨[.d (.sl ay),.d (.sl ay)],[.d (.sl ay),.d ah],λa=>Cy n a.1 a.2.1,none⟩
theorem RX:aJ 39 (aeR n) :=cq (au (ab0 n) (au XD aB)) func39 .z n
def al8:bx xx:=⟨[.d ay],[.d ah],λa=>oP a.1,none⟩
theorem yZ:aJ 25 al8 :=cq (au IE aB) func25 .z 0
def ajP:bx xx:=⟨[.d (.sl ay)],[.d ah],λa=>Ju n a.1,none⟩
def ajQ:Hn SI:=(gO (.s (.s .z (.b (.l ⟨[(3,.v ah),(11,.v ah)],[],[9,10],[],1512,[]⟩ 0 ⟨[(3,.v ah)],[],[],[],1512,[]⟩ .z))) .z))
theorem Qv:aJ 40 (ajP n) :=cq (au (oZ n) (au yZ aB)) func40 ajQ n
def XE:bx xx:=⟨[.d iM,.d ah],[.d ay,.d .bool],λa=>ny n a.1 a.2.1,none⟩
def XF:Hn SI:=(cg (.s (.s (.j ⟨[(26,.v .bool)],[],[1,2,4,6],[1000,1064,1576],1768,[]⟩ .z) .z) .z))
theorem IG:aJ 24 (XE n) :=cq (au (RU n) (au agY (au (RX n) (au (Qv n) (au yZ aB))))) func24 XF n
def ab1:bx xx:=⟨[.d (.sl ah)],[.d ah],λa=>rz n a.1,none⟩
def ab2:Hn SI:=(cg (.s (.s .z (.b (.lx ⟨[(8,.v ah)],[],[3,6,7],[],1320,[]⟩ 0 ⟨[],[],[3],[],1320,[]⟩ .z))) .z))
theorem EO:aJ 29 (ab1 n) :=cq aB func29 ab2 n
def ajR:bx xx:=⟨[],[.d .bool],λ_=>none,some (@pbG xx SI.kx SI.er (inferInstance:Inhabited aR) vy 28 26)⟩
theorem ajS:aJ 27 ajR:=
 Mp (mV func27 (by kernel_rfl:Tryz.f27.body=some (Tryz.f27.body.getD .skip)) (by kernel_rfl)) (amQ (X:=xx) (ip:=SI.kx) (ik:=SI.er) (hI:=(inferInstance:Inhabited aR)) Tryz.so27 rfl (mV func27 (by kernel_rfl:Tryz.f27.body=some (Tryz.f27.body.getD .skip)) (by kernel_rfl)) (mV func28 (by kernel_rfl:Tryz.f28.body=some (Tryz.f28.body.getD .skip)) (by kernel_rfl)) (fs:=(Tryz.prog.underlying 42).elim #[] λd=>match d with | .struct fs=>fs |_=>#[]) (by kernel_rfl) (by kernel_rfl) N5 (tm:=78) (kt:=83) (et:=3) (ei:=(Rf tab 3).get (by kernel_rfl)) (by kernel_rfl) (by kernel_rfl) (aaO (mk:=(2,.i64)) N5 (by kernel_rfl)) (λ r=>by cases r<;>rfl) vy
  (aok (ti:=3) amV aop (λ x y=>ahV (X:=xx) (cs:=[.int .i64,.int .i64]) (r:= .int .i64) lQ (x,y,()) (apb x y)) λa b c d e=>ahV (X:=xx) (cs:=[.sl ah]) (r:= .int .i64) (EO 10) ([a,b,c,d,e],()) (adS a b c d e)))
def Qw:bx xx:=⟨[.d (.sl iM)],[.fresh fq],λa=>tq n a.1,none⟩
def Qx:Hn SI:=(uv (.s (.s .z (.b (.l ⟨[(3,.o 1640),(17,.v ah)],[(1128,.m (.st SI.er) ah),(1320,.m ah .bool),(1640,.l fq)],[4,5,15,16],[1192],1641,[(3,fq)]⟩ 0 ⟨[(3,.o 1640)],[(1128,.m (.st SI.er) ah),(1640,.l fq)],[4],[1192],1641,[]⟩ (cg (.s (.j ⟨[(3,.o 1705)],[(1128,.m (.st SI.er) ah),(1320,.m ah .bool),(1705,.l fq)],[4,5,15,16,17],[1192],1706,[]⟩ (.b (.s .z (.s (.s (.j ⟨[(34,.v .bool)],[],[3,4,5,7,15,16,17],[1128,1192,1320,1640,1833],1961,[]⟩ .z) .z) (cg (.b (.l ⟨[(3,.o 2281),(38,.v ah)],[(1128,.m (.st SI.er) ah),(2281,.l fq)],[4,5,7,15,16,17],[1192,1320,1833],2282,[]⟩ 2 ⟨[(3,.o 2281)],[(1128,.m (.st SI.er) ah),(2281,.l fq)],[4,5,15,16,17],[1192,1320],2282,[]⟩ (cg (.s (.j ⟨[(3,.o 2346)],[(1128,.m (.st SI.er) ah),(2346,.l fq)],[4,5,7,15,16,17,38],[1192,1320,1833],2347,[]⟩ (.b (wn (.b (.l ⟨[(3,.o 3754),(56,.v ah)],[(3754,.l fq)],[4,5,7,8,15,16,17,38],[1128,1192,1320,1833],3755,[]⟩ 4 ⟨[(3,.o 3754)],[(3754,.l fq)],[4,5,7,15,16,17,38],[1128,1192,1320,1833],3755,[]⟩ .z))))) .z))))))))) .z))))) .z))
theorem Qy:aJ 10 (Qw n) :=cq (au (IG n) (au yZ (au ajS aB))) func10 Qx n
def Oo:bx xx:=⟨[.d iM,.ref fq],[.d .bool],λa=>qN a.1 a.2.1,none⟩
theorem Oq:aJ 55 Oo :=cq aB func55 .z 0
def Lb:bx xx:=⟨[.d (.sl iM),.d7 [iM] .bool],[.d ah],λa=>uV n a.1 a.2.1,none⟩
def Lc:Hn SI:=(.s .z (.s (.s .z (.b (.lx ⟨[(8,.v ah)],[],[0,1,7],[],1256,[]⟩ 0 ⟨[],[],[],[],1256,[]⟩ .z))) .z))
theorem Ld:aJ 54 (Lb n) :=cq aB func54 Lc n
def SL:bx xx:=⟨[.d iM,.d fq],[.d (.st SI.dE),.d .bool],λa=>vC n a.1 a.2.1,none⟩
def SQ:Hn SI:=(cg (.s (.s (.j ⟨[(54,.v .bool)],[],[3,4,6],[1064,1128,1704],1896,[]⟩ .z) .z) (.s .z (.s (.j ⟨[],[(2408,.c 9 [[.v ah,.v ah,.v ah,.v ah,.v ah,.v ah,.v ah,.v ah,.v .bool]])],[3,4,8],[1064,1128],2536,[]⟩ .z) .z))))
theorem SS:aJ 11 (SL n) :=cq (au (IG n) aB) func11 SQ n
def XG:bx xx:=⟨[.d fJ,.d fq],[.d (.st SI.dE),.d .bool],λa=>tu n a.1 a.2.1,none⟩
theorem II:aJ 34 (XG n) :=cq (au (Ld n) (au Oq (au (SS n) aB))) func34 .z n
def SV:bx xx:=⟨[.d fJ],[.fresh (.st SI.site)],λa=>qo n a.1,none⟩
def SY:Hn SI:=(cg (.s (.s .z (.b (.l ⟨[(3,.o 1512),(12,.v ah)],[(1512,.l (.st SI.site))],[1,10,11],[1000,1320],1513,[(3,.st SI.site)]⟩ 0 ⟨[(3,.o 1512)],[(1512,.l (.st SI.site))],[],[],1513,[]⟩ (cg (.s (.j ⟨[(3,.o 1577)],[(1577,.l (.st SI.site))],[1,10,11,12],[1000,1320],1578,[]⟩ .z) .z))))) .z))
theorem Fj:aJ 22 (SV n) :=cq (au (Qy n) (au (II n) aB)) func22 SY n
def S9:bx xx:=⟨[.d fJ,.d dw],[.d fJ],λa=>witness_under a.1 a.2.1,none⟩
theorem wT:aJ 23 S9 :=cq aB func23 .z 0
def Ta:bx xx:=⟨[.d (.sl ay)],[.fresh ay],λa=>AU a.1,none⟩
theorem Td:aJ 149 Ta :=cq aB func149 .z 0
def XH:bx xx:=⟨[.d (.sl ah)],[.fresh ah],λa=>Ee a.1,none⟩
theorem XI:aJ 150 XH :=cq aB func150 .z 0
def ag4:bx xx:=⟨[.d iM],[.d iM],λa=>Nz a.1,none⟩
theorem ag5:aJ 104 ag4 :=cq (au Td (au XI aB)) func104 .z 0
def ajT:bx xx:=⟨[.d (.sl iM),.d ah],[.d iM,.d .bool],λa=>NA n a.1 a.2.1,none⟩
def ajU:Hn SI:=(.s .z (.s (.s .z (.b (.lx ⟨[(10,.v ah)],[],[1,4,8,9],[1000],1320,[]⟩ 0 ⟨[],[],[4],[1000],1320,[]⟩ .z))) .z))
theorem ajV:aJ 73 (ajT n) :=cq (au ag5 aB) func73 ajU n
def Ot:bx xx:=⟨[.d (.st SI.dE),.d ah,.d ah],[.fresh aG],λa=>nR n a.1 a.2.1 a.2.2.1,none⟩
def Ou:Hn SI:=(cg (.s (.s .z (.b (.l ⟨[(7,.o 1448),(13,.v ah)],[(1448,.l aG)],[1,2,11,12],[],1449,[(7,aG)]⟩ 0 ⟨[(7,.o 1448)],[(1448,.l aG)],[],[],1449,[]⟩ (cg (.s (.j ⟨[(7,.o 1513)],[(1513,.l aG)],[1,2,11,12,13],[],1514,[]⟩ (.b (.s .z (.s (.j ⟨[(25,.v .bool)],[],[1,2,7,9,11,12,13],[1448,1705],1897,[]⟩ .z) .z)))) .z))))) .z))
theorem Ao:aJ 115 (Ot n) :=cq aB func115 Ou n
def YU:bx xx:=⟨[.d (.st SI.dE)],[.fresh aG],λa=>wD n a.1,none⟩
theorem KE:aJ 106 (YU n) :=cq (au (Ao n) aB) func106 .z n
def FI:bx xx:=⟨[.d aG],[.d .bool],λa=>gm a.1,none⟩
def FJ:Hn SI:=(cg (.s (.s (.j ⟨[(26,.v .bool)],[],[1],[1000],1384,[]⟩ .z) .z) (.s (.s (.j ⟨[(34,.v .bool)],[],[1],[1000],1384,[]⟩ .z) .z) .z)))
theorem kF:aJ 116 FI :=cq (au oq aB) func116 FJ 0
def YV:bx xx:=⟨[.d ay,.d ay],[.d ay,.d .bool],λa=>rW a.1 a.2.1,none⟩
def YW:Hn SI:=(.s .z (.s (.s (.j ⟨[(13,.v .bool)],[],[2,3,4],[1000,1064,1128],1256,[]⟩ .z) .z) .z))
theorem Bb:aJ 190 YV :=cq (au oq (au IE aB)) func190 YW 0
def XJ:bx xx:=⟨[.d (.st SI.D2),.d (.st SI.D2)],[.d .bool],λa=>xH a.1 a.2.1,none⟩
theorem XK:aJ 152 XJ :=cq (au Bb aB) func152 .z 0
def Ov:bx xx:=⟨[.d aG,.ref aG],[.d .bool],λa=>qO a.1 a.2.1,none⟩
theorem Ow:aJ 151 Ov :=cq (au XK aB) func151 .z 0
def FK:bx xx:=⟨[.d (.sl aG),.d7 [aG] .bool],[.d ah],λa=>qa n a.1 a.2.1,none⟩
def FL:Hn SI:=(.s .z (.s (.s .z (.b (.lx ⟨[(8,.v ah)],[],[0,1,7],[],1256,[]⟩ 0 ⟨[],[],[],[],1256,[]⟩ .z))) .z))
theorem FM:aJ 131 (FK n) :=cq aB func131 FL n
def Bc:bx xx:=⟨[.d (.sl aG),.d7 [aG] .bool],[.d .bool],λa=>fM n a.1 a.2.1,none⟩
theorem qJ:aJ 86 (Bc n) :=cq (au (FM n) aB) func86 .z n
def ab3:bx xx:=⟨[.d (.int .u8)],[.d .bool],λa=>Eh a.1,none⟩
theorem Ox:aJ 225 ab3 :=cq aB func225 .z 0
def ag6:bx xx:=⟨[.d .str,.d7 [.int .u8] .bool],[.d ah],λa=>NC n a.1 a.2.1,none⟩
def ag7:Hn SI:=(cg (.s (.b (.l ⟨[(5,.v ah)],[],[0,1],[],1128,[]⟩ 0 ⟨[(5,.v ah)],[],[],[],1128,[]⟩ (.s (.s (.j ⟨[(16,.v .bool)],[],[0,1,5],[],1128,[]⟩ .z) .z) .z))) .z))
theorem ag8:aJ 226 (ag6 n) :=cq aB func226 ag7 n
def aeS:bx xx:=⟨[.d (.int .u8)],[.d .bool],λa=>PX a.1,none⟩
theorem aeT:aJ 228 aeS :=cq aB func228 .z 0
def YX:bx xx:=⟨[.d (.int .u8)],[.d .bool],λa=>zZ a.1,none⟩
theorem YZ:aJ 227 YX :=cq (au Ox (au aeT aB)) func227 .z 0
def ag9:bx xx:=⟨[.d .str],[.d .bool],λa=>ND n a.1,none⟩
def aha:Hn SI:=(.s .z (.s (.s (.j ⟨[(15,.v .bool)],[],[0],[],1064,[]⟩ .z) .z) .z))
theorem ahb:aJ 191 (ag9 n) :=cq (au Ox (au (ag8 n) (au YZ aB))) func191 aha n
def Le:bx xx:=⟨[.d .str,.d .str],[.d .bool],λa=>strings_Contains a.1 a.2.1,none⟩
theorem Lf:aJ 192 Le:=by
 have hcall:eO Tryz.prog 192:=⟨_,func192,by kernel_rfl,by kernel_rfl⟩;refine zp hcall (λ a r h=>?_) rfl;obtain⟨s,b,⟨⟩⟩:=a;have h':strings_Contains s b=some r:=h;unfold strings_Contains at h';cases hb:Nat.ble s.size 4000000 with
 |false=>rw[hb]at h';cases h'
 |true=>
  rw[hb]at h';have h'':some (Lib.contains s.data.toList b.data.toList)=some r:=h';injection h'' with e;subst e;have hw:=Nat.le_of_ble_eq_true hb;exact abt (g:=0) rfl hcall λm w hm=>adU s b m w (by omega) hm
def Y0:bx xx:=⟨[.d .str],[.d .bool],λa=>wE n a.1,none⟩
theorem Y1:aJ 153 (Y0 n) :=cq (au (ahb n) (au Lf aB)) func153 .z n
def XL:bx xx:=⟨[.d (.st SI.dE)],[.d .bool],λa=>xI n a.1,none⟩
def XM:Hn SI:=(cg (.s (.s (.j ⟨[(42,.v .bool)],[],[1,3],[1000,1192],1320,[]⟩ .z) .z) (.s (.s .z (.b (.lx ⟨[(45,.v ah)],[],[1,3,43,44],[1000,1192],1512,[]⟩ 0 ⟨[],[],[1],[1000],1512,[]⟩ (cg (.s (.b (.s .z (.s (.j ⟨[(59,.v .bool)],[],[1,3,43,44,45],[1000,1192],1960,[]⟩ .z) .z))) .z))))) (.s (.s .z (.b (.lx ⟨[(64,.v ah)],[],[62,63],[],1768,[]⟩ 2 ⟨[],[],[],[],1768,[]⟩ (cg (.s (.b (cg (.s (.s .z (.b (.lx ⟨[(72,.v ah)],[(2088,.m .str .bool)],[7,8,62,63,64,70,71],[1960],2472,[]⟩ 4 ⟨[],[],[7,62,63,64],[1960],2472,[]⟩ (cg (.s (.b (.s .z (.s (.s (.j ⟨[(95,.v .bool)],[],[7,8,10,62,63,64,70,71,72],[1960,2088,2664],2792,[]⟩ .z) .z) .z))) .z))))) .z))) .z))))) .z))))
theorem XO:aJ 105 (XL n) :=cq (au (KE n) (au kF (au (qJ n) (au Ow (au (Y1 n) aB))))) func105 XM n
def Lg:bx xx:=⟨[.d bJ,.ref (.st SI.Entry)],[.d .bool],λa=>uW a.1 a.2.1,none⟩
theorem Lh:aJ 108 Lg :=cq aB func108 .z 0
def Li:bx xx:=⟨[.d (.sl bJ),.d7 [bJ] .bool],[.d ah],λa=>uX n a.1 a.2.1,none⟩
def Lj:Hn SI:=(.s .z (.s (.s .z (.b (.lx ⟨[(8,.v ah)],[],[0,1,7],[],1256,[]⟩ 0 ⟨[],[],[],[],1256,[]⟩ .z))) .z))
theorem Ll:aJ 154 (Li n) :=cq aB func154 Lj n
def FN:bx xx:=⟨[.d (.sl bJ),.d7 [bJ] .bool],[.d .bool],λa=>mq n a.1 a.2.1,none⟩
theorem FO:aJ 107 (FN n) :=cq (au (Ll n) aB) func107 .z n
def Te:bx xx:=⟨[.d dw,.d iM,.d (.st SI.dE)],[.d .bool],λa=>om n a.1 a.2.1 a.2.2.1,none⟩
def Tf:Hn SI:=(.s .z (.s (.s (.j ⟨[(30,.v .bool)],[],[3,4,5],[1000,1064,1128],1256,[]⟩ .z) .z) (.s (.s .z (.b (.lx ⟨[(34,.v ah)],[],[3,4,5,32,33],[1000,1064,1128,1320],1512,[]⟩ 0 ⟨[],[],[3,5],[1000,1128],1512,[]⟩ (cg (.s (.b (cg (.s (.j ⟨[(58,.v .bool)],[],[3,4,5,32,33,34],[1000,1064,1128,1320],2600,[]⟩ .z) .z))) .z))))) (.s (.s .z (.b (.lx ⟨[(63,.v ah)],[],[3,61,62],[1000],1768,[]⟩ 2 ⟨[],[],[],[],1768,[]⟩ (cg (.s (.b (cg (.b (.lx ⟨[(70,.v ah)],[],[3,61,62,63,68,69],[1000],2344,[]⟩ 4 ⟨[],[],[3,61,62,63],[1000],2344,[]⟩ .z)))) .z))))) .z))))
theorem Tg:aJ 74 (Te n) :=cq (au (XO n) (au (oZ n) (au (KE n) (au (RX n) (au (Qv n) (au yZ (au (FO n) (au Lh aB)))))))) func74 Tf n
def Qz:bx xx:=⟨[.d (.st SI.dE)],[.fresh aG],λa=>tC n a.1,none⟩
def QA:Hn SI:=(cg (.s (.s .z (.b (.l ⟨[(3,.o 1448),(9,.v ah)],[(1448,.l aG)],[7,8],[],1449,[(3,aG)]⟩ 0 ⟨[(3,.o 1448)],[(1448,.l aG)],[],[],1449,[]⟩ .z))) .z))
theorem QB:aJ 75 (Qz n) :=cq aB func75 QA n
def QC:bx xx:=⟨[.d (.sl (.st SI.iu))],[.fresh (.st SI.side)],λa=>oQ n a.1,none⟩
def QD:Hn SI:=(cg (.s (.s .z (.b (.l ⟨[(10,.v ah)],[(1192,.l (.st SI.side))],[0,3,9],[],1512,[]⟩ 0 ⟨[],[(1192,.l (.st SI.side))],[3],[],1512,[]⟩ .z))) .z))
theorem CV:aJ 231 (QC n) :=cq aB func231 QD n
def QE:bx xx:=⟨[.d (.st SI.iu)],[.d .bool],λa=>tF a.1,none⟩
theorem QF:aJ 260 QE :=cq aB func260 .z 0
def EP:bx xx:=⟨[.d (.st SI.side)],[.d .bool],λa=>gI a.1,none⟩
theorem uy:aJ 232 EP :=cq aB func232 .z 0
def Oy:bx xx:=⟨[.d (.st SI.iu),.d (.st SI.iu)],[.d ah],λa=>qP n a.1 a.2.1,none⟩
theorem Oz:aJ 261 (Oy n) :=cq (au lQ (au (EO n) aB)) func261 .z n
def EQ:bx xx:=⟨[.d (.st SI.side),.d (.st SI.side)],[.d .bool],λa=>lF a.1 a.2.1,none⟩
theorem ER:aJ 262 EQ :=cq aB func262 .z 0
def Ti:bx xx:=⟨[.d (.sl (.st SI.iu))],[.d .bool],λa=>vD n a.1,none⟩
def Tj:Hn SI:=(.s .z (.s (.s (.j ⟨[(16,.v .bool)],[],[0],[],1064,[]⟩ .z) .z) (.s .z (.s (.s .z (.b (.lx ⟨[(21,.v ah)],[],[0,3,19,20],[1128],1448,[]⟩ 0 ⟨[],[],[3],[1128],1448,[]⟩ (cg (.s (.b (cg (.s (.s (.j ⟨[(61,.v .bool)],[],[0,3,4,19,20,21],[1128],2536,[]⟩ .z) .z) (.s (.j ⟨[(74,.v .bool)],[],[0,3,19,20,21],[1128],2536,[]⟩ .z) .z)))) .z))))) (.s (.s .z (.b (.lx ⟨[(78,.v ah)],[],[3,77],[1128],1640,[]⟩ 2 ⟨[],[],[3],[1128],1640,[]⟩ (cg (.s (.b (cg (.b (.lx ⟨[(8,.v ah)],[],[3,7,77,78],[1128],2024,[]⟩ 4 ⟨[],[],[3,77,78],[1128],2024,[]⟩ (.s .z (.s (.b (.s (.j ⟨[(106,.v .bool)],[],[3,7,8,77,78],[1128],2280,[]⟩ .z) .z)) .z)))))) .z))))) .z)))))
theorem Tk:aJ 230 (Ti n) :=cq (au (CV n) (au QF (au uy (au (Oz n) (au ER aB))))) func230 Tj n
def QG:bx xx:=⟨[.d (.sl (.st SI.iu))],[.fresh ay,.d ah],λa=>tH n a.1,none⟩
def QH:Hn SI:=(gO (.s (.s .z (.b (.l ⟨[(4,.o 1576),(19,.v ah)],[(1576,.l ah)],[0,17,18],[],1577,[(4,ah)]⟩ 0 ⟨[(4,.o 1576)],[(1576,.l ah)],[0],[],1577,[]⟩ .z))) (uv (.s (.s .z (.b (.l ⟨[(8,.o 2409),(38,.v ah)],[(2409,.l ay)],[4,7,37],[1576,1961],2410,[(8,ay)]⟩ 2 ⟨[(8,.o 2409)],[(2409,.l ay)],[],[],2410,[]⟩ (cg (.s (.b (cg (.s (.s .z (.b (.l ⟨[(10,.o 2858),(43,.v ah)],[(2858,.l ah)],[4,7,8,9,37,38,41,42],[1576,1961,2409],2859,[(10,ah)]⟩ 4 ⟨[(10,.o 2858)],[(2858,.l ah)],[4,7,8,9,37,38],[1576,1961,2409],2859,[]⟩ (cg (.s (.j ⟨[(10,.o 2923)],[(2923,.l ah)],[4,7,8,9,37,38,41,42,43],[1576,1961,2409],2924,[]⟩ (.b (.s .z (.s (.j ⟨[(77,.v .bool)],[],[4,7,8,9,10,12,37,38,41,42,43],[1576,1961,2409,2858,3051],3179,[]⟩ .z) .z)))) .z))))) (cg (.b (.l ⟨[(8,.o 3051),(13,.v ah)],[(3051,.l ay)],[4,7,9,10,37,38],[1576,1961,2858],3052,[]⟩ 6 ⟨[(8,.o 3051)],[(3051,.l ay)],[4,7,37,38],[1576,1961],3052,[]⟩ .z)))))) .z))))) .z))))
theorem QI:aJ 193 (QG n) :=cq (au (Tk n) (au (vN n) (au (vg n) (au (CV n) (au uy aB))))) func193 QH n
def XP:bx xx:=⟨[.d bE],[.fresh ay],λa=>xJ n a.1,none⟩
theorem XQ:aJ 156 (XP n) :=cq (au (QI n) aB) func156 .z n
def Tm:bx xx:=⟨[.d (.sl ay),.d (.sl ay)],[.d ah,.d (.st SI.iu)],λa=>vE n a.1 a.2.1,none⟩
def Tn:Hn SI:=(cg (.s (.s .z (.b (.l ⟨[(6,.v ah),(18,.v ah)],[(1192,ut)],[1,5,7,16,17],[1064],1576,[]⟩ 0 ⟨[(6,.v ah)],[(1192,ut)],[5,7],[1064],1576,[]⟩ (cg (.s (.b (cg (.b (.l ⟨[(6,.v ah),(24,.v ah)],[(1192,ut)],[1,5,7,9,16,17,18,22,23],[1064,1768],2088,[]⟩ 2 ⟨[(6,.v ah)],[(1192,ut)],[1,5,7,16,17,18],[1064],2088,[]⟩ (cg (.s (.j ⟨[(6,.v ah)],[(1192,ut)],[1,5,7,9,16,17,18,22,23,24],[1064,1768],2152,[]⟩ .z) .z)))))) .z))))) .z))
theorem Tp:aJ 155 (Tm n) :=cq (au Bb (au yZ (au lQ (au (EO n) aB)))) func155 Tn n
def Tq:bx xx:=⟨[.d dw,.d (.sl ay)],[.fresh ah],λa=>vF n a.1 a.2.1,none⟩
def Tt:Hn SI:=(gO (.s (.s .z (.b (.l ⟨[(5,.o 1640),(16,.v ah)],[(1640,.l ah)],[1,14,15],[],1641,[(5,ah)]⟩ 0 ⟨[(5,.o 1640)],[(1640,.l ah)],[],[],1641,[]⟩ .z))) .z))
theorem Tv:aJ 109 (Tq n) :=cq (au (oZ n) (au (XQ n) (au (Tp n) aB))) func109 Tt n
def aeU:bx xx:=⟨[.d dw,.d (.sl ay)],[.fresh .str],λa=>Cz n a.1 a.2.1,none⟩
def aeV:Hn SI:=(gO (.s (.s .z (.b (.l ⟨[(6,.v ah),(17,.v ah)],[],[2,5,15,16],[1000,1256],1640,[]⟩ 0 ⟨[(6,.v ah)],[],[2,5],[1000,1256],1640,[]⟩ (cg (.s (.j ⟨[(6,.v ah)],[],[2,5,15,16,17],[1000,1256],1704,[]⟩ (.b (.s .z (.s (.j ⟨[(44,.v .bool)],[],[2,5,6,7,15,16,17],[1000,1256],2024,[]⟩ .z) .z)))) .z))))) (.s .z (.s (.s .z (.b (.l ⟨[(9,.o 1896),(49,.v ah)],[(1896,.l .str)],[2,6,47,48],[1000,1256],1897,[(9,.str)]⟩ 2 ⟨[(9,.o 1896)],[(1896,.l .str)],[],[],1897,[]⟩ (cg (.s (.j ⟨[(9,.o 1961)],[(1961,.l .str)],[2,6,47,48,49],[1000,1256],1962,[]⟩ (.b (.s .z (.s (.j ⟨[(68,.v .bool)],[],[2,6,9,10,47,48,49],[1000,1256,1896],2281,[]⟩ .z) .z)))) .z))))) .z))))
theorem aeW:aJ 76 (aeU n) :=cq (au (Tv n) aB) func76 aeV n
def Y2:bx xx:=⟨[.d fJ,.d (.st SI.dE)],[.d (.st SI.ke),.d ah],λa=>z8 n a.1 a.2.1,none⟩
theorem Y3:aJ 45 (Y2 n) :=cq (au (ajV n) (au (Tg n) (au (QB n) (au (aeW n) aB)))) func45 .z n
def OA:bx xx:=⟨[.d (.sl .str),.d .str],[.d ah],λa=>qQ n a.1 a.2.1,none⟩
def OC:Hn SI:=(.s .z (.s (.s .z (.b (.lx ⟨[(8,.v ah)],[],[0,1,7],[],1256,[]⟩ 0 ⟨[],[],[],[],1256,[]⟩ .z))) .z))
theorem OD:aJ 77 (OA n) :=cq aB func77 OC n
def IJ:bx xx:=⟨[.d (.sl .str),.d .str],[.d .bool],λa=>fK n a.1 a.2.1,none⟩
theorem o6:aJ 47 (IJ n) :=cq (au (OD n) aB) func47 .z n
def Lm:bx xx:=⟨[.d .str,.ref (.sl .str)],[.d .bool],λa=>jV n a.1 a.2.1,none⟩
theorem Lp:aJ 110 (Lm n) :=cq (au (o6 n) aB) func110 .z n
def FP:bx xx:=⟨[.d (.sl .str),.d7 [.str] .bool],[.d ah],λa=>qb n a.1 a.2.1,none⟩
def FQ:Hn SI:=(.s .z (.s (.s .z (.b (.lx ⟨[(8,.v ah)],[],[0,1,7],[],1256,[]⟩ 0 ⟨[],[],[],[],1256,[]⟩ .z))) .z))
theorem FR:aJ 157 (FP n) :=cq aB func157 FQ n
def Bd:bx xx:=⟨[.d (.sl .str),.d7 [.str] .bool],[.d .bool],λa=>fO n a.1 a.2.1,none⟩
theorem Be:aJ 111 (Bd n) :=cq (au (FR n) aB) func111 .z n
def Tw:bx xx:=⟨[.d bg,.d (.sl .str)],[.d .bool],λa=>qp n a.1 a.2.1,none⟩
theorem Tx:aJ 78 (Tw n) :=cq (au (Be n) (au (Lp n) aB)) func78 .z n
def XR:bx xx:=⟨[.d dw,.d (.sl .str),.d ah],[.fresh ah],λa=>tJ n a.1 a.2.1 a.2.2.1,none⟩
def XT:Hn SI:=(cg (.s (.s .z (.b (.l ⟨[(7,.o 1448),(13,.v ah)],[(1448,.l ah)],[1,2,11,12],[],1449,[(7,ah)]⟩ 0 ⟨[(7,.o 1448)],[(1448,.l ah)],[],[],1449,[]⟩ (cg (.s (.j ⟨[(7,.o 1513)],[(1513,.l ah)],[1,2,11,12,13],[],1514,[]⟩ (.b (.s .z (.s (.j ⟨[(37,.v .bool)],[],[1,2,7,8,11,12,13],[1448],1897,[]⟩ .z) .z)))) .z))))) .z))
theorem XU:aJ 48 (XR n) :=cq (au (Tx n) aB) func48 XT n
def Lr:bx xx:=⟨[.mut ay,.d7 [ay,ay] ah],[.mu ay],λa=>uY n a.1 a.2.1,none⟩
theorem Ls:aJ 163 (Lr n):=by
 have hcall:eO Tryz.prog 163:=⟨_,func163,by kernel_rfl,by kernel_rfl⟩;refine zp hcall (λ a r h=>?_) rfl;obtain⟨l,φ,⟨⟩⟩:=a;refine aae (X:=xx) (i:=SI.mj) (hI:=(inferInstance:Inhabited ax)) Tryz.so163 rfl hcall Tryz.underlying66 (by kernel_rfl) (λ x t ht=>?_) h;cases x;have ht:t∈[_,_,_,_]:=ht;simp only[aN,fu,or_false]at ht;rcases ht with rfl |rfl |rfl |rfl<;>exact⟨_,rfl,trivial⟩
def CW:bx xx:=⟨[.d ay,.d ay],[.d ah],λa=>iH a.1 a.2.1,none⟩
theorem CX:aJ 164 CW :=cq (au lQ aB) func164 .z 0
def OE:bx xx:=⟨[.d aG],[.d ah],λa=>kN a.1,none⟩
def OG:Hn SI:=(.s .z (.s (.s (.j ⟨[(9,.v .bool)],[],[1],[1000],1128,[]⟩ .z) .z) .z))
theorem Ap:aJ 168 OE :=cq (au kF aB) func168 OG 0
def Ty:bx xx:=⟨[.d aG],[.d ah],λa=>oo a.1,none⟩
theorem Fp:aJ 166 Ty :=cq (au kF (au yZ (au Ap aB))) func166 .z 0
def Bf:bx xx:=⟨[.d aG],[.d ah],λa=>nE a.1,none⟩
theorem Bg:aJ 169 Bf :=cq aB func169 .z 0
def CY:bx xx:=⟨[.d aG],[.d ah],λa=>oC a.1,none⟩
theorem CZ:aJ 170 CY :=cq aB func170 .z 0
def Tz:bx xx:=⟨[.d ay,.d ah],[.d ay,.d .bool],λa=>AX a.1 a.2.1,none⟩
theorem TA:aJ 205 Tz :=cq (au oq aB) func205 .z 0
def QJ:bx xx:=⟨[.d (.st SI.Entry),.ref (.st SI.mT),.ref ah],[.d .bool],λa=>j5 a.1 a.2.1 a.2.2.1,none⟩
theorem QK:aJ 246 QJ :=cq aB func246 .z 0
def IK:bx xx:=⟨[.d (.sl (.st SI.Entry)),.d7 [.st SI.Entry] .bool],[.d ah],λa=>j6 n a.1 a.2.1,none⟩
def IL:Hn SI:=(.s .z (.s (.s .z (.b (.lx ⟨[(8,.v ah)],[],[0,1,7],[],1256,[]⟩ 0 ⟨[],[],[],[],1256,[]⟩ .z))) .z))
theorem wM:aJ 201 (IK n) :=cq aB func201 IL n
def Y4:bx xx:=⟨[.d dw,.d ah],[.d ah],λa=>Aa n a.1 a.2.1,none⟩
def Y5:Hn SI:=(cg (.s (.s .z (.b (.lx ⟨[(14,.v ah)],[],[3,5,12,13],[1064,1256],1640,[]⟩ 0 ⟨[],[],[],[],1640,[]⟩ (cg (.s (.b (gO (.s (.j ⟨[(8,.v ah)],[],[],[],2344,[]⟩ .z) .z))) .z))))) .z))
theorem Y6:aJ 206 (Y4 n) :=cq (au (wM n) (au QK aB)) func206 Y5 n
def OH:bx xx:=⟨[.d dw,.d aG],[.d ah],λa=>kP n a.1 a.2.1,none⟩
def OI:Hn SI:=(cg (.s (.s (.j ⟨[(20,.v .bool)],[],[5,6],[],1704,[]⟩ .z) .z) .z))
theorem OJ:aJ 173 (OH n) :=cq (au (Y6 n) (au Fp aB)) func173 OI n
def FT:cX xx:=⟨[.p 0],[(0,fg),(1,.l aG)],[.v ah],[(0,fg),(1,.l aG)],λv=>mD n v.1 v.2.1 v.2.2.1 v.2.2.2.1 v.2.2.2.2.1 v.2.2.2.2.2.1 v.2.2.2.2.2.2.1 v.2.2.2.2.2.2.2.1 v.2.2.2.2.2.2.2.2.1 v.2.2.2.2.2.2.2.2.2⟩
def FU:bx xx:=⟨[],[.d .bool],λ_=>none,some (FT n)⟩
theorem FV:aJ 117 (FU n) :=ov (au (Qv n) aB) func117 .z n (by kernel_rfl) λ_=>by kernel_rfl
def C8:cX xx:=⟨[.p 0],[(0,fg),(1,.l aG)],[.v ah],[(0,fg),(1,.l aG)],λv=>iJ n v.1 v.2.1 v.2.2.1 v.2.2.2.1 v.2.2.2.2.1 v.2.2.2.2.2.1 v.2.2.2.2.2.2.1 v.2.2.2.2.2.2.2.1 v.2.2.2.2.2.2.2.2.1 v.2.2.2.2.2.2.2.2.2⟩
def C9:bx xx:=⟨[],[.d .bool],λ_=>none,some (C8 n)⟩
def Da:Hn SI:=(gO (.s (.s .z (.b (.l ⟨[(3,.o 1960),(23,.v ah)],[(1448,.l ay),(1960,.l ah)],[4,21,22],[0,1],1961,[(3,ah)]⟩ 0 ⟨[(3,.o 1960)],[(1448,.l ay),(1960,.l ah)],[4],[0,1],1961,[]⟩ .z))) (gO (.s (.s .z (.b (.l ⟨[(7,.v ah),(56,.v ah)],[],[3,4,55],[0,1,1448,1960],2601,[]⟩ 2 ⟨[(7,.v ah)],[],[],[0,1],2601,[]⟩ (cg (.s (.b (gO (.b (.l ⟨[(7,.v ah),(9,.v ah),(61,.v ah)],[],[3,4,8,55,56,59,60],[0,1,1448,1960],3049,[]⟩ 4 ⟨[(7,.v ah)],[],[3,4,55,56],[0,1,1448,1960],3049,[]⟩ (cg (.s (.j ⟨[(7,.v ah),(9,.v ah)],[],[3,4,8,55,56,59,60,61],[0,1,1448,1960],3113,[]⟩ (.b (.s .z (.s (.j ⟨[(86,.v .bool)],[],[3,4,7,8,9,11,55,56,59,60,61],[0,1,1448,1960,3241],3369,[]⟩ .z) .z)))) .z)))))) .z))))) .z))))
theorem Db:aJ 118 (C9 n) :=ov (au (Ls n) (au CX (au (vN n) aB))) func118 Da n (by kernel_rfl) λ_=>by kernel_rfl
def FW:cX xx:=⟨[.p 0,(.f 166 [] [])],[(0,fg),(1,.l aG)],[.v ah],[(0,fg),(1,.l aG)],λv=>qc n v.1 v.2.1 v.2.2.1 v.2.2.2.1 v.2.2.2.2.1 v.2.2.2.2.2.1 v.2.2.2.2.2.2.1 v.2.2.2.2.2.2.2.1 v.2.2.2.2.2.2.2.2.1 v.2.2.2.2.2.2.2.2.2⟩
def FX:bx xx:=⟨[],[.d .bool],λ_=>none,some (FW n)⟩
def FY:Hn SI:=(cg (.s (.s .z (.b (.l ⟨[(5,.v ah),(13,.v ah)],[],[1,11,12],[0,1],1512,[]⟩ 0 ⟨[(5,.v ah)],[],[],[0,1],1512,[]⟩ .z))) .z))
theorem FZ:aJ 165 (FX n) :=ov (au Fp aB) func165 FY n (by kernel_rfl) λ_=>by kernel_rfl
def Dc:cX xx:=⟨[.p 0],[(0,fg),(1,.l aG)],[.v ah],[(0,fg),(1,.l aG)],λv=>kz n v.1 v.2.1 v.2.2.1 v.2.2.2.1 v.2.2.2.2.1 v.2.2.2.2.2.1 v.2.2.2.2.2.2.1 v.2.2.2.2.2.2.2.1 v.2.2.2.2.2.2.2.2.1 v.2.2.2.2.2.2.2.2.2⟩
def Df:bx xx:=⟨[],[.d .bool],λ_=>none,some (Dc n)⟩
theorem Dg:aJ 119 (Df n) :=ov (au (FZ n) aB) func119 .z n (by kernel_rfl) λ_=>by kernel_rfl
def y5:cX xx:=⟨[.p 0,(.f 168 [] [])],[(0,fg),(1,.l aG)],[.v ah],[(0,fg),(1,.l aG)],λv=>lY n v.1 v.2.1 v.2.2.1 v.2.2.2.1 v.2.2.2.2.1 v.2.2.2.2.2.1 v.2.2.2.2.2.2.1 v.2.2.2.2.2.2.2.1 v.2.2.2.2.2.2.2.2.1 v.2.2.2.2.2.2.2.2.2⟩
def y7:bx xx:=⟨[],[.d .bool],λ_=>none,some (y5 n)⟩
def y8:Hn SI:=(cg (.s (.s .z (.b (.l ⟨[(5,.v ah),(13,.v ah)],[],[1,11,12],[0,1],1512,[]⟩ 0 ⟨[(5,.v ah)],[],[],[0,1],1512,[]⟩ .z))) .z))
theorem y9:aJ 167 (y7 n) :=ov (au Ap aB) func167 y8 n (by kernel_rfl) λ_=>by kernel_rfl
def Bh:cX xx:=⟨[.p 0],[(0,fg),(1,.l aG)],[.v ah],[(0,fg),(1,.l aG)],λv=>jD n v.1 v.2.1 v.2.2.1 v.2.2.2.1 v.2.2.2.2.1 v.2.2.2.2.2.1 v.2.2.2.2.2.2.1 v.2.2.2.2.2.2.2.1 v.2.2.2.2.2.2.2.2.1 v.2.2.2.2.2.2.2.2.2⟩
def Bj:bx xx:=⟨[],[.d .bool],λ_=>none,some (Bh n)⟩
theorem Bl:aJ 120 (Bj n) :=ov (au (y9 n) aB) func120 .z n (by kernel_rfl) λ_=>by kernel_rfl
def za:cX xx:=⟨[.p 0,(.f 169 [] [])],[(0,fg),(1,.l aG)],[.v ah],[(0,fg),(1,.l aG)],λv=>lZ n v.1 v.2.1 v.2.2.1 v.2.2.2.1 v.2.2.2.2.1 v.2.2.2.2.2.1 v.2.2.2.2.2.2.1 v.2.2.2.2.2.2.2.1 v.2.2.2.2.2.2.2.2.1 v.2.2.2.2.2.2.2.2.2⟩
def zb:bx xx:=⟨[],[.d .bool],λ_=>none,some (za n)⟩
def ze:Hn SI:=(cg (.s (.s .z (.b (.l ⟨[(5,.v ah),(13,.v ah)],[],[1,11,12],[0,1],1512,[]⟩ 0 ⟨[(5,.v ah)],[],[],[0,1],1512,[]⟩ .z))) .z))
theorem zf:aJ 167 (zb n) :=ov (au Bg aB) func167 ze n (by kernel_rfl) λ_=>by kernel_rfl
def Bn:cX xx:=⟨[.p 0],[(0,fg),(1,.l aG)],[.v ah],[(0,fg),(1,.l aG)],λv=>jE n v.1 v.2.1 v.2.2.1 v.2.2.2.1 v.2.2.2.2.1 v.2.2.2.2.2.1 v.2.2.2.2.2.2.1 v.2.2.2.2.2.2.2.1 v.2.2.2.2.2.2.2.2.1 v.2.2.2.2.2.2.2.2.2⟩
def Bo:bx xx:=⟨[],[.d .bool],λ_=>none,some (Bn n)⟩
theorem Bp:aJ 121 (Bo n) :=ov (au (zf n) aB) func121 .z n (by kernel_rfl) λ_=>by kernel_rfl
def F3:cX xx:=⟨[.p 0,(.f 170 [] [])],[(0,fg),(1,.l aG)],[.v ah],[(0,fg),(1,.l aG)],λv=>qd n v.1 v.2.1 v.2.2.1 v.2.2.2.1 v.2.2.2.2.1 v.2.2.2.2.2.1 v.2.2.2.2.2.2.1 v.2.2.2.2.2.2.2.1 v.2.2.2.2.2.2.2.2.1 v.2.2.2.2.2.2.2.2.2⟩
def F4:bx xx:=⟨[],[.d .bool],λ_=>none,some (F3 n)⟩
def F5:Hn SI:=(cg (.s (.s .z (.b (.l ⟨[(5,.v ah),(13,.v ah)],[],[1,11,12],[0,1],1512,[]⟩ 0 ⟨[(5,.v ah)],[],[],[0,1],1512,[]⟩ .z))) .z))
theorem F6:aJ 165 (F4 n) :=ov (au CZ aB) func165 F5 n (by kernel_rfl) λ_=>by kernel_rfl
def Dh:cX xx:=⟨[.p 0],[(0,fg),(1,.l aG)],[.v ah],[(0,fg),(1,.l aG)],λv=>kC n v.1 v.2.1 v.2.2.1 v.2.2.2.1 v.2.2.2.2.1 v.2.2.2.2.2.1 v.2.2.2.2.2.2.1 v.2.2.2.2.2.2.2.1 v.2.2.2.2.2.2.2.2.1 v.2.2.2.2.2.2.2.2.2⟩
def Di:bx xx:=⟨[],[.d .bool],λ_=>none,some (Dh n)⟩
theorem Dj:aJ 122 (Di n) :=ov (au (F6 n) aB) func122 .z n (by kernel_rfl) λ_=>by kernel_rfl
def Bq:cX xx:=⟨[.p 0,.v ay,.v ah],[(0,fg),(1,.l aG)],[.v .bool],[(0,fg),(1,.l aG)],λv=>jG n v.1 v.2.1 v.2.2.1 v.2.2.2.1 v.2.2.2.2.1 v.2.2.2.2.2.1 v.2.2.2.2.2.2.1 v.2.2.2.2.2.2.2.1 v.2.2.2.2.2.2.2.2.1 v.2.2.2.2.2.2.2.2.2.1 v.2.2.2.2.2.2.2.2.2.2.1 v.2.2.2.2.2.2.2.2.2.2.2⟩
def Br:bx xx:=⟨[],[.d .bool],λ_=>none,some (Bq n)⟩
def Bt:Hn SI:=(uv (.s (.s .z (.b (.l ⟨[(9,.v ah),(27,.v ah)],[],[7,25,26],[0,1,1512],2280,[]⟩ 0 ⟨[(9,.v ah)],[],[7],[0,1,1512],2280,[]⟩ (cg (.s (.j ⟨[(9,.v ah)],[],[7,25,26,27],[0,1,1512],2344,[]⟩ .z) .z))))) .z))
theorem Bu:aJ 171 (Br n) :=ov (au TA (au Bb (au yZ aB))) func171 Bt n (by kernel_rfl) λ_=>by kernel_rfl
def zC:cX xx:=⟨[.p 0],[(0,fg),(1,.l aG)],[.v ah],[(0,fg),(1,.l aG)],λv=>jg n v.1 v.2.1 v.2.2.1 v.2.2.2.1 v.2.2.2.2.1 v.2.2.2.2.2.1 v.2.2.2.2.2.2.1 v.2.2.2.2.2.2.2.1 v.2.2.2.2.2.2.2.2.1 v.2.2.2.2.2.2.2.2.2⟩
def zD:bx xx:=⟨[],[.d .bool],λ_=>none,some (zC n)⟩
def zF:Hn SI:=(cg (.s (.s .z (.b (.l ⟨[(3,.v ah),(14,.v ah)],[(0,fg),(1,.l aG)],[0,12,13],[],1512,[]⟩ 0 ⟨[(3,.v ah)],[(0,fg),(1,.l aG)],[],[],1512,[]⟩ (cg (.s (.b (cg (.s (.b (.l ⟨[(6,.v ah),(7,.v ah)],[(0,fg),(1,.l aG)],[0,5,12,13,14],[1704],2024,[]⟩ 2 ⟨[(6,.v ah)],[(0,fg),(1,.l aG)],[0,12,13,14],[],2024,[]⟩ .z)) .z))) .z))))) .z))
theorem zG:aJ 123 (zD n) :=ov (au (Bu n) aB) func123 zF n (by kernel_rfl) λ_=>by kernel_rfl
def wU:cX xx:=⟨[.v aG,.p 0],[(0,.c 1 [[.p 1]]),(1,tG),(2,.l aG)],[.v ah],[(0,.c 1 [[.p 1]]),(1,tG),(2,.l aG)],λv=>ko n v.1 v.2.1 v.2.2.1 v.2.2.2.1 v.2.2.2.2.1 v.2.2.2.2.2.1 v.2.2.2.2.2.2.1 v.2.2.2.2.2.2.2.1 v.2.2.2.2.2.2.2.2.1 v.2.2.2.2.2.2.2.2.2.1 v.2.2.2.2.2.2.2.2.2.2⟩
def wV:bx xx:=⟨[],[.d .bool],λ_=>none,some (wU n)⟩
theorem wW:aJ 172 (wV n) :=ov (au (OJ n) aB) func172 .z n (by kernel_rfl) λ_=>by kernel_rfl
def F7:cX xx:=⟨[.p 0,(.f 172 [] [.p 1])],[(0,tG),(1,.c 1 [[.p 0]]),(2,.l aG)],[.v ah],[(0,tG),(1,.c 1 [[.p 0]]),(2,.l aG)],λv=>qf n v.1 v.2.1 v.2.2.1 v.2.2.2.1 v.2.2.2.2.1 v.2.2.2.2.2.1 v.2.2.2.2.2.2.1 v.2.2.2.2.2.2.2.1 v.2.2.2.2.2.2.2.2.1 v.2.2.2.2.2.2.2.2.2⟩
def F8:bx xx:=⟨[],[.d .bool],λ_=>none,some (F7 n)⟩
def F9:Hn SI:=(cg (.s (.s .z (.b (.l ⟨[(5,.v ah),(13,.v ah)],[(0,tG),(1,.c 1 [[.p 0]]),(2,.l aG)],[1,11,12],[],1512,[]⟩ 0 ⟨[(5,.v ah)],[(0,tG),(1,.c 1 [[.p 0]]),(2,.l aG)],[],[],1512,[]⟩ .z))) .z))
theorem Ga:aJ 165 (F8 n) :=ov (au (wW n) aB) func165 F9 n (by kernel_rfl) λ_=>by kernel_rfl
def zH:cX xx:=⟨[.p 0],[(0,fg),(1,.l aG)],[.v ah],[(0,fg),(1,.l aG)],λv=>jh n v.1 v.2.1 v.2.2.1 v.2.2.2.1 v.2.2.2.2.1 v.2.2.2.2.2.1 v.2.2.2.2.2.2.1 v.2.2.2.2.2.2.2.1 v.2.2.2.2.2.2.2.2.1 v.2.2.2.2.2.2.2.2.2⟩
def zI:bx xx:=⟨[],[.d .bool],λ_=>none,some (zH n)⟩
theorem zJ:aJ 124 (zI n) :=ov (au (Ga n) aB) func124 .z n (by kernel_rfl) λ_=>by kernel_rfl
def ab4:bx xx:=⟨[.d dw,.d iM,.d (.st SI.dE)],[.fresh (.st SI.Entry)],λa=>kr n a.1 a.2.1 a.2.2.1,none⟩
def ab5:Hn SI:=(cg (.s (.j ⟨[],[(1384,.c 10 [[.v (.sl bC),.v (.sl aZ),.v (.sl bE),.v (.sl bg),.v (.sl bJ),.v (.sl bH),.v (.sl aU),.v ah,.v (.sl ay),.nil]])],[5,7],[1128],1512,[]⟩ .z) (.s (.s .z (.b (.l ⟨[(31,.v ah)],[(1384,GO),(1960,.l aG)],[7,29,30],[1768],1961,[(6668873,aG)]⟩ 0 ⟨[],[(1384,GO),(1960,.l aG)],[7],[],1961,[]⟩ (cg (.s (.j ⟨[],[(1384,.c 10 [[.v (.sl bC),.v (.sl aZ),.v (.sl bE),.v (.sl bg),.v (.sl bJ),.v (.sl bH),.v (.sl aU),.v ah,.v (.sl ay),.o 2025]]),(2025,.l aG)],[7,29,30,31],[1768],2026,[]⟩ (.b (.s .z (.s (.j ⟨[(41,.v .bool)],[],[7,9,29,30,31],[1384,1768,1960,2217],2409,[]⟩ .z) .z)))) .z))))) (cg (.s (.s .z (.b (.un .z (.un .z (.un .z (.un .z (.un .z (.un .z (.un .z (.un .z (.un .z (.un .z .z)))))))))))) .z)))))
theorem ab6:aJ 80 (ab4 n) :=cq (au (oZ n) (au (Ao n) (au kF (au (FV n) (au (Db n) (au (Dg n) (au (Bl n) (au (Bp n) (au (Dj n) (au (zG n) (au (zJ n) aB))))))))))) func80 ab5 n
def ahc:bx xx:=⟨[.d ah],[.d ah,.d .bool],λa=>yO a.1,none⟩
def ahd:Hn SI:=(.s .z (.s (.s .z (.b (.s (.j ⟨[(5,.v .bool)],[],[0,4],[],1192,[]⟩ .z) (.s .z (.s (.j ⟨[(10,.v .bool)],[],[0,4],[],1192,[]⟩ .z) .z))))) .z))
theorem ahe:aJ 194 ahc :=cq aB func194 ahd 0
def aeX:Hn SI:=(cg (.s (.s (.j ⟨[(28,.v .bool)],[],[1,2],[1000],1640,[]⟩ .z) .z) (.s .z (.s (.s .z (.b (.l ⟨[(7,.v ah),(32,.v ah)],[],[1,30,31],[],1960,[]⟩ 0 ⟨[(7,.v ah)],[],[],[],1960,[]⟩ .z))) .z))))
theorem ab7(rc:(bZ)->(Int)->Option Int)(hr:aJ 158 (Ej rc)):aJ 158 (Ej (Ab n rc)) :=cq (au ahe (au hr aB)) func158 aeX n
theorem OL(n:Nat):∀m,aJ 158 (Ej (rX n m))
 | 0=>zp (mV func158 (by kernel_rfl:Tryz.f158.body=some (Tryz.f158.body.getD .skip)) (by kernel_rfl)) (λ _ _ h=>(by cases h)) rfl
 |m+1=>ab7 n _ (OL n m)
def aeY:bx xx:=⟨[.d (.st SI.Expr),.d ah],[.d ah],λa=>PY n a.1 a.2.1,none⟩
theorem aeZ:aJ 158 (aeY n):=OL n n
def ahf:bx xx:=⟨[.d (.st SI.Expr)],[.d .bool],λa=>HY n a.1,none⟩
end
end Go.Proofs
