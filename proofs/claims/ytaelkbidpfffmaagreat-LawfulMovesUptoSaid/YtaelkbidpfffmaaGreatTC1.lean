import Derived.Test.YtaelkbidpfffmaaGreatS2
namespace Go.Proofs
open Go.Gb Go.RowKit
abbrev fc:OP SI:=.c 10 [[.v (.sl aU),.v (.sl aM),.v (.sl aT),.v (.sl aO),.v (.sl aX),.v (.sl aW),.v (.sl aK),.v af,.v (.sl ay),.o 1]]
abbrev pH:OP SI:=.c 1 [[.o 1]]
abbrev qr:OP SI:=.c 2 [[.v (.sl aU),(.v (.sl (.sl af)))]]
abbrev tg:OP SI:=.c 10 [[.v (.sl aU),.v (.sl aM),.v (.sl aT),.v (.sl aO),.v (.sl aX),.v (.sl aW),.v (.sl aK),.v af,.v (.sl ay),.o 2]]
abbrev tE:OP SI:=.c 2 [[.v af,.v af]]
abbrev uC:OP SI:=.c 1 [[.o 1384]]
abbrev yq:OP SI:=.c 4 [[.v af,.v af,.v af,.v af]]
abbrev Fm:OP SI:=.c 10 [[.v (.sl aU),.v (.sl aM),.v (.sl aT),.v (.sl aO),.v (.sl aX),.v (.sl aW),.v (.sl aK),.v af,.v (.sl ay),.o 1960]]
abbrev Fl:OP SI:=.c 13 [[.v (.sl aU),.v (.sl aM),.v (.sl aT),.v (.sl aO),.v (.sl aX),.v (.sl aW),.v (.sl aK),.v af,.o 1640,.v (.sl dX),(.v (.sl (.st SI.Window))),.v (.sl dS),.v (.sl dQ)]]
abbrev cA(a:Hn SI):Hn SI:=.s .z (.s .z a)
abbrev gx(a:Hn SI):Hn SI:=.s .z (.s .z (.s .z a))
abbrev tG(a:Hn SI):Hn SI:=.s .z (.s .z (.s .z (.s .z a)))
abbrev ON(a:Hn SI):Hn SI:=.s .z (.s .z (.s .z (.s .z (.s .z a))))
open Tryz
noncomputable section
variable (n:Nat)
def aiS:co xx:=⟨[.d af],[.d (.st SI.Expr)],λa=>W6 a.1,none⟩
theorem aiT:aG 10 aiS :=cq aC func10 .z 0
def Rp:co xx:=⟨[.d (.sl ay)],[.fresh ay],λa=>AJ a.1,none⟩
theorem Rq:aG 88 Rp :=cq aC func88 .z 0
def Wp:co xx:=⟨[.d (.sl af)],[.fresh af],λa=>DY a.1,none⟩
theorem Wq:aG 89 Wp :=cq aC func89 .z 0
def agb:co xx:=⟨[.d gQ],[.d gQ],λa=>Mj a.1,none⟩
theorem agc:aG 48 agb :=cq (ak Rq (ak Wq aC)) func48 .z 0
def aiU:co xx:=⟨[.d (.sl gQ),.d af],[.d gQ,.d .bool],λa=>Mk n a.1 a.2.1,none⟩
def aiV:Hn SI:=(.s .z (.s (.s .z (.b (.lx ⟨[(10,.v af)],[],[1,4,8,9],[1000],1320,[]⟩ 0 ⟨[],[],[4],[1000],1320,[]⟩ .z))) .z))
theorem aiW:aG 28 (aiU n) :=cq (ak agc aC) func28 aiV n
def M9:co xx:=⟨[.d fu,.d af,.d af],[.fresh aD],λa=>nP n a.1 a.2.1 a.2.2.1,none⟩
def Na:Hn SI:=(cA (.s (.s .z (.b (.l ⟨[(7,.o 1448),(13,.v af)],[(1448,.l aD)],[1,2,11,12],[],1449,[(7,aD)]⟩ 0 ⟨[(7,.o 1448)],[(1448,.l aD)],[],[],1449,[]⟩ (cA (.s (.j ⟨[(7,.o 1513)],[(1513,.l aD)],[1,2,11,12,13],[],1514,[]⟩ (.b (.s .z (.s (.j ⟨[(25,.v .bool)],[],[1,2,7,9,11,12,13],[1448,1705],1897,[]⟩ .z) .z)))) .z))))) .z))
theorem Ah:aG 62 (M9 n) :=cq aC func62 Na n
def XT:co xx:=⟨[.d fu],[.fresh aD],λa=>vQ n a.1,none⟩
theorem J7:aG 50 (XT n) :=cq (ak (Ah n) aC) func50 .z n
def aiX:co xx:=⟨[.d ay],[.d .bool],λa=>oC a.1,none⟩
theorem pU:aG 78 aiX :=cq aC func78 .z 0
def Fp:co xx:=⟨[.d aD],[.d .bool],λa=>gq a.1,none⟩
def Fq:Hn SI:=(cA (.s (.s (.j ⟨[(26,.v .bool)],[],[1],[1000],1384,[]⟩ .z) .z) (.s (.s (.j ⟨[(34,.v .bool)],[],[1],[1000],1384,[]⟩ .z) .z) .z)))
theorem kR:aG 63 Fp :=cq (ak pU aC) func63 Fq 0
def adQ:co xx:=⟨[.d ay],[.d ay,.d .bool],λa=>xQ a.1,none⟩
theorem QS:aG 95 adQ :=cq (ak pU aC) func95 .z 0
def XU:co xx:=⟨[.d ay,.d ay],[.d ay,.d .bool],λa=>q9 a.1 a.2.1,none⟩
def XV:Hn SI:=(.s .z (.s (.s (.j ⟨[(13,.v .bool)],[],[2,3,4],[1000,1064,1128],1256,[]⟩ .z) .z) .z))
theorem AY:aG 128 XU :=cq (ak pU (ak QS aC)) func128 XV 0
def Ws:co xx:=⟨[.d (.st SI.C3),.d (.st SI.C3)],[.d .bool],λa=>rZ a.1 a.2.1,none⟩
theorem Wt:aG 91 Ws :=cq (ak AY aC) func91 .z 0
def Nb:co xx:=⟨[.d aD,.ref aD],[.d .bool],λa=>iJ a.1 a.2.1,none⟩
theorem Nc:aG 90 Nb :=cq (ak Wt aC) func90 .z 0
def Fs:co xx:=⟨[.d (.sl aD),.ea [aD] .bool],[.d af],λa=>mG n a.1 a.2.1,none⟩
def Fu:Hn SI:=(.s .z (.s (.s .z (.b (.lx ⟨[(8,.v af)],[],[0,1,7],[],1256,[]⟩ 0 ⟨[],[],[],[],1256,[]⟩ .z))) .z))
theorem Fv:aG 80 (Fs n) :=cq aC func80 Fu n
def AZ:co xx:=⟨[.d (.sl aD),.ea [aD] .bool],[.d .bool],λa=>dF n a.1 a.2.1,none⟩
theorem qx:aG 42 (AZ n) :=cq (ak (Fv n) aC) func42 .z n
def abj:co xx:=⟨[.d (.int .u8)],[.d .bool],λa=>D5 a.1,none⟩
theorem Nf:aG 159 abj :=cq aC func159 .z 0
def agf:co xx:=⟨[.d .str,.ea [.int .u8] .bool],[.d af],λa=>Ml n a.1 a.2.1,none⟩
def agh:Hn SI:=(cA (.s (.b (.l ⟨[(5,.v af)],[],[0,1],[],1128,[]⟩ 0 ⟨[(5,.v af)],[],[],[],1128,[]⟩ (.s (.s (.j ⟨[(16,.v .bool)],[],[0,1,5],[],1128,[]⟩ .z) .z) .z))) .z))
theorem agi:aG 160 (agf n) :=cq aC func160 agh n
def adR:co xx:=⟨[.d (.int .u8)],[.d .bool],λa=>OE a.1,none⟩
theorem adS:aG 162 adR :=cq aC func162 .z 0
def XW:co xx:=⟨[.d (.int .u8)],[.d .bool],λa=>zN a.1,none⟩
theorem XY:aG 161 XW :=cq (ak Nf (ak adS aC)) func161 .z 0
def agj:co xx:=⟨[.d .str],[.d .bool],λa=>Mq n a.1,none⟩
def agk:Hn SI:=(.s .z (.s (.s (.j ⟨[(15,.v .bool)],[],[0],[],1064,[]⟩ .z) .z) .z))
theorem agl:aG 129 (agj n) :=cq (ak Nf (ak (agi n) (ak XY aC))) func129 agk n
def KP:co xx:=⟨[.d .str,.d .str],[.d .bool],λa=>strings_Contains a.1 a.2.1,none⟩
theorem KQ:aG 130 KP:=by
 have hcall:fA Tryz.prog 130:=⟨_,func130,by kernel_rfl,by kernel_rfl⟩;refine xp hcall (λ a r h=>?_) rfl;obtain⟨s,b,⟨⟩⟩:=a;have h':strings_Contains s b=some r:=h;unfold strings_Contains at h';cases hb:Nat.ble s.size 4000000 with
 |false=>rw[hb]at h';cases h'
 |true=>
  rw[hb]at h';have h'':some (Lib.contains s.data.toList b.data.toList)=some r:=h';injection h'' with e;subst e;have hw:=Nat.le_of_ble_eq_true hb;exact aaF (g:=0) rfl hcall λm w hm=>acZ s b m w (by omega) hm
def XZ:co xx:=⟨[.d .str],[.d .bool],λa=>vR n a.1,none⟩
theorem X0:aG 92 (XZ n) :=cq (ak (agl n) (ak KQ aC)) func92 .z n
def Wu:co xx:=⟨[.d fu],[.d .bool],λa=>nC n a.1,none⟩
def Wv:Hn SI:=(cA (.s (.s (.j ⟨[(42,.v .bool)],[],[1,3],[1000,1192],1320,[]⟩ .z) .z) (.s (.s .z (.b (.lx ⟨[(45,.v af)],[],[1,3,43,44],[1000,1192],1512,[]⟩ 0 ⟨[],[],[1],[1000],1512,[]⟩ (cA (.s (.b (.s .z (.s (.j ⟨[(59,.v .bool)],[],[1,3,43,44,45],[1000,1192],1960,[]⟩ .z) .z))) .z))))) (.s (.s .z (.b (.lx ⟨[(64,.v af)],[],[62,63],[],1768,[]⟩ 2 ⟨[],[],[],[],1768,[]⟩ (cA (.s (.b (cA (.s (.s .z (.b (.lx ⟨[(72,.v af)],[(2088,.m .str .bool)],[7,8,62,63,64,70,71],[1960],2472,[]⟩ 4 ⟨[],[],[7,62,63,64],[1960],2472,[]⟩ (cA (.s (.b (.s .z (.s (.s (.j ⟨[(95,.v .bool)],[],[7,8,10,62,63,64,70,71,72],[1960,2088,2664],2792,[]⟩ .z) .z) .z))) .z))))) .z))) .z))))) .z))))
theorem Ww:aG 49 (Wu n) :=cq (ak (J7 n) (ak kR (ak (qx n) (ak Nc (ak (X0 n) aC))))) func49 Wv n
def Wx:co xx:=⟨[.nil,.d af],[.fresh ay],λa=>Mr a.1 a.2.1,none⟩
theorem Wy:aG 196 Wx :=cq aC func196 .z 0
def Pf:co xx:=⟨[.d (.sl (.sl ay))],[.fresh ay],λa=>yD n a.1,none⟩
def Pg:Hn SI:=(cA (.s (.s .z (.b (.l ⟨[(3,.v af),(11,.v af)],[],[0,9,10],[],1320,[]⟩ 0 ⟨[(3,.v af)],[],[0],[],1320,[]⟩ .z))) (.s .z (.s (.s .z (.b (.l ⟨[(6,.o 1704),(27,.v af)],[(1704,.l ay)],[25,26],[],1705,[]⟩ 2 ⟨[(6,.o 1704)],[(1704,.l ay)],[],[],1705,[]⟩ .z))) .z))))
theorem Ph:aG 156 (Pf n) :=cq (ak Wy aC) func156 Pg n
def X4:co xx:=⟨[.mut af],[.mu af],λa=>oN n a.1,none⟩
theorem vE:aG 108 (X4 n):=by have hcall:fA Tryz.prog 108:=⟨_,func108,by kernel_rfl,by kernel_rfl⟩;refine xp hcall (λ a r h=>?_) rfl;obtain⟨l,⟨⟩⟩:=a;exact aib Tryz.so108 rfl hcall h
def Pj:co xx:=⟨[.mut af],[.whole 0,.mu af],λa=>oO n a.1,none⟩
def Pk:Hn SI:=(cA (.s (.s .z (.b (.lx ⟨[(3,.v af)],[],[0],[0],1320,[]⟩ 0 ⟨[],[],[0],[0],1320,[]⟩ (.s .z (.s (.b (.s .z (.s (.s .z (.s (.s .z (.b (.l ⟨[(3,.v af),(5,.v af)],[(0,.l af)],[0,4],[],2536,[]⟩ 2 ⟨[(3,.v af)],[(0,.l af)],[0],[],2536,[]⟩ (.s .z (.s (.j ⟨[(3,.v af)],[(0,.l af)],[0,4,5],[],2792,[]⟩ .z) .z))))) .z)) .z))) .z))))) .z))
theorem uW:aG 157 (Pj n) :=cq aC func157 Pk n
def KR:co xx:=⟨[.mut (.st SI.span),.ea [.st SI.span,.st SI.span] af],[.mu (.st SI.span)],λa=>uR n a.1 a.2.1,none⟩
theorem KS:aG 197 (KR n):=by have hcall:fA Tryz.prog 197:=⟨_,func197,by kernel_rfl,by kernel_rfl⟩;refine xp hcall (λ a r h=>?_) rfl;obtain⟨l,φ,⟨⟩⟩:=a;refine Zb (X:=xx) (i:=SI.span) (hI:=(inferInstance:Inhabited aH)) Tryz.so197 rfl hcall Tryz.underlying237 (by kernel_rfl) (λ x t ht=>?_) h;cases x;have ht:t∈[_,_]:=ht;simp only[aP,mY,or_false]at ht;rcases ht with rfl|rfl<;>exact⟨_,rfl,trivial⟩
def Rs:co xx:=⟨[.d af],[.d .bool],λa=>cmp_isNaN_int a.1,none⟩
theorem Rt:aG 147 Rs :=cq aC func147 .z 0
def Ng:co xx:=⟨[.d af,.d af],[.d af],λa=>cmp_Compare_int a.1 a.2.1,none⟩
theorem oH:aG 107 Ng :=cq (ak Rt aC) func107 .z 0
def Wz:co xx:=⟨[.d (.st SI.span),.d (.st SI.span)],[.d af],λa=>wV a.1 a.2.1,none⟩
theorem WA:aG 198 Wz :=cq (ak oH aC) func198 .z 0
def adT:co xx:=⟨[.d (.sl ay),.d af],[.fresh (.st SI.span)],λa=>I7 n a.1 a.2.1,none⟩
def adU:Hn SI:=(cA (.s (.s .z (.b (.l ⟨[(5,.o 1320),(14,.v af)],[(1320,.l (.st SI.span))],[1,12,13],[],1321,[(5,.st SI.span)]⟩ 0 ⟨[(5,.o 1320)],[(1320,.l (.st SI.span))],[],[],1321,[]⟩ (cA (.s (.j ⟨[(5,.o 1385)],[(1385,.l (.st SI.span))],[1,12,13,14],[],1386,[]⟩ (.b (.s .z (.s (.j ⟨[(27,.v .bool)],[],[1,5,7,12,13,14],[1320,1513],1641,[]⟩ .z) .z)))) .z))))) (cA (.s (.s .z (.b (.l ⟨[(8,.o 1705),(41,.v af)],[(1705,.l (.st SI.span))],[39,40],[1320],1706,[(8,.st SI.span)]⟩ 2 ⟨[(8,.o 1705)],[(1705,.l (.st SI.span))],[],[],1706,[]⟩ (cA (.s (.j ⟨[(8,.o 1770)],[(1770,.l (.st SI.span))],[39,40,41],[1320],1771,[]⟩ (.b (cA (.s (.j ⟨[(59,.v .bool)],[],[8,10,11,39,40,41],[1320,1705,1898],2218,[]⟩ .z) .z)))) .z))))) .z))))
theorem adV:aG 158 (adT n) :=cq (ak (KS n) (ak WA aC)) func158 adU n
def adW:co xx:=⟨[.d (.sl (.sl ay))],[.fresh (.st SI.strip)],λa=>nX n a.1,none⟩
def adX:Hn SI:=(gx (.s (.s .z (.b (.l ⟨[(4,.o 1512),(13,.v af)],[(1512,.l af)],[3,11,12],[1128],1513,[(4,af)]⟩ 0 ⟨[(4,.o 1512)],[(1512,.l af)],[3],[1128],1513,[]⟩ .z))) (gx (.s (.s .z (.b (.l ⟨[(7,.o 1961),(8,.v af)],[(1961,.l (.st SI.strip))],[3,4],[1128,1512],1962,[(7,.st SI.strip)]⟩ 2 ⟨[(7,.o 1961)],[(1961,.l (.st SI.strip))],[],[],1962,[]⟩ .z))) .z))))
theorem QT:aG 126 (adW n) :=cq (ak (Ph n) (ak (vE n) (ak (uW n) (ak (adV n) aC)))) func126 adX n
def Ru:co xx:=⟨[.d (.sl (.st SI.span)),.d (.sl (.st SI.span))],[.d .bool],λa=>u7 n a.1 a.2.1,none⟩
def Rv:Hn SI:=(cA (.s (.s .z (.b (.lx ⟨[(13,.v af)],[],[0,1,12],[],1576,[]⟩ 0 ⟨[],[],[],[],1576,[]⟩ .z))) .z))
theorem Rw:aG 155 (Ru n) :=cq aC func155 Rv n
def agm:co xx:=⟨[.d (.sl (.st SI.strip))],[.fresh ay],λa=>G5 n a.1,none⟩
def agn:Hn SI:=(cA (.s (.s .z (.b (.l ⟨[(3,.o 1192),(4,.v af)],[(1192,.l ay)],[0],[],1193,[(3,ay)]⟩ 0 ⟨[(3,.o 1192)],[(1192,.l ay)],[],[],1193,[]⟩ (.s .z (.b (.s .z (.s (.b (.l ⟨[(5,.v af)],[],[0,3,4],[1192],1641,[]⟩ 2 ⟨[(5,.v af)],[],[0,3,4],[1192],1641,[]⟩ (.s (.s (.j ⟨[(30,.v .bool)],[],[0,3,4,5],[1192],1641,[]⟩ .z) .z) .z))) (.s (.s .z (.b (.l ⟨[(3,.o 2089),(39,.v af)],[(2089,.l ay)],[0,4,5,37,38],[],2090,[]⟩ 4 ⟨[(3,.o 2089)],[(2089,.l ay)],[0,5],[],2090,[]⟩ .z))) .z)))))))) .z))
theorem WB:aG 125 (agm n) :=cq (ak (Rw n) aC) func125 agn n
def abk:co xx:=⟨[.d (.sl ay)],[.d (.sl ay),.d af],λa=>yE a.1,none⟩
theorem Nh:aG 124 abk :=cq aC func124 .z 0
def amn:co xx:=⟨[.d (.sl ay)],[.d (.sl ay),.d af],λa=>Lz n a.1,none⟩
def amo:Hn SI:=(.s .z (.s (.s .z (.b (.lx ⟨[(8,.v af)],[],[0,6,7],[],1320,[]⟩ 0 ⟨[],[],[0],[],1320,[]⟩ .z))) .z))
theorem amq:aG 82 (amn n) :=cq (ak pU (ak (QT n) (ak (WB n) (ak Nh aC)))) func82 amo n
def Rx:co xx:=⟨[.d (.sl ay),.d (.sl ay)],[.d .bool],λa=>nY n a.1 a.2.1,none⟩
def Ry:Hn SI:=(cA (.s (.s .z (.b (.lx ⟨[(13,.v af)],[],[0,1,12],[],1576,[]⟩ 0 ⟨[],[],[],[],1576,[]⟩ .z))) .z))
theorem EU:aG 83 (Rx n) :=cq aC func83 Ry n
def agp:co xx:=⟨[.d (.sl ay)],[.d .bool],λa=>kr n a.1,none⟩
theorem oZ:aG 44 (agp n) :=cq (ak (amq n) (ak (EU n) aC)) func44 .z n
def uw:co xx:=⟨[.d (.sl (.st SI.strip)),.d af,.ea [.st SI.strip,af] af],[.d af,.d .bool],λa=>jm n a.1 a.2.1 a.2.2.1,none⟩
def uy:Hn SI:=(gx (.s (.b (.l ⟨[(9,.v af),(10,.v af)],[],[0,1,2,8],[],1512,[]⟩ 0 ⟨[(9,.v af)],[],[0,1,2,8],[],1512,[]⟩ .z)) .z))
theorem uz:aG 166 (uw n) :=cq aC func166 uy n
def agq:co xx:=⟨[.d (.st SI.strip),.d af],[.d af],λa=>vU a.1 a.2.1,none⟩
theorem agr:aG 167 agq :=cq aC func167 .z 0
def amr:co xx:=⟨[.d (.sl (.st SI.strip)),.d af],[.d (.sl (.st SI.span))],λa=>Vj n a.1 a.2.1,none⟩
def ams:Hn SI:=(cA (.s (.s (.j ⟨[(25,.v .bool)],[],[0,5],[],1576,[]⟩ .z) .z) .z))
theorem amt:aG 132 (amr n) :=cq (ak (uz n) (ak agr aC)) func132 ams n
def WC:co xx:=⟨[.nil,.d af],[.fresh (.st SI.span)],λa=>MB a.1 a.2.1,none⟩
theorem WE:aG 200 WC :=cq aC func200 .z 0
def Pm:co xx:=⟨[.d (.sl (.sl (.st SI.span)))],[.fresh (.st SI.span)],λa=>yF n a.1,none⟩
def Pn:Hn SI:=(cA (.s (.s .z (.b (.l ⟨[(3,.v af),(11,.v af)],[],[0,9,10],[],1320,[]⟩ 0 ⟨[(3,.v af)],[],[0],[],1320,[]⟩ .z))) (.s .z (.s (.s .z (.b (.l ⟨[(6,.o 1704),(27,.v af)],[(1704,.l (.st SI.span))],[25,26],[],1705,[]⟩ 2 ⟨[(6,.o 1704)],[(1704,.l (.st SI.span))],[],[],1705,[]⟩ .z))) .z))))
theorem Po:aG 164 (Pm n) :=cq (ak WE aC) func164 Pn n
def uX:co xx:=⟨[.d (.sl (.st SI.span)),.d af,.ea [.st SI.span,af] af],[.d af,.d .bool],λa=>jF n a.1 a.2.1 a.2.2.1,none⟩
def uY:Hn SI:=(gx (.s (.b (.l ⟨[(9,.v af),(10,.v af)],[],[0,1,2,8],[],1512,[]⟩ 0 ⟨[(9,.v af)],[],[0,1,2,8],[],1512,[]⟩ .z)) .z))
theorem uZ:aG 201 (uX n) :=cq aC func201 uY n
def WG:co xx:=⟨[.d (.st SI.span),.d af],[.d af],λa=>lF a.1 a.2.1,none⟩
theorem WH:aG 202 WG :=cq aC func202 .z 0
def adY:co xx:=⟨[.d (.sl (.st SI.span)),.d af],[.d .bool],λa=>Cj n a.1 a.2.1,none⟩
theorem adZ:aG 165 (adY n) :=cq (ak (uZ n) (ak WH aC)) func165 .z n
def ags:co xx:=⟨[.d (.sl (.st SI.span)),.d (.sl (.st SI.span)),.ea [.bool,.bool] .bool],[.fresh (.st SI.span)],λa=>G6 n a.1 a.2.1 a.2.2.1,none⟩
def agt:Hn SI:=(cA (.s (.s .z (.b (.l ⟨[(7,.o 1512),(19,.v af)],[(1512,.l af)],[0,1,2,17,18],[1320],1513,[(7,af)]⟩ 0 ⟨[(7,.o 1512)],[(1512,.l af)],[0,1,2],[],1513,[]⟩ .z))) (gx (.s (.s .z (.b (.l ⟨[(10,.o 1961),(11,.v af)],[(1961,.l (.st SI.span))],[0,1,2,7],[1512],1962,[(10,.st SI.span)]⟩ 2 ⟨[(10,.o 1961)],[(1961,.l (.st SI.span))],[],[],1962,[]⟩ (.s .z (.s (.j ⟨[(10,.o 2218)],[(2218,.l (.st SI.span))],[0,1,2,7,11],[1512],2219,[]⟩ (.b (gx (.s (.j ⟨[(68,.v .bool)],[],[0,1,2,7,10,11,12,13],[1512,1961],3370,[]⟩ .z) .z)))) .z))))) .z))))
theorem agu:aG 131 (ags n) :=cq (ak (Po n) (ak (vE n) (ak (uW n) (ak (adZ n) aC)))) func131 agt n
def abl:co xx:=⟨[.d (.sl ay),.d (.sl ay),.ea [.bool,.bool] .bool],[.d (.sl ay),.d af],λa=>D6 n a.1 a.2.1 a.2.2.1,none⟩
def abm:Hn SI:=(.s .z (.s (.s (.j ⟨[(20,.v .bool)],[],[0,1,2],[],1128,[]⟩ .z) .z) (.s (.f [6,7]) (.s .z (.s (.s .z (.b (.l ⟨[(33,.v af)],[(1832,.l (.st SI.strip))],[2,8,9,10,31,32],[],2152,[]⟩ 0 ⟨[],[(1832,.l (.st SI.strip))],[10],[],2152,[]⟩ .z))) .z)))))
theorem abn:aG 93 (abl n) :=cq (ak (oZ n) (ak (QT n) (ak (amt n) (ak (agu n) (ak (WB n) (ak Nh aC)))))) func93 abm n
def WI:co xx:=⟨[.d .bool,.d .bool],[.d .bool],λa=>wW a.1 a.2.1,none⟩
theorem WJ:aG 94 WI :=cq aC func94 .z 0
def ad1:co xx:=⟨[.d (.sl ay),.d (.sl ay)],[.d (.sl ay),.d af],λa=>xR n a.1 a.2.1,none⟩
theorem ad2:aG 51 (ad1 n) :=cq (ak (abn n) (ak WJ aC)) func51 .z n
def ak4:co xx:=⟨[.d ay],[.d af],λa=>oh a.1,none⟩
theorem Ie:aG 53 ak4 :=cq (ak QS aC) func53 .z 0
def aiY:co xx:=⟨[.d (.sl ay)],[.d af],λa=>MF n a.1,none⟩
def aiZ:Hn SI:=(gx (.s (.s .z (.b (.l ⟨[(3,.v af),(11,.v af)],[],[9,10],[],1512,[]⟩ 0 ⟨[(3,.v af)],[],[],[],1512,[]⟩ .z))) .z))
theorem ZG:aG 52 (aiY n) :=cq (ak (oZ n) (ak Ie aC)) func52 aiZ n
def KT:co xx:=⟨[.d aX,.ref dQ],[.d .bool],λa=>pE a.1 a.2.1,none⟩
theorem KU:aG 55 KT :=cq aC func55 .z 0
def KV:co xx:=⟨[.d (.sl aX),.ea [aX] .bool],[.d af],λa=>pF n a.1 a.2.1,none⟩
def KW:Hn SI:=(.s .z (.s (.s .z (.b (.lx ⟨[(8,.v af)],[],[0,1,7],[],1256,[]⟩ 0 ⟨[],[],[],[],1256,[]⟩ .z))) .z))
theorem KX:aG 96 (KV n) :=cq aC func96 KW n
def Fw:co xx:=⟨[.d (.sl aX),.ea [aX] .bool],[.d .bool],λa=>gu n a.1 a.2.1,none⟩
theorem Fx:aG 54 (Fw n) :=cq (ak (KX n) aC) func54 .z n
def Rz:co xx:=⟨[.d (.st SI.k7),.d gQ,.d fu],[.d .bool],λa=>iq n a.1 a.2.1 a.2.2.1,none⟩
def RA:Hn SI:=(.s .z (.s (.s (.j ⟨[(30,.v .bool)],[],[3,4,5],[1000,1064,1128],1256,[]⟩ .z) .z) (.s (.s .z (.b (.lx ⟨[(34,.v af)],[],[3,4,5,32,33],[1000,1064,1128,1320],1512,[]⟩ 0 ⟨[],[],[3,5],[1000,1128],1512,[]⟩ (cA (.s (.b (cA (.s (.j ⟨[(58,.v .bool)],[],[3,4,5,32,33,34],[1000,1064,1128,1320],2600,[]⟩ .z) .z))) .z))))) (.s (.s .z (.b (.lx ⟨[(63,.v af)],[],[3,61,62],[1000],1768,[]⟩ 2 ⟨[],[],[],[],1768,[]⟩ (cA (.s (.b (cA (.b (.lx ⟨[(70,.v af)],[],[3,61,62,63,68,69],[1000],2344,[]⟩ 4 ⟨[],[],[3,61,62,63],[1000],2344,[]⟩ .z)))) .z))))) .z))))
theorem RB:aG 29 (Rz n) :=cq (ak (Ww n) (ak (oZ n) (ak (J7 n) (ak (ad2 n) (ak (ZG n) (ak Ie (ak (Fx n) (ak KU aC)))))))) func29 RA n
def Pp:co xx:=⟨[.d fu],[.fresh aD],λa=>sG n a.1,none⟩
def Pq:Hn SI:=(cA (.s (.s .z (.b (.l ⟨[(3,.o 1448),(9,.v af)],[(1448,.l aD)],[7,8],[],1449,[(3,aD)]⟩ 0 ⟨[(3,.o 1448)],[(1448,.l aD)],[],[],1449,[]⟩ .z))) .z))
theorem Ps:aG 30 (Pp n) :=cq aC func30 Pq n
def Pv:co xx:=⟨[.d (.sl (.st SI.eK))],[.fresh (.st SI.side)],λa=>oP n a.1,none⟩
def Pw:Hn SI:=(cA (.s (.s .z (.b (.l ⟨[(10,.v af)],[(1192,.l (.st SI.side))],[0,3,9],[],1512,[]⟩ 0 ⟨[],[(1192,.l (.st SI.side))],[3],[],1512,[]⟩ .z))) .z))
theorem CJ:aG 169 (Pv n) :=cq aC func169 Pw n
def Px:co xx:=⟨[.d (.st SI.eK)],[.d .bool],λa=>sH a.1,none⟩
theorem Py:aG 203 Px :=cq aC func203 .z 0
def ED:co xx:=⟨[.d (.st SI.side)],[.d .bool],λa=>gT a.1,none⟩
theorem uh:aG 170 ED :=cq aC func170 .z 0
def abo:co xx:=⟨[.d (.sl af)],[.d af],λa=>uS n a.1,none⟩
def abp:Hn SI:=(cA (.s (.s .z (.b (.lx ⟨[(8,.v af)],[],[3,6,7],[],1320,[]⟩ 0 ⟨[],[],[3],[],1320,[]⟩ .z))) .z))
theorem Ni:aG 133 (abo n) :=cq aC func133 abp n
def Nj:co xx:=⟨[.d (.st SI.eK),.d (.st SI.eK)],[.d af],λa=>qD n a.1 a.2.1,none⟩
theorem Nk:aG 204 (Nj n) :=cq (ak oH (ak (Ni n) aC)) func204 .z n
def EF:co xx:=⟨[.d (.st SI.side),.d (.st SI.side)],[.d .bool],λa=>lG a.1 a.2.1,none⟩
theorem EG:aG 205 EF :=cq aC func205 .z 0
def RD:co xx:=⟨[.d (.sl (.st SI.eK))],[.d .bool],λa=>ve n a.1,none⟩
def RF:Hn SI:=(.s .z (.s (.s (.j ⟨[(16,.v .bool)],[],[0],[],1064,[]⟩ .z) .z) (.s .z (.s (.s .z (.b (.lx ⟨[(21,.v af)],[],[0,3,19,20],[1128],1448,[]⟩ 0 ⟨[],[],[3],[1128],1448,[]⟩ (cA (.s (.b (cA (.s (.s (.j ⟨[(61,.v .bool)],[],[0,3,4,19,20,21],[1128],2536,[]⟩ .z) .z) (.s (.j ⟨[(74,.v .bool)],[],[0,3,19,20,21],[1128],2536,[]⟩ .z) .z)))) .z))))) (.s (.s .z (.b (.lx ⟨[(78,.v af)],[],[3,77],[1128],1640,[]⟩ 2 ⟨[],[],[3],[1128],1640,[]⟩ (cA (.s (.b (cA (.b (.lx ⟨[(8,.v af)],[],[3,7,77,78],[1128],2024,[]⟩ 4 ⟨[],[],[3,77,78],[1128],2024,[]⟩ (.s .z (.s (.b (.s (.j ⟨[(106,.v .bool)],[],[3,7,8,77,78],[1128],2280,[]⟩ .z) .z)) .z)))))) .z))))) .z)))))
theorem RG:aG 168 (RD n) :=cq (ak (CJ n) (ak Py (ak uh (ak (Nk n) (ak EG aC))))) func168 RF n
def Pz:co xx:=⟨[.d (.sl (.st SI.eK))],[.fresh ay,.d af],λa=>sI n a.1,none⟩
def PD:Hn SI:=(gx (.s (.s .z (.b (.l ⟨[(4,.o 1576),(19,.v af)],[(1576,.l af)],[0,17,18],[],1577,[(4,af)]⟩ 0 ⟨[(4,.o 1576)],[(1576,.l af)],[0],[],1577,[]⟩ .z))) (tG (.s (.s .z (.b (.l ⟨[(8,.o 2409),(38,.v af)],[(2409,.l ay)],[4,7,37],[1576,1961],2410,[(8,ay)]⟩ 2 ⟨[(8,.o 2409)],[(2409,.l ay)],[],[],2410,[]⟩ (cA (.s (.b (cA (.s (.s .z (.b (.l ⟨[(10,.o 2858),(43,.v af)],[(2858,.l af)],[4,7,8,9,37,38,41,42],[1576,1961,2409],2859,[(10,af)]⟩ 4 ⟨[(10,.o 2858)],[(2858,.l af)],[4,7,8,9,37,38],[1576,1961,2409],2859,[]⟩ (cA (.s (.j ⟨[(10,.o 2923)],[(2923,.l af)],[4,7,8,9,37,38,41,42,43],[1576,1961,2409],2924,[]⟩ (.b (.s .z (.s (.j ⟨[(77,.v .bool)],[],[4,7,8,9,10,12,37,38,41,42,43],[1576,1961,2409,2858,3051],3179,[]⟩ .z) .z)))) .z))))) (cA (.b (.l ⟨[(8,.o 3051),(13,.v af)],[(3051,.l ay)],[4,7,9,10,37,38],[1576,1961,2858],3052,[]⟩ 6 ⟨[(8,.o 3051)],[(3051,.l ay)],[4,7,37,38],[1576,1961],3052,[]⟩ .z)))))) .z))))) .z))))
theorem PE:aG 134 (Pz n) :=cq (ak (RG n) (ak (vE n) (ak (uW n) (ak (CJ n) (ak uh aC))))) func134 PD n
def WK:co xx:=⟨[.d aT],[.fresh ay],λa=>wX n a.1,none⟩
theorem WL:aG 98 (WK n) :=cq (ak (PE n) aC) func98 .z n
def RH:co xx:=⟨[.d (.sl ay),.d (.sl ay)],[.d af,.d (.st SI.eK)],λa=>vg n a.1 a.2.1,none⟩
def RI:Hn SI:=(cA (.s (.s .z (.b (.l ⟨[(6,.v af),(18,.v af)],[(1192,tE)],[1,5,7,16,17],[1064],1576,[]⟩ 0 ⟨[(6,.v af)],[(1192,tE)],[5,7],[1064],1576,[]⟩ (cA (.s (.b (cA (.b (.l ⟨[(6,.v af),(24,.v af)],[(1192,tE)],[1,5,7,9,16,17,18,22,23],[1064,1768],2088,[]⟩ 2 ⟨[(6,.v af)],[(1192,tE)],[1,5,7,16,17,18],[1064],2088,[]⟩ (cA (.s (.j ⟨[(6,.v af)],[(1192,tE)],[1,5,7,9,16,17,18,22,23,24],[1064,1768],2152,[]⟩ .z) .z)))))) .z))))) .z))
theorem RJ:aG 97 (RH n) :=cq (ak AY (ak Ie (ak oH (ak (Ni n) aC)))) func97 RI n
def RL:co xx:=⟨[.d (.st SI.k7),.d (.sl ay)],[.fresh af],λa=>vk n a.1 a.2.1,none⟩
def RN:Hn SI:=(gx (.s (.s .z (.b (.l ⟨[(5,.o 1640),(16,.v af)],[(1640,.l af)],[1,14,15],[],1641,[(5,af)]⟩ 0 ⟨[(5,.o 1640)],[(1640,.l af)],[],[],1641,[]⟩ .z))) .z))
theorem RO:aG 56 (RL n) :=cq (ak (oZ n) (ak (WL n) (ak (RJ n) aC))) func56 RN n
def ad3:co xx:=⟨[.d (.st SI.k7),.d (.sl ay)],[.fresh .str],λa=>Ck n a.1 a.2.1,none⟩
def ad4:Hn SI:=(gx (.s (.s .z (.b (.l ⟨[(6,.v af),(17,.v af)],[],[2,5,15,16],[1000,1256],1640,[]⟩ 0 ⟨[(6,.v af)],[],[2,5],[1000,1256],1640,[]⟩ (cA (.s (.j ⟨[(6,.v af)],[],[2,5,15,16,17],[1000,1256],1704,[]⟩ (.b (.s .z (.s (.j ⟨[(44,.v .bool)],[],[2,5,6,7,15,16,17],[1000,1256],2024,[]⟩ .z) .z)))) .z))))) (.s .z (.s (.s .z (.b (.l ⟨[(9,.o 1896),(49,.v af)],[(1896,.l .str)],[2,6,47,48],[1000,1256],1897,[(9,.str)]⟩ 2 ⟨[(9,.o 1896)],[(1896,.l .str)],[],[],1897,[]⟩ (cA (.s (.j ⟨[(9,.o 1961)],[(1961,.l .str)],[2,6,47,48,49],[1000,1256],1962,[]⟩ (.b (.s .z (.s (.j ⟨[(68,.v .bool)],[],[2,6,9,10,47,48,49],[1000,1256,1896],2281,[]⟩ .z) .z)))) .z))))) .z))))
theorem ad5:aG 31 (ad3 n) :=cq (ak (RO n) aC) func31 ad4 n
def X5:co xx:=⟨[.d (.st SI.jn),.d fu],[.d (.st SI.j9),.d af],λa=>vX n a.1 a.2.1,none⟩
theorem J8:aG 17 (X5 n) :=cq (ak (aiW n) (ak (RB n) (ak (Ps n) (ak (ad5 n) aC)))) func17 .z n
def Nl:co xx:=⟨[.d (.sl .str),.d .str],[.d af],λa=>qE n a.1 a.2.1,none⟩
def Nn:Hn SI:=(.s .z (.s (.s .z (.b (.lx ⟨[(8,.v af)],[],[0,1,7],[],1256,[]⟩ 0 ⟨[],[],[],[],1256,[]⟩ .z))) .z))
theorem Np:aG 32 (Nl n) :=cq aC func32 Nn n
def Ig:co xx:=⟨[.d (.sl .str),.d .str],[.d .bool],λa=>fJ n a.1 a.2.1,none⟩
theorem o6:aG 19 (Ig n) :=cq (ak (Np n) aC) func19 .z n
def KY:co xx:=⟨[.d .str,.ref (.sl .str)],[.d .bool],λa=>j5 n a.1 a.2.1,none⟩
theorem KZ:aG 57 (KY n) :=cq (ak (o6 n) aC) func57 .z n
def Fy:co xx:=⟨[.d (.sl .str),.ea [.str] .bool],[.d af],λa=>p8 n a.1 a.2.1,none⟩
def Fz:Hn SI:=(.s .z (.s (.s .z (.b (.lx ⟨[(8,.v af)],[],[0,1,7],[],1256,[]⟩ 0 ⟨[],[],[],[],1256,[]⟩ .z))) .z))
theorem FB:aG 99 (Fy n) :=cq aC func99 Fz n
def A7:co xx:=⟨[.d (.sl .str),.ea [.str] .bool],[.d .bool],λa=>fU n a.1 a.2.1,none⟩
theorem A8:aG 58 (A7 n) :=cq (ak (FB n) aC) func58 .z n
def RP:co xx:=⟨[.d aO,.d (.sl .str)],[.d .bool],λa=>qj n a.1 a.2.1,none⟩
theorem RQ:aG 33 (RP n) :=cq (ak (A8 n) (ak (KZ n) aC)) func33 .z n
def WM:co xx:=⟨[.d (.st SI.k7),.d (.sl .str),.d af],[.fresh af],λa=>sJ n a.1 a.2.1 a.2.2.1,none⟩
def WN:Hn SI:=(cA (.s (.s .z (.b (.l ⟨[(7,.o 1448),(13,.v af)],[(1448,.l af)],[1,2,11,12],[],1449,[(7,af)]⟩ 0 ⟨[(7,.o 1448)],[(1448,.l af)],[],[],1449,[]⟩ (cA (.s (.j ⟨[(7,.o 1513)],[(1513,.l af)],[1,2,11,12,13],[],1514,[]⟩ (.b (.s .z (.s (.j ⟨[(37,.v .bool)],[],[1,2,7,8,11,12,13],[1448],1897,[]⟩ .z) .z)))) .z))))) .z))
theorem WO:aG 20 (WM n) :=cq (ak (RQ n) aC) func20 WN n
def K3:co xx:=⟨[.mut ay,.ea [ay,ay] af],[.mu ay],λa=>uT n a.1 a.2.1,none⟩
theorem K4:aG 105 (K3 n):=by have hcall:fA Tryz.prog 105:=⟨_,func105,by kernel_rfl,by kernel_rfl⟩;refine xp hcall (λ a r h=>?_) rfl;obtain⟨l,φ,⟨⟩⟩:=a;refine Zb (X:=xx) (i:=SI.lE) (hI:=(inferInstance:Inhabited au)) Tryz.so105 rfl hcall Tryz.underlying57 (by kernel_rfl) (λ x t ht=>?_) h;cases x;have ht:t∈[_,_,_,_]:=ht;simp only[aP,mY,or_false]at ht;rcases ht with rfl|rfl|rfl|rfl<;>exact⟨_,rfl,trivial⟩
def CK:co xx:=⟨[.d ay,.d ay],[.d af],λa=>iU a.1 a.2.1,none⟩
theorem CO:aG 106 CK :=cq (ak oH aC) func106 .z 0
def Nq:co xx:=⟨[.d aD],[.d af],λa=>iK a.1,none⟩
def Ns:Hn SI:=(.s .z (.s (.s (.j ⟨[(9,.v .bool)],[],[1],[1000],1128,[]⟩ .z) .z) .z))
theorem Ai:aG 112 Nq :=cq (ak kR aC) func112 Ns 0
def RS:co xx:=⟨[.d aD],[.d af],λa=>l5 a.1,none⟩
theorem EW:aG 110 RS :=cq (ak kR (ak Ie (ak Ai aC))) func110 .z 0
def A9:co xx:=⟨[.d aD],[.d af],λa=>nE a.1,none⟩
theorem Ba:aG 113 A9 :=cq aC func113 .z 0
def CP:co xx:=⟨[.d aD],[.d af],λa=>om a.1,none⟩
theorem CQ:aG 114 CP :=cq aC func114 .z 0
def RU:co xx:=⟨[.d ay,.d af],[.d ay,.d .bool],λa=>AO a.1 a.2.1,none⟩
theorem RX:aG 149 RU :=cq (ak pU aC) func149 .z 0
def PG:co xx:=⟨[.d dQ,.ref (.st SI.mm),.ref af],[.d .bool],λa=>ku a.1 a.2.1 a.2.2.1,none⟩
theorem PI:aG 195 PG :=cq aC func195 .z 0
def Ih:co xx:=⟨[.d (.sl dQ),.ea [dQ] .bool],[.d af],λa=>kz n a.1 a.2.1,none⟩
def Ii:Hn SI:=(.s .z (.s (.s .z (.b (.lx ⟨[(8,.v af)],[],[0,1,7],[],1256,[]⟩ 0 ⟨[],[],[],[],1256,[]⟩ .z))) .z))
theorem wE:aG 142 (Ih n) :=cq aC func142 Ii n
def X6:co xx:=⟨[.d (.st SI.k7),.d af],[.d af],λa=>zO n a.1 a.2.1,none⟩
def X7:Hn SI:=(cA (.s (.s .z (.b (.lx ⟨[(14,.v af)],[],[3,5,12,13],[1064,1256],1640,[]⟩ 0 ⟨[],[],[],[],1640,[]⟩ (cA (.s (.b (gx (.s (.j ⟨[(8,.v af)],[],[],[],2344,[]⟩ .z) .z))) .z))))) .z))
theorem X8:aG 150 (X6 n) :=cq (ak (wE n) (ak PI aC)) func150 X7 n
def Nt:co xx:=⟨[.d (.st SI.k7),.d aD],[.d af],λa=>iL n a.1 a.2.1,none⟩
def Nu:Hn SI:=(cA (.s (.s (.j ⟨[(20,.v .bool)],[],[5,6],[],1704,[]⟩ .z) .z) .z))
theorem Nv:aG 117 (Nt n) :=cq (ak (X8 n) (ak EW aC)) func117 Nu n
def FC:cW xx:=⟨[.p 0],[(0,fc),(1,.l aD)],[.v af],[(0,fc),(1,.l aD)],λv=>mI n v.1 v.2.1 v.2.2.1 v.2.2.2.1 v.2.2.2.2.1 v.2.2.2.2.2.1 v.2.2.2.2.2.2.1 v.2.2.2.2.2.2.2.1 v.2.2.2.2.2.2.2.2.1 v.2.2.2.2.2.2.2.2.2⟩
def FD:co xx:=⟨[],[.d .bool],λ_=>none,some (FC n)⟩
theorem FE:aG 64 (FD n) :=nq (ak (ZG n) aC) func64 .z n (by kernel_rfl) λ_=>by kernel_rfl
def CR:cW xx:=⟨[.p 0],[(0,fc),(1,.l aD)],[.v af],[(0,fc),(1,.l aD)],λv=>iV n v.1 v.2.1 v.2.2.1 v.2.2.2.1 v.2.2.2.2.1 v.2.2.2.2.2.1 v.2.2.2.2.2.2.1 v.2.2.2.2.2.2.2.1 v.2.2.2.2.2.2.2.2.1 v.2.2.2.2.2.2.2.2.2⟩
def CU:co xx:=⟨[],[.d .bool],λ_=>none,some (CR n)⟩
def CV:Hn SI:=(gx (.s (.s .z (.b (.l ⟨[(3,.o 1960),(23,.v af)],[(1448,.l ay),(1960,.l af)],[4,21,22],[0,1],1961,[(3,af)]⟩ 0 ⟨[(3,.o 1960)],[(1448,.l ay),(1960,.l af)],[4],[0,1],1961,[]⟩ .z))) (gx (.s (.s .z (.b (.l ⟨[(7,.v af),(56,.v af)],[],[3,4,55],[0,1,1448,1960],2601,[]⟩ 2 ⟨[(7,.v af)],[],[],[0,1],2601,[]⟩ (cA (.s (.b (gx (.b (.l ⟨[(7,.v af),(9,.v af),(61,.v af)],[],[3,4,8,55,56,59,60],[0,1,1448,1960],3049,[]⟩ 4 ⟨[(7,.v af)],[],[3,4,55,56],[0,1,1448,1960],3049,[]⟩ (cA (.s (.j ⟨[(7,.v af),(9,.v af)],[],[3,4,8,55,56,59,60,61],[0,1,1448,1960],3113,[]⟩ (.b (.s .z (.s (.j ⟨[(86,.v .bool)],[],[3,4,7,8,9,11,55,56,59,60,61],[0,1,1448,1960,3241],3369,[]⟩ .z) .z)))) .z)))))) .z))))) .z))))
theorem CW:aG 65 (CU n) :=nq (ak (K4 n) (ak CO (ak (vE n) aC))) func65 CV n (by kernel_rfl) λ_=>by kernel_rfl
def FH:cW xx:=⟨[.p 0,(.f 110 [] [])],[(0,fc),(1,.l aD)],[.v af],[(0,fc),(1,.l aD)],λv=>p9 n v.1 v.2.1 v.2.2.1 v.2.2.2.1 v.2.2.2.2.1 v.2.2.2.2.2.1 v.2.2.2.2.2.2.1 v.2.2.2.2.2.2.2.1 v.2.2.2.2.2.2.2.2.1 v.2.2.2.2.2.2.2.2.2⟩
def FI:co xx:=⟨[],[.d .bool],λ_=>none,some (FH n)⟩
def FJ:Hn SI:=(cA (.s (.s .z (.b (.l ⟨[(5,.v af),(13,.v af)],[],[1,11,12],[0,1],1512,[]⟩ 0 ⟨[(5,.v af)],[],[],[0,1],1512,[]⟩ .z))) .z))
theorem FK:aG 109 (FI n) :=nq (ak EW aC) func109 FJ n (by kernel_rfl) λ_=>by kernel_rfl
def CX:cW xx:=⟨[.p 0],[(0,fc),(1,.l aD)],[.v af],[(0,fc),(1,.l aD)],λv=>kL n v.1 v.2.1 v.2.2.1 v.2.2.2.1 v.2.2.2.2.1 v.2.2.2.2.2.1 v.2.2.2.2.2.2.1 v.2.2.2.2.2.2.2.1 v.2.2.2.2.2.2.2.2.1 v.2.2.2.2.2.2.2.2.2⟩
def CY:co xx:=⟨[],[.d .bool],λ_=>none,some (CX n)⟩
theorem CZ:aG 66 (CY n) :=nq (ak (FK n) aC) func66 .z n (by kernel_rfl) λ_=>by kernel_rfl
def yP:cW xx:=⟨[.p 0,(.f 112 [] [])],[(0,fc),(1,.l aD)],[.v af],[(0,fc),(1,.l aD)],λv=>l6 n v.1 v.2.1 v.2.2.1 v.2.2.2.1 v.2.2.2.2.1 v.2.2.2.2.2.1 v.2.2.2.2.2.2.1 v.2.2.2.2.2.2.2.1 v.2.2.2.2.2.2.2.2.1 v.2.2.2.2.2.2.2.2.2⟩
def yQ:co xx:=⟨[],[.d .bool],λ_=>none,some (yP n)⟩
def yR:Hn SI:=(cA (.s (.s .z (.b (.l ⟨[(5,.v af),(13,.v af)],[],[1,11,12],[0,1],1512,[]⟩ 0 ⟨[(5,.v af)],[],[],[0,1],1512,[]⟩ .z))) .z))
theorem yS:aG 111 (yQ n) :=nq (ak Ai aC) func111 yR n (by kernel_rfl) λ_=>by kernel_rfl
def Bb:cW xx:=⟨[.p 0],[(0,fc),(1,.l aD)],[.v af],[(0,fc),(1,.l aD)],λv=>jM n v.1 v.2.1 v.2.2.1 v.2.2.2.1 v.2.2.2.2.1 v.2.2.2.2.2.1 v.2.2.2.2.2.2.1 v.2.2.2.2.2.2.2.1 v.2.2.2.2.2.2.2.2.1 v.2.2.2.2.2.2.2.2.2⟩
def Bc:co xx:=⟨[],[.d .bool],λ_=>none,some (Bb n)⟩
theorem Bd:aG 67 (Bc n) :=nq (ak (yS n) aC) func67 .z n (by kernel_rfl) λ_=>by kernel_rfl
def yT:cW xx:=⟨[.p 0,(.f 113 [] [])],[(0,fc),(1,.l aD)],[.v af],[(0,fc),(1,.l aD)],λv=>l7 n v.1 v.2.1 v.2.2.1 v.2.2.2.1 v.2.2.2.2.1 v.2.2.2.2.2.1 v.2.2.2.2.2.2.1 v.2.2.2.2.2.2.2.1 v.2.2.2.2.2.2.2.2.1 v.2.2.2.2.2.2.2.2.2⟩
def yU:co xx:=⟨[],[.d .bool],λ_=>none,some (yT n)⟩
def yV:Hn SI:=(cA (.s (.s .z (.b (.l ⟨[(5,.v af),(13,.v af)],[],[1,11,12],[0,1],1512,[]⟩ 0 ⟨[(5,.v af)],[],[],[0,1],1512,[]⟩ .z))) .z))
theorem yX:aG 111 (yU n) :=nq (ak Ba aC) func111 yV n (by kernel_rfl) λ_=>by kernel_rfl
def Be:cW xx:=⟨[.p 0],[(0,fc),(1,.l aD)],[.v af],[(0,fc),(1,.l aD)],λv=>jN n v.1 v.2.1 v.2.2.1 v.2.2.2.1 v.2.2.2.2.1 v.2.2.2.2.2.1 v.2.2.2.2.2.2.1 v.2.2.2.2.2.2.2.1 v.2.2.2.2.2.2.2.2.1 v.2.2.2.2.2.2.2.2.2⟩
def Bf:co xx:=⟨[],[.d .bool],λ_=>none,some (Be n)⟩
theorem Bg:aG 68 (Bf n) :=nq (ak (yX n) aC) func68 .z n (by kernel_rfl) λ_=>by kernel_rfl
def FL:cW xx:=⟨[.p 0,(.f 114 [] [])],[(0,fc),(1,.l aD)],[.v af],[(0,fc),(1,.l aD)],λv=>qa n v.1 v.2.1 v.2.2.1 v.2.2.2.1 v.2.2.2.2.1 v.2.2.2.2.2.1 v.2.2.2.2.2.2.1 v.2.2.2.2.2.2.2.1 v.2.2.2.2.2.2.2.2.1 v.2.2.2.2.2.2.2.2.2⟩
def FM:co xx:=⟨[],[.d .bool],λ_=>none,some (FL n)⟩
def FN:Hn SI:=(cA (.s (.s .z (.b (.l ⟨[(5,.v af),(13,.v af)],[],[1,11,12],[0,1],1512,[]⟩ 0 ⟨[(5,.v af)],[],[],[0,1],1512,[]⟩ .z))) .z))
theorem FO:aG 109 (FM n) :=nq (ak CQ aC) func109 FN n (by kernel_rfl) λ_=>by kernel_rfl
def C8:cW xx:=⟨[.p 0],[(0,fc),(1,.l aD)],[.v af],[(0,fc),(1,.l aD)],λv=>kM n v.1 v.2.1 v.2.2.1 v.2.2.2.1 v.2.2.2.2.1 v.2.2.2.2.2.1 v.2.2.2.2.2.2.1 v.2.2.2.2.2.2.2.1 v.2.2.2.2.2.2.2.2.1 v.2.2.2.2.2.2.2.2.2⟩
def C9:co xx:=⟨[],[.d .bool],λ_=>none,some (C8 n)⟩
theorem Da:aG 69 (C9 n) :=nq (ak (FO n) aC) func69 .z n (by kernel_rfl) λ_=>by kernel_rfl
def Bh:cW xx:=⟨[.p 0,.v ay,.v af],[(0,fc),(1,.l aD)],[.v .bool],[(0,fc),(1,.l aD)],λv=>jP n v.1 v.2.1 v.2.2.1 v.2.2.2.1 v.2.2.2.2.1 v.2.2.2.2.2.1 v.2.2.2.2.2.2.1 v.2.2.2.2.2.2.2.1 v.2.2.2.2.2.2.2.2.1 v.2.2.2.2.2.2.2.2.2.1 v.2.2.2.2.2.2.2.2.2.2.1 v.2.2.2.2.2.2.2.2.2.2.2⟩
def Bj:co xx:=⟨[],[.d .bool],λ_=>none,some (Bh n)⟩
def Bl:Hn SI:=(tG (.s (.s .z (.b (.l ⟨[(9,.v af),(27,.v af)],[],[7,25,26],[0,1,1512],2280,[]⟩ 0 ⟨[(9,.v af)],[],[7],[0,1,1512],2280,[]⟩ (cA (.s (.j ⟨[(9,.v af)],[],[7,25,26,27],[0,1,1512],2344,[]⟩ .z) .z))))) .z))
theorem Bn:aG 115 (Bj n) :=nq (ak RX (ak AY (ak Ie aC))) func115 Bl n (by kernel_rfl) λ_=>by kernel_rfl
def zk:cW xx:=⟨[.p 0],[(0,fc),(1,.l aD)],[.v af],[(0,fc),(1,.l aD)],λv=>jA n v.1 v.2.1 v.2.2.1 v.2.2.2.1 v.2.2.2.2.1 v.2.2.2.2.2.1 v.2.2.2.2.2.2.1 v.2.2.2.2.2.2.2.1 v.2.2.2.2.2.2.2.2.1 v.2.2.2.2.2.2.2.2.2⟩
def zl:co xx:=⟨[],[.d .bool],λ_=>none,some (zk n)⟩
def zm:Hn SI:=(cA (.s (.s .z (.b (.l ⟨[(3,.v af),(14,.v af)],[(0,fc),(1,.l aD)],[0,12,13],[],1512,[]⟩ 0 ⟨[(3,.v af)],[(0,fc),(1,.l aD)],[],[],1512,[]⟩ (cA (.s (.b (cA (.s (.b (.l ⟨[(6,.v af),(7,.v af)],[(0,fc),(1,.l aD)],[0,5,12,13,14],[1704],2024,[]⟩ 2 ⟨[(6,.v af)],[(0,fc),(1,.l aD)],[0,12,13,14],[],2024,[]⟩ .z)) .z))) .z))))) .z))
theorem zn:aG 70 (zl n) :=nq (ak (Bn n) aC) func70 zm n (by kernel_rfl) λ_=>by kernel_rfl
def wJ:cW xx:=⟨[.v aD,.p 0],[(0,.c 1 [[.p 1]]),(1,tg),(2,.l aD)],[.v af],[(0,.c 1 [[.p 1]]),(1,tg),(2,.l aD)],λv=>kD n v.1 v.2.1 v.2.2.1 v.2.2.2.1 v.2.2.2.2.1 v.2.2.2.2.2.1 v.2.2.2.2.2.2.1 v.2.2.2.2.2.2.2.1 v.2.2.2.2.2.2.2.2.1 v.2.2.2.2.2.2.2.2.2.1 v.2.2.2.2.2.2.2.2.2.2⟩
def wK:co xx:=⟨[],[.d .bool],λ_=>none,some (wJ n)⟩
theorem wL:aG 116 (wK n) :=nq (ak (Nv n) aC) func116 .z n (by kernel_rfl) λ_=>by kernel_rfl
def FP:cW xx:=⟨[.p 0,(.f 116 [] [.p 1])],[(0,tg),(1,.c 1 [[.p 0]]),(2,.l aD)],[.v af],[(0,tg),(1,.c 1 [[.p 0]]),(2,.l aD)],λv=>qb n v.1 v.2.1 v.2.2.1 v.2.2.2.1 v.2.2.2.2.1 v.2.2.2.2.2.1 v.2.2.2.2.2.2.1 v.2.2.2.2.2.2.2.1 v.2.2.2.2.2.2.2.2.1 v.2.2.2.2.2.2.2.2.2⟩
def FQ:co xx:=⟨[],[.d .bool],λ_=>none,some (FP n)⟩
def FR:Hn SI:=(cA (.s (.s .z (.b (.l ⟨[(5,.v af),(13,.v af)],[(0,tg),(1,.c 1 [[.p 0]]),(2,.l aD)],[1,11,12],[],1512,[]⟩ 0 ⟨[(5,.v af)],[(0,tg),(1,.c 1 [[.p 0]]),(2,.l aD)],[],[],1512,[]⟩ .z))) .z))
theorem FT:aG 109 (FQ n) :=nq (ak (wL n) aC) func109 FR n (by kernel_rfl) λ_=>by kernel_rfl
def zo:cW xx:=⟨[.p 0],[(0,fc),(1,.l aD)],[.v af],[(0,fc),(1,.l aD)],λv=>jB n v.1 v.2.1 v.2.2.1 v.2.2.2.1 v.2.2.2.2.1 v.2.2.2.2.2.1 v.2.2.2.2.2.2.1 v.2.2.2.2.2.2.2.1 v.2.2.2.2.2.2.2.2.1 v.2.2.2.2.2.2.2.2.2⟩
def zq:co xx:=⟨[],[.d .bool],λ_=>none,some (zo n)⟩
theorem zu:aG 71 (zq n) :=nq (ak (FT n) aC) func71 .z n (by kernel_rfl) λ_=>by kernel_rfl
def abq:co xx:=⟨[.d (.st SI.k7),.d gQ,.d fu],[.fresh dQ],λa=>kE n a.1 a.2.1 a.2.2.1,none⟩
def abr:Hn SI:=(cA (.s (.j ⟨[],[(1384,.c 10 [[.v (.sl aU),.v (.sl aM),.v (.sl aT),.v (.sl aO),.v (.sl aX),.v (.sl aW),.v (.sl aK),.v af,.v (.sl ay),.nil]])],[5,7],[1128],1512,[]⟩ .z) (.s (.s .z (.b (.l ⟨[(31,.v af)],[(1384,Fm),(1960,.l aD)],[7,29,30],[1768],1961,[(6668873,aD)]⟩ 0 ⟨[],[(1384,Fm),(1960,.l aD)],[7],[],1961,[]⟩ (cA (.s (.j ⟨[],[(1384,.c 10 [[.v (.sl aU),.v (.sl aM),.v (.sl aT),.v (.sl aO),.v (.sl aX),.v (.sl aW),.v (.sl aK),.v af,.v (.sl ay),.o 2025]]),(2025,.l aD)],[7,29,30,31],[1768],2026,[]⟩ (.b (.s .z (.s (.j ⟨[(41,.v .bool)],[],[7,9,29,30,31],[1384,1768,1960,2217],2409,[]⟩ .z) .z)))) .z))))) (cA (.s (.s .z (.b (.un .z (.un .z (.un .z (.un .z (.un .z (.un .z (.un .z (.un .z (.un .z (.un .z .z)))))))))))) .z)))))
theorem abt:aG 35 (abq n) :=cq (ak (oZ n) (ak (Ah n) (ak kR (ak (FE n) (ak (CW n) (ak (CZ n) (ak (Bd n) (ak (Bg n) (ak (Da n) (ak (zn n) (ak (zu n) aC))))))))))) func35 abr n
def agv:co xx:=⟨[.d af],[.d af,.d .bool],λa=>yG a.1,none⟩
def agx:Hn SI:=(.s .z (.s (.s .z (.b (.s (.j ⟨[(5,.v .bool)],[],[0,4],[],1192,[]⟩ .z) (.s .z (.s (.j ⟨[(10,.v .bool)],[],[0,4],[],1192,[]⟩ .z) .z))))) .z))
theorem agy:aG 135 agv :=cq aC func135 agx 0
def ad6:Hn SI:=(cA (.s (.s (.j ⟨[(28,.v .bool)],[],[1,2],[1000],1640,[]⟩ .z) .z) (.s .z (.s (.s .z (.b (.l ⟨[(7,.v af),(32,.v af)],[],[1,30,31],[],1960,[]⟩ 0 ⟨[(7,.v af)],[],[],[],1960,[]⟩ .z))) .z))))
theorem abu(rc:(bD)->(Int)->Option Int)(hr:aG 100 (D9 rc)):aG 100 (D9 (zP n rc)) :=cq (ak agy (ak hr aC)) func100 ad6 n
theorem Nw(n:Nat):∀m,aG 100 (D9 (rq n m))
 | 0=>xp (vN func100 (by kernel_rfl:Tryz.f100.body=some (Tryz.f100.body.getD .skip)) (by kernel_rfl)) (λ _ _ h=>(by cases h)) rfl
 |m+1=>abu n _ (Nw n m)
def ad7:co xx:=⟨[.d (.st SI.Expr),.d af],[.d af],λa=>OI n a.1 a.2.1,none⟩
theorem ad8:aG 100 (ad7 n):=Nw n n
def agz:co xx:=⟨[.d (.st SI.Expr)],[.d .bool],λa=>G7 n a.1,none⟩
theorem WQ:aG 59 (agz n) :=cq (ak (ad8 n) aC) func59 .z n
def Ny:co xx:=⟨[],[.fresh .str],λ_=>wH,none⟩
theorem Nz:aG 136 Ny :=cq aC func136 .z 0
mutual
theorem amu:∀g:bD,(toE g).wt<=4000000->ri (toE g) (qC g)
 |⟨op,n,s,key,args⟩,h=>by simp only[toE,ET.wt]at h;have:=ET.pT (G8 args);simp only[toE,qC,ri];exact⟨n,key,_,rfl,by unfold maxLen;omega,by omega,WR args (by omega)⟩
theorem WR:∀l:List bD,ET.sx (G8 l)<=4000000->m5 (G8 l) (rX l)
 |[],_=>by simp only[G8,rX,m5]
 |x::xs,h=>by simp only[G8,ET.sx]at h;simp only[G8,rX,m5];exact⟨_,_,rfl,amu x (by omega),WR xs (by omega)⟩
end
def NA:co xx:=⟨[],[.d .bool],λ_=>none,some ⟨[.v (.sl aU)],[],[.p 1000],[(1000,qr)],λv=>kY v⟩⟩
theorem ad9:∀l:List fI,qq (l.map toD)<=4000000->m6 (l.map toD) (l.map DX)
 |[],_=>by simp only[List.map_nil,m6]
 |x::xs,h=>by simp only[bg,qq,List.foldr_cons,toD,ET.wt]at h;have:=ET.pT (G8 x.ek);simp only[bg,m6];refine⟨_,_,rfl,⟨_,_,_,_,_,rfl,by simp only[toD];unfold maxLen;omega,?_⟩,ad9 xs (by simp only[qq];omega)⟩;simp only[toD,ri];exact⟨_,_,_,rfl,by unfold maxLen;omega,by omega,by rw[<- rY];exact WR _ (by omega)⟩
theorem NC:aG 137 NA:=by
 have hcall:fA Tryz.prog 137:=⟨_,func137,by kernel_rfl,by kernel_rfl⟩;refine TZ hcall ?_;intro v r hr;have h':kY v=some r:=hr;unfold kY at h';cases hb:Nat.ble (qq (List.map toD v)) 4000000 with
 |false=>rw[hb]at h';cases h'
 |true=>
  rw[hb]at h';have h'':some (v,og (List.map toD v))=some r:=h';injection h'' with e;subst e;have hw:=Nat.le_of_ble_eq_true hb;have hlen:=Sv (List.map toD v);have hn:∀d∈List.map toD v,d.2.names.length<=4000000:=λd hd=>by have h1:=Sw hd;have h2:=ET.oe d.2;omega
  exact aaE (TL:=63) (TG:=255) (TI:=3) hcall (ad9 v hw) λsv w hS=>alJ (List.map toD v) (by omega) (λ d hd=>Nat.le_trans (hn d hd) (by omega))
   (λ d hd v0 v1 v2 v3 v4 w hE=>callsIn_wide.1 (aj5 0 d.2 v0 v1 v2 v3 v4 w hE (Nat.le_trans (hn d hd) (by omega)))) sv w hS
def RY:co xx:=⟨[.d (.sl af),.d af],[.fresh af],λa=>qm a.1 a.2.1,none⟩
theorem RZ:aG 229 RY:=by
 have hcall:fA Tryz.prog 229:=⟨_,func229,by kernel_rfl,by kernel_rfl⟩;refine xp hcall (λ a r h=>?_) rfl;obtain⟨l,c,⟨⟩⟩:=a;have h':qm l c=some r:=h
 match l,h' with
 |[x],h'=>
  simp only[qm]at h';cases hb:(decide (0<=c)&&decide (c<=1000000000000))with
  |false=>rw[hb]at h';cases h'
  |true=>
   rw[hb]at h';have h'':some (List.replicate c.toNat x)=some r:=h';injection h'' with e;subst e;simp only[bq,bM]at hb;obtain⟨h1,h2⟩:=hb;obtain⟨k,hk⟩:=Int.eq_ofNat_of_zero_le h1;subst hk;exact afm (E:=3) (c:=k) hcall λa cap w hx=>aie x k (Int.ofNat_le.1 (by simpa using h2)) a cap w hx
def WS:co xx:=⟨[.d (.sl af),.d af],[.d af],λa=>Ea n a.1 a.2.1,none⟩
def WT:Hn SI:=(.s .z (.s (.s .z (.b (.lx ⟨[(8,.v af)],[],[0,1,7],[],1256,[]⟩ 0 ⟨[],[],[],[],1256,[]⟩ .z))) .z))
theorem WU:aG 247 (WS n) :=cq aC func247 WT n
def ND:co xx:=⟨[.d (.sl af),.d af],[.d .bool],λa=>qG n a.1 a.2.1,none⟩
theorem NE:aG 230 (ND n) :=cq (ak (WU n) aC) func230 .z n
def Bo:co xx:=⟨[.ref (.st SI.graph),.d af],[.fresh af],λa=>jR n a.1 a.2.1,none⟩
def Bp:Hn SI:=(tG (.s (.b (.l ⟨[(6,.od 2024)],[(1448,.l af),(2024,.l af)],[0,5],[],2025,[]⟩ 0 ⟨[],[(1448,.l af)],[5],[],2024,[]⟩ (.s .z (.b (gx (.b (.l ⟨[(6,.od 3049),(35,.v af)],[(1448,.l af),(3049,.l af)],[0,5,7,33,34],[],3050,[]⟩ 2 ⟨[(6,.od 3049)],[(1448,.l af),(3049,.l af)],[0,5],[],3050,[]⟩ (cA (.s (.j ⟨[(6,.od 3114)],[(1448,.l af),(3114,.l af)],[0,5,7,33,34,35],[],3115,[]⟩ (.b (.s .z (.s (.j ⟨[(49,.v .bool)],[],[0,5,6,7,8,33,34,35],[1448,3049],3434,[]⟩ .z) .z)))) .z))))))))) .z))
theorem Bq:aG 209 (Bo n) :=cq (ak RZ (ak (NE n) aC)) func209 Bp n
def K5:co xx:=⟨[.d .str],[.d .bool],λa=>cmp_isNaN_string a.1,none⟩
theorem K6:aG 231 K5 :=cq aC func231 .z 0
def Ij:co xx:=⟨[.d .str,.d .str],[.d af],λa=>nG a.1 a.2.1,none⟩
theorem Ik:aG 210 Ij :=cq (ak K6 aC) func210 .z 0
def Jp:co xx:=⟨[.d (.sl .str),.d (.sl .str)],[.d af],λa=>lM n a.1 a.2.1,none⟩
def Jq:Hn SI:=(.s .z (.s (.s .z (.b (.lx ⟨[(11,.v af)],[],[0,1,9,10],[],1256,[]⟩ 0 ⟨[],[],[0,1],[],1256,[]⟩ .z))) .z))
theorem Jr:aG 173 (Jp n) :=cq (ak Ik aC) func173 Jq n
end
end Go.Proofs
