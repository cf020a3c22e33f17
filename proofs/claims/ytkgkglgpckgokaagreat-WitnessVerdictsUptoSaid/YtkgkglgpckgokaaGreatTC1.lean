import Derived.Test.YtkgkglgpckgokaaGreatS2
namespace Go.Proofs
open Go.Gb Go.RowKit
abbrev fg:OP SI:=.c 10 [[.v (.sl bC),.v (.sl bn),.v (.sl bE),.v (.sl bB),.v (.sl bK),.v (.sl bG),.v (.sl aW),.v ah,.v (.sl ay),.o 1]]
abbrev qt:OP SI:=.c 1 [[.o 1]]
abbrev rI:OP SI:=.c 2 [[.v (.sl bC),(.v (.sl (.sl ah)))]]
abbrev tI:OP SI:=.c 10 [[.v (.sl bC),.v (.sl bn),.v (.sl bE),.v (.sl bB),.v (.sl bK),.v (.sl bG),.v (.sl aW),.v ah,.v (.sl ay),.o 2]]
abbrev uv:OP SI:=.c 4 [[.v ah,.v ah,.v ah,.v ah]]
abbrev uu:OP SI:=.c 2 [[.v ah,.v ah]]
abbrev wn:OP SI:=.c 1 [[.o 1384]]
abbrev GP:OP SI:=.c 10 [[.v (.sl bC),.v (.sl bn),.v (.sl bE),.v (.sl bB),.v (.sl bK),.v (.sl bG),.v (.sl aW),.v ah,.v (.sl ay),.o 1960]]
abbrev b9(a:Hn SI):Hn SI:=.s .z (.s .z a)
abbrev gx(a:Hn SI):Hn SI:=.s .z (.s .z (.s .z a))
abbrev ux(a:Hn SI):Hn SI:=.s .z (.s .z (.s .z (.s .z a)))
abbrev ws(a:Hn SI):Hn SI:=.s .z (.s .z (.s .z (.s .z (.s .z a))))
abbrev PQ(a:Hn SI):Hn SI:=.s .z (.s .z (.s .z (.s .z (.s .z (.s .z a)))))
abbrev PP(a:Hn SI):Hn SI:=.s .z (.s .z (.s .z (.s .z (.s .z (.s .z (.s .z (.s .z a)))))))
open Tryz
noncomputable section
variable (n:Nat)
def ahi:b7 xx:=⟨[.d ah],[.d dF],λa=>fB a.1,none⟩
theorem ahj:aJ 15 ahi :=cq aB func15 .z 0
def akk:b7 xx:=⟨[.d ay],[.d .bool],λa=>nE a.1,none⟩
theorem oG:aJ 60 akk :=cq aB func60 .z 0
def XK:b7 xx:=⟨[.nil,.d ah],[.fresh ay],λa=>NA a.1 a.2.1,none⟩
theorem XL:aJ 183 XK :=cq aB func183 .z 0
def Qv:b7 xx:=⟨[.d (.sl (.sl ay))],[.fresh ay],λa=>yR n a.1,none⟩
def Qw:Hn SI:=(b9 (.s (.s .z (.b (.l ⟨[(3,.v ah),(11,.v ah)],[],[0,9,10],[],1320,[]⟩ 0 ⟨[(3,.v ah)],[],[0],[],1320,[]⟩ .z))) (.s .z (.s (.s .z (.b (.l ⟨[(6,.o 1704),(27,.v ah)],[(1704,.l ay)],[25,26],[],1705,[]⟩ 2 ⟨[(6,.o 1704)],[(1704,.l ay)],[],[],1705,[]⟩ .z))) .z))))
theorem Qx:aJ 139 (Qv n) :=cq (au XL aB) func139 Qw n
def Zc:b7 xx:=⟨[.mut ah],[.mu ah],λa=>oV n a.1,none⟩
theorem vU:aJ 140 (Zc n):=by
 have hcall:eO Tryz.prog 140:=⟨_,func140,by kernel_rfl,by kernel_rfl⟩;refine zr hcall (λ a r h=>?_) rfl;obtain⟨l,⟨⟩⟩:=a;exact ajF Tryz.so140 rfl hcall h
def Qy:b7 xx:=⟨[.mut ah],[.whole 0,.mu ah],λa=>oW n a.1,none⟩
def Qz:Hn SI:=(b9 (.s (.s .z (.b (.lx ⟨[(3,.v ah)],[],[0],[0],1320,[]⟩ 0 ⟨[],[],[0],[0],1320,[]⟩ (.s .z (.s (.b (.s .z (.s (.s .z (.s (.s .z (.b (.l ⟨[(3,.v ah),(5,.v ah)],[(0,.l ah)],[0,4],[],2536,[]⟩ 2 ⟨[(3,.v ah)],[(0,.l ah)],[0],[],2536,[]⟩ (.s .z (.s (.j ⟨[(3,.v ah)],[(0,.l ah)],[0,4,5],[],2792,[]⟩ .z) .z))))) .z)) .z))) .z))))) .z))
theorem vD:aJ 141 (Qy n) :=cq aB func141 Qz n
def Ls:b7 xx:=⟨[.mut (.st SI.span),.d8 [.st SI.span,.st SI.span] ah],[.mu (.st SI.span)],λa=>ve n a.1 a.2.1,none⟩
theorem Lu:aJ 185 (Ls n):=by
 have hcall:eO Tryz.prog 185:=⟨_,func185,by kernel_rfl,by kernel_rfl⟩;refine zr hcall (λ a r h=>?_) rfl;obtain⟨l,φ,⟨⟩⟩:=a;refine aaz (X:=xx) (i:=SI.span) (hI:=(inferInstance:Inhabited aO)) Tryz.so185 rfl hcall Tryz.underlying236 (by kernel_rfl) (λ x t ht=>?_) h;cases x;have ht:t∈[_,_]:=ht;simp only[aN,fD,or_false]at ht;rcases ht with rfl |rfl<;>exact⟨_,rfl,trivial⟩
def SY:b7 xx:=⟨[.d ah],[.d .bool],λa=>cmp_isNaN_int a.1,none⟩
theorem S9:aJ 44 SY :=cq aB func44 .z 0
def Oy:b7 xx:=⟨[.d ah,.d ah],[.d ah],λa=>cmp_Compare_int a.1 a.2.1,none⟩
theorem lW:aJ 30 Oy :=cq (au S9 aB) func30 .z 0
def XM:b7 xx:=⟨[.d (.st SI.span),.d (.st SI.span)],[.d ah],λa=>xJ a.1 a.2.1,none⟩
theorem XO:aJ 186 XM :=cq (au lW aB) func186 .z 0
def ae6:b7 xx:=⟨[.d (.sl ay),.d ah],[.fresh (.st SI.span)],λa=>JG n a.1 a.2.1,none⟩
def ae7:Hn SI:=(b9 (.s (.s .z (.b (.l ⟨[(5,.o 1320),(14,.v ah)],[(1320,.l (.st SI.span))],[1,12,13],[],1321,[(5,.st SI.span)]⟩ 0 ⟨[(5,.o 1320)],[(1320,.l (.st SI.span))],[],[],1321,[]⟩ (b9 (.s (.j ⟨[(5,.o 1385)],[(1385,.l (.st SI.span))],[1,12,13,14],[],1386,[]⟩ (.b (.s .z (.s (.j ⟨[(27,.v .bool)],[],[1,5,7,12,13,14],[1320,1513],1641,[]⟩ .z) .z)))) .z))))) (b9 (.s (.s .z (.b (.l ⟨[(8,.o 1705),(41,.v ah)],[(1705,.l (.st SI.span))],[39,40],[1320],1706,[(8,.st SI.span)]⟩ 2 ⟨[(8,.o 1705)],[(1705,.l (.st SI.span))],[],[],1706,[]⟩ (b9 (.s (.j ⟨[(8,.o 1770)],[(1770,.l (.st SI.span))],[39,40,41],[1320],1771,[]⟩ (.b (b9 (.s (.j ⟨[(59,.v .bool)],[],[8,10,11,39,40,41],[1320,1705,1898],2218,[]⟩ .z) .z)))) .z))))) .z))))
theorem ae8:aJ 142 (ae6 n) :=cq (au (Lu n) (au XO aB)) func142 ae7 n
def ae9:b7 xx:=⟨[.d (.sl (.sl ay))],[.fresh (.st SI.strip)],λa=>ow n a.1,none⟩
def afa:Hn SI:=(gx (.s (.s .z (.b (.l ⟨[(4,.o 1512),(13,.v ah)],[(1512,.l ah)],[3,11,12],[1128],1513,[(4,ah)]⟩ 0 ⟨[(4,.o 1512)],[(1512,.l ah)],[3],[1128],1513,[]⟩ .z))) (gx (.s (.s .z (.b (.l ⟨[(7,.o 1961),(8,.v ah)],[(1961,.l (.st SI.strip))],[3,4],[1128,1512],1962,[(7,.st SI.strip)]⟩ 2 ⟨[(7,.o 1961)],[(1961,.l (.st SI.strip))],[],[],1962,[]⟩ .z))) .z))))
theorem R9:aJ 94 (ae9 n) :=cq (au (Qx n) (au (vU n) (au (vD n) (au (ae8 n) aB)))) func94 afa n
def Ta:b7 xx:=⟨[.d (.sl (.st SI.span)),.d (.sl (.st SI.span))],[.d .bool],λa=>vI n a.1 a.2.1,none⟩
def Td:Hn SI:=(b9 (.s (.s .z (.b (.lx ⟨[(13,.v ah)],[],[0,1,12],[],1576,[]⟩ 0 ⟨[],[],[],[],1576,[]⟩ .z))) .z))
theorem Te:aJ 147 (Ta n) :=cq aB func147 Td n
def ahk:b7 xx:=⟨[.d (.sl (.st SI.strip))],[.fresh ay],λa=>Ig n a.1,none⟩
def ahl:Hn SI:=(b9 (.s (.s .z (.b (.l ⟨[(3,.o 1192),(4,.v ah)],[(1192,.l ay)],[0],[],1193,[(3,ay)]⟩ 0 ⟨[(3,.o 1192)],[(1192,.l ay)],[],[],1193,[]⟩ (.s .z (.b (.s .z (.s (.b (.l ⟨[(5,.v ah)],[],[0,3,4],[1192],1641,[]⟩ 2 ⟨[(5,.v ah)],[],[0,3,4],[1192],1641,[]⟩ (.s (.s (.j ⟨[(30,.v .bool)],[],[0,3,4,5],[1192],1641,[]⟩ .z) .z) .z))) (.s (.s .z (.b (.l ⟨[(3,.o 2089),(39,.v ah)],[(2089,.l ay)],[0,4,5,37,38],[],2090,[]⟩ 4 ⟨[(3,.o 2089)],[(2089,.l ay)],[0,5],[],2090,[]⟩ .z))) .z)))))))) .z))
theorem XP:aJ 98 (ahk n) :=cq (au (Te n) aB) func98 ahl n
def acs:b7 xx:=⟨[.d (.sl ay)],[.d (.sl ay),.d ah],λa=>yS a.1,none⟩
theorem Oz:aJ 97 acs :=cq aB func97 .z 0
def an7:b7 xx:=⟨[.d (.sl ay)],[.d (.sl ay),.d ah],λa=>MT n a.1,none⟩
def an8:Hn SI:=(.s .z (.s (.s .z (.b (.lx ⟨[(8,.v ah)],[],[0,6,7],[],1320,[]⟩ 0 ⟨[],[],[0],[],1320,[]⟩ .z))) .z))
theorem an9:aJ 92 (an7 n) :=cq (au oG (au (R9 n) (au (XP n) (au Oz aB)))) func92 an8 n
def Tf:b7 xx:=⟨[.d (.sl ay),.d (.sl ay)],[.d .bool],λa=>oC n a.1 a.2.1,none⟩
def Tg:Hn SI:=(b9 (.s (.s .z (.b (.lx ⟨[(13,.v ah)],[],[0,1,12],[],1576,[]⟩ 0 ⟨[],[],[],[],1576,[]⟩ .z))) .z))
theorem FD:aJ 93 (Tf n) :=cq aB func93 Tg n
def ahm:b7 xx:=⟨[.d (.sl ay)],[.d .bool],λa=>nV n a.1,none⟩
theorem pF:aJ 58 (ahm n) :=cq (au (an9 n) (au (FD n) aB)) func58 .z n
def ahn:b7 xx:=⟨[.d (.sl ay)],[.d ay,.d .bool],λa=>NH n a.1,none⟩
def aho:Hn SI:=(.s .z (.s (.s .z (.b (.l ⟨[(3,.v .bool),(8,.v ah)],[(1000,uv)],[2,6,7],[],1320,[]⟩ 0 ⟨[(3,.v .bool)],[(1000,uv)],[2],[],1320,[]⟩ (b9 (.s (.j ⟨[(3,.v .bool)],[(1000,uv)],[2,6,7,8],[],1384,[]⟩ .z) .z))))) .z))
theorem ahp:aJ 59 (ahn n) :=cq (au oG aB) func59 aho n
def afb:b7 xx:=⟨[.d (.sl ay)],[.d ay,.d .bool],λa=>CO n a.1,none⟩
def afc:Hn SI:=(.s .z (.s (.s (.j ⟨[(11,.v .bool)],[],[0,2],[1000],1128,[]⟩ .z) .z) .z))
theorem Sb:aJ 37 (afb n) :=cq (au (pF n) (au (ahp n) aB)) func37 afc n
def afd:b7 xx:=⟨[.d ay],[.d ay,.d .bool],λa=>sK a.1,none⟩
theorem I4:aJ 41 afd :=cq (au oG aB) func41 .z 0
def ahq:b7 xx:=⟨[.d ay,.d ah],[.d ay,.d .bool],λa=>NI a.1 a.2.1,none⟩
def ahr:Hn SI:=(.s .z (.s (.s (.j ⟨[(12,.v .bool)],[],[1,2,4],[1000,1064],1192,[]⟩ .z) .z) .z))
theorem ahs:aJ 38 ahq :=cq (au oG (au I4 aB)) func38 ahr 0
def uO:b7 xx:=⟨[.d (.sl (.st SI.strip)),.d ah,.d8 [.st SI.strip,ah] ah],[.d ah,.d .bool],λa=>jd n a.1 a.2.1 a.2.2.1,none⟩
def uP:Hn SI:=(gx (.s (.b (.l ⟨[(9,.v ah),(10,.v ah)],[],[0,1,2,8],[],1512,[]⟩ 0 ⟨[(9,.v ah)],[],[0,1,2,8],[],1512,[]⟩ .z)) .z))
theorem uQ:aJ 145 (uO n) :=cq aB func145 uP n
def aht:b7 xx:=⟨[.d (.st SI.strip),.d ah],[.d ah],λa=>wH a.1 a.2.1,none⟩
theorem ahu:aJ 146 aht :=cq aB func146 .z 0
def aoa:b7 xx:=⟨[.d (.sl (.st SI.strip)),.d ah],[.d (.sl (.st SI.span))],λa=>WX n a.1 a.2.1,none⟩
def aoc:Hn SI:=(b9 (.s (.s (.j ⟨[(25,.v .bool)],[],[0,5],[],1576,[]⟩ .z) .z) .z))
theorem aod:aJ 96 (aoa n) :=cq (au (uQ n) (au ahu aB)) func96 aoc n
def XQ:b7 xx:=⟨[.nil,.d ah],[.fresh (.st SI.span)],λa=>NJ a.1 a.2.1,none⟩
theorem XR:aJ 187 XQ :=cq aB func187 .z 0
def QA:b7 xx:=⟨[.d (.sl (.sl (.st SI.span)))],[.fresh (.st SI.span)],λa=>yT n a.1,none⟩
def QB:Hn SI:=(b9 (.s (.s .z (.b (.l ⟨[(3,.v ah),(11,.v ah)],[],[0,9,10],[],1320,[]⟩ 0 ⟨[(3,.v ah)],[],[0],[],1320,[]⟩ .z))) (.s .z (.s (.s .z (.b (.l ⟨[(6,.o 1704),(27,.v ah)],[(1704,.l (.st SI.span))],[25,26],[],1705,[]⟩ 2 ⟨[(6,.o 1704)],[(1704,.l (.st SI.span))],[],[],1705,[]⟩ .z))) .z))))
theorem QC:aJ 143 (QA n) :=cq (au XR aB) func143 QB n
def vE:b7 xx:=⟨[.d (.sl (.st SI.span)),.d ah,.d8 [.st SI.span,ah] ah],[.d ah,.d .bool],λa=>jy n a.1 a.2.1 a.2.2.1,none⟩
def vF:Hn SI:=(gx (.s (.b (.l ⟨[(9,.v ah),(10,.v ah)],[],[0,1,2,8],[],1512,[]⟩ 0 ⟨[(9,.v ah)],[],[0,1,2,8],[],1512,[]⟩ .z)) .z))
theorem vG:aJ 188 (vE n) :=cq aB func188 vF n
def XT:b7 xx:=⟨[.d (.st SI.span),.d ah],[.d ah],λa=>lF a.1 a.2.1,none⟩
theorem XU:aJ 189 XT :=cq aB func189 .z 0
def afe:b7 xx:=⟨[.d (.sl (.st SI.span)),.d ah],[.d .bool],λa=>CP n a.1 a.2.1,none⟩
theorem aff:aJ 144 (afe n) :=cq (au (vG n) (au XU aB)) func144 .z n
def ahv:b7 xx:=⟨[.d (.sl (.st SI.span)),.d (.sl (.st SI.span)),.d8 [.bool,.bool] .bool],[.fresh (.st SI.span)],λa=>Ih n a.1 a.2.1 a.2.2.1,none⟩
def ahw:Hn SI:=(b9 (.s (.s .z (.b (.l ⟨[(7,.o 1512),(19,.v ah)],[(1512,.l ah)],[0,1,2,17,18],[1320],1513,[(7,ah)]⟩ 0 ⟨[(7,.o 1512)],[(1512,.l ah)],[0,1,2],[],1513,[]⟩ .z))) (gx (.s (.s .z (.b (.l ⟨[(10,.o 1961),(11,.v ah)],[(1961,.l (.st SI.span))],[0,1,2,7],[1512],1962,[(10,.st SI.span)]⟩ 2 ⟨[(10,.o 1961)],[(1961,.l (.st SI.span))],[],[],1962,[]⟩ (.s .z (.s (.j ⟨[(10,.o 2218)],[(2218,.l (.st SI.span))],[0,1,2,7,11],[1512],2219,[]⟩ (.b (gx (.s (.j ⟨[(68,.v .bool)],[],[0,1,2,7,10,11,12,13],[1512,1961],3370,[]⟩ .z) .z)))) .z))))) .z))))
theorem ahx:aJ 95 (ahv n) :=cq (au (QC n) (au (vU n) (au (vD n) (au (aff n) aB)))) func95 ahw n
def acu:b7 xx:=⟨[.d (.sl ay),.d (.sl ay),.d8 [.bool,.bool] .bool],[.d (.sl ay),.d ah],λa=>El n a.1 a.2.1 a.2.2.1,none⟩
def acv:Hn SI:=(.s .z (.s (.s (.j ⟨[(20,.v .bool)],[],[0,1,2],[],1128,[]⟩ .z) .z) (.s (.f [6,7]) (.s .z (.s (.s .z (.b (.l ⟨[(33,.v ah)],[(1832,.l (.st SI.strip))],[2,8,9,10,31,32],[],2152,[]⟩ 0 ⟨[],[(1832,.l (.st SI.strip))],[10],[],2152,[]⟩ .z))) .z)))))
theorem acw:aJ 61 (acu n) :=cq (au (pF n) (au (R9 n) (au (aod n) (au (ahx n) (au (XP n) (au Oz aB)))))) func61 acv n
def XV:b7 xx:=⟨[.d .bool,.d .bool],[.d .bool],λa=>xK a.1 a.2.1,none⟩
theorem XW:aJ 62 XV :=cq aB func62 .z 0
def afg:b7 xx:=⟨[.d (.sl ay),.d (.sl ay)],[.d (.sl ay),.d ah],λa=>CQ n a.1 a.2.1,none⟩
theorem Sc:aJ 39 (afg n) :=cq (au (acw n) (au XW aB)) func39 .z n
def amG:b7 xx:=⟨[.d ay],[.d ah],λa=>oZ a.1,none⟩
theorem ze:aJ 25 amG :=cq (au I4 aB) func25 .z 0
def akl:b7 xx:=⟨[.d (.sl ay)],[.d ah],λa=>JH n a.1,none⟩
def akm:Hn SI:=(gx (.s (.s .z (.b (.l ⟨[(3,.v ah),(11,.v ah)],[],[9,10],[],1512,[]⟩ 0 ⟨[(3,.v ah)],[],[],[],1512,[]⟩ .z))) .z))
theorem QD:aJ 40 (akl n) :=cq (au (pF n) (au ze aB)) func40 akm n
def XY:b7 xx:=⟨[.d iU,.d ah],[.d ay,.d .bool],λa=>nG n a.1 a.2.1,none⟩
def XZ:Hn SI:=(b9 (.s (.s (.j ⟨[(26,.v .bool)],[],[1,2,4,6],[1000,1064,1576],1768,[]⟩ .z) .z) .z))
theorem I5:aJ 24 (XY n) :=cq (au (Sb n) (au ahs (au (Sc n) (au (QD n) (au ze aB))))) func24 XZ n
def acy:b7 xx:=⟨[.d (.sl ah)],[.d ah],λa=>rR n a.1,none⟩
def acz:Hn SI:=(b9 (.s (.s .z (.b (.lx ⟨[(8,.v ah)],[],[3,6,7],[],1320,[]⟩ 0 ⟨[],[],[3],[],1320,[]⟩ .z))) .z))
theorem EZ:aJ 29 (acy n) :=cq aB func29 acz n
def akn:b7 xx:=⟨[],[.d .bool],λ_=>none,some (@pbG xx SI.j8 SI.eo (inferInstance:Inhabited aS) vA 28 26)⟩
theorem ako:aJ 27 akn:=
 L4 (ng func27 (by kernel_rfl:Tryz.f27.body=some (Tryz.f27.body.getD .skip)) (by kernel_rfl)) (anp (X:=xx) (ip:=SI.j8) (ik:=SI.eo) (hI:=(inferInstance:Inhabited aS)) Tryz.so27 rfl (ng func27 (by kernel_rfl:Tryz.f27.body=some (Tryz.f27.body.getD .skip)) (by kernel_rfl)) (ng func28 (by kernel_rfl:Tryz.f28.body=some (Tryz.f28.body.getD .skip)) (by kernel_rfl)) (fs:=(Tryz.prog.underlying 42).elim #[] λd=>match d with | .struct fs=>fs |_=>#[]) (by kernel_rfl) (by kernel_rfl) MY (tm:=78) (kt:=83) (et:=3) (ei:=(Rq tab 3).get (by kernel_rfl)) (by kernel_rfl) (by kernel_rfl) (abd (mk:=(2,.i64)) MY (by kernel_rfl)) (λ r=>by cases r<;>rfl) vA
  (aoR (ti:=3) anv aoW (λ x y=>air (X:=xx) (cs:=[.int .i64,.int .i64]) (r:= .int .i64) lW (x,y,()) (apN x y)) λa b c d e=>air (X:=xx) (cs:=[.sl ah]) (r:= .int .i64) (EZ 10) ([a,b,c,d,e],()) (aei a b c d e)))
def QE:b7 xx:=⟨[.d (.sl iU)],[.fresh fe],λa=>o6 n a.1,none⟩
def QF:Hn SI:=(ux (.s (.s .z (.b (.l ⟨[(3,.o 1640),(17,.v ah)],[(1128,.m (.st SI.eo) ah),(1320,.m ah .bool),(1640,.l fe)],[4,5,15,16],[1192],1641,[(3,fe)]⟩ 0 ⟨[(3,.o 1640)],[(1128,.m (.st SI.eo) ah),(1640,.l fe)],[4],[1192],1641,[]⟩ (b9 (.s (.j ⟨[(3,.o 1705)],[(1128,.m (.st SI.eo) ah),(1320,.m ah .bool),(1705,.l fe)],[4,5,15,16,17],[1192],1706,[]⟩ (.b (.s .z (.s (.s (.j ⟨[(34,.v .bool)],[],[3,4,5,7,15,16,17],[1128,1192,1320,1640,1833],1961,[]⟩ .z) .z) (b9 (.b (.l ⟨[(3,.o 2281),(38,.v ah)],[(1128,.m (.st SI.eo) ah),(2281,.l fe)],[4,5,7,15,16,17],[1192,1320,1833],2282,[]⟩ 2 ⟨[(3,.o 2281)],[(1128,.m (.st SI.eo) ah),(2281,.l fe)],[4,5,15,16,17],[1192,1320],2282,[]⟩ (b9 (.s (.j ⟨[(3,.o 2346)],[(1128,.m (.st SI.eo) ah),(2346,.l fe)],[4,5,7,15,16,17,38],[1192,1320,1833],2347,[]⟩ (.b (ws (.b (.l ⟨[(3,.o 3754),(56,.v ah)],[(3754,.l fe)],[4,5,7,8,15,16,17,38],[1128,1192,1320,1833],3755,[]⟩ 4 ⟨[(3,.o 3754)],[(3754,.l fe)],[4,5,7,15,16,17,38],[1128,1192,1320,1833],3755,[]⟩ .z))))) .z))))))))) .z))))) .z))
theorem C9:aJ 10 (QE n) :=cq (au (I5 n) (au ze (au ako aB))) func10 QF n
def OA:b7 xx:=⟨[.d iU,.ref fe],[.d .bool],λa=>q9 a.1 a.2.1,none⟩
theorem OC:aJ 55 OA :=cq aB func55 .z 0
def Lv:b7 xx:=⟨[.d (.sl iU),.d8 [iU] .bool],[.d ah],λa=>vg n a.1 a.2.1,none⟩
def Lx:Hn SI:=(.s .z (.s (.s .z (.b (.lx ⟨[(8,.v ah)],[],[0,1,7],[],1256,[]⟩ 0 ⟨[],[],[],[],1256,[]⟩ .z))) .z))
theorem LA:aJ 54 (Lv n) :=cq aB func54 Lx n
def Ti:b7 xx:=⟨[.d iU,.d fe],[.d (.st SI.d5),.d .bool],λa=>qG n a.1 a.2.1,none⟩
def Tj:Hn SI:=(b9 (.s (.s (.j ⟨[(54,.v .bool)],[],[3,4,6],[1064,1128,1704],1896,[]⟩ .z) .z) (.s .z (.s (.j ⟨[],[(2408,.c 9 [[.v ah,.v ah,.v ah,.v ah,.v ah,.v ah,.v ah,.v ah,.v .bool]])],[3,4,8],[1064,1128],2536,[]⟩ .z) .z))))
theorem FE:aJ 11 (Ti n) :=cq (au (I5 n) aB) func11 Tj n
def X0:b7 xx:=⟨[.d fH,.d fe],[.d (.st SI.d5),.d .bool],λa=>tV n a.1 a.2.1,none⟩
theorem I6:aJ 34 (X0 n) :=cq (au (LA n) (au OC (au (FE n) aB))) func34 .z n
def Tk:b7 xx:=⟨[.d fH],[.fresh (.st SI.site)],λa=>qH n a.1,none⟩
def Tm:Hn SI:=(b9 (.s (.s .z (.b (.l ⟨[(3,.o 1512),(12,.v ah)],[(1512,.l (.st SI.site))],[1,10,11],[1000,1320],1513,[(3,.st SI.site)]⟩ 0 ⟨[(3,.o 1512)],[(1512,.l (.st SI.site))],[],[],1513,[]⟩ (b9 (.s (.j ⟨[(3,.o 1577)],[(1577,.l (.st SI.site))],[1,10,11,12],[1000,1320],1578,[]⟩ .z) .z))))) .z))
theorem FH:aJ 22 (Tk n) :=cq (au (C9 n) (au (I6 n) aB)) func22 Tm n
def Tn:b7 xx:=⟨[.d fH,.d dF],[.d fH],λa=>witness_under a.1 a.2.1,none⟩
theorem wZ:aJ 23 Tn :=cq aB func23 .z 0
def Tp:b7 xx:=⟨[.d (.sl ay)],[.fresh ay],λa=>Bd a.1,none⟩
theorem Tq:aJ 149 Tp :=cq aB func149 .z 0
def X4:b7 xx:=⟨[.d (.sl ah)],[.fresh ah],λa=>En a.1,none⟩
theorem X5:aJ 150 X4 :=cq aB func150 .z 0
def ahy:b7 xx:=⟨[.d iU],[.d iU],λa=>NP a.1,none⟩
theorem ahz:aJ 104 ahy :=cq (au Tq (au X5 aB)) func104 .z 0
def akp:b7 xx:=⟨[.d (.sl iU),.d ah],[.d iU,.d .bool],λa=>NQ n a.1 a.2.1,none⟩
def akq:Hn SI:=(.s .z (.s (.s .z (.b (.lx ⟨[(10,.v ah)],[],[1,4,8,9],[1000],1320,[]⟩ 0 ⟨[],[],[4],[1000],1320,[]⟩ .z))) .z))
theorem akr:aJ 73 (akp n) :=cq (au ahz aB) func73 akq n
def OD:b7 xx:=⟨[.d (.st SI.d5),.d ah,.d ah],[.fresh aG],λa=>nW n a.1 a.2.1 a.2.2.1,none⟩
def OE:Hn SI:=(b9 (.s (.s .z (.b (.l ⟨[(7,.o 1448),(13,.v ah)],[(1448,.l aG)],[1,2,11,12],[],1449,[(7,aG)]⟩ 0 ⟨[(7,.o 1448)],[(1448,.l aG)],[],[],1449,[]⟩ (b9 (.s (.j ⟨[(7,.o 1513)],[(1513,.l aG)],[1,2,11,12,13],[],1514,[]⟩ (.b (.s .z (.s (.j ⟨[(25,.v .bool)],[],[1,2,7,9,11,12,13],[1448,1705],1897,[]⟩ .z) .z)))) .z))))) .z))
theorem AJ:aJ 115 (OD n) :=cq aB func115 OE n
def Zd:b7 xx:=⟨[.d (.st SI.d5)],[.fresh aG],λa=>wK n a.1,none⟩
theorem KU:aJ 106 (Zd n) :=cq (au (AJ n) aB) func106 .z n
def FT:b7 xx:=⟨[.d aG],[.d .bool],λa=>gm a.1,none⟩
def FU:Hn SI:=(b9 (.s (.s (.j ⟨[(26,.v .bool)],[],[1],[1000],1384,[]⟩ .z) .z) (.s (.s (.j ⟨[(34,.v .bool)],[],[1],[1000],1384,[]⟩ .z) .z) .z)))
theorem kJ:aJ 116 FT :=cq (au oG aB) func116 FU 0
def Ze:b7 xx:=⟨[.d ay,.d ay],[.d ay,.d .bool],λa=>sM a.1 a.2.1,none⟩
def Zf:Hn SI:=(.s .z (.s (.s (.j ⟨[(13,.v .bool)],[],[2,3,4],[1000,1064,1128],1256,[]⟩ .z) .z) .z))
theorem Bn:aJ 190 Ze :=cq (au oG (au I4 aB)) func190 Zf 0
def X6:b7 xx:=⟨[.d (.st SI.Ek),.d (.st SI.Ek)],[.d .bool],λa=>xL a.1 a.2.1,none⟩
theorem X7:aJ 152 X6 :=cq (au Bn aB) func152 .z 0
def OG:b7 xx:=⟨[.d aG,.ref aG],[.d .bool],λa=>rf a.1 a.2.1,none⟩
theorem OH:aJ 151 OG :=cq (au X7 aB) func151 .z 0
def FV:b7 xx:=⟨[.d (.sl aG),.d8 [aG] .bool],[.d ah],λa=>qm n a.1 a.2.1,none⟩
def FW:Hn SI:=(.s .z (.s (.s .z (.b (.lx ⟨[(8,.v ah)],[],[0,1,7],[],1256,[]⟩ 0 ⟨[],[],[],[],1256,[]⟩ .z))) .z))
theorem FX:aJ 131 (FV n) :=cq aB func131 FW n
def Bo:b7 xx:=⟨[.d (.sl aG),.d8 [aG] .bool],[.d .bool],λa=>fJ n a.1 a.2.1,none⟩
theorem qW:aJ 86 (Bo n) :=cq (au (FX n) aB) func86 .z n
def acA:b7 xx:=⟨[.d (.int .u8)],[.d .bool],λa=>Er a.1,none⟩
theorem OI:aJ 225 acA :=cq aB func225 .z 0
def ahA:b7 xx:=⟨[.d .str,.d8 [.int .u8] .bool],[.d ah],λa=>NR n a.1 a.2.1,none⟩
def ahB:Hn SI:=(b9 (.s (.b (.l ⟨[(5,.v ah)],[],[0,1],[],1128,[]⟩ 0 ⟨[(5,.v ah)],[],[],[],1128,[]⟩ (.s (.s (.j ⟨[(16,.v .bool)],[],[0,1,5],[],1128,[]⟩ .z) .z) .z))) .z))
theorem ahC:aJ 226 (ahA n) :=cq aB func226 ahB n
def afh:b7 xx:=⟨[.d (.int .u8)],[.d .bool],λa=>Qb a.1,none⟩
theorem afi:aJ 228 afh :=cq aB func228 .z 0
def Zg:b7 xx:=⟨[.d (.int .u8)],[.d .bool],λa=>Ah a.1,none⟩
theorem Zh:aJ 227 Zg :=cq (au OI (au afi aB)) func227 .z 0
def ahD:b7 xx:=⟨[.d .str],[.d .bool],λa=>NS n a.1,none⟩
def ahE:Hn SI:=(.s .z (.s (.s (.j ⟨[(15,.v .bool)],[],[0],[],1064,[]⟩ .z) .z) .z))
theorem ahF:aJ 191 (ahD n) :=cq (au OI (au (ahC n) (au Zh aB))) func191 ahE n
def LB:b7 xx:=⟨[.d .str,.d .str],[.d .bool],λa=>strings_Contains a.1 a.2.1,none⟩
theorem LC:aJ 192 LB:=by
 have hcall:eO Tryz.prog 192:=⟨_,func192,by kernel_rfl,by kernel_rfl⟩;refine zr hcall (λ a r h=>?_) rfl;obtain⟨s,b,⟨⟩⟩:=a;have h':strings_Contains s b=some r:=h;unfold strings_Contains at h';cases hb:Nat.ble s.size 4000000 with
 |false=>rw[hb]at h';cases h'
 |true=>
  rw[hb]at h';have h'':some (Lib.contains s.data.toList b.data.toList)=some r:=h';injection h'' with e;subst e;have hw:=Nat.le_of_ble_eq_true hb;exact abR (g:=0) rfl hcall λm w hm=>aek s b m w (by omega) hm
def Zi:b7 xx:=⟨[.d .str],[.d .bool],λa=>wL n a.1,none⟩
theorem Zj:aJ 153 (Zi n) :=cq (au (ahF n) (au LC aB)) func153 .z n
def X8:b7 xx:=⟨[.d (.st SI.d5)],[.d .bool],λa=>xM n a.1,none⟩
def X9:Hn SI:=(b9 (.s (.s (.j ⟨[(42,.v .bool)],[],[1,3],[1000,1192],1320,[]⟩ .z) .z) (.s (.s .z (.b (.lx ⟨[(45,.v ah)],[],[1,3,43,44],[1000,1192],1512,[]⟩ 0 ⟨[],[],[1],[1000],1512,[]⟩ (b9 (.s (.b (.s .z (.s (.j ⟨[(59,.v .bool)],[],[1,3,43,44,45],[1000,1192],1960,[]⟩ .z) .z))) .z))))) (.s (.s .z (.b (.lx ⟨[(64,.v ah)],[],[62,63],[],1768,[]⟩ 2 ⟨[],[],[],[],1768,[]⟩ (b9 (.s (.b (b9 (.s (.s .z (.b (.lx ⟨[(72,.v ah)],[(2088,.m .str .bool)],[7,8,62,63,64,70,71],[1960],2472,[]⟩ 4 ⟨[],[],[7,62,63,64],[1960],2472,[]⟩ (b9 (.s (.b (.s .z (.s (.s (.j ⟨[(95,.v .bool)],[],[7,8,10,62,63,64,70,71,72],[1960,2088,2664],2792,[]⟩ .z) .z) .z))) .z))))) .z))) .z))))) .z))))
theorem Ya:aJ 105 (X8 n) :=cq (au (KU n) (au kJ (au (qW n) (au OH (au (Zj n) aB))))) func105 X9 n
def LD:b7 xx:=⟨[.d bK,.ref (.st SI.Entry)],[.d .bool],λa=>vk a.1 a.2.1,none⟩
theorem LF:aJ 108 LD :=cq aB func108 .z 0
def LG:b7 xx:=⟨[.d (.sl bK),.d8 [bK] .bool],[.d ah],λa=>vo n a.1 a.2.1,none⟩
def LJ:Hn SI:=(.s .z (.s (.s .z (.b (.lx ⟨[(8,.v ah)],[],[0,1,7],[],1256,[]⟩ 0 ⟨[],[],[],[],1256,[]⟩ .z))) .z))
theorem LK:aJ 154 (LG n) :=cq aB func154 LJ n
def FY:b7 xx:=⟨[.d (.sl bK),.d8 [bK] .bool],[.d .bool],λa=>mG n a.1 a.2.1,none⟩
theorem FZ:aJ 107 (FY n) :=cq (au (LK n) aB) func107 .z n
def Tt:b7 xx:=⟨[.d dF,.d iU,.d (.st SI.d5)],[.d .bool],λa=>iY n a.1 a.2.1 a.2.2.1,none⟩
def Tv:Hn SI:=(.s .z (.s (.s (.j ⟨[(30,.v .bool)],[],[3,4,5],[1000,1064,1128],1256,[]⟩ .z) .z) (.s (.s .z (.b (.lx ⟨[(34,.v ah)],[],[3,4,5,32,33],[1000,1064,1128,1320],1512,[]⟩ 0 ⟨[],[],[3,5],[1000,1128],1512,[]⟩ (b9 (.s (.b (b9 (.s (.j ⟨[(58,.v .bool)],[],[3,4,5,32,33,34],[1000,1064,1128,1320],2600,[]⟩ .z) .z))) .z))))) (.s (.s .z (.b (.lx ⟨[(63,.v ah)],[],[3,61,62],[1000],1768,[]⟩ 2 ⟨[],[],[],[],1768,[]⟩ (b9 (.s (.b (b9 (.b (.lx ⟨[(70,.v ah)],[],[3,61,62,63,68,69],[1000],2344,[]⟩ 4 ⟨[],[],[3,61,62,63],[1000],2344,[]⟩ .z)))) .z))))) .z))))
theorem Tw:aJ 74 (Tt n) :=cq (au (Ya n) (au (pF n) (au (KU n) (au (Sc n) (au (QD n) (au ze (au (FZ n) (au LF aB)))))))) func74 Tv n
def QG:b7 xx:=⟨[.d (.st SI.d5)],[.fresh aG],λa=>tX n a.1,none⟩
def QH:Hn SI:=(b9 (.s (.s .z (.b (.l ⟨[(3,.o 1448),(9,.v ah)],[(1448,.l aG)],[7,8],[],1449,[(3,aG)]⟩ 0 ⟨[(3,.o 1448)],[(1448,.l aG)],[],[],1449,[]⟩ .z))) .z))
theorem QI:aJ 75 (QG n) :=cq aB func75 QH n
def QJ:b7 xx:=⟨[.d (.sl (.st SI.iv))],[.fresh (.st SI.side)],λa=>o7 n a.1,none⟩
def QK:Hn SI:=(b9 (.s (.s .z (.b (.l ⟨[(10,.v ah)],[(1192,.l (.st SI.side))],[0,3,9],[],1512,[]⟩ 0 ⟨[],[(1192,.l (.st SI.side))],[3],[],1512,[]⟩ .z))) .z))
theorem Da:aJ 231 (QJ n) :=cq aB func231 QK n
def QL:b7 xx:=⟨[.d (.st SI.iv)],[.d .bool],λa=>tY a.1,none⟩
theorem QM:aJ 260 QL :=cq aB func260 .z 0
def E5:b7 xx:=⟨[.d (.st SI.side)],[.d .bool],λa=>gK a.1,none⟩
theorem uJ:aJ 232 E5 :=cq aB func232 .z 0
def OJ:b7 xx:=⟨[.d (.st SI.iv),.d (.st SI.iv)],[.d ah],λa=>rq n a.1 a.2.1,none⟩
theorem OL:aJ 261 (OJ n) :=cq (au lW (au (EZ n) aB)) func261 .z n
def E8:b7 xx:=⟨[.d (.st SI.side),.d (.st SI.side)],[.d .bool],λa=>lJ a.1 a.2.1,none⟩
theorem E9:aJ 262 E8 :=cq aB func262 .z 0
def Tx:b7 xx:=⟨[.d (.sl (.st SI.iv))],[.d .bool],λa=>vK n a.1,none⟩
def Ty:Hn SI:=(.s .z (.s (.s (.j ⟨[(16,.v .bool)],[],[0],[],1064,[]⟩ .z) .z) (.s .z (.s (.s .z (.b (.lx ⟨[(21,.v ah)],[],[0,3,19,20],[1128],1448,[]⟩ 0 ⟨[],[],[3],[1128],1448,[]⟩ (b9 (.s (.b (b9 (.s (.s (.j ⟨[(61,.v .bool)],[],[0,3,4,19,20,21],[1128],2536,[]⟩ .z) .z) (.s (.j ⟨[(74,.v .bool)],[],[0,3,19,20,21],[1128],2536,[]⟩ .z) .z)))) .z))))) (.s (.s .z (.b (.lx ⟨[(78,.v ah)],[],[3,77],[1128],1640,[]⟩ 2 ⟨[],[],[3],[1128],1640,[]⟩ (b9 (.s (.b (b9 (.b (.lx ⟨[(8,.v ah)],[],[3,7,77,78],[1128],2024,[]⟩ 4 ⟨[],[],[3,77,78],[1128],2024,[]⟩ (.s .z (.s (.b (.s (.j ⟨[(106,.v .bool)],[],[3,7,8,77,78],[1128],2280,[]⟩ .z) .z)) .z)))))) .z))))) .z)))))
theorem Tz:aJ 230 (Tx n) :=cq (au (Da n) (au QM (au uJ (au (OL n) (au E9 aB))))) func230 Ty n
def QN:b7 xx:=⟨[.d (.sl (.st SI.iv))],[.fresh ay,.d ah],λa=>tZ n a.1,none⟩
def QO:Hn SI:=(gx (.s (.s .z (.b (.l ⟨[(4,.o 1576),(19,.v ah)],[(1576,.l ah)],[0,17,18],[],1577,[(4,ah)]⟩ 0 ⟨[(4,.o 1576)],[(1576,.l ah)],[0],[],1577,[]⟩ .z))) (ux (.s (.s .z (.b (.l ⟨[(8,.o 2409),(38,.v ah)],[(2409,.l ay)],[4,7,37],[1576,1961],2410,[(8,ay)]⟩ 2 ⟨[(8,.o 2409)],[(2409,.l ay)],[],[],2410,[]⟩ (b9 (.s (.b (b9 (.s (.s .z (.b (.l ⟨[(10,.o 2858),(43,.v ah)],[(2858,.l ah)],[4,7,8,9,37,38,41,42],[1576,1961,2409],2859,[(10,ah)]⟩ 4 ⟨[(10,.o 2858)],[(2858,.l ah)],[4,7,8,9,37,38],[1576,1961,2409],2859,[]⟩ (b9 (.s (.j ⟨[(10,.o 2923)],[(2923,.l ah)],[4,7,8,9,37,38,41,42,43],[1576,1961,2409],2924,[]⟩ (.b (.s .z (.s (.j ⟨[(77,.v .bool)],[],[4,7,8,9,10,12,37,38,41,42,43],[1576,1961,2409,2858,3051],3179,[]⟩ .z) .z)))) .z))))) (b9 (.b (.l ⟨[(8,.o 3051),(13,.v ah)],[(3051,.l ay)],[4,7,9,10,37,38],[1576,1961,2858],3052,[]⟩ 6 ⟨[(8,.o 3051)],[(3051,.l ay)],[4,7,37,38],[1576,1961],3052,[]⟩ .z)))))) .z))))) .z))))
theorem QR:aJ 193 (QN n) :=cq (au (Tz n) (au (vU n) (au (vD n) (au (Da n) (au uJ aB))))) func193 QO n
def Yb:b7 xx:=⟨[.d bE],[.fresh ay],λa=>xN n a.1,none⟩
theorem Yc:aJ 156 (Yb n) :=cq (au (QR n) aB) func156 .z n
def TA:b7 xx:=⟨[.d (.sl ay),.d (.sl ay)],[.d ah,.d (.st SI.iv)],λa=>vL n a.1 a.2.1,none⟩
def TB:Hn SI:=(b9 (.s (.s .z (.b (.l ⟨[(6,.v ah),(18,.v ah)],[(1192,uu)],[1,5,7,16,17],[1064],1576,[]⟩ 0 ⟨[(6,.v ah)],[(1192,uu)],[5,7],[1064],1576,[]⟩ (b9 (.s (.b (b9 (.b (.l ⟨[(6,.v ah),(24,.v ah)],[(1192,uu)],[1,5,7,9,16,17,18,22,23],[1064,1768],2088,[]⟩ 2 ⟨[(6,.v ah)],[(1192,uu)],[1,5,7,16,17,18],[1064],2088,[]⟩ (b9 (.s (.j ⟨[(6,.v ah)],[(1192,uu)],[1,5,7,9,16,17,18,22,23,24],[1064,1768],2152,[]⟩ .z) .z)))))) .z))))) .z))
theorem TD:aJ 155 (TA n) :=cq (au Bn (au ze (au lW (au (EZ n) aB)))) func155 TB n
def TF:b7 xx:=⟨[.d dF,.d (.sl ay)],[.fresh ah],λa=>vM n a.1 a.2.1,none⟩
def TH:Hn SI:=(gx (.s (.s .z (.b (.l ⟨[(5,.o 1640),(16,.v ah)],[(1640,.l ah)],[1,14,15],[],1641,[(5,ah)]⟩ 0 ⟨[(5,.o 1640)],[(1640,.l ah)],[],[],1641,[]⟩ .z))) .z))
theorem TJ:aJ 109 (TF n) :=cq (au (pF n) (au (Yc n) (au (TD n) aB))) func109 TH n
def afj:b7 xx:=⟨[.d dF,.d (.sl ay)],[.fresh .str],λa=>CR n a.1 a.2.1,none⟩
def afk:Hn SI:=(gx (.s (.s .z (.b (.l ⟨[(6,.v ah),(17,.v ah)],[],[2,5,15,16],[1000,1256],1640,[]⟩ 0 ⟨[(6,.v ah)],[],[2,5],[1000,1256],1640,[]⟩ (b9 (.s (.j ⟨[(6,.v ah)],[],[2,5,15,16,17],[1000,1256],1704,[]⟩ (.b (.s .z (.s (.j ⟨[(44,.v .bool)],[],[2,5,6,7,15,16,17],[1000,1256],2024,[]⟩ .z) .z)))) .z))))) (.s .z (.s (.s .z (.b (.l ⟨[(9,.o 1896),(49,.v ah)],[(1896,.l .str)],[2,6,47,48],[1000,1256],1897,[(9,.str)]⟩ 2 ⟨[(9,.o 1896)],[(1896,.l .str)],[],[],1897,[]⟩ (b9 (.s (.j ⟨[(9,.o 1961)],[(1961,.l .str)],[2,6,47,48,49],[1000,1256],1962,[]⟩ (.b (.s .z (.s (.j ⟨[(68,.v .bool)],[],[2,6,9,10,47,48,49],[1000,1256,1896],2281,[]⟩ .z) .z)))) .z))))) .z))))
theorem afl:aJ 76 (afj n) :=cq (au (TJ n) aB) func76 afk n
def Zk:b7 xx:=⟨[.d fH,.d (.st SI.d5)],[.d (.st SI.ke),.d ah],λa=>Ai n a.1 a.2.1,none⟩
theorem Zl:aJ 45 (Zk n) :=cq (au (akr n) (au (Tw n) (au (QI n) (au (afl n) aB)))) func45 .z n
def OM:b7 xx:=⟨[.d (.sl .str),.d .str],[.d ah],λa=>ru n a.1 a.2.1,none⟩
def OO:Hn SI:=(.s .z (.s (.s .z (.b (.lx ⟨[(8,.v ah)],[],[0,1,7],[],1256,[]⟩ 0 ⟨[],[],[],[],1256,[]⟩ .z))) .z))
theorem OQ:aJ 77 (OM n) :=cq aB func77 OO n
def I7:b7 xx:=⟨[.d (.sl .str),.d .str],[.d .bool],λa=>fI n a.1 a.2.1,none⟩
theorem pG:aJ 47 (I7 n) :=cq (au (OQ n) aB) func47 .z n
def LM:b7 xx:=⟨[.d .str,.ref (.sl .str)],[.d .bool],λa=>j3 n a.1 a.2.1,none⟩
theorem LP:aJ 110 (LM n) :=cq (au (pG n) aB) func110 .z n
def F3:b7 xx:=⟨[.d (.sl .str),.d8 [.str] .bool],[.d ah],λa=>qo n a.1 a.2.1,none⟩
def F4:Hn SI:=(.s .z (.s (.s .z (.b (.lx ⟨[(8,.v ah)],[],[0,1,7],[],1256,[]⟩ 0 ⟨[],[],[],[],1256,[]⟩ .z))) .z))
theorem F5:aJ 157 (F3 n) :=cq aB func157 F4 n
def Bp:b7 xx:=⟨[.d (.sl .str),.d8 [.str] .bool],[.d .bool],λa=>fO n a.1 a.2.1,none⟩
theorem Bq:aJ 111 (Bp n) :=cq (au (F5 n) aB) func111 .z n
def TK:b7 xx:=⟨[.d bB,.d (.sl .str)],[.d .bool],λa=>qI n a.1 a.2.1,none⟩
theorem TM:aJ 78 (TK n) :=cq (au (Bq n) (au (LP n) aB)) func78 .z n
def Yd:b7 xx:=⟨[.d dF,.d (.sl .str),.d ah],[.fresh ah],λa=>uf n a.1 a.2.1 a.2.2.1,none⟩
def Ye:Hn SI:=(b9 (.s (.s .z (.b (.l ⟨[(7,.o 1448),(13,.v ah)],[(1448,.l ah)],[1,2,11,12],[],1449,[(7,ah)]⟩ 0 ⟨[(7,.o 1448)],[(1448,.l ah)],[],[],1449,[]⟩ (b9 (.s (.j ⟨[(7,.o 1513)],[(1513,.l ah)],[1,2,11,12,13],[],1514,[]⟩ (.b (.s .z (.s (.j ⟨[(37,.v .bool)],[],[1,2,7,8,11,12,13],[1448],1897,[]⟩ .z) .z)))) .z))))) .z))
theorem Yf:aJ 48 (Yd n) :=cq (au (TM n) aB) func48 Ye n
def LQ:b7 xx:=⟨[.mut ay,.d8 [ay,ay] ah],[.mu ay],λa=>vv n a.1 a.2.1,none⟩
theorem LU:aJ 163 (LQ n):=by
 have hcall:eO Tryz.prog 163:=⟨_,func163,by kernel_rfl,by kernel_rfl⟩;refine zr hcall (λ a r h=>?_) rfl;obtain⟨l,φ,⟨⟩⟩:=a;refine aaz (X:=xx) (i:=SI.mj) (hI:=(inferInstance:Inhabited ax)) Tryz.so163 rfl hcall Tryz.underlying66 (by kernel_rfl) (λ x t ht=>?_) h;cases x;have ht:t∈[_,_,_,_]:=ht;simp only[aN,fD,or_false]at ht;rcases ht with rfl |rfl |rfl |rfl<;>exact⟨_,rfl,trivial⟩
def Db:b7 xx:=⟨[.d ay,.d ay],[.d ah],λa=>iP a.1 a.2.1,none⟩
theorem Dc:aJ 164 Db :=cq (au lW aB) func164 .z 0
def OT:b7 xx:=⟨[.d aG],[.d ah],λa=>kS a.1,none⟩
def OU:Hn SI:=(.s .z (.s (.s (.j ⟨[(9,.v .bool)],[],[1],[1000],1128,[]⟩ .z) .z) .z))
theorem AL:aJ 168 OT :=cq (au kJ aB) func168 OU 0
def TN:b7 xx:=⟨[.d aG],[.d ah],λa=>oD a.1,none⟩
theorem FI:aJ 166 TN :=cq (au kJ (au ze (au AL aB))) func166 .z 0
def Br:b7 xx:=⟨[.d aG],[.d ah],λa=>nJ a.1,none⟩
theorem Bt:aJ 169 Br :=cq aB func169 .z 0
def Df:b7 xx:=⟨[.d aG],[.d ah],λa=>oI a.1,none⟩
theorem Dg:aJ 170 Df :=cq aB func170 .z 0
def TP:b7 xx:=⟨[.d ay,.d ah],[.d ay,.d .bool],λa=>Be a.1 a.2.1,none⟩
theorem TQ:aJ 205 TP :=cq (au oG aB) func205 .z 0
def QS:b7 xx:=⟨[.d (.st SI.Entry),.ref (.st SI.m4),.ref ah],[.d .bool],λa=>ku a.1 a.2.1 a.2.2.1,none⟩
theorem QT:aJ 246 QS :=cq aB func246 .z 0
def I8:b7 xx:=⟨[.d (.sl (.st SI.Entry)),.d8 [.st SI.Entry] .bool],[.d ah],λa=>kz n a.1 a.2.1,none⟩
def I9:Hn SI:=(.s .z (.s (.s .z (.b (.lx ⟨[(8,.v ah)],[],[0,1,7],[],1256,[]⟩ 0 ⟨[],[],[],[],1256,[]⟩ .z))) .z))
theorem wS:aJ 201 (I8 n) :=cq aB func201 I9 n
def Zm:b7 xx:=⟨[.d dF,.d ah],[.d ah],λa=>Aj n a.1 a.2.1,none⟩
def Zn:Hn SI:=(b9 (.s (.s .z (.b (.lx ⟨[(14,.v ah)],[],[3,5,12,13],[1064,1256],1640,[]⟩ 0 ⟨[],[],[],[],1640,[]⟩ (b9 (.s (.b (gx (.s (.j ⟨[(8,.v ah)],[],[],[],2344,[]⟩ .z) .z))) .z))))) .z))
theorem Zo:aJ 206 (Zm n) :=cq (au (wS n) (au QT aB)) func206 Zn n
def OV:b7 xx:=⟨[.d dF,.d aG],[.d ah],λa=>kT n a.1 a.2.1,none⟩
def OW:Hn SI:=(b9 (.s (.s (.j ⟨[(20,.v .bool)],[],[5,6],[],1704,[]⟩ .z) .z) .z))
theorem OX:aJ 173 (OV n) :=cq (au (Zo n) (au FI aB)) func173 OW n
def F6:c7 xx:=⟨[.p 0],[(0,fg),(1,.l aG)],[.v ah],[(0,fg),(1,.l aG)],λv=>mH n v.1 v.2.1 v.2.2.1 v.2.2.2.1 v.2.2.2.2.1 v.2.2.2.2.2.1 v.2.2.2.2.2.2.1 v.2.2.2.2.2.2.2.1 v.2.2.2.2.2.2.2.2.1 v.2.2.2.2.2.2.2.2.2⟩
def F7:b7 xx:=⟨[],[.d .bool],λ_=>none,some (F6 n)⟩
theorem F8:aJ 117 (F7 n) :=oy (au (QD n) aB) func117 .z n (by kernel_rfl) λ_=>by kernel_rfl
def Dh:c7 xx:=⟨[.p 0],[(0,fg),(1,.l aG)],[.v ah],[(0,fg),(1,.l aG)],λv=>iQ n v.1 v.2.1 v.2.2.1 v.2.2.2.1 v.2.2.2.2.1 v.2.2.2.2.2.1 v.2.2.2.2.2.2.1 v.2.2.2.2.2.2.2.1 v.2.2.2.2.2.2.2.2.1 v.2.2.2.2.2.2.2.2.2⟩
def Di:b7 xx:=⟨[],[.d .bool],λ_=>none,some (Dh n)⟩
def Dj:Hn SI:=(gx (.s (.s .z (.b (.l ⟨[(3,.o 1960),(23,.v ah)],[(1448,.l ay),(1960,.l ah)],[4,21,22],[0,1],1961,[(3,ah)]⟩ 0 ⟨[(3,.o 1960)],[(1448,.l ay),(1960,.l ah)],[4],[0,1],1961,[]⟩ .z))) (gx (.s (.s .z (.b (.l ⟨[(7,.v ah),(56,.v ah)],[],[3,4,55],[0,1,1448,1960],2601,[]⟩ 2 ⟨[(7,.v ah)],[],[],[0,1],2601,[]⟩ (b9 (.s (.b (gx (.b (.l ⟨[(7,.v ah),(9,.v ah),(61,.v ah)],[],[3,4,8,55,56,59,60],[0,1,1448,1960],3049,[]⟩ 4 ⟨[(7,.v ah)],[],[3,4,55,56],[0,1,1448,1960],3049,[]⟩ (b9 (.s (.j ⟨[(7,.v ah),(9,.v ah)],[],[3,4,8,55,56,59,60,61],[0,1,1448,1960],3113,[]⟩ (.b (.s .z (.s (.j ⟨[(86,.v .bool)],[],[3,4,7,8,9,11,55,56,59,60,61],[0,1,1448,1960,3241],3369,[]⟩ .z) .z)))) .z)))))) .z))))) .z))))
theorem Dk:aJ 118 (Di n) :=oy (au (LU n) (au Dc (au (vU n) aB))) func118 Dj n (by kernel_rfl) λ_=>by kernel_rfl
def F9:c7 xx:=⟨[.p 0,(.f 166 [] [])],[(0,fg),(1,.l aG)],[.v ah],[(0,fg),(1,.l aG)],λv=>qp n v.1 v.2.1 v.2.2.1 v.2.2.2.1 v.2.2.2.2.1 v.2.2.2.2.2.1 v.2.2.2.2.2.2.1 v.2.2.2.2.2.2.2.1 v.2.2.2.2.2.2.2.2.1 v.2.2.2.2.2.2.2.2.2⟩
def Ga:b7 xx:=⟨[],[.d .bool],λ_=>none,some (F9 n)⟩
def Gc:Hn SI:=(b9 (.s (.s .z (.b (.l ⟨[(5,.v ah),(13,.v ah)],[],[1,11,12],[0,1],1512,[]⟩ 0 ⟨[(5,.v ah)],[],[],[0,1],1512,[]⟩ .z))) .z))
theorem Gd:aJ 165 (Ga n) :=oy (au FI aB) func165 Gc n (by kernel_rfl) λ_=>by kernel_rfl
def Dl:c7 xx:=⟨[.p 0],[(0,fg),(1,.l aG)],[.v ah],[(0,fg),(1,.l aG)],λv=>kF n v.1 v.2.1 v.2.2.1 v.2.2.2.1 v.2.2.2.2.1 v.2.2.2.2.2.1 v.2.2.2.2.2.2.1 v.2.2.2.2.2.2.2.1 v.2.2.2.2.2.2.2.2.1 v.2.2.2.2.2.2.2.2.2⟩
def Dm:b7 xx:=⟨[],[.d .bool],λ_=>none,some (Dl n)⟩
theorem Dn:aJ 119 (Dm n) :=oy (au (Gd n) aB) func119 .z n (by kernel_rfl) λ_=>by kernel_rfl
def zf:c7 xx:=⟨[.p 0,(.f 168 [] [])],[(0,fg),(1,.l aG)],[.v ah],[(0,fg),(1,.l aG)],λv=>l7 n v.1 v.2.1 v.2.2.1 v.2.2.2.1 v.2.2.2.2.1 v.2.2.2.2.2.1 v.2.2.2.2.2.2.1 v.2.2.2.2.2.2.2.1 v.2.2.2.2.2.2.2.2.1 v.2.2.2.2.2.2.2.2.2⟩
def zh:b7 xx:=⟨[],[.d .bool],λ_=>none,some (zf n)⟩
def zi:Hn SI:=(b9 (.s (.s .z (.b (.l ⟨[(5,.v ah),(13,.v ah)],[],[1,11,12],[0,1],1512,[]⟩ 0 ⟨[(5,.v ah)],[],[],[0,1],1512,[]⟩ .z))) .z))
theorem zk:aJ 167 (zh n) :=oy (au AL aB) func167 zi n (by kernel_rfl) λ_=>by kernel_rfl
def Bu:c7 xx:=⟨[.p 0],[(0,fg),(1,.l aG)],[.v ah],[(0,fg),(1,.l aG)],λv=>jJ n v.1 v.2.1 v.2.2.1 v.2.2.2.1 v.2.2.2.2.1 v.2.2.2.2.2.1 v.2.2.2.2.2.2.1 v.2.2.2.2.2.2.2.1 v.2.2.2.2.2.2.2.2.1 v.2.2.2.2.2.2.2.2.2⟩
def Bv:b7 xx:=⟨[],[.d .bool],λ_=>none,some (Bu n)⟩
theorem Bw:aJ 120 (Bv n) :=oy (au (zk n) aB) func120 .z n (by kernel_rfl) λ_=>by kernel_rfl
def zl:c7 xx:=⟨[.p 0,(.f 169 [] [])],[(0,fg),(1,.l aG)],[.v ah],[(0,fg),(1,.l aG)],λv=>l8 n v.1 v.2.1 v.2.2.1 v.2.2.2.1 v.2.2.2.2.1 v.2.2.2.2.2.1 v.2.2.2.2.2.2.1 v.2.2.2.2.2.2.2.1 v.2.2.2.2.2.2.2.2.1 v.2.2.2.2.2.2.2.2.2⟩
def zm:b7 xx:=⟨[],[.d .bool],λ_=>none,some (zl n)⟩
def zn:Hn SI:=(b9 (.s (.s .z (.b (.l ⟨[(5,.v ah),(13,.v ah)],[],[1,11,12],[0,1],1512,[]⟩ 0 ⟨[(5,.v ah)],[],[],[0,1],1512,[]⟩ .z))) .z))
theorem zo:aJ 167 (zm n) :=oy (au Bt aB) func167 zn n (by kernel_rfl) λ_=>by kernel_rfl
def Bz:c7 xx:=⟨[.p 0],[(0,fg),(1,.l aG)],[.v ah],[(0,fg),(1,.l aG)],λv=>jK n v.1 v.2.1 v.2.2.1 v.2.2.2.1 v.2.2.2.2.1 v.2.2.2.2.2.1 v.2.2.2.2.2.2.1 v.2.2.2.2.2.2.2.1 v.2.2.2.2.2.2.2.2.1 v.2.2.2.2.2.2.2.2.2⟩
def BB:b7 xx:=⟨[],[.d .bool],λ_=>none,some (Bz n)⟩
theorem BD:aJ 121 (BB n) :=oy (au (zo n) aB) func121 .z n (by kernel_rfl) λ_=>by kernel_rfl
def Gf:c7 xx:=⟨[.p 0,(.f 170 [] [])],[(0,fg),(1,.l aG)],[.v ah],[(0,fg),(1,.l aG)],λv=>qw n v.1 v.2.1 v.2.2.1 v.2.2.2.1 v.2.2.2.2.1 v.2.2.2.2.2.1 v.2.2.2.2.2.2.1 v.2.2.2.2.2.2.2.1 v.2.2.2.2.2.2.2.2.1 v.2.2.2.2.2.2.2.2.2⟩
def Gg:b7 xx:=⟨[],[.d .bool],λ_=>none,some (Gf n)⟩
def Gh:Hn SI:=(b9 (.s (.s .z (.b (.l ⟨[(5,.v ah),(13,.v ah)],[],[1,11,12],[0,1],1512,[]⟩ 0 ⟨[(5,.v ah)],[],[],[0,1],1512,[]⟩ .z))) .z))
theorem Gi:aJ 165 (Gg n) :=oy (au Dg aB) func165 Gh n (by kernel_rfl) λ_=>by kernel_rfl
def Dp:c7 xx:=⟨[.p 0],[(0,fg),(1,.l aG)],[.v ah],[(0,fg),(1,.l aG)],λv=>kG n v.1 v.2.1 v.2.2.1 v.2.2.2.1 v.2.2.2.2.1 v.2.2.2.2.2.1 v.2.2.2.2.2.2.1 v.2.2.2.2.2.2.2.1 v.2.2.2.2.2.2.2.2.1 v.2.2.2.2.2.2.2.2.2⟩
def Dq:b7 xx:=⟨[],[.d .bool],λ_=>none,some (Dp n)⟩
theorem Dr:aJ 122 (Dq n) :=oy (au (Gi n) aB) func122 .z n (by kernel_rfl) λ_=>by kernel_rfl
def BG:c7 xx:=⟨[.p 0,.v ay,.v ah],[(0,fg),(1,.l aG)],[.v .bool],[(0,fg),(1,.l aG)],λv=>jM n v.1 v.2.1 v.2.2.1 v.2.2.2.1 v.2.2.2.2.1 v.2.2.2.2.2.1 v.2.2.2.2.2.2.1 v.2.2.2.2.2.2.2.1 v.2.2.2.2.2.2.2.2.1 v.2.2.2.2.2.2.2.2.2.1 v.2.2.2.2.2.2.2.2.2.2.1 v.2.2.2.2.2.2.2.2.2.2.2⟩
def BH:b7 xx:=⟨[],[.d .bool],λ_=>none,some (BG n)⟩
def BJ:Hn SI:=(ux (.s (.s .z (.b (.l ⟨[(9,.v ah),(27,.v ah)],[],[7,25,26],[0,1,1512],2280,[]⟩ 0 ⟨[(9,.v ah)],[],[7],[0,1,1512],2280,[]⟩ (b9 (.s (.j ⟨[(9,.v ah)],[],[7,25,26,27],[0,1,1512],2344,[]⟩ .z) .z))))) .z))
theorem BK:aJ 171 (BH n) :=oy (au TQ (au Bn (au ze aB))) func171 BJ n (by kernel_rfl) λ_=>by kernel_rfl
def zM:c7 xx:=⟨[.p 0],[(0,fg),(1,.l aG)],[.v ah],[(0,fg),(1,.l aG)],λv=>jo n v.1 v.2.1 v.2.2.1 v.2.2.2.1 v.2.2.2.2.1 v.2.2.2.2.2.1 v.2.2.2.2.2.2.1 v.2.2.2.2.2.2.2.1 v.2.2.2.2.2.2.2.2.1 v.2.2.2.2.2.2.2.2.2⟩
def zN:b7 xx:=⟨[],[.d .bool],λ_=>none,some (zM n)⟩
def zO:Hn SI:=(b9 (.s (.s .z (.b (.l ⟨[(3,.v ah),(14,.v ah)],[(0,fg),(1,.l aG)],[0,12,13],[],1512,[]⟩ 0 ⟨[(3,.v ah)],[(0,fg),(1,.l aG)],[],[],1512,[]⟩ (b9 (.s (.b (b9 (.s (.b (.l ⟨[(6,.v ah),(7,.v ah)],[(0,fg),(1,.l aG)],[0,5,12,13,14],[1704],2024,[]⟩ 2 ⟨[(6,.v ah)],[(0,fg),(1,.l aG)],[0,12,13,14],[],2024,[]⟩ .z)) .z))) .z))))) .z))
theorem zP:aJ 123 (zN n) :=oy (au (BK n) aB) func123 zO n (by kernel_rfl) λ_=>by kernel_rfl
def xg:c7 xx:=⟨[.v aG,.p 0],[(0,.c 1 [[.p 1]]),(1,tI),(2,.l aG)],[.v ah],[(0,.c 1 [[.p 1]]),(1,tI),(2,.l aG)],λv=>kD n v.1 v.2.1 v.2.2.1 v.2.2.2.1 v.2.2.2.2.1 v.2.2.2.2.2.1 v.2.2.2.2.2.2.1 v.2.2.2.2.2.2.2.1 v.2.2.2.2.2.2.2.2.1 v.2.2.2.2.2.2.2.2.2.1 v.2.2.2.2.2.2.2.2.2.2⟩
def xh:b7 xx:=⟨[],[.d .bool],λ_=>none,some (xg n)⟩
theorem xk:aJ 172 (xh n) :=oy (au (OX n) aB) func172 .z n (by kernel_rfl) λ_=>by kernel_rfl
def Gj:c7 xx:=⟨[.p 0,(.f 172 [] [.p 1])],[(0,tI),(1,.c 1 [[.p 0]]),(2,.l aG)],[.v ah],[(0,tI),(1,.c 1 [[.p 0]]),(2,.l aG)],λv=>qx n v.1 v.2.1 v.2.2.1 v.2.2.2.1 v.2.2.2.2.1 v.2.2.2.2.2.1 v.2.2.2.2.2.2.1 v.2.2.2.2.2.2.2.1 v.2.2.2.2.2.2.2.2.1 v.2.2.2.2.2.2.2.2.2⟩
def Gl:b7 xx:=⟨[],[.d .bool],λ_=>none,some (Gj n)⟩
def Gm:Hn SI:=(b9 (.s (.s .z (.b (.l ⟨[(5,.v ah),(13,.v ah)],[(0,tI),(1,.c 1 [[.p 0]]),(2,.l aG)],[1,11,12],[],1512,[]⟩ 0 ⟨[(5,.v ah)],[(0,tI),(1,.c 1 [[.p 0]]),(2,.l aG)],[],[],1512,[]⟩ .z))) .z))
theorem Gn:aJ 165 (Gl n) :=oy (au (xk n) aB) func165 Gm n (by kernel_rfl) λ_=>by kernel_rfl
def zQ:c7 xx:=⟨[.p 0],[(0,fg),(1,.l aG)],[.v ah],[(0,fg),(1,.l aG)],λv=>jq n v.1 v.2.1 v.2.2.1 v.2.2.2.1 v.2.2.2.2.1 v.2.2.2.2.2.1 v.2.2.2.2.2.2.1 v.2.2.2.2.2.2.2.1 v.2.2.2.2.2.2.2.2.1 v.2.2.2.2.2.2.2.2.2⟩
def zR:b7 xx:=⟨[],[.d .bool],λ_=>none,some (zQ n)⟩
theorem zS:aJ 124 (zR n) :=oy (au (Gn n) aB) func124 .z n (by kernel_rfl) λ_=>by kernel_rfl
def acB:b7 xx:=⟨[.d dF,.d iU,.d (.st SI.d5)],[.fresh (.st SI.Entry)],λa=>iW n a.1 a.2.1 a.2.2.1,none⟩
def acC:Hn SI:=(b9 (.s (.j ⟨[],[(1384,.c 10 [[.v (.sl bC),.v (.sl bn),.v (.sl bE),.v (.sl bB),.v (.sl bK),.v (.sl bG),.v (.sl aW),.v ah,.v (.sl ay),.nil]])],[5,7],[1128],1512,[]⟩ .z) (.s (.s .z (.b (.l ⟨[(31,.v ah)],[(1384,GP),(1960,.l aG)],[7,29,30],[1768],1961,[(6668873,aG)]⟩ 0 ⟨[],[(1384,GP),(1960,.l aG)],[7],[],1961,[]⟩ (b9 (.s (.j ⟨[],[(1384,.c 10 [[.v (.sl bC),.v (.sl bn),.v (.sl bE),.v (.sl bB),.v (.sl bK),.v (.sl bG),.v (.sl aW),.v ah,.v (.sl ay),.o 2025]]),(2025,.l aG)],[7,29,30,31],[1768],2026,[]⟩ (.b (.s .z (.s (.j ⟨[(41,.v .bool)],[],[7,9,29,30,31],[1384,1768,1960,2217],2409,[]⟩ .z) .z)))) .z))))) (b9 (.s (.s .z (.b (.un .z (.un .z (.un .z (.un .z (.un .z (.un .z (.un .z (.un .z (.un .z (.un .z .z)))))))))))) .z)))))
theorem acD:aJ 80 (acB n) :=cq (au (pF n) (au (AJ n) (au kJ (au (F8 n) (au (Dk n) (au (Dn n) (au (Bw n) (au (BD n) (au (Dr n) (au (zP n) (au (zS n) aB))))))))))) func80 acC n
def ahG:b7 xx:=⟨[.d ah],[.d ah,.d .bool],λa=>yU a.1,none⟩
def ahH:Hn SI:=(.s .z (.s (.s .z (.b (.s (.j ⟨[(5,.v .bool)],[],[0,4],[],1192,[]⟩ .z) (.s .z (.s (.j ⟨[(10,.v .bool)],[],[0,4],[],1192,[]⟩ .z) .z))))) .z))
theorem ahI:aJ 194 ahG :=cq aB func194 ahH 0
def afm:Hn SI:=(b9 (.s (.s (.j ⟨[(28,.v .bool)],[],[1,2],[1000],1640,[]⟩ .z) .z) (.s .z (.s (.s .z (.b (.l ⟨[(7,.v ah),(32,.v ah)],[],[1,30,31],[],1960,[]⟩ 0 ⟨[(7,.v ah)],[],[],[],1960,[]⟩ .z))) .z))))
theorem acE(rc:(cu)->(Int)->J Int)(hr:aJ 158 (Et rc)):aJ 158 (Et (Ak n rc)) :=cq (au ahI (au hr aB)) func158 afm n
theorem OY(n:Nat):∀m,aJ 158 (Et (sN n m))
 | 0=>zr (ng func158 (by kernel_rfl:Tryz.f158.body=some (Tryz.f158.body.getD .skip)) (by kernel_rfl)) (λ _ _ h=>(by cases h)) rfl
 |m+1=>acE n _ (OY n m)
def afn:b7 xx:=⟨[.d (.st SI.Expr),.d ah],[.d ah],λa=>Qc n a.1 a.2.1,none⟩
theorem afo:aJ 158 (afn n):=OY n n
end
end Go.Proofs
