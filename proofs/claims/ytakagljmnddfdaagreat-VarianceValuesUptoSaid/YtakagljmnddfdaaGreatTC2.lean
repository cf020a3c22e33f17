import Derived.Test.YtakagljmnddfdaaGreatTC1
namespace Go.Proofs
open Go.Gb Go.RowKit
open Tryz
noncomputable section
variable (n:Nat)
def abG:bz xx:=⟨[.d .str],[.d .bool],λa=>xK n a.1,none⟩
theorem abH:aK 133 (abG n) :=cq (au (ajo n) (au NE aA)) func133 .z n
def Z5:bz xx:=⟨[.d dR],[.d .bool],λa=>yL n a.1,none⟩
def Z6:Hn SI:=(b8 (.s (.s (.j ⟨[(42,.v .bool)],[],[1,3],[1000,1192],1320,[]⟩ .z) .z) (.s (.s .z (.b (.lx ⟨[(45,.v ah)],[],[1,3,43,44],[1000,1192],1512,[]⟩ 0 ⟨[],[],[1],[1000],1512,[]⟩ (b8 (.s (.b (.s .z (.s (.j ⟨[(59,.v .bool)],[],[1,3,43,44,45],[1000,1192],1960,[]⟩ .z) .z))) .z))))) (.s (.s .z (.b (.lx ⟨[(64,.v ah)],[],[62,63],[],1768,[]⟩ 2 ⟨[],[],[],[],1768,[]⟩ (b8 (.s (.b (b8 (.s (.s .z (.b (.lx ⟨[(72,.v ah)],[(2088,.m .str .bool)],[7,8,62,63,64,70,71],[1960],2472,[]⟩ 4 ⟨[],[],[7,62,63,64],[1960],2472,[]⟩ (b8 (.s (.b (.s .z (.s (.s (.j ⟨[(95,.v .bool)],[],[7,8,10,62,63,64,70,71,72],[1960,2088,2664],2792,[]⟩ .z) .z) .z))) .z))))) .z))) .z))))) .z))))
theorem Z7:aK 86 (Z5 n) :=cq (au (ME n) (au kY (au (sJ n) (au Qs (au (abH n) aA))))) func86 Z6 n
def vR:bz xx:=⟨[.d (.sl (.st SI.strip)),.d ah,.du [.st SI.strip,ah] ah],[.d ah,.d .bool],λa=>jk n a.1 a.2.1 a.2.2.1,none⟩
def vS:Hn SI:=(fi (.s (.b (.l ⟨[(9,.v ah),(10,.v ah)],[],[0,1,2,8],[],1512,[]⟩ 0 ⟨[(9,.v ah)],[],[0,1,2,8],[],1512,[]⟩ .z)) .z))
theorem vT:aK 235 (vR n) :=cq aA func235 vS n
def ajp:bz xx:=⟨[.d (.st SI.strip),.d ah],[.d ah],λa=>xL a.1 a.2.1,none⟩
theorem ajq:aK 236 ajp :=cq aA func236 .z 0
def apL:bz xx:=⟨[.d (.sl (.st SI.strip)),.d ah],[.d (.sl (.st SI.span))],λa=>YP n a.1 a.2.1,none⟩
def apM:Hn SI:=(b8 (.s (.s (.j ⟨[(25,.v .bool)],[],[0,5],[],1576,[]⟩ .z) .z) .z))
theorem apN:aK 194 (apL n) :=cq (au (vT n) (au ajq aA)) func194 apM n
def Z8:bz xx:=⟨[.nil,.d ah],[.fresh (.st SI.span)],λa=>Pm a.1 a.2.1,none⟩
theorem Z9:aK 260 Z8 :=cq aA func260 .z 0
def SQ:bz xx:=⟨[.d (.sl (.sl (.st SI.span)))],[.fresh (.st SI.span)],λa=>zS n a.1,none⟩
def SS:Hn SI:=(b8 (.s (.s .z (.b (.l ⟨[(3,.v ah),(11,.v ah)],[],[0,9,10],[],1320,[]⟩ 0 ⟨[(3,.v ah)],[],[0],[],1320,[]⟩ .z))) (.s .z (.s (.s .z (.b (.l ⟨[(6,.o 1704),(27,.v ah)],[(1704,.l (.st SI.span))],[25,26],[],1705,[]⟩ 2 ⟨[(6,.o 1704)],[(1704,.l (.st SI.span))],[],[],1705,[]⟩ .z))) .z))))
theorem SV:aK 233 (SQ n) :=cq (au Z9 aA) func233 SS n
def wK:bz xx:=⟨[.d (.sl (.st SI.span)),.d ah,.du [.st SI.span,ah] ah],[.d ah,.d .bool],λa=>jJ n a.1 a.2.1 a.2.2.1,none⟩
def wL:Hn SI:=(fi (.s (.b (.l ⟨[(9,.v ah),(10,.v ah)],[],[0,1,2,8],[],1512,[]⟩ 0 ⟨[(9,.v ah)],[],[0,1,2,8],[],1512,[]⟩ .z)) .z))
theorem wM:aK 261 (wK n) :=cq aA func261 wL n
def aac:bz xx:=⟨[.d (.st SI.span),.d ah],[.d ah],λa=>l9 a.1 a.2.1,none⟩
theorem aad:aK 262 aac :=cq aA func262 .z 0
def ahe:bz xx:=⟨[.d (.sl (.st SI.span)),.d ah],[.d .bool],λa=>Ed n a.1 a.2.1,none⟩
theorem ahf:aK 234 (ahe n) :=cq (au (wM n) (au aad aA)) func234 .z n
def ajr:bz xx:=⟨[.d (.sl (.st SI.span)),.d (.sl (.st SI.span)),.du [.bool,.bool] .bool],[.fresh (.st SI.span)],λa=>JC n a.1 a.2.1 a.2.2.1,none⟩
def ajs:Hn SI:=(b8 (.s (.s .z (.b (.l ⟨[(7,.o 1512),(19,.v ah)],[(1512,.l ah)],[0,1,2,17,18],[1320],1513,[(7,ah)]⟩ 0 ⟨[(7,.o 1512)],[(1512,.l ah)],[0,1,2],[],1513,[]⟩ .z))) (fi (.s (.s .z (.b (.l ⟨[(10,.o 1961),(11,.v ah)],[(1961,.l (.st SI.span))],[0,1,2,7],[1512],1962,[(10,.st SI.span)]⟩ 2 ⟨[(10,.o 1961)],[(1961,.l (.st SI.span))],[],[],1962,[]⟩ (.s .z (.s (.j ⟨[(10,.o 2218)],[(2218,.l (.st SI.span))],[0,1,2,7,11],[1512],2219,[]⟩ (.b (fi (.s (.j ⟨[(68,.v .bool)],[],[0,1,2,7,10,11,12,13],[1512,1961],3370,[]⟩ .z) .z)))) .z))))) .z))))
theorem ajt:aK 193 (ajr n) :=cq (au (SV n) (au (sH n) (au (qY n) (au (ahf n) aA)))) func193 ajs n
def aeD:bz xx:=⟨[.d (.sl aB),.d (.sl aB),.du [.bool,.bool] .bool],[.d (.sl aB),.d ah],λa=>FH n a.1 a.2.1 a.2.2.1,none⟩
def aeE:Hn SI:=(.s .z (.s (.s (.j ⟨[(20,.v .bool)],[],[0,1,2],[],1128,[]⟩ .z) .z) (.s (.f [6,7]) (.s .z (.s (.s .z (.b (.l ⟨[(33,.v ah)],[(1832,.l (.st SI.strip))],[2,8,9,10,31,32],[],2152,[]⟩ 0 ⟨[],[(1832,.l (.st SI.strip))],[10],[],2152,[]⟩ .z))) .z)))))
theorem aeF:aK 134 (aeD n) :=cq (au (oL n) (au (UB n) (au (apN n) (au (ajt n) (au (ZP n) (au P6 aA)))))) func134 aeE n
def aae:bz xx:=⟨[.d .bool,.d .bool],[.d .bool],λa=>yM a.1 a.2.1,none⟩
theorem aaf:aK 135 aae :=cq aA func135 .z 0
def ahg:bz xx:=⟨[.d (.sl aB),.d (.sl aB)],[.d (.sl aB),.d ah],λa=>KU n a.1 a.2.1,none⟩
theorem ahh:aK 88 (ahg n) :=cq (au (aeF n) (au aaf aA)) func88 .z n
def NF:bz xx:=⟨[.d bH,.ref (.st SI.Entry)],[.d .bool],λa=>wG a.1 a.2.1,none⟩
theorem NG:aK 92 NF :=cq aA func92 .z 0
def NH:bz xx:=⟨[.d (.sl bH),.du [bH] .bool],[.d ah],λa=>wH n a.1 a.2.1,none⟩
def NI:Hn SI:=(.s .z (.s (.s .z (.b (.lx ⟨[(8,.v ah)],[],[0,1,7],[],1256,[]⟩ 0 ⟨[],[],[],[],1256,[]⟩ .z))) .z))
theorem NJ:aK 137 (NH n) :=cq aA func137 NI n
def Ij:bz xx:=⟨[.d (.sl bH),.du [bH] .bool],[.d .bool],λa=>nD n a.1 a.2.1,none⟩
theorem Ik:aK 91 (Ij n) :=cq (au (NJ n) aA) func91 .z n
def Vz:bz xx:=⟨[.d (.st SI.j8),.d (.st SI.Lot),.d dR],[.d .bool],λa=>pK n a.1 a.2.1 a.2.2.1,none⟩
def VA:Hn SI:=(.s .z (.s (.s (.j ⟨[(30,.v .bool)],[],[3,4,5],[1000,1064,1128],1256,[]⟩ .z) .z) (.s (.s .z (.b (.lx ⟨[(34,.v ah)],[],[3,4,5,32,33],[1000,1064,1128,1320],1512,[]⟩ 0 ⟨[],[],[3,5],[1000,1128],1512,[]⟩ (b8 (.s (.b (b8 (.s (.j ⟨[(58,.v .bool)],[],[3,4,5,32,33,34],[1000,1064,1128,1320],2600,[]⟩ .z) .z))) .z))))) (.s (.s .z (.b (.lx ⟨[(63,.v ah)],[],[3,61,62],[1000],1768,[]⟩ 2 ⟨[],[],[],[],1768,[]⟩ (b8 (.s (.b (b8 (.b (.lx ⟨[(70,.v ah)],[],[3,61,62,63,68,69],[1000],2344,[]⟩ 4 ⟨[],[],[3,61,62,63],[1000],2344,[]⟩ .z)))) .z))))) .z))))
theorem VB:aK 56 (Vz n) :=cq (au (Z7 n) (au (oL n) (au (ME n) (au (ahh n) (au (ac2 n) (au J9 (au (Ik n) (au NG aA)))))))) func56 VA n
def SY:bz xx:=⟨[.d dR],[.fresh aI],λa=>ve n a.1,none⟩
def S9:Hn SI:=(b8 (.s (.s .z (.b (.l ⟨[(3,.o 1448),(9,.v ah)],[(1448,.l aI)],[7,8],[],1449,[(3,aI)]⟩ 0 ⟨[(3,.o 1448)],[(1448,.l aI)],[],[],1449,[]⟩ .z))) .z))
theorem Ta:aK 57 (SY n) :=cq aA func57 S9 n
def Td:bz xx:=⟨[.d (.sl (.st SI.ij))],[.fresh (.st SI.side)],λa=>qp n a.1,none⟩
def Te:Hn SI:=(b8 (.s (.s .z (.b (.l ⟨[(10,.v ah)],[(1192,.l (.st SI.side))],[0,3,9],[],1512,[]⟩ 0 ⟨[],[(1192,.l (.st SI.side))],[3],[],1512,[]⟩ .z))) .z))
theorem EK:aK 238 (Td n) :=cq aA func238 Te n
def Tf:bz xx:=⟨[.d (.st SI.ij)],[.d .bool],λa=>vg a.1,none⟩
theorem Tg:aK 263 Tf :=cq aA func263 .z 0
def Gf:bz xx:=⟨[.d (.st SI.side)],[.d .bool],λa=>gV a.1,none⟩
theorem vL:aK 239 Gf :=cq aA func239 .z 0
def aeG:bz xx:=⟨[.d (.sl ah)],[.d ah],λa=>tT n a.1,none⟩
def aeH:Hn SI:=(b8 (.s (.s .z (.b (.lx ⟨[(8,.v ah)],[],[3,6,7],[],1320,[]⟩ 0 ⟨[],[],[3],[],1320,[]⟩ .z))) .z))
theorem Qu:aK 195 (aeG n) :=cq aA func195 aeH n
def Qv:bz xx:=⟨[.d (.st SI.ij),.d (.st SI.ij)],[.d ah],λa=>tF n a.1 a.2.1,none⟩
theorem Qw:aK 264 (Qv n) :=cq (au qb (au (Qu n) aA)) func264 .z n
def Gg:bz xx:=⟨[.d (.st SI.side),.d (.st SI.side)],[.d .bool],λa=>mh a.1 a.2.1,none⟩
theorem Gh:aK 265 Gg :=cq aA func265 .z 0
def VD:bz xx:=⟨[.d (.sl (.st SI.ij))],[.d .bool],λa=>wR n a.1,none⟩
def VE:Hn SI:=(.s .z (.s (.s (.j ⟨[(16,.v .bool)],[],[0],[],1064,[]⟩ .z) .z) (.s .z (.s (.s .z (.b (.lx ⟨[(21,.v ah)],[],[0,3,19,20],[1128],1448,[]⟩ 0 ⟨[],[],[3],[1128],1448,[]⟩ (b8 (.s (.b (b8 (.s (.s (.j ⟨[(61,.v .bool)],[],[0,3,4,19,20,21],[1128],2536,[]⟩ .z) .z) (.s (.j ⟨[(74,.v .bool)],[],[0,3,19,20,21],[1128],2536,[]⟩ .z) .z)))) .z))))) (.s (.s .z (.b (.lx ⟨[(78,.v ah)],[],[3,77],[1128],1640,[]⟩ 2 ⟨[],[],[3],[1128],1640,[]⟩ (b8 (.s (.b (b8 (.b (.lx ⟨[(8,.v ah)],[],[3,7,77,78],[1128],2024,[]⟩ 4 ⟨[],[],[3,77,78],[1128],2024,[]⟩ (.s .z (.s (.b (.s (.j ⟨[(106,.v .bool)],[],[3,7,8,77,78],[1128],2280,[]⟩ .z) .z)) .z)))))) .z))))) .z)))))
theorem VF:aK 237 (VD n) :=cq (au (EK n) (au Tg (au vL (au (Qw n) (au Gh aA))))) func237 VE n
def Ti:bz xx:=⟨[.d (.sl (.st SI.ij))],[.fresh aB,.d ah],λa=>vk n a.1,none⟩
def Tj:Hn SI:=(fi (.s (.s .z (.b (.l ⟨[(4,.o 1576),(19,.v ah)],[(1576,.l ah)],[0,17,18],[],1577,[(4,ah)]⟩ 0 ⟨[(4,.o 1576)],[(1576,.l ah)],[0],[],1577,[]⟩ .z))) (pr (.s (.s .z (.b (.l ⟨[(8,.o 2409),(38,.v ah)],[(2409,.l aB)],[4,7,37],[1576,1961],2410,[(8,aB)]⟩ 2 ⟨[(8,.o 2409)],[(2409,.l aB)],[],[],2410,[]⟩ (b8 (.s (.b (b8 (.s (.s .z (.b (.l ⟨[(10,.o 2858),(43,.v ah)],[(2858,.l ah)],[4,7,8,9,37,38,41,42],[1576,1961,2409],2859,[(10,ah)]⟩ 4 ⟨[(10,.o 2858)],[(2858,.l ah)],[4,7,8,9,37,38],[1576,1961,2409],2859,[]⟩ (b8 (.s (.j ⟨[(10,.o 2923)],[(2923,.l ah)],[4,7,8,9,37,38,41,42,43],[1576,1961,2409],2924,[]⟩ (.b (.s .z (.s (.j ⟨[(77,.v .bool)],[],[4,7,8,9,10,12,37,38,41,42,43],[1576,1961,2409,2858,3051],3179,[]⟩ .z) .z)))) .z))))) (b8 (.b (.l ⟨[(8,.o 3051),(13,.v ah)],[(3051,.l aB)],[4,7,9,10,37,38],[1576,1961,2858],3052,[]⟩ 6 ⟨[(8,.o 3051)],[(3051,.l aB)],[4,7,37,38],[1576,1961],3052,[]⟩ .z)))))) .z))))) .z))))
theorem Tk:aK 196 (Ti n) :=cq (au (VF n) (au (sH n) (au (qY n) (au (EK n) (au vL aA))))) func196 Tj n
def aag:bz xx:=⟨[.d bD],[.fresh aB],λa=>yN n a.1,none⟩
theorem aah:aK 139 (aag n) :=cq (au (Tk n) aA) func139 .z n
def VG:bz xx:=⟨[.d (.sl aB),.d (.sl aB)],[.d ah,.d (.st SI.ij)],λa=>wS n a.1 a.2.1,none⟩
def VH:Hn SI:=(b8 (.s (.s .z (.b (.l ⟨[(6,.v ah),(18,.v ah)],[(1192,ut)],[1,5,7,16,17],[1064],1576,[]⟩ 0 ⟨[(6,.v ah)],[(1192,ut)],[5,7],[1064],1576,[]⟩ (b8 (.s (.b (b8 (.b (.l ⟨[(6,.v ah),(24,.v ah)],[(1192,ut)],[1,5,7,9,16,17,18,22,23],[1064,1768],2088,[]⟩ 2 ⟨[(6,.v ah)],[(1192,ut)],[1,5,7,16,17,18],[1064],2088,[]⟩ (b8 (.s (.j ⟨[(6,.v ah)],[(1192,ut)],[1,5,7,9,16,17,18,22,23,24],[1064,1768],2152,[]⟩ .z) .z)))))) .z))))) .z))
theorem VI:aK 138 (VG n) :=cq (au CF (au J9 (au qb (au (Qu n) aA)))) func138 VH n
def VJ:bz xx:=⟨[.d (.st SI.j8),.d (.sl aB)],[.fresh ah],λa=>wT n a.1 a.2.1,none⟩
def VK:Hn SI:=(fi (.s (.s .z (.b (.l ⟨[(5,.o 1640),(16,.v ah)],[(1640,.l ah)],[1,14,15],[],1641,[(5,ah)]⟩ 0 ⟨[(5,.o 1640)],[(1640,.l ah)],[],[],1641,[]⟩ .z))) .z))
theorem VL:aK 93 (VJ n) :=cq (au (oL n) (au (aah n) (au (VI n) aA))) func93 VK n
def ahi:bz xx:=⟨[.d (.st SI.j8),.d (.sl aB)],[.fresh .str],λa=>Ee n a.1 a.2.1,none⟩
def ahj:Hn SI:=(fi (.s (.s .z (.b (.l ⟨[(6,.v ah),(17,.v ah)],[],[2,5,15,16],[1000,1256],1640,[]⟩ 0 ⟨[(6,.v ah)],[],[2,5],[1000,1256],1640,[]⟩ (b8 (.s (.j ⟨[(6,.v ah)],[],[2,5,15,16,17],[1000,1256],1704,[]⟩ (.b (.s .z (.s (.j ⟨[(44,.v .bool)],[],[2,5,6,7,15,16,17],[1000,1256],2024,[]⟩ .z) .z)))) .z))))) (.s .z (.s (.s .z (.b (.l ⟨[(9,.o 1896),(49,.v ah)],[(1896,.l .str)],[2,6,47,48],[1000,1256],1897,[(9,.str)]⟩ 2 ⟨[(9,.o 1896)],[(1896,.l .str)],[],[],1897,[]⟩ (b8 (.s (.j ⟨[(9,.o 1961)],[(1961,.l .str)],[2,6,47,48,49],[1000,1256],1962,[]⟩ (.b (.s .z (.s (.j ⟨[(68,.v .bool)],[],[2,6,9,10,47,48,49],[1000,1256,1896],2281,[]⟩ .z) .z)))) .z))))) .z))))
theorem ahk:aK 58 (ahi n) :=cq (au (VL n) aA) func58 ahj n
def abI:bz xx:=⟨[.d (.st SI.iS),.d dR],[.d (.st SI.js),.d ah],λa=>BD n a.1 a.2.1,none⟩
theorem abJ:aK 22 (abI n) :=cq (au (Sj n) (au (VB n) (au (Ta n) (au (ahk n) aA)))) func22 .z n
def Qx:bz xx:=⟨[.d (.sl .str),.d .str],[.d ah],λa=>tH n a.1 a.2.1,none⟩
def Qy:Hn SI:=(.s .z (.s (.s .z (.b (.lx ⟨[(8,.v ah)],[],[0,1,7],[],1256,[]⟩ 0 ⟨[],[],[],[],1256,[]⟩ .z))) .z))
theorem Qz:aK 59 (Qx n) :=cq aA func59 Qy n
def Ki:bz xx:=⟨[.d (.sl .str),.d .str],[.d .bool],λa=>fP n a.1 a.2.1,none⟩
theorem qy:aK 24 (Ki n) :=cq (au (Qz n) aA) func24 .z n
def NK:bz xx:=⟨[.d .str,.ref (.sl .str)],[.d .bool],λa=>kI n a.1 a.2.1,none⟩
theorem NN:aK 94 (NK n) :=cq (au (qy n) aA) func94 .z n
def Il:bz xx:=⟨[.d (.sl .str),.du [.str] .bool],[.d ah],λa=>rM n a.1 a.2.1,none⟩
def Im:Hn SI:=(.s .z (.s (.s .z (.b (.lx ⟨[(8,.v ah)],[],[0,1,7],[],1256,[]⟩ 0 ⟨[],[],[],[],1256,[]⟩ .z))) .z))
theorem Io:aK 140 (Il n) :=cq aA func140 Im n
def CZ:bz xx:=⟨[.d (.sl .str),.du [.str] .bool],[.d .bool],λa=>fV n a.1 a.2.1,none⟩
theorem C8:aK 95 (CZ n) :=cq (au (Io n) aA) func95 .z n
def VN:bz xx:=⟨[.d aU,.d (.sl .str)],[.d .bool],λa=>rZ n a.1 a.2.1,none⟩
theorem VO:aK 60 (VN n) :=cq (au (C8 n) (au (NN n) aA)) func60 .z n
def aai:bz xx:=⟨[.d (.st SI.j8),.d (.sl .str),.d ah],[.fresh ah],λa=>vo n a.1 a.2.1 a.2.2.1,none⟩
def aaj:Hn SI:=(b8 (.s (.s .z (.b (.l ⟨[(7,.o 1448),(13,.v ah)],[(1448,.l ah)],[1,2,11,12],[],1449,[(7,ah)]⟩ 0 ⟨[(7,.o 1448)],[(1448,.l ah)],[],[],1449,[]⟩ (b8 (.s (.j ⟨[(7,.o 1513)],[(1513,.l ah)],[1,2,11,12,13],[],1514,[]⟩ (.b (.s .z (.s (.j ⟨[(37,.v .bool)],[],[1,2,7,8,11,12,13],[1448],1897,[]⟩ .z) .z)))) .z))))) .z))
theorem aak:aK 25 (aai n) :=cq (au (VO n) aA) func25 aaj n
def aju:bz xx:=⟨[.d ah],[.d ah,.d .bool],λa=>zT a.1,none⟩
def ajv:Hn SI:=(.s .z (.s (.s .z (.b (.s (.j ⟨[(5,.v .bool)],[],[0,4],[],1192,[]⟩ .z) (.s .z (.s (.j ⟨[(10,.v .bool)],[],[0,4],[],1192,[]⟩ .z) .z))))) .z))
theorem ajw:aK 197 aju :=cq aA func197 ajv 0
def ahl:Hn SI:=(b8 (.s (.s (.j ⟨[(28,.v .bool)],[],[1,2],[1000],1640,[]⟩ .z) .z) (.s .z (.s (.s .z (.b (.l ⟨[(7,.v ah),(32,.v ah)],[],[1,30,31],[],1960,[]⟩ 0 ⟨[(7,.v ah)],[],[],[],1960,[]⟩ .z))) .z))))
theorem aeI(rc:(dW)->(Int)->J Int)(hr:aK 141 (FJ rc)):aK 141 (FJ (BF n rc)) :=cq (au ajw (au hr aA)) func141 ahl n
theorem QA(n:Nat):∀m,aK 141 (FJ (uw n m))
 | 0=>An (ul func141 (by kernel_rfl:Tryz.f141.body=some (Tryz.f141.body.getD .skip)) (by kernel_rfl)) (λ _ _ h=>(by cases h)) rfl
 |m+1=>aeI n _ (QA n m)
def ahm:bz xx:=⟨[.d (.st SI.Expr),.d ah],[.d ah],λa=>RJ n a.1 a.2.1,none⟩
theorem ahn:aK 141 (ahm n):=QA n n
def ajx:bz xx:=⟨[.d (.st SI.Expr)],[.d .bool],λa=>JD n a.1,none⟩
theorem aal:aK 96 (ajx n) :=cq (au (ahn n) aA) func96 .z n
def QB:bz xx:=⟨[],[.fresh .str],λ_=>xY,none⟩
theorem QC:aK 198 QB :=cq aA func198 .z 0
mutual
theorem apO:∀g:dW,(toE g).wt<=4000000->pH (toE g) (sO g)
 |⟨op,n,s,key,args⟩,h=>by
  simp only[toE,ET.wt]at h;have:=ET.qt (JE args);simp only[toE,sO,pH];exact⟨n,key,_,rfl,by unfold maxLen;omega,by omega,aam args (by omega)⟩
theorem aam:∀l:List dW,ET.th (JE l)<=4000000->j9 (JE l) (uN l)
 |[],_=>by simp only[JE,uN,j9]
 |x::xs,h=>by
  simp only[JE,ET.th]at h;simp only[JE,uN,j9];exact⟨_,_,rfl,apO x (by omega),aam xs (by omega)⟩
end
def QD:bz xx:=⟨[],[.d .bool],λ_=>none,some ⟨[.v (.sl bB)],[],[.p 1000],[(1000,ro)],λv=>lJ v⟩⟩
theorem aho:∀l:U fG,rm (l.map toD)<=4000000->ka (l.map toD) (l.map Fy)
 |[],_=>by simp only[List.map_nil,ka]
 |x::xs,h=>by
  simp only[aF,rm,List.foldr_cons,toD,ET.wt]at h;have:=ET.qt (JE x.eQ);simp only[aF,ka];refine⟨_,_,rfl,⟨_,_,_,_,_,rfl,by simp only[toD];unfold maxLen;omega,?_⟩,aho xs (by simp only[rm];omega)⟩;simp only[toD,pH];exact⟨_,_,_,rfl,by unfold maxLen;omega,by omega,by rw[<- uO];exact aam _ (by omega)⟩
theorem QE:aK 199 QD:=by
 have hcall:eU Tryz.prog 199:=⟨_,func199,by kernel_rfl,by kernel_rfl⟩;refine Nd hcall ?_;intro v r hr;have h':lJ v=some r:=hr;unfold lJ at h';cases hb:Nat.ble (rm (List.map toD v)) 4000000 with
 |false=>rw[hb]at h';cases h'
 |true=>
  rw[hb]at h';have h'':some (v,pQ (List.map toD v))=some r:=h';injection h'' with e;subst e;have hw:=Nat.le_of_ble_eq_true hb;have hlen:=Wp (List.map toD v);have hn:∀d∈List.map toD v,d.2.names.length<=4000000:=λd hd=>by have h1:=Wq hd;have h2:=ET.oB d.2;omega
  exact adY (TL:=46) (TG:=342) (TI:=3) hcall (aho v hw) λsv w hS=>aoZ (List.map toD v) (by omega) (λ d hd=>Nat.le_trans (hn d hd) (by omega))
   (λ d hd v0 v1 v2 v3 v4 w hE=>callsIn_wide.1 (anm 0 d.2 v0 v1 v2 v3 v4 w hE (Nat.le_trans (hn d hd) (by omega)))) sv w hS
def VP:bz xx:=⟨[.d (.sl ah),.d ah],[.fresh ah],λa=>sj a.1 a.2.1,none⟩
theorem VQ:aK 281 VP:=by
 have hcall:eU Tryz.prog 281:=⟨_,func281,by kernel_rfl,by kernel_rfl⟩;refine An hcall (λ a r h=>?_) rfl;obtain⟨l,c,⟨⟩⟩:=a;have h':sj l c=some r:=h
 match l,h' with
 |[x],h'=>
  simp only[sj]at h';cases hb:(decide (0<=c)&&decide (c<=1000000000000))with
  |false=>rw[hb]at h';cases h'
  |true=>
   rw[hb]at h';have h'':some (List.replicate c.toNat x)=some r:=h';injection h'' with e;subst e;simp only[aG,aJ]at hb;obtain⟨h1,h2⟩:=hb;obtain⟨k,hk⟩:=Int.eq_ofNat_of_zero_le h1;subst hk;exact aiq (E:=3) (c:=k) hcall λa cap w hx=>alo x k (Int.ofNat_le.1 (by simpa using h2)) a cap w hx
def aan:bz xx:=⟨[.d (.sl ah),.d ah],[.d ah],λa=>FK n a.1 a.2.1,none⟩
def aao:Hn SI:=(.s .z (.s (.s .z (.b (.lx ⟨[(8,.v ah)],[],[0,1,7],[],1256,[]⟩ 0 ⟨[],[],[],[],1256,[]⟩ .z))) .z))
theorem aap:aK 295 (aan n) :=cq aA func295 aao n
def QF:bz xx:=⟨[.d (.sl ah),.d ah],[.d .bool],λa=>tK n a.1 a.2.1,none⟩
theorem QG:aK 282 (QF n) :=cq (au (aap n) aA) func282 .z n
def C9:bz xx:=⟨[.ref (.st SI.graph),.d ah],[.fresh ah],λa=>jY n a.1 a.2.1,none⟩
def Da:Hn SI:=(pr (.s (.b (.l ⟨[(6,.od 2024)],[(1448,.l ah),(2024,.l ah)],[0,5],[],2025,[]⟩ 0 ⟨[],[(1448,.l ah)],[5],[],2024,[]⟩ (.s .z (.b (fi (.b (.l ⟨[(6,.od 3049),(35,.v ah)],[(1448,.l ah),(3049,.l ah)],[0,5,7,33,34],[],3050,[]⟩ 2 ⟨[(6,.od 3049)],[(1448,.l ah),(3049,.l ah)],[0,5],[],3050,[]⟩ (b8 (.s (.j ⟨[(6,.od 3114)],[(1448,.l ah),(3114,.l ah)],[0,5,7,33,34,35],[],3115,[]⟩ (.b (.s .z (.s (.j ⟨[(49,.v .bool)],[],[0,5,6,7,8,33,34,35],[1448,3049],3434,[]⟩ .z) .z)))) .z))))))))) .z))
theorem Db:aK 268 (C9 n) :=cq (au VQ (au (QG n) aA)) func268 Da n
def NP:bz xx:=⟨[.d .str],[.d .bool],λa=>cmp_isNaN_string a.1,none⟩
theorem NQ:aK 223 NP :=cq aA func223 .z 0
def Kj:bz xx:=⟨[.d .str,.d .str],[.d ah],λa=>oF a.1 a.2.1,none⟩
theorem Kk:aK 269 Kj :=cq (au NQ aA) func269 .z 0
def LC:bz xx:=⟨[.d (.sl .str),.d (.sl .str)],[.d ah],λa=>mG n a.1 a.2.1,none⟩
def LD:Hn SI:=(.s .z (.s (.s .z (.b (.lx ⟨[(11,.v ah)],[],[0,1,9,10],[],1256,[]⟩ 0 ⟨[],[],[0,1],[],1256,[]⟩ .z))) .z))
theorem LF:aK 242 (LC n) :=cq (au Kk aA) func242 LD n
def Ak:cH xx:=⟨[.v ah,.p 0],[(0,p7),(1,.l .bool)],[.v .bool],[(0,p7),(1,.l .bool)],λv=>mX v.1 v.2⟩
def Al:bz xx:=tzG (Ak)
theorem Am:aK 244 Al :=lr aA func244 .z 0
def Ip:cH xx:=⟨[.v (.sl ah),(.f 244 [] [.p 0])],[(0,p7),(1,.l .bool)],[.v ah],[(0,p7),(1,.l .bool)],λv=>nE n v.1 v.2⟩
def Iq:bz xx:=tzG (Ip n)
def Ir:Hn SI:=(.s .z (.s (.s .z (.b (.lx ⟨[(8,.v ah)],[(0,p7),(1,.l .bool)],[0,1,7],[],1256,[]⟩ 0 ⟨[],[(0,p7),(1,.l .bool)],[],[],1256,[]⟩ .z))) .z))
theorem Iu:aK 270 (Iq n) :=lr (au Am aA) func270 Ir n
def Dc:cH xx:=⟨[.v (.sl ah),(.f 244 [] [.p 0])],[(0,p7),(1,.l .bool)],[.v .bool],[(0,p7),(1,.l .bool)],λv=>iK n v.1 v.2⟩
def Df:bz xx:=tzG (Dc n)
theorem Dg:aK 243 (Df n) :=lr (au (Iu n) aA) func243 .z n
def Kl:bz xx:=⟨[.ref (.st SI.graph)],[.fresh ah],λa=>oG n a.1,none⟩
def Km:Hn SI:=(fi (.s (.s .z (.b (.l ⟨[(4,.o 2024),(20,.v ah)],[(1448,xc),(2024,.l ah),(1384,.l .bool)],[0,3,19],[],2025,[(4,ah)]⟩ 0 ⟨[(4,.o 2024)],[(2024,.l ah)],[],[],2025,[]⟩ (b8 (.s (.b (.s .z (.s (.s .z (.b (.l ⟨[(5,.v ah),(27,.v ah)],[(1448,xc),(1384,.l .bool)],[0,3,4,19,20,25,26],[2024],2537,[]⟩ 2 ⟨[(5,.v ah)],[(1448,xc),(1384,.l .bool)],[0,3,4,19,20],[2024],2537,[]⟩ (b8 (.s (.j ⟨[(5,.v ah)],[(1448,xc),(1384,.l .bool)],[0,3,4,19,20,25,26,27],[2024],2601,[]⟩ (.b (b8 (.s (.j ⟨[(66,.v .bool)],[],[0,3,4,5,6,19,20,25,26,27],[1384,1448,2024],3177,[]⟩ .z) .z)))) .z))))) .z))) .z))))) .z))
theorem Kn:aK 201 (Kl n) :=cq (au (Dg n) aA) func201 Km n
def Dh:cH xx:=⟨[.p 0,.v ah],[(0,ro)],[.oz 1000],[(0,ro),(1000,.l .str)],λv=>j3 n v.1 v.2.1 v.2.2⟩
def Di:bz xx:=tzG (Dh n)
def Dj:Hn SI:=(pr (.b (.lx ⟨[(6,.o 1512),(7,.v ah)],[(1512,.l .str)],[0,1,5],[0,1192],1513,[(6,.str)]⟩ 999999 ⟨[],[],[],[],1512,[]⟩ (.b (b8 (.s (.s .z (.b (.l ⟨[(8,.v ah),(34,.v ah)],[],[0,1,5,6,32,33],[0,1192,2153],2921,[]⟩ 2 ⟨[(8,.v ah)],[],[0,1,5,6],[0,1192,2153],2921,[]⟩ (b8 (.s (.j ⟨[(8,.v ah)],[],[0,1,5,6,32,33,34],[0,1192,2153],2985,[]⟩ (.b (.s .z (.s (.j ⟨[(57,.v .bool)],[],[0,1,5,6,8,10,32,33,34],[0,1192,2153],3177,[]⟩ .z) .z)))) .z))))) .z))))))
theorem Dk:aK 241 (Di n) :=lr (au (Db n) aA) func241 Dj n
def Ao:cH xx:=⟨[.p 0],[(0,ro)],[.oz 1000],[(0,ro),(1000,.l .str)],λv=>ji n v.1 v.2⟩
def Ap:bz xx:=tzG (Ao n)
def Aq:Hn SI:=(b8 (.s (.s .z (.b (.l ⟨[(3,.oz 1512),(11,.v ah)],[(0,ro),(1512,.l .str)],[0,10],[],1513,[(1099511627779,.str)]⟩ 0 ⟨[(3,.oz 1512)],[(0,ro),(1512,.l .str)],[],[],1513,[]⟩ (b8 (.s (.j ⟨[(3,.oz 1577)],[(0,ro),(1577,.l .str)],[0,10,11],[],1578,[]⟩ (.b (b8 (.s (.s (.j ⟨[(18,.v .bool)],[],[0,3,5,10,11],[0,1512,1833],1961,[]⟩ .z) .z) (.s (.j ⟨[(40,.v .bool)],[],[0,3,5,10,11],[0,1512,1833],1961,[]⟩ .z) .z))))) .z))))) .z))
theorem Ar:aK 200 (Ap n) :=lr (au (Dk n) (au (LF n) aA)) func200 Aq n
def aaq:bz xx:=⟨[.d (.st SI.j8)],[.fresh ah,.d (.sl .str),.d ah],λa=>oH n a.1,none⟩
def aar:Hn SI:=(b8 (.s (.s .z (.b (.l ⟨[(15,.v ah)],[(1256,.m .str .bool)],[1,5,13,14],[1000,1384],1576,[]⟩ 0 ⟨[],[(1256,.m .str .bool)],[1,5],[1000],1576,[]⟩ .z))) (.s (.s .z (.b (.lx ⟨[(25,.v ah)],[(1256,.m .str .bool)],[1,5,23,24],[1000],1832,[]⟩ 2 ⟨[],[],[1],[1000],1832,[]⟩ .z))) (.s .z (.s (.s .z (.s (.j ⟨[(43,.v .bool)],[],[10,11],[1960,2152],2280,[]⟩ .z) .z)) .z)))))
theorem aas:aK 142 (aaq n) :=cq (au QC (au QE (au (Ar n) (au (Kn n) aA)))) func142 aar n
def LG:bz xx:=⟨[.d aZ,.ref (.st SI.Expr)],[.d .bool],λa=>BG a.1 a.2.1,none⟩
theorem LJ:aK 203 LG :=cq aA func203 .z 0
def Ko:bz xx:=⟨[.d (.sl aZ),.du [aZ] .bool],[.d ah],λa=>tV n a.1 a.2.1,none⟩
def Kq:Hn SI:=(.s .z (.s (.s .z (.b (.lx ⟨[(8,.v ah)],[],[0,1,7],[],1256,[]⟩ 0 ⟨[],[],[],[],1256,[]⟩ .z))) .z))
theorem Kr:aK 202 (Ko n) :=cq aA func202 Kq n
def LK:bz xx:=⟨[.d (.st SI.Entry),.ref (.st SI.Expr)],[.d .bool],λa=>BH a.1 a.2.1,none⟩
theorem LM:aK 205 LK :=cq aA func205 .z 0
def aoo:bz xx:=⟨[.d .bool],[.d ah],λa=>zU a.1,none⟩
theorem ahp:aK 144 aoo :=cq aA func144 .z 0
def abK:bz xx:=⟨[.d ah,.d ah],[.d ah],λa=>xO a.1 a.2.1,none⟩
def abL:Hn SI:=(fi (.s (.j ⟨[(5,.v ah)],[],[],[],1448,[]⟩ (.s .z (.s (.j ⟨[(23,.v .bool)],[],[5],[],1704,[]⟩ .z) .z))) .z))
theorem abM:aK 206 abK :=cq aA func206 abL 0
def ahq:bz xx:=⟨[.d ah,.d ah,.d ah],[.d ah],λa=>KV a.1 a.2.1 a.2.2.1,none⟩
theorem ahr:aK 145 ahq :=cq (au abM (au ahp aA)) func145 .z 0
def LP:cH xx:=⟨[(.a [.v (.sl bB),.v (.sl aZ),.v (.sl bD),.v (.sl aU),.v (.sl bH),.v (.sl bF),.v (.sl aX),.v ah,.mp 0,.v (.sl .str)]),.v (.st SI.Expr)],[(0,.m .str ah)],[.v ah],[(0,.m .str ah)],λ(qa,qb,qc,qd,qe,qf,qg,qh,qi,qj,qk)=>jI n qa qb qc qd qe qf qg qh qi qj qk⟩
def LQ:bz xx:=tzG (LP n)
theorem LU:aK 143 (LQ n) :=lr (au (Kr n) (au LJ (au (xR n) (au LM aA)))) func143 .z n
def Iw:Hn SI:=(b8 (.s (.s .z (.b (.l ⟨[(5,.o 1512),(11,.v ah)],[(0,.m .str ah),(1512,.l ah)],[2,3,9,10],[1000,1064],1513,[(5,ah)]⟩ 0 ⟨[(5,.o 1512)],[(0,.m .str ah),(1512,.l ah)],[2,3],[1000,1064],1513,[]⟩ (b8 (.s (.j ⟨[(5,.o 1577)],[(0,.m .str ah),(1577,.l ah)],[2,3,9,10,11],[1000,1064],1578,[]⟩ (.b (.s .z (.s (.s (.j ⟨[(31,.v .bool)],[],[2,3,5,7,9,10,11],[0,1000,1064,1512,1769],1961,[]⟩ .z) .z) .z)))) .z))))) .z))
theorem Gi(rc:((List fG))->((List bT))->((List dV))->((List bC))->((List gJ))->((List fA))->((List bS))->(Int)->((List ByteArray))->(dW)->((List (ByteArray×Int)))->J (Int×(List (ByteArray×Int))))(hr:aK 98 (j4 rc)):aK 98 (j4 (fH n rc)) :=lr (au hr (au (LU n) (au (qy n) (au ahp (au ahr aA))))) func98 Iw n
theorem vM(n:Nat):∀m,aK 98 (j4 (bW n m))
 | 0=>Nd (ul func98 (by kernel_rfl:Tryz.f98.body=some (Tryz.f98.body.getD .skip)) (by kernel_rfl)) (λ _ _ h=>(by cases h))
 |m+1=>Gi n _ (vM n m)
def Iy:bz xx:=j4 (bW n n)
theorem vV:aK 98 (Iy n):=vM n n
def VU:cH xx:=⟨[.v (.st SI.j8),(.v (.sl (.st SI.Entry))),.v (.sl .str)],[],[(.a [.v (.sl bB),.v (.sl aZ),.v (.sl bD),.v (.sl aU),.v (.sl bH),.v (.sl bF),.v (.sl aX),.v ah,.mp 1000,.v (.sl .str)]),.o 1001],[(1000,.m .str ah),(1001,.l ah)],λv=>mY n v.1 v.2.1 v.2.2⟩
def VW:bz xx:=tzG (VU n)
def VX:Hn SI:=(fi (.s (.s .z (.b (.l ⟨[(26,.v ah)],[(1256,.m .str ah),(1576,.m .str .bool)],[3,6,8,9,24,25],[1000,1064,1448],1896,[]⟩ 0 ⟨[],[(1256,.m .str ah),(1576,.m .str .bool)],[3,6,8,9],[1000,1064,1448],1896,[]⟩ (b8 (.s (.j ⟨[],[(1256,.m .str ah),(1576,.m .str .bool)],[3,6,8,9,24,25,26],[1000,1064,1448],1960,[]⟩ .z) .z))))) (fi (.s (.s .z (.b (.l ⟨[(61,.v ah)],[(1256,.m .str ah),(2088,.l ah)],[3,6,8,9,12,59,60],[1000,1064,1448,1576,2280],3112,[]⟩ 2 ⟨[],[(1256,.m .str ah),(2088,.l ah)],[6,8,12],[1064,1448],3112,[]⟩ (b8 (.s (.j ⟨[],[(1256,.m .str ah),(2088,.l ah)],[3,6,8,9,12,59,60,61],[1000,1064,1448,1576,2280],3176,[]⟩ (.b (b8 (.s (.j ⟨[],[(1256,.m .str ah),(2088,.l ah)],[3,6,8,9,12,17,18,59,60,61],[1000,1064,1448,1576,2280,3688],3816,[]⟩ .z) .z)))) .z))))) .z))))
theorem VY:aK 97 (VW n) :=lr (au (aas n) (au (aal n) (au (vV n) aA))) func97 VX n
def amg:bz xx:=⟨[.d (.st SI.j8),.d (.sl (.st SI.Entry)),.d (.sl .str),.d (.st SI.Expr)],[.d ah],λa=>BJ n a.1 a.2.1 a.2.2.1 a.2.2.2.1,none⟩
theorem amh:aK 61 (amg n) :=cq (au (aal n) (au (VY n) (au (vV n) aA))) func61 .z n
def ajy:bz xx:=⟨[.d (.sl aB)],[.d aB,.d .bool],λa=>Pp n a.1,none⟩
def ajz:Hn SI:=(.s .z (.s (.s .z (.b (.l ⟨[(3,.v .bool),(8,.v ah)],[(1000,AW)],[2,6,7],[],1320,[]⟩ 0 ⟨[(3,.v .bool)],[(1000,AW)],[2],[],1320,[]⟩ (b8 (.s (.j ⟨[(3,.v .bool)],[(1000,AW)],[2,6,7,8],[],1384,[]⟩ .z) .z))))) .z))
theorem ajA:aK 109 (ajy n) :=cq (au qX aA) func109 ajz n
def ahs:bz xx:=⟨[.d (.sl aB)],[.d aB,.d .bool],λa=>KW n a.1,none⟩
def aht:Hn SI:=(.s .z (.s (.s (.j ⟨[(11,.v .bool)],[],[0,2],[1000],1128,[]⟩ .z) .z) .z))
theorem ahu:aK 63 (ahs n) :=cq (au (oL n) (au (ajA n) aA)) func63 aht n
def aat:bz xx:=⟨[.d aI],[.fresh (.st SI.kA)],λa=>yQ a.1,none⟩
theorem Kt:aK 30 aat :=cq aA func30 .z 0
def Ku:bz xx:=⟨[.d (.sl (.st SI.fY)),.du [.st SI.fY] .bool],[.d ah],λa=>tX n a.1 a.2.1,none⟩
def Kv:Hn SI:=(.s .z (.s (.s .z (.b (.lx ⟨[(8,.v ah)],[],[0,1,7],[],1256,[]⟩ 0 ⟨[],[],[],[],1256,[]⟩ .z))) .z))
theorem Kw:aK 211 (Ku n) :=cq aA func211 Kv n
def EL:bz xx:=⟨[.d (.sl (.st SI.fY)),.du [.st SI.fY] .bool],[.d .bool],λa=>kX n a.1 a.2.1,none⟩
theorem EM:aK 158 (EL n) :=cq (au (Kw n) aA) func158 .z n
def aau:bz xx:=⟨[.d ah,.d ah,.d ah],[.d .bool],λa=>oI a.1 a.2.1 a.2.2.1,none⟩
theorem aav:aK 212 aau :=cq aA func212 .z 0
def abN:bz xx:=⟨[.d (.st SI.fY)],[.d .bool],λa=>BL a.1,none⟩
theorem abO:aK 160 abN :=cq (au aav aA) func160 .z 0
def Tm:bz xx:=⟨[.d (.st SI.fY)],[.d .bool],λa=>vv a.1,none⟩
theorem Tn:aK 159 Tm :=cq (au abO aA) func159 .z 0
def abP:bz xx:=⟨[.d aB,.d (.sl (.st SI.fY))],[.d .bool],λa=>BM n a.1 a.2.1,none⟩
theorem abQ:aK 110 (abP n) :=cq (au qX (au (EM n) (au Tn aA))) func110 .z n
def ami:bz xx:=⟨[.d (.sl aB),.d (.sl aB)],[.d .bool],λa=>Wx n a.1 a.2.1,none⟩
theorem amj:aK 118 (ami n) :=cq (au (GA n) aA) func118 .z n
def ajB:bz xx:=⟨[.d (.sl (.st SI.kA))],[.d .bool],λa=>JF n a.1,none⟩
def ajC:Hn SI:=(b8 (.s (.s .z (.b (.lx ⟨[(11,.v ah)],[],[0,9,10],[],1448,[]⟩ 0 ⟨[],[],[],[],1448,[]⟩ (b8 (.s (.jx ⟨[],[],[0,9,10,11],[],1512,[]⟩ (.b (.s .z (.s (.s (.j ⟨[(42,.v .bool)],[],[0,3,4,9,10,11],[1704],1896,[]⟩ .z) .z) (b8 (.s (.j ⟨[(68,.v .bool)],[],[0,9,10,11],[],2472,[]⟩ .z) .z)))))) .z))))) .z))
theorem aaw:aK 70 (ajB n) :=cq (au (oL n) (au (amj n) aA)) func70 ajC n
def QH:bz xx:=⟨[.d aB,.d ah,.d ah],[.d (.st SI.my)],λa=>xZ a.1 a.2.1 a.2.2.1,none⟩
theorem QI:aK 213 QH :=cq aA func213 .z 0
def Tp:bz xx:=⟨[.d ah,.d ah],[.d ah],λa=>vw a.1 a.2.1,none⟩
def Tq:Hn SI:=(b8 (.s (.j ⟨[(5,.v ah)],[],[],[],1320,[]⟩ .z) .z))
theorem Tt:aK 214 Tp :=cq aA func214 Tq 0
def ahv:bz xx:=⟨[.d aB,.d (.sl (.st SI.fY)),.d ah,.d ah],[.d ah],λa=>KX n a.1 a.2.1 a.2.2.1 a.2.2.2.1,none⟩
def ahw:Hn SI:=(fi (.s (.s .z (.b (.l ⟨[(9,.v ah),(19,.v ah)],[],[10,17,18],[1448],1768,[]⟩ 0 ⟨[(9,.v ah)],[],[],[],1768,[]⟩ .z))) .z))
theorem ahx:aK 161 (ahv n) :=cq (au QI (au Tt aA)) func161 ahw n
def aax:bz xx:=⟨[.d aB,.d (.sl (.st SI.fY)),.d (.sl aB)],[.d ah],λa=>yS n a.1 a.2.1 a.2.2.1,none⟩
def aay:Hn SI:=(b8 (.s (.s .z (.b (.l ⟨[(7,.v ah),(16,.v ah)],[],[1,3,14,15],[1000],1384,[]⟩ 0 ⟨[(7,.v ah)],[],[],[],1384,[]⟩ (b8 (.s (.b (b8 (.b (.l ⟨[(7,.v ah),(27,.v ah)],[],[1,3,9,14,15,16,25,26],[1000,1576,2024],2216,[]⟩ 2 ⟨[(7,.v ah)],[],[1,3,14,15,16],[1000],2216,[]⟩ (b8 (.s (.b (b8 (.b (.l ⟨[(7,.v ah),(38,.v ah)],[],[1,3,9,11,14,15,16,25,26,27,36,37],[1000,1576,2024,2792],2984,[]⟩ 4 ⟨[(7,.v ah)],[],[1,3,9,14,15,16,25,26,27],[1000,1576,2024],2984,[]⟩ .z)))) .z)))))) .z))))) .z))
theorem aaz:aK 112 (aax n) :=cq (au (ahx n) aA) func112 aay n
def QJ:bz xx:=⟨[.d (.st SI.kA),.ref aB,.ref (.sl (.st SI.fY))],[.d .bool],λa=>tN n a.1 a.2.1 a.2.2.1,none⟩
theorem QK:aK 111 (QJ n) :=cq (au (aaz n) aA) func111 .z n
def LV:bz xx:=⟨[.d (.sl (.st SI.kA)),.du [.st SI.kA] .bool],[.d ah],λa=>vz n a.1 a.2.1,none⟩
def LW:Hn SI:=(.s .z (.s (.s .z (.b (.lx ⟨[(8,.v ah)],[],[0,1,7],[],1256,[]⟩ 0 ⟨[],[],[],[],1256,[]⟩ .z))) .z))
theorem LX:aK 121 (LV n) :=cq aA func121 LW n
def Gj:bz xx:=⟨[.d (.sl (.st SI.kA)),.du [.st SI.kA] .bool],[.d .bool],λa=>jl n a.1 a.2.1,none⟩
theorem vN:aK 72 (Gj n) :=cq (au (LX n) aA) func72 .z n
def aaA:bz xx:=⟨[.d aB,.d (.sl (.st SI.fY)),.d (.sl (.st SI.kA))],[.d .bool],λa=>yT n a.1 a.2.1 a.2.2.1,none⟩
def aaB:Hn SI:=(.s .z (.s (.s (.j ⟨[(15,.v .bool)],[],[2,3,4],[1000,1064],1192,[]⟩ .z) .z) .z))
theorem aaC:aK 65 (aaA n) :=cq (au (abQ n) (au (aaw n) (au (vN n) (au (QK n) aA)))) func65 aaB n
def Dl:bz xx:=⟨[.d aI,.ref aB,.ref aU],[.d .bool],λa=>j5 n a.1 a.2.1 a.2.2.1,none⟩
theorem Dm:aK 64 (Dl n) :=cq (au Kt (au (aaC n) aA)) func64 .z n
def NR:bz xx:=⟨[.d (.st SI.js),.du [aI] .bool],[.d .bool],λa=>gX n a.1 a.2.1,none⟩
theorem Au:aK 27 (NR n) :=cq (au (sJ n) aA) func27 .z n
def Dn:bz xx:=⟨[.d aI,.ref aU],[.d .bool],λa=>j6 a.1 a.2.1,none⟩
theorem Dp:aK 66 Dn :=cq aA func66 .z 0
def EN:bz xx:=⟨[.d (.st SI.gi),.ref (.st SI.js),.ref aI,.ref aU],[.d .bool],λa=>dZ a.1 a.2.1 a.2.2.1 a.2.2.2.1,none⟩
def EO:Hn SI:=(b8 (.s (.s (.j ⟨[(32,.v .bool)],[],[2,3,6],[1256],1384,[]⟩ .z) .z) (.s (.j ⟨[(7,.v .bool)],[],[2,3,6],[1256],1384,[]⟩ .z) .z)))
theorem EP:aK 114 EN :=cq (au qX (au akx aA)) func114 EO 0
def Iz:bz xx:=⟨[.d (.sl (.st SI.gi)),.du [.st SI.gi] .bool],[.d ah],λa=>rO n a.1 a.2.1,none⟩
def IA:Hn SI:=(.s .z (.s (.s .z (.b (.lx ⟨[(8,.v ah)],[],[0,1,7],[],1256,[]⟩ 0 ⟨[],[],[],[],1256,[]⟩ .z))) .z))
theorem IB:aK 162 (Iz n) :=cq aA func162 IA n
def Dq:bz xx:=⟨[.d (.sl (.st SI.gi)),.du [.st SI.gi] .bool],[.d .bool],λa=>kg n a.1 a.2.1,none⟩
theorem Dr:aK 113 (Dq n) :=cq (au (IB n) aA) func113 .z n
def Ky:bz xx:=⟨[.d (.st SI.js),.d aU,.d aI],[.d .bool],λa=>tY n a.1 a.2.1 a.2.2.1,none⟩
theorem Kz:aK 68 (Ky n) :=cq (au (Dr n) (au EP aA)) func68 .z n
def Dt:bz xx:=⟨[.d aI,.ref (.st SI.js),.ref aU],[.d .bool],λa=>ko n a.1 a.2.1 a.2.2.1,none⟩
theorem Du:aK 67 (Dt n) :=cq (au (Kz n) aA) func67 .z n
def IC:bz xx:=⟨[.d (.st SI.js),.d aU],[.d .bool],λa=>nG n a.1 a.2.1,none⟩
theorem IE:aK 26 (IC n) :=cq (au (Qe n) (au (amh n) (au (ahu n) (au (Au n) (au (Dm n) (au Dp (au (Du n) aA))))))) func26 .z n
def VZ:bz xx:=⟨[.d aB,.ref aB],[.d .bool],λa=>wU a.1 a.2.1,none⟩
theorem V3:aK 124 VZ :=cq aA func124 .z 0
def LY:bz xx:=⟨[.d (.sl aB),.du [aB] .bool],[.d ah],λa=>vB n a.1 a.2.1,none⟩
def LZ:Hn SI:=(.s .z (.s (.s .z (.b (.lx ⟨[(8,.v ah)],[],[0,1,7],[],1256,[]⟩ 0 ⟨[],[],[],[],1256,[]⟩ .z))) .z))
theorem L6:aK 167 (LY n) :=cq aA func167 LZ n
def Gl:bz xx:=⟨[.d (.sl aB),.du [aB] .bool],[.d .bool],λa=>jm n a.1 a.2.1,none⟩
theorem vO:aK 122 (Gl n) :=cq (au (L6 n) aA) func122 .z n
def aeJ:bz xx:=⟨[.d aB,.ref (.sl aB)],[.d .bool],λa=>FN n a.1 a.2.1,none⟩
theorem aeK:aK 123 (aeJ n) :=cq (au (vO n) (au V3 aA)) func123 .z n
def amk:bz xx:=⟨[.d (.sl aB),.d (.sl aB)],[.d .bool],λa=>Wy n a.1 a.2.1,none⟩
theorem aml:aK 74 (amk n) :=cq (au (vO n) (au (aeK n) aA)) func74 .z n
def V4:bz xx:=⟨[.d (.st SI.kA),.ref (.st SI.ff)],[.d .bool],λa=>sw n a.1 a.2.1,none⟩
theorem V5:aK 73 (V4 n) :=cq (au (aml n) aA) func73 .z n
def aeL:bz xx:=⟨[.d (.sl (.st SI.ff)),.d ah,.d (.sl (.st SI.kA))],[.d .bool],λa=>FO n a.1 a.2.1 a.2.2.1,none⟩
def aeM:Hn SI:=(b8 (.s (.s .z (.b (.lx ⟨[(14,.v ah)],[],[1,2,12,13],[],1448,[]⟩ 0 ⟨[],[],[],[],1448,[]⟩ (b8 (.s (.jx ⟨[],[],[1,2,12,13,14],[],1512,[]⟩ (.b (.s .z (.s (.s (.j ⟨[(27,.v .bool)],[],[1,2,8,12,13,14],[1640],1768,[]⟩ .z) .z) .z)))) .z))))) .z))
theorem aeN:aK 29 (aeL n) :=cq (au (aaw n) (au (oL n) (au (vN n) (au (V5 n) aA)))) func29 aeM n
def NS:bz xx:=⟨[.d aI,.ref (.st SI.iS),.ref dR],[.d .bool],λa=>nN n a.1 a.2.1 a.2.2.1,none⟩
theorem NT:aK 28 (NS n) :=cq (au Kt (au (aeN n) aA)) func28 .z n
def IG:cH xx:=⟨[.v .str,.v .bool,.p 0],[(0,p7),(1,.l .str)],[],[(0,.c 1 [[.o 1000]]),(1000,.l .str)],λv=>jO n v.1 v.2.1 v.2.2⟩
def II:bz xx:=tzG (IG n)
def IJ:Hn SI:=(.s (.j ⟨[(11,.v .bool)],[],[0,2],[0,1],1000,[]⟩ .z) .z)
theorem IK:aK 23 (II n) :=lr (au (qy n) aA) func23 IJ n
def V6:bz xx:=⟨[.d (.st SI.iS),.d dR,.d ah],[.fresh .str,.d ah],λa=>wW n a.1 a.2.1 a.2.2.1,none⟩
def V7:Hn SI:=(Rd (.s (.s .z (.b (.l ⟨[(31,.v ah)],[(1960,.c 1 [[.o 2664]]),(2664,.l .str)],[3,4,8,10,11,29,30],[1000,1064,1640,2472],2665,[(9028160,.str)]⟩ 0 ⟨[],[(1960,.c 1 [[.o 2664]]),(2664,.l .str)],[3,4,8,10,11],[1000,1064,1640],2665,[]⟩ .z))) .z))
theorem V8:aK 10 (V6 n) :=cq (au (abJ n) (au (aak n) (au (IE n) (au (IK n) (au (Au n) (au (NT n) aA)))))) func10 V7 n
def KA:bz xx:=⟨[.d (.st SI.iS),.d dR,.d (.sl .str),.d .str,.d (.sl gG),.d ah],[.d .bool],λ(qa,qb,qc,qd,qe,qf,_)=>oJ n qa qb qc qd qe qf,none⟩
def KC:Hn SI:=(b8 (.s (.s (.j ⟨[(36,.v .bool)],[],[2,3,4,5,6,7,13],[1000,1064],1320,[]⟩ .z) .z) (.s (.f [5]) (fi (.s (.s (.j ⟨[(89,.v .bool)],[],[4,5,6,7,13,14,15],[1000,1064,2472],3240,[]⟩ .z) .z) (.s (.s .z (.b (.lx ⟨[(19,.v ah)],[],[4,5,6,7,13,14,15],[1000,1064,2472],3304,[]⟩ 0 ⟨[],[],[5,6,7,13],[1000,1064],3304,[]⟩ (.s .z (.s (.b (.s (.j ⟨[(151,.v .bool)],[],[4,5,6,7,13,14,15,19],[1000,1064,2472],3560,[]⟩ .z) .z)) .z))))) (b8 (.s (.s .z (.b (.l ⟨[(22,.v .bool),(23,.v ah)],[],[6,13,20,21],[1000,3496],4200,[]⟩ 2 ⟨[(22,.v .bool)],[],[6,13,20,21],[1000,3496],4200,[]⟩ (.s .z (.s (.j ⟨[(22,.v .bool)],[],[6,13,20,21,23],[1000,3496],4456,[]⟩ (.b (.s .z (.s (.s .z (.b (.l ⟨[(22,.v .bool),(24,.v .bool),(25,.v ah)],[],[6,13,20,21,23],[1000,3496],4584,[]⟩ 4 ⟨[(22,.v .bool),(24,.v .bool)],[],[6,13,20,21,23],[1000,3496],4584,[]⟩ (.s .z (.s (.j ⟨[(22,.v .bool),(24,.v .bool)],[],[6,13,20,21,23,25],[1000,3496],4968,[]⟩ .z) .z))))) .z)))) .z))))) .z))))))))
theorem KD:aK 3 (KA n) :=cq (au (ahb n) (au (amf n) (au (ZY n) (au (BX n) (au (J8 n) (au (Ca n) (au (V8 n) (au (Kh n) aA)))))))) func3 KC n
end
end Go.Proofs
