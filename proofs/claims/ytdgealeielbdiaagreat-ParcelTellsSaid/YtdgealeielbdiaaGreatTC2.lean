/-
  Printed by wip/gen: that functions of the program compute this.
-/
import Derived.Test.YtdgealeielbdiaaGreatTC1
namespace Go.Proofs
open Go.Gb Go.RowKit
noncomputable section
def zP (n:Nat):Sig xx:=⟨[.mut ak,.d ah,.d ah,.d ah,.clo [ak,ak] ah],[.d ah,.d .bool,.mu ak],fun a=>BP n a.1 a.2.1 a.2.2.1 a.2.2.2.1 a.2.2.2.2.1,none⟩
def zQ:Hn SI:=(.s .z (.s .z (.s .z (.s (.b (.l ⟨[(12,(.v ah))],[],[0,1,4,13],[0],2536,[]⟩ 0 ⟨[(12,(.v ah))],[],[0,1,4,13],[0],2536,[]⟩ (.s (.s (.j ⟨[(47,(.v .bool))],[],[0,1,4,12,13],[0],2536,[]⟩ .z) .z) .z))) (.s (.b (.l ⟨[(13,(.v ah))],[],[0,1,4,12],[0],2536,[]⟩ 2 ⟨[(13,(.v ah))],[],[0,1,4,12],[0],2536,[]⟩ (.s (.s (.j ⟨[(66,(.v .bool))],[],[0,1,4,12,13],[0],2536,[]⟩ .z) .z) .z))) (.s .z (.s .z (.s .z (.s .z (.s (.b (.l ⟨[(12,(.v ah)),(13,(.v ah))],[(0,.l ak)],[0,1,4],[],4136,[]⟩ 4 ⟨[(13,(.v ah))],[(0,.l ak)],[0,1],[],4136,[]⟩ (.b (.s (.b (.l ⟨[(12,(.v ah))],[],[0,1,4,13],[0],4136,[]⟩ 6 ⟨[(12,(.v ah))],[],[0,1,4,13],[0],4136,[]⟩ (.s (.s (.j ⟨[(120,(.v .bool))],[],[0,1,4,12,13],[0],4136,[]⟩ .z) .z) .z))) (.s (.b (.l ⟨[(13,(.v ah))],[],[0,1,4,12],[0],4136,[]⟩ 8 ⟨[(13,(.v ah))],[],[0,1,4,12],[0],4136,[]⟩ (.s (.s (.j ⟨[(139,(.v .bool))],[],[0,1,4,12,13],[0],4136,[]⟩ .z) .z) .z))) .z))))) .z))))))))))
theorem zR (n:Nat):aH 208 (zP n) :=cq aB Tryz.func208 zQ n (by kernel_rfl) rfl fun _=>by kernel_rfl
def Cq:Hn SI:=(.s .z (.s .z (.b (.lx ⟨[(1,(.v ah)),(2,(.v ah)),(3,(.v ah)),(10,(.v .bool)),(11,(.v .bool))],[(0,.l ak)],[0,4],[],1128,[]⟩ 999999 ⟨[],[],[],[],1128,[]⟩ (.b (.s .z (.s .z (.s .z (.s (.j ⟨[(3,(.v ah))],[(0,.l ak)],[0,1,2,4,10,11,12],[],1640,[]⟩ .z) (.s .z (.s (.j ⟨[(13,(.v ah)),(14,(.v ah))],[(0,.l ak)],[0,1,2,3,4,10,11,12],[],2280,[]⟩ .z) (.s (.jx ⟨[],[(0,.l ak)],[0,1,2,3,4,10,11,12,13],[],2280,[]⟩ (.s (.j ⟨[(75,(.v .bool))],[],[0,1,2,3,4,10,11,12,13],[0],2280,[]⟩ .z) .z)) (.s (.s (.j ⟨[(97,(.v .bool))],[],[0,1,2,3,4,10,11,12,13],[0],2280,[]⟩ .z) .z) .z)))))))))))))
theorem Au (n:Nat) (rc:((List aj))->(Int)->(Int)->(Int)->((aj×aj×Unit)->Option Int)->Option (List aj)) (hr:aH 186 (iG rc)):aH 186 (iG (fK n rc)) :=cq (au (sZ n) (au (Ar n) (au (tC n) (au wU (au (vU n) (au (mJ n) (au (qW n) (au (zR n) (au hr aB))))))))) Tryz.func186 Cq n (by kernel_rfl) rfl fun _=>by kernel_rfl
theorem mM (n:Nat):∀ m,aH 186 (iG (bW n m))
 | 0=>cok (jO Tryz.func186 (by kernel_rfl:Tryz.f186.body=some (Tryz.f186.body.getD .skip)) (by kernel_rfl)) (fun _ _ h=>(by cases h)) rfl
 |m+1=>Au n _ (mM n m)
def Cr (n:Nat):Sig xx:=⟨[.mut ak,.d ah,.d ah,.d ah,.clo [ak,ak] ah],[.mu ak],fun a=>j3 n a.1 a.2.1 a.2.2.1 a.2.2.2.1 a.2.2.2.2.1,none⟩
theorem Cs (n:Nat):aH 186 (Cr n):=mM n n
def KJ (n:Nat):Sig xx:=⟨[.mut ak,.clo [ak,ak] ah],[.mu ak],fun a=>mq n a.1 a.2.1,none⟩
theorem KL (n:Nat):aH 160 (KJ n) :=cq (au zK (au (Cs n) aB)) Tryz.func160 .z n (by kernel_rfl) rfl fun _=>by kernel_rfl
def UA:Sig xx:=⟨[.d ak,.d ak],[.d ah],fun a=>xJ a.1 a.2.1,none⟩
theorem UB:aH 161 UA :=cq (au qG aB) Tryz.func161 .z 0 (by kernel_rfl) rfl fun _=>by kernel_rfl
def aa2 (n:Nat):Sig xx:=⟨[.d (.sl ak),.d ah,.d ah],[.fresh ak],fun a=>IE n a.1 a.2.1 a.2.2.1,none⟩
def aa3:Hn SI:=(.s .z (.s .z (.s (.s .z (.b (.l ⟨[(7,(.o 1320)),(16,(.v ah))],[(1320,.l ak)],[1,2,14,15],[],1321,[(7,ak)]⟩ 0 ⟨[(7,(.o 1320))],[(1320,.l ak)],[],[],1321,[]⟩ (.s .z (.s .z (.s (.j ⟨[(7,(.o 1385))],[(1385,.l ak)],[1,2,14,15,16],[],1386,[]⟩ (.b (.s .z (.s (.j ⟨[(29,(.v .bool))],[],[1,2,7,9,14,15,16],[1320,1513],1641,[]⟩ .z) .z)))) .z)))))) (.s .z (.s .z (.s (.s .z (.b (.l ⟨[(10,(.o 1705)),(45,(.v ah))],[(1705,.l ak)],[43,44],[1320],1706,[(10,ak)]⟩ 2 ⟨[(10,(.o 1705))],[(1705,.l ak)],[],[],1706,[]⟩ (.s .z (.s .z (.s (.j ⟨[(10,(.o 1770))],[(1770,.l ak)],[43,44,45],[1320],1771,[]⟩ (.b (.s .z (.s (.s .z (.s (.j ⟨[(63,(.v .bool))],[],[10,12,13,43,44,45],[1320,1705,1898],2218,[]⟩ .z) .z)) .z)))) .z)))))) .z))))))
theorem aa4 (n:Nat):aH 119 (aa2 n) :=cq (au (KL n) (au UB aB)) Tryz.func119 aa3 n (by kernel_rfl) rfl fun _=>by kernel_rfl
def Ct (n:Nat):Sig xx:=⟨[.d (.sl ak),.d (.sl ak),.clo [ak,ak] .bool],[.d .bool],fun a=>gH n a.1 a.2.1 a.2.2.1,none⟩
def Cu:Hn SI:=(.s .z (.s .z (.s (.s .z (.b (.lx ⟨[(17,(.v ah))],[],[1,2,15,16],[],1576,[]⟩ 0 ⟨[],[],[],[],1576,[]⟩ .z))) .z)))
theorem Cv (n:Nat):aH 120 (Ct n) :=cq aB Tryz.func120 Cu n (by kernel_rfl) rfl fun _=>by kernel_rfl
def YG:Sig xx:=⟨[.d ak,.d ak],[.d .bool],fun a=>ze a.1 a.2.1,none⟩
theorem YH:aH 121 YG :=cq aB Tryz.func121 .z 0 (by kernel_rfl) rfl fun _=>by kernel_rfl
def afq (n:Nat):Sig xx:=⟨[.d (.sl ak)],[.fresh ak],fun a=>QI n a.1,none⟩
def afr:Hn SI:=(.s .z (.s .z (.s (.s .z (.b (.l ⟨[(3,(.o 1320)),(13,(.v ah))],[(1320,.l ah)],[0,11,12],[],1321,[(3,ah)]⟩ 0 ⟨[(3,(.o 1320))],[(1320,.l ah)],[0],[],1321,[]⟩ .z))) (.s .z (.s .z (.s .z (.s (.s .z (.b (.l ⟨[(6,(.o 2089)),(7,(.o 2090)),(33,(.v ah))],[(2089,.l ak),(2090,.l ak)],[0,3,32],[1320],2091,[(6,ak),(7,ak)]⟩ 2 ⟨[(6,(.o 2089))],[(2089,.l ak)],[],[],2090,[]⟩ (.s .z (.s .z (.s (.b (.s .z (.s .z (.s (.j ⟨[(6,(.o 3051))],[(3051,.l ak)],[0,3,9,32,33],[1320,2923],3052,[]⟩ (.s (.j ⟨[(54,(.v .bool))],[],[0,3,6,8,9,32,33],[1320,2089,2923],3051,[]⟩ .z) (.s (.s .z (.b (.l ⟨[(10,(.v ah))],[(2089,.l ak)],[0,3,6,8,9,32,33],[1320,2923],3435,[]⟩ 4 ⟨[],[(2089,.l ak)],[0,3,6,9,32,33],[1320,2923],3435,[]⟩ .z))) .z))) .z)))) .z)))))) .z)))))))
theorem afs (n:Nat):aH 68 (afq n) :=cq (au (jr n) (au (gZ n) (au (aa4 n) (au (Cv n) (au YH aB))))) Tryz.func68 afr n (by kernel_rfl) rfl fun _=>by kernel_rfl
def KM:GSig xx:=⟨[(.v (.sl ah))],[],[(.f 117 [] [(.p 1000)])],[(1000,.c 1 [[(.v (.sl ah))]])],fun v=>rJ v⟩
def KN:Sig xx:=⟨[],[.d .bool],fun _=>none,some (KM)⟩
theorem KO:aH 64 KN :=cqG aB Tryz.func64 .z 0 (by kernel_rfl) fun _=>by kernel_rfl
def ai0:Sig xx:=⟨[],[.d .bool],fun _=>none,some (ajh 117)⟩
theorem ai1:aH 159 ai0:=ajg (jO Tryz.func159 (by kernel_rfl:Tryz.f159.body=some (Tryz.f159.body.getD .skip)) (by kernel_rfl)) (agF (jO Tryz.func159 (by kernel_rfl:Tryz.f159.body=some (Tryz.f159.body.getD .skip)) (by kernel_rfl)) seqA_calls)
def Jm:GSig xx:=⟨[(.f 117 [] [(.p 0)])],[(0,.c 1 [[(.v (.sl ah))]])],[(.o 1000)],[(0,.c 1 [[(.v (.sl ah))]]),(1000,.l ah)],fun v=>qd v⟩
def Jo:Sig xx:=⟨[],[.d .bool],fun _=>none,some (Jm)⟩
theorem Jp:aH 116 Jo :=cqG (au ai1 aB) Tryz.func116 .z 0 (by kernel_rfl) fun _=>by kernel_rfl
def KP (n:Nat):GSig xx:=⟨[(.f 117 [] [(.p 0)])],[(0,.c 1 [[(.v (.sl ah))]])],[(.o 1000)],[(0,.c 1 [[(.v (.sl ah))]]),(1000,.l ah)],fun v=>rM n v⟩
def KQ (n:Nat):Sig xx:=⟨[],[.d .bool],fun _=>none,some (KP n)⟩
theorem KR (n:Nat):aH 63 (KQ n) :=cqG (au Jp (au (jr n) aB)) Tryz.func63 .z n (by kernel_rfl) fun _=>by kernel_rfl
def Qu:GSig xx:=⟨[(.v ay),(.p 0)],[(0,.c 1 [[(.o 1)]]),(1,.l ay)],[(.v .bool)],[(0,.c 1 [[(.o 1)]]),(1,.l ay)],fun v=>tV v.1 v.2⟩
def Qv:Sig xx:=⟨[],[.d .bool],fun _=>none,some (Qu)⟩
theorem Qw:aH 67 Qv :=cqG aB Tryz.func67 .z 0 (by kernel_rfl) fun _=>by kernel_rfl
def F8 (n:Nat):GSig xx:=⟨[(.o 0),(.f 67 [] [(.p 1)])],[(0,.l ay),(1,.c 1 [[(.o 0)]])],[(.v ah)],[(0,.l ay),(1,.c 1 [[(.o 0)]])],fun v=>mU n v⟩
def F9 (n:Nat):Sig xx:=⟨[],[.d .bool],fun _=>none,some (F8 n)⟩
def Ga:Hn SI:=(.s .z (.s (.s .z (.b (.lx ⟨[(8,(.v ah))],[(0,.l ay),(1,.c 1 [[(.o 0)]])],[0,1,7],[],1256,[]⟩ 0 ⟨[],[(0,.l ay),(1,.c 1 [[(.o 0)]])],[],[],1256,[]⟩ .z))) .z))
theorem Gc (n:Nat):aH 118 (F9 n) :=cqG (au Qw aB) Tryz.func118 Ga n (by kernel_rfl) fun _=>by kernel_rfl
def Cw (n:Nat):GSig xx:=⟨[(.o 0),(.f 67 [] [(.p 1)])],[(0,.l ay),(1,.c 1 [[(.o 0)]])],[(.v .bool)],[(0,.l ay),(1,.c 1 [[(.o 0)]])],fun v=>gM n v⟩
def Cx (n:Nat):Sig xx:=⟨[],[.d .bool],fun _=>none,some (Cw n)⟩
theorem Cy (n:Nat):aH 66 (Cx n) :=cqG (au (Gc n) aB) Tryz.func66 .z n (by kernel_rfl) fun _=>by kernel_rfl
def aft (n:Nat):Sig xx:=⟨[.d (.sl ay),.d (.sl ah),.d ah],[.fresh ay,.d ah],fun a=>Me n a.1 a.2.1 a.2.2.1,none⟩
def afu:Hn SI:=(.s .z (.s .z (.s (.s (.j ⟨[(37,(.v .bool))],[],[0,1,2],[],1384,[]⟩ .z) .z) (.s .z (.s (.s .z (.b (.lx ⟨[(40,(.v ah))],[(1384,.c 1 [[(.o 1640)]]),(1640,.l ay)],[0,1,2,9,38,39],[],1641,[(6668864,ay)]⟩ 0 ⟨[],[(1384,.c 1 [[(.o 1640)]]),(1640,.l ay)],[0,1,2,9],[],1641,[]⟩ .z))) (.s .z (.s .z (.s .z (.s (.s .z (.b (.l ⟨[(14,(.o 2281)),(65,(.v ah))],[(2281,.l ak)],[0,1,2,9,63,64],[1384,1640],2282,[(14,ak)]⟩ 2 ⟨[(14,(.o 2281))],[(2281,.l ak)],[0,1,2,9],[1384,1640],2282,[]⟩ .z))) .z)))))))))
theorem Xf (n:Nat):aH 24 (aft n) :=cq (au KO (au (KR n) (au (zO n) (au (H9 n) (au Bv (au (D5 n) (au (KI n) (au (Cy n) (au (afs n) (au (Ib n) (au (Xe n) (au (yj n) aB)))))))))))) Tryz.func24 afu n (by kernel_rfl) rfl fun _=>by kernel_rfl
def YI (n:Nat):Sig xx:=⟨[.d (.sl (.sl cu))],[.fresh ah],fun a=>Tf n a.1,none⟩
def YJ:Hn SI:=(.s .z (.s .z (.s (.s .z (.b (.l ⟨[(3,(.o 1320)),(10,(.v ah))],[(1320,.l ah)],[8,9],[],1321,[(3,ah)]⟩ 0 ⟨[(3,(.o 1320))],[(1320,.l ah)],[],[],1321,[]⟩ (.s .z (.s .z (.s (.b (.s .z (.s .z (.b (.l ⟨[(3,(.o 1769)),(16,(.v ah))],[(1769,.l ah)],[8,9,10,14,15],[],1770,[]⟩ 2 ⟨[(3,(.o 1769))],[(1769,.l ah)],[8,9,10],[],1770,[]⟩ .z))))) .z)))))) .z)))
theorem YK (n:Nat):aH 82 (YI n) :=cq (au (jr n) (au (gZ n) aB)) Tryz.func82 YJ n (by kernel_rfl) rfl fun _=>by kernel_rfl
def afv (n:Nat):Sig xx:=⟨[.d (.sl ak),.d (.sl ak)],[.d .bool],fun a=>Yc n a.1 a.2.1,none⟩
theorem Xg (n:Nat):aH 18 (afv n) :=cq (au (FW n) aB) Tryz.func18 .z n (by kernel_rfl) rfl fun _=>by kernel_rfl
def ahi (n:Nat):Sig xx:=⟨[.mut cu,.d cu],[.fresh cu,.mv],fun a=>agQ n a.1 a.2.1,none⟩
def ahj:Hn SI:=(.s .z (.s .z (.s (.s .z (.s (.j ⟨[(35,(.v .bool))],[],[0,3,5],[0,1000],1640,[]⟩ .z) .z)) .z)))
theorem ahk (n:Nat):aH 83 (ahi n) :=cq (au (Xg n) aB) Tryz.func83 ahj n (by kernel_rfl) rfl fun _=>by kernel_rfl
def afw:Sig xx:=⟨[.d (.sl cu)],[.d (.sl cu),.d ah],fun a=>ad3 a.1,none⟩
theorem afx:aH 84 afw :=cq aB Tryz.func84 .z 0 (by kernel_rfl) rfl fun _=>by kernel_rfl
def aid (n:Nat):Sig xx:=⟨[.d (.sl (.st SI.Box))],[.d (.sl cu),.d ah],fun a=>agU n a.1,none⟩
def aie:Hn SI:=(.s .z (.s .z (.s (.s .z (.b (.lx ⟨[(4,(.o 1384)),(17,(.v ah))],[(1384,.l cu)],[0,15,16],[],1385,[(4,cu)]⟩ 0 ⟨[(4,(.o 1384))],[(1384,.l cu)],[0],[],1385,[]⟩ (.s .z (.s .z (.s (.b (.s .z (.s (.s (.j ⟨[(41,(.v .bool))],[],[0,4,6,15,16,17],[1384,1577],1705,[]⟩ .z) .z) .z))) .z)))))) (.s .z (.s .z (.s .z (.s (.s .z (.b (.lx ⟨[(8,(.o 1961)),(9,(.v ah))],[(1961,.l cu)],[0,7],[1705],1962,[(8,cu)]⟩ 2 ⟨[(8,(.o 1961))],[(1961,.l cu)],[],[],1962,[]⟩ (.s .z (.s (.b (.s .z (.s (.s .z (.b (.l ⟨[(10,(.o 2474)),(65,(.v ah))],[(2474,.l ak)],[0,7,8,9,63,64],[1705,1961],2475,[(10,ak)]⟩ 4 ⟨[(10,(.o 2474))],[(2474,.l ak)],[0,7,8,9],[1705,1961],2475,[]⟩ (.s .z (.s .z (.s (.j ⟨[(10,(.o 2539))],[(2539,.l ak)],[0,7,8,9,63,64,65],[1705,1961],2540,[]⟩ (.b (.s .z (.s (.j ⟨[(85,(.v .bool))],[],[0,7,8,9,10,12,63,64,65],[1705,1961,2474,2667],2795,[]⟩ .z) .z)))) .z)))))) .z))) .z))))) .z)))))))
theorem aif (n:Nat):aH 33 (aid n) :=cq (au Dx (au (YK n) (au (Yz n) (au (ahk n) (au afx aB))))) Tryz.func33 aie n (by kernel_rfl) rfl fun _=>by kernel_rfl
def ac9 (n:Nat):Sig xx:=⟨[.d (.sl ak),.d (.sl ak)],[.d .bool],fun a=>zo n a.1 a.2.1,none⟩
def ada:Hn SI:=(.s .z (.s .z (.s (.s .z (.b (.lx ⟨[(5,(.v ah))],[],[0,1],[],1448,[]⟩ 0 ⟨[],[],[],[],1448,[]⟩ .z))) .z)))
theorem UC (n:Nat):aH 69 (ac9 n) :=cq aB Tryz.func69 ada n (by kernel_rfl) rfl fun _=>by kernel_rfl
def adb (n:Nat):Sig xx:=⟨[.d (.sl ay),.d (.sl ay)],[.d .bool],fun a=>qf n a.1 a.2.1,none⟩
def ade:Hn SI:=(.s .z (.s .z (.s (.s .z (.b (.lx ⟨[(5,(.v ah))],[],[0,1],[],1448,[]⟩ 0 ⟨[],[],[],[],1448,[]⟩ (.s .z (.s (.b (.s (.s (.j ⟨[(70,(.v .bool))],[],[0,1,5],[],1704,[]⟩ .z) .z) (.s .z (.b (.lx ⟨[(6,(.v ah))],[],[0,1,5],[],1768,[]⟩ 2 ⟨[],[],[0,1,5],[],1768,[]⟩ .z))))) .z))))) .z)))
theorem UD (n:Nat):aH 25 (adb n) :=cq (au (UC n) aB) Tryz.func25 ade n (by kernel_rfl) rfl fun _=>by kernel_rfl
def aii:Sig xx:=⟨[.d ak,.d ak],[.d ah],fun a=>ad4 a.1 a.2.1,none⟩
def aij:Hn SI:=(.s .z (.s (.s (.j ⟨[(14,(.v .bool))],[],[2,3],[1000,1064],1192,[]⟩ .z) .z) .z))
theorem aik:aH 45 aii :=cq (au Dx (au aaU aB)) Tryz.func45 aij 0 (by kernel_rfl) rfl fun _=>by kernel_rfl
def ahl (n:Nat):Sig xx:=⟨[.d (.sl ak),.d (.sl ak)],[.d ah,.d .bool],fun a=>Tg n a.1 a.2.1,none⟩
def ahm:Hn SI:=(.s .z (.s (.s (.j ⟨[(28,(.v .bool))],[],[0,1],[],1128,[]⟩ .z) .z) (.s .z (.s (.s .z (.b (.l ⟨[(6,(.v ah)),(31,(.v ah))],[],[1,29,30],[],1384,[]⟩ 0 ⟨[(6,(.v ah))],[],[],[],1384,[]⟩ (.s .z (.s .z (.s (.b (.s .z (.s .z (.b (.l ⟨[(6,(.v ah)),(37,(.v ah))],[],[1,8,29,30,31,35,36],[1576],1896,[]⟩ 2 ⟨[(6,(.v ah))],[],[1,29,30,31],[],1896,[]⟩ .z))))) .z)))))) .z))))
theorem ahn (n:Nat):aH 13 (ahl n) :=cq (au (oH n) (au aik aB)) Tryz.func13 ahm n (by kernel_rfl) rfl fun _=>by kernel_rfl
def afy (n:Nat):Sig xx:=⟨[.d (.sl ay),.d ah,.d ah],[.fresh ah],fun a=>EH n a.1 a.2.1 a.2.2.1,none⟩
def afz:Hn SI:=(.s .z (.s .z (.s .z (.s .z (.s (.s .z (.b (.l ⟨[(9,(.o 2024)),(27,(.v ah))],[(2024,.l (.sl ak))],[0,1,2,7,25,26],[1448],2025,[(9,(.sl ak))]⟩ 0 ⟨[(9,(.o 2024))],[(2024,.l (.sl ak))],[0,1,2,7],[1448],2025,[]⟩ .z))) (.s .z (.s (.s .z (.b (.l ⟨[(12,(.o 2281)),(39,(.v ah))],[(2281,.l ah)],[0,1,2,7,37,38],[1448,2024],2282,[(12,ah)]⟩ 2 ⟨[(12,(.o 2281))],[(2281,.l ah)],[],[],2282,[]⟩ (.s .z (.s .z (.s (.j ⟨[(12,(.o 2346))],[(2346,.l ah)],[0,1,2,7,37,38,39],[1448,2024],2347,[]⟩ (.b (.s .z (.s .z (.s (.j ⟨[(65,(.v .bool))],[],[0,1,2,7,12,13,37,38,39],[1448,2024,2281],3242,[]⟩ .z) .z))))) .z)))))) .z)))))))
theorem Xh (n:Nat):aH 12 (afy n) :=cq (au (D5 n) (au (ahn n) (au (jr n) (au (gZ n) aB)))) Tryz.func12 afz n (by kernel_rfl) rfl fun _=>by kernel_rfl
def UE (n:Nat):Sig xx:=⟨[.d (.sl ah),.d (.sl ah)],[.d .bool],fun a=>iY n a.1 a.2.1,none⟩
def UF:Hn SI:=(.s .z (.s .z (.s (.s .z (.b (.lx ⟨[(5,(.v ah))],[],[0,1],[],1448,[]⟩ 0 ⟨[],[],[],[],1448,[]⟩ .z))) .z)))
theorem Ic (n:Nat):aH 30 (UE n) :=cq aB Tryz.func30 UF n (by kernel_rfl) rfl fun _=>by kernel_rfl
def adf (n:Nat):Sig xx:=⟨[.d (.sl cu)],[.d .bool],fun a=>aal n a.1,none⟩
def adg:Hn SI:=(.s .z (.s .z (.s (.s .z (.b (.lx ⟨[(11,(.v ah))],[],[0,9,10],[],1448,[]⟩ 0 ⟨[],[],[],[],1448,[]⟩ (.s .z (.s .z (.s (.jx ⟨[],[],[0,9,10,11],[],1512,[]⟩ (.b (.s .z (.s (.s (.j ⟨[(42,(.v .bool))],[],[0,3,4,9,10,11],[1704],1896,[]⟩ .z) .z) (.s .z (.s .z (.s (.j ⟨[(68,(.v .bool))],[],[0,9,10,11],[],2472,[]⟩ .z) .z))))))) .z)))))) .z)))
theorem adh (n:Nat):aH 89 (adf n) :=cq (au (oH n) (au (Xg n) aB)) Tryz.func89 adg n (by kernel_rfl) rfl fun _=>by kernel_rfl
def Qx (n:Nat):Sig xx:=⟨[.d cu,.ref (.st SI.Easement)],[.d .bool],fun a=>JI n a.1 a.2.1,none⟩
theorem Qy (n:Nat):aH 91 (Qx n) :=cq (au (Oy n) aB) Tryz.func91 .z n (by kernel_rfl) rfl fun _=>by kernel_rfl
def Jq (n:Nat):Sig xx:=⟨[.d (.sl cu),.clo [cu] .bool],[.d ah],fun a=>A8 n a.1 a.2.1,none⟩
def Jr:Hn SI:=(.s .z (.s (.s .z (.b (.lx ⟨[(8,(.v ah))],[],[0,1,7],[],1256,[]⟩ 0 ⟨[],[],[],[],1256,[]⟩ .z))) .z))
theorem Js (n:Nat):aH 133 (Jq n) :=cq aB Tryz.func133 Jr n (by kernel_rfl) rfl fun _=>by kernel_rfl
def Fw (n:Nat):Sig xx:=⟨[.d (.sl cu),.clo [cu] .bool],[.d .bool],fun a=>uW n a.1 a.2.1,none⟩
theorem Fx (n:Nat):aH 90 (Fw n) :=cq (au (Js n) aB) Tryz.func90 .z n (by kernel_rfl) rfl fun _=>by kernel_rfl
def YL (n:Nat):Sig xx:=⟨[.d (.sl (.st SI.Easement)),.d ah,.d (.sl cu)],[.d .bool],fun a=>zw n a.1 a.2.1 a.2.2.1,none⟩
def YM:Hn SI:=(.s .z (.s .z (.s (.s .z (.b (.lx ⟨[(14,(.v ah))],[],[1,2,12,13],[],1448,[]⟩ 0 ⟨[],[],[],[],1448,[]⟩ (.s .z (.s .z (.s (.jx ⟨[],[],[1,2,12,13,14],[],1512,[]⟩ (.b (.s .z (.s (.s (.j ⟨[(27,(.v .bool))],[],[1,2,8,12,13,14],[1640],1768,[]⟩ .z) .z) .z)))) .z)))))) .z)))
theorem YN (n:Nat):aH 36 (YL n) :=cq (au (adh n) (au (oH n) (au (Fx n) (au (Qy n) aB)))) Tryz.func36 YM n (by kernel_rfl) rfl fun _=>by kernel_rfl
def aa5 (n:Nat):Sig xx:=⟨[],[.d .bool],fun a=>IG n,none⟩
def aa6:Hn SI:=(.s .z (.s (.f [6]) (.s (.f [7]) (.s (.f [6]) (.s .z (.s .z (.s .z (.s .z (.s .z (.s .z (.s (.j ⟨[(16,(.v .bool))],[],[3,5,7,11,12,13,15],[2792,4200,4712,5544],5672,[]⟩ .z) .z)))))))))))
theorem aa7 (n:Nat):aH 9 (aa5 n) :=cq (au afg (au (aaX n) (au (Uz n) (au (Xf n) (au (aif n) (au (UD n) (au (Xh n) (au (Ic n) (au (YN n) aB))))))))) Tryz.func9 aa6 n (by kernel_rfl) rfl fun _=>by kernel_rfl
def afA (n:Nat):Sig xx:=⟨[.d (.sl ay)],[.d .bool],fun a=>QJ n a.1,none⟩
def afB:Hn SI:=(.s .z (.s (.s .z (.b (.lx ⟨[(3,(.v ah))],[],[0],[],1128,[]⟩ 0 ⟨[],[],[0],[],1128,[]⟩ (.s .z (.s (.b (.s (.j ⟨[(25,(.v .bool))],[],[0,3],[],1384,[]⟩ .z) .z)) .z))))) .z))
theorem afC (n:Nat):aH 10 (afA n) :=cq aB Tryz.func10 afB n (by kernel_rfl) rfl fun _=>by kernel_rfl
def YO (n:Nat):Sig xx:=⟨[.d (.sl (.st SI.Op))],[.d .bool],fun a=>EJ n a.1,none⟩
def YP:Hn SI:=(.s .z (.s (.s .z (.b (.lx ⟨[(3,(.v ah))],[],[0],[],1128,[]⟩ 0 ⟨[],[],[0],[],1128,[]⟩ (.s .z (.s (.b (.s (.j ⟨[(25,(.v .bool))],[],[0,3],[],1384,[]⟩ .z) .z)) .z))))) .z))
theorem YQ (n:Nat):aH 16 (YO n) :=cq aB Tryz.func16 YP n (by kernel_rfl) rfl fun _=>by kernel_rfl
def Vw (n:Nat):Sig xx:=⟨[.d (.sl ay),.d ah,.d ah],[.fresh ay,.d ah],fun a=>A9 n a.1 a.2.1 a.2.2.1,none⟩
def Vx:Hn SI:=(.s .z (.s (.s (.j ⟨[(17,(.v .bool))],[],[0,1,2],[],1128,[]⟩ .z) .z) .z))
theorem Vy (n:Nat):aH 48 (Vw n) :=cq (au (zO n) (au Ub (au (D5 n) (au (yj n) aB)))) Tryz.func48 Vx n (by kernel_rfl) rfl fun _=>by kernel_rfl
def aho (n:Nat):Sig xx:=⟨[.d (.sl ay),.d (.st SI.Op)],[.d (.sl ay),.d ah],fun a=>Ti n a.1 a.2.1,none⟩
theorem ahp (n:Nat):aH 17 (aho n) :=cq (au (Yz n) (au (aaX n) (au (Uz n) (au (Xf n) (au (Vy n) aB))))) Tryz.func17 .z n (by kernel_rfl) rfl fun _=>by kernel_rfl
def Qz:Sig xx:=⟨[.d ak],[.d .bool],fun a=>tY a.1,none⟩
theorem QA:aH 122 Qz :=cq aB Tryz.func122 .z 0 (by kernel_rfl) rfl fun _=>by kernel_rfl
def YR (n:Nat):Sig xx:=⟨[.d (.sl ah)],[.fresh ah],fun a=>EK n a.1,none⟩
def YS:Hn SI:=(.s .z (.s .z (.s (.s .z (.b (.l ⟨[(3,(.o 1192)),(4,(.v ah))],[(1192,.l ah)],[0],[],1193,[(3,ah)]⟩ 0 ⟨[(3,(.o 1192))],[(1192,.l ah)],[],[],1193,[]⟩ (.s .z (.s (.j ⟨[(3,(.o 1449))],[(1449,.l ah)],[0,4],[],1450,[]⟩ (.b (.s .z (.s (.b (.l ⟨[(5,(.v ah))],[],[0,3,4],[1192],1641,[]⟩ 2 ⟨[(5,(.v ah))],[],[0,3,4],[1192],1641,[]⟩ (.s (.s (.j ⟨[(28,(.v .bool))],[],[0,3,4,5],[1192],1641,[]⟩ .z) .z) .z))) (.s (.s (.j ⟨[(44,(.v .bool))],[],[0,3,4,5],[1192],1641,[]⟩ .z) .z) (.s .z (.s (.s .z (.b (.l ⟨[(6,(.v ah))],[(1769,.l ah)],[0,3,4,5],[],2153,[]⟩ 4 ⟨[],[(1769,.l ah)],[0,3,4,5],[],2153,[]⟩ .z))) .z))))))) .z))))) .z)))
theorem YT (n:Nat):aH 187 (YR n) :=cq aB Tryz.func187 YS n (by kernel_rfl) rfl fun _=>by kernel_rfl
def aa8 (n:Nat):Sig xx:=⟨[.d (.sl ak),.d (.sl ak)],[.fresh ah],fun a=>II n a.1 a.2.1,none⟩
def aa9:Hn SI:=(.s .z (.s .z (.s (.s .z (.b (.l ⟨[(5,(.o 1192)),(6,(.v ah))],[(1192,.l ah)],[0,1],[],1193,[(5,ah)]⟩ 0 ⟨[(5,(.o 1192))],[(1192,.l ah)],[1],[],1193,[]⟩ .z))) (.s (.s .z (.b (.l ⟨[(5,(.o 1257)),(7,(.v ah))],[(1257,.l ah)],[1],[],1258,[]⟩ 2 ⟨[(5,(.o 1257))],[(1257,.l ah)],[],[],1258,[]⟩ .z))) .z))))
theorem abb (n:Nat):aH 162 (aa8 n) :=cq (au (YT n) aB) Tryz.func162 aa9 n (by kernel_rfl) rfl fun _=>by kernel_rfl
def YU (n:Nat):Sig xx:=⟨[.d (.sl ak),.d ah],[.fresh ah],fun a=>oD n a.1 a.2.1,none⟩
def YV:Hn SI:=(.s .z (.s .z (.s .z (.s (.s .z (.b (.l ⟨[(5,(.o 1256)),(6,(.o 1257)),(7,(.v ah))],[(1256,.l ah),(1257,.l ah)],[0,1],[],1258,[(5,ah),(6,ah)]⟩ 0 ⟨[(5,(.o 1256)),(6,(.o 1257))],[(1256,.l ah),(1257,.l ah)],[],[],1258,[]⟩ (.s .z (.s (.j ⟨[(5,(.o 1514)),(6,(.o 1515))],[(1514,.l ah),(1515,.l ah)],[0,1,7],[],1516,[]⟩ (.b (.s (.s (.j ⟨[(32,(.v .bool))],[],[0,1,5,6,7],[1256,1257],1514,[]⟩ .z) .z) (.s .z (.s .z (.s .z (.s (.b (.l ⟨[(8,(.v ah))],[(1834,.l ah),(2090,.l ah)],[0,1,5,6,7],[],2218,[]⟩ 2 ⟨[(8,(.v ah))],[(1834,.l ah),(2090,.l ah)],[0,1,5,6,7],[],2218,[]⟩ (.s (.s (.j ⟨[(55,(.v .bool))],[],[0,1,5,6,7,8],[1834,2090],2218,[]⟩ .z) .z) .z))) .z))))))) .z))))) (.s .z (.s (.s .z (.b (.l ⟨[(9,(.o 1386)),(10,(.v ah))],[(1386,.l ah)],[5,6],[1256,1257],1387,[(9,ah)]⟩ 4 ⟨[(9,(.o 1386))],[(1386,.l ah)],[],[],1387,[]⟩ (.s .z (.s (.j ⟨[(9,(.o 1643))],[(1643,.l ah)],[5,6,10],[1256,1257],1644,[]⟩ (.b (.s (.s (.j ⟨[(111,(.v .bool))],[],[5,6,9,10],[1256,1257,1386],1643,[]⟩ .z) .z) .z))) .z))))) .z))))))
theorem YW (n:Nat):aH 164 (YU n) :=cq aB Tryz.func164 YV n (by kernel_rfl) rfl fun _=>by kernel_rfl
def Vz (n:Nat):Sig xx:=⟨[.d (.sl ah),.d (.sl ah),.d ah],[.fresh ah],fun a=>Ba n a.1 a.2.1 a.2.2.1,none⟩
def VA:Hn SI:=(.s .z (.s .z (.s .z (.s .z (.s .z (.s (.b (.l ⟨[(7,(.o 1320)),(8,(.v ah)),(9,(.v ah)),(10,(.v .bool))],[(1320,.l ah)],[0,1,2],[],1321,[(7,ah)]⟩ 0 ⟨[(7,(.o 1320))],[(1320,.l ah)],[],[],1321,[]⟩ (.s (.s (.j ⟨[(24,(.v .bool))],[],[0,1,2,7,8,9,10],[1320],1321,[]⟩ .z) .z) (.b (.s .z (.s (.j ⟨[(11,(.v ah))],[],[0,1,2,7,8,9,10],[1320],1385,[]⟩ (.s (.j ⟨[(49,(.v .bool))],[],[0,1,2,7,8,9,10],[1320],1385,[]⟩ .z) .z)) (.s (.j ⟨[(8,(.v ah))],[],[0,1,2,7,9,10,11],[1320],1385,[]⟩ (.s (.j ⟨[(69,(.v .bool))],[],[0,1,2,7,8,9,10,11],[1320],1385,[]⟩ .z) .z)) (.s (.j ⟨[(9,(.v ah))],[],[0,1,2,7,8,10,11],[1320],1385,[]⟩ (.s (.j ⟨[(83,(.v .bool))],[],[0,1,2,7,8,9,10,11],[1320],1385,[]⟩ .z) .z)) (.s .z (.s .z (.s (.j ⟨[(14,(.v .bool))],[],[0,1,2,7,8,9,10,11,12,13],[1320],1897,[]⟩ .z) (.s (.j ⟨[(14,(.v .bool))],[],[0,1,2,7,8,9,10,11,12,13],[1320],1897,[]⟩ .z) (.s (.j ⟨[(14,(.v .bool))],[],[0,1,2,7,8,9,10,11],[1320],1897,[]⟩ .z) (.s (.j ⟨[(7,(.o 1897))],[(1897,.l ah)],[0,1,2,8,9,14],[],1898,[]⟩ .z) .z)))))))))))))) .z))))))
theorem VB (n:Nat):aH 163 (Vz n) :=cq aB Tryz.func163 VA n (by kernel_rfl) rfl fun _=>by kernel_rfl
def adi (n:Nat):Sig xx:=⟨[.d (.sl ah),.d (.sl ah)],[.d .bool],fun a=>Hf n a.1 a.2.1,none⟩
def adk:Hn SI:=(.s .z (.s .z (.s (.s .z (.b (.lx ⟨[(5,(.v ah))],[],[0,1],[],1448,[]⟩ 0 ⟨[],[],[],[],1448,[]⟩ .z))) .z)))
theorem adl (n:Nat):aH 165 (adi n) :=cq aB Tryz.func165 adk n (by kernel_rfl) rfl fun _=>by kernel_rfl
def adm (n:Nat):Sig xx:=⟨[.d (.sl ak),.d (.sl ak),.d ah],[.fresh ak],fun a=>qi n a.1 a.2.1 a.2.2.1,none⟩
def adn:Hn SI:=(.s .z (.s .z (.s .z (.s .z (.s .z (.s (.s .z (.b (.l ⟨[(7,(.o 1576)),(9,(.o 1577)),(10,(.v ah)),(11,(.v ah))],[(1576,.l ak),(1577,.l ah)],[0,1,2,8],[1256],1578,[(7,ak),(9,ah)]⟩ 0 ⟨[(7,(.o 1576))],[(1576,.l ak)],[],[],1577,[]⟩ (.s .z (.s (.j ⟨[(7,(.o 1898)),(9,(.o 1899)),(10,(.v ah))],[(1898,.l ak),(1899,.l ah)],[0,1,2,8,11],[1256],1900,[]⟩ (.b (.s .z (.s (.s (.j ⟨[(50,(.v .bool))],[],[0,1,2,7,8,9,10,11,12],[1256,1576,1577,2730],2858,[]⟩ .z) (.s (.s (.s .z (.b (.l ⟨[(13,(.v ah))],[(1576,.l ak)],[0,1,2,7,8,9,10,11],[1256,1577],2986,[]⟩ 2 ⟨[],[(1576,.l ak)],[0,1,2,7,8,9,10,11],[1256,1577],2986,[]⟩ .z))) .z) .z)) (.s .z (.s .z (.s .z (.b (.l ⟨[(7,(.o 3242)),(14,(.v ah))],[(3242,.l ak)],[0,1,2,8,9,10,11,12],[1256,2730],3243,[]⟩ 4 ⟨[(7,(.o 3242))],[(3242,.l ak)],[0,1,2,8,9,10,11],[1256,2730],3243,[]⟩ .z))))))))) .z))))) .z))))))
theorem Fy (n:Nat):aH 123 (adm n) :=cq (au (abb n) (au (YW n) (au (VB n) (au (adl n) aB)))) Tryz.func123 adn n (by kernel_rfl) rfl fun _=>by kernel_rfl
def ahq (n:Nat):Sig xx:=⟨[.d (.sl ak)],[.fresh ak,.d ah],fun a=>Tj n a.1,none⟩
def ahr:Hn SI:=(.s .z (.s (.s .z (.b (.lx ⟨[(4,(.v ah))],[],[0],[],1192,[]⟩ 0 ⟨[],[],[0],[],1192,[]⟩ .z))) .z))
theorem abd (n:Nat):aH 70 (ahq n) :=cq (au QA (au (Fy n) aB)) Tryz.func70 ahr n (by kernel_rfl) rfl fun _=>by kernel_rfl
def YX:Sig xx:=⟨[.d ah],[.d .bool],fun a=>lM a.1,none⟩
theorem Fz:aH 127 YX :=cq aB Tryz.func127 .z 0 (by kernel_rfl) rfl fun _=>by kernel_rfl
def abe (n:Nat):Sig xx:=⟨[.d (.sl ak)],[.d .bool],fun a=>oU n a.1,none⟩
theorem Bz (n:Nat):aH 126 (abe n) :=cq (au (abd n) (au (UC n) aB)) Tryz.func126 .z n (by kernel_rfl) rfl fun _=>by kernel_rfl
def abf:Sig xx:=⟨[.d ak,.d ak],[.d .bool],fun a=>IK a.1 a.2.1,none⟩
theorem abg:aH 166 abf :=cq aB Tryz.func166 .z 0 (by kernel_rfl) rfl fun _=>by kernel_rfl
def abh (n:Nat):Sig xx:=⟨[.d (.sl ak)],[.fresh (.sl ak)],fun a=>rP n a.1,none⟩
def abj:Hn SI:=(.s .z (.s .z (.s .z (.s .z (.s (.s .z (.b (.l ⟨[(4,(.o 1640)),(5,(.v ah))],[(1384,.l .bool),(1640,.l (.sl ak))],[0,3],[],1641,[(4,(.sl ak))]⟩ 0 ⟨[(4,(.o 1640))],[(1640,.l (.sl ak))],[],[],1641,[]⟩ (.s .z (.s (.j ⟨[(4,(.o 1897))],[(1384,.l .bool),(1897,.l (.sl ak))],[0,3,5],[],1898,[]⟩ (.b (.s .z (.s .z (.s .z (.s (.s .z (.b (.l ⟨[(6,(.o 2857)),(7,(.v ah))],[(1384,.l .bool),(2857,.l ak)],[0,3,4,5],[1640],2858,[]⟩ 2 ⟨[(6,(.o 2857))],[(1384,.l .bool),(2857,.l ak)],[0,3,4,5],[1640],2858,[]⟩ (.s .z (.s (.b (.s .z (.b (.l ⟨[(6,(.o 3178)),(8,(.v ah))],[(1384,.l .bool),(3178,.l ak)],[0,3,4,5,7],[1640],3179,[]⟩ 4 ⟨[(6,(.o 3178))],[(1384,.l .bool),(3178,.l ak)],[0,3,4,5,7],[1640],3179,[]⟩ (.s .z (.s (.j ⟨[(6,(.o 3435))],[(1384,.l .bool),(3435,.l ak)],[0,3,4,5,7,8],[1640],3436,[]⟩ (.b (.s (.j ⟨[(60,(.v .bool))],[],[0,3,4,5,6,7,8],[1384,1640,3178],3435,[]⟩ .z) .z))) .z)))))) .z))))) .z)))))) .z))))) .z)))))
theorem Ie (n:Nat):aH 128 (abh n) :=cq (au (Bz n) (au abg (au (Fy n) aB))) Tryz.func128 abj n (by kernel_rfl) rfl fun _=>by kernel_rfl
def abk (n:Nat):Sig xx:=⟨[.d ay],[.d .bool],fun a=>Dk n a.1,none⟩
def abl:Hn SI:=(.s .z (.s (.s .z (.b (.lx ⟨[(3,(.v ah))],[],[1],[1000],1192,[]⟩ 0 ⟨[],[],[1],[1000],1192,[]⟩ (.s .z (.s (.b (.s (.j ⟨[(35,(.v .bool))],[],[1,3],[1000],1512,[]⟩ .z) .z)) .z))))) .z))
theorem PE (n:Nat):aH 76 (abk n) :=cq (au Fz (au (Ie n) aB)) Tryz.func76 abl n (by kernel_rfl) rfl fun _=>by kernel_rfl
def afD (n:Nat):Sig xx:=⟨[.d (.sl ah),.d ah],[.d .bool],fun a=>xL n a.1 a.2.1,none⟩
def afE:Hn SI:=(.s .z (.s (.s .z (.b (.lx ⟨[(5,(.v ah))],[],[0,1],[],1128,[]⟩ 0 ⟨[],[],[],[],1128,[]⟩ .z))) .z))
theorem D9 (n:Nat):aH 77 (afD n) :=cq aB Tryz.func77 afE n (by kernel_rfl) rfl fun _=>by kernel_rfl
def ado (n:Nat):Sig xx:=⟨[.d (.sl ak),.d (.sl ak)],[.d .bool],fun a=>Hg n a.1 a.2.1,none⟩
def adp:Hn SI:=(.s .z (.s (.s .z (.b (.lx ⟨[(5,(.v ah))],[],[0,1],[],1128,[]⟩ 0 ⟨[],[],[],[],1128,[]⟩ (.s .z (.s (.b (.s .z (.b (.lx ⟨[(6,(.v ah))],[],[0,1,5],[],1448,[]⟩ 2 ⟨[],[],[0,1,5],[],1448,[]⟩ (.s .z (.s (.b (.s (.j ⟨[(66,(.v .bool))],[],[0,1,5,6],[],1704,[]⟩ .z) .z)) .z)))))) .z))))) .z))
theorem UG (n:Nat):aH 78 (ado n) :=cq aB Tryz.func78 adp n (by kernel_rfl) rfl fun _=>by kernel_rfl
def abm (n:Nat):Sig xx:=⟨[.d (.sl ay)],[.d .bool],fun a=>kN n a.1,none⟩
def abn:Hn SI:=(.s .z (.s .z (.s (.s .z (.b (.lx ⟨[(3,(.v ah))],[],[0],[],1320,[]⟩ 0 ⟨[],[],[0],[],1320,[]⟩ (.s .z (.s (.b (.s (.j ⟨[(38,(.v .bool))],[],[0,3],[],1576,[]⟩ .z) .z)) .z))))) (.s (.s .z (.b (.lx ⟨[(4,(.v ah))],[],[0],[],1384,[]⟩ 2 ⟨[],[],[],[],1384,[]⟩ (.s .z (.s (.b (.s .z (.b (.lx ⟨[(5,(.v ah))],[],[0,4],[],1704,[]⟩ 4 ⟨[],[],[0,4],[],1704,[]⟩ (.s .z (.s (.b (.s (.j ⟨[(79,(.v .bool))],[],[0,4,5],[],1960,[]⟩ .z) .z)) .z)))))) .z))))) .z))))
theorem vV (n:Nat):aH 29 (abm n) :=cq (au (PE n) (au (D9 n) (au (UG n) aB))) Tryz.func29 abn n (by kernel_rfl) rfl fun _=>by kernel_rfl
def abo (n:Nat):Sig xx:=⟨[.d (.sl ay),.d ah],[.d .bool],fun a=>rQ n a.1 a.2.1,none⟩
def abp:Hn SI:=(.s .z (.s (.s .z (.b (.lx ⟨[(5,(.v ah))],[],[0,1],[],1128,[]⟩ 0 ⟨[],[],[],[],1128,[]⟩ (.s .z (.s (.b (.s (.j ⟨[(27,(.v .bool))],[],[0,1,5],[],1384,[]⟩ .z) .z)) .z))))) .z))
theorem Ig (n:Nat):aH 124 (abo n) :=cq (au (D9 n) aB) Tryz.func124 abp n (by kernel_rfl) rfl fun _=>by kernel_rfl
def adq:Sig xx:=⟨[.d ay],[.d ay],fun a=>u6 a.1,none⟩
theorem UH:aH 81 adq :=cq aB Tryz.func81 .z 0 (by kernel_rfl) rfl fun _=>by kernel_rfl
def YZ (n:Nat):Sig xx:=⟨[.d (.sl ay),.d (.sl ah),.d (.sl ay)],[.fresh ay],fun a=>oF n a.1 a.2.1 a.2.2.1,none⟩
def Y0:Hn SI:=(.s .z (.s .z (.s (.s .z (.b (.l ⟨[(7,(.o 1192)),(8,(.v ah))],[(1192,.l ay)],[0,1,2],[],1193,[(7,ay)]⟩ 0 ⟨[(7,(.o 1192))],[(1192,.l ay)],[2],[],1193,[]⟩ (.s .z (.s (.j ⟨[(7,(.o 1449))],[(1449,.l ay)],[0,1,2,8],[],1450,[]⟩ .z) .z))))) (.s (.s .z (.b (.l ⟨[(7,(.o 1257)),(9,(.v ah))],[(1257,.l ay)],[2],[],1258,[]⟩ 2 ⟨[(7,(.o 1257))],[(1257,.l ay)],[],[],1258,[]⟩ (.s .z (.s (.b (.s .z (.s .z (.s (.b (.l ⟨[(10,(.v ah))],[(2090,.l ay)],[2,7,9],[],2218,[]⟩ 4 ⟨[(10,(.v ah))],[(2090,.l ay)],[2,7,9],[],2218,[]⟩ (.s (.s (.j ⟨[(63,(.v .bool))],[],[2,7,9,10],[2090],2218,[]⟩ .z) .z) .z))) .z)))) .z))))) .z))))
theorem yu (n:Nat):aH 125 (YZ n) :=cq (au (D9 n) (au UH aB)) Tryz.func125 Y0 n (by kernel_rfl) rfl fun _=>by kernel_rfl
def afF (n:Nat):Sig xx:=⟨[.d (.sl ay),.d ay],[.fresh ay,.d ah],fun a=>QK n a.1 a.2.1,none⟩
def afG:Hn SI:=(.s .z (.s (.s (.j ⟨[(20,(.v .bool))],[],[0,3],[1000],1192,[]⟩ .z) .z) (.s .z (.s (.s .z (.b (.lx ⟨[(6,(.v ah))],[],[0,3],[1000],1512,[]⟩ 0 ⟨[],[],[0,3],[1000],1512,[]⟩ .z))) .z))))
theorem afH (n:Nat):aH 71 (afF n) :=cq (au (vV n) (au (PE n) (au (Ig n) (au (UG n) (au (yu n) aB))))) Tryz.func71 afG n (by kernel_rfl) rfl fun _=>by kernel_rfl
def adr (n:Nat):Sig xx:=⟨[.d (.sl ay),.d ah],[.d ay,.d .bool],fun a=>u7 n a.1 a.2.1,none⟩
def ads:Hn SI:=(.s .z (.s (.s .z (.b (.lx ⟨[(6,(.v ah))],[],[0,1,4],[1000],1192,[]⟩ 0 ⟨[],[],[4],[1000],1192,[]⟩ .z))) .z))
theorem zT (n:Nat):aH 32 (adr n) :=cq (au UH aB) Tryz.func32 ads n (by kernel_rfl) rfl fun _=>by kernel_rfl
def adt (n:Nat):Sig xx:=⟨[.d (.sl ah),.d ah],[.d (.sl ah)],fun a=>qm n a.1 a.2.1,none⟩
def adu:Hn SI:=(.s .z (.s .z (.s .z (.s (.b (.l ⟨[(5,(.v ah))],[],[0,1],[],1320,[]⟩ 0 ⟨[(5,(.v ah))],[],[0,1],[],1320,[]⟩ (.s (.s (.j ⟨[(22,(.v .bool))],[],[0,1,5],[],1320,[]⟩ .z) .z) .z))) .z))))
theorem KS (n:Nat):aH 80 (adt n) :=cq (au (D9 n) aB) Tryz.func80 adu n (by kernel_rfl) rfl fun _=>by kernel_rfl
def abq (n:Nat):Sig xx:=⟨[.d (.sl ay),.d ah,.d (.sl ak),.d ah,.d ah],[.fresh ay,.d ah],fun a=>IL n a.1 a.2.1 a.2.2.1 a.2.2.2.1 a.2.2.2.2.1,none⟩
def abr:Hn SI:=(.s .z (.s (.s (.j ⟨[(39,(.v .bool))],[],[0,1,2,3,4],[],1128,[]⟩ .z) .z) (.s .z (.s .z (.s (.s (.j ⟨[(55,(.v .bool))],[],[0,1,2,3,4,12],[1512],1832,[]⟩ .z) .z) (.s (.f [4]) (.s (.f [4]) (.s (.s (.j ⟨[(71,(.v .bool))],[],[0,1,3,4,12,14,15],[1512],2472,[]⟩ .z) .z) (.s (.s (.j ⟨[(84,(.v .bool))],[],[0,1,3,4,12,14,15],[1512],2472,[]⟩ .z) .z) (.s (.s (.j ⟨[(94,(.v .bool))],[],[0,1,3,4,12,14,15],[1512],2472,[]⟩ .z) .z) .z))))))))))
theorem abt (n:Nat):aH 72 (abq n) :=cq (au (vV n) (au (Bz n) (au Fz (au (zT n) (au (Ig n) (au (Fy n) (au (Ie n) (au (KS n) (au (yu n) aB))))))))) Tryz.func72 abr n (by kernel_rfl) rfl fun _=>by kernel_rfl
def adv (n:Nat):Sig xx:=⟨[.d (.sl ay),.d (.sl ah),.d ah],[.fresh ay,.d ah],fun a=>Mf n a.1 a.2.1 a.2.2.1,none⟩
def adw:Hn SI:=(.s .z (.s (.s (.j ⟨[(29,(.v .bool))],[],[0,1,2],[],1128,[]⟩ .z) .z) (.s (.s .z (.b (.lx ⟨[(8,(.v ah))],[],[0,1,2],[],1192,[]⟩ 0 ⟨[],[],[0,1,2],[],1192,[]⟩ .z))) (.s .z (.s .z (.s .z (.s .z (.s (.s .z (.b (.lx ⟨[(9,(.o 1512)),(10,(.v (.sl ah))),(11,(.v .bool)),(12,(.v ah)),(13,(.v ah))],[(1512,.l ak)],[0,1,2],[],1513,[(9,ak)]⟩ 2 ⟨[(9,(.o 1512)),(10,(.v (.sl ah))),(11,(.v .bool)),(12,(.v ah))],[(1512,.l ak)],[0,1,2],[],1513,[]⟩ (.s .z (.s (.b (.s .z (.s .z (.s (.j ⟨[(12,(.v ah))],[],[0,1,2,9,10,11,13,14],[1512,2345],2665,[]⟩ .z) (.s (.j ⟨[(11,(.v .bool))],[],[0,1,2,9,10,12,13,14],[1512,2345],2665,[]⟩ .z) (.s .z (.s .z (.s .z (.b (.l ⟨[(10,(.v (.sl ah))),(16,(.v ah))],[],[0,1,2,9,11,12,13,14],[2345,2857],3369,[]⟩ 4 ⟨[(10,(.v (.sl ah)))],[],[0,1,2,9,11,12,13],[2857],3369,[]⟩ .z)))))))))) .z))))) (.s .z (.s .z (.s (.f [2]) .z)))))))))))
theorem adx (n:Nat):aH 73 (adv n) :=cq (au (vV n) (au Fz (au (D9 n) (au (zT n) (au (KS n) (au (Ig n) (au (Fy n) (au (Ie n) (au (yu n) aB))))))))) Tryz.func73 adw n (by kernel_rfl) rfl fun _=>by kernel_rfl
def UI (n:Nat):Sig xx:=⟨[.d (.sl ay),.d ah,.d ah],[.fresh ay,.d ah],fun a=>xP n a.1 a.2.1 a.2.2.1,none⟩
def UJ:Hn SI:=(.s .z (.s (.s (.j ⟨[(20,(.v .bool))],[],[0,1,2],[],1128,[]⟩ .z) .z) .z))
theorem UK (n:Nat):aH 74 (UI n) :=cq (au (vV n) (au (zT n) (au (yu n) aB))) Tryz.func74 UJ n (by kernel_rfl) rfl fun _=>by kernel_rfl
def ahs (n:Nat):Sig xx:=⟨[.d (.sl ay),.d (.st SI.Op)],[.d (.sl ay),.d ah],fun a=>Tk n a.1 a.2.1,none⟩
def aht:Hn SI:=(.s .z (.s (.f [6]) .z))
theorem ahu (n:Nat):aH 26 (ahs n) :=cq (au (abd n) (au (afH n) (au (abt n) (au (adx n) (au (UK n) aB))))) Tryz.func26 aht n (by kernel_rfl) rfl fun _=>by kernel_rfl
def abu:Sig xx:=⟨[.d ak],[.d ak,.d .bool],fun a=>NI a.1,none⟩
theorem abv:aH 132 abu :=cq (au Dx aB) Tryz.func132 .z 0 (by kernel_rfl) rfl fun _=>by kernel_rfl
def ail:Sig xx:=⟨[.d ak,.d ah,.d ah],[.d .bool],fun a=>ad5 a.1 a.2.1 a.2.2.1,none⟩
theorem aim:aH 88 ail :=cq (au abv aB) Tryz.func88 .z 0 (by kernel_rfl) rfl fun _=>by kernel_rfl
def abw:Sig xx:=⟨[.d ak,.ref ah,.ref ah],[.d .bool],fun a=>IQ a.1 a.2.1 a.2.2.1,none⟩
theorem abx:aH 87 abw :=cq (au aim aB) Tryz.func87 .z 0 (by kernel_rfl) rfl fun _=>by kernel_rfl
def ahv (n:Nat):Sig xx:=⟨[.d (.sl ak),.d ah,.d ah],[.d .bool],fun a=>Yd n a.1 a.2.1 a.2.2.1,none⟩
theorem ahw (n:Nat):aH 35 (ahv n) :=cq (au (ku n) (au abx (au (oH n) aB))) Tryz.func35 .z n (by kernel_rfl) rfl fun _=>by kernel_rfl
def ain (n:Nat):Sig xx:=⟨[.d (.sl ay),.d ah,.d ah],[.d ah,.d .bool],fun a=>WI n a.1 a.2.1 a.2.2.1,none⟩
def aio:Hn SI:=(.s .z (.s (.s .z (.b (.lx ⟨[(12,(.v ah))],[],[1,2,10,11],[],1320,[]⟩ 0 ⟨[],[],[],[],1320,[]⟩ .z))) .z))
theorem aip (n:Nat):aH 27 (ain n) :=cq (au (ahw n) aB) Tryz.func27 aio n (by kernel_rfl) rfl fun _=>by kernel_rfl
def afI (n:Nat):Sig xx:=⟨[.d (.sl ak),.d ah,.d ah],[.d .bool],fun a=>QL n a.1 a.2.1 a.2.2.1,none⟩
def afJ:Hn SI:=(.s .z (.s .z (.s (.s .z (.b (.lx ⟨[(7,(.v ah))],[],[0,1,2],[],1320,[]⟩ 0 ⟨[],[],[],[],1320,[]⟩ (.s .z (.s (.b (.s (.j ⟨[(50,(.v .bool))],[],[0,1,2,7],[],1576,[]⟩ .z) .z)) .z))))) .z)))
theorem afK (n:Nat):aH 75 (afI n) :=cq (au (Bz n) aB) Tryz.func75 afJ n (by kernel_rfl) rfl fun _=>by kernel_rfl
def ahx (n:Nat):Sig xx:=⟨[.d (.sl ay),.d ah,.d ah],[.d ah,.d .bool],fun a=>NJ n a.1 a.2.1 a.2.2.1,none⟩
def ahy:Hn SI:=(.s .z (.s (.s .z (.b (.lx ⟨[(8,(.v ah))],[],[0,1,2],[],1192,[]⟩ 0 ⟨[],[],[],[],1192,[]⟩ .z))) .z))
theorem ahz (n:Nat):aH 28 (ahx n) :=cq (au (afK n) aB) Tryz.func28 ahy n (by kernel_rfl) rfl fun _=>by kernel_rfl
def ady:Sig xx:=⟨[.d ah,.d ah],[.d .bool],fun a=>Mh a.1 a.2.1,none⟩
theorem adz:aH 188 ady :=cq aB Tryz.func188 .z 0 (by kernel_rfl) rfl fun _=>by kernel_rfl
def aby:Sig xx:=⟨[.d ak],[.d .bool],fun a=>Dl a.1,none⟩
theorem abz:aH 167 aby :=cq (au adz aB) Tryz.func167 .z 0 (by kernel_rfl) rfl fun _=>by kernel_rfl
def abA:Sig xx:=⟨[.d ah,.d ah,.d ah,.d ah],[.d ah],fun a=>Dm a.1 a.2.1 a.2.2.1 a.2.2.2.1,none⟩
theorem abB:aH 168 abA :=cq aB Tryz.func168 .z 0 (by kernel_rfl) rfl fun _=>by kernel_rfl
def afL:Sig xx:=⟨[.d ak,.d ak],[.d ah],fun a=>QM a.1 a.2.1,none⟩
def afM:Hn SI:=(.s .z (.s (.s (.j ⟨[(12,(.v .bool))],[],[2,3],[1000,1064],1192,[]⟩ .z) .z) .z))
theorem afN:aH 129 afL :=cq (au abz (au abB aB)) Tryz.func129 afM 0 (by kernel_rfl) rfl fun _=>by kernel_rfl
def afO (n:Nat):Sig xx:=⟨[.d (.sl ak),.d (.sl ak)],[.d ah,.d .bool],fun a=>Mi n a.1 a.2.1,none⟩
def afP:Hn SI:=(.s .z (.s (.s (.j ⟨[(26,(.v .bool))],[],[0,1],[],1128,[]⟩ .z) .z) (.s .z (.s (.s .z (.b (.l ⟨[(6,(.v ah)),(7,(.v ah))],[],[0,1],[],1256,[]⟩ 0 ⟨[(6,(.v ah))],[],[],[],1256,[]⟩ (.s .z (.s (.b (.s .z (.b (.l ⟨[(6,(.v ah)),(8,(.v ah))],[],[0,1,7],[],1576,[]⟩ 2 ⟨[(6,(.v ah))],[],[0,1,7],[],1576,[]⟩ .z)))) .z))))) .z))))
theorem afQ (n:Nat):aH 79 (afO n) :=cq (au (Bz n) (au afN aB)) Tryz.func79 afP n (by kernel_rfl) rfl fun _=>by kernel_rfl
def adA (n:Nat):Sig xx:=⟨[.d (.sl ay),.d ah,.d ah],[.d (.sl ah)],fun a=>Dn n a.1 a.2.1 a.2.2.1,none⟩
def adB:Hn SI:=(.s .z (.s .z (.s .z (.s .z (.s (.s .z (.b (.l ⟨[(9,(.v (.sl ah))),(10,(.v ah))],[],[0,1,2,7],[1448],1896,[]⟩ 0 ⟨[(9,(.v (.sl ah)))],[],[],[],1896,[]⟩ (.s .z (.s (.j ⟨[(9,(.v (.sl ah)))],[],[0,1,2,7,10],[1448],2152,[]⟩ (.b (.s .z (.s (.j ⟨[(52,(.v .bool))],[],[0,1,2,7,9,10],[1448],2984,[]⟩ .z) .z)))) .z))))) .z)))))
theorem adC (n:Nat):aH 31 (adA n) :=cq (au (zT n) (au (afQ n) (au (KS n) aB))) Tryz.func31 adB n (by kernel_rfl) rfl fun _=>by kernel_rfl
def MX (n:Nat):Sig xx:=⟨[.d (.sl ay),.d (.sl (.st SI.Op)),.d ah,.d ah,.d ah,.d ah],[.d .bool],fun a=>nY n a.1 a.2.1 a.2.2.1 a.2.2.2.1 a.2.2.2.2.1 a.2.2.2.2.2.1,none⟩
def MZ:Hn SI:=(.s .z (.s .z (.s (.s (.j ⟨[(42,(.v .bool))],[],[0,1,2,3,4,5,13],[],1192,[]⟩ .z) .z) (.s .z (.s .z (.s (.s .z (.b (.lx ⟨[(14,(.v (.sl ay))),(15,(.v (.sl ay))),(16,(.v ah))],[],[0,1,2,3,4,5,13],[],1384,[]⟩ 0 ⟨[],[],[0,2,3,4,5,13],[],1384,[]⟩ (.s .z (.s (.b (.s (.jx ⟨[(14,(.v (.sl ay))),(15,(.v (.sl ay)))],[],[0,1,2,3,4,5,13,16],[],1640,[]⟩ (.s .z (.s (.s .z (.s .z (.s .z (.s .z (.s .z (.s (.j ⟨[(99,(.v .bool))],[],[0,1,2,3,4,5,13,14,15,16],[],4776,[]⟩ .z) .z)))))) .z))) (.s .z (.s .z (.s (.j ⟨[(140,(.v .bool))],[],[0,1,2,3,4,5,13,14,15,16],[],2792,[]⟩ .z) .z))))) .z))))) (.s .z (.s .z (.s .z (.s .z (.s (.j ⟨[(33,(.v .bool))],[],[0,4,5,13],[],3688,[]⟩ .z) .z)))))))))))
theorem M0 (n:Nat):aH 6 (MX n) :=cq (au (aa7 n) (au (afC n) (au (YQ n) (au (ahp n) (au (ahu n) (au (UD n) (au (aip n) (au (ahz n) (au (zO n) (au (vV n) (au (Xh n) (au (adC n) (au (Ic n) (au (D5 n) (au (zT n) aB))))))))))))))) Tryz.func6 MZ n (by kernel_rfl) rfl fun _=>by kernel_rfl
end
end Go.Proofs
