import Derived.Test.YtnagaonenljjiaaGreatTC1
namespace Go.Proofs
open Go.Gb Go.RowKit
open Tryz
noncomputable section
variable (n:Nat)
def Ed:bz xx:=⟨[.d aI],[.d af],λa=>nU a.1,none⟩
theorem Ee:aH 117 Ed :=cq aB func117 .z 0
def FU:bz xx:=⟨[.d aI],[.d af],λa=>oU a.1,none⟩
theorem FV:aH 118 FU :=cq aB func118 .z 0
def UJ:bz xx:=⟨[.d ax,.d af],[.d ax,.d .bool],λa=>Dx a.1 a.2.1,none⟩
theorem UK:aH 153 UJ :=cq (au qj aB) func153 .z 0
def R8:bz xx:=⟨[.d (.st SI.Entry),.ref (.st SI.mA),.ref af],[.d .bool],λa=>kD a.1 a.2.1 a.2.2.1,none⟩
theorem R9:aH 199 R8 :=cq aB func199 .z 0
def KU:bz xx:=⟨[.d (.sl (.st SI.Entry)),.cV [.st SI.Entry] .bool],[.d af],λa=>kE n a.1 a.2.1,none⟩
def KV:Hn SI:=(.s .z (.s (.s .z (.b (.lx ⟨[(8,.v af)],[],[0,1,7],[],1256,[]⟩ 0 ⟨[],[],[],[],1256,[]⟩ .z))) .z))
theorem yh:aH 146 (KU n) :=cq aB func146 KV n
def ZU:bz xx:=⟨[.d (.st SI.ld),.d af],[.d af],λa=>CB n a.1 a.2.1,none⟩
def ZV:Hn SI:=(ca (.s (.s .z (.b (.lx ⟨[(14,.v af)],[],[3,5,12,13],[1064,1256],1640,[]⟩ 0 ⟨[],[],[],[],1640,[]⟩ (ca (.s (.b (ee (.s (.j ⟨[(8,.v af)],[],[],[],2344,[]⟩ .z) .z))) .z))))) .z))
theorem ZW:aH 154 (ZU n) :=cq (au (yh n) (au R9 aB)) func154 ZV n
def Qk:bz xx:=⟨[.d (.st SI.ld),.d aI],[.d af],λa=>lu n a.1 a.2.1,none⟩
def Ql:Hn SI:=(ca (.s (.s (.j ⟨[(20,.v .bool)],[],[5,6],[],1704,[]⟩ .z) .z) .z))
theorem Qm:aH 121 (Qk n) :=cq (au (ZW n) (au Iz aB)) func121 Ql n
def Jd:cT xx:=⟨[.p 0],[(0,ff),(1,.l aI)],[.v af],[(0,ff),(1,.l aI)],λv=>mW n v.1 v.2.1 v.2.2.1 v.2.2.2.1 v.2.2.2.2.1 v.2.2.2.2.2.1 v.2.2.2.2.2.2.1 v.2.2.2.2.2.2.2.1 v.2.2.2.2.2.2.2.2.1 v.2.2.2.2.2.2.2.2.2⟩
def Je:bz xx:=⟨[],[.d .bool],λ_=>none,some (Jd n)⟩
theorem Jf:aH 68 (Je n) :=nF (au (abd n) aB) func68 .z n (by kernel_rfl) λ_=>by kernel_rfl
def FW:cT xx:=⟨[.p 0],[(0,ff),(1,.l aI)],[.v af],[(0,ff),(1,.l aI)],λv=>iO n v.1 v.2.1 v.2.2.1 v.2.2.2.1 v.2.2.2.2.1 v.2.2.2.2.2.1 v.2.2.2.2.2.2.1 v.2.2.2.2.2.2.2.1 v.2.2.2.2.2.2.2.2.1 v.2.2.2.2.2.2.2.2.2⟩
def FX:bz xx:=⟨[],[.d .bool],λ_=>none,some (FW n)⟩
def FY:Hn SI:=(ee (.s (.s .z (.b (.l ⟨[(3,.o 1960),(23,.v af)],[(1448,.l ax),(1960,.l af)],[4,21,22],[0,1],1961,[(3,af)]⟩ 0 ⟨[(3,.o 1960)],[(1448,.l ax),(1960,.l af)],[4],[0,1],1961,[]⟩ .z))) (ee (.s (.s .z (.b (.l ⟨[(7,.v af),(56,.v af)],[],[3,4,55],[0,1,1448,1960],2601,[]⟩ 2 ⟨[(7,.v af)],[],[],[0,1],2601,[]⟩ (ca (.s (.b (ee (.b (.l ⟨[(7,.v af),(9,.v af),(61,.v af)],[],[3,4,8,55,56,59,60],[0,1,1448,1960],3049,[]⟩ 4 ⟨[(7,.v af)],[],[3,4,55,56],[0,1,1448,1960],3049,[]⟩ (ca (.s (.j ⟨[(7,.v af),(9,.v af)],[],[3,4,8,55,56,59,60,61],[0,1,1448,1960],3113,[]⟩ (.b (.s .z (.s (.j ⟨[(86,.v .bool)],[],[3,4,7,8,9,11,55,56,59,60,61],[0,1,1448,1960,3241],3369,[]⟩ .z) .z)))) .z)))))) .z))))) .z))))
theorem FZ:aH 69 (FX n) :=nF (au (NQ n) (au FT (au (wS n) aB))) func69 FY n (by kernel_rfl) λ_=>by kernel_rfl
def Jg:cT xx:=⟨[.p 0,(.f 114 [] [])],[(0,ff),(1,.l aI)],[.v af],[(0,ff),(1,.l aI)],λv=>qL n v.1 v.2.1 v.2.2.1 v.2.2.2.1 v.2.2.2.2.1 v.2.2.2.2.2.1 v.2.2.2.2.2.2.1 v.2.2.2.2.2.2.2.1 v.2.2.2.2.2.2.2.2.1 v.2.2.2.2.2.2.2.2.2⟩
def Jh:bz xx:=⟨[],[.d .bool],λ_=>none,some (Jg n)⟩
def Ji:Hn SI:=(ca (.s (.s .z (.b (.l ⟨[(5,.v af),(13,.v af)],[],[1,11,12],[0,1],1512,[]⟩ 0 ⟨[(5,.v af)],[],[],[0,1],1512,[]⟩ .z))) .z))
theorem Jj:aH 113 (Jh n) :=nF (au Iz aB) func113 Ji n (by kernel_rfl) λ_=>by kernel_rfl
def F3:cT xx:=⟨[.p 0],[(0,ff),(1,.l aI)],[.v af],[(0,ff),(1,.l aI)],λv=>kJ n v.1 v.2.1 v.2.2.1 v.2.2.2.1 v.2.2.2.2.1 v.2.2.2.2.2.1 v.2.2.2.2.2.2.1 v.2.2.2.2.2.2.2.1 v.2.2.2.2.2.2.2.2.1 v.2.2.2.2.2.2.2.2.2⟩
def F4:bz xx:=⟨[],[.d .bool],λ_=>none,some (F3 n)⟩
theorem F5:aH 70 (F4 n) :=nF (au (Jj n) aB) func70 .z n (by kernel_rfl) λ_=>by kernel_rfl
def Ba:cT xx:=⟨[.p 0,(.f 116 [] [])],[(0,ff),(1,.l aI)],[.v af],[(0,ff),(1,.l aI)],λv=>mK n v.1 v.2.1 v.2.2.1 v.2.2.2.1 v.2.2.2.2.1 v.2.2.2.2.2.1 v.2.2.2.2.2.2.1 v.2.2.2.2.2.2.2.1 v.2.2.2.2.2.2.2.2.1 v.2.2.2.2.2.2.2.2.2⟩
def Bb:bz xx:=⟨[],[.d .bool],λ_=>none,some (Ba n)⟩
def Bc:Hn SI:=(ca (.s (.s .z (.b (.l ⟨[(5,.v af),(13,.v af)],[],[1,11,12],[0,1],1512,[]⟩ 0 ⟨[(5,.v af)],[],[],[0,1],1512,[]⟩ .z))) .z))
theorem Bd:aH 115 (Bb n) :=nF (au Db aB) func115 Bc n (by kernel_rfl) λ_=>by kernel_rfl
def Ef:cT xx:=⟨[.p 0],[(0,ff),(1,.l aI)],[.v af],[(0,ff),(1,.l aI)],λv=>jH n v.1 v.2.1 v.2.2.1 v.2.2.2.1 v.2.2.2.2.1 v.2.2.2.2.2.1 v.2.2.2.2.2.2.1 v.2.2.2.2.2.2.2.1 v.2.2.2.2.2.2.2.2.1 v.2.2.2.2.2.2.2.2.2⟩
def Eg:bz xx:=⟨[],[.d .bool],λ_=>none,some (Ef n)⟩
theorem Eh:aH 71 (Eg n) :=nF (au (Bd n) aB) func71 .z n (by kernel_rfl) λ_=>by kernel_rfl
def Be:cT xx:=⟨[.p 0,(.f 117 [] [])],[(0,ff),(1,.l aI)],[.v af],[(0,ff),(1,.l aI)],λv=>mM n v.1 v.2.1 v.2.2.1 v.2.2.2.1 v.2.2.2.2.1 v.2.2.2.2.2.1 v.2.2.2.2.2.2.1 v.2.2.2.2.2.2.2.1 v.2.2.2.2.2.2.2.2.1 v.2.2.2.2.2.2.2.2.2⟩
def Bf:bz xx:=⟨[],[.d .bool],λ_=>none,some (Be n)⟩
def Bg:Hn SI:=(ca (.s (.s .z (.b (.l ⟨[(5,.v af),(13,.v af)],[],[1,11,12],[0,1],1512,[]⟩ 0 ⟨[(5,.v af)],[],[],[0,1],1512,[]⟩ .z))) .z))
theorem Bh:aH 115 (Bf n) :=nF (au Ee aB) func115 Bg n (by kernel_rfl) λ_=>by kernel_rfl
def Ei:cT xx:=⟨[.p 0],[(0,ff),(1,.l aI)],[.v af],[(0,ff),(1,.l aI)],λv=>jI n v.1 v.2.1 v.2.2.1 v.2.2.2.1 v.2.2.2.2.1 v.2.2.2.2.2.1 v.2.2.2.2.2.2.1 v.2.2.2.2.2.2.2.1 v.2.2.2.2.2.2.2.2.1 v.2.2.2.2.2.2.2.2.2⟩
def Ej:bz xx:=⟨[],[.d .bool],λ_=>none,some (Ei n)⟩
theorem El:aH 72 (Ej n) :=nF (au (Bh n) aB) func72 .z n (by kernel_rfl) λ_=>by kernel_rfl
def Jk:cT xx:=⟨[.p 0,(.f 118 [] [])],[(0,ff),(1,.l aI)],[.v af],[(0,ff),(1,.l aI)],λv=>qM n v.1 v.2.1 v.2.2.1 v.2.2.2.1 v.2.2.2.2.1 v.2.2.2.2.2.1 v.2.2.2.2.2.2.1 v.2.2.2.2.2.2.2.1 v.2.2.2.2.2.2.2.2.1 v.2.2.2.2.2.2.2.2.2⟩
def Jl:bz xx:=⟨[],[.d .bool],λ_=>none,some (Jk n)⟩
def Jm:Hn SI:=(ca (.s (.s .z (.b (.l ⟨[(5,.v af),(13,.v af)],[],[1,11,12],[0,1],1512,[]⟩ 0 ⟨[(5,.v af)],[],[],[0,1],1512,[]⟩ .z))) .z))
theorem Jo:aH 113 (Jl n) :=nF (au FV aB) func113 Jm n (by kernel_rfl) λ_=>by kernel_rfl
def F6:cT xx:=⟨[.p 0],[(0,ff),(1,.l aI)],[.v af],[(0,ff),(1,.l aI)],λv=>kK n v.1 v.2.1 v.2.2.1 v.2.2.2.1 v.2.2.2.2.1 v.2.2.2.2.2.1 v.2.2.2.2.2.2.1 v.2.2.2.2.2.2.2.1 v.2.2.2.2.2.2.2.2.1 v.2.2.2.2.2.2.2.2.2⟩
def F7:bz xx:=⟨[],[.d .bool],λ_=>none,some (F6 n)⟩
theorem F8:aH 73 (F7 n) :=nF (au (Jo n) aB) func73 .z n (by kernel_rfl) λ_=>by kernel_rfl
def Em:cT xx:=⟨[.p 0,.v ax,.v af],[(0,ff),(1,.l aI)],[.v .bool],[(0,ff),(1,.l aI)],λv=>jK n v.1 v.2.1 v.2.2.1 v.2.2.2.1 v.2.2.2.2.1 v.2.2.2.2.2.1 v.2.2.2.2.2.2.1 v.2.2.2.2.2.2.2.1 v.2.2.2.2.2.2.2.2.1 v.2.2.2.2.2.2.2.2.2.1 v.2.2.2.2.2.2.2.2.2.2.1 v.2.2.2.2.2.2.2.2.2.2.2⟩
def En:bz xx:=⟨[],[.d .bool],λ_=>none,some (Em n)⟩
def Eo:Hn SI:=(rK (.s (.s .z (.b (.l ⟨[(9,.v af),(27,.v af)],[],[7,25,26],[0,1,1512],2280,[]⟩ 0 ⟨[(9,.v af)],[],[7],[0,1,1512],2280,[]⟩ (ca (.s (.j ⟨[(9,.v af)],[],[7,25,26,27],[0,1,1512],2344,[]⟩ .z) .z))))) .z))
theorem Ep:aH 119 (En n) :=nF (au UK (au DK (au KS aB))) func119 Eo n (by kernel_rfl) λ_=>by kernel_rfl
def Ca:cT xx:=⟨[.p 0],[(0,ff),(1,.l aI)],[.v af],[(0,ff),(1,.l aI)],λv=>jm n v.1 v.2.1 v.2.2.1 v.2.2.2.1 v.2.2.2.2.1 v.2.2.2.2.2.1 v.2.2.2.2.2.2.1 v.2.2.2.2.2.2.2.1 v.2.2.2.2.2.2.2.2.1 v.2.2.2.2.2.2.2.2.2⟩
def Cb:bz xx:=⟨[],[.d .bool],λ_=>none,some (Ca n)⟩
def Cc:Hn SI:=(ca (.s (.s .z (.b (.l ⟨[(3,.v af),(14,.v af)],[(0,ff),(1,.l aI)],[0,12,13],[],1512,[]⟩ 0 ⟨[(3,.v af)],[(0,ff),(1,.l aI)],[],[],1512,[]⟩ (ca (.s (.b (ca (.s (.b (.l ⟨[(6,.v af),(7,.v af)],[(0,ff),(1,.l aI)],[0,5,12,13,14],[1704],2024,[]⟩ 2 ⟨[(6,.v af)],[(0,ff),(1,.l aI)],[0,12,13,14],[],2024,[]⟩ .z)) .z))) .z))))) .z))
theorem Ce:aH 74 (Cb n) :=nF (au (Ep n) aB) func74 Cc n (by kernel_rfl) λ_=>by kernel_rfl
def yQ:cT xx:=⟨[.v aI,.p 0],[(0,.c 1 [[.p 1]]),(1,ta),(2,.l aI)],[.v af],[(0,.c 1 [[.p 1]]),(1,ta),(2,.l aI)],λv=>kG n v.1 v.2.1 v.2.2.1 v.2.2.2.1 v.2.2.2.2.1 v.2.2.2.2.2.1 v.2.2.2.2.2.2.1 v.2.2.2.2.2.2.2.1 v.2.2.2.2.2.2.2.2.1 v.2.2.2.2.2.2.2.2.2.1 v.2.2.2.2.2.2.2.2.2.2⟩
def yR:bz xx:=⟨[],[.d .bool],λ_=>none,some (yQ n)⟩
theorem yS:aH 120 (yR n) :=nF (au (Qm n) aB) func120 .z n (by kernel_rfl) λ_=>by kernel_rfl
def Jp:cT xx:=⟨[.p 0,(.f 120 [] [.p 1])],[(0,ta),(1,.c 1 [[.p 0]]),(2,.l aI)],[.v af],[(0,ta),(1,.c 1 [[.p 0]]),(2,.l aI)],λv=>qN n v.1 v.2.1 v.2.2.1 v.2.2.2.1 v.2.2.2.2.1 v.2.2.2.2.2.1 v.2.2.2.2.2.2.1 v.2.2.2.2.2.2.2.1 v.2.2.2.2.2.2.2.2.1 v.2.2.2.2.2.2.2.2.2⟩
def Jq:bz xx:=⟨[],[.d .bool],λ_=>none,some (Jp n)⟩
def Jr:Hn SI:=(ca (.s (.s .z (.b (.l ⟨[(5,.v af),(13,.v af)],[(0,ta),(1,.c 1 [[.p 0]]),(2,.l aI)],[1,11,12],[],1512,[]⟩ 0 ⟨[(5,.v af)],[(0,ta),(1,.c 1 [[.p 0]]),(2,.l aI)],[],[],1512,[]⟩ .z))) .z))
theorem Js:aH 113 (Jq n) :=nF (au (yS n) aB) func113 Jr n (by kernel_rfl) λ_=>by kernel_rfl
def Cf:cT xx:=⟨[.p 0],[(0,ff),(1,.l aI)],[.v af],[(0,ff),(1,.l aI)],λv=>jo n v.1 v.2.1 v.2.2.1 v.2.2.2.1 v.2.2.2.2.1 v.2.2.2.2.2.1 v.2.2.2.2.2.2.1 v.2.2.2.2.2.2.2.1 v.2.2.2.2.2.2.2.2.1 v.2.2.2.2.2.2.2.2.2⟩
def Cg:bz xx:=⟨[],[.d .bool],λ_=>none,some (Cf n)⟩
theorem Ch:aH 75 (Cg n) :=nF (au (Js n) aB) func75 .z n (by kernel_rfl) λ_=>by kernel_rfl
def acQ:bz xx:=⟨[.d (.st SI.ld),.d (.st SI.Lot),.d fA],[.fresh (.st SI.Entry)],λa=>sJ n a.1 a.2.1 a.2.2.1,none⟩
def acR:Hn SI:=(ca (.s (.j ⟨[],[(1384,.c 10 [[.v (.sl bq),.v (.sl bg),.v (.sl bC),.v (.sl aZ),.v (.sl bG),.v (.sl bD),.v (.sl aW),.v af,.v (.sl ax),.nil]])],[5,7],[1128],1512,[]⟩ .z) (.s (.s .z (.b (.l ⟨[(31,.v af)],[(1384,Fi),(1960,.l aI)],[7,29,30],[1768],1961,[(6668873,aI)]⟩ 0 ⟨[],[(1384,Fi),(1960,.l aI)],[7],[],1961,[]⟩ (ca (.s (.j ⟨[],[(1384,.c 10 [[.v (.sl bq),.v (.sl bg),.v (.sl bC),.v (.sl aZ),.v (.sl bG),.v (.sl bD),.v (.sl aW),.v af,.v (.sl ax),.o 2025]]),(2025,.l aI)],[7,29,30,31],[1768],2026,[]⟩ (.b (.s .z (.s (.j ⟨[(41,.v .bool)],[],[7,9,29,30,31],[1384,1768,1960,2217],2409,[]⟩ .z) .z)))) .z))))) (ca (.s (.s .z (.b (.un .z (.un .z (.un .z (.un .z (.un .z (.un .z (.un .z (.un .z (.un .z (.un .z .z)))))))))))) .z)))))
theorem acS:aH 39 (acQ n) :=cq (au (pO n) (au (Da n) (au kN (au (Jf n) (au (FZ n) (au (F5 n) (au (Eh n) (au (El n) (au (F8 n) (au (Ce n) (au (Ch n) aB))))))))))) func39 acR n
def ahc:bz xx:=⟨[.d af],[.d af,.d .bool],λa=>AJ a.1,none⟩
def ahd:Hn SI:=(.s .z (.s (.s .z (.b (.s (.j ⟨[(5,.v .bool)],[],[0,4],[],1192,[]⟩ .z) (.s .z (.s (.j ⟨[(10,.v .bool)],[],[0,4],[],1192,[]⟩ .z) .z))))) .z))
theorem ahe:aH 139 ahc :=cq aB func139 ahd 0
def ae6:Hn SI:=(ca (.s (.s (.j ⟨[(28,.v .bool)],[],[1,2],[1000],1640,[]⟩ .z) .z) (.s .z (.s (.s .z (.b (.l ⟨[(7,.v af),(32,.v af)],[],[1,30,31],[],1960,[]⟩ 0 ⟨[(7,.v af)],[],[],[],1960,[]⟩ .z))) .z))))
theorem acT(rc:(bK)->(Int)->Option Int)(hr:aH 104 (G6 rc)):aH 104 (G6 (CF n rc)) :=cq (au ahe (au hr aB)) func104 ae6 n
theorem Qn(n:Nat):∀m,aH 104 (G6 (tH n m))
 | 0=>xd (nH func104 (by kernel_rfl:Tryz.f104.body=some (Tryz.f104.body.getD .skip)) (by kernel_rfl)) (λ _ _ h=>(by cases h)) rfl
 |m+1=>acT n _ (Qn n m)
def ae7:bz xx:=⟨[.d (.st SI.Expr),.d af],[.d af],λa=>Rm n a.1 a.2.1,none⟩
theorem ae8:aH 104 (ae7 n):=Qn n n
def ahf:bz xx:=⟨[.d (.st SI.Expr)],[.d .bool],λa=>Kr n a.1,none⟩
theorem YI:aH 63 (ahf n) :=cq (au (ae8 n) aB) func63 .z n
def Qo:bz xx:=⟨[],[.fresh .str],λ_=>yF,none⟩
theorem Qp:aH 140 Qo :=cq aB func140 .z 0
mutual
theorem amt:∀g:bK,(toE g).wt<=4000000->py (toE g) (rQ g)
 |⟨op,n,s,key,args⟩,h=>by
  simp only[toE,ET.wt]at h;have:=ET.p5 (Kt args);simp only[toE,rQ,py];exact⟨n,key,_,rfl,by unfold maxLen;omega,by omega,YJ args (by omega)⟩
theorem YJ:∀l:List bK,ET.sB (Kt l)<=4000000->kq (Kt l) (um l)
 |[],_=>by simp only[Kt,um,kq]
 |x::xs,h=>by
  simp only[Kt,ET.sB]at h;simp only[Kt,um,kq];exact⟨_,_,rfl,amt x (by omega),YJ xs (by omega)⟩
end
def Qq:bz xx:=⟨[],[.d .bool],λ_=>none,some ⟨[.v (.sl bq)],[],[.p 1000],[(1000,q6)],λv=>lC v⟩⟩
theorem ae9:∀l:List fJ,qT (l.map toD)<=4000000->kw (l.map toD) (l.map GL)
 |[],_=>by simp only[List.map_nil,kw]
 |x::xs,h=>by
  simp only[aC,qT,List.foldr_cons,toD,ET.wt]at h;have:=ET.p5 (Kt x.eo);simp only[aC,kw];refine⟨_,_,rfl,⟨_,_,_,_,_,rfl,by simp only[toD];unfold maxLen;omega,?_⟩,ae9 xs (by simp only[qT];omega)⟩;simp only[toD,py];exact⟨_,_,_,rfl,by unfold maxLen;omega,by omega,by rw[<- uo];exact YJ _ (by omega)⟩
theorem Qr:aH 141 Qq:=by
 have hcall:iL Tryz.prog 141:=⟨_,func141,by kernel_rfl,by kernel_rfl⟩;refine Tl hcall ?_;intro v r hr;have h':lC v=some r:=hr;unfold lC at h';cases hb:Nat.ble (qT (List.map toD v)) 4000000 with
 |false=>rw[hb]at h';cases h'
 |true=>
  rw[hb]at h';have h'':some (v,oP (List.map toD v))=some r:=h';injection h'' with e;subst e;have hw:=Nat.le_of_ble_eq_true hb;have hlen:=Vb (List.map toD v);have hn:∀d∈List.map toD v,d.2.names.length<=4000000:=λd hd=>by have h1:=Vd hd;have h2:=ET.oA d.2;omega
  exact ab8 (TL:=78) (TG:=257) (TI:=3) hcall (ae9 v hw) λsv w hS=>alV (List.map toD v) (by omega) (λ d hd=>Nat.le_trans (hn d hd) (by omega))
   (λ d hd v0 v1 v2 v3 v4 w hE=>callsIn_wide.1 (akA 0 d.2 v0 v1 v2 v3 v4 w hE (Nat.le_trans (hn d hd) (by omega)))) sv w hS
def UL:bz xx:=⟨[.d (.sl af),.d af],[.fresh af],λa=>rD a.1 a.2.1,none⟩
theorem UM:aH 233 UL:=by
 have hcall:iL Tryz.prog 233:=⟨_,func233,by kernel_rfl,by kernel_rfl⟩;refine xd hcall (λ a r h=>?_) rfl;obtain⟨l,c,⟨⟩⟩:=a;have h':rD l c=some r:=h
 match l,h' with
 |[x],h'=>
  simp only[rD]at h';cases hb:(decide (0<=c)&&decide (c<=1000000000000))with
  |false=>rw[hb]at h';cases h'
  |true=>
   rw[hb]at h';have h'':some (List.replicate c.toNat x)=some r:=h';injection h'' with e;subst e;simp only[aJ,aT]at hb;obtain⟨h1,h2⟩:=hb;obtain⟨k,hk⟩:=Int.eq_ofNat_of_zero_le h1;subst hk;exact agm (E:=3) (c:=k) hcall λa cap w hx=>ai0 x k (Int.ofNat_le.1 (by simpa using h2)) a cap w hx
def YK:bz xx:=⟨[.d (.sl af),.d af],[.d af],λa=>G7 n a.1 a.2.1,none⟩
def YL:Hn SI:=(.s .z (.s (.s .z (.b (.lx ⟨[(8,.v af)],[],[0,1,7],[],1256,[]⟩ 0 ⟨[],[],[],[],1256,[]⟩ .z))) .z))
theorem YM:aH 251 (YK n) :=cq aB func251 YL n
def Qs:bz xx:=⟨[.d (.sl af),.d af],[.d .bool],λa=>rW n a.1 a.2.1,none⟩
theorem Qt:aH 234 (Qs n) :=cq (au (YM n) aB) func234 .z n
def Er:bz xx:=⟨[.ref (.st SI.graph),.d af],[.fresh af],λa=>jM n a.1 a.2.1,none⟩
def Es:Hn SI:=(rK (.s (.b (.l ⟨[(6,.od 2024)],[(1448,.l af),(2024,.l af)],[0,5],[],2025,[]⟩ 0 ⟨[],[(1448,.l af)],[5],[],2024,[]⟩ (.s .z (.b (ee (.b (.l ⟨[(6,.od 3049),(35,.v af)],[(1448,.l af),(3049,.l af)],[0,5,7,33,34],[],3050,[]⟩ 2 ⟨[(6,.od 3049)],[(1448,.l af),(3049,.l af)],[0,5],[],3050,[]⟩ (ca (.s (.j ⟨[(6,.od 3114)],[(1448,.l af),(3114,.l af)],[0,5,7,33,34,35],[],3115,[]⟩ (.b (.s .z (.s (.j ⟨[(49,.v .bool)],[],[0,5,6,7,8,33,34,35],[1448,3049],3434,[]⟩ .z) .z)))) .z))))))))) .z))
theorem Et:aH 213 (Er n) :=cq (au UM (au (Qt n) aB)) func213 Es n
def NR:bz xx:=⟨[.d .str],[.d .bool],λa=>cmp_isNaN_string a.1,none⟩
theorem NS:aH 235 NR :=cq aB func235 .z 0
def KW:bz xx:=⟨[.d .str,.d .str],[.d af],λa=>nV a.1 a.2.1,none⟩
theorem KX:aH 214 KW :=cq (au NS aB) func214 .z 0
def Md:bz xx:=⟨[.d (.sl .str),.d (.sl .str)],[.d af],λa=>l7 n a.1 a.2.1,none⟩
def Me:Hn SI:=(.s .z (.s (.s .z (.b (.lx ⟨[(11,.v af)],[],[0,1,9,10],[],1256,[]⟩ 0 ⟨[],[],[0,1],[],1256,[]⟩ .z))) .z))
theorem Mf:aH 177 (Md n) :=cq (au KX aB) func177 Me n
def Bj:cT xx:=⟨[.v af,.p 0],[(0,pT),(1,.l .bool)],[.v .bool],[(0,pT),(1,.l .bool)],λv=>mO v.1 v.2⟩
def Bl:bz xx:=⟨[],[.d .bool],λ_=>none,some (Bj)⟩
theorem Bn:aH 179 Bl :=nF aB func179 .z 0 (by kernel_rfl) λ_=>by kernel_rfl
def Jt:cT xx:=⟨[.v (.sl af),(.f 179 [] [.p 0])],[(0,pT),(1,.l .bool)],[.v af],[(0,pT),(1,.l .bool)],λv=>mX n v.1 v.2⟩
def Ju:bz xx:=⟨[],[.d .bool],λ_=>none,some (Jt n)⟩
def Jv:Hn SI:=(.s .z (.s (.s .z (.b (.lx ⟨[(8,.v af)],[(0,pT),(1,.l .bool)],[0,1,7],[],1256,[]⟩ 0 ⟨[],[(0,pT),(1,.l .bool)],[],[],1256,[]⟩ .z))) .z))
theorem Jw:aH 215 (Ju n) :=nF (au Bn aB) func215 Jv n (by kernel_rfl) λ_=>by kernel_rfl
def Eu:cT xx:=⟨[.v (.sl af),(.f 179 [] [.p 0])],[(0,pT),(1,.l .bool)],[.v .bool],[(0,pT),(1,.l .bool)],λv=>iB n v.1 v.2⟩
def Ew:bz xx:=⟨[],[.d .bool],λ_=>none,some (Eu n)⟩
theorem Ey:aH 178 (Ew n) :=nF (au (Jw n) aB) func178 .z n (by kernel_rfl) λ_=>by kernel_rfl
def KY:bz xx:=⟨[.ref (.st SI.graph)],[.fresh af],λa=>nW n a.1,none⟩
def KZ:Hn SI:=(ee (.s (.s .z (.b (.l ⟨[(4,.o 2024),(20,.v af)],[(1448,ux),(2024,.l af),(1384,.l .bool)],[0,3,19],[],2025,[(4,af)]⟩ 0 ⟨[(4,.o 2024)],[(2024,.l af)],[],[],2025,[]⟩ (ca (.s (.b (.s .z (.s (.s .z (.b (.l ⟨[(5,.v af),(27,.v af)],[(1448,ux),(1384,.l .bool)],[0,3,4,19,20,25,26],[2024],2537,[]⟩ 2 ⟨[(5,.v af)],[(1448,ux),(1384,.l .bool)],[0,3,4,19,20],[2024],2537,[]⟩ (ca (.s (.j ⟨[(5,.v af)],[(1448,ux),(1384,.l .bool)],[0,3,4,19,20,25,26,27],[2024],2601,[]⟩ (.b (ca (.s (.j ⟨[(66,.v .bool)],[],[0,3,4,5,6,19,20,25,26,27],[1384,1448,2024],3177,[]⟩ .z) .z)))) .z))))) .z))) .z))))) .z))
theorem K3:aH 143 (KY n) :=cq (au (Ey n) aB) func143 KZ n
def Ez:cT xx:=⟨[.p 0,.v af],[(0,q6)],[.oz 1000],[(0,q6),(1000,.l .str)],λv=>jO n v.1 v.2.1 v.2.2⟩
def EA:bz xx:=⟨[],[.d .bool],λ_=>none,some (Ez n)⟩
def EB:Hn SI:=(rK (.b (.lx ⟨[(6,.o 1512),(7,.v af)],[(1512,.l .str)],[0,1,5],[0,1192],1513,[(6,.str)]⟩ 999999 ⟨[],[],[],[],1512,[]⟩ (.b (ca (.s (.s .z (.b (.l ⟨[(8,.v af),(34,.v af)],[],[0,1,5,6,32,33],[0,1192,2153],2921,[]⟩ 2 ⟨[(8,.v af)],[],[0,1,5,6],[0,1192,2153],2921,[]⟩ (ca (.s (.j ⟨[(8,.v af)],[],[0,1,5,6,32,33,34],[0,1192,2153],2985,[]⟩ (.b (.s .z (.s (.j ⟨[(57,.v .bool)],[],[0,1,5,6,8,10,32,33,34],[0,1192,2153],3177,[]⟩ .z) .z)))) .z))))) .z))))))
theorem EC:aH 176 (EA n) :=nF (au (Et n) aB) func176 EB n (by kernel_rfl) λ_=>by kernel_rfl
def Bo:cT xx:=⟨[.p 0],[(0,q6)],[.oz 1000],[(0,q6),(1000,.l .str)],λv=>jb n v.1 v.2⟩
def Bp:bz xx:=⟨[],[.d .bool],λ_=>none,some (Bo n)⟩
def Bq:Hn SI:=(ca (.s (.s .z (.b (.l ⟨[(3,.oz 1512),(11,.v af)],[(0,q6),(1512,.l .str)],[0,10],[],1513,[(1099511627779,.str)]⟩ 0 ⟨[(3,.oz 1512)],[(0,q6),(1512,.l .str)],[],[],1513,[]⟩ (ca (.s (.j ⟨[(3,.oz 1577)],[(0,q6),(1577,.l .str)],[0,10,11],[],1578,[]⟩ (.b (ca (.s (.s (.j ⟨[(18,.v .bool)],[],[0,3,5,10,11],[0,1512,1833],1961,[]⟩ .z) .z) (.s (.j ⟨[(40,.v .bool)],[],[0,3,5,10,11],[0,1512,1833],1961,[]⟩ .z) .z))))) .z))))) .z))
theorem Br:aH 142 (Bp n) :=nF (au (EC n) (au (Mf n) aB)) func142 Bq n (by kernel_rfl) λ_=>by kernel_rfl
def YN:bz xx:=⟨[.d (.st SI.ld)],[.fresh af,.d (.sl .str),.d af],λa=>nX n a.1,none⟩
def YO:Hn SI:=(ca (.s (.s .z (.b (.l ⟨[(15,.v af)],[(1256,.m .str .bool)],[1,5,13,14],[1000,1384],1576,[]⟩ 0 ⟨[],[(1256,.m .str .bool)],[1,5],[1000],1576,[]⟩ .z))) (.s (.s .z (.b (.lx ⟨[(25,.v af)],[(1256,.m .str .bool)],[1,5,23,24],[1000],1832,[]⟩ 2 ⟨[],[],[1],[1000],1832,[]⟩ .z))) (.s .z (.s (.s .z (.s (.j ⟨[(43,.v .bool)],[],[10,11],[1960,2152],2280,[]⟩ .z) .z)) .z)))))
theorem YP:aH 105 (YN n) :=cq (au Qp (au Qr (au (Br n) (au (K3 n) aB)))) func105 YO n
def Mg:bz xx:=⟨[.d bg,.ref (.st SI.Expr)],[.d .bool],λa=>CG a.1 a.2.1,none⟩
theorem Mh:aH 145 Mg :=cq aB func145 .z 0
def K4:bz xx:=⟨[.d (.sl bg),.cV [bg] .bool],[.d af],λa=>sK n a.1 a.2.1,none⟩
def K5:Hn SI:=(.s .z (.s (.s .z (.b (.lx ⟨[(8,.v af)],[],[0,1,7],[],1256,[]⟩ 0 ⟨[],[],[],[],1256,[]⟩ .z))) .z))
theorem K6:aH 144 (K4 n) :=cq aB func144 K5 n
def Mi:bz xx:=⟨[.d (.st SI.Entry),.ref (.st SI.Expr)],[.d .bool],λa=>CJ a.1 a.2.1,none⟩
theorem Mj:aH 147 Mi :=cq aB func147 .z 0
def alm:bz xx:=⟨[.d .bool],[.d af],λa=>AL a.1,none⟩
theorem afa:aH 107 alm :=cq aB func107 .z 0
def ZX:bz xx:=⟨[.d af,.d af],[.d af],λa=>xN a.1 a.2.1,none⟩
def ZY:Hn SI:=(ee (.s (.j ⟨[(5,.v af)],[],[],[],1448,[]⟩ (.s .z (.s (.j ⟨[(23,.v .bool)],[],[5],[],1704,[]⟩ .z) .z))) .z))
theorem Z0:aH 148 ZX :=cq aB func148 ZY 0
def afb:bz xx:=⟨[.d af,.d af,.d af],[.d af],λa=>LB a.1 a.2.1 a.2.2.1,none⟩
theorem afc:aH 108 afb :=cq (au Z0 (au afa aB)) func108 .z 0
def Mk:cT xx:=⟨[(.a [.v (.sl bq),.v (.sl bg),.v (.sl bC),.v (.sl aZ),.v (.sl bG),.v (.sl bD),.v (.sl aW),.v af,.mp 0,.v (.sl .str)]),.v (.st SI.Expr)],[(0,.m .str af)],[.v af],[(0,.m .str af)],λv=>jq n v.1 v.2.1 v.2.2.1 v.2.2.2.1 v.2.2.2.2.1 v.2.2.2.2.2.1 v.2.2.2.2.2.2.1 v.2.2.2.2.2.2.2.1 v.2.2.2.2.2.2.2.2.1 v.2.2.2.2.2.2.2.2.2.1 v.2.2.2.2.2.2.2.2.2.2⟩
def Ml:bz xx:=⟨[],[.d .bool],λ_=>none,some (Mk n)⟩
theorem Mq:aH 106 (Ml n) :=nF (au (K6 n) (au Mh (au (yh n) (au Mj aB)))) func106 .z n (by kernel_rfl) λ_=>by kernel_rfl
def Jy:Hn SI:=(ca (.s (.s .z (.b (.l ⟨[(5,.o 1512),(11,.v af)],[(0,.m .str af),(1512,.l af)],[2,3,9,10],[1000,1064],1513,[(5,af)]⟩ 0 ⟨[(5,.o 1512)],[(0,.m .str af),(1512,.l af)],[2,3],[1000,1064],1513,[]⟩ (ca (.s (.j ⟨[(5,.o 1577)],[(0,.m .str af),(1577,.l af)],[2,3,9,10,11],[1000,1064],1578,[]⟩ (.b (.s .z (.s (.s (.j ⟨[(31,.v .bool)],[],[2,3,5,7,9,10,11],[0,1000,1064,1512,1769],1961,[]⟩ .z) .z) .z)))) .z))))) .z))
theorem Ig(rc:((List fJ))->((List bW))->((List dW))->((List aQ))->((List ic))->((List fG))->((List bU))->(Int)->((List ByteArray))->(bK)->((List (ByteArray×Int)))->Option (Int×(List (ByteArray×Int))))(hr:aH 65 (jP rc)):aH 65 (jP (fD n rc)) :=nF (au hr (au (Mq n) (au (pQ n) (au afa (au afc aB))))) func65 Jy n (by kernel_rfl) λ_=>by kernel_rfl
theorem uV(n:Nat):∀m,aH 65 (jP (bR n m))
 | 0=>Tl (nH func65 (by kernel_rfl:Tryz.f65.body=some (Tryz.f65.body.getD .skip)) (by kernel_rfl)) (λ _ _ h=>(by cases h))
 |m+1=>Ig n _ (uV n m)
def Jz:bz xx:=jP (bR n n)
theorem vE:aH 65 (Jz n):=uV n n
def UN:cT xx:=⟨[.v (.st SI.ld),(.v (.sl (.st SI.Entry))),.v (.sl .str)],[],[(.a [.v (.sl bq),.v (.sl bg),.v (.sl bC),.v (.sl aZ),.v (.sl bG),.v (.sl bD),.v (.sl aW),.v af,.mp 1000,.v (.sl .str)]),.o 1001],[(1000,.m .str af),(1001,.l af)],λv=>mQ n v.1 v.2.1 v.2.2⟩
def UO:bz xx:=⟨[],[.d .bool],λ_=>none,some (UN n)⟩
def UQ:Hn SI:=(ee (.s (.s .z (.b (.l ⟨[(26,.v af)],[(1256,.m .str af),(1576,.m .str .bool)],[3,6,8,9,24,25],[1000,1064,1448],1896,[]⟩ 0 ⟨[],[(1256,.m .str af),(1576,.m .str .bool)],[3,6,8,9],[1000,1064,1448],1896,[]⟩ (ca (.s (.j ⟨[],[(1256,.m .str af),(1576,.m .str .bool)],[3,6,8,9,24,25,26],[1000,1064,1448],1960,[]⟩ .z) .z))))) (ee (.s (.s .z (.b (.l ⟨[(61,.v af)],[(1256,.m .str af),(2088,.l af)],[3,6,8,9,12,59,60],[1000,1064,1448,1576,2280],3112,[]⟩ 2 ⟨[],[(1256,.m .str af),(2088,.l af)],[6,8,12],[1064,1448],3112,[]⟩ (ca (.s (.j ⟨[],[(1256,.m .str af),(2088,.l af)],[3,6,8,9,12,59,60,61],[1000,1064,1448,1576,2280],3176,[]⟩ (.b (ca (.s (.j ⟨[],[(1256,.m .str af),(2088,.l af)],[3,6,8,9,12,17,18,59,60,61],[1000,1064,1448,1576,2280,3688],3816,[]⟩ .z) .z)))) .z))))) .z))))
theorem UR:aH 64 (UO n) :=nF (au (YP n) (au (YI n) (au (vE n) aB))) func64 UQ n (by kernel_rfl) λ_=>by kernel_rfl
def ajA:bz xx:=⟨[.d (.st SI.ld),.d (.sl (.st SI.Entry)),.d (.sl .str),.d (.st SI.Expr)],[.d af],λa=>CK n a.1 a.2.1 a.2.2.1 a.2.2.2.1,none⟩
theorem ajB:aH 38 (ajA n) :=cq (au (YI n) (au (UR n) (au (vE n) aB))) func38 .z n
def ahg:bz xx:=⟨[.d (.sl ax)],[.d ax,.d .bool],λa=>Pq n a.1,none⟩
def ahh:Hn SI:=(.s .z (.s (.s .z (.b (.l ⟨[(3,.v .bool),(8,.v af)],[(1000,xz)],[2,6,7],[],1320,[]⟩ 0 ⟨[(3,.v .bool)],[(1000,xz)],[2],[],1320,[]⟩ (ca (.s (.j ⟨[(3,.v .bool)],[(1000,xz)],[2,6,7,8],[],1384,[]⟩ .z) .z))))) .z))
theorem ahi:aH 76 (ahg n) :=cq (au qj aB) func76 ahh n
def afd:bz xx:=⟨[.d (.sl ax)],[.d ax,.d .bool],λa=>LC n a.1,none⟩
def afe:Hn SI:=(.s .z (.s (.s (.j ⟨[(11,.v .bool)],[],[0,2],[1000],1128,[]⟩ .z) .z) .z))
theorem aff:aH 40 (afd n) :=cq (au (pO n) (au (ahi n) aB)) func40 afe n
def YQ:bz xx:=⟨[.d aI],[.fresh (.st SI.k9)],λa=>zw a.1,none⟩
theorem K7:aH 27 YQ :=cq aB func27 .z 0
def K8:bz xx:=⟨[.d (.sl (.st SI.gi)),.cV [.st SI.gi] .bool],[.d af],λa=>sM n a.1 a.2.1,none⟩
def K9:Hn SI:=(.s .z (.s (.s .z (.b (.lx ⟨[(8,.v af)],[],[0,1,7],[],1256,[]⟩ 0 ⟨[],[],[],[],1256,[]⟩ .z))) .z))
theorem La:aH 155 (K8 n) :=cq aB func155 K9 n
def F9:bz xx:=⟨[.d (.sl (.st SI.gi)),.cV [.st SI.gi] .bool],[.d .bool],λa=>kM n a.1 a.2.1,none⟩
theorem Ga:aH 122 (F9 n) :=cq (au (La n) aB) func122 .z n
def YR:bz xx:=⟨[.d af,.d af,.d af],[.d .bool],λa=>nY a.1 a.2.1 a.2.2.1,none⟩
theorem YS:aH 156 YR :=cq aB func156 .z 0
def Z4:bz xx:=⟨[.d (.st SI.gi)],[.d .bool],λa=>CP a.1,none⟩
theorem Z5:aH 124 Z4 :=cq (au YS aB) func124 .z 0
def Sb:bz xx:=⟨[.d (.st SI.gi)],[.d .bool],λa=>uH a.1,none⟩
theorem Sc:aH 123 Sb :=cq (au Z5 aB) func123 .z 0
def Z6:bz xx:=⟨[.d ax,.d (.sl (.st SI.gi))],[.d .bool],λa=>CQ n a.1 a.2.1,none⟩
theorem Z7:aH 77 (Z6 n) :=cq (au qj (au (Ga n) (au Sc aB))) func77 .z n
def ajC:bz xx:=⟨[.d (.sl ax),.d (.sl ax)],[.d .bool],λa=>Vf n a.1 a.2.1,none⟩
theorem ajD:aH 85 (ajC n) :=cq (au (Iy n) aB) func85 .z n
def ahj:bz xx:=⟨[.d (.sl (.st SI.k9))],[.d .bool],λa=>Ku n a.1,none⟩
def ahk:Hn SI:=(ca (.s (.s .z (.b (.lx ⟨[(11,.v af)],[],[0,9,10],[],1448,[]⟩ 0 ⟨[],[],[],[],1448,[]⟩ (ca (.s (.jx ⟨[],[],[0,9,10,11],[],1512,[]⟩ (.b (.s .z (.s (.s (.j ⟨[(42,.v .bool)],[],[0,3,4,9,10,11],[1704],1896,[]⟩ .z) .z) (ca (.s (.j ⟨[(68,.v .bool)],[],[0,9,10,11],[],2472,[]⟩ .z) .z)))))) .z))))) .z))
theorem YT:aH 47 (ahj n) :=cq (au (pO n) (au (ajD n) aB)) func47 ahk n
def Qu:bz xx:=⟨[.d ax,.d af,.d af],[.d (.st SI.mC)],λa=>yG a.1 a.2.1 a.2.2.1,none⟩
theorem Qv:aH 157 Qu :=cq aB func157 .z 0
def Sd:bz xx:=⟨[.d af,.d af],[.d af],λa=>uI a.1 a.2.1,none⟩
def Sg:Hn SI:=(ca (.s (.j ⟨[(5,.v af)],[],[],[],1320,[]⟩ .z) .z))
theorem Si:aH 158 Sd :=cq aB func158 Sg 0
def afg:bz xx:=⟨[.d ax,.d (.sl (.st SI.gi)),.d af,.d af],[.d af],λa=>LD n a.1 a.2.1 a.2.2.1 a.2.2.2.1,none⟩
def afh:Hn SI:=(ee (.s (.s .z (.b (.l ⟨[(9,.v af),(19,.v af)],[],[10,17,18],[1448],1768,[]⟩ 0 ⟨[(9,.v af)],[],[],[],1768,[]⟩ .z))) .z))
theorem afi:aH 125 (afg n) :=cq (au Qv (au Si aB)) func125 afh n
def YU:bz xx:=⟨[.d ax,.d (.sl (.st SI.gi)),.d (.sl ax)],[.d af],λa=>zy n a.1 a.2.1 a.2.2.1,none⟩
def YV:Hn SI:=(ca (.s (.s .z (.b (.l ⟨[(7,.v af),(16,.v af)],[],[1,3,14,15],[1000],1384,[]⟩ 0 ⟨[(7,.v af)],[],[],[],1384,[]⟩ (ca (.s (.b (ca (.b (.l ⟨[(7,.v af),(27,.v af)],[],[1,3,9,14,15,16,25,26],[1000,1576,2024],2216,[]⟩ 2 ⟨[(7,.v af)],[],[1,3,14,15,16],[1000],2216,[]⟩ (ca (.s (.b (ca (.b (.l ⟨[(7,.v af),(38,.v af)],[],[1,3,9,11,14,15,16,25,26,27,36,37],[1000,1576,2024,2792],2984,[]⟩ 4 ⟨[(7,.v af)],[],[1,3,9,14,15,16,25,26,27],[1000,1576,2024],2984,[]⟩ .z)))) .z)))))) .z))))) .z))
theorem YW:aH 79 (YU n) :=cq (au (afi n) aB) func79 YV n
def Qw:bz xx:=⟨[.d (.st SI.k9),.ref ax,.ref (.sl (.st SI.gi))],[.d .bool],λa=>rY n a.1 a.2.1 a.2.2.1,none⟩
theorem Qx:aH 78 (Qw n) :=cq (au (YW n) aB) func78 .z n
def Mr:bz xx:=⟨[.d (.sl (.st SI.k9)),.cV [.st SI.k9] .bool],[.d af],λa=>uJ n a.1 a.2.1,none⟩
def Ms:Hn SI:=(.s .z (.s (.s .z (.b (.lx ⟨[(8,.v af)],[],[0,1,7],[],1256,[]⟩ 0 ⟨[],[],[],[],1256,[]⟩ .z))) .z))
theorem Mt:aH 88 (Mr n) :=cq aB func88 Ms n
def Ih:bz xx:=⟨[.d (.sl (.st SI.k9)),.cV [.st SI.k9] .bool],[.d .bool],λa=>je n a.1 a.2.1,none⟩
theorem uW:aH 49 (Ih n) :=cq (au (Mt n) aB) func49 .z n
def YX:bz xx:=⟨[.d ax,.d (.sl (.st SI.gi)),.d (.sl (.st SI.k9))],[.d .bool],λa=>zA n a.1 a.2.1 a.2.2.1,none⟩
def YZ:Hn SI:=(.s .z (.s (.s (.j ⟨[(15,.v .bool)],[],[2,3,4],[1000,1064],1192,[]⟩ .z) .z) .z))
theorem Y0:aH 42 (YX n) :=cq (au (Z7 n) (au (YT n) (au (uW n) (au (Qx n) aB)))) func42 YZ n
def ED:bz xx:=⟨[.d aI,.ref ax,.ref aZ],[.d .bool],λa=>jQ n a.1 a.2.1 a.2.2.1,none⟩
theorem EF:aH 41 (ED n) :=cq (au K7 (au (Y0 n) aB)) func41 .z n
def NT:bz xx:=⟨[.d (.st SI.j8),.cV [aI] .bool],[.d .bool],λa=>gQ n a.1 a.2.1,none⟩
theorem Bt:aH 24 (NT n) :=cq (au (rJ n) aB) func24 .z n
def EG:bz xx:=⟨[.d aI,.ref aZ],[.d .bool],λa=>jR a.1 a.2.1,none⟩
theorem EH:aH 43 EG :=cq aB func43 .z 0
def aln:bz xx:=⟨[.d ax,.d ax],[.d af,.d af],λa=>akL a.1 a.2.1,none⟩
theorem alo:aH 127 aln :=cq aB func127 .z 0
def amu:bz xx:=⟨[.d ax,.d ax],[.d af],λa=>Lt a.1 a.2.1,none⟩
def amv:Hn SI:=(.s .z (.s (.s (.j ⟨[(14,.v .bool)],[],[2,3],[1000,1064],1192,[]⟩ .z) .z) .z))
theorem amw:aH 83 amu :=cq (au qj (au alo aB)) func83 amv 0
def Gc:bz xx:=⟨[.d (.st SI.gb),.ref (.st SI.j8),.ref aI,.ref aZ],[.d .bool],λa=>dO a.1 a.2.1 a.2.2.1 a.2.2.2.1,none⟩
def Gd:Hn SI:=(ca (.s (.s (.j ⟨[(32,.v .bool)],[],[2,3,6],[1256],1384,[]⟩ .z) .z) (.s (.j ⟨[(7,.v .bool)],[],[2,3,6],[1256],1384,[]⟩ .z) .z)))
theorem Gf:aH 81 Gc :=cq (au qj (au amw aB)) func81 Gd 0
def JA:bz xx:=⟨[.d (.sl (.st SI.gb)),.cV [.st SI.gb] .bool],[.d af],λa=>qO n a.1 a.2.1,none⟩
def JB:Hn SI:=(.s .z (.s (.s .z (.b (.lx ⟨[(8,.v af)],[],[0,1,7],[],1256,[]⟩ 0 ⟨[],[],[],[],1256,[]⟩ .z))) .z))
theorem JC:aH 126 (JA n) :=cq aB func126 JB n
def EI:bz xx:=⟨[.d (.sl (.st SI.gb)),.cV [.st SI.gb] .bool],[.d .bool],λa=>jS n a.1 a.2.1,none⟩
theorem EJ:aH 80 (EI n) :=cq (au (JC n) aB) func80 .z n
def Lb:bz xx:=⟨[.d (.st SI.j8),.d aZ,.d aI],[.d .bool],λa=>sN n a.1 a.2.1 a.2.2.1,none⟩
theorem Lc:aH 45 (Lb n) :=cq (au (EJ n) (au Gf aB)) func45 .z n
def EK:bz xx:=⟨[.d aI,.ref (.st SI.j8),.ref aZ],[.d .bool],λa=>jT n a.1 a.2.1 a.2.2.1,none⟩
theorem EL:aH 44 (EK n) :=cq (au (Lc n) aB) func44 .z n
def JD:bz xx:=⟨[.d (.st SI.j8),.d aZ],[.d .bool],λa=>jC n a.1 a.2.1,none⟩
theorem vF:aH 23 (JD n) :=cq (au (acS n) (au (ajB n) (au (aff n) (au (Bt n) (au (EF n) (au EH (au (EL n) aB))))))) func23 .z n
def UU:bz xx:=⟨[.d ax,.ref ax],[.d .bool],λa=>wP a.1 a.2.1,none⟩
theorem UW:aH 91 UU :=cq aB func91 .z 0
def Mv:bz xx:=⟨[.d (.sl ax),.cV [ax] .bool],[.d af],λa=>uK n a.1 a.2.1,none⟩
def Mw:Hn SI:=(.s .z (.s (.s .z (.b (.lx ⟨[(8,.v af)],[],[0,1,7],[],1256,[]⟩ 0 ⟨[],[],[],[],1256,[]⟩ .z))) .z))
theorem Mx:aH 131 (Mv n) :=cq aB func131 Mw n
def Ii:bz xx:=⟨[.d (.sl ax),.cV [ax] .bool],[.d .bool],λa=>jf n a.1 a.2.1,none⟩
theorem uX:aH 89 (Ii n) :=cq (au (Mx n) aB) func89 .z n
def acU:bz xx:=⟨[.d ax,.ref (.sl ax)],[.d .bool],λa=>He n a.1 a.2.1,none⟩
theorem acV:aH 90 (acU n) :=cq (au (uX n) (au UW aB)) func90 .z n
def ajE:bz xx:=⟨[.d (.sl ax),.d (.sl ax)],[.d .bool],λa=>Vg n a.1 a.2.1,none⟩
theorem ajF:aH 51 (ajE n) :=cq (au (uX n) (au (acV n) aB)) func51 .z n
def UX:bz xx:=⟨[.d (.st SI.k9),.ref (.st SI.fp)],[.d .bool],λa=>rE n a.1 a.2.1,none⟩
theorem UY:aH 50 (UX n) :=cq (au (ajF n) aB) func50 .z n
def acW:bz xx:=⟨[.d (.sl (.st SI.fp)),.d af,.d (.sl (.st SI.k9))],[.d .bool],λa=>Hf n a.1 a.2.1 a.2.2.1,none⟩
def acX:Hn SI:=(ca (.s (.s .z (.b (.lx ⟨[(14,.v af)],[],[1,2,12,13],[],1448,[]⟩ 0 ⟨[],[],[],[],1448,[]⟩ (ca (.s (.jx ⟨[],[],[1,2,12,13,14],[],1512,[]⟩ (.b (.s .z (.s (.s (.j ⟨[(27,.v .bool)],[],[1,2,8,12,13,14],[1640],1768,[]⟩ .z) .z) .z)))) .z))))) .z))
theorem acY:aH 26 (acW n) :=cq (au (YT n) (au (pO n) (au (uW n) (au (UY n) aB)))) func26 acX n
def NU:bz xx:=⟨[.d aI,.ref (.st SI.ju),.ref fA],[.d .bool],λa=>nu n a.1 a.2.1 a.2.2.1,none⟩
theorem NV:aH 25 (NU n) :=cq (au K7 (au (acY n) aB)) func25 .z n
def JE:cT xx:=⟨[.v .str,.v .bool,.p 0],[(0,pT),(1,.l .str)],[],[(0,.c 1 [[.o 1000]]),(1000,.l .str)],λv=>jD n v.1 v.2.1 v.2.2⟩
def JF:bz xx:=⟨[],[.d .bool],λ_=>none,some (JE n)⟩
def JG:Hn SI:=(.s (.j ⟨[(11,.v .bool)],[],[0,2],[0,1],1000,[]⟩ .z) .z)
theorem JH:aH 20 (JF n) :=nF (au (pQ n) aB) func20 JG n (by kernel_rfl) λ_=>by kernel_rfl
def UZ:bz xx:=⟨[.d (.st SI.ju),.d fA,.d af],[.fresh .str,.d af],λa=>jW n a.1 a.2.1 a.2.2.1,none⟩
def U0:Hn SI:=(NL (.s (.s .z (.b (.l ⟨[(31,.v af)],[(1960,.c 1 [[.o 2664]]),(2664,.l .str)],[3,4,8,10,11,29,30],[1000,1064,1640,2472],2665,[(9028160,.str)]⟩ 0 ⟨[],[(1960,.c 1 [[.o 2664]]),(2664,.l .str)],[3,4,8,10,11],[1000,1064,1640],2665,[]⟩ .z))) .z))
theorem yT:aH 9 (UZ n) :=cq (au (MW n) (au (YH n) (au (vF n) (au (JH n) (au (Bt n) (au (NV n) aB)))))) func9 U0 n
def afj:bz xx:=⟨[.d (.sl .str),.d (.sl .str)],[.d .bool],λa=>zY n a.1 a.2.1,none⟩
def afk:Hn SI:=(ca (.s (.s .z (.b (.lx ⟨[(5,.v af)],[],[0,1],[],1448,[]⟩ 0 ⟨[],[],[],[],1448,[]⟩ .z))) .z))
theorem TH:aH 12 (afj n) :=cq aB func12 afk n
def U1:bz xx:=⟨[.d (.st SI.ju),.d fA,.d aZ],[.d .bool],λa=>rF n a.1 a.2.1 a.2.2.1,none⟩
theorem U2:aH 10 (U1 n) :=cq (au (MW n) (au (vF n) aB)) func10 .z n
def U3:bz xx:=⟨[.d (.st SI.ju),.d fA,.d af],[.d .bool],λa=>wR n a.1 a.2.1 a.2.2.1,none⟩
theorem U4:aH 13 (U3 n) :=cq (au (yT n) aB) func13 .z n
def afl:bz xx:=⟨[],[.d .bool],λ_=>LF n,none⟩
theorem afm:aH 7 (afl n) :=cq (au ajt (au (yT n) (au (TH n) (au (U2 n) (au (U4 n) aB))))) func7 .z n
def afn:Hn SI:=(ee (.s (.s .z (.b (.l ⟨[(7,.v af),(8,.v af)],[],[1,2,3],[1000],1384,[]⟩ 0 ⟨[(7,.v af)],[],[],[],1384,[]⟩ (.s (.s (.j ⟨[(22,.v .bool)],[],[1,2,3,7,8],[1000],1384,[]⟩ .z) .z) .z)))) .z))
theorem acZ(rc:(bK)->(Int)->(Int)->Option Int)(hr:aH 31 (Hg rc)):aH 31 (Hg (CU n rc)) :=cq (au hr aB) func31 afn n
theorem Qy(n:Nat):∀m,aH 31 (Hg (tJ n m))
 | 0=>xd (nH func31 (by kernel_rfl:Tryz.f31.body=some (Tryz.f31.body.getD .skip)) (by kernel_rfl)) (λ _ _ h=>(by cases h)) rfl
 |m+1=>acZ n _ (Qy n m)
def afo:bz xx:=⟨[.d (.st SI.Expr),.d af,.d af],[.d af],λa=>Fw n a.1 a.2.1 a.2.2.1,none⟩
theorem TJ:aH 31 (afo n):=Qy n n
def afp:bz xx:=⟨[.d (.sl aZ)],[.d .bool],λa=>LG n a.1,none⟩
def afq:Hn SI:=(.s .z (.s (.s .z (.b (.lx ⟨[(3,.v af)],[],[0],[],1128,[]⟩ 0 ⟨[],[],[0],[],1128,[]⟩ (.s (.s (.j ⟨[(11,.v .bool)],[],[0,3],[],1128,[]⟩ .z) .z) (.s (.b (.s (.j ⟨[(38,.v .bool)],[],[0,3],[],1128,[]⟩ .z) .z)) .z))))) .z))
theorem afr:aH 16 (afp n) :=cq (au (TJ n) aB) func16 afq n
def ahl:bz xx:=⟨[.d (.st SI.ld)],[.d .bool],λa=>Ps n a.1,none⟩
def ahm:Hn SI:=(.s .z (.s (.s .z (.b (.lx ⟨[(3,.v af)],[],[1],[1000],1192,[]⟩ 0 ⟨[],[],[1],[1000],1192,[]⟩ (.s (.s (.j ⟨[(15,.v .bool)],[],[1,3],[1000],1192,[]⟩ .z) .z) .z)))) (.s (.s .z (.b (.lx ⟨[(4,.v af)],[],[1],[1000],1256,[]⟩ 2 ⟨[],[],[1],[1000],1256,[]⟩ (.s (.s (.j ⟨[(34,.v .bool)],[],[1,4],[1000],1256,[]⟩ .z) .z) .z)))) (.s (.s .z (.b (.lx ⟨[(5,.v af)],[],[1],[1000],1320,[]⟩ 4 ⟨[],[],[1],[1000],1320,[]⟩ (.s (.s (.j ⟨[(53,.v .bool)],[],[1,5],[1000],1320,[]⟩ .z) .z) .z)))) (.s (.s .z (.b (.lx ⟨[(6,.v af)],[],[1],[1000],1384,[]⟩ 6 ⟨[],[],[1],[1000],1384,[]⟩ (.s (.s (.j ⟨[(72,.v .bool)],[],[1,6],[1000],1384,[]⟩ .z) .z) .z)))) .z)))))
theorem ahn:aH 18 (ahl n) :=cq (au (TJ n) (au (afr n) aB)) func18 ahm n
def ajG:bz xx:=⟨[.d (.st SI.ju),.d fA],[.d .bool],λa=>Vh n a.1 a.2.1,none⟩
def ajH:Hn SI:=(.s .z (.s (.s .z (.b (.lx ⟨[(5,.v af)],[],[2,3],[1000,1064],1256,[]⟩ 0 ⟨[],[],[2,3],[1000,1064],1256,[]⟩ (.s (.s (.j ⟨[(16,.v .bool)],[],[2,3,5],[1000,1064],1256,[]⟩ .z) .z) .z)))) (.s (.s .z (.b (.lx ⟨[(6,.v af)],[],[2,3],[1000,1064],1320,[]⟩ 2 ⟨[],[],[2,3],[1000,1064],1320,[]⟩ (.s (.s (.j ⟨[(35,.v .bool)],[],[2,3,6],[1000,1064],1320,[]⟩ .z) .z) .z)))) (.s (.s .z (.b (.lx ⟨[(7,.v af)],[],[2,3],[1000,1064],1384,[]⟩ 4 ⟨[],[],[2,3],[1000,1064],1384,[]⟩ (.s (.s (.j ⟨[(54,.v .bool)],[],[2,3,7],[1000,1064],1384,[]⟩ .z) .z) (.s (.b (.s (.j ⟨[(74,.v .bool)],[],[2,3,7],[1000,1064],1384,[]⟩ .z) .z)) .z))))) .z))))
theorem ajI:aH 8 (ajG n) :=cq (au (ahn n) aB) func8 ajH n
def Sj:bz xx:=⟨[.d (.st SI.ju),.d fA,.d af,.d af],[.d .bool],λa=>uM n a.1 a.2.1 a.2.2.1 a.2.2.2.1,none⟩
def Sk:Hn SI:=(ca (.s (.s (.j ⟨[(33,.v .bool)],[],[2,3,4,5,9],[1000,1064],1320,[]⟩ .z) .z) (.s (.s .z (.b (.lx ⟨[(10,.v af)],[],[2,3,4,5,9],[1000,1064],1384,[]⟩ 0 ⟨[],[],[2,3,4,5,9],[1000,1064],1384,[]⟩ (.s .z (.s (.b (.s .z (.s (.j ⟨[(70,.v .bool)],[],[2,3,4,5,9,10],[1000,1064],2280,[]⟩ .z) .z))) .z))))) .z)))
theorem Sl:aH 6 (Sj n) :=cq (au (afm n) (au (ajI n) (au (yT n) (au (TH n) aB)))) func6 Sk n
end
end Go.Proofs
