import Derived.Test.YtdpcmnckfpgejaaGreatTC1
namespace Go.Proofs
open Go.Gb Go.RowKit
open Tryz
noncomputable section
variable (n:Nat)
def Eg:b9 xx:=⟨[.d aI],[.d af],λa=>nZ a.1,none⟩
theorem Eh:aH 109 Eg :=cq aB func109 .z 0
def FY:b9 xx:=⟨[.d aI],[.d af],λa=>o7 a.1,none⟩
theorem FZ:aH 110 FY :=cq aB func110 .z 0
def U2:b9 xx:=⟨[.d ax,.d af],[.d ax,.d .bool],λa=>Dz a.1 a.2.1,none⟩
theorem U3:aH 145 U2 :=cq (au qx aB) func145 .z 0
def Sy:b9 xx:=⟨[.d (.st SI.Entry),.ref (.st SI.mC),.ref af],[.d .bool],λa=>kG a.1 a.2.1 a.2.2.1,none⟩
theorem Sz:aH 191 Sy :=cq aB func191 .z 0
def K3:b9 xx:=⟨[.d (.sl (.st SI.Entry)),.cV [.st SI.Entry] .bool],[.d af],λa=>kH n a.1 a.2.1,none⟩
def K4:Hn SI:=(.s .z (.s (.s .z (.b (.lx ⟨[(8,.v af)],[],[0,1,7],[],1256,[]⟩ 0 ⟨[],[],[],[],1256,[]⟩ .z))) .z))
theorem yw:aH 138 (K3 n) :=cq aB func138 K4 n
def aad:b9 xx:=⟨[.d (.st SI.lf),.d af],[.d af],λa=>CG n a.1 a.2.1,none⟩
def aae:Hn SI:=(co (.s (.s .z (.b (.lx ⟨[(14,.v af)],[],[3,5,12,13],[1064,1256],1640,[]⟩ 0 ⟨[],[],[],[],1640,[]⟩ (co (.s (.b (d7 (.s (.j ⟨[(8,.v af)],[],[],[],2344,[]⟩ .z) .z))) .z))))) .z))
theorem aaf:aH 146 (aad n) :=cq (au (yw n) (au Sz aB)) func146 aae n
def Qw:b9 xx:=⟨[.d (.st SI.lf),.d aI],[.d af],λa=>lI n a.1 a.2.1,none⟩
def Qx:Hn SI:=(co (.s (.s (.j ⟨[(20,.v .bool)],[],[5,6],[],1704,[]⟩ .z) .z) .z))
theorem Qy:aH 113 (Qw n) :=cq (au (aaf n) (au IE aB)) func113 Qx n
def Jj:cT xx:=⟨[.p 0],[(0,ff),(1,.l aI)],[.v af],[(0,ff),(1,.l aI)],λv=>nk n v.1 v.2.1 v.2.2.1 v.2.2.2.1 v.2.2.2.2.1 v.2.2.2.2.2.1 v.2.2.2.2.2.2.1 v.2.2.2.2.2.2.2.1 v.2.2.2.2.2.2.2.2.1 v.2.2.2.2.2.2.2.2.2⟩
def Jk:b9 xx:=⟨[],[.d .bool],λ_=>none,some (Jj n)⟩
theorem Jl:aH 60 (Jk n) :=oa (au (abt n) aB) func60 .z n (by kernel_rfl) λ_=>by kernel_rfl
def F3:cT xx:=⟨[.p 0],[(0,ff),(1,.l aI)],[.v af],[(0,ff),(1,.l aI)],λv=>iP n v.1 v.2.1 v.2.2.1 v.2.2.2.1 v.2.2.2.2.1 v.2.2.2.2.2.1 v.2.2.2.2.2.2.1 v.2.2.2.2.2.2.2.1 v.2.2.2.2.2.2.2.2.1 v.2.2.2.2.2.2.2.2.2⟩
def F4:b9 xx:=⟨[],[.d .bool],λ_=>none,some (F3 n)⟩
def F5:Hn SI:=(d7 (.s (.s .z (.b (.l ⟨[(3,.o 1960),(23,.v af)],[(1448,.l ax),(1960,.l af)],[4,21,22],[0,1],1961,[(3,af)]⟩ 0 ⟨[(3,.o 1960)],[(1448,.l ax),(1960,.l af)],[4],[0,1],1961,[]⟩ .z))) (d7 (.s (.s .z (.b (.l ⟨[(7,.v af),(56,.v af)],[],[3,4,55],[0,1,1448,1960],2601,[]⟩ 2 ⟨[(7,.v af)],[],[],[0,1],2601,[]⟩ (co (.s (.b (d7 (.b (.l ⟨[(7,.v af),(9,.v af),(61,.v af)],[],[3,4,8,55,56,59,60],[0,1,1448,1960],3049,[]⟩ 4 ⟨[(7,.v af)],[],[3,4,55,56],[0,1,1448,1960],3049,[]⟩ (co (.s (.j ⟨[(7,.v af),(9,.v af)],[],[3,4,8,55,56,59,60,61],[0,1,1448,1960],3113,[]⟩ (.b (.s .z (.s (.j ⟨[(86,.v .bool)],[],[3,4,7,8,9,11,55,56,59,60,61],[0,1,1448,1960,3241],3369,[]⟩ .z) .z)))) .z)))))) .z))))) .z))))
theorem F6:aH 61 (F4 n) :=oa (au (N7 n) (au FX (au (wV n) aB))) func61 F5 n (by kernel_rfl) λ_=>by kernel_rfl
def Jm:cT xx:=⟨[.p 0,(.f 106 [] [])],[(0,ff),(1,.l aI)],[.v af],[(0,ff),(1,.l aI)],λv=>qR n v.1 v.2.1 v.2.2.1 v.2.2.2.1 v.2.2.2.2.1 v.2.2.2.2.2.1 v.2.2.2.2.2.2.1 v.2.2.2.2.2.2.2.1 v.2.2.2.2.2.2.2.2.1 v.2.2.2.2.2.2.2.2.2⟩
def Jo:b9 xx:=⟨[],[.d .bool],λ_=>none,some (Jm n)⟩
def Jp:Hn SI:=(co (.s (.s .z (.b (.l ⟨[(5,.v af),(13,.v af)],[],[1,11,12],[0,1],1512,[]⟩ 0 ⟨[(5,.v af)],[],[],[0,1],1512,[]⟩ .z))) .z))
theorem Jq:aH 105 (Jo n) :=oa (au IE aB) func105 Jp n (by kernel_rfl) λ_=>by kernel_rfl
def F7:cT xx:=⟨[.p 0],[(0,ff),(1,.l aI)],[.v af],[(0,ff),(1,.l aI)],λv=>kP n v.1 v.2.1 v.2.2.1 v.2.2.2.1 v.2.2.2.2.1 v.2.2.2.2.2.1 v.2.2.2.2.2.2.1 v.2.2.2.2.2.2.2.1 v.2.2.2.2.2.2.2.2.1 v.2.2.2.2.2.2.2.2.2⟩
def F8:b9 xx:=⟨[],[.d .bool],λ_=>none,some (F7 n)⟩
theorem F9:aH 62 (F8 n) :=oa (au (Jq n) aB) func62 .z n (by kernel_rfl) λ_=>by kernel_rfl
def Bd:cT xx:=⟨[.p 0,(.f 108 [] [])],[(0,ff),(1,.l aI)],[.v af],[(0,ff),(1,.l aI)],λv=>mR n v.1 v.2.1 v.2.2.1 v.2.2.2.1 v.2.2.2.2.1 v.2.2.2.2.2.1 v.2.2.2.2.2.2.1 v.2.2.2.2.2.2.2.1 v.2.2.2.2.2.2.2.2.1 v.2.2.2.2.2.2.2.2.2⟩
def Be:b9 xx:=⟨[],[.d .bool],λ_=>none,some (Bd n)⟩
def Bf:Hn SI:=(co (.s (.s .z (.b (.l ⟨[(5,.v af),(13,.v af)],[],[1,11,12],[0,1],1512,[]⟩ 0 ⟨[(5,.v af)],[],[],[0,1],1512,[]⟩ .z))) .z))
theorem Bg:aH 107 (Be n) :=oa (au Df aB) func107 Bf n (by kernel_rfl) λ_=>by kernel_rfl
def Ei:cT xx:=⟨[.p 0],[(0,ff),(1,.l aI)],[.v af],[(0,ff),(1,.l aI)],λv=>jL n v.1 v.2.1 v.2.2.1 v.2.2.2.1 v.2.2.2.2.1 v.2.2.2.2.2.1 v.2.2.2.2.2.2.1 v.2.2.2.2.2.2.2.1 v.2.2.2.2.2.2.2.2.1 v.2.2.2.2.2.2.2.2.2⟩
def Ej:b9 xx:=⟨[],[.d .bool],λ_=>none,some (Ei n)⟩
theorem El:aH 63 (Ej n) :=oa (au (Bg n) aB) func63 .z n (by kernel_rfl) λ_=>by kernel_rfl
def Bh:cT xx:=⟨[.p 0,(.f 109 [] [])],[(0,ff),(1,.l aI)],[.v af],[(0,ff),(1,.l aI)],λv=>mU n v.1 v.2.1 v.2.2.1 v.2.2.2.1 v.2.2.2.2.1 v.2.2.2.2.2.1 v.2.2.2.2.2.2.1 v.2.2.2.2.2.2.2.1 v.2.2.2.2.2.2.2.2.1 v.2.2.2.2.2.2.2.2.2⟩
def Bj:b9 xx:=⟨[],[.d .bool],λ_=>none,some (Bh n)⟩
def Bl:Hn SI:=(co (.s (.s .z (.b (.l ⟨[(5,.v af),(13,.v af)],[],[1,11,12],[0,1],1512,[]⟩ 0 ⟨[(5,.v af)],[],[],[0,1],1512,[]⟩ .z))) .z))
theorem Bn:aH 107 (Bj n) :=oa (au Eh aB) func107 Bl n (by kernel_rfl) λ_=>by kernel_rfl
def Em:cT xx:=⟨[.p 0],[(0,ff),(1,.l aI)],[.v af],[(0,ff),(1,.l aI)],λv=>jM n v.1 v.2.1 v.2.2.1 v.2.2.2.1 v.2.2.2.2.1 v.2.2.2.2.2.1 v.2.2.2.2.2.2.1 v.2.2.2.2.2.2.2.1 v.2.2.2.2.2.2.2.2.1 v.2.2.2.2.2.2.2.2.2⟩
def En:b9 xx:=⟨[],[.d .bool],λ_=>none,some (Em n)⟩
theorem Eo:aH 64 (En n) :=oa (au (Bn n) aB) func64 .z n (by kernel_rfl) λ_=>by kernel_rfl
def Jr:cT xx:=⟨[.p 0,(.f 110 [] [])],[(0,ff),(1,.l aI)],[.v af],[(0,ff),(1,.l aI)],λv=>qU n v.1 v.2.1 v.2.2.1 v.2.2.2.1 v.2.2.2.2.1 v.2.2.2.2.2.1 v.2.2.2.2.2.2.1 v.2.2.2.2.2.2.2.1 v.2.2.2.2.2.2.2.2.1 v.2.2.2.2.2.2.2.2.2⟩
def Js:b9 xx:=⟨[],[.d .bool],λ_=>none,some (Jr n)⟩
def Jt:Hn SI:=(co (.s (.s .z (.b (.l ⟨[(5,.v af),(13,.v af)],[],[1,11,12],[0,1],1512,[]⟩ 0 ⟨[(5,.v af)],[],[],[0,1],1512,[]⟩ .z))) .z))
theorem Ju:aH 105 (Js n) :=oa (au FZ aB) func105 Jt n (by kernel_rfl) λ_=>by kernel_rfl
def Ga:cT xx:=⟨[.p 0],[(0,ff),(1,.l aI)],[.v af],[(0,ff),(1,.l aI)],λv=>kQ n v.1 v.2.1 v.2.2.1 v.2.2.2.1 v.2.2.2.2.1 v.2.2.2.2.2.1 v.2.2.2.2.2.2.1 v.2.2.2.2.2.2.2.1 v.2.2.2.2.2.2.2.2.1 v.2.2.2.2.2.2.2.2.2⟩
def Gc:b9 xx:=⟨[],[.d .bool],λ_=>none,some (Ga n)⟩
theorem Gd:aH 65 (Gc n) :=oa (au (Ju n) aB) func65 .z n (by kernel_rfl) λ_=>by kernel_rfl
def Ep:cT xx:=⟨[.p 0,.v ax,.v af],[(0,ff),(1,.l aI)],[.v .bool],[(0,ff),(1,.l aI)],λv=>jO n v.1 v.2.1 v.2.2.1 v.2.2.2.1 v.2.2.2.2.1 v.2.2.2.2.2.1 v.2.2.2.2.2.2.1 v.2.2.2.2.2.2.2.1 v.2.2.2.2.2.2.2.2.1 v.2.2.2.2.2.2.2.2.2.1 v.2.2.2.2.2.2.2.2.2.2.1 v.2.2.2.2.2.2.2.2.2.2.2⟩
def Er:b9 xx:=⟨[],[.d .bool],λ_=>none,some (Ep n)⟩
def Es:Hn SI:=(rL (.s (.s .z (.b (.l ⟨[(9,.v af),(27,.v af)],[],[7,25,26],[0,1,1512],2280,[]⟩ 0 ⟨[(9,.v af)],[],[7],[0,1,1512],2280,[]⟩ (co (.s (.j ⟨[(9,.v af)],[],[7,25,26,27],[0,1,1512],2344,[]⟩ .z) .z))))) .z))
theorem Et:aH 111 (Er n) :=oa (au U3 (au DT (au KY aB))) func111 Es n (by kernel_rfl) λ_=>by kernel_rfl
def Cc:cT xx:=⟨[.p 0],[(0,ff),(1,.l aI)],[.v af],[(0,ff),(1,.l aI)],λv=>jr n v.1 v.2.1 v.2.2.1 v.2.2.2.1 v.2.2.2.2.1 v.2.2.2.2.2.1 v.2.2.2.2.2.2.1 v.2.2.2.2.2.2.2.1 v.2.2.2.2.2.2.2.2.1 v.2.2.2.2.2.2.2.2.2⟩
def Ce:b9 xx:=⟨[],[.d .bool],λ_=>none,some (Cc n)⟩
def Cf:Hn SI:=(co (.s (.s .z (.b (.l ⟨[(3,.v af),(14,.v af)],[(0,ff),(1,.l aI)],[0,12,13],[],1512,[]⟩ 0 ⟨[(3,.v af)],[(0,ff),(1,.l aI)],[],[],1512,[]⟩ (co (.s (.b (co (.s (.b (.l ⟨[(6,.v af),(7,.v af)],[(0,ff),(1,.l aI)],[0,5,12,13,14],[1704],2024,[]⟩ 2 ⟨[(6,.v af)],[(0,ff),(1,.l aI)],[0,12,13,14],[],2024,[]⟩ .z)) .z))) .z))))) .z))
theorem Cg:aH 66 (Ce n) :=oa (au (Et n) aB) func66 Cf n (by kernel_rfl) λ_=>by kernel_rfl
def yT:cT xx:=⟨[.v aI,.p 0],[(0,.c 1 [[.p 1]]),(1,tc),(2,.l aI)],[.v af],[(0,.c 1 [[.p 1]]),(1,tc),(2,.l aI)],λv=>kJ n v.1 v.2.1 v.2.2.1 v.2.2.2.1 v.2.2.2.2.1 v.2.2.2.2.2.1 v.2.2.2.2.2.2.1 v.2.2.2.2.2.2.2.1 v.2.2.2.2.2.2.2.2.1 v.2.2.2.2.2.2.2.2.2.1 v.2.2.2.2.2.2.2.2.2.2⟩
def yU:b9 xx:=⟨[],[.d .bool],λ_=>none,some (yT n)⟩
theorem yV:aH 112 (yU n) :=oa (au (Qy n) aB) func112 .z n (by kernel_rfl) λ_=>by kernel_rfl
def Jv:cT xx:=⟨[.p 0,(.f 112 [] [.p 1])],[(0,tc),(1,.c 1 [[.p 0]]),(2,.l aI)],[.v af],[(0,tc),(1,.c 1 [[.p 0]]),(2,.l aI)],λv=>qV n v.1 v.2.1 v.2.2.1 v.2.2.2.1 v.2.2.2.2.1 v.2.2.2.2.2.1 v.2.2.2.2.2.2.1 v.2.2.2.2.2.2.2.1 v.2.2.2.2.2.2.2.2.1 v.2.2.2.2.2.2.2.2.2⟩
def Jw:b9 xx:=⟨[],[.d .bool],λ_=>none,some (Jv n)⟩
def Jy:Hn SI:=(co (.s (.s .z (.b (.l ⟨[(5,.v af),(13,.v af)],[(0,tc),(1,.c 1 [[.p 0]]),(2,.l aI)],[1,11,12],[],1512,[]⟩ 0 ⟨[(5,.v af)],[(0,tc),(1,.c 1 [[.p 0]]),(2,.l aI)],[],[],1512,[]⟩ .z))) .z))
theorem Jz:aH 105 (Jw n) :=oa (au (yV n) aB) func105 Jy n (by kernel_rfl) λ_=>by kernel_rfl
def Ch:cT xx:=⟨[.p 0],[(0,ff),(1,.l aI)],[.v af],[(0,ff),(1,.l aI)],λv=>jv n v.1 v.2.1 v.2.2.1 v.2.2.2.1 v.2.2.2.2.1 v.2.2.2.2.2.1 v.2.2.2.2.2.2.1 v.2.2.2.2.2.2.2.1 v.2.2.2.2.2.2.2.2.1 v.2.2.2.2.2.2.2.2.2⟩
def Ci:b9 xx:=⟨[],[.d .bool],λ_=>none,some (Ch n)⟩
theorem Cj:aH 67 (Ci n) :=oa (au (Jz n) aB) func67 .z n (by kernel_rfl) λ_=>by kernel_rfl
def ac5:b9 xx:=⟨[.d (.st SI.lf),.d (.st SI.Lot),.d fB],[.fresh (.st SI.Entry)],λa=>sQ n a.1 a.2.1 a.2.2.1,none⟩
def ac6:Hn SI:=(co (.s (.j ⟨[],[(1384,.c 10 [[.v (.sl bq),.v (.sl bg),.v (.sl bC),.v (.sl bf),.v (.sl bG),.v (.sl bD),.v (.sl aX),.v af,.v (.sl ax),.nil]])],[5,7],[1128],1512,[]⟩ .z) (.s (.s .z (.b (.l ⟨[(31,.v af)],[(1384,Fc),(1960,.l aI)],[7,29,30],[1768],1961,[(6668873,aI)]⟩ 0 ⟨[],[(1384,Fc),(1960,.l aI)],[7],[],1961,[]⟩ (co (.s (.j ⟨[],[(1384,.c 10 [[.v (.sl bq),.v (.sl bg),.v (.sl bC),.v (.sl bf),.v (.sl bG),.v (.sl bD),.v (.sl aX),.v af,.v (.sl ax),.o 2025]]),(2025,.l aI)],[7,29,30,31],[1768],2026,[]⟩ (.b (.s .z (.s (.j ⟨[(41,.v .bool)],[],[7,9,29,30,31],[1384,1768,1960,2217],2409,[]⟩ .z) .z)))) .z))))) (co (.s (.s .z (.b (.un .z (.un .z (.un .z (.un .z (.un .z (.un .z (.un .z (.un .z (.un .z (.un .z .z)))))))))))) .z)))))
theorem ac7:aH 31 (ac5 n) :=cq (au (pY n) (au (Dc n) (au kT (au (Jl n) (au (F6 n) (au (F9 n) (au (El n) (au (Eo n) (au (Gd n) (au (Cg n) (au (Cj n) aB))))))))))) func31 ac6 n
def ahs:b9 xx:=⟨[.d af],[.d af,.d .bool],λa=>AP a.1,none⟩
def aht:Hn SI:=(.s .z (.s (.s .z (.b (.s (.j ⟨[(5,.v .bool)],[],[0,4],[],1192,[]⟩ .z) (.s .z (.s (.j ⟨[(10,.v .bool)],[],[0,4],[],1192,[]⟩ .z) .z))))) .z))
theorem ahu:aH 131 ahs :=cq aB func131 aht 0
def afn:Hn SI:=(co (.s (.s (.j ⟨[(28,.v .bool)],[],[1,2],[1000],1640,[]⟩ .z) .z) (.s .z (.s (.s .z (.b (.l ⟨[(7,.v af),(32,.v af)],[],[1,30,31],[],1960,[]⟩ 0 ⟨[(7,.v af)],[],[],[],1960,[]⟩ .z))) .z))))
theorem ac8(rc:(bK)->(Int)->Option Int)(hr:aH 96 (He rc)):aH 96 (He (CJ n rc)) :=cq (au ahu (au hr aB)) func96 afn n
theorem Qz(n:Nat):∀m,aH 96 (He (tQ n m))
 | 0=>xi (nL func96 (by kernel_rfl:Tryz.f96.body=some (Tryz.f96.body.getD .skip)) (by kernel_rfl)) (λ _ _ h=>(by cases h)) rfl
 |m+1=>ac8 n _ (Qz n m)
def afo:b9 xx:=⟨[.d (.st SI.Expr),.d af],[.d af],λa=>RD n a.1 a.2.1,none⟩
theorem afp:aH 96 (afo n):=Qz n n
def ahv:b9 xx:=⟨[.d (.st SI.Expr)],[.d .bool],λa=>Kz n a.1,none⟩
theorem YW:aH 55 (ahv n) :=cq (au (afp n) aB) func55 .z n
def QA:b9 xx:=⟨[],[.fresh .str],λ_=>yI,none⟩
theorem QB:aH 132 QA :=cq aB func132 .z 0
mutual
theorem amK:∀g:bK,(toE g).wt<=4000000->pC (toE g) (rW g)
 |⟨op,n,s,key,args⟩,h=>by
  simp only[toE,ET.wt]at h;have:=ET.p7 (KA args);simp only[toE,rW,pC];exact⟨n,key,_,rfl,by unfold maxLen;omega,by omega,YX args (by omega)⟩
theorem YX:∀l:List bK,ET.sC (KA l)<=4000000->kw (KA l) (uD l)
 |[],_=>by simp only[KA,uD,kw]
 |x::xs,h=>by
  simp only[KA,ET.sC]at h;simp only[KA,uD,kw];exact⟨_,_,rfl,amK x (by omega),YX xs (by omega)⟩
end
def QC:b9 xx:=⟨[],[.d .bool],λ_=>none,some ⟨[.v (.sl bq)],[],[.p 1000],[(1000,ra)],λv=>lJ v⟩⟩
theorem afq:∀l:List fJ,q7 (l.map toD)<=4000000->kx (l.map toD) (l.map GU)
 |[],_=>by simp only[List.map_nil,kx]
 |x::xs,h=>by
  simp only[aC,q7,List.foldr_cons,toD,ET.wt]at h;have:=ET.p7 (KA x.er);simp only[aC,kx];refine⟨_,_,rfl,⟨_,_,_,_,_,rfl,by simp only[toD];unfold maxLen;omega,?_⟩,afq xs (by simp only[q7];omega)⟩;simp only[toD,pC];exact⟨_,_,_,rfl,by unfold maxLen;omega,by omega,by rw[<- uE];exact YX _ (by omega)⟩
theorem QD:aH 133 QC:=by
 have hcall:iM Tryz.prog 133:=⟨_,func133,by kernel_rfl,by kernel_rfl⟩;refine SD hcall ?_;intro v r hr;have h':lJ v=some r:=hr;unfold lJ at h';cases hb:Nat.ble (q7 (List.map toD v)) 4000000 with
 |false=>rw[hb]at h';cases h'
 |true=>
  rw[hb]at h';have h'':some (v,oZ (List.map toD v))=some r:=h';injection h'' with e;subst e;have hw:=Nat.le_of_ble_eq_true hb;have hlen:=Vp (List.map toD v);have hn:∀d∈List.map toD v,d.2.names.length<=4000000:=λd hd=>by have h1:=Vq hd;have h2:=ET.oB d.2;omega
  exact acs (TL:=68) (TG:=246) (TI:=3) hcall (afq v hw) λsv w hS=>amd (List.map toD v) (by omega) (λ d hd=>Nat.le_trans (hn d hd) (by omega))
   (λ d hd v0 v1 v2 v3 v4 w hE=>callsIn_wide.1 (akO 0 d.2 v0 v1 v2 v3 v4 w hE (Nat.le_trans (hn d hd) (by omega)))) sv w hS
def U4:b9 xx:=⟨[.d (.sl af),.d af],[.fresh af],λa=>rM a.1 a.2.1,none⟩
theorem U5:aH 225 U4:=by
 have hcall:iM Tryz.prog 225:=⟨_,func225,by kernel_rfl,by kernel_rfl⟩;refine xi hcall (λ a r h=>?_) rfl;obtain⟨l,c,⟨⟩⟩:=a;have h':rM l c=some r:=h
 match l,h' with
 |[x],h'=>
  simp only[rM]at h';cases hb:(decide (0<=c)&&decide (c<=1000000000000))with
  |false=>rw[hb]at h';cases h'
  |true=>
   rw[hb]at h';have h'':some (List.replicate c.toNat x)=some r:=h';injection h'' with e;subst e;simp only[aJ,aT]at hb;obtain⟨h1,h2⟩:=hb;obtain⟨k,hk⟩:=Int.eq_ofNat_of_zero_le h1;subst hk;exact agG (E:=3) (c:=k) hcall λa cap w hx=>aje x k (Int.ofNat_le.1 (by simpa using h2)) a cap w hx
def YZ:b9 xx:=⟨[.d (.sl af),.d af],[.d af],λa=>Hf n a.1 a.2.1,none⟩
def Y0:Hn SI:=(.s .z (.s (.s .z (.b (.lx ⟨[(8,.v af)],[],[0,1,7],[],1256,[]⟩ 0 ⟨[],[],[],[],1256,[]⟩ .z))) .z))
theorem Y1:aH 243 (YZ n) :=cq aB func243 Y0 n
def QE:b9 xx:=⟨[.d (.sl af),.d af],[.d .bool],λa=>sw n a.1 a.2.1,none⟩
theorem QF:aH 226 (QE n) :=cq (au (Y1 n) aB) func226 .z n
def Eu:b9 xx:=⟨[.ref (.st SI.graph),.d af],[.fresh af],λa=>jQ n a.1 a.2.1,none⟩
def Ew:Hn SI:=(rL (.s (.b (.l ⟨[(6,.od 2024)],[(1448,.l af),(2024,.l af)],[0,5],[],2025,[]⟩ 0 ⟨[],[(1448,.l af)],[5],[],2024,[]⟩ (.s .z (.b (d7 (.b (.l ⟨[(6,.od 3049),(35,.v af)],[(1448,.l af),(3049,.l af)],[0,5,7,33,34],[],3050,[]⟩ 2 ⟨[(6,.od 3049)],[(1448,.l af),(3049,.l af)],[0,5],[],3050,[]⟩ (co (.s (.j ⟨[(6,.od 3114)],[(1448,.l af),(3114,.l af)],[0,5,7,33,34,35],[],3115,[]⟩ (.b (.s .z (.s (.j ⟨[(49,.v .bool)],[],[0,5,6,7,8,33,34,35],[1448,3049],3434,[]⟩ .z) .z)))) .z))))))))) .z))
theorem Ey:aH 205 (Eu n) :=cq (au U5 (au (QF n) aB)) func205 Ew n
def N8:b9 xx:=⟨[.d .str],[.d .bool],λa=>cmp_isNaN_string a.1,none⟩
theorem N9:aH 227 N8 :=cq aB func227 .z 0
def K5:b9 xx:=⟨[.d .str,.d .str],[.d af],λa=>og a.1 a.2.1,none⟩
theorem K6:aH 206 K5 :=cq (au N9 aB) func206 .z 0
def Ml:b9 xx:=⟨[.d (.sl .str),.d (.sl .str)],[.d af],λa=>mq n a.1 a.2.1,none⟩
def Mq:Hn SI:=(.s .z (.s (.s .z (.b (.lx ⟨[(11,.v af)],[],[0,1,9,10],[],1256,[]⟩ 0 ⟨[],[],[0,1],[],1256,[]⟩ .z))) .z))
theorem Mr:aH 169 (Ml n) :=cq (au K6 aB) func169 Mq n
def Bo:cT xx:=⟨[.v af,.p 0],[(0,pZ),(1,.l .bool)],[.v .bool],[(0,pZ),(1,.l .bool)],λv=>mV v.1 v.2⟩
def Bp:b9 xx:=⟨[],[.d .bool],λ_=>none,some (Bo)⟩
theorem Bq:aH 171 Bp :=oa aB func171 .z 0 (by kernel_rfl) λ_=>by kernel_rfl
def JA:cT xx:=⟨[.v (.sl af),(.f 171 [] [.p 0])],[(0,pZ),(1,.l .bool)],[.v af],[(0,pZ),(1,.l .bool)],λv=>nu n v.1 v.2⟩
def JB:b9 xx:=⟨[],[.d .bool],λ_=>none,some (JA n)⟩
def JC:Hn SI:=(.s .z (.s (.s .z (.b (.lx ⟨[(8,.v af)],[(0,pZ),(1,.l .bool)],[0,1,7],[],1256,[]⟩ 0 ⟨[],[(0,pZ),(1,.l .bool)],[],[],1256,[]⟩ .z))) .z))
theorem JD:aH 207 (JB n) :=oa (au Bq aB) func207 JC n (by kernel_rfl) λ_=>by kernel_rfl
def Ez:cT xx:=⟨[.v (.sl af),(.f 171 [] [.p 0])],[(0,pZ),(1,.l .bool)],[.v .bool],[(0,pZ),(1,.l .bool)],λv=>iD n v.1 v.2⟩
def EA:b9 xx:=⟨[],[.d .bool],λ_=>none,some (Ez n)⟩
theorem EB:aH 170 (EA n) :=oa (au (JD n) aB) func170 .z n (by kernel_rfl) λ_=>by kernel_rfl
def K7:b9 xx:=⟨[.ref (.st SI.graph)],[.fresh af],λa=>oh n a.1,none⟩
def K8:Hn SI:=(d7 (.s (.s .z (.b (.l ⟨[(4,.o 2024),(20,.v af)],[(1448,uC),(2024,.l af),(1384,.l .bool)],[0,3,19],[],2025,[(4,af)]⟩ 0 ⟨[(4,.o 2024)],[(2024,.l af)],[],[],2025,[]⟩ (co (.s (.b (.s .z (.s (.s .z (.b (.l ⟨[(5,.v af),(27,.v af)],[(1448,uC),(1384,.l .bool)],[0,3,4,19,20,25,26],[2024],2537,[]⟩ 2 ⟨[(5,.v af)],[(1448,uC),(1384,.l .bool)],[0,3,4,19,20],[2024],2537,[]⟩ (co (.s (.j ⟨[(5,.v af)],[(1448,uC),(1384,.l .bool)],[0,3,4,19,20,25,26,27],[2024],2601,[]⟩ (.b (co (.s (.j ⟨[(66,.v .bool)],[],[0,3,4,5,6,19,20,25,26,27],[1384,1448,2024],3177,[]⟩ .z) .z)))) .z))))) .z))) .z))))) .z))
theorem K9:aH 135 (K7 n) :=cq (au (EB n) aB) func135 K8 n
def EC:cT xx:=⟨[.p 0,.v af],[(0,ra)],[.oz 1000],[(0,ra),(1000,.l .str)],λv=>jS n v.1 v.2.1 v.2.2⟩
def ED:b9 xx:=⟨[],[.d .bool],λ_=>none,some (EC n)⟩
def EF:Hn SI:=(rL (.b (.lx ⟨[(6,.o 1512),(7,.v af)],[(1512,.l .str)],[0,1,5],[0,1192],1513,[(6,.str)]⟩ 999999 ⟨[],[],[],[],1512,[]⟩ (.b (co (.s (.s .z (.b (.l ⟨[(8,.v af),(34,.v af)],[],[0,1,5,6,32,33],[0,1192,2153],2921,[]⟩ 2 ⟨[(8,.v af)],[],[0,1,5,6],[0,1192,2153],2921,[]⟩ (co (.s (.j ⟨[(8,.v af)],[],[0,1,5,6,32,33,34],[0,1192,2153],2985,[]⟩ (.b (.s .z (.s (.j ⟨[(57,.v .bool)],[],[0,1,5,6,8,10,32,33,34],[0,1192,2153],3177,[]⟩ .z) .z)))) .z))))) .z))))))
theorem EG:aH 168 (ED n) :=oa (au (Ey n) aB) func168 EF n (by kernel_rfl) λ_=>by kernel_rfl
def Br:cT xx:=⟨[.p 0],[(0,ra)],[.oz 1000],[(0,ra),(1000,.l .str)],λv=>je n v.1 v.2⟩
def Bt:b9 xx:=⟨[],[.d .bool],λ_=>none,some (Br n)⟩
def Bu:Hn SI:=(co (.s (.s .z (.b (.l ⟨[(3,.oz 1512),(11,.v af)],[(0,ra),(1512,.l .str)],[0,10],[],1513,[(1099511627779,.str)]⟩ 0 ⟨[(3,.oz 1512)],[(0,ra),(1512,.l .str)],[],[],1513,[]⟩ (co (.s (.j ⟨[(3,.oz 1577)],[(0,ra),(1577,.l .str)],[0,10,11],[],1578,[]⟩ (.b (co (.s (.s (.j ⟨[(18,.v .bool)],[],[0,3,5,10,11],[0,1512,1833],1961,[]⟩ .z) .z) (.s (.j ⟨[(40,.v .bool)],[],[0,3,5,10,11],[0,1512,1833],1961,[]⟩ .z) .z))))) .z))))) .z))
theorem Bv:aH 134 (Bt n) :=oa (au (EG n) (au (Mr n) aB)) func134 Bu n (by kernel_rfl) λ_=>by kernel_rfl
def Y2:b9 xx:=⟨[.d (.st SI.lf)],[.fresh af,.d (.sl .str),.d af],λa=>om n a.1,none⟩
def Y3:Hn SI:=(co (.s (.s .z (.b (.l ⟨[(15,.v af)],[(1256,.m .str .bool)],[1,5,13,14],[1000,1384],1576,[]⟩ 0 ⟨[],[(1256,.m .str .bool)],[1,5],[1000],1576,[]⟩ .z))) (.s (.s .z (.b (.lx ⟨[(25,.v af)],[(1256,.m .str .bool)],[1,5,23,24],[1000],1832,[]⟩ 2 ⟨[],[],[1],[1000],1832,[]⟩ .z))) (.s .z (.s (.s .z (.s (.j ⟨[(43,.v .bool)],[],[10,11],[1960,2152],2280,[]⟩ .z) .z)) .z)))))
theorem Y4:aH 97 (Y2 n) :=cq (au QB (au QD (au (Bv n) (au (K9 n) aB)))) func97 Y3 n
def Ms:b9 xx:=⟨[.d bg,.ref (.st SI.Expr)],[.d .bool],λa=>CK a.1 a.2.1,none⟩
theorem Mt:aH 137 Ms :=cq aB func137 .z 0
def La:b9 xx:=⟨[.d (.sl bg),.cV [bg] .bool],[.d af],λa=>sS n a.1 a.2.1,none⟩
def Lb:Hn SI:=(.s .z (.s (.s .z (.b (.lx ⟨[(8,.v af)],[],[0,1,7],[],1256,[]⟩ 0 ⟨[],[],[],[],1256,[]⟩ .z))) .z))
theorem Lc:aH 136 (La n) :=cq aB func136 Lb n
def Mv:b9 xx:=⟨[.d (.st SI.Entry),.ref (.st SI.Expr)],[.d .bool],λa=>CO a.1 a.2.1,none⟩
theorem Mw:aH 139 Mv :=cq aB func139 .z 0
def alG:b9 xx:=⟨[.d .bool],[.d af],λa=>AQ a.1,none⟩
theorem afr:aH 99 alG :=cq aB func99 .z 0
def aag:b9 xx:=⟨[.d af,.d af],[.d af],λa=>xQ a.1 a.2.1,none⟩
def aah:Hn SI:=(d7 (.s (.j ⟨[(5,.v af)],[],[],[],1448,[]⟩ (.s .z (.s (.j ⟨[(23,.v .bool)],[],[5],[],1704,[]⟩ .z) .z))) .z))
theorem aai:aH 140 aag :=cq aB func140 aah 0
def afs:b9 xx:=⟨[.d af,.d af,.d af],[.d af],λa=>LK a.1 a.2.1 a.2.2.1,none⟩
theorem aft:aH 100 afs :=cq (au aai (au afr aB)) func100 .z 0
def Mx:cT xx:=⟨[(.a [.v (.sl bq),.v (.sl bg),.v (.sl bC),.v (.sl bf),.v (.sl bG),.v (.sl bD),.v (.sl aX),.v af,.mp 0,.v (.sl .str)]),.v (.st SI.Expr)],[(0,.m .str af)],[.v af],[(0,.m .str af)],λv=>jw n v.1 v.2.1 v.2.2.1 v.2.2.2.1 v.2.2.2.2.1 v.2.2.2.2.2.1 v.2.2.2.2.2.2.1 v.2.2.2.2.2.2.2.1 v.2.2.2.2.2.2.2.2.1 v.2.2.2.2.2.2.2.2.2.1 v.2.2.2.2.2.2.2.2.2.2⟩
def MB:b9 xx:=⟨[],[.d .bool],λ_=>none,some (Mx n)⟩
theorem MC:aH 98 (MB n) :=oa (au (Lc n) (au Mt (au (yw n) (au Mw aB)))) func98 .z n (by kernel_rfl) λ_=>by kernel_rfl
def JE:Hn SI:=(co (.s (.s .z (.b (.l ⟨[(5,.o 1512),(11,.v af)],[(0,.m .str af),(1512,.l af)],[2,3,9,10],[1000,1064],1513,[(5,af)]⟩ 0 ⟨[(5,.o 1512)],[(0,.m .str af),(1512,.l af)],[2,3],[1000,1064],1513,[]⟩ (co (.s (.j ⟨[(5,.o 1577)],[(0,.m .str af),(1577,.l af)],[2,3,9,10,11],[1000,1064],1578,[]⟩ (.b (.s .z (.s (.s (.j ⟨[(31,.v .bool)],[],[2,3,5,7,9,10,11],[0,1000,1064,1512,1769],1961,[]⟩ .z) .z) .z)))) .z))))) .z))
theorem Ik(rc:((List fJ))->((List bX))->((List dY))->((List aP))->((List ig))->((List fH))->((List bU))->(Int)->((List ByteArray))->(bK)->((List (ByteArray×Int)))->Option (Int×(List (ByteArray×Int))))(hr:aH 57 (jT rc)):aH 57 (jT (fE n rc)) :=oa (au hr (au (MC n) (au (p8 n) (au afr (au aft aB))))) func57 JE n (by kernel_rfl) λ_=>by kernel_rfl
theorem u6(n:Nat):∀m,aH 57 (jT (bR n m))
 | 0=>SD (nL func57 (by kernel_rfl:Tryz.f57.body=some (Tryz.f57.body.getD .skip)) (by kernel_rfl)) (λ _ _ h=>(by cases h))
 |m+1=>Ik n _ (u6 n m)
def JF:b9 xx:=jT (bR n n)
theorem vJ:aH 57 (JF n):=u6 n n
def U6:cT xx:=⟨[.v (.st SI.lf),(.v (.sl (.st SI.Entry))),.v (.sl .str)],[],[(.a [.v (.sl bq),.v (.sl bg),.v (.sl bC),.v (.sl bf),.v (.sl bG),.v (.sl bD),.v (.sl aX),.v af,.mp 1000,.v (.sl .str)]),.o 1001],[(1000,.m .str af),(1001,.l af)],λv=>mW n v.1 v.2.1 v.2.2⟩
def U7:b9 xx:=⟨[],[.d .bool],λ_=>none,some (U6 n)⟩
def U8:Hn SI:=(d7 (.s (.s .z (.b (.l ⟨[(26,.v af)],[(1256,.m .str af),(1576,.m .str .bool)],[3,6,8,9,24,25],[1000,1064,1448],1896,[]⟩ 0 ⟨[],[(1256,.m .str af),(1576,.m .str .bool)],[3,6,8,9],[1000,1064,1448],1896,[]⟩ (co (.s (.j ⟨[],[(1256,.m .str af),(1576,.m .str .bool)],[3,6,8,9,24,25,26],[1000,1064,1448],1960,[]⟩ .z) .z))))) (d7 (.s (.s .z (.b (.l ⟨[(61,.v af)],[(1256,.m .str af),(2088,.l af)],[3,6,8,9,12,59,60],[1000,1064,1448,1576,2280],3112,[]⟩ 2 ⟨[],[(1256,.m .str af),(2088,.l af)],[6,8,12],[1064,1448],3112,[]⟩ (co (.s (.j ⟨[],[(1256,.m .str af),(2088,.l af)],[3,6,8,9,12,59,60,61],[1000,1064,1448,1576,2280],3176,[]⟩ (.b (co (.s (.j ⟨[],[(1256,.m .str af),(2088,.l af)],[3,6,8,9,12,17,18,59,60,61],[1000,1064,1448,1576,2280,3688],3816,[]⟩ .z) .z)))) .z))))) .z))))
theorem U9:aH 56 (U7 n) :=oa (au (Y4 n) (au (YW n) (au (vJ n) aB))) func56 U8 n (by kernel_rfl) λ_=>by kernel_rfl
def ajM:b9 xx:=⟨[.d (.st SI.lf),.d (.sl (.st SI.Entry)),.d (.sl .str),.d (.st SI.Expr)],[.d af],λa=>CP n a.1 a.2.1 a.2.2.1 a.2.2.2.1,none⟩
theorem ajN:aH 30 (ajM n) :=cq (au (YW n) (au (U9 n) (au (vJ n) aB))) func30 .z n
def ahw:b9 xx:=⟨[.d (.sl ax)],[.d ax,.d .bool],λa=>PG n a.1,none⟩
def ahx:Hn SI:=(.s .z (.s (.s .z (.b (.l ⟨[(3,.v .bool),(8,.v af)],[(1000,yd)],[2,6,7],[],1320,[]⟩ 0 ⟨[(3,.v .bool)],[(1000,yd)],[2],[],1320,[]⟩ (co (.s (.j ⟨[(3,.v .bool)],[(1000,yd)],[2,6,7,8],[],1384,[]⟩ .z) .z))))) .z))
theorem ahy:aH 68 (ahw n) :=cq (au qx aB) func68 ahx n
def afu:b9 xx:=⟨[.d (.sl ax)],[.d ax,.d .bool],λa=>LM n a.1,none⟩
def afv:Hn SI:=(.s .z (.s (.s (.j ⟨[(11,.v .bool)],[],[0,2],[1000],1128,[]⟩ .z) .z) .z))
theorem afw:aH 32 (afu n) :=cq (au (pY n) (au (ahy n) aB)) func32 afv n
def Y5:b9 xx:=⟨[.d aI],[.fresh (.st SI.ld)],λa=>zA a.1,none⟩
theorem Ld:aH 21 Y5 :=cq aB func21 .z 0
def Le:b9 xx:=⟨[.d (.sl (.st SI.gi)),.cV [.st SI.gi] .bool],[.d af],λa=>sU n a.1 a.2.1,none⟩
def Lf:Hn SI:=(.s .z (.s (.s .z (.b (.lx ⟨[(8,.v af)],[],[0,1,7],[],1256,[]⟩ 0 ⟨[],[],[],[],1256,[]⟩ .z))) .z))
theorem Lg:aH 147 (Le n) :=cq aB func147 Lf n
def Gf:b9 xx:=⟨[.d (.sl (.st SI.gi)),.cV [.st SI.gi] .bool],[.d .bool],λa=>kS n a.1 a.2.1,none⟩
theorem Gg:aH 114 (Gf n) :=cq (au (Lg n) aB) func114 .z n
def Y6:b9 xx:=⟨[.d af,.d af,.d af],[.d .bool],λa=>oo a.1 a.2.1 a.2.2.1,none⟩
theorem Y7:aH 148 Y6 :=cq aB func148 .z 0
def aaj:b9 xx:=⟨[.d (.st SI.gi)],[.d .bool],λa=>CR a.1,none⟩
theorem aak:aH 116 aaj :=cq (au Y7 aB) func116 .z 0
def SA:b9 xx:=⟨[.d (.st SI.gi)],[.d .bool],λa=>uN a.1,none⟩
theorem SB:aH 115 SA :=cq (au aak aB) func115 .z 0
def aal:b9 xx:=⟨[.d ax,.d (.sl (.st SI.gi))],[.d .bool],λa=>CU n a.1 a.2.1,none⟩
theorem aam:aH 69 (aal n) :=cq (au qx (au (Gg n) (au SB aB))) func69 .z n
def ajO:b9 xx:=⟨[.d (.sl ax),.d (.sl ax)],[.d .bool],λa=>Vs n a.1 a.2.1,none⟩
theorem ajP:aH 77 (ajO n) :=cq (au (IC n) aB) func77 .z n
def ahz:b9 xx:=⟨[.d (.sl (.st SI.ld))],[.d .bool],λa=>KC n a.1,none⟩
def ahA:Hn SI:=(co (.s (.s .z (.b (.lx ⟨[(11,.v af)],[],[0,9,10],[],1448,[]⟩ 0 ⟨[],[],[],[],1448,[]⟩ (co (.s (.jx ⟨[],[],[0,9,10,11],[],1512,[]⟩ (.b (.s .z (.s (.s (.j ⟨[(42,.v .bool)],[],[0,3,4,9,10,11],[1704],1896,[]⟩ .z) .z) (co (.s (.j ⟨[(68,.v .bool)],[],[0,9,10,11],[],2472,[]⟩ .z) .z)))))) .z))))) .z))
theorem Y8:aH 39 (ahz n) :=cq (au (pY n) (au (ajP n) aB)) func39 ahA n
def QG:b9 xx:=⟨[.d ax,.d af,.d af],[.d (.st SI.mL)],λa=>yJ a.1 a.2.1 a.2.2.1,none⟩
theorem QH:aH 149 QG :=cq aB func149 .z 0
def SC:b9 xx:=⟨[.d af,.d af],[.d af],λa=>uO a.1 a.2.1,none⟩
def SF:Hn SI:=(co (.s (.j ⟨[(5,.v af)],[],[],[],1320,[]⟩ .z) .z))
theorem SG:aH 150 SC :=cq aB func150 SF 0
def afx:b9 xx:=⟨[.d ax,.d (.sl (.st SI.gi)),.d af,.d af],[.d af],λa=>LP n a.1 a.2.1 a.2.2.1 a.2.2.2.1,none⟩
def afy:Hn SI:=(d7 (.s (.s .z (.b (.l ⟨[(9,.v af),(19,.v af)],[],[10,17,18],[1448],1768,[]⟩ 0 ⟨[(9,.v af)],[],[],[],1768,[]⟩ .z))) .z))
theorem afz:aH 117 (afx n) :=cq (au QH (au SG aB)) func117 afy n
def Y9:b9 xx:=⟨[.d ax,.d (.sl (.st SI.gi)),.d (.sl ax)],[.d af],λa=>zC n a.1 a.2.1 a.2.2.1,none⟩
def Za:Hn SI:=(co (.s (.s .z (.b (.l ⟨[(7,.v af),(16,.v af)],[],[1,3,14,15],[1000],1384,[]⟩ 0 ⟨[(7,.v af)],[],[],[],1384,[]⟩ (co (.s (.b (co (.b (.l ⟨[(7,.v af),(27,.v af)],[],[1,3,9,14,15,16,25,26],[1000,1576,2024],2216,[]⟩ 2 ⟨[(7,.v af)],[],[1,3,14,15,16],[1000],2216,[]⟩ (co (.s (.b (co (.b (.l ⟨[(7,.v af),(38,.v af)],[],[1,3,9,11,14,15,16,25,26,27,36,37],[1000,1576,2024,2792],2984,[]⟩ 4 ⟨[(7,.v af)],[],[1,3,9,14,15,16,25,26,27],[1000,1576,2024],2984,[]⟩ .z)))) .z)))))) .z))))) .z))
theorem Zb:aH 71 (Y9 n) :=cq (au (afz n) aB) func71 Za n
def QI:b9 xx:=⟨[.d (.st SI.ld),.ref ax,.ref (.sl (.st SI.gi))],[.d .bool],λa=>sF n a.1 a.2.1 a.2.2.1,none⟩
theorem QJ:aH 70 (QI n) :=cq (au (Zb n) aB) func70 .z n
def ME:b9 xx:=⟨[.d (.sl (.st SI.ld)),.cV [.st SI.ld] .bool],[.d af],λa=>uP n a.1 a.2.1,none⟩
def MF:Hn SI:=(.s .z (.s (.s .z (.b (.lx ⟨[(8,.v af)],[],[0,1,7],[],1256,[]⟩ 0 ⟨[],[],[],[],1256,[]⟩ .z))) .z))
theorem MH:aH 80 (ME n) :=cq aB func80 MF n
def Il:b9 xx:=⟨[.d (.sl (.st SI.ld)),.cV [.st SI.ld] .bool],[.d .bool],λa=>jh n a.1 a.2.1,none⟩
theorem u7:aH 41 (Il n) :=cq (au (MH n) aB) func41 .z n
def Zc:b9 xx:=⟨[.d ax,.d (.sl (.st SI.gi)),.d (.sl (.st SI.ld))],[.d .bool],λa=>zF n a.1 a.2.1 a.2.2.1,none⟩
def Zd:Hn SI:=(.s .z (.s (.s (.j ⟨[(15,.v .bool)],[],[2,3,4],[1000,1064],1192,[]⟩ .z) .z) .z))
theorem Ze:aH 34 (Zc n) :=cq (au (aam n) (au (Y8 n) (au (u7 n) (au (QJ n) aB)))) func34 Zd n
def EH:b9 xx:=⟨[.d aI,.ref ax,.ref bf],[.d .bool],λa=>jU n a.1 a.2.1 a.2.2.1,none⟩
theorem EI:aH 33 (EH n) :=cq (au Ld (au (Ze n) aB)) func33 .z n
def Oa:b9 xx:=⟨[.d (.st SI.j9),.cV [aI] .bool],[.d .bool],λa=>gT n a.1 a.2.1,none⟩
theorem Bw:aH 18 (Oa n) :=cq (au (rR n) aB) func18 .z n
def EJ:b9 xx:=⟨[.d aI,.ref bf],[.d .bool],λa=>jV a.1 a.2.1,none⟩
theorem EK:aH 35 EJ :=cq aB func35 .z 0
def alH:b9 xx:=⟨[.d ax,.d ax],[.d af,.d af],λa=>akZ a.1 a.2.1,none⟩
theorem alI:aH 119 alH :=cq aB func119 .z 0
def amL:b9 xx:=⟨[.d ax,.d ax],[.d af],λa=>LL a.1 a.2.1,none⟩
def amM:Hn SI:=(.s .z (.s (.s (.j ⟨[(14,.v .bool)],[],[2,3],[1000,1064],1192,[]⟩ .z) .z) .z))
theorem amN:aH 75 amL :=cq (au qx (au alI aB)) func75 amM 0
def Gh:b9 xx:=⟨[.d (.st SI.gb),.ref (.st SI.j9),.ref aI,.ref bf],[.d .bool],λa=>dQ a.1 a.2.1 a.2.2.1 a.2.2.2.1,none⟩
def Gi:Hn SI:=(co (.s (.s (.j ⟨[(32,.v .bool)],[],[2,3,6],[1256],1384,[]⟩ .z) .z) (.s (.j ⟨[(7,.v .bool)],[],[2,3,6],[1256],1384,[]⟩ .z) .z)))
theorem Gj:aH 73 Gh :=cq (au qx (au amN aB)) func73 Gi 0
def JG:b9 xx:=⟨[.d (.sl (.st SI.gb)),.cV [.st SI.gb] .bool],[.d af],λa=>qW n a.1 a.2.1,none⟩
def JH:Hn SI:=(.s .z (.s (.s .z (.b (.lx ⟨[(8,.v af)],[],[0,1,7],[],1256,[]⟩ 0 ⟨[],[],[],[],1256,[]⟩ .z))) .z))
theorem JI:aH 118 (JG n) :=cq aB func118 JH n
def EL:b9 xx:=⟨[.d (.sl (.st SI.gb)),.cV [.st SI.gb] .bool],[.d .bool],λa=>jW n a.1 a.2.1,none⟩
theorem EM:aH 72 (EL n) :=cq (au (JI n) aB) func72 .z n
def Lh:b9 xx:=⟨[.d (.st SI.j9),.d bf,.d aI],[.d .bool],λa=>sV n a.1 a.2.1 a.2.2.1,none⟩
theorem Li:aH 37 (Lh n) :=cq (au (EM n) (au Gj aB)) func37 .z n
def EN:b9 xx:=⟨[.d aI,.ref (.st SI.j9),.ref bf],[.d .bool],λa=>jX n a.1 a.2.1 a.2.2.1,none⟩
theorem EO:aH 36 (EN n) :=cq (au (Li n) aB) func36 .z n
def JJ:b9 xx:=⟨[.d (.st SI.j9),.d bf],[.d .bool],λa=>jF n a.1 a.2.1,none⟩
theorem vK:aH 17 (JJ n) :=cq (au (ac7 n) (au (ajN n) (au (afw n) (au (Bw n) (au (EI n) (au EK (au (EO n) aB))))))) func17 .z n
def Va:b9 xx:=⟨[.d ax,.ref ax],[.d .bool],λa=>wS a.1 a.2.1,none⟩
theorem Vb:aH 83 Va :=cq aB func83 .z 0
def MI:b9 xx:=⟨[.d (.sl ax),.cV [ax] .bool],[.d af],λa=>uQ n a.1 a.2.1,none⟩
def MJ:Hn SI:=(.s .z (.s (.s .z (.b (.lx ⟨[(8,.v af)],[],[0,1,7],[],1256,[]⟩ 0 ⟨[],[],[],[],1256,[]⟩ .z))) .z))
theorem MK:aH 123 (MI n) :=cq aB func123 MJ n
def Im:b9 xx:=⟨[.d (.sl ax),.cV [ax] .bool],[.d .bool],λa=>ji n a.1 a.2.1,none⟩
theorem ve:aH 81 (Im n) :=cq (au (MK n) aB) func81 .z n
def ac9:b9 xx:=⟨[.d ax,.ref (.sl ax)],[.d .bool],λa=>Ho n a.1 a.2.1,none⟩
theorem ada:aH 82 (ac9 n) :=cq (au (ve n) (au Vb aB)) func82 .z n
def ajQ:b9 xx:=⟨[.d (.sl ax),.d (.sl ax)],[.d .bool],λa=>Vt n a.1 a.2.1,none⟩
theorem ajR:aH 43 (ajQ n) :=cq (au (ve n) (au (ada n) aB)) func43 .z n
def Vd:b9 xx:=⟨[.d (.st SI.ld),.ref (.st SI.fp)],[.d .bool],λa=>rO n a.1 a.2.1,none⟩
theorem Ve:aH 42 (Vd n) :=cq (au (ajR n) aB) func42 .z n
def adb:b9 xx:=⟨[.d (.sl (.st SI.fp)),.d af,.d (.sl (.st SI.ld))],[.d .bool],λa=>Hq n a.1 a.2.1 a.2.2.1,none⟩
def ade:Hn SI:=(co (.s (.s .z (.b (.lx ⟨[(14,.v af)],[],[1,2,12,13],[],1448,[]⟩ 0 ⟨[],[],[],[],1448,[]⟩ (co (.s (.jx ⟨[],[],[1,2,12,13,14],[],1512,[]⟩ (.b (.s .z (.s (.s (.j ⟨[(27,.v .bool)],[],[1,2,8,12,13,14],[1640],1768,[]⟩ .z) .z) .z)))) .z))))) .z))
theorem adf:aH 20 (adb n) :=cq (au (Y8 n) (au (pY n) (au (u7 n) (au (Ve n) aB)))) func20 ade n
def Ob:b9 xx:=⟨[.d aI,.ref (.st SI.ju),.ref fB],[.d .bool],λa=>nH n a.1 a.2.1 a.2.2.1,none⟩
theorem Oc:aH 19 (Ob n) :=cq (au Ld (au (adf n) aB)) func19 .z n
def JK:cT xx:=⟨[.v .str,.v .bool,.p 0],[(0,pZ),(1,.l .str)],[],[(0,.c 1 [[.o 1000]]),(1000,.l .str)],λv=>jG n v.1 v.2.1 v.2.2⟩
def JL:b9 xx:=⟨[],[.d .bool],λ_=>none,some (JK n)⟩
def JM:Hn SI:=(.s (.j ⟨[(11,.v .bool)],[],[0,2],[0,1],1000,[]⟩ .z) .z)
theorem JN:aH 14 (JL n) :=oa (au (p8 n) aB) func14 JM n (by kernel_rfl) λ_=>by kernel_rfl
def Vf:b9 xx:=⟨[.d (.st SI.ju),.d fB,.d af],[.fresh .str,.d af],λa=>iq n a.1 a.2.1 a.2.2.1,none⟩
def Vg:Hn SI:=(Nx (.s (.s .z (.b (.l ⟨[(31,.v af)],[(1960,.c 1 [[.o 2664]]),(2664,.l .str)],[3,4,8,10,11,29,30],[1000,1064,1640,2472],2665,[(9028160,.str)]⟩ 0 ⟨[],[(1960,.c 1 [[.o 2664]]),(2664,.l .str)],[3,4,8,10,11],[1000,1064,1640],2665,[]⟩ .z))) .z))
theorem yX:aH 6 (Vf n) :=cq (au (M8 n) (au (YV n) (au (vK n) (au (JN n) (au (Bw n) (au (Oc n) aB)))))) func6 Vg n
def afA:b9 xx:=⟨[.d (.sl .str),.d (.sl .str)],[.d .bool],λa=>Aa n a.1 a.2.1,none⟩
def afB:Hn SI:=(co (.s (.s .z (.b (.lx ⟨[(5,.v af)],[],[0,1],[],1448,[]⟩ 0 ⟨[],[],[],[],1448,[]⟩ .z))) .z))
theorem Ud:aH 9 (afA n) :=cq aB func9 afB n
def Vh:b9 xx:=⟨[.d (.st SI.ju),.d fB,.d bf],[.d .bool],λa=>mX n a.1 a.2.1 a.2.2.1,none⟩
theorem IG:aH 7 (Vh n) :=cq (au (M8 n) (au (vK n) aB)) func7 .z n
def Vi:b9 xx:=⟨[.d (.st SI.ju),.d fB,.d af],[.d .bool],λa=>oV n a.1 a.2.1 a.2.2.1,none⟩
theorem II:aH 10 (Vi n) :=cq (au (yX n) aB) func10 .z n
def afC:b9 xx:=⟨[],[.d .bool],λ_=>LQ n,none⟩
theorem afD:aH 4 (afC n) :=cq (au ajF (au (yX n) (au (Ud n) (au (IG n) (au (II n) aB))))) func4 .z n
def afE:Hn SI:=(d7 (.s (.s .z (.b (.l ⟨[(7,.v af),(8,.v af)],[],[1,2,3],[1000],1384,[]⟩ 0 ⟨[(7,.v af)],[],[],[],1384,[]⟩ (.s (.s (.j ⟨[(22,.v .bool)],[],[1,2,3,7,8],[1000],1384,[]⟩ .z) .z) .z)))) .z))
theorem adg(rc:(bK)->(Int)->(Int)->Option Int)(hr:aH 22 (Hr rc)):aH 22 (Hr (CW n rc)) :=cq (au hr aB) func22 afE n
theorem QK(n:Nat):∀m,aH 22 (Hr (tT n m))
 | 0=>xi (nL func22 (by kernel_rfl:Tryz.f22.body=some (Tryz.f22.body.getD .skip)) (by kernel_rfl)) (λ _ _ h=>(by cases h)) rfl
 |m+1=>adg n _ (QK n m)
def afF:b9 xx:=⟨[.d (.st SI.Expr),.d af,.d af],[.d af],λa=>Fz n a.1 a.2.1 a.2.2.1,none⟩
theorem Ue:aH 22 (afF n):=QK n n
def afG:b9 xx:=⟨[.d (.sl bf)],[.d .bool],λa=>LU n a.1,none⟩
def afH:Hn SI:=(.s .z (.s (.s .z (.b (.lx ⟨[(3,.v af)],[],[0],[],1128,[]⟩ 0 ⟨[],[],[0],[],1128,[]⟩ (.s (.s (.j ⟨[(11,.v .bool)],[],[0,3],[],1128,[]⟩ .z) .z) (.s (.b (.s (.j ⟨[(38,.v .bool)],[],[0,3],[],1128,[]⟩ .z) .z)) .z))))) .z))
theorem afI:aH 23 (afG n) :=cq (au (Ue n) aB) func23 afH n
def ahB:b9 xx:=⟨[.d (.st SI.lf)],[.d .bool],λa=>PI n a.1,none⟩
def ahC:Hn SI:=(.s .z (.s (.s .z (.b (.lx ⟨[(3,.v af)],[],[1],[1000],1192,[]⟩ 0 ⟨[],[],[1],[1000],1192,[]⟩ (.s (.s (.j ⟨[(15,.v .bool)],[],[1,3],[1000],1192,[]⟩ .z) .z) .z)))) (.s (.s .z (.b (.lx ⟨[(4,.v af)],[],[1],[1000],1256,[]⟩ 2 ⟨[],[],[1],[1000],1256,[]⟩ (.s (.s (.j ⟨[(34,.v .bool)],[],[1,4],[1000],1256,[]⟩ .z) .z) .z)))) (.s (.s .z (.b (.lx ⟨[(5,.v af)],[],[1],[1000],1320,[]⟩ 4 ⟨[],[],[1],[1000],1320,[]⟩ (.s (.s (.j ⟨[(53,.v .bool)],[],[1,5],[1000],1320,[]⟩ .z) .z) .z)))) (.s (.s .z (.b (.lx ⟨[(6,.v af)],[],[1],[1000],1384,[]⟩ 6 ⟨[],[],[1],[1000],1384,[]⟩ (.s (.s (.j ⟨[(72,.v .bool)],[],[1,6],[1000],1384,[]⟩ .z) .z) .z)))) .z)))))
theorem ahD:aH 12 (ahB n) :=cq (au (Ue n) (au (afI n) aB)) func12 ahC n
def ajS:b9 xx:=⟨[.d (.st SI.ju),.d fB],[.d .bool],λa=>Vu n a.1 a.2.1,none⟩
def ajT:Hn SI:=(.s .z (.s (.s .z (.b (.lx ⟨[(5,.v af)],[],[2,3],[1000,1064],1256,[]⟩ 0 ⟨[],[],[2,3],[1000,1064],1256,[]⟩ (.s (.s (.j ⟨[(16,.v .bool)],[],[2,3,5],[1000,1064],1256,[]⟩ .z) .z) .z)))) (.s (.s .z (.b (.lx ⟨[(6,.v af)],[],[2,3],[1000,1064],1320,[]⟩ 2 ⟨[],[],[2,3],[1000,1064],1320,[]⟩ (.s (.s (.j ⟨[(35,.v .bool)],[],[2,3,6],[1000,1064],1320,[]⟩ .z) .z) .z)))) (.s (.s .z (.b (.lx ⟨[(7,.v af)],[],[2,3],[1000,1064],1384,[]⟩ 4 ⟨[],[],[2,3],[1000,1064],1384,[]⟩ (.s (.s (.j ⟨[(54,.v .bool)],[],[2,3,7],[1000,1064],1384,[]⟩ .z) .z) (.s (.b (.s (.j ⟨[(74,.v .bool)],[],[2,3,7],[1000,1064],1384,[]⟩ .z) .z)) .z))))) .z))))
theorem ajU:aH 5 (ajS n) :=cq (au (ahD n) aB) func5 ajT n
def ajV:b9 xx:=⟨[.d (.sl .str),.d .str],[.d .bool],λa=>PK n a.1 a.2.1,none⟩
def ajW:Hn SI:=(.s .z (.s (.s .z (.b (.lx ⟨[(5,.v af)],[],[0,1],[],1128,[]⟩ 0 ⟨[],[],[],[],1128,[]⟩ .z))) .z))
theorem ajX:aH 8 (ajV n) :=cq aB func8 ajW n
def QL:b9 xx:=⟨[.d (.st SI.ju),.d fB,.d af],[.d .bool],λa=>sG n a.1 a.2.1 a.2.2.1,none⟩
def QM:Hn SI:=(u9 (.s (.s .z (.b (.lx ⟨[(10,.o 2408),(11,.v af)],[(2408,.l .str)],[2,3,4,7,8,9],[1000,1064,1896],2409,[(10,.str)]⟩ 0 ⟨[(10,.o 2408)],[(2408,.l .str)],[2,3,4,7,8,9],[1000,1064,1896],2409,[]⟩ (.s .z (.s (.jx ⟨[(10,.o 2793)],[(2793,.l .str)],[2,3,4,7,8,9,11],[1000,1064,1896],2794,[]⟩ (.b (d7 (.s (.s (.j ⟨[(91,.v .bool)],[],[2,3,4,7,8,9,10,11,13],[1000,1064,1896,2408,3817],4201,[]⟩ .z) .z) (.s (.j ⟨[(102,.v .bool)],[],[2,3,4,7,8,9,10,11,13],[1000,1064,1896,2408,3817],4201,[]⟩ .z) .z))))) .z))))) .z))
theorem QN:aH 3 (QL n) :=cq (au (afD n) (au (ajU n) (au (yX n) (au (IG n) (au (ajX n) (au (Ud n) (au (II n) aB))))))) func3 QM n
end
end Go.Proofs
