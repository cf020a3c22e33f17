import Derived.Test.YtoiaceohobeemaaGreatTC1
namespace Go.Proofs
open Go.Gb Go.RowKit
open Tryz
noncomputable section
variable (n:Nat)
def En:bz xx:=⟨[.d aI],[.d af],λa=>om a.1,none⟩
theorem Eo:aH 109 En :=cq aB func109 .z 0
def F6:bz xx:=⟨[.d aI],[.d af],λa=>o8 a.1,none⟩
theorem F7:aH 110 F6 :=cq aB func110 .z 0
def Va:bz xx:=⟨[.d ax,.d af],[.d ax,.d .bool],λa=>DL a.1 a.2.1,none⟩
theorem Vb:aH 145 Va :=cq (au qy aB) func145 .z 0
def SC:bz xx:=⟨[.d (.st SI.Entry),.ref (.st SI.mC),.ref af],[.d .bool],λa=>kK a.1 a.2.1 a.2.2.1,none⟩
theorem SF:aH 191 SC :=cq aB func191 .z 0
def Lb:bz xx:=⟨[.d (.sl (.st SI.Entry)),.cT [.st SI.Entry] .bool],[.d af],λa=>kL n a.1 a.2.1,none⟩
def Lc:Hn SI:=(.s .z (.s (.s .z (.b (.lx ⟨[(8,.v af)],[],[0,1,7],[],1256,[]⟩ 0 ⟨[],[],[],[],1256,[]⟩ .z))) .z))
theorem yE:aH 138 (Lb n) :=cq aB func138 Lc n
def aao:bz xx:=⟨[.d (.st SI.lf),.d af],[.d af],λa=>CQ n a.1 a.2.1,none⟩
def aap:Hn SI:=(cg (.s (.s .z (.b (.lx ⟨[(14,.v af)],[],[3,5,12,13],[1064,1256],1640,[]⟩ 0 ⟨[],[],[],[],1640,[]⟩ (cg (.s (.b (ef (.s (.j ⟨[(8,.v af)],[],[],[],2344,[]⟩ .z) .z))) .z))))) .z))
theorem aaq:aH 146 (aao n) :=cq (au (yE n) (au SF aB)) func146 aap n
def QF:bz xx:=⟨[.d (.st SI.lf),.d aI],[.d af],λa=>lI n a.1 a.2.1,none⟩
def QG:Hn SI:=(cg (.s (.s (.j ⟨[(20,.v .bool)],[],[5,6],[],1704,[]⟩ .z) .z) .z))
theorem QH:aH 113 (QF n) :=cq (au (aaq n) (au IU aB)) func113 QG n
def Jq:cR xx:=⟨[.p 0],[(0,fg),(1,.l aI)],[.v af],[(0,fg),(1,.l aI)],λv=>nC n v.1 v.2.1 v.2.2.1 v.2.2.2.1 v.2.2.2.2.1 v.2.2.2.2.2.1 v.2.2.2.2.2.2.1 v.2.2.2.2.2.2.2.1 v.2.2.2.2.2.2.2.2.1 v.2.2.2.2.2.2.2.2.2⟩
def Jr:bz xx:=⟨[],[.d .bool],λ_=>none,some (Jq n)⟩
theorem Js:aH 60 (Jr n) :=oa (au (abF n) aB) func60 .z n (by kernel_rfl) λ_=>by kernel_rfl
def F8:cR xx:=⟨[.p 0],[(0,fg),(1,.l aI)],[.v af],[(0,fg),(1,.l aI)],λv=>iQ n v.1 v.2.1 v.2.2.1 v.2.2.2.1 v.2.2.2.2.1 v.2.2.2.2.2.1 v.2.2.2.2.2.2.1 v.2.2.2.2.2.2.2.1 v.2.2.2.2.2.2.2.2.1 v.2.2.2.2.2.2.2.2.2⟩
def F9:bz xx:=⟨[],[.d .bool],λ_=>none,some (F8 n)⟩
def Ga:Hn SI:=(ef (.s (.s .z (.b (.l ⟨[(3,.o 1960),(23,.v af)],[(1448,.l ax),(1960,.l af)],[4,21,22],[0,1],1961,[(3,af)]⟩ 0 ⟨[(3,.o 1960)],[(1448,.l ax),(1960,.l af)],[4],[0,1],1961,[]⟩ .z))) (ef (.s (.s .z (.b (.l ⟨[(7,.v af),(56,.v af)],[],[3,4,55],[0,1,1448,1960],2601,[]⟩ 2 ⟨[(7,.v af)],[],[],[0,1],2601,[]⟩ (cg (.s (.b (ef (.b (.l ⟨[(7,.v af),(9,.v af),(61,.v af)],[],[3,4,8,55,56,59,60],[0,1,1448,1960],3049,[]⟩ 4 ⟨[(7,.v af)],[],[3,4,55,56],[0,1,1448,1960],3049,[]⟩ (cg (.s (.j ⟨[(7,.v af),(9,.v af)],[],[3,4,8,55,56,59,60,61],[0,1,1448,1960],3113,[]⟩ (.b (.s .z (.s (.j ⟨[(86,.v .bool)],[],[3,4,7,8,9,11,55,56,59,60,61],[0,1,1448,1960,3241],3369,[]⟩ .z) .z)))) .z)))))) .z))))) .z))))
theorem Gc:aH 61 (F9 n) :=oa (au (Oh n) (au F5 (au (xh n) aB))) func61 Ga n (by kernel_rfl) λ_=>by kernel_rfl
def Jt:cR xx:=⟨[.p 0,(.f 106 [] [])],[(0,fg),(1,.l aI)],[.v af],[(0,fg),(1,.l aI)],λv=>qV n v.1 v.2.1 v.2.2.1 v.2.2.2.1 v.2.2.2.2.1 v.2.2.2.2.2.1 v.2.2.2.2.2.2.1 v.2.2.2.2.2.2.2.1 v.2.2.2.2.2.2.2.2.1 v.2.2.2.2.2.2.2.2.2⟩
def Ju:bz xx:=⟨[],[.d .bool],λ_=>none,some (Jt n)⟩
def Jv:Hn SI:=(cg (.s (.s .z (.b (.l ⟨[(5,.v af),(13,.v af)],[],[1,11,12],[0,1],1512,[]⟩ 0 ⟨[(5,.v af)],[],[],[0,1],1512,[]⟩ .z))) .z))
theorem Jw:aH 105 (Ju n) :=oa (au IU aB) func105 Jv n (by kernel_rfl) λ_=>by kernel_rfl
def Gd:cR xx:=⟨[.p 0],[(0,fg),(1,.l aI)],[.v af],[(0,fg),(1,.l aI)],λv=>kS n v.1 v.2.1 v.2.2.1 v.2.2.2.1 v.2.2.2.2.1 v.2.2.2.2.2.1 v.2.2.2.2.2.2.1 v.2.2.2.2.2.2.2.1 v.2.2.2.2.2.2.2.2.1 v.2.2.2.2.2.2.2.2.2⟩
def Gf:bz xx:=⟨[],[.d .bool],λ_=>none,some (Gd n)⟩
theorem Gg:aH 62 (Gf n) :=oa (au (Jw n) aB) func62 .z n (by kernel_rfl) λ_=>by kernel_rfl
def Bl:cR xx:=⟨[.p 0,(.f 108 [] [])],[(0,fg),(1,.l aI)],[.v af],[(0,fg),(1,.l aI)],λv=>mW n v.1 v.2.1 v.2.2.1 v.2.2.2.1 v.2.2.2.2.1 v.2.2.2.2.2.1 v.2.2.2.2.2.2.1 v.2.2.2.2.2.2.2.1 v.2.2.2.2.2.2.2.2.1 v.2.2.2.2.2.2.2.2.2⟩
def Bn:bz xx:=⟨[],[.d .bool],λ_=>none,some (Bl n)⟩
def Bo:Hn SI:=(cg (.s (.s .z (.b (.l ⟨[(5,.v af),(13,.v af)],[],[1,11,12],[0,1],1512,[]⟩ 0 ⟨[(5,.v af)],[],[],[0,1],1512,[]⟩ .z))) .z))
theorem Bp:aH 107 (Bn n) :=oa (au Dk aB) func107 Bo n (by kernel_rfl) λ_=>by kernel_rfl
def Ep:cR xx:=⟨[.p 0],[(0,fg),(1,.l aI)],[.v af],[(0,fg),(1,.l aI)],λv=>jN n v.1 v.2.1 v.2.2.1 v.2.2.2.1 v.2.2.2.2.1 v.2.2.2.2.2.1 v.2.2.2.2.2.2.1 v.2.2.2.2.2.2.2.1 v.2.2.2.2.2.2.2.2.1 v.2.2.2.2.2.2.2.2.2⟩
def Er:bz xx:=⟨[],[.d .bool],λ_=>none,some (Ep n)⟩
theorem Es:aH 63 (Er n) :=oa (au (Bp n) aB) func63 .z n (by kernel_rfl) λ_=>by kernel_rfl
def Bq:cR xx:=⟨[.p 0,(.f 109 [] [])],[(0,fg),(1,.l aI)],[.v af],[(0,fg),(1,.l aI)],λv=>mX n v.1 v.2.1 v.2.2.1 v.2.2.2.1 v.2.2.2.2.1 v.2.2.2.2.2.1 v.2.2.2.2.2.2.1 v.2.2.2.2.2.2.2.1 v.2.2.2.2.2.2.2.2.1 v.2.2.2.2.2.2.2.2.2⟩
def Br:bz xx:=⟨[],[.d .bool],λ_=>none,some (Bq n)⟩
def Bt:Hn SI:=(cg (.s (.s .z (.b (.l ⟨[(5,.v af),(13,.v af)],[],[1,11,12],[0,1],1512,[]⟩ 0 ⟨[(5,.v af)],[],[],[0,1],1512,[]⟩ .z))) .z))
theorem Bu:aH 107 (Br n) :=oa (au Eo aB) func107 Bt n (by kernel_rfl) λ_=>by kernel_rfl
def Et:cR xx:=⟨[.p 0],[(0,fg),(1,.l aI)],[.v af],[(0,fg),(1,.l aI)],λv=>jO n v.1 v.2.1 v.2.2.1 v.2.2.2.1 v.2.2.2.2.1 v.2.2.2.2.2.1 v.2.2.2.2.2.2.1 v.2.2.2.2.2.2.2.1 v.2.2.2.2.2.2.2.2.1 v.2.2.2.2.2.2.2.2.2⟩
def Eu:bz xx:=⟨[],[.d .bool],λ_=>none,some (Et n)⟩
theorem Ew:aH 64 (Eu n) :=oa (au (Bu n) aB) func64 .z n (by kernel_rfl) λ_=>by kernel_rfl
def Jy:cR xx:=⟨[.p 0,(.f 110 [] [])],[(0,fg),(1,.l aI)],[.v af],[(0,fg),(1,.l aI)],λv=>qW n v.1 v.2.1 v.2.2.1 v.2.2.2.1 v.2.2.2.2.1 v.2.2.2.2.2.1 v.2.2.2.2.2.2.1 v.2.2.2.2.2.2.2.1 v.2.2.2.2.2.2.2.2.1 v.2.2.2.2.2.2.2.2.2⟩
def Jz:bz xx:=⟨[],[.d .bool],λ_=>none,some (Jy n)⟩
def JA:Hn SI:=(cg (.s (.s .z (.b (.l ⟨[(5,.v af),(13,.v af)],[],[1,11,12],[0,1],1512,[]⟩ 0 ⟨[(5,.v af)],[],[],[0,1],1512,[]⟩ .z))) .z))
theorem JB:aH 105 (Jz n) :=oa (au F7 aB) func105 JA n (by kernel_rfl) λ_=>by kernel_rfl
def Gh:cR xx:=⟨[.p 0],[(0,fg),(1,.l aI)],[.v af],[(0,fg),(1,.l aI)],λv=>kT n v.1 v.2.1 v.2.2.1 v.2.2.2.1 v.2.2.2.2.1 v.2.2.2.2.2.1 v.2.2.2.2.2.2.1 v.2.2.2.2.2.2.2.1 v.2.2.2.2.2.2.2.2.1 v.2.2.2.2.2.2.2.2.2⟩
def Gi:bz xx:=⟨[],[.d .bool],λ_=>none,some (Gh n)⟩
theorem Gj:aH 65 (Gi n) :=oa (au (JB n) aB) func65 .z n (by kernel_rfl) λ_=>by kernel_rfl
def Ey:cR xx:=⟨[.p 0,.v ax,.v af],[(0,fg),(1,.l aI)],[.v .bool],[(0,fg),(1,.l aI)],λv=>jQ n v.1 v.2.1 v.2.2.1 v.2.2.2.1 v.2.2.2.2.1 v.2.2.2.2.2.1 v.2.2.2.2.2.2.1 v.2.2.2.2.2.2.2.1 v.2.2.2.2.2.2.2.2.1 v.2.2.2.2.2.2.2.2.2.1 v.2.2.2.2.2.2.2.2.2.2.1 v.2.2.2.2.2.2.2.2.2.2.2⟩
def Ez:bz xx:=⟨[],[.d .bool],λ_=>none,some (Ey n)⟩
def EA:Hn SI:=(rb (.s (.s .z (.b (.l ⟨[(9,.v af),(27,.v af)],[],[7,25,26],[0,1,1512],2280,[]⟩ 0 ⟨[(9,.v af)],[],[7],[0,1,1512],2280,[]⟩ (cg (.s (.j ⟨[(9,.v af)],[],[7,25,26,27],[0,1,1512],2344,[]⟩ .z) .z))))) .z))
theorem EB:aH 111 (Ez n) :=oa (au Vb (au D5 (au K9 aB))) func111 EA n (by kernel_rfl) λ_=>by kernel_rfl
def Cj:cR xx:=⟨[.p 0],[(0,fg),(1,.l aI)],[.v af],[(0,fg),(1,.l aI)],λv=>jv n v.1 v.2.1 v.2.2.1 v.2.2.2.1 v.2.2.2.2.1 v.2.2.2.2.2.1 v.2.2.2.2.2.2.1 v.2.2.2.2.2.2.2.1 v.2.2.2.2.2.2.2.2.1 v.2.2.2.2.2.2.2.2.2⟩
def Ck:bz xx:=⟨[],[.d .bool],λ_=>none,some (Cj n)⟩
def Cm:Hn SI:=(cg (.s (.s .z (.b (.l ⟨[(3,.v af),(14,.v af)],[(0,fg),(1,.l aI)],[0,12,13],[],1512,[]⟩ 0 ⟨[(3,.v af)],[(0,fg),(1,.l aI)],[],[],1512,[]⟩ (cg (.s (.b (cg (.s (.b (.l ⟨[(6,.v af),(7,.v af)],[(0,fg),(1,.l aI)],[0,5,12,13,14],[1704],2024,[]⟩ 2 ⟨[(6,.v af)],[(0,fg),(1,.l aI)],[0,12,13,14],[],2024,[]⟩ .z)) .z))) .z))))) .z))
theorem Cn:aH 66 (Ck n) :=oa (au (EB n) aB) func66 Cm n (by kernel_rfl) λ_=>by kernel_rfl
def y7:cR xx:=⟨[.v aI,.p 0],[(0,.c 1 [[.p 1]]),(1,ta),(2,.l aI)],[.v af],[(0,.c 1 [[.p 1]]),(1,ta),(2,.l aI)],λv=>kN n v.1 v.2.1 v.2.2.1 v.2.2.2.1 v.2.2.2.2.1 v.2.2.2.2.2.1 v.2.2.2.2.2.2.1 v.2.2.2.2.2.2.2.1 v.2.2.2.2.2.2.2.2.1 v.2.2.2.2.2.2.2.2.2.1 v.2.2.2.2.2.2.2.2.2.2⟩
def y8:bz xx:=⟨[],[.d .bool],λ_=>none,some (y7 n)⟩
theorem y9:aH 112 (y8 n) :=oa (au (QH n) aB) func112 .z n (by kernel_rfl) λ_=>by kernel_rfl
def JC:cR xx:=⟨[.p 0,(.f 112 [] [.p 1])],[(0,ta),(1,.c 1 [[.p 0]]),(2,.l aI)],[.v af],[(0,ta),(1,.c 1 [[.p 0]]),(2,.l aI)],λv=>qX n v.1 v.2.1 v.2.2.1 v.2.2.2.1 v.2.2.2.2.1 v.2.2.2.2.2.1 v.2.2.2.2.2.2.1 v.2.2.2.2.2.2.2.1 v.2.2.2.2.2.2.2.2.1 v.2.2.2.2.2.2.2.2.2⟩
def JD:bz xx:=⟨[],[.d .bool],λ_=>none,some (JC n)⟩
def JE:Hn SI:=(cg (.s (.s .z (.b (.l ⟨[(5,.v af),(13,.v af)],[(0,ta),(1,.c 1 [[.p 0]]),(2,.l aI)],[1,11,12],[],1512,[]⟩ 0 ⟨[(5,.v af)],[(0,ta),(1,.c 1 [[.p 0]]),(2,.l aI)],[],[],1512,[]⟩ .z))) .z))
theorem JF:aH 105 (JD n) :=oa (au (y9 n) aB) func105 JE n (by kernel_rfl) λ_=>by kernel_rfl
def Co:cR xx:=⟨[.p 0],[(0,fg),(1,.l aI)],[.v af],[(0,fg),(1,.l aI)],λv=>jw n v.1 v.2.1 v.2.2.1 v.2.2.2.1 v.2.2.2.2.1 v.2.2.2.2.2.1 v.2.2.2.2.2.2.1 v.2.2.2.2.2.2.2.1 v.2.2.2.2.2.2.2.2.1 v.2.2.2.2.2.2.2.2.2⟩
def Cq:bz xx:=⟨[],[.d .bool],λ_=>none,some (Co n)⟩
theorem Cr:aH 67 (Cq n) :=oa (au (JF n) aB) func67 .z n (by kernel_rfl) λ_=>by kernel_rfl
def adg:bz xx:=⟨[.d (.st SI.lf),.d (.st SI.Lot),.d fB],[.fresh (.st SI.Entry)],λa=>sS n a.1 a.2.1 a.2.2.1,none⟩
def adh:Hn SI:=(cg (.s (.j ⟨[],[(1384,.c 10 [[.v (.sl bq),.v (.sl bg),.v (.sl bC),.v (.sl bf),.v (.sl bH),.v (.sl bD),.v (.sl aZ),.v af,.v (.sl ax),.nil]])],[5,7],[1128],1512,[]⟩ .z) (.s (.s .z (.b (.l ⟨[(31,.v af)],[(1384,Fm),(1960,.l aI)],[7,29,30],[1768],1961,[(6668873,aI)]⟩ 0 ⟨[],[(1384,Fm),(1960,.l aI)],[7],[],1961,[]⟩ (cg (.s (.j ⟨[],[(1384,.c 10 [[.v (.sl bq),.v (.sl bg),.v (.sl bC),.v (.sl bf),.v (.sl bH),.v (.sl bD),.v (.sl aZ),.v af,.v (.sl ax),.o 2025]]),(2025,.l aI)],[7,29,30,31],[1768],2026,[]⟩ (.b (.s .z (.s (.j ⟨[(41,.v .bool)],[],[7,9,29,30,31],[1384,1768,1960,2217],2409,[]⟩ .z) .z)))) .z))))) (cg (.s (.s .z (.b (.un .z (.un .z (.un .z (.un .z (.un .z (.un .z (.un .z (.un .z (.un .z (.un .z .z)))))))))))) .z)))))
theorem adi:aH 31 (adg n) :=cq (au (p8 n) (au (Dj n) (au kW (au (Js n) (au (Gc n) (au (Gg n) (au (Es n) (au (Ew n) (au (Gj n) (au (Cn n) (au (Cr n) aB))))))))))) func31 adh n
def ahE:bz xx:=⟨[.d af],[.d af,.d .bool],λa=>AZ a.1,none⟩
def ahF:Hn SI:=(.s .z (.s (.s .z (.b (.s (.j ⟨[(5,.v .bool)],[],[0,4],[],1192,[]⟩ .z) (.s .z (.s (.j ⟨[(10,.v .bool)],[],[0,4],[],1192,[]⟩ .z) .z))))) .z))
theorem ahG:aH 131 ahE :=cq aB func131 ahF 0
def afA:Hn SI:=(cg (.s (.s (.j ⟨[(28,.v .bool)],[],[1,2],[1000],1640,[]⟩ .z) .z) (.s .z (.s (.s .z (.b (.l ⟨[(7,.v af),(32,.v af)],[],[1,30,31],[],1960,[]⟩ 0 ⟨[(7,.v af)],[],[],[],1960,[]⟩ .z))) .z))))
theorem adj(rc:(bL)->(Int)->Option Int)(hr:aH 96 (Hr rc)):aH 96 (Hr (CR n rc)) :=cq (au ahG (au hr aB)) func96 afA n
theorem QI(n:Nat):∀m,aH 96 (Hr (tV n m))
 | 0=>xi (nP func96 (by kernel_rfl:Tryz.f96.body=some (Tryz.f96.body.getD .skip)) (by kernel_rfl)) (λ _ _ h=>(by cases h)) rfl
 |m+1=>adj n _ (QI n m)
def afB:bz xx:=⟨[.d (.st SI.Expr),.d af],[.d af],λa=>RJ n a.1 a.2.1,none⟩
theorem afC:aH 96 (afB n):=QI n n
def ahH:bz xx:=⟨[.d (.st SI.Expr)],[.d .bool],λa=>KG n a.1,none⟩
theorem Y7:aH 55 (ahH n) :=cq (au (afC n) aB) func55 .z n
def QJ:bz xx:=⟨[],[.fresh .str],λ_=>yP,none⟩
theorem QK:aH 132 QJ :=cq aB func132 .z 0
mutual
theorem am0:∀g:bL,(toE g).wt<=4000000->pC (toE g) (rY g)
 |⟨op,n,s,key,args⟩,h=>by
  simp only[toE,ET.wt]at h;have:=ET.qe (KH args);simp only[toE,rY,pC];exact⟨n,key,_,rfl,by unfold maxLen;omega,by omega,Y8 args (by omega)⟩
theorem Y8:∀l:List bL,ET.sE (KH l)<=4000000->kq (KH l) (uF l)
 |[],_=>by simp only[KH,uF,kq]
 |x::xs,h=>by
  simp only[KH,ET.sE]at h;simp only[KH,uF,kq];exact⟨_,_,rfl,am0 x (by omega),Y8 xs (by omega)⟩
end
def QL:bz xx:=⟨[],[.d .bool],λ_=>none,some ⟨[.v (.sl bq)],[],[.p 1000],[(1000,ra)],λv=>lJ v⟩⟩
theorem afD:∀l:List fK,q7 (l.map toD)<=4000000->kw (l.map toD) (l.map G5)
 |[],_=>by simp only[List.map_nil,kw]
 |x::xs,h=>by
  simp only[aC,q7,List.foldr_cons,toD,ET.wt]at h;have:=ET.qe (KH x.er);simp only[aC,kw];refine⟨_,_,rfl,⟨_,_,_,_,_,rfl,by simp only[toD];unfold maxLen;omega,?_⟩,afD xs (by simp only[q7];omega)⟩;simp only[toD,pC];exact⟨_,_,_,rfl,by unfold maxLen;omega,by omega,by rw[<- uG];exact Y8 _ (by omega)⟩
theorem QM:aH 133 QL:=by
 have hcall:iO Tryz.prog 133:=⟨_,func133,by kernel_rfl,by kernel_rfl⟩;refine S7 hcall ?_;intro v r hr;have h':lJ v=some r:=hr;unfold lJ at h';cases hb:Nat.ble (q7 (List.map toD v)) 4000000 with
 |false=>rw[hb]at h';cases h'
 |true=>
  rw[hb]at h';have h'':some (v,o6 (List.map toD v))=some r:=h';injection h'' with e;subst e;have hw:=Nat.le_of_ble_eq_true hb;have hlen:=Vy (List.map toD v);have hn:∀d∈List.map toD v,d.2.names.length<=4000000:=λd hd=>by have h1:=Vz hd;have h2:=ET.oB d.2;omega
  exact acG (TL:=71) (TG:=247) (TI:=3) hcall (afD v hw) λsv w hS=>amq (List.map toD v) (by omega) (λ d hd=>Nat.le_trans (hn d hd) (by omega))
   (λ d hd v0 v1 v2 v3 v4 w hE=>callsIn_wide.1 (ak3 0 d.2 v0 v1 v2 v3 v4 w hE (Nat.le_trans (hn d hd) (by omega)))) sv w hS
def Vd:bz xx:=⟨[.d (.sl af),.d af],[.fresh af],λa=>rP a.1 a.2.1,none⟩
theorem Ve:aH 225 Vd:=by
 have hcall:iO Tryz.prog 225:=⟨_,func225,by kernel_rfl,by kernel_rfl⟩;refine xi hcall (λ a r h=>?_) rfl;obtain⟨l,c,⟨⟩⟩:=a;have h':rP l c=some r:=h
 match l,h' with
 |[x],h'=>
  simp only[rP]at h';cases hb:(decide (0<=c)&&decide (c<=1000000000000))with
  |false=>rw[hb]at h';cases h'
  |true=>
   rw[hb]at h';have h'':some (List.replicate c.toNat x)=some r:=h';injection h'' with e;subst e;simp only[aJ,aT]at hb;obtain⟨h1,h2⟩:=hb;obtain⟨k,hk⟩:=Int.eq_ofNat_of_zero_le h1;subst hk;exact agS (E:=3) (c:=k) hcall λa cap w hx=>ajr x k (Int.ofNat_le.1 (by simpa using h2)) a cap w hx
def Y9:bz xx:=⟨[.d (.sl af),.d af],[.d af],λa=>Ht n a.1 a.2.1,none⟩
def Za:Hn SI:=(.s .z (.s (.s .z (.b (.lx ⟨[(8,.v af)],[],[0,1,7],[],1256,[]⟩ 0 ⟨[],[],[],[],1256,[]⟩ .z))) .z))
theorem Zb:aH 243 (Y9 n) :=cq aB func243 Za n
def QN:bz xx:=⟨[.d (.sl af),.d af],[.d .bool],λa=>sF n a.1 a.2.1,none⟩
theorem QO:aH 226 (QN n) :=cq (au (Zb n) aB) func226 .z n
def EC:bz xx:=⟨[.ref (.st SI.graph),.d af],[.fresh af],λa=>jS n a.1 a.2.1,none⟩
def ED:Hn SI:=(rb (.s (.b (.l ⟨[(6,.od 2024)],[(1448,.l af),(2024,.l af)],[0,5],[],2025,[]⟩ 0 ⟨[],[(1448,.l af)],[5],[],2024,[]⟩ (.s .z (.b (ef (.b (.l ⟨[(6,.od 3049),(35,.v af)],[(1448,.l af),(3049,.l af)],[0,5,7,33,34],[],3050,[]⟩ 2 ⟨[(6,.od 3049)],[(1448,.l af),(3049,.l af)],[0,5],[],3050,[]⟩ (cg (.s (.j ⟨[(6,.od 3114)],[(1448,.l af),(3114,.l af)],[0,5,7,33,34,35],[],3115,[]⟩ (.b (.s .z (.s (.j ⟨[(49,.v .bool)],[],[0,5,6,7,8,33,34,35],[1448,3049],3434,[]⟩ .z) .z)))) .z))))))))) .z))
theorem EF:aH 205 (EC n) :=cq (au Ve (au (QO n) aB)) func205 ED n
def Oi:bz xx:=⟨[.d .str],[.d .bool],λa=>cmp_isNaN_string a.1,none⟩
theorem Oj:aH 227 Oi :=cq aB func227 .z 0
def Ld:bz xx:=⟨[.d .str,.d .str],[.d af],λa=>oo a.1 a.2.1,none⟩
theorem Le:aH 206 Ld :=cq (au Oj aB) func206 .z 0
def Mx:bz xx:=⟨[.d (.sl .str),.d (.sl .str)],[.d af],λa=>mq n a.1 a.2.1,none⟩
def MB:Hn SI:=(.s .z (.s (.s .z (.b (.lx ⟨[(11,.v af)],[],[0,1,9,10],[],1256,[]⟩ 0 ⟨[],[],[0,1],[],1256,[]⟩ .z))) .z))
theorem MC:aH 169 (Mx n) :=cq (au Le aB) func169 MB n
def Bv:cR xx:=⟨[.v af,.p 0],[(0,p0),(1,.l .bool)],[.v .bool],[(0,p0),(1,.l .bool)],λv=>mY v.1 v.2⟩
def Bw:bz xx:=⟨[],[.d .bool],λ_=>none,some (Bv)⟩
theorem Bz:aH 171 Bw :=oa aB func171 .z 0 (by kernel_rfl) λ_=>by kernel_rfl
def JG:cR xx:=⟨[.v (.sl af),(.f 171 [] [.p 0])],[(0,p0),(1,.l .bool)],[.v af],[(0,p0),(1,.l .bool)],λv=>nD n v.1 v.2⟩
def JH:bz xx:=⟨[],[.d .bool],λ_=>none,some (JG n)⟩
def JI:Hn SI:=(.s .z (.s (.s .z (.b (.lx ⟨[(8,.v af)],[(0,p0),(1,.l .bool)],[0,1,7],[],1256,[]⟩ 0 ⟨[],[(0,p0),(1,.l .bool)],[],[],1256,[]⟩ .z))) .z))
theorem JJ:aH 207 (JH n) :=oa (au Bz aB) func207 JI n (by kernel_rfl) λ_=>by kernel_rfl
def EG:cR xx:=⟨[.v (.sl af),(.f 171 [] [.p 0])],[(0,p0),(1,.l .bool)],[.v .bool],[(0,p0),(1,.l .bool)],λv=>iE n v.1 v.2⟩
def EH:bz xx:=⟨[],[.d .bool],λ_=>none,some (EG n)⟩
theorem EI:aH 170 (EH n) :=oa (au (JJ n) aB) func170 .z n (by kernel_rfl) λ_=>by kernel_rfl
def Lf:bz xx:=⟨[.ref (.st SI.graph)],[.fresh af],λa=>oq n a.1,none⟩
def Lg:Hn SI:=(ef (.s (.s .z (.b (.l ⟨[(4,.o 2024),(20,.v af)],[(1448,vd),(2024,.l af),(1384,.l .bool)],[0,3,19],[],2025,[(4,af)]⟩ 0 ⟨[(4,.o 2024)],[(2024,.l af)],[],[],2025,[]⟩ (cg (.s (.b (.s .z (.s (.s .z (.b (.l ⟨[(5,.v af),(27,.v af)],[(1448,vd),(1384,.l .bool)],[0,3,4,19,20,25,26],[2024],2537,[]⟩ 2 ⟨[(5,.v af)],[(1448,vd),(1384,.l .bool)],[0,3,4,19,20],[2024],2537,[]⟩ (cg (.s (.j ⟨[(5,.v af)],[(1448,vd),(1384,.l .bool)],[0,3,4,19,20,25,26,27],[2024],2601,[]⟩ (.b (cg (.s (.j ⟨[(66,.v .bool)],[],[0,3,4,5,6,19,20,25,26,27],[1384,1448,2024],3177,[]⟩ .z) .z)))) .z))))) .z))) .z))))) .z))
theorem Lh:aH 135 (Lf n) :=cq (au (EI n) aB) func135 Lg n
def EJ:cR xx:=⟨[.p 0,.v af],[(0,ra)],[.oz 1000],[(0,ra),(1000,.l .str)],λv=>jU n v.1 v.2.1 v.2.2⟩
def EK:bz xx:=⟨[],[.d .bool],λ_=>none,some (EJ n)⟩
def EL:Hn SI:=(rb (.b (.lx ⟨[(6,.o 1512),(7,.v af)],[(1512,.l .str)],[0,1,5],[0,1192],1513,[(6,.str)]⟩ 999999 ⟨[],[],[],[],1512,[]⟩ (.b (cg (.s (.s .z (.b (.l ⟨[(8,.v af),(34,.v af)],[],[0,1,5,6,32,33],[0,1192,2153],2921,[]⟩ 2 ⟨[(8,.v af)],[],[0,1,5,6],[0,1192,2153],2921,[]⟩ (cg (.s (.j ⟨[(8,.v af)],[],[0,1,5,6,32,33,34],[0,1192,2153],2985,[]⟩ (.b (.s .z (.s (.j ⟨[(57,.v .bool)],[],[0,1,5,6,8,10,32,33,34],[0,1192,2153],3177,[]⟩ .z) .z)))) .z))))) .z))))))
theorem EM:aH 168 (EK n) :=oa (au (EF n) aB) func168 EL n (by kernel_rfl) λ_=>by kernel_rfl
def BA:cR xx:=⟨[.p 0],[(0,ra)],[.oz 1000],[(0,ra),(1000,.l .str)],λv=>jf n v.1 v.2⟩
def BB:bz xx:=⟨[],[.d .bool],λ_=>none,some (BA n)⟩
def BD:Hn SI:=(cg (.s (.s .z (.b (.l ⟨[(3,.oz 1512),(11,.v af)],[(0,ra),(1512,.l .str)],[0,10],[],1513,[(1099511627779,.str)]⟩ 0 ⟨[(3,.oz 1512)],[(0,ra),(1512,.l .str)],[],[],1513,[]⟩ (cg (.s (.j ⟨[(3,.oz 1577)],[(0,ra),(1577,.l .str)],[0,10,11],[],1578,[]⟩ (.b (cg (.s (.s (.j ⟨[(18,.v .bool)],[],[0,3,5,10,11],[0,1512,1833],1961,[]⟩ .z) .z) (.s (.j ⟨[(40,.v .bool)],[],[0,3,5,10,11],[0,1512,1833],1961,[]⟩ .z) .z))))) .z))))) .z))
theorem BF:aH 134 (BB n) :=oa (au (EM n) (au (MC n) aB)) func134 BD n (by kernel_rfl) λ_=>by kernel_rfl
def Zc:bz xx:=⟨[.d (.st SI.lf)],[.fresh af,.d (.sl .str),.d af],λa=>ou n a.1,none⟩
def Zd:Hn SI:=(cg (.s (.s .z (.b (.l ⟨[(15,.v af)],[(1256,.m .str .bool)],[1,5,13,14],[1000,1384],1576,[]⟩ 0 ⟨[],[(1256,.m .str .bool)],[1,5],[1000],1576,[]⟩ .z))) (.s (.s .z (.b (.lx ⟨[(25,.v af)],[(1256,.m .str .bool)],[1,5,23,24],[1000],1832,[]⟩ 2 ⟨[],[],[1],[1000],1832,[]⟩ .z))) (.s .z (.s (.s .z (.s (.j ⟨[(43,.v .bool)],[],[10,11],[1960,2152],2280,[]⟩ .z) .z)) .z)))))
theorem Ze:aH 97 (Zc n) :=cq (au QK (au QM (au (BF n) (au (Lh n) aB)))) func97 Zd n
def ME:bz xx:=⟨[.d bg,.ref (.st SI.Expr)],[.d .bool],λa=>CU a.1 a.2.1,none⟩
theorem MF:aH 137 ME :=cq aB func137 .z 0
def Li:bz xx:=⟨[.d (.sl bg),.cT [bg] .bool],[.d af],λa=>sU n a.1 a.2.1,none⟩
def Lj:Hn SI:=(.s .z (.s (.s .z (.b (.lx ⟨[(8,.v af)],[],[0,1,7],[],1256,[]⟩ 0 ⟨[],[],[],[],1256,[]⟩ .z))) .z))
theorem Ll:aH 136 (Li n) :=cq aB func136 Lj n
def MH:bz xx:=⟨[.d (.st SI.Entry),.ref (.st SI.Expr)],[.d .bool],λa=>CV a.1 a.2.1,none⟩
theorem MI:aH 139 MH :=cq aB func139 .z 0
def alS:bz xx:=⟨[.d .bool],[.d af],λa=>A7 a.1,none⟩
theorem afE:aH 99 alS :=cq aB func99 .z 0
def aar:bz xx:=⟨[.d af,.d af],[.d af],λa=>xX a.1 a.2.1,none⟩
def aas:Hn SI:=(ef (.s (.j ⟨[(5,.v af)],[],[],[],1448,[]⟩ (.s .z (.s (.j ⟨[(23,.v .bool)],[],[5],[],1704,[]⟩ .z) .z))) .z))
theorem aat:aH 140 aar :=cq aB func140 aas 0
def afF:bz xx:=⟨[.d af,.d af,.d af],[.d af],λa=>LY a.1 a.2.1 a.2.2.1,none⟩
theorem afG:aH 100 afF :=cq (au aat (au afE aB)) func100 .z 0
def MJ:cR xx:=⟨[(.a [.v (.sl bq),.v (.sl bg),.v (.sl bC),.v (.sl bf),.v (.sl bH),.v (.sl bD),.v (.sl aZ),.v af,.mp 0,.v (.sl .str)]),.v (.st SI.Expr)],[(0,.m .str af)],[.v af],[(0,.m .str af)],λv=>jy n v.1 v.2.1 v.2.2.1 v.2.2.2.1 v.2.2.2.2.1 v.2.2.2.2.2.1 v.2.2.2.2.2.2.1 v.2.2.2.2.2.2.2.1 v.2.2.2.2.2.2.2.2.1 v.2.2.2.2.2.2.2.2.2.1 v.2.2.2.2.2.2.2.2.2.2⟩
def MK:bz xx:=⟨[],[.d .bool],λ_=>none,some (MJ n)⟩
theorem ML:aH 98 (MK n) :=oa (au (Ll n) (au MF (au (yE n) (au MI aB)))) func98 .z n (by kernel_rfl) λ_=>by kernel_rfl
def JK:Hn SI:=(cg (.s (.s .z (.b (.l ⟨[(5,.o 1512),(11,.v af)],[(0,.m .str af),(1512,.l af)],[2,3,9,10],[1000,1064],1513,[(5,af)]⟩ 0 ⟨[(5,.o 1512)],[(0,.m .str af),(1512,.l af)],[2,3],[1000,1064],1513,[]⟩ (cg (.s (.j ⟨[(5,.o 1577)],[(0,.m .str af),(1577,.l af)],[2,3,9,10,11],[1000,1064],1578,[]⟩ (.b (.s .z (.s (.s (.j ⟨[(31,.v .bool)],[],[2,3,5,7,9,10,11],[0,1000,1064,1512,1769],1961,[]⟩ .z) .z) .z)))) .z))))) .z))
theorem Ir(rc:((List fK))->((List bZ))->((List dY))->((List aM))->((List iw))->((List fI))->((List bX))->(Int)->((List ByteArray))->(bL)->((List (ByteArray×Int)))->Option (Int×(List (ByteArray×Int))))(hr:aH 57 (jV rc)):aH 57 (jV (fF n rc)) :=oa (au hr (au (ML n) (au (p9 n) (au afE (au afG aB))))) func57 JK n (by kernel_rfl) λ_=>by kernel_rfl
theorem vk(n:Nat):∀m,aH 57 (jV (bT n m))
 | 0=>S7 (nP func57 (by kernel_rfl:Tryz.f57.body=some (Tryz.f57.body.getD .skip)) (by kernel_rfl)) (λ _ _ h=>(by cases h))
 |m+1=>Ir n _ (vk n m)
def JL:bz xx:=jV (bT n n)
theorem vN:aH 57 (JL n):=vk n n
def Vf:cR xx:=⟨[.v (.st SI.lf),(.v (.sl (.st SI.Entry))),.v (.sl .str)],[],[(.a [.v (.sl bq),.v (.sl bg),.v (.sl bC),.v (.sl bf),.v (.sl bH),.v (.sl bD),.v (.sl aZ),.v af,.mp 1000,.v (.sl .str)]),.o 1001],[(1000,.m .str af),(1001,.l af)],λv=>mZ n v.1 v.2.1 v.2.2⟩
def Vg:bz xx:=⟨[],[.d .bool],λ_=>none,some (Vf n)⟩
def Vh:Hn SI:=(ef (.s (.s .z (.b (.l ⟨[(26,.v af)],[(1256,.m .str af),(1576,.m .str .bool)],[3,6,8,9,24,25],[1000,1064,1448],1896,[]⟩ 0 ⟨[],[(1256,.m .str af),(1576,.m .str .bool)],[3,6,8,9],[1000,1064,1448],1896,[]⟩ (cg (.s (.j ⟨[],[(1256,.m .str af),(1576,.m .str .bool)],[3,6,8,9,24,25,26],[1000,1064,1448],1960,[]⟩ .z) .z))))) (ef (.s (.s .z (.b (.l ⟨[(61,.v af)],[(1256,.m .str af),(2088,.l af)],[3,6,8,9,12,59,60],[1000,1064,1448,1576,2280],3112,[]⟩ 2 ⟨[],[(1256,.m .str af),(2088,.l af)],[6,8,12],[1064,1448],3112,[]⟩ (cg (.s (.j ⟨[],[(1256,.m .str af),(2088,.l af)],[3,6,8,9,12,59,60,61],[1000,1064,1448,1576,2280],3176,[]⟩ (.b (cg (.s (.j ⟨[],[(1256,.m .str af),(2088,.l af)],[3,6,8,9,12,17,18,59,60,61],[1000,1064,1448,1576,2280,3688],3816,[]⟩ .z) .z)))) .z))))) .z))))
theorem Vi:aH 56 (Vg n) :=oa (au (Ze n) (au (Y7 n) (au (vN n) aB))) func56 Vh n (by kernel_rfl) λ_=>by kernel_rfl
def aj1:bz xx:=⟨[.d (.st SI.lf),.d (.sl (.st SI.Entry)),.d (.sl .str),.d (.st SI.Expr)],[.d af],λa=>CW n a.1 a.2.1 a.2.2.1 a.2.2.2.1,none⟩
theorem aj2:aH 30 (aj1 n) :=cq (au (Y7 n) (au (Vi n) (au (vN n) aB))) func30 .z n
def ahI:bz xx:=⟨[.d (.sl ax)],[.d ax,.d .bool],λa=>PW n a.1,none⟩
def ahJ:Hn SI:=(.s .z (.s (.s .z (.b (.l ⟨[(3,.v .bool),(8,.v af)],[(1000,ye)],[2,6,7],[],1320,[]⟩ 0 ⟨[(3,.v .bool)],[(1000,ye)],[2],[],1320,[]⟩ (cg (.s (.j ⟨[(3,.v .bool)],[(1000,ye)],[2,6,7,8],[],1384,[]⟩ .z) .z))))) .z))
theorem ahK:aH 68 (ahI n) :=cq (au qy aB) func68 ahJ n
def afH:bz xx:=⟨[.d (.sl ax)],[.d ax,.d .bool],λa=>LZ n a.1,none⟩
def afI:Hn SI:=(.s .z (.s (.s (.j ⟨[(11,.v .bool)],[],[0,2],[1000],1128,[]⟩ .z) .z) .z))
theorem afJ:aH 32 (afH n) :=cq (au (p8 n) (au (ahK n) aB)) func32 afI n
def Zf:bz xx:=⟨[.d aI],[.fresh (.st SI.ld)],λa=>zJ a.1,none⟩
theorem Lm:aH 23 Zf :=cq aB func23 .z 0
def Lp:bz xx:=⟨[.d (.sl (.st SI.gi)),.cT [.st SI.gi] .bool],[.d af],λa=>sV n a.1 a.2.1,none⟩
def Lr:Hn SI:=(.s .z (.s (.s .z (.b (.lx ⟨[(8,.v af)],[],[0,1,7],[],1256,[]⟩ 0 ⟨[],[],[],[],1256,[]⟩ .z))) .z))
theorem Ls:aH 147 (Lp n) :=cq aB func147 Lr n
def Gl:bz xx:=⟨[.d (.sl (.st SI.gi)),.cT [.st SI.gi] .bool],[.d .bool],λa=>kV n a.1 a.2.1,none⟩
theorem Gm:aH 114 (Gl n) :=cq (au (Ls n) aB) func114 .z n
def Zg:bz xx:=⟨[.d af,.d af,.d af],[.d .bool],λa=>ow a.1 a.2.1 a.2.2.1,none⟩
theorem Zh:aH 148 Zg :=cq aB func148 .z 0
def aau:bz xx:=⟨[.d (.st SI.gi)],[.d .bool],λa=>CY a.1,none⟩
theorem aav:aH 116 aau :=cq (au Zh aB) func116 .z 0
def SG:bz xx:=⟨[.d (.st SI.gi)],[.d .bool],λa=>uP a.1,none⟩
theorem SH:aH 115 SG :=cq (au aav aB) func115 .z 0
def aaw:bz xx:=⟨[.d ax,.d (.sl (.st SI.gi))],[.d .bool],λa=>CZ n a.1 a.2.1,none⟩
theorem aax:aH 69 (aaw n) :=cq (au qy (au (Gm n) (au SH aB))) func69 .z n
def aj3:bz xx:=⟨[.d (.sl ax),.d (.sl ax)],[.d .bool],λa=>VB n a.1 a.2.1,none⟩
theorem aj4:aH 77 (aj3 n) :=cq (au (IQ n) aB) func77 .z n
def ahL:bz xx:=⟨[.d (.sl (.st SI.ld))],[.d .bool],λa=>KI n a.1,none⟩
def ahM:Hn SI:=(cg (.s (.s .z (.b (.lx ⟨[(11,.v af)],[],[0,9,10],[],1448,[]⟩ 0 ⟨[],[],[],[],1448,[]⟩ (cg (.s (.jx ⟨[],[],[0,9,10,11],[],1512,[]⟩ (.b (.s .z (.s (.s (.j ⟨[(42,.v .bool)],[],[0,3,4,9,10,11],[1704],1896,[]⟩ .z) .z) (cg (.s (.j ⟨[(68,.v .bool)],[],[0,9,10,11],[],2472,[]⟩ .z) .z)))))) .z))))) .z))
theorem Zi:aH 39 (ahL n) :=cq (au (p8 n) (au (aj4 n) aB)) func39 ahM n
def QR:bz xx:=⟨[.d ax,.d af,.d af],[.d (.st SI.mL)],λa=>yQ a.1 a.2.1 a.2.2.1,none⟩
theorem QS:aH 149 QR :=cq aB func149 .z 0
def SK:bz xx:=⟨[.d af,.d af],[.d af],λa=>uQ a.1 a.2.1,none⟩
def SL:Hn SI:=(cg (.s (.j ⟨[(5,.v af)],[],[],[],1320,[]⟩ .z) .z))
theorem SQ:aH 150 SK :=cq aB func150 SL 0
def afK:bz xx:=⟨[.d ax,.d (.sl (.st SI.gi)),.d af,.d af],[.d af],λa=>L6 n a.1 a.2.1 a.2.2.1 a.2.2.2.1,none⟩
def afL:Hn SI:=(ef (.s (.s .z (.b (.l ⟨[(9,.v af),(19,.v af)],[],[10,17,18],[1448],1768,[]⟩ 0 ⟨[(9,.v af)],[],[],[],1768,[]⟩ .z))) .z))
theorem afM:aH 117 (afK n) :=cq (au QS (au SQ aB)) func117 afL n
def Zj:bz xx:=⟨[.d ax,.d (.sl (.st SI.gi)),.d (.sl ax)],[.d af],λa=>zL n a.1 a.2.1 a.2.2.1,none⟩
def Zk:Hn SI:=(cg (.s (.s .z (.b (.l ⟨[(7,.v af),(16,.v af)],[],[1,3,14,15],[1000],1384,[]⟩ 0 ⟨[(7,.v af)],[],[],[],1384,[]⟩ (cg (.s (.b (cg (.b (.l ⟨[(7,.v af),(27,.v af)],[],[1,3,9,14,15,16,25,26],[1000,1576,2024],2216,[]⟩ 2 ⟨[(7,.v af)],[],[1,3,14,15,16],[1000],2216,[]⟩ (cg (.s (.b (cg (.b (.l ⟨[(7,.v af),(38,.v af)],[],[1,3,9,11,14,15,16,25,26,27,36,37],[1000,1576,2024,2792],2984,[]⟩ 4 ⟨[(7,.v af)],[],[1,3,9,14,15,16,25,26,27],[1000,1576,2024],2984,[]⟩ .z)))) .z)))))) .z))))) .z))
theorem Zl:aH 71 (Zj n) :=cq (au (afM n) aB) func71 Zk n
def QT:bz xx:=⟨[.d (.st SI.ld),.ref ax,.ref (.sl (.st SI.gi))],[.d .bool],λa=>sH n a.1 a.2.1 a.2.2.1,none⟩
theorem QU:aH 70 (QT n) :=cq (au (Zl n) aB) func70 .z n
def MN:bz xx:=⟨[.d (.sl (.st SI.ld)),.cT [.st SI.ld] .bool],[.d af],λa=>uR n a.1 a.2.1,none⟩
def MO:Hn SI:=(.s .z (.s (.s .z (.b (.lx ⟨[(8,.v af)],[],[0,1,7],[],1256,[]⟩ 0 ⟨[],[],[],[],1256,[]⟩ .z))) .z))
theorem MP:aH 80 (MN n) :=cq aB func80 MO n
def Iu:bz xx:=⟨[.d (.sl (.st SI.ld)),.cT [.st SI.ld] .bool],[.d .bool],λa=>ji n a.1 a.2.1,none⟩
theorem vo:aH 41 (Iu n) :=cq (au (MP n) aB) func41 .z n
def Zm:bz xx:=⟨[.d ax,.d (.sl (.st SI.gi)),.d (.sl (.st SI.ld))],[.d .bool],λa=>zM n a.1 a.2.1 a.2.2.1,none⟩
def Zn:Hn SI:=(.s .z (.s (.s (.j ⟨[(15,.v .bool)],[],[2,3,4],[1000,1064],1192,[]⟩ .z) .z) .z))
theorem Zo:aH 34 (Zm n) :=cq (au (aax n) (au (Zi n) (au (vo n) (au (QU n) aB)))) func34 Zn n
def EN:bz xx:=⟨[.d aI,.ref ax,.ref bf],[.d .bool],λa=>jW n a.1 a.2.1 a.2.2.1,none⟩
theorem EO:aH 33 (EN n) :=cq (au Lm (au (Zo n) aB)) func33 .z n
def Ol:bz xx:=⟨[.d (.st SI.j8),.cT [aI] .bool],[.d .bool],λa=>gW n a.1 a.2.1,none⟩
theorem BG:aH 20 (Ol n) :=cq (au (rU n) aB) func20 .z n
def EP:bz xx:=⟨[.d aI,.ref bf],[.d .bool],λa=>jX a.1 a.2.1,none⟩
theorem EQ:aH 35 EP :=cq aB func35 .z 0
def alT:bz xx:=⟨[.d ax,.d ax],[.d af,.d af],λa=>ale a.1 a.2.1,none⟩
theorem alU:aH 119 alT :=cq aB func119 .z 0
def am1:bz xx:=⟨[.d ax,.d ax],[.d af],λa=>Lo a.1 a.2.1,none⟩
def am2:Hn SI:=(.s .z (.s (.s (.j ⟨[(14,.v .bool)],[],[2,3],[1000,1064],1192,[]⟩ .z) .z) .z))
theorem am3:aH 75 am1 :=cq (au qy (au alU aB)) func75 am2 0
def Gn:bz xx:=⟨[.d (.st SI.ev),.ref (.st SI.j8),.ref aI,.ref bf],[.d .bool],λa=>dD a.1 a.2.1 a.2.2.1 a.2.2.2.1,none⟩
def Gp:Hn SI:=(cg (.s (.s (.j ⟨[(32,.v .bool)],[],[2,3,6],[1256],1384,[]⟩ .z) .z) (.s (.j ⟨[(7,.v .bool)],[],[2,3,6],[1256],1384,[]⟩ .z) .z)))
theorem Gq:aH 73 Gn :=cq (au qy (au am3 aB)) func73 Gp 0
def JM:bz xx:=⟨[.d (.sl (.st SI.ev)),.cT [.st SI.ev] .bool],[.d af],λa=>qY n a.1 a.2.1,none⟩
def JN:Hn SI:=(.s .z (.s (.s .z (.b (.lx ⟨[(8,.v af)],[],[0,1,7],[],1256,[]⟩ 0 ⟨[],[],[],[],1256,[]⟩ .z))) .z))
theorem JO:aH 118 (JM n) :=cq aB func118 JN n
def ER:bz xx:=⟨[.d (.sl (.st SI.ev)),.cT [.st SI.ev] .bool],[.d .bool],λa=>jY n a.1 a.2.1,none⟩
theorem ES:aH 72 (ER n) :=cq (au (JO n) aB) func72 .z n
def Lu:bz xx:=⟨[.d (.st SI.j8),.d bf,.d aI],[.d .bool],λa=>sW n a.1 a.2.1 a.2.2.1,none⟩
theorem Lv:aH 37 (Lu n) :=cq (au (ES n) (au Gq aB)) func37 .z n
def EU:bz xx:=⟨[.d aI,.ref (.st SI.j8),.ref bf],[.d .bool],λa=>jZ n a.1 a.2.1 a.2.2.1,none⟩
theorem EW:aH 36 (EU n) :=cq (au (Lv n) aB) func36 .z n
def JP:bz xx:=⟨[.d (.st SI.j8),.d bf],[.d .bool],λa=>jH n a.1 a.2.1,none⟩
theorem vO:aH 19 (JP n) :=cq (au (adi n) (au (aj2 n) (au (afJ n) (au (BG n) (au (EO n) (au EQ (au (EW n) aB))))))) func19 .z n
def Vj:bz xx:=⟨[.d ax,.ref ax],[.d .bool],λa=>wY a.1 a.2.1,none⟩
theorem Vk:aH 83 Vj :=cq aB func83 .z 0
def MQ:bz xx:=⟨[.d (.sl ax),.cT [ax] .bool],[.d af],λa=>uS n a.1 a.2.1,none⟩
def MR:Hn SI:=(.s .z (.s (.s .z (.b (.lx ⟨[(8,.v af)],[],[0,1,7],[],1256,[]⟩ 0 ⟨[],[],[],[],1256,[]⟩ .z))) .z))
theorem MS:aH 123 (MQ n) :=cq aB func123 MR n
def Iw:bz xx:=⟨[.d (.sl ax),.cT [ax] .bool],[.d .bool],λa=>jk n a.1 a.2.1,none⟩
theorem vv:aH 81 (Iw n) :=cq (au (MS n) aB) func81 .z n
def adk:bz xx:=⟨[.d ax,.ref (.sl ax)],[.d .bool],λa=>Hy n a.1 a.2.1,none⟩
theorem adl:aH 82 (adk n) :=cq (au (vv n) (au Vk aB)) func82 .z n
def aj5:bz xx:=⟨[.d (.sl ax),.d (.sl ax)],[.d .bool],λa=>VD n a.1 a.2.1,none⟩
theorem aj6:aH 43 (aj5 n) :=cq (au (vv n) (au (adl n) aB)) func43 .z n
def Vl:bz xx:=⟨[.d (.st SI.ld),.ref (.st SI.ft)],[.d .bool],λa=>rQ n a.1 a.2.1,none⟩
theorem Vm:aH 42 (Vl n) :=cq (au (aj6 n) aB) func42 .z n
def adm:bz xx:=⟨[.d (.sl (.st SI.ft)),.d af,.d (.sl (.st SI.ld))],[.d .bool],λa=>Hz n a.1 a.2.1 a.2.2.1,none⟩
def adn:Hn SI:=(cg (.s (.s .z (.b (.lx ⟨[(14,.v af)],[],[1,2,12,13],[],1448,[]⟩ 0 ⟨[],[],[],[],1448,[]⟩ (cg (.s (.jx ⟨[],[],[1,2,12,13,14],[],1512,[]⟩ (.b (.s .z (.s (.s (.j ⟨[(27,.v .bool)],[],[1,2,8,12,13,14],[1640],1768,[]⟩ .z) .z) .z)))) .z))))) .z))
theorem ado:aH 22 (adm n) :=cq (au (Zi n) (au (p8 n) (au (vo n) (au (Vm n) aB)))) func22 adn n
def Om:bz xx:=⟨[.d aI,.ref (.st SI.jt),.ref fB],[.d .bool],λa=>nL n a.1 a.2.1 a.2.2.1,none⟩
theorem Oo:aH 21 (Om n) :=cq (au Lm (au (ado n) aB)) func21 .z n
def JQ:cR xx:=⟨[.v .str,.v .bool,.p 0],[(0,p0),(1,.l .str)],[],[(0,.c 1 [[.o 1000]]),(1000,.l .str)],λv=>jI n v.1 v.2.1 v.2.2⟩
def JR:bz xx:=⟨[],[.d .bool],λ_=>none,some (JQ n)⟩
def JS:Hn SI:=(.s (.j ⟨[(11,.v .bool)],[],[0,2],[0,1],1000,[]⟩ .z) .z)
theorem JU:aH 16 (JR n) :=oa (au (p9 n) aB) func16 JS n (by kernel_rfl) λ_=>by kernel_rfl
def Vn:bz xx:=⟨[.d (.st SI.jt),.d fB,.d af],[.fresh .str,.d af],λa=>fC n a.1 a.2.1 a.2.2.1,none⟩
def Vo:Hn SI:=(FA (.s (.s .z (.b (.l ⟨[(31,.v af)],[(1960,.c 1 [[.o 2664]]),(2664,.l .str)],[3,4,8,10,11,29,30],[1000,1064,1640,2472],2665,[(9028160,.str)]⟩ 0 ⟨[],[(1960,.c 1 [[.o 2664]]),(2664,.l .str)],[3,4,8,10,11],[1000,1064,1640],2665,[]⟩ .z))) .z))
theorem za:aH 7 (Vn n) :=cq (au (Ni n) (au (Y6 n) (au (vO n) (au (JU n) (au (BG n) (au (Oo n) aB)))))) func7 Vo n
def afN:bz xx:=⟨[.d (.sl .str),.d (.sl .str)],[.d .bool],λa=>oW n a.1 a.2.1,none⟩
def afO:Hn SI:=(cg (.s (.s .z (.b (.lx ⟨[(5,.v af)],[],[0,1],[],1448,[]⟩ 0 ⟨[],[],[],[],1448,[]⟩ .z))) .z))
theorem Uk:aH 8 (afN n) :=cq aB func8 afO n
def Vp:bz xx:=⟨[.d (.st SI.jt),.d fB,.d bf],[.d .bool],λa=>ng n a.1 a.2.1 a.2.2.1,none⟩
theorem IV:aH 10 (Vp n) :=cq (au (Ni n) (au (vO n) aB)) func10 .z n
def Vq:bz xx:=⟨[.d (.st SI.jt),.d fB,.d af],[.d .bool],λa=>xg n a.1 a.2.1 a.2.2.1,none⟩
theorem Vr:aH 12 (Vq n) :=cq (au (za n) aB) func12 .z n
def afP:bz xx:=⟨[],[.d .bool],λ_=>L8 n,none⟩
theorem afQ:aH 4 (afP n) :=cq (au ajU (au (za n) (au (Uk n) (au (IV n) (au (Vr n) aB))))) func4 .z n
def afR:Hn SI:=(ef (.s (.s .z (.b (.l ⟨[(7,.v af),(8,.v af)],[],[1,2,3],[1000],1384,[]⟩ 0 ⟨[(7,.v af)],[],[],[],1384,[]⟩ (.s (.s (.j ⟨[(22,.v .bool)],[],[1,2,3,7,8],[1000],1384,[]⟩ .z) .z) .z)))) .z))
theorem adp(rc:(bL)->(Int)->(Int)->Option Int)(hr:aH 14 (HV rc)):aH 14 (HV (C9 n rc)) :=cq (au hr aB) func14 afR n
theorem QV(n:Nat):∀m,aH 14 (HV (tX n m))
 | 0=>xi (nP func14 (by kernel_rfl:Tryz.f14.body=some (Tryz.f14.body.getD .skip)) (by kernel_rfl)) (λ _ _ h=>(by cases h)) rfl
 |m+1=>adp n _ (QV n m)
def afS:bz xx:=⟨[.d (.st SI.Expr),.d af,.d af],[.d af],λa=>FI n a.1 a.2.1 a.2.2.1,none⟩
theorem Ul:aH 14 (afS n):=QV n n
def afT:bz xx:=⟨[.d (.sl bf)],[.d .bool],λa=>FJ n a.1,none⟩
def afU:Hn SI:=(.s .z (.s (.s .z (.b (.lx ⟨[(3,.v af)],[],[0],[],1128,[]⟩ 0 ⟨[],[],[0],[],1128,[]⟩ (.s (.s (.j ⟨[(11,.v .bool)],[],[0,3],[],1128,[]⟩ .z) .z) (.s (.b (.s (.j ⟨[(38,.v .bool)],[],[0,3],[],1128,[]⟩ .z) .z)) .z))))) .z))
theorem Um:aH 6 (afT n) :=cq (au (Ul n) aB) func6 afU n
def ahN:bz xx:=⟨[.d (.st SI.lf)],[.d .bool],λa=>PX n a.1,none⟩
def ahO:Hn SI:=(.s .z (.s (.s .z (.b (.lx ⟨[(3,.v af)],[],[1],[1000],1192,[]⟩ 0 ⟨[],[],[1],[1000],1192,[]⟩ (.s (.s (.j ⟨[(15,.v .bool)],[],[1,3],[1000],1192,[]⟩ .z) .z) .z)))) (.s (.s .z (.b (.lx ⟨[(4,.v af)],[],[1],[1000],1256,[]⟩ 2 ⟨[],[],[1],[1000],1256,[]⟩ (.s (.s (.j ⟨[(34,.v .bool)],[],[1,4],[1000],1256,[]⟩ .z) .z) .z)))) (.s (.s .z (.b (.lx ⟨[(5,.v af)],[],[1],[1000],1320,[]⟩ 4 ⟨[],[],[1],[1000],1320,[]⟩ (.s (.s (.j ⟨[(53,.v .bool)],[],[1,5],[1000],1320,[]⟩ .z) .z) .z)))) (.s (.s .z (.b (.lx ⟨[(6,.v af)],[],[1],[1000],1384,[]⟩ 6 ⟨[],[],[1],[1000],1384,[]⟩ (.s (.s (.j ⟨[(72,.v .bool)],[],[1,6],[1000],1384,[]⟩ .z) .z) .z)))) .z)))))
theorem ahP:aH 13 (ahN n) :=cq (au (Ul n) (au (Um n) aB)) func13 ahO n
def aj7:bz xx:=⟨[.d (.st SI.jt),.d fB],[.d .bool],λa=>VE n a.1 a.2.1,none⟩
def aj8:Hn SI:=(.s .z (.s (.s .z (.b (.lx ⟨[(5,.v af)],[],[2,3],[1000,1064],1256,[]⟩ 0 ⟨[],[],[2,3],[1000,1064],1256,[]⟩ (.s (.s (.j ⟨[(16,.v .bool)],[],[2,3,5],[1000,1064],1256,[]⟩ .z) .z) .z)))) (.s (.s .z (.b (.lx ⟨[(6,.v af)],[],[2,3],[1000,1064],1320,[]⟩ 2 ⟨[],[],[2,3],[1000,1064],1320,[]⟩ (.s (.s (.j ⟨[(35,.v .bool)],[],[2,3,6],[1000,1064],1320,[]⟩ .z) .z) .z)))) (.s (.s .z (.b (.lx ⟨[(7,.v af)],[],[2,3],[1000,1064],1384,[]⟩ 4 ⟨[],[],[2,3],[1000,1064],1384,[]⟩ (.s (.s (.j ⟨[(54,.v .bool)],[],[2,3,7],[1000,1064],1384,[]⟩ .z) .z) (.s (.b (.s (.j ⟨[(74,.v .bool)],[],[2,3,7],[1000,1064],1384,[]⟩ .z) .z)) .z))))) .z))))
theorem aj9:aH 5 (aj7 n) :=cq (au (ahP n) aB) func5 aj8 n
def akb:bz xx:=⟨[.d (.sl .str),.d .str],[.d .bool],λa=>L9 n a.1 a.2.1,none⟩
def akc:Hn SI:=(.s .z (.s (.s .z (.b (.lx ⟨[(5,.v af)],[],[0,1],[],1128,[]⟩ 0 ⟨[],[],[],[],1128,[]⟩ .z))) .z))
theorem akd:aH 9 (akb n) :=cq aB func9 akc n
def SS:bz xx:=⟨[.d (.st SI.jt),.d fB,.d af,.d bf,.d (.st SI.ev)],[.d .bool],λa=>uU n a.1 a.2.1 a.2.2.1 a.2.2.2.1 a.2.2.2.2.1,none⟩
def SV:Hn SI:=(cg (.s (.s (.j ⟨[(35,.v .bool)],[],[2,5,6,8,9,11],[1000,1064,1128,1192],1448,[]⟩ .z) .z) (rb (.s (.s (.j ⟨[(75,.v .bool)],[],[2,5,6,8,11,12,13,14,15],[1000,1064,1128,1640,2088,2600,2984],3368,[]⟩ .z) .z) (.s (.s .z (.b (.lx ⟨[(17,.v af)],[],[2,5,6,8,11,12,13,14,15],[1000,1064,1128,1640,2088,2600,2984],3432,[]⟩ 0 ⟨[],[],[2,5,6,8,11,12,13,14,15],[1000,1064,1128,1640,2088,2600,2984],3432,[]⟩ .z))) (.s (.s .z (.b (.lx ⟨[(18,.v af)],[],[2,5,6,8,11,12,13,14,15],[1000,1064,1128,1640,2088,2600,2984],3496,[]⟩ 2 ⟨[],[],[2,5,6,8,11,13,14],[1000,1064,1128,2088,2600],3496,[]⟩ (.s .z (.s (.b (.s .z (.s (.s .z (.b (.l ⟨[(19,.v .bool),(20,.v af)],[],[2,5,6,8,11,12,13,14,15,18],[1000,1064,1128,1640,2088,2600,2984],3880,[]⟩ 4 ⟨[(19,.v .bool)],[],[2,5,6,8,11,12,13,14,15,18],[1000,1064,1128,1640,2088,2600,2984],3880,[]⟩ (.s .z (.s (.j ⟨[(19,.v .bool)],[],[2,5,6,8,11,12,13,14,15,18,20],[1000,1064,1128,1640,2088,2600,2984],4264,[]⟩ .z) .z))))) (.s (.j ⟨[(138,.v .bool)],[],[2,5,6,8,11,12,13,14,15,18],[1000,1064,1128,1640,2088,2600,2984],3880,[]⟩ .z) .z)))) .z))))) (FA (.s (.s (.j ⟨[(183,.v .bool)],[],[5,6,8,11,21,23],[1000,1064,1128,3944,5224],5608,[]⟩ .z) .z) .z))))))))
theorem SY:aH 3 (SS n) :=cq (au (afQ n) (au (aj9 n) (au (Um n) (au (za n) (au (Uk n) (au (akd n) (au (IV n) aB))))))) func3 SV n
end
end Go.Proofs
