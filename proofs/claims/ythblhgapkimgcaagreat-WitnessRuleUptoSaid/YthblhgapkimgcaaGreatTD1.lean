import Derived.Test.YthblhgapkimgcaaGreatTBase
open Go.IntKind (i64)
namespace Go.Proofs
open Go.Gb Go.RowKit
noncomputable section
variable (n:Nat)
def fC(a0:Int):Option bn:=
 ck (az (sub ([(cu.mk 1 0 (⟨#[104,101,105,103,104,116]⟩) (⟨#[]⟩) ([])),(cu.mk 0 a0 (⟨#[]⟩) (⟨#[]⟩) ([]))]:List cu) 0 2).length 2)<|ck (az (sub ([(bJ.mk (⟨#[97]⟩) ([]) ([]) 0 0 0 false 0 12 0 (⟨#[]⟩) (⟨#[]⟩) (sub ([(cu.mk 1 0 (⟨#[104,101,105,103,104,116]⟩) (⟨#[]⟩) ([])),(cu.mk 0 a0 (⟨#[]⟩) (⟨#[]⟩) ([]))]:List cu) 0 2) 0 0 0 0 0 0 0)]:List bJ) 0 1).length 1)<|some (bn.mk ([]) ([]) ([]) (sub ([(bJ.mk (⟨#[97]⟩) ([]) ([]) 0 0 0 false 0 12 0 (⟨#[]⟩) (⟨#[]⟩) (sub ([(cu.mk 1 0 (⟨#[104,101,105,103,104,116]⟩) (⟨#[]⟩) ([])),(cu.mk 0 a0 (⟨#[]⟩) (⟨#[]⟩) ([]))]:List cu) 0 2) 0 0 0 0 0 0 0)]:List bJ) 0 1) ([]) ([]) ([]) 0)
def nD(a0:ax):Option Bool:=
 (bif decide (0<=(a0.x0:Int))then(bif decide (a0.x0<(a0.x1:Int))then(bif decide (a0.x1<=1048576)then(bif decide (0<=(a0.y0:Int))then(bif decide (a0.y0<(a0.y1:Int))then some (decide (a0.y1<=1048576))else some false)else some false)else some false)else some false)else some false)
def Ns(a0:Unit)(a1:Int):Option (List ax):=
 (bif decide (a1<0)then none else(bif (decide ((i64.wrap (a1 -(i64.wrap (0 -0))))>0))then ck (zG (i64.wrap (a1 -(i64.wrap (0 -0)))) 32)<|ck (AX 0 0 ((i64.wrap (a1 -(i64.wrap (0 -0)))).toNat))<|ck (az (sub (List.replicate (i64.wrap (a1 -(i64.wrap (0 -0)))).toNat (ax.mk 0 0 0 0)) 0 0).length 0)<|some (sub (List.replicate (i64.wrap (a1 -(i64.wrap (0 -0)))).toNat (ax.mk 0 0 0 0)) 0 0)else some ([]:(List ax))))
def Nt(a0:List (List ax)):Stp (Int×Int) Int
 |(v1,v2)=>(bif decide (v2<(a0.length:Int))then(bo a0 v2).bind λx1=>(bif decide ((i64.wrap (v1+(x1.length:Int)))<0)then none else some (.inl ((i64.wrap (v1+(x1.length:Int))),(i64.wrap (v2+1)))))else some (.inr v1))
def Nu(a0:List (List ax)):Stp (Int×(List ax)) (List ax)
 |(v3,v4)=>(bif decide (v3<(a0.length:Int))then(bo a0 v3).bind λx2=>ck (bQ v4.length v4.length x2.length x2.length 32)<|iA (v4++x2) λr2=>ck (az r2.length r2.length)<|some (.inl ((i64.wrap (v3+1)),r2))else ck (az v4.length v4.length)<|some (.inr v4))
def yR(a0:List (List ax)):Option (List ax):=
 (iter (Nt a0) n ((0:Int),(0:Int))).bind λw1=>(Ns () w1).bind λr1=>ck (az r1.length r1.length)<|(iter (Nu a0) n ((0:Int),r1)).bind λw2=>ck (az (sub w2 0 w2.length).length w2.length)<|some (sub w2 0 w2.length)
def oV(_:Nat)(a0:List Int):Option (List Int):=Kx a0
def Nv(a0:List Int)(v1:Int):Stp (Int×Int×(List Int)) (Int×(List Int))
 |(v2,v3,v4)=>(bif (decide (v3<((((a0.length -(v1:Int).toNat):Nat):Int):Int)))then(ck (cC v3 (a0.length -(v1:Int).toNat))<|(bo v4 (((0+(v1:Int).toNat):Nat)+v3:Int)).bind λx3=>ck (cC (i64.wrap (v3 -1)) (a0.length -(v1:Int).toNat))<|(bo v4 (((0+(v1:Int).toNat):Nat)+(i64.wrap (v3 -1)):Int)).bind λx4=>(bif (x3 !=(x4:Int))then ck (cC v3 (a0.length -(v1:Int).toNat))<|(bo v4 (((0+(v1:Int).toNat):Nat)+v3:Int)).bind λx5=>ck (cC v2 a0.length)<|(bo v4 ((0:Nat)+v2:Int)).bind λx6=>some ((i64.wrap (v2+1)),(v4.set ((0:Nat)+v2:Int).toNat x5))else some (v2,v4)):Option (Int×(List Int))).bind λ(v5,v6)=>some (.inl (v5,(i64.wrap (v3+1)),v6))else some (.inr (v2,v4)))
def Nw(a0:List Int):Stp Int (Unit⊕(Unit×(List Int)))
 |v1=>(bif decide (v1<(a0.length:Int))then ck (cC v1 a0.length)<|(bo a0 ((0:Nat)+v1:Int)).bind λx1=>ck (cC (i64.wrap (v1 -1)) a0.length)<|(bo a0 ((0:Nat)+(i64.wrap (v1 -1)):Int)).bind λx2=>(bif (x1==(x2:Int))then ck (AX v1 (a0.length:Int) a0.length)<|(iter (Nv a0 v1) n (v1,(1:Int),a0)).bind λ(w1,w2)=>ck (AX w1 (a0.length:Int) a0.length)<|ck (AX 0 w1 a0.length)<|(ck (az ((w1:Int).toNat) ((w1:Int).toNat))<|ck (az (sub (w2.take (0+(w1:Int).toNat)) 0 ((w1:Int).toNat)).length ((w1:Int).toNat))<|some ((),(sub (w2.take (0+(w1:Int).toNat)) 0 ((w1:Int).toNat)))).map λa=> .inr (.inr a)else some (.inl (i64.wrap (v1+1))))else some (.inr (.inl ())))
def oW(a0:List Int):Option (Unit×(List Int)):=
 (bif decide ((a0.length:Int)<2)then ck (az a0.length a0.length)<|ck (az (sub a0 0 a0.length).length a0.length)<|some ((),(sub a0 0 a0.length))else dw (iter (Nw n a0) n (1:Int)) λ()=>ck (az a0.length a0.length)<|ck (az (sub a0 0 a0.length).length a0.length)<|some ((),(sub a0 0 a0.length)))
def uZ(_:Nat)(a0:List aO)(a1:(aO×aO×Unit)->Option Int):Option (List aO):=F1 a0 a1
def cmp_isNaN_int(a0:Int):Option Bool:=
 some (a0 !=(a0:Int))
def cmp_Compare_int(a0:Int)(a1:Int):Option Int:=
 (cmp_isNaN_int a0).bind λr1=>(cmp_isNaN_int a1).bind λr2=>(bif r1 then(bif r2 then some (0:Int)else some ((-1):Int))else(bif r2 then some (1:Int)else(bif decide (a0<(a1:Int))then some ((-1):Int)else(bif decide (a0>(a1:Int))then some (1:Int)else some (0:Int)))))
def xL(a0:aO)(a1:aO):Option Int:=
 (cmp_Compare_int a0.from_ a1.from_).bind λr1=>some r1
def tF(a0:List ax)(a1:Int):Stp (Int×(List aO)) (List aO)
 |(v1,v2)=>(bif decide (v1<(a0.length:Int))then((bo a0 v1).bind λx1=>((bif decide (x1.x0<=(a1:Int))then some (decide (a1<(x1.x1:Int)))else some false)).bind λv3=>(bif v3 then ck (bQ v2.length v2.length (sub ([(aO.mk x1.y0 x1.y1)]:List aO) 0 1).length 1 16)<|iA (v2++(sub ([(aO.mk x1.y0 x1.y1)]:List aO) 0 1)) λr1=>ck (az r1.length r1.length)<|some r1 else ck (az v2.length v2.length)<|some v2):Option ((List aO))).bind λv4=>ck (az v4.length v4.length)<|some (.inl ((i64.wrap (v1+1)),v4))else ck (az v2.length v2.length)<|some (.inr v2))
def tH(w1:List aO)(r2:List aO):Stp (Int×(List aO)) (List aO)
 |(v5,v6)=>(bif decide (v5<(w1.length:Int))then(ck (cC v5 w1.length)<|(bo r2 ((0:Nat)+v5:Int)).bind λx2=>((bif decide ((v6.length:Int)>0)then ck (cC (i64.wrap ((v6.length:Int) -1)) v6.length)<|(bo v6 ((0:Nat)+(i64.wrap ((v6.length:Int) -1)):Int)).bind λx3=>some (decide (x2.from_<=(x3.to:Int)))else some false)).bind λv7=>(bif v7 then ck (cC (i64.wrap ((v6.length:Int) -1)) v6.length)<|(bo v6 ((0:Nat)+(i64.wrap ((v6.length:Int) -1)):Int)).bind λx4=>ck (cC (i64.wrap ((v6.length:Int) -1)) v6.length)<|(bo v6 ((0:Nat)+(i64.wrap ((v6.length:Int) -1)):Int)).bind λx5=>ck (az v6.length (v6.set ((0:Nat)+(i64.wrap ((v6.length:Int) -1)):Int).toNat (aO.mk x5.from_ (max x4.to x2.to))).length)<|some (v6.set ((0:Nat)+(i64.wrap ((v6.length:Int) -1)):Int).toNat (aO.mk x5.from_ (max x4.to x2.to)))else ck (bQ v6.length v6.length (sub ([x2]:List aO) 0 1).length 1 16)<|iA (v6++(sub ([x2]:List aO) 0 1)) λr3=>ck (az r3.length r3.length)<|some r3):Option ((List aO))).bind λv8=>ck (az v8.length v8.length)<|some (.inl ((i64.wrap (v5+1)),v8))else ck (az v6.length v6.length)<|some (.inr v6))
def JC(a0:List ax)(a1:Int):Option (List aO):=
 ck (az 0 ([]:List aO).length)<|(iter (tF a0 a1) n ((0:Int),([]:List aO))).bind λw1=>ck (az w1.length w1.length)<|(uZ n w1 (λ (y1:aO×aO×Unit)=>xL y1.1 y1.2.1)).bind λr2=>ck (az 0 ([]:List aO).length)<|(iter (tH w1 r2) n ((0:Int),([]:List aO))).bind λw2=>ck (az (sub w2 0 w2.length).length w2.length)<|some (sub w2 0 w2.length)
def tJ(r1:List ax):Stp (Int×(List Int)) (List Int)
 |(v1,v2)=>(bif decide (v1<(r1.length:Int))then ck (cC v1 r1.length)<|(bo r1 ((0:Nat)+v1:Int)).bind λx1=>ck (bQ v2.length v2.length (sub ([x1.x0,x1.x1]:List Int) 0 2).length 2 8)<|iA (v2++(sub ([x1.x0,x1.x1]:List Int) 0 2)) λr2=>ck (az r2.length r2.length)<|some (.inl ((i64.wrap (v1+1)),r2))else ck (az v2.length v2.length)<|some (.inr v2))
def tK(r1:List ax)(r4:Unit×(List Int)):Stp (Int×(List bW)) (List bW)
 |(v3,v4)=>(bif decide (v3<(r4.2.length:Int))then ck (cC (i64.wrap (v3 -1)) r4.2.length)<|(bo r4.2 ((0:Nat)+(i64.wrap (v3 -1)):Int)).bind λx2=>ck (cC v3 r4.2.length)<|(bo r4.2 ((0:Nat)+v3:Int)).bind λx3=>ck (cC (i64.wrap (v3 -1)) r4.2.length)<|(bo r4.2 ((0:Nat)+(i64.wrap (v3 -1)):Int)).bind λx4=>ck (az (sub r1 0 r1.length).length r1.length)<|(JC n (sub r1 0 r1.length) x4).bind λr5=>ck (az (sub r5 0 r5.length).length r5.length)<|ck (bQ v4.length v4.length (sub ([(bW.mk x2 x3 (sub r5 0 r5.length))]:List bW) 0 1).length 1 40)<|iA (v4++(sub ([(bW.mk x2 x3 (sub r5 0 r5.length))]:List bW) 0 1)) λr6=>ck (az r6.length r6.length)<|some (.inl ((i64.wrap (v3+1)),r6))else ck (az v4.length v4.length)<|some (.inr v4))
def oq(a0:List (List ax)):Option (List bW):=
 (yR n a0).bind λr1=>ck (az 0 ([]:List Int).length)<|(iter (tJ r1) n ((0:Int),([]:List Int))).bind λw1=>ck (az w1.length w1.length)<|(oV n w1).bind λr3=>ck (az w1.length r3.length)<|(oW n r3).bind λr4=>ck (az 0 ([]:List bW).length)<|(iter (tK n r1 r4) n ((1:Int),([]:List bW))).bind λw2=>ck (az (sub w2 0 w2.length).length w2.length)<|some (sub w2 0 w2.length)
def P8(a0:List aO)(a1:List aO):Stp Int (Unit⊕Bool)
 |v1=>(bif decide (v1<(a0.length:Int))then(bo a0 v1).bind λx1=>(bo a1 v1).bind λx2=>(bif (!((x1.from_==(x2.from_:Int))&&((x1.to==(x2.to:Int))&&true)))then(some false).map λa=> .inr (.inr a)else some (.inl (i64.wrap (v1+1))))else some (.inr (.inl ())))
def vG(a0:List aO)(a1:List aO):Option Bool:=
 (bif ((a0.length:Int) !=(a1.length:Int))then some false else dw (iter (P8 a0 a1) n (0:Int)) λ()=>some true)
def sF(a0:List bW)(v1:Int):Stp Int Int
 |v3=>((bif decide (v3<(a0.length:Int))then(bo a0 v3).bind λx1=>(bo a0 v1).bind λx2=>(vG n x1.column x2.column).bind λr1=>some r1 else some false)).bind λv4=>(bif v4 then some (.inl (i64.wrap (v3+1)))else some (.inr v3))
def wD(a0:List bW)(v1:Int)(w1:Int)(x3:bW):Stp (Int×(List ax)) (List ax)
 |(v5,v6)=>(bif decide (v5<(x3.column.length:Int))then(bo x3.column v5).bind λx4=>(bo a0 v1).bind λx5=>(bo a0 (i64.wrap (w1 -1))).bind λx6=>ck (bQ v6.length v6.length (sub ([(ax.mk x5.x0 x4.from_ x6.x1 x4.to)]:List ax) 0 1).length 1 32)<|iA (v6++(sub ([(ax.mk x5.x0 x4.from_ x6.x1 x4.to)]:List ax) 0 1)) λr2=>ck (az r2.length r2.length)<|some (.inl ((i64.wrap (v5+1)),r2))else ck (az v6.length v6.length)<|some (.inr v6))
def wE(a0:List bW):Stp (Int×(List ax)) (List ax)
 |(v1,v2)=>(bif decide (v1<(a0.length:Int))then(iter (sF n a0 v1) n (i64.wrap (v1+1))).bind λw1=>(bo a0 v1).bind λx3=>ck (az v2.length v2.length)<|(iter (wD a0 v1 w1 x3) n ((0:Int),v2)).bind λw2=>ck (az w2.length w2.length)<|some (.inl (w1,w2))else ck (az v2.length v2.length)<|some (.inr v2))
def H9(a0:List bW):Option (List ax):=
 ck (az 0 ([]:List ax).length)<|(iter (wE n a0) n ((0:Int),([]:List ax))).bind λw3=>ck (az (sub w3 0 w3.length).length w3.length)<|some (sub w3 0 w3.length)
def yS(a0:List ax):Option ((List ax)×Int):=
 (bif decide ((a0.length:Int)>200)then some (([]:(List ax)),(6:Int))else some (a0,(0:Int)))
def Ny(a0:List ax):Stp Int (Unit⊕((List ax)×Int))
 |v1=>(bif decide (v1<(a0.length:Int))then(bo a0 v1).bind λx1=>(nD x1).bind λr1=>(bif (!r1)then(some (([]:(List ax)),(1:Int))).map λa=> .inr (.inr a)else some (.inl (i64.wrap (v1+1))))else some (.inr (.inl ())))
def M1(a0:List ax):Option ((List ax)×Int):=
 dw (iter (Ny a0) n (0:Int)) λ()=>(bif decide ((a0.length:Int)>400)then some (([]:(List ax)),(6:Int))else ck (az (sub ([a0]:List (List ax)) 0 1).length 1)<|(oq n (sub ([a0]:List (List ax)) 0 1)).bind λr2=>ck (az (sub r2 0 r2.length).length r2.length)<|(H9 n (sub r2 0 r2.length)).bind λr3=>ck (az (sub r3 0 r3.length).length r3.length)<|(yS (sub r3 0 r3.length)).bind λr4=>some (r4.1,r4.2))
def P9(a0:List ax)(a1:List ax):Stp Int (Unit⊕Bool)
 |v1=>(bif decide (v1<(a0.length:Int))then(bo a0 v1).bind λx1=>(bo a1 v1).bind λx2=>(bif (!((x1.x0==(x2.x0:Int))&&((x1.y0==(x2.y0:Int))&&((x1.x1==(x2.x1:Int))&&((x1.y1==(x2.y1:Int))&&true)))))then(some false).map λa=> .inr (.inr a)else some (.inl (i64.wrap (v1+1))))else some (.inr (.inl ())))
def ow(a0:List ax)(a1:List ax):Option Bool:=
 (bif ((a0.length:Int) !=(a1.length:Int))then some false else dw (iter (P9 a0 a1) n (0:Int)) λ()=>some true)
def nU(a0:List ax):Option Bool:=
 (M1 n a0).bind λr1=>(bif (r1.2==0)then(ow n r1.1 a0).bind λr2=>some r2 else some false)
def Ad(a0:List ax):Stp (Bool×Int×Int×Int×Int×Int) (Bool×Int×Int×Int×Int)
 |(v1,v2,v3,v4,v5,v6)=>(bif decide (v2<(a0.length:Int))then((bo a0 v2).bind λx1=>(nD x1).bind λr1=>(bif (!r1)then some (v1,v3,v4,v5,v6)else(bif (!v1)then some (true,x1.x0,x1.y0,x1.x1,x1.y1)else some (v1,(min v3 x1.x0),(min v4 x1.y0),(max v5 x1.x1),(max v6 x1.y1)))):Option (Bool×Int×Int×Int×Int)).bind λ(v7,v8,v9,v10,v11)=>some (.inl (v7,(i64.wrap (v2+1)),v8,v9,v10,v11))else some (.inr (v1,v3,v4,v5,v6)))
def Nz(a0:List ax):Option (ax×Bool):=
 (iter (Ad a0) n (false,(0:Int),(0:Int),(0:Int),(0:Int),(0:Int))).bind λ(w1,w2,w3,w4,w5)=>some ((ax.mk w2 w3 w4 w5),w1)
def CG(a0:List ax):Option (ax×Bool):=
 ((bif ((a0.length:Int)==0)then some true else(nU n a0).bind λr1=>some (!r1))).bind λv1=>(bif v1 then some ((ax.mk 0 0 0 0),false)else(Nz n a0).bind λr2=>some (r2.1,r2.2))
def sG(a0:ax):Option (ax×Bool):=
 (nD a0).bind λr1=>(bif r1 then some (a0,true)else some ((ax.mk 0 0 0 0),false))
def NA(a0:ax)(a1:Int):Option (ax×Bool):=
 ((nD a0).bind λr1=>(bif (!r1)then some true else some (decide (a1<0)))).bind λv1=>(bif v1 then some ((ax.mk 0 0 0 0),false)else(sG (ax.mk (i64.wrap (a0.x0+(min a1 (1048576:Int)))) (i64.wrap (a0.y0+(min a1 (1048576:Int)))) (i64.wrap (a0.x1 -(min a1 (1048576:Int)))) (i64.wrap (a0.y1 -(min a1 (1048576:Int)))))).bind λr2=>some (r2.1,r2.2))
def lD(a0:List bW)(a1:Int)(a2:(bW×Int×Unit)->Option Int):Stp (Int×Int) Int
 |(v1,v2)=>(bif decide (v1<(v2:Int))then ck (decide (0<=1)&&decide (1<=IntKind.u64.bits))<|(bo a0 (i64.wrap ((IntKind.u64.wrap (i64.wrap (v1+v2)))/2 ^ (1:Int).toNat))).bind λx1=>(a2 (x1,a1,())).bind λr1=>(bif decide (r1<0)then some (.inl ((i64.wrap ((i64.wrap ((IntKind.u64.wrap (i64.wrap (v1+v2)))/2 ^ (1:Int).toNat))+1)),v2))else some (.inl (v1,(i64.wrap ((IntKind.u64.wrap (i64.wrap (v1+v2)))/2 ^ (1:Int).toNat)))))else some (.inr v1))
def ja(a0:List bW)(a1:Int)(a2:(bW×Int×Unit)->Option Int):Option (Int×Bool):=
 (iter (lD a0 a1 a2) n ((0:Int),(a0.length:Int))).bind λw1=>(bif decide (w1<(a0.length:Int))then(bo a0 w1).bind λx2=>(a2 (x2,a1,())).bind λr2=>some (w1,(r2==0))else some (w1,false))
def wF(a0:bW)(a1:Int):Option Int:=
 (bif decide (a0.x1<=(a1:Int))then some ((-1):Int)else some (1:Int))
def WR(a0:List bW)(a1:Int):Option (List aO):=
 (ja n a0 a1 (λ (y1:bW×Int×Unit)=>wF y1.1 y1.2.1)).bind λr1=>((bif decide (r1.1<(a0.length:Int))then(bo a0 r1.1).bind λx1=>some (decide (x1.x0<=(a1:Int)))else some false)).bind λv1=>(bif v1 then(bo a0 r1.1).bind λx2=>some x2.column else some ([]:(List aO)))
def NC(a0:Unit)(a1:Int):Option (List aO):=
 (bif decide (a1<0)then none else(bif (decide ((i64.wrap (a1 -(i64.wrap (0 -0))))>0))then ck (zG (i64.wrap (a1 -(i64.wrap (0 -0)))) 16)<|ck (AX 0 0 ((i64.wrap (a1 -(i64.wrap (0 -0)))).toNat))<|ck (az (sub (List.replicate (i64.wrap (a1 -(i64.wrap (0 -0)))).toNat (aO.mk 0 0)) 0 0).length 0)<|some (sub (List.replicate (i64.wrap (a1 -(i64.wrap (0 -0)))).toNat (aO.mk 0 0)) 0 0)else some ([]:(List aO))))
def ND(a0:List (List aO)):Stp (Int×Int) Int
 |(v1,v2)=>(bif decide (v2<(a0.length:Int))then(bo a0 v2).bind λx1=>(bif decide ((i64.wrap (v1+(x1.length:Int)))<0)then none else some (.inl ((i64.wrap (v1+(x1.length:Int))),(i64.wrap (v2+1)))))else some (.inr v1))
def NE(a0:List (List aO)):Stp (Int×(List aO)) (List aO)
 |(v3,v4)=>(bif decide (v3<(a0.length:Int))then(bo a0 v3).bind λx2=>ck (bQ v4.length v4.length x2.length x2.length 16)<|iA (v4++x2) λr2=>ck (az r2.length r2.length)<|some (.inl ((i64.wrap (v3+1)),r2))else ck (az v4.length v4.length)<|some (.inr v4))
def yT(a0:List (List aO)):Option (List aO):=
 (iter (ND a0) n ((0:Int),(0:Int))).bind λw1=>(NC () w1).bind λr1=>ck (az r1.length r1.length)<|(iter (NE a0) n ((0:Int),r1)).bind λw2=>ck (az (sub w2 0 w2.length).length w2.length)<|some (sub w2 0 w2.length)
def mE(a0:List aO)(a1:Int)(a2:(aO×Int×Unit)->Option Int):Stp (Int×Int) Int
 |(v1,v2)=>(bif decide (v1<(v2:Int))then ck (decide (0<=1)&&decide (1<=IntKind.u64.bits))<|(bo a0 (i64.wrap ((IntKind.u64.wrap (i64.wrap (v1+v2)))/2 ^ (1:Int).toNat))).bind λx1=>(a2 (x1,a1,())).bind λr1=>(bif decide (r1<0)then some (.inl ((i64.wrap ((i64.wrap ((IntKind.u64.wrap (i64.wrap (v1+v2)))/2 ^ (1:Int).toNat))+1)),v2))else some (.inl (v1,(i64.wrap ((IntKind.u64.wrap (i64.wrap (v1+v2)))/2 ^ (1:Int).toNat)))))else some (.inr v1))
def jr(a0:List aO)(a1:Int)(a2:(aO×Int×Unit)->Option Int):Option (Int×Bool):=
 (iter (mE a0 a1 a2) n ((0:Int),(a0.length:Int))).bind λw1=>(bif decide (w1<(a0.length:Int))then(bo a0 w1).bind λx2=>(a2 (x2,a1,())).bind λr2=>some (w1,(r2==0))else some (w1,false))
def lF(a0:aO)(a1:Int):Option Int:=
 (bif decide (a0.to<=(a1:Int))then some ((-1):Int)else some (1:Int))
def CJ(a0:List aO)(a1:Int):Option Bool:=
 (jr n a0 a1 (λ (y1:aO×Int×Unit)=>lF y1.1 y1.2.1)).bind λr1=>(bif decide (r1.1<(a0.length:Int))then(bo a0 r1.1).bind λx1=>some (decide (x1.from_<=(a1:Int)))else some false)
def wG(r1:List aO):Stp (Int×(List Int)) (List Int)
 |(v1,v2)=>(bif decide (v1<(r1.length:Int))then ck (cC v1 r1.length)<|(bo r1 ((0:Nat)+v1:Int)).bind λx1=>ck (bQ v2.length v2.length (sub ([x1.from_,x1.to]:List Int) 0 2).length 2 8)<|iA (v2++(sub ([x1.from_,x1.to]:List Int) 0 2)) λr2=>ck (az r2.length r2.length)<|some (.inl ((i64.wrap (v1+1)),r2))else ck (az v2.length v2.length)<|some (.inr v2))
def wH(a0:List aO)(a1:List aO)(a2:(Bool×Bool×Unit)->Option Bool)(r4:Unit×(List Int)):Stp (Int×(List aO)) (List aO)
 |(v3,v4)=>(bif decide (v3<(r4.2.length:Int))then(ck (cC (i64.wrap (v3 -1)) r4.2.length)<|(bo r4.2 ((0:Nat)+(i64.wrap (v3 -1)):Int)).bind λx2=>(CJ n a0 x2).bind λr5=>(CJ n a1 x2).bind λr6=>(a2 (r5,r6,())).bind λr7=>(bif (!r7)then ck (az v4.length v4.length)<|some v4 else((bif decide ((v4.length:Int)>0)then ck (cC (i64.wrap ((v4.length:Int) -1)) v4.length)<|(bo v4 ((0:Nat)+(i64.wrap ((v4.length:Int) -1)):Int)).bind λx3=>some (x3.to==(x2:Int))else some false)).bind λv5=>(bif v5 then ck (cC v3 r4.2.length)<|(bo r4.2 ((0:Nat)+v3:Int)).bind λx4=>ck (cC (i64.wrap ((v4.length:Int) -1)) v4.length)<|(bo v4 ((0:Nat)+(i64.wrap ((v4.length:Int) -1)):Int)).bind λx5=>ck (az v4.length (v4.set ((0:Nat)+(i64.wrap ((v4.length:Int) -1)):Int).toNat (aO.mk x5.from_ x4)).length)<|some (v4.set ((0:Nat)+(i64.wrap ((v4.length:Int) -1)):Int).toNat (aO.mk x5.from_ x4))else ck (cC v3 r4.2.length)<|(bo r4.2 ((0:Nat)+v3:Int)).bind λx6=>ck (bQ v4.length v4.length (sub ([(aO.mk x2 x6)]:List aO) 0 1).length 1 16)<|iA (v4++(sub ([(aO.mk x2 x6)]:List aO) 0 1)) λr8=>ck (az r8.length r8.length)<|some r8)):Option ((List aO))).bind λv6=>ck (az v6.length v6.length)<|some (.inl ((i64.wrap (v3+1)),v6))else ck (az v4.length v4.length)<|some (.inr v4))
def Ia(a0:List aO)(a1:List aO)(a2:(Bool×Bool×Unit)->Option Bool):Option (List aO):=
 ck (az (sub ([a0,a1]:List (List aO)) 0 2).length 2)<|(yT n (sub ([a0,a1]:List (List aO)) 0 2)).bind λr1=>ck (az 0 ([]:List Int).length)<|(iter (wG r1) n ((0:Int),([]:List Int))).bind λw1=>ck (az w1.length w1.length)<|(oV n w1).bind λr3=>ck (az w1.length r3.length)<|(oW n r3).bind λr4=>ck (az 0 ([]:List aO).length)<|(iter (wH n a0 a1 a2 r4) n ((1:Int),([]:List aO))).bind λw2=>ck (az (sub w2 0 w2.length).length w2.length)<|some (sub w2 0 w2.length)
def qC(a2:(Bool×Bool×Unit)->Option Bool)(r3:List bW)(r4:List bW)(r5:List bW):Stp (Int×(List bW)) (List bW)
 |(v2,v3)=>(bif decide (v2<(r5.length:Int))then ck (cC v2 r5.length)<|(bo v3 ((0:Nat)+v2:Int)).bind λx1=>(WR n (sub r3 0 r3.length) x1.x0).bind λr6=>(WR n (sub r4 0 r4.length) x1.x0).bind λr7=>(Ia n r6 r7 a2).bind λr8=>ck (cC v2 r5.length)<|ck (az (sub r8 0 r8.length).length r8.length)<|(bo v3 ((0:Nat)+v2:Int)).bind λx2=>some (.inl ((i64.wrap (v2+1)),(v3.set ((0:Nat)+v2:Int).toNat (bW.mk x2.x0 x2.x1 (sub r8 0 r8.length)))))else some (.inr v3))
def Ej(a0:List ax)(a1:List ax)(a2:(Bool×Bool×Unit)->Option Bool):Option ((List ax)×Int):=
 ((nU n a0).bind λr1=>(bif (!r1)then some true else(nU n a1).bind λr2=>some (!r2))).bind λv1=>(bif v1 then some (([]:(List ax)),(1:Int))else ck (az (sub ([a0]:List (List ax)) 0 1).length 1)<|(oq n (sub ([a0]:List (List ax)) 0 1)).bind λr3=>ck (az (sub ([a1]:List (List ax)) 0 1).length 1)<|(oq n (sub ([a1]:List (List ax)) 0 1)).bind λr4=>ck (az (sub r3 0 r3.length).length r3.length)<|ck (az (sub r4 0 r4.length).length r4.length)<|ck (az (sub ([a0,a1]:List (List ax)) 0 2).length 2)<|(oq n (sub ([a0,a1]:List (List ax)) 0 2)).bind λr5=>(iter (qC n a2 r3 r4 r5) n ((0:Int),r5)).bind λw1=>ck (az (sub w1 0 r5.length).length r5.length)<|(H9 n (sub w1 0 r5.length)).bind λr9=>ck (az (sub r9 0 r9.length).length r9.length)<|(yS (sub r9 0 r9.length)).bind λvx=>some (vx.1,vx.2))
def xM(a0:Bool)(a1:Bool):Option Bool:=
 (bif a0 then some a1 else some false)
def CK(a0:List ax)(a1:List ax):Option ((List ax)×Int):=
 (Ej n a0 a1 (λ (y1:Bool×Bool×Unit)=>xM y1.1 y1.2.1)).bind λr1=>some (r1.1,r1.2)
def oZ(a0:ax):Option Int:=
 (sG a0).bind λr1=>some (i64.wrap ((i64.wrap (r1.1.x1 -r1.1.x0))*(i64.wrap (r1.1.y1 -r1.1.y0))))
def El(a0:List ax):Stp (Int×Int) Int
 |(v1,v2)=>(bif decide (v2<(a0.length:Int))then(bo a0 v2).bind λx1=>(oZ x1).bind λr2=>some (.inl ((i64.wrap (v1+r2)),(i64.wrap (v2+1))))else some (.inr v1))
def JD(a0:List ax):Option Int:=
 (nU n a0).bind λr1=>(bif (!r1)then some (0:Int)else(iter (El a0) n ((0:Int),(0:Int))).bind λw1=>some w1)
def nE(a0:bU)(a1:Int):Option (ax×Bool):=
 (CG n a0.area).bind λr1=>((bif (!r1.2)then some true else(bif decide (a1<0)then some true else some (decide (a1>20))))).bind λv1=>(bif v1 then some ((ax.mk 0 0 0 0),false)else(NA r1.1 a1).bind λr2=>(bif (!r2.2)then some ((ax.mk 0 0 0 0),false)else ck (az (sub ([r2.1]:List ax) 0 1).length 1)<|(CK n a0.area (sub ([r2.1]:List ax) 0 1)).bind λr3=>(bif (r3.2==0)then(JD n r3.1).bind λr4=>(oZ r2.1).bind λr5=>some (r2.1,(r4==(r5:Int)))else some (r2.1,false))))
def vH(a0:List Int):Stp Int (Unit⊕Int)
 |v1=>(bif decide (v1<(a0.length:Int))then(bo a0 v1).bind λx1=>(bif (x1 !=0)then(some x1).map λa=> .inr (.inr a)else some (.inl (i64.wrap (v1+1))))else some (.inr (.inl ())))
def rM(a0:List Int):Option Int:=
 dw (iter (vH a0) n (0:Int)) λ()=>some (0:Int)
def vy:tA xx SI.j7 SI.en:=⟨(λ x=>x.lot),(λ x=>x.use),(λ x=>x.floors),(λ x=>x.fL),(λ x=>x.a0),(λ x=>x.a1),λ_=>rfl,λ_=>rfl⟩
def aic(a0:List aT)(a1:List (lC×Int)):Option ((List aT)×(List (lC×Int))):=@mC xx SI.j7 SI.en (inferInstance:Inhabited aT) vy a0 a1
def lG(x1:bU)(v6:Int):Stp (Int×(List aT)) (List aT)
 |(v9,v10)=>(bif decide (v9<72)then ck (6 !=0)<|ck (6 !=0)<|ck (bQ v10.length v10.length (sub ([(aT.mk x1.id (Int.tmod v9 6) (i64.wrap ((i64.wrap (Int.tdiv v9 6))+1)) v6)]:List aT) 0 1).length 1 32)<|iA (v10++(sub ([(aT.mk x1.id (Int.tmod v9 6) (i64.wrap ((i64.wrap (Int.tdiv v9 6))+1)) v6)]:List aT) 0 1)) λr3=>ck (az r3.length r3.length)<|some (.inl ((i64.wrap (v9+1)),r3))else ck (az v10.length v10.length)<|some (.inr v10))
def lH(x1:bU):Stp (Int×(List (lC×Int))×(List aT)) ((List (lC×Int))×(List aT))
 |(v6,v7,v8)=>(bif decide (v6<21)then((nE n x1 v6).bind λr1=>(bif (!r1.2)then ck (az v8.length v8.length)<|some (v7,v8)else(oZ r1.1).bind λr2=>ck (az v8.length v8.length)<|(iter (lG x1 v6) n ((0:Int),v8)).bind λw1=>ck (az w1.length w1.length)<|some ((rG (G9 (X:=xx) SI.en) (lC.mk x1.id v6) r2 v7),w1)):Option ((List (lC×Int))×(List aT))).bind λ(v11,v12)=>ck (az v12.length v12.length)<|some (.inl ((i64.wrap (v6+1)),v11,v12))else ck (az v8.length v8.length)<|some (.inr (v7,v8)))
def lI(a0:List bU):Stp (Int×(List (lC×Int))×(List (Int×Bool))×(List aT)) ((List (lC×Int))×(List aT))
 |(v1,v2,v3,v4)=>(bif decide (v1<(a0.length:Int))then((bo a0 v1).bind λx1=>((bif ((fO js x1.id v3).getD false)then some true else(bif decide (x1.id<0)then some true else some (decide (x1.id>1073741824))))).bind λv5=>(bif v5 then ck (az v4.length v4.length)<|some (v2,v3,v4)else ck (az v4.length v4.length)<|(iter (lH n x1) n ((0:Int),v2,v4)).bind λ(w2,w3)=>ck (az w3.length w3.length)<|some (w2,(rG js x1.id true v3),w3)):Option ((List (lC×Int))×(List (Int×Bool))×(List aT))).bind λ(v13,v14,v15)=>ck (az v15.length v15.length)<|some (.inl ((i64.wrap (v1+1)),v13,v14,v15))else ck (az v4.length v4.length)<|some (.inr (v2,v4)))
def tL(a0:List bU):Option (List aT):=
 ck (az 0 ([]:List aT).length)<|(iter (lI n a0) n ((0:Int),([]:(List (lC×Int))),([]:(List (Int×Bool))),([]:List aT))).bind λ(w4,w5)=>ck (az w5.length w5.length)<|(aic w5 w4).bind λr4=>ck (az (sub r4.1 0 w5.length).length w5.length)<|some (sub r4.1 0 w5.length)
def qW(a0:bU)(a1:aT):Option Bool:=
 some (a0.id==(a1.lot:Int))
def JV(a0:List bU)(a1:(bU×Unit)->Option Bool):Stp Int (Unit⊕Int)
 |v1=>(bif decide (v1<(a0.length:Int))then(bo a0 v1).bind λx1=>(a1 (x1,())).bind λr1=>(bif r1 then(some v1).map λa=> .inr (.inr a)else some (.inl (i64.wrap (v1+1))))else some (.inr (.inl ())))
def u6(a0:List bU)(a1:(bU×Unit)->Option Bool):Option Int:=
 dw (iter (JV a0 a1) n (0:Int)) λ()=>some ((-1):Int)
def qD(a0:bU)(a1:aT):Option (bq×Bool):=
 (nE n a0 a1.fL).bind λr1=>((bif (!r1.2)then some true else(bif (a1.lot !=(a0.id:Int))then some true else(bif decide (a1.lot<0)then some true else(bif decide (a1.lot>1073741824)then some true else(bif decide (a1.use<0)then some true else(bif decide (a1.use>=6)then some true else(bif decide (a1.floors<1)then some true else some (decide (a1.floors>12)))))))))).bind λv1=>(bif v1 then some ((bq.mk 0 ([])),false)else((bif (a1.use==0)then some (r1.1.x0,r1.1.y0,r1.1.x1,r1.1.y1,(0:Int),(i64.wrap (a1.floors*3)),a1.use,a1.floors,false)else some (r1.1.x0,r1.1.y0,r1.1.x1,r1.1.y1,(0:Int),(i64.wrap (a1.floors*3)),a1.use,(0:Int),false)):Option (Int×Int×Int×Int×Int×Int×Int×Int×Bool)).bind λ(v2,v3,v4,v5,v6,v7,v8,v9,v10)=>ck (az (sub ([(aH.mk v2 v3 v4 v5 v6 v7 v8 v9 v10)]:List aH) 0 1).length 1)<|ck (az (sub ([(rJ.mk (sub ([(aH.mk v2 v3 v4 v5 v6 v7 v8 v9 v10)]:List aH) 0 1) ([]))]:List rJ) 0 1).length 1)<|some ((bq.mk a1.lot (sub ([(rJ.mk (sub ([(aH.mk v2 v3 v4 v5 v6 v7 v8 v9 v10)]:List aH) 0 1) ([]))]:List rJ) 0 1)),true))
def tN(a0:bT)(a1:aT):Option (bq×Bool):=
 (u6 n a0.land (λ (y1:bU×Unit)=>qW y1.1 a1)).bind λr1=>(bif decide (r1<0)then some ((bq.mk 0 ([])),false)else(bo a0.land r1).bind λx1=>(qD n x1 a1).bind λr2=>some (r2.1,r2.2))
def pO(a0:bT)(r1:List aT):Stp (Int×(List sD)) (List sD)
 |(v1,v2)=>(bif decide (v1<(r1.length:Int))then(ck (cC v1 r1.length)<|(bo r1 ((0:Nat)+v1:Int)).bind λx1=>(tN n a0 x1).bind λr2=>(bif r2.2 then ck (bQ v2.length v2.length (sub ([(sD.mk x1.lot x1.use x1.floors x1.fL r2.1.lot r2.1.phases)]:List sD) 0 1).length 1 64)<|iA (v2++(sub ([(sD.mk x1.lot x1.use x1.floors x1.fL r2.1.lot r2.1.phases)]:List sD) 0 1)) λr3=>ck (az r3.length r3.length)<|some r3 else ck (az v2.length v2.length)<|some v2):Option ((List sD))).bind λv3=>ck (az v3.length v3.length)<|some (.inl ((i64.wrap (v1+1)),v3))else ck (az v2.length v2.length)<|some (.inr v2))
def qE(a0:bT):Option (List sD):=
 (tL n a0.land).bind λr1=>ck (az 0 ([]:List sD).length)<|(iter (pO n a0 r1) n ((0:Int),([]:List sD))).bind λw1=>ck (az (sub w1 0 w1.length).length w1.length)<|some (sub w1 0 w1.length)
def witness_under(a0:bT)(a1:bn):Option bT:=
 some (bT.mk a1.defs a1.tables a1.zones a1.rules a1.caps a1.views a1.ml a1.hours a0.land a0.bx a0.windows a0.built a0.base)
def A9(a0:List ax):Option (List ax):=
 (bif a0.isEmpty then(both (some ([]:(List ax))) (ck (bQ ([]:List ax).length 0 a0.length a0.length 32)<|iA (([]:List ax)++a0) λr1=>ck (az (sub r1 0 r1.length).length r1.length)<|some (sub r1 0 r1.length)))else ck (bQ ([]:List ax).length 0 a0.length a0.length 32)<|iA (([]:List ax)++a0) λr2=>ck (az (sub r2 0 r2.length).length r2.length)<|some (sub r2 0 r2.length))
def Em(a0:List Int):Option (List Int):=
 (bif a0.isEmpty then(both (some ([]:(List Int))) (ck (bQ ([]:List Int).length 0 a0.length a0.length 8)<|iA (([]:List Int)++a0) λr1=>ck (az (sub r1 0 r1.length).length r1.length)<|some (sub r1 0 r1.length)))else ck (bQ ([]:List Int).length 0 a0.length a0.length 8)<|iA (([]:List Int)++a0) λr2=>ck (az (sub r2 0 r2.length).length r2.length)<|some (sub r2 0 r2.length))
def NF(a0:bU):Option bU:=
 (A9 a0.area).bind λr1=>(Em a0.from_).bind λr2=>ck (az (sub r1 0 r1.length).length r1.length)<|ck (az (sub r2 0 r2.length).length r2.length)<|some (bU.mk a0.id a0.owner (sub r1 0 r1.length) (sub r2 0 r2.length))
def En(a0:List bU)(a1:Int):Stp Int (Unit⊕(bU×Bool))
 |v1=>(bif decide (v1<(a0.length:Int))then(bo a0 v1).bind λx1=>(bif (x1.id==(a1:Int))then(NF x1).bind λr1=>(some (r1,true)).map λa=> .inr (.inr a)else some (.inl (i64.wrap (v1+1))))else some (.inr (.inl ())))
def NG(a0:List bU)(a1:Int):Option (bU×Bool):=
 dw (iter (En a0 a1) n (0:Int)) λ()=>some ((bU.mk 0 0 ([]) ([])),false)
def nG(a0:bq)(a1:Int)(a2:Int):Stp (Int×(List aH)) (List aH)
 |(v1,v2)=>(bif decide (v1<(a0.phases.length:Int))then((bo a0.phases v1).bind λx1=>((bif decide (v1>=(a1:Int))then some (decide (v1<(a2:Int)))else some false)).bind λv3=>(bif v3 then ck (bQ v2.length v2.length x1.cy.length x1.cy.length 72)<|iA (v2++x1.cy) λr1=>ck (az r1.length r1.length)<|some r1 else ck (az v2.length v2.length)<|some v2):Option ((List aH))).bind λv4=>ck (az v4.length v4.length)<|some (.inl ((i64.wrap (v1+1)),v4))else ck (az v2.length v2.length)<|some (.inr v2))
def nV(a0:bq)(a1:Int)(a2:Int):Option (List aH):=
 ck (az 0 ([]:List aH).length)<|(iter (nG a0 a1 a2) n ((0:Int),([]:List aH))).bind λw1=>ck (az (sub w1 0 w1.length).length w1.length)<|some (sub w1 0 w1.length)
def wI(a0:bq):Option (List aH):=
 (nV n a0 0 (a0.phases.length:Int)).bind λr1=>ck (az (sub r1 0 r1.length).length r1.length)<|some (sub r1 0 r1.length)
def fZ(a0:aH):Option Bool:=
 ((nD (ax.mk a0.bu a0.ca a0.br a0.b9)).bind λr1=>(bif (!r1)then some true else(bif decide (a0.er<0)then some true else(bif decide (a0.er>=(a0.eb:Int))then some true else some (decide (a0.eb>4096)))))).bind λv1=>(bif v1 then some false else((bif (a0.use !=0)then some (a0.units !=0)else some false)).bind λv2=>(bif v2 then some false else(bif decide (a0.use>=0)then(bif decide (a0.use<6)then(bif decide (a0.units>=0)then some (decide (a0.units<=1048576))else some false)else some false)else some false)))
def sH(a0:ax)(a1:ax):Option (ax×Bool):=
 ((nD a0).bind λr1=>(bif (!r1)then some true else(nD a1).bind λr2=>some (!r2))).bind λv1=>(bif v1 then some ((ax.mk 0 0 0 0),false)else(sG (ax.mk (max a0.x0 a1.x0) (max a0.y0 a1.y0) (min a0.x1 a1.x1) (min a0.y1 a1.y1))).bind λr3=>some (r3.1,r3.2))
def xN(a0:De)(a1:De):Option Bool:=
 (sH (ax.mk a0.oB a0.oy a0.oA a0.ox) (ax.mk a1.oB a1.oy a1.oA a1.ox)).bind λr1=>(bif r1.2 then(bif decide (a0.z0<(a1.z1:Int))then some (decide (a1.z0<(a0.z1:Int)))else some false)else some false)
def qX(a0:aH)(a1:aH):Option Bool:=
 (xN (De.mk a1.bu a1.ca a1.br a1.b9 a1.er a1.eb) (De.mk a0.bu a0.ca a0.br a0.b9 a0.er a0.eb)).bind λr1=>some r1
def Eo(a0:List aH)(a1:(aH×Unit)->Option Bool):Stp Int (Unit⊕Int)
 |v1=>(bif decide (v1<(a0.length:Int))then(bo a0 v1).bind λx1=>(a1 (x1,())).bind λr1=>(bif r1 then(some v1).map λa=> .inr (.inr a)else some (.inl (i64.wrap (v1+1))))else some (.inr (.inl ())))
def qi(a0:List aH)(a1:(aH×Unit)->Option Bool):Option Int:=
 dw (iter (Eo a0 a1) n (0:Int)) λ()=>some ((-1):Int)
def fK(a0:List aH)(a1:(aH×Unit)->Option Bool):Option Bool:=
 (qi n a0 a1).bind λr1=>some (decide (r1>=0))
def Ep(a0:Int):Option Bool:=
 (bif decide (a0>=97)then some (decide (a0<=122))else some false)
def Ae(a0:ByteArray)(a1:(Int×Unit)->Option Bool):Stp Int Int
 |v1=>((bif decide (v1<(a0.size:Int))then(Ru a0 v1).bind λx1=>(a1 (x1,())).bind λr1=>some r1 else some false)).bind λv2=>(bif v2 then some (.inl (i64.wrap (v1+1)))else some (.inr v1))
def NH(a0:ByteArray)(a1:(Int×Unit)->Option Bool):Option Int:=
 (iter (Ae a0 a1) n (0:Int)).bind λw1=>some w1
def Qa(a0:Int):Option Bool:=
 (bif decide (a0>=48)then some (decide (a0<=57))else some false)
def Af(a0:Int):Option Bool:=
 (Ep a0).bind λr1=>(bif r1 then some true else(Qa a0).bind λr2=>some r2)
def NI(a0:ByteArray):Option Bool:=
 ((bif (ByteArray.toList a0==ByteArray.toList (⟨#[]⟩))then some true else(Ru a0 0).bind λx1=>(Ep x1).bind λr1=>(bif (!r1)then some true else some (decide ((a0.size:Int)>20))))).bind λv1=>(bif v1 then some false else(NH n a0 (λ (y1:Int×Unit)=>Af y1.1)).bind λr2=>some (r2==(a0.size:Int)))
def strings_Contains(a0 a1:ByteArray):Option Bool:=ck (Nat.ble a0.size 4000000)<|some (Lib.contains a0.data.toList a1.data.toList)
def wJ(a0:ByteArray):Option Bool:=
 (NI n a0).bind λr1=>(bif r1 then ck (Vs (⟨#[32]⟩) a0)<|ck (Vs ((⟨#[32]⟩)++a0) (⟨#[32]⟩))<|(strings_Contains (⟨#[32,97,110,100,32,97,112,97,114,116,32,98,97,115,101,32,99,97,112,32,100,101,102,105,110,101,32,101,108,115,101,32,101,120,99,101,112,116,32,102,114,111,109,32,103,114,97,99,101,32,104,111,117,114,115,32,105,102,32,105,110,32,108,101,97,115,116,32,110,111,116,32,111,114,32,111,118,101,114,108,97,121,32,112,108,97,110,101,32,114,117,108,101,32,115,108,111,112,101,32,115,117,110,32,116,97,98,108,101,32,116,104,101,110,32,117,110,116,105,108,32,117,115,101,115,32,118,97,114,121,32,118,105,101,119,32,122,111,110,101,32]⟩) (((⟨#[32]⟩)++a0)++(⟨#[32]⟩))).bind λr2=>some (!r2)else some false)
def kP(r1:List aH):Stp Int (Unit⊕Bool)
 |v2=>(bif decide (v2<(r1.length:Int))then ck (cC v2 r1.length)<|(bo r1 ((0:Nat)+v2:Int)).bind λx1=>((fZ x1).bind λr2=>(bif (!r2)then some true else ck (AX 0 v2 r1.length)<|ck (az (sub r1 0 ((v2:Int).toNat)).length ((v2:Int).toNat))<|(fK n (sub r1 0 ((v2:Int).toNat)) (λ (y1:aH×Unit)=>qX y1.1 x1)).bind λr3=>some r3)).bind λv3=>(bif v3 then(some false).map λa=> .inr (.inr a)else some (.inl (i64.wrap (v2+1))))else some (.inr (.inl ())))
def kQ(x2:rJ):Stp (Int×(List (ByteArray×Bool))) (Unit⊕(Int⊕(Unit⊕Bool)))
 |(v5,v6)=>(bif decide (v5<(x2.gives.length:Int))then(bo x2.gives v5).bind λx3=>((bif ((fO lf x3.name v6).getD false)then some true else(wJ n x3.name).bind λr4=>(bif (!r4)then some true else(bif decide (x3.n<0)then some true else some (decide (x3.n>1073741824)))))).bind λv7=>(bif v7 then((some false).map λa=> .inr (.inr a)).map λa=> .inr (.inr a)else some (.inl ((i64.wrap (v5+1)),(rG lf x3.name true v6))))else some (.inr (.inl ())))
def kR(a0:bq):Stp Int (Unit⊕Bool)
 |v4=>(bif decide (v4<(a0.phases.length:Int))then(bo a0.phases v4).bind λx2=>dw (iter (kQ n x2) n ((0:Int),([]:(List (ByteArray×Bool))))) λ()=>(bif decide ((x2.gives.length:Int)>30)then(some false).map λa=> .inr (.inr a)else some (.inl (i64.wrap (v4+1))))else some (.inr (.inl ())))
def xO(a0:bq):Option Bool:=
 (wI n a0).bind λr1=>((bif decide (a0.lot<0)then some true else(bif decide (a0.lot>1073741824)then some true else(bif decide ((a0.phases.length:Int)<1)then some true else(bif decide ((a0.phases.length:Int)>8)then some true else(bif decide ((r1.length:Int)<1)then some true else some (decide ((r1.length:Int)>40)))))))).bind λv1=>(bif v1 then some false else dw (iter (kP n r1) n (0:Int)) λ()=>dw (iter (kR n a0) n (0:Int)) λ()=>some true)
def u7(a0:fV)(a1:bS):Option Bool:=
 some (ByteArray.toList a0.name==ByteArray.toList a1.name)
def JW(a0:List fV)(a1:(fV×Unit)->Option Bool):Stp Int (Unit⊕Int)
 |v1=>(bif decide (v1<(a0.length:Int))then(bo a0 v1).bind λx1=>(a1 (x1,())).bind λr1=>(bif r1 then(some v1).map λa=> .inr (.inr a)else some (.inl (i64.wrap (v1+1))))else some (.inr (.inl ())))
def ve(a0:List fV)(a1:(fV×Unit)->Option Bool):Option Int:=
 dw (iter (JW a0 a1) n (0:Int)) λ()=>some ((-1):Int)
def mG(a0:List fV)(a1:(fV×Unit)->Option Bool):Option Bool:=
 (ve n a0 a1).bind λr1=>some (decide (r1>=0))
def jU(a1:bU)(r3:List aH):Stp Int (Unit⊕Bool)
 |v2=>(bif decide (v2<(r3.length:Int))then ck (cC v2 r3.length)<|(bo r3 ((0:Nat)+v2:Int)).bind λx1=>ck (az (sub ([(ax.mk x1.bu x1.ca x1.br x1.b9)]:List ax) 0 1).length 1)<|(CK n a1.area (sub ([(ax.mk x1.bu x1.ca x1.br x1.b9)]:List ax) 0 1)).bind λr4=>((bif (r4.2 !=0)then some true else(JD n r4.1).bind λr5=>(oZ (ax.mk x1.bu x1.ca x1.br x1.b9)).bind λr6=>some (decide (r5<(r6:Int))))).bind λv3=>(bif v3 then(some false).map λa=> .inr (.inr a)else some (.inl (i64.wrap (v2+1))))else some (.inr (.inl ())))
def jV(a0:bn)(x2:rJ):Stp Int (Unit⊕(Int⊕(Unit⊕Bool)))
 |v5=>(bif decide (v5<(x2.gives.length:Int))then(bo x2.gives v5).bind λx3=>(mG n a0.caps (λ (y1:fV×Unit)=>u7 y1.1 x3)).bind λr7=>(bif (!r7)then((some false).map λa=> .inr (.inr a)).map λa=> .inr (.inr a)else some (.inl (i64.wrap (v5+1))))else some (.inr (.inl ())))
def jW(a0:bn)(a2:bq):Stp Int (Unit⊕Bool)
 |v4=>(bif decide (v4<(a2.phases.length:Int))then(bo a2.phases v4).bind λx2=>dw (iter (jV n a0 x2) n (0:Int)) λ()=>some (.inl (i64.wrap (v4+1)))else some (.inr (.inl ())))
def oC(a0:bn)(a1:bU)(a2:bq):Option Bool:=
 ((xO n a2).bind λr1=>(bif (!r1)then some true else(bif (a1.id !=(a2.lot:Int))then some true else(nU n a1.area).bind λr2=>some (!r2)))).bind λv1=>(bif v1 then some false else(wI n a2).bind λr3=>dw (iter (jU n a1 r3) n (0:Int)) λ()=>dw (iter (jW n a0 a2) n (0:Int)) λ()=>some true)
def oJ(a0:bq):Stp (Int×(List aH)) (List aH)
 |(v1,v2)=>(bif decide (v1<(a0.phases.length:Int))then(bo a0.phases v1).bind λx1=>ck (bQ v2.length v2.length x1.cy.length x1.cy.length 72)<|iA (v2++x1.cy) λr1=>ck (az r1.length r1.length)<|some (.inl ((i64.wrap (v1+1)),r1))else ck (az v2.length v2.length)<|some (.inr v2))
def tO(a0:bq):Option (List aH):=
 ck (az 0 ([]:List aH).length)<|(iter (oJ a0) n ((0:Int),([]:List aH))).bind λw1=>ck (az (sub w1 0 w1.length).length w1.length)<|some (sub w1 0 w1.length)
def oK(a0:List dQ):Stp (Int×(List jy)) (List jy)
 |(v1,v2)=>(bif decide (v1<(a0.length:Int))then(bo a0 v1).bind λx1=>ck ((a0.length:Int) !=0)<|(bo a0 (Int.tmod (i64.wrap (v1+1)) (a0.length:Int))).bind λx2=>ck (cC v1 ((a0.length:Int).toNat))<|(bo v2 ((0:Nat)+v1:Int)).bind λx3=>some (.inl ((i64.wrap (v1+1)),(v2.set ((0:Nat)+v1:Int).toNat (jy.mk x1.x x1.y x2.x x2.y))))else some (.inr v2))
def o6(a0:List dQ):Option (List jy):=
 ck (decide ((a0.length:Int)<=(a0.length:Int))&&(decide (0<=(a0.length:Int))&&zG (a0.length:Int) 32))<|(iter (oK a0) n ((0:Int),(List.replicate (a0.length:Int).toNat (jy.mk 0 0 0 0)))).bind λw1=>ck (az (sub w1 0 ((a0.length:Int).toNat)).length ((a0.length:Int).toNat))<|some (sub w1 0 ((a0.length:Int).toNat))
def tQ(a0:dQ):Option Bool:=
 (bif decide (0<=(a0.x:Int))then(bif decide (a0.x<=1048576)then(bif decide (0<=(a0.y:Int))then some (decide (a0.y<=1048576))else some false)else some false)else some false)
def gI(a0:jy):Option Bool:=
 some (a0.ly==(a0.mf:Int))
def qY(a0:dQ)(a1:dQ):Option Int:=
 (cmp_Compare_int a0.x a1.x).bind λr1=>(cmp_Compare_int a0.y a1.y).bind λr2=>ck (az (sub ([r1,r2]:List Int) 0 2).length 2)<|(rM n (sub ([r1,r2]:List Int) 0 2)).bind λr3=>some r3
def lJ(a0:jy)(a1:jy):Option Bool:=
 (bif decide ((max (min a0.ly a0.mf) (min a1.ly a1.mf))<=((min (max a0.ly a0.mf) (max a1.ly a1.mf)):Int))then some (decide ((max (min a0.pC a0.t7) (min a1.pC a1.t7))<=((min (max a0.pC a0.t7) (max a1.pC a1.t7)):Int)))else some false)
def pQ(a0:List dQ)(r1:List jy):Stp Int (Unit⊕Bool)
 |v2=>(bif decide (v2<(r1.length:Int))then ck (cC v2 r1.length)<|(bo r1 ((0:Nat)+v2:Int)).bind λx1=>ck ((r1.length:Int) !=0)<|ck (cC (Int.tmod (i64.wrap (v2+1)) (r1.length:Int)) r1.length)<|(bo r1 ((0:Nat)+(Int.tmod (i64.wrap (v2+1)) (r1.length:Int)):Int)).bind λx2=>((tQ (dQ.mk x1.ly x1.pC)).bind λr2=>(bif (!r2)then some true else(bif ((x1.ly==(x1.mf:Int))==(x1.pC==(x1.t7:Int)))then some true else(gI x1).bind λr3=>(gI x2).bind λr4=>some (r3==r4)))).bind λv3=>(bif v3 then(some false).map λa=> .inr (.inr a)else((bif decide (v2>0)then(bo a0 0).bind λx3=>(bo a0 v2).bind λx4=>(qY n x3 x4).bind λr5=>some (decide (r5>=0))else some false)).bind λv4=>(bif v4 then(some false).map λa=> .inr (.inr a)else some (.inl (i64.wrap (v2+1)))))else some (.inr (.inl ())))
def iQ(r1:List jy)(v5:Int):Stp Int (Unit⊕(Int⊕(Unit⊕Bool)))
 |v6=>(bif decide (v6<(r1.length:Int))then((bif (decide ((i64.wrap ((i64.wrap (v5+(r1.length:Int))) -v6))>1))then ck (cC v5 r1.length)<|(bo r1 ((0:Nat)+v5:Int)).bind λx5=>ck (cC v6 r1.length)<|(bo r1 ((0:Nat)+v6:Int)).bind λx6=>(lJ x5 x6).bind λr6=>some r6 else some false)).bind λv7=>(bif v7 then((some false).map λa=> .inr (.inr a)).map λa=> .inr (.inr a)else some (.inl (i64.wrap (v6+1))))else some (.inr (.inl ())))
def pR(r1:List jy):Stp Int (Unit⊕Bool)
 |v5=>(bif decide (v5<(r1.length:Int))then dw (iter (iQ r1 v5) n (i64.wrap (v5+2))) λ()=>some (.inl (i64.wrap (v5+1)))else some (.inr (.inl ())))
def vI(a0:List dQ):Option Bool:=
 ((bif decide ((a0.length:Int)<4)then some true else some (decide ((a0.length:Int)>60)))).bind λv1=>(bif v1 then some false else(o6 n a0).bind λr1=>dw (iter (pQ n a0 r1) n (0:Int)) λ()=>dw (iter (pR n r1) n (0:Int)) λ()=>ck (cC 0 r1.length)<|(bo r1 ((0:Nat)+0:Int)).bind λx7=>(gI x7).bind λr7=>some (!r7))
def lK(a0:List dQ):Stp (Int×(List Int)) (List Int)
 |(v1,v2)=>(bif decide (v1<(a0.length:Int))then(bo a0 v1).bind λx1=>ck (bQ v2.length v2.length (sub ([x1.x]:List Int) 0 1).length 1 8)<|iA (v2++(sub ([x1.x]:List Int) 0 1)) λr2=>ck (az r2.length r2.length)<|some (.inl ((i64.wrap (v1+1)),r2))else ck (az v2.length v2.length)<|some (.inr v2))
def lM(r4:Unit×(List Int))(r5:List jy)(v3:Int):Stp (Int×(List Int)) (List Int)
 |(v5,v6)=>(bif decide (v5<(r5.length:Int))then(ck (cC v5 r5.length)<|(bo r5 ((0:Nat)+v5:Int)).bind λx2=>((gI x2).bind λr6=>(bif (!r6)then ck (cC v3 r4.2.length)<|(bo r4.2 ((0:Nat)+v3:Int)).bind λx3=>(bif decide ((min x2.ly x2.mf)<=(x3:Int))then ck (cC v3 r4.2.length)<|(bo r4.2 ((0:Nat)+v3:Int)).bind λx4=>some (decide (x4<((max x2.ly x2.mf):Int)))else some false)else some false)).bind λv7=>(bif v7 then ck (bQ v6.length v6.length (sub ([x2.pC]:List Int) 0 1).length 1 8)<|iA (v6++(sub ([x2.pC]:List Int) 0 1)) λr7=>ck (az r7.length r7.length)<|some r7 else ck (az v6.length v6.length)<|some v6):Option ((List Int))).bind λv8=>ck (az v8.length v8.length)<|some (.inl ((i64.wrap (v5+1)),v8))else ck (az v6.length v6.length)<|some (.inr v6))
def ji(r4:Unit×(List Int))(v3:Int)(w2:List Int)(r8:List Int):Stp (Int×(List ax)) (List ax)
 |(v9,v10)=>(bif decide ((i64.wrap (v9+1))<(w2.length:Int))then ck (cC v3 r4.2.length)<|(bo r4.2 ((0:Nat)+v3:Int)).bind λx5=>ck (cC v9 w2.length)<|(bo r8 ((0:Nat)+v9:Int)).bind λx6=>ck (cC (i64.wrap (v3+1)) r4.2.length)<|(bo r4.2 ((0:Nat)+(i64.wrap (v3+1)):Int)).bind λx7=>ck (cC (i64.wrap (v9+1)) w2.length)<|(bo r8 ((0:Nat)+(i64.wrap (v9+1)):Int)).bind λx8=>ck (bQ v10.length v10.length (sub ([(ax.mk x5 x6 x7 x8)]:List ax) 0 1).length 1 32)<|iA (v10++(sub ([(ax.mk x5 x6 x7 x8)]:List ax) 0 1)) λr9=>ck (az r9.length r9.length)<|some (.inl ((i64.wrap (v9+2)),r9))else ck (az v10.length v10.length)<|some (.inr v10))
def lN(r4:Unit×(List Int))(r5:List jy):Stp (Int×(List ax)) (List ax)
 |(v3,v4)=>(bif (decide (v3<((i64.wrap ((r4.2.length:Int) -1)):Int)))then ck (az 0 ([]:List Int).length)<|(iter (lM r4 r5 v3) n ((0:Int),([]:List Int))).bind λw2=>ck (az w2.length w2.length)<|(oV n w2).bind λr8=>ck (az v4.length v4.length)<|(iter (ji r4 v3 w2 r8) n ((0:Int),v4)).bind λw3=>ck (az w3.length w3.length)<|some (.inl ((i64.wrap (v3+1)),w3))else ck (az v4.length v4.length)<|some (.inr v4))
def tT(a0:List dQ):Option ((List ax)×Int):=
 (vI n a0).bind λr1=>(bif (!r1)then some (([]:(List ax)),(10:Int))else ck (az 0 ([]:List Int).length)<|(iter (lK a0) n ((0:Int),([]:List Int))).bind λw1=>ck (az w1.length w1.length)<|(oV n w1).bind λr3=>ck (az w1.length r3.length)<|(oW n r3).bind λr4=>(o6 n a0).bind λr5=>ck (az 0 ([]:List ax).length)<|(iter (lN n r4 r5) n ((0:Int),([]:List ax))).bind λw4=>(bif decide ((w4.length:Int)>200)then some (([]:(List ax)),(6:Int))else ck (az (sub w4 0 w4.length).length w4.length)<|some ((sub w4 0 w4.length),(0:Int))))
def xP(a0:dO):Option (List ax):=
 (tT n a0.corners).bind λr1=>(bif (r1.2 !=0)then some ([]:(List ax))else ck (az (sub r1.1 0 r1.1.length).length r1.1.length)<|some (sub r1.1 0 r1.1.length))
def pU(a1:List ax)(x1:ax):Stp (Int×Int×Int×Int) (Int×Int×Int)
 |(v5,v6,v7,v8)=>(bif decide (v6<(a1.length:Int))then((bo a1 v6).bind λx2=>(sH x1 x2).bind λr1=>(bif (!r1.2)then some (v5,v7,v8)else(oZ r1.1).bind λr2=>(cmp_Compare_int r1.1.x0 v7).bind λr3=>(cmp_Compare_int r1.1.y0 v8).bind λr4=>ck (az (sub ([r3,r4]:List Int) 0 2).length 2)<|(rM n (sub ([r3,r4]:List Int) 0 2)).bind λr5=>(bif decide (r5<0)then some ((i64.wrap (v5+r2)),r1.1.x0,r1.1.y0)else some ((i64.wrap (v5+r2)),v7,v8))):Option (Int×Int×Int)).bind λ(v9,v10,v11)=>some (.inl (v9,(i64.wrap (v6+1)),v10,v11))else some (.inr (v5,v7,v8)))
def pV(a0:List ax)(a1:List ax):Stp (Int×Int×Int×Int) (Int×Int×Int)
 |(v1,v2,v3,v4)=>(bif decide (v2<(a0.length:Int))then(bo a0 v2).bind λx1=>(iter (pU n a1 x1) n (v1,(0:Int),v3,v4)).bind λ(w1,w2,w3)=>some (.inl (w1,(i64.wrap (v2+1)),w2,w3))else some (.inr (v1,v3,v4)))
def vJ(a0:List ax)(a1:List ax):Option (Int×dQ):=
 (iter (pV n a0 a1) n ((0:Int),(0:Int),(1048576:Int),(0:Int))).bind λ(w4,w5,w6)=>some (w4,(dQ.mk w5 w6))
def pW(a0:bn)(a1:List ax):Stp (Int×(List Int)) (List Int)
 |(v1,v2)=>(bif decide (v1<(a0.zones.length:Int))then(bo a0.zones v1).bind λx1=>(xP n x1).bind λr2=>ck (az (sub r2 0 r2.length).length r2.length)<|(vJ n a1 (sub r2 0 r2.length)).bind λr3=>ck (bQ v2.length v2.length (sub ([r3.1]:List Int) 0 1).length 1 8)<|iA (v2++(sub ([r3.1]:List Int) 0 1)) λr4=>ck (az r4.length r4.length)<|some (.inl ((i64.wrap (v1+1)),r4))else ck (az v2.length v2.length)<|some (.inr v2))
def vK(a0:bn)(a1:List ax):Option (List Int):=
 (nU n a1).bind λr1=>(bif (!r1)then some ([]:(List Int))else ck (az 0 ([]:List Int).length)<|(iter (pW n a0 a1) n ((0:Int),([]:List Int))).bind λw1=>ck (az (sub w1 0 w1.length).length w1.length)<|some (sub w1 0 w1.length))
def pX(a0:bn)(r1:List Int):Stp (Int×Int) Int
 |(v1,v2)=>(bif decide (v2<(r1.length:Int))then(ck (cC v2 r1.length)<|(bo r1 ((0:Nat)+v2:Int)).bind λx1=>((bo a0.zones v2).bind λx2=>(bif (!x2.overlay)then(bif decide (x1>0)then(bif decide (v1<0)then some true else ck (cC v1 r1.length)<|(bo r1 ((0:Nat)+v1:Int)).bind λx3=>some (decide (x1>(x3:Int))))else some false)else some false)).bind λv3=>(bif v3 then some v2 else some v1):Option Int).bind λv4=>some (.inl (v4,(i64.wrap (v2+1))))else some (.inr v1))
def xQ(a0:bn)(r1:List Int)(w1:Int):Stp (Int×(List ByteArray)) (List ByteArray)
 |(v5,v6)=>(bif decide (v5<(r1.length:Int))then(ck (cC v5 r1.length)<|(bo r1 ((0:Nat)+v5:Int)).bind λx4=>((bif (v5==(w1:Int))then some true else(bo a0.zones v5).bind λx5=>(bif x5.overlay then some (decide (x4>0))else some false))).bind λv7=>(bif v7 then(bo a0.zones v5).bind λx6=>ck (bQ v6.length v6.length (sub ([x6.name]:List ByteArray) 0 1).length 1 16)<|iA (v6++(sub ([x6.name]:List ByteArray) 0 1)) λr2=>ck (az r2.length r2.length)<|some r2 else ck (az v6.length v6.length)<|some v6):Option ((List ByteArray))).bind λv8=>ck (az v8.length v8.length)<|some (.inl ((i64.wrap (v5+1)),v8))else ck (az v6.length v6.length)<|some (.inr v6))
def CO(a0:bn)(a1:List ax):Option (List ByteArray):=
 (vK n a0 a1).bind λr1=>(iter (pX a0 r1) n (((-1):Int),(0:Int))).bind λw1=>ck (az 0 ([]:List ByteArray).length)<|(iter (xQ a0 r1 w1) n ((0:Int),([]:List ByteArray))).bind λw2=>ck (az (sub w2 0 w2.length).length w2.length)<|some (sub w2 0 w2.length)
def Ag(a0:bT)(a1:bq):Option (l6×Int):=
 (NG n a0.land a1.lot).bind λr1=>(bif (!r1.2)then some ((l6.mk ([]) ([]) ([]) ([]) ([]) ([]) ([]) 0 ([]) ([]) ([]) ([]) ([]) 0 0 ([]) ([]) 0 ([]) ([]) ([])),(4:Int))else(oC n (bn.mk a0.ci a0.b8 a0.b7 a0.aE a0.ct a0.cj a0.cz a0.cm) r1.1 a1).bind λr2=>(bif (!r2)then some ((l6.mk ([]) ([]) ([]) ([]) ([]) ([]) ([]) 0 ([]) ([]) ([]) ([]) ([]) 0 0 ([]) ([]) 0 ([]) ([]) ([])),(1:Int))else(tO n a1).bind λr3=>(CO n (bn.mk a0.ci a0.b8 a0.b7 a0.aE a0.ct a0.cj a0.cz a0.cm) r1.1.area).bind λr4=>ck (az (sub r3 0 r3.length).length r3.length)<|ck (az (sub r4 0 r4.length).length r4.length)<|some ((l6.mk a0.ci a0.b8 a0.b7 a0.aE a0.ct a0.cj a0.cz a0.cm a0.land a0.bx a0.windows a0.built a0.base r1.1.id r1.1.owner r1.1.area r1.1.from_ a1.lot a1.phases (sub r3 0 r3.length) (sub r4 0 r4.length)),(0:Int))))
def nH(a0:List ByteArray)(a1:ByteArray):Stp Int (Unit⊕Int)
 |v1=>(bif decide (v1<(a0.length:Int))then(bo a0 v1).bind λx1=>(bif (ByteArray.toList a1==ByteArray.toList x1)then(some v1).map λa=> .inr (.inr a)else some (.inl (i64.wrap (v1+1))))else some (.inr (.inl ())))
def qZ(a0:List ByteArray)(a1:ByteArray):Option Int:=
 dw (iter (nH a0 a1) n (0:Int)) λ()=>some ((-1):Int)
def fJ(a0:List ByteArray)(a1:ByteArray):Option Bool:=
 (qZ n a0 a1).bind λr1=>some (decide (r1>=0))
def jX(a0:ByteArray)(a1:List ByteArray):Option Bool:=
 (fJ n a1 a0).bind λr1=>some r1
def Er(a0:List ByteArray)(a1:(ByteArray×Unit)->Option Bool):Stp Int (Unit⊕Int)
 |v1=>(bif decide (v1<(a0.length:Int))then(bo a0 v1).bind λx1=>(a1 (x1,())).bind λr1=>(bif r1 then(some v1).map λa=> .inr (.inr a)else some (.inl (i64.wrap (v1+1))))else some (.inr (.inl ())))
def qj(a0:List ByteArray)(a1:(ByteArray×Unit)->Option Bool):Option Int:=
 dw (iter (Er a0 a1) n (0:Int)) λ()=>some ((-1):Int)
def fM(a0:List ByteArray)(a1:(ByteArray×Unit)->Option Bool):Option Bool:=
 (qj n a0 a1).bind λr1=>some (decide (r1>=0))
def qF(a0:bJ)(a1:List ByteArray):Option Bool:=
 (bif ((a0.zones.length:Int)==0)then(fM n a0.except (λ (y1:ByteArray×Unit)=>jX n y1.1 a1)).bind λr1=>some (!r1)else(fM n a0.zones (λ (y2:ByteArray×Unit)=>jX n y2.1 a1)).bind λr2=>(bif r2 then(fM n a0.except (λ (y3:ByteArray×Unit)=>jX n y3.1 a1)).bind λr3=>some (!r3)else some false))
def q8(a0:bn)(a1:List ByteArray)(a2:Int):Stp (Int×(List Int)) (List Int)
 |(v1,v2)=>(bif decide (v1<(a0.rules.length:Int))then((bo a0.rules v1).bind λx1=>((bif decide (x1.from_<=(a2:Int))then(bif (x1.j9==0)then(qF n x1 a1).bind λr1=>some r1 else(bif decide (a2<(x1.j9:Int))then(qF n x1 a1).bind λr2=>some r2 else some false))else some false)).bind λv3=>(bif v3 then ck (bQ v2.length v2.length (sub ([v1]:List Int) 0 1).length 1 8)<|iA (v2++(sub ([v1]:List Int) 0 1)) λr3=>ck (az r3.length r3.length)<|some r3 else ck (az v2.length v2.length)<|some v2):Option ((List Int))).bind λv4=>ck (az v4.length v4.length)<|some (.inl ((i64.wrap (v1+1)),v4))else ck (az v2.length v2.length)<|some (.inr v2))
def tV(a0:bn)(a1:List ByteArray)(a2:Int):Option (List Int):=
 ck (az 0 ([]:List Int).length)<|(iter (q8 n a0 a1 a2) n ((0:Int),([]:List Int))).bind λw1=>ck (az (sub w1 0 w1.length).length w1.length)<|some (sub w1 0 w1.length)
def vg(_:Nat)(a0:List ax)(a1:(ax×ax×Unit)->Option Int):Option (List ax):=F1 a0 a1
def iJ(a0:ax)(a1:ax):Option Int:=
 (cmp_Compare_int a0.y0 a1.y0).bind λr1=>some r1
def kS(a0:aH):Option Int:=
 ((bif a0.extra then some true else(fZ a0).bind λr1=>some (!r1))).bind λv1=>(bif v1 then some (0:Int)else ck (3 !=0)<|some (i64.wrap (Int.tdiv (i64.wrap ((i64.wrap ((i64.wrap (a0.eb -a0.er))+3)) -1)) 3)))
def oD(a0:aH):Option Int:=
 (fZ a0).bind λr1=>(bif (!r1)then some (0:Int)else(oZ (ax.mk a0.bu a0.ca a0.br a0.b9)).bind λr2=>(kS a0).bind λr3=>some (i64.wrap (r2*r3)))
def nI(a0:aH):Option Int:=
 some a0.eb
def oI(a0:aH):Option Int:=
 some a0.units
def Ba(a0:ax)(a1:Int):Option (ax×Bool):=
 (nD (ax.mk (i64.wrap (a0.x0 -a1)) (i64.wrap (a0.y0 -a1)) (i64.wrap (a0.x1+a1)) (i64.wrap (a0.y1+a1)))).bind λr1=>some ((ax.mk (i64.wrap (a0.x0 -a1)) (i64.wrap (a0.y0 -a1)) (i64.wrap (a0.x1+a1)) (i64.wrap (a0.y1+a1))),r1)
def kg(a0:bS)(a1:JB)(a2:Int):Option Bool:=
 ck (cC a2 6)<|(bo ([a1.a0,a1.a1,a1.a2,a1.a3,a1.a4,a1.a5]:List ByteArray) a2).bind λx1=>some (ByteArray.toList a0.name==ByteArray.toList x1)
def FH(a0:List bS)(a1:(bS×Unit)->Option Bool):Stp Int (Unit⊕Int)
 |v1=>(bif decide (v1<(a0.length:Int))then(bo a0 v1).bind λx1=>(a1 (x1,())).bind λr1=>(bif r1 then(some v1).map λa=> .inr (.inr a)else some (.inl (i64.wrap (v1+1))))else some (.inr (.inl ())))
def ko(a0:List bS)(a1:(bS×Unit)->Option Bool):Option Int:=
 dw (iter (FH a0 a1) n (0:Int)) λ()=>some ((-1):Int)
def kr(a0:bn)(a1:Int):Stp Int (Unit⊕Int)
 |v1=>(bif decide (v1<(a0.tables.length:Int))then(bo a0.tables v1).bind λx1=>(bif (!(ByteArray.toList x1.name==ByteArray.toList (⟨#[116,114,97,102,102,105,99]⟩)))then some (.inl (i64.wrap (v1+1)))else((ko n x1.rows (λ (y1:bS×Unit)=>kg y1.1 (JB.mk (⟨#[104,111,109,101]⟩) (⟨#[115,104,111,112]⟩) (⟨#[119,111,114,107]⟩) (⟨#[112,97,114,107]⟩) (⟨#[112,108,97,110,116]⟩) (⟨#[104,97,108,108]⟩)) a1)).bind λr1=>(bif decide (r1>=0)then(bo x1.rows r1).bind λx2=>some x2.n else some x1.sk):Option Int).bind λv2=>(some (max (0:Int) (min v2 (1048576:Int)))).map λa=> .inr (.inr a))else some (.inr (.inl ())))
def Ah(a0:bn)(a1:Int):Option Int:=
 dw (iter (kr n a0 a1) n (0:Int)) λ()=>some (0:Int)
def kT(a0:bn)(a1:aH):Option Int:=
 (Ah n a0 a1.use).bind λr1=>(oD a1).bind λr2=>((bif decide (r1>0)then ck (r1 !=0)<|some (decide (r2>((i64.wrap (Int.tdiv 109951162777600 r1)):Int)))else some false)).bind λv1=>(bif v1 then some (1099511627776:Int)else ck (100 !=0)<|some (i64.wrap (Int.tdiv (i64.wrap ((i64.wrap ((i64.wrap (r1*r2))+100)) -1)) 100)))
def mH(a0:List fA)(a1:List cB)(a2:List dO)(a3:List bJ)(a4:List fV)(a5:List eU)(a6:List bV)(a7:Int)(a8:List ax)(a9:List aH):Option (Int×gP):=
 (JD n a8).bind λr1=>ck (az a9.length a9.length)<|some (r1,a0,a1,a2,a3,a4,a5,a6,a7,a8,a9)
def gB(a9:List aH):Stp (Int×(List ax)×(List Int)) ((List ax)×(List Int))
 |(v1,v2,v3)=>(bif decide (v1<(a9.length:Int))then ck (cC v1 a9.length)<|(bo a9 ((0:Nat)+v1:Int)).bind λx1=>ck (cC v1 ((a9.length:Int).toNat))<|(bo v2 ((0:Nat)+v1:Int)).bind λx2=>ck (cC v1 ((a9.length:Int).toNat))<|(bo (v2.set ((0:Nat)+v1:Int).toNat (ax.mk x1.bu x1.ca x1.br x1.b9)) ((0:Nat)+v1:Int)).bind λx3=>ck (cC v1 ((a9.length:Int).toNat))<|(bo (v2.set ((0:Nat)+v1:Int).toNat (ax.mk x1.bu x1.ca x1.br x1.b9)) ((0:Nat)+v1:Int)).bind λx4=>ck (bQ v3.length v3.length (sub ([x3.x0,x4.x1]:List Int) 0 2).length 2 8)<|iA (v3++(sub ([x3.x0,x4.x1]:List Int) 0 2)) λr1=>ck (az r1.length r1.length)<|some (.inl ((i64.wrap (v1+1)),(v2.set ((0:Nat)+v1:Int).toNat (ax.mk x1.bu x1.ca x1.br x1.b9)),r1))else ck (az v3.length v3.length)<|some (.inr (v2,v3)))
def iU(a9:List aH)(w2:List Int)(r2:List ax)(r3:List Int)(v5:Int):Stp (Int×Int×Int) Int
 |(v6,v7,v8)=>(bif (decide (v8<((((a9.length:Int).toNat:Nat):Int):Int)))then(ck (cC v8 ((a9.length:Int).toNat))<|(bo r2 ((0:Nat)+v8:Int)).bind λx5=>(ck (cC v5 w2.length)<|(bo r3 ((0:Nat)+v5:Int)).bind λx6=>(bif decide (x5.x0<=(x6:Int))then ck (cC v5 w2.length)<|(bo r3 ((0:Nat)+v5:Int)).bind λx7=>(bif decide (x7<(x5.x1:Int))then some (decide (x5.y1>(v7:Int)))else some false)else some false)).bind λv9=>(bif v9 then ck (cC (i64.wrap (v5+1)) w2.length)<|(bo r3 ((0:Nat)+(i64.wrap (v5+1)):Int)).bind λx8=>ck (cC v5 w2.length)<|(bo r3 ((0:Nat)+v5:Int)).bind λx9=>some ((i64.wrap (v6+(i64.wrap ((i64.wrap (x8 -x9))*(i64.wrap (x5.y1 -(max v7 x5.y0))))))),x5.y1)else some (v6,v7)):Option (Int×Int)).bind λ(v10,v11)=>some (.inl (v10,v11,(i64.wrap (v8+1))))else some (.inr v6))
def iV(a9:List aH)(w2:List Int)(r2:List ax)(r3:List Int):Stp (Int×Int) Int
 |(v4,v5)=>(bif (decide (v5<((max (0:Int) (i64.wrap ((w2.length:Int) -1))):Int)))then(iter (iU a9 w2 r2 r3 v5) n (v4,(0:Int),(0:Int))).bind λw3=>some (.inl (w3,(i64.wrap (v5+1))))else some (.inr v4))
def iK(a0:List fA)(a1:List cB)(a2:List dO)(a3:List bJ)(a4:List fV)(a5:List eU)(a6:List bV)(a7:Int)(a8:List ax)(a9:List aH):Option (Int×gP):=
 ck (decide ((a9.length:Int)<=(a9.length:Int))&&(decide (0<=(a9.length:Int))&&zG (a9.length:Int) 32))<|ck (az 0 ([]:List Int).length)<|(iter (gB a9) n ((0:Int),(List.replicate (a9.length:Int).toNat (ax.mk 0 0 0 0)),([]:List Int))).bind λ(w1,w2)=>ck (az ((a9.length:Int).toNat) w1.length)<|(vg n w1 (λ (y1:ax×ax×Unit)=>iJ y1.1 y1.2.1)).bind λr2=>ck (az w2.length w2.length)<|(oV n w2).bind λr3=>(iter (iV n a9 w2 r2 r3) n ((0:Int),(0:Int))).bind λw4=>ck (az a9.length a9.length)<|some (w4,a0,a1,a2,a3,a4,a5,a6,a7,a8,a9)
def jE(a9:List aH):Stp (Int×Int) Int
 |(v1,v2)=>(bif decide (v2<(a9.length:Int))then ck (cC v2 a9.length)<|(bo a9 ((0:Nat)+v2:Int)).bind λx1=>(oD x1).bind λr1=>some (.inl ((i64.wrap (v1+r1)),(i64.wrap (v2+1))))else some (.inr v1))
def ql(a0:List fA)(a1:List cB)(a2:List dO)(a3:List bJ)(a4:List fV)(a5:List eU)(a6:List bV)(a7:Int)(a8:List ax)(a9:List aH):Option (Int×gP):=
 (iter (jE a9) n ((0:Int),(0:Int))).bind λw1=>ck (az a9.length a9.length)<|some (w1,a0,a1,a2,a3,a4,a5,a6,a7,a8,a9)
def kG(a0:List fA)(a1:List cB)(a2:List dO)(a3:List bJ)(a4:List fV)(a5:List eU)(a6:List bV)(a7:Int)(a8:List ax)(a9:List aH):Option (Int×gP):=
 ck (az a9.length a9.length)<|(ql n a0 a1 a2 a3 a4 a5 a6 a7 a8 a9).bind λr1=>ck (az r1.2.2.2.2.2.2.2.2.2.2.length r1.2.2.2.2.2.2.2.2.2.2.length)<|some (r1.1,r1.2.1,r1.2.2.1,r1.2.2.2.1,r1.2.2.2.2.1,r1.2.2.2.2.2.1,r1.2.2.2.2.2.2.1,r1.2.2.2.2.2.2.2.1,r1.2.2.2.2.2.2.2.2.1,r1.2.2.2.2.2.2.2.2.2.1,r1.2.2.2.2.2.2.2.2.2.2)
def gQ(a9:List aH):Stp (Int×Int) Int
 |(v1,v2)=>(bif decide (v2<(a9.length:Int))then ck (cC v2 a9.length)<|(bo a9 ((0:Nat)+v2:Int)).bind λx1=>(kS x1).bind λr1=>some (.inl ((max v1 r1),(i64.wrap (v2+1))))else some (.inr v1))
def l7(a0:List fA)(a1:List cB)(a2:List dO)(a3:List bJ)(a4:List fV)(a5:List eU)(a6:List bV)(a7:Int)(a8:List ax)(a9:List aH):Option (Int×gP):=
 (iter (gQ a9) n ((0:Int),(0:Int))).bind λw1=>ck (az a9.length a9.length)<|some (w1,a0,a1,a2,a3,a4,a5,a6,a7,a8,a9)
def jF(a0:List fA)(a1:List cB)(a2:List dO)(a3:List bJ)(a4:List fV)(a5:List eU)(a6:List bV)(a7:Int)(a8:List ax)(a9:List aH):Option (Int×gP):=
 ck (az a9.length a9.length)<|(l7 n a0 a1 a2 a3 a4 a5 a6 a7 a8 a9).bind λr1=>ck (az r1.2.2.2.2.2.2.2.2.2.2.length r1.2.2.2.2.2.2.2.2.2.2.length)<|some (r1.1,r1.2.1,r1.2.2.1,r1.2.2.2.1,r1.2.2.2.2.1,r1.2.2.2.2.2.1,r1.2.2.2.2.2.2.1,r1.2.2.2.2.2.2.2.1,r1.2.2.2.2.2.2.2.2.1,r1.2.2.2.2.2.2.2.2.2.1,r1.2.2.2.2.2.2.2.2.2.2)
def gT(a9:List aH):Stp (Int×Int) Int
 |(v1,v2)=>(bif decide (v2<(a9.length:Int))then ck (cC v2 a9.length)<|(bo a9 ((0:Nat)+v2:Int)).bind λx1=>(nI x1).bind λr1=>some (.inl ((max v1 r1),(i64.wrap (v2+1))))else some (.inr v1))
def l8(a0:List fA)(a1:List cB)(a2:List dO)(a3:List bJ)(a4:List fV)(a5:List eU)(a6:List bV)(a7:Int)(a8:List ax)(a9:List aH):Option (Int×gP):=
 (iter (gT a9) n ((0:Int),(0:Int))).bind λw1=>ck (az a9.length a9.length)<|some (w1,a0,a1,a2,a3,a4,a5,a6,a7,a8,a9)
def jG(a0:List fA)(a1:List cB)(a2:List dO)(a3:List bJ)(a4:List fV)(a5:List eU)(a6:List bV)(a7:Int)(a8:List ax)(a9:List aH):Option (Int×gP):=
 ck (az a9.length a9.length)<|(l8 n a0 a1 a2 a3 a4 a5 a6 a7 a8 a9).bind λr1=>ck (az r1.2.2.2.2.2.2.2.2.2.2.length r1.2.2.2.2.2.2.2.2.2.2.length)<|some (r1.1,r1.2.1,r1.2.2.1,r1.2.2.2.1,r1.2.2.2.2.1,r1.2.2.2.2.2.1,r1.2.2.2.2.2.2.1,r1.2.2.2.2.2.2.2.1,r1.2.2.2.2.2.2.2.2.1,r1.2.2.2.2.2.2.2.2.2.1,r1.2.2.2.2.2.2.2.2.2.2)
def jH(a9:List aH):Stp (Int×Int) Int
 |(v1,v2)=>(bif decide (v2<(a9.length:Int))then ck (cC v2 a9.length)<|(bo a9 ((0:Nat)+v2:Int)).bind λx1=>(oI x1).bind λr1=>some (.inl ((i64.wrap (v1+r1)),(i64.wrap (v2+1))))else some (.inr v1))
def qm(a0:List fA)(a1:List cB)(a2:List dO)(a3:List bJ)(a4:List fV)(a5:List eU)(a6:List bV)(a7:Int)(a8:List ax)(a9:List aH):Option (Int×gP):=
 (iter (jH a9) n ((0:Int),(0:Int))).bind λw1=>ck (az a9.length a9.length)<|some (w1,a0,a1,a2,a3,a4,a5,a6,a7,a8,a9)
def kH(a0:List fA)(a1:List cB)(a2:List dO)(a3:List bJ)(a4:List fV)(a5:List eU)(a6:List bV)(a7:Int)(a8:List ax)(a9:List aH):Option (Int×gP):=
 ck (az a9.length a9.length)<|(qm n a0 a1 a2 a3 a4 a5 a6 a7 a8 a9).bind λr1=>ck (az r1.2.2.2.2.2.2.2.2.2.2.length r1.2.2.2.2.2.2.2.2.2.2.length)<|some (r1.1,r1.2.1,r1.2.2.1,r1.2.2.2.1,r1.2.2.2.2.1,r1.2.2.2.2.2.1,r1.2.2.2.2.2.2.1,r1.2.2.2.2.2.2.2.1,r1.2.2.2.2.2.2.2.2.1,r1.2.2.2.2.2.2.2.2.2.1,r1.2.2.2.2.2.2.2.2.2.2)
def iE(j0:List ax)(r1:ax×Bool):Stp (Int×Int) Int
 |(v1,v2)=>(bif decide (v2<(j0.length:Int))then((bo j0 v2).bind λx1=>(sH r1.1 x1).bind λr2=>(bif r2.2 then(oZ r2.1).bind λr3=>some (i64.wrap (v1+r3))else some v1):Option Int).bind λv3=>some (.inl (v3,(i64.wrap (v2+1))))else some (.inr v1))
def jI(a0:ax)(a1:Int)(a2:List fA)(a3:List cB)(a4:List dO)(a5:List bJ)(a6:List fV)(a7:List eU)(a8:List bV)(a9:Int)(j0:List ax)(ta:List aH):Option (Bool×gP):=
 (Ba a0 a1).bind λr1=>(bif (!r1.2)then ck (az ta.length ta.length)<|some (false,a2,a3,a4,a5,a6,a7,a8,a9,j0,ta)else(iter (iE j0 r1) n ((0:Int),(0:Int))).bind λw1=>(oZ r1.1).bind λr4=>ck (az ta.length ta.length)<|some ((w1==(r4:Int)),a2,a3,a4,a5,a6,a7,a8,a9,j0,ta))
def eX(x1:aH):Stp (Int×Int×gP) (Int×gP)
 |(v13,v14,v15,v16,v17,v18,v19,v20,v21,v22,v23,v24)=>(bif decide (v13<(v14:Int))then ck (2 !=0)<|ck (az v24.length v24.length)<|(jI n (ax.mk x1.bu x1.ca x1.br x1.b9) (i64.wrap (Int.tdiv (i64.wrap ((i64.wrap (v13+v14))+1)) 2)) v15 v16 v17 v18 v19 v20 v21 v22 v23 v24).bind λr1=>(bif r1.1 then ck (az r1.2.2.2.2.2.2.2.2.2.2.length r1.2.2.2.2.2.2.2.2.2.2.length)<|some (.inl ((i64.wrap (Int.tdiv (i64.wrap ((i64.wrap (v13+v14))+1)) 2)),v14,r1.2.1,r1.2.2.1,r1.2.2.2.1,r1.2.2.2.2.1,r1.2.2.2.2.2.1,r1.2.2.2.2.2.2.1,r1.2.2.2.2.2.2.2.1,r1.2.2.2.2.2.2.2.2.1,r1.2.2.2.2.2.2.2.2.2.1,r1.2.2.2.2.2.2.2.2.2.2))else ck (az r1.2.2.2.2.2.2.2.2.2.2.length r1.2.2.2.2.2.2.2.2.2.2.length)<|some (.inl (v13,(i64.wrap ((i64.wrap (Int.tdiv (i64.wrap ((i64.wrap (v13+v14))+1)) 2)) -1)),r1.2.1,r1.2.2.1,r1.2.2.2.1,r1.2.2.2.2.1,r1.2.2.2.2.2.1,r1.2.2.2.2.2.2.1,r1.2.2.2.2.2.2.2.1,r1.2.2.2.2.2.2.2.2.1,r1.2.2.2.2.2.2.2.2.2.1,r1.2.2.2.2.2.2.2.2.2.2)))else ck (az v24.length v24.length)<|some (.inr (v13,v15,v16,v17,v18,v19,v20,v21,v22,v23,v24)))
def ig(a9:List aH):Stp (Int×Int×gP) (Int×gP)
 |(v1,v2,v3,v4,v5,v6,v7,v8,v9,v10,v11,v12)=>(bif decide (v2<(a9.length:Int))then ck (cC v2 a9.length)<|(bo v12 ((0:Nat)+v2:Int)).bind λx1=>ck (az v12.length v12.length)<|(iter (eX n x1) n ((0:Int),v1,v3,v4,v5,v6,v7,v8,v9,v10,v11,v12)).bind λ(w1,w2,w3,w4,w5,w6,w7,w8,w9,wi,wg)=>ck (az wg.length wg.length)<|some (.inl (w1,(i64.wrap (v2+1)),w2,w3,w4,w5,w6,w7,w8,w9,wi,wg))else ck (az v12.length v12.length)<|some (.inr (v1,v3,v4,v5,v6,v7,v8,v9,v10,v11,v12)))
def jk(a0:List fA)(a1:List cB)(a2:List dO)(a3:List bJ)(a4:List fV)(a5:List eU)(a6:List bV)(a7:Int)(a8:List ax)(a9:List aH):Option (Int×gP):=
 ck (az a9.length a9.length)<|(iter (ig n a9) n ((1048576:Int),(0:Int),a0,a1,a2,a3,a4,a5,a6,a7,a8,a9)).bind λ(PC,PB,w14,w15,w16,w17,w18,w19,w20,w21,PA)=>ck (az PA.length PA.length)<|some (PC,PB,w14,w15,w16,w17,w18,w19,w20,w21,PA)
def ku(a0:aH)(a1:List fA)(a2:List cB)(a3:List dO)(a4:List bJ)(a5:List fV)(a6:List eU)(a7:List bV)(a8:Int)(a9:List ax)(j0:List aH):Option (Int×gP):=
 (kT n (bn.mk a1 a2 a3 a4 a5 a6 a7 a8) a0).bind λr1=>ck (az j0.length j0.length)<|some (r1,a1,a2,a3,a4,a5,a6,a7,a8,a9,j0)
def jJ(a9:List aH):Stp (Int×Int×gP) (Int×gP)
 |(v1,v2,v3,v4,v5,v6,v7,v8,v9,v10,v11,v12)=>(bif decide (v2<(a9.length:Int))then ck (cC v2 a9.length)<|(bo v12 ((0:Nat)+v2:Int)).bind λx1=>ck (az v12.length v12.length)<|(ku n x1 v3 v4 v5 v6 v7 v8 v9 v10 v11 v12).bind λr1=>ck (az r1.2.2.2.2.2.2.2.2.2.2.length r1.2.2.2.2.2.2.2.2.2.2.length)<|some (.inl ((i64.wrap (v1+r1.1)),(i64.wrap (v2+1)),r1.2.1,r1.2.2.1,r1.2.2.2.1,r1.2.2.2.2.1,r1.2.2.2.2.2.1,r1.2.2.2.2.2.2.1,r1.2.2.2.2.2.2.2.1,r1.2.2.2.2.2.2.2.2.1,r1.2.2.2.2.2.2.2.2.2.1,r1.2.2.2.2.2.2.2.2.2.2))else ck (az v12.length v12.length)<|some (.inr (v1,v3,v4,v5,v6,v7,v8,v9,v10,v11,v12)))
def qo(a0:List fA)(a1:List cB)(a2:List dO)(a3:List bJ)(a4:List fV)(a5:List eU)(a6:List bV)(a7:Int)(a8:List ax)(a9:List aH):Option (Int×gP):=
 ck (az a9.length a9.length)<|(iter (jJ n a9) n ((0:Int),(0:Int),a0,a1,a2,a3,a4,a5,a6,a7,a8,a9)).bind λ(w1,w2,w3,w4,w5,w6,w7,w8,w9,wi,wg)=>ck (az wg.length wg.length)<|some (w1,w2,w3,w4,w5,w6,w7,w8,w9,wi,wg)
def jl(a0:List fA)(a1:List cB)(a2:List dO)(a3:List bJ)(a4:List fV)(a5:List eU)(a6:List bV)(a7:Int)(a8:List ax)(a9:List aH):Option (Int×gP):=
 ck (az a9.length a9.length)<|(qo n a0 a1 a2 a3 a4 a5 a6 a7 a8 a9).bind λr1=>ck (az r1.2.2.2.2.2.2.2.2.2.2.length r1.2.2.2.2.2.2.2.2.2.2.length)<|some (r1.1,r1.2.1,r1.2.2.1,r1.2.2.2.1,r1.2.2.2.2.1,r1.2.2.2.2.2.1,r1.2.2.2.2.2.2.1,r1.2.2.2.2.2.2.2.1,r1.2.2.2.2.2.2.2.2.1,r1.2.2.2.2.2.2.2.2.2.1,r1.2.2.2.2.2.2.2.2.2.2)
def qG(r2:List aH):Stp (Int×gP) (gP)
 |(v10,v11,v12,v13,v14,v15,v16,v17,v18,v19,v20)=>(bif decide (v10<(r2.length:Int))then(ck (cC v10 r2.length)<|(bo r2 ((0:Nat)+v10:Int)).bind λx1=>((bif decide (v10<40)then(fZ x1).bind λr3=>some r3 else some false)).bind λv21=>(bif v21 then ck (bQ v20.length v20.length (sub ([x1]:List aH) 0 1).length 1 72)<|iA (v20++(sub ([x1]:List aH) 0 1)) λr4=>ck (az r4.length r4.length)<|some (v11,v12,v13,v14,v15,v16,v17,v18,v19,r4)else ck (az v20.length v20.length)<|some (v11,v12,v13,v14,v15,v16,v17,v18,v19,v20)):Option (gP)).bind λ(v22,v23,v24,v25,v26,v27,v28,v29,v30,v31)=>ck (az v31.length v31.length)<|some (.inl ((i64.wrap (v10+1)),v22,v23,v24,v25,v26,v27,v28,v29,v30,v31))else ck (az v20.length v20.length)<|some (.inr (v11,v12,v13,v14,v15,v16,v17,v18,v19,v20)))
def kz(a0:bn)(a1:bU)(a2:bq):Option (List bS):=
 ((nU n a1.area).bind λr1=>(bif r1 then some (a0.defs,a0.tables,a0.zones,a0.rules,a0.caps,a0.views,a0.ml,a0.hours,a1.area)else some (a0.defs,a0.tables,a0.zones,a0.rules,a0.caps,a0.views,a0.ml,a0.hours,([]:(List ax)))):Option ((List fA)×(List cB)×(List dO)×(List bJ)×(List fV)×(List eU)×(List bV)×Int×(List ax))).bind λ(v1,v2,v3,v4,v5,v6,v7,v8,v9)=>(nV n a2 0 (a2.phases.length:Int)).bind λr2=>ck (az 0 ([]:List aH).length)<|(iter (qG r2) n ((0:Int),v1,v2,v3,v4,v5,v6,v7,v8,v9,([]:List aH))).bind λ(w1,w2,w3,w4,w5,w6,w7,w8,w9,wi)=>ck (az wi.length wi.length)<|(mH n w1 w2 w3 w4 w5 w6 w7 w8 w9 wi).bind λr5=>ck (bQ 0 0 (sub ([(bS.mk (⟨#[97,114,101,97]⟩) r5.1)]:List bS) 0 1).length 1 24)<|iA ((sub ([(bS.mk (⟨#[97,114,101,97]⟩) r5.1)]:List bS) 0 1)) λr6=>ck (az r5.2.2.2.2.2.2.2.2.2.2.length r5.2.2.2.2.2.2.2.2.2.2.length)<|(iK n r5.2.1 r5.2.2.1 r5.2.2.2.1 r5.2.2.2.2.1 r5.2.2.2.2.2.1 r5.2.2.2.2.2.2.1 r5.2.2.2.2.2.2.2.1 r5.2.2.2.2.2.2.2.2.1 r5.2.2.2.2.2.2.2.2.2.1 r5.2.2.2.2.2.2.2.2.2.2).bind λr7=>ck (bQ r6.length r6.length (sub ([(bS.mk (⟨#[99,111,118,101,114]⟩) r7.1)]:List bS) 0 1).length 1 24)<|iA (r6++(sub ([(bS.mk (⟨#[99,111,118,101,114]⟩) r7.1)]:List bS) 0 1)) λr8=>ck (az r7.2.2.2.2.2.2.2.2.2.2.length r7.2.2.2.2.2.2.2.2.2.2.length)<|(kG n r7.2.1 r7.2.2.1 r7.2.2.2.1 r7.2.2.2.2.1 r7.2.2.2.2.2.1 r7.2.2.2.2.2.2.1 r7.2.2.2.2.2.2.2.1 r7.2.2.2.2.2.2.2.2.1 r7.2.2.2.2.2.2.2.2.2.1 r7.2.2.2.2.2.2.2.2.2.2).bind λr9=>ck (bQ r8.length r8.length (sub ([(bS.mk (⟨#[102,108,111,111,114]⟩) r9.1)]:List bS) 0 1).length 1 24)<|iA (r8++(sub ([(bS.mk (⟨#[102,108,111,111,114]⟩) r9.1)]:List bS) 0 1)) λvx=>ck (az r9.2.2.2.2.2.2.2.2.2.2.length r9.2.2.2.2.2.2.2.2.2.2.length)<|(jF n r9.2.1 r9.2.2.1 r9.2.2.2.1 r9.2.2.2.2.1 r9.2.2.2.2.2.1 r9.2.2.2.2.2.2.1 r9.2.2.2.2.2.2.2.1 r9.2.2.2.2.2.2.2.2.1 r9.2.2.2.2.2.2.2.2.2.1 r9.2.2.2.2.2.2.2.2.2.2).bind λp5=>ck (bQ vx.length vx.length (sub ([(bS.mk (⟨#[102,108,111,111,114,115]⟩) p5.1)]:List bS) 0 1).length 1 24)<|iA (vx++(sub ([(bS.mk (⟨#[102,108,111,111,114,115]⟩) p5.1)]:List bS) 0 1)) λG0=>ck (az p5.2.2.2.2.2.2.2.2.2.2.length p5.2.2.2.2.2.2.2.2.2.2.length)<|(jG n p5.2.1 p5.2.2.1 p5.2.2.2.1 p5.2.2.2.2.1 p5.2.2.2.2.2.1 p5.2.2.2.2.2.2.1 p5.2.2.2.2.2.2.2.1 p5.2.2.2.2.2.2.2.2.1 p5.2.2.2.2.2.2.2.2.2.1 p5.2.2.2.2.2.2.2.2.2.2).bind λsy=>ck (bQ G0.length G0.length (sub ([(bS.mk (⟨#[104,101,105,103,104,116]⟩) sy.1)]:List bS) 0 1).length 1 24)<|iA (G0++(sub ([(bS.mk (⟨#[104,101,105,103,104,116]⟩) sy.1)]:List bS) 0 1)) λGW=>ck (az sy.2.2.2.2.2.2.2.2.2.2.length sy.2.2.2.2.2.2.2.2.2.2.length)<|(kH n sy.2.1 sy.2.2.1 sy.2.2.2.1 sy.2.2.2.2.1 sy.2.2.2.2.2.1 sy.2.2.2.2.2.2.1 sy.2.2.2.2.2.2.2.1 sy.2.2.2.2.2.2.2.2.1 sy.2.2.2.2.2.2.2.2.2.1 sy.2.2.2.2.2.2.2.2.2.2).bind λsx=>ck (bQ GW.length GW.length (sub ([(bS.mk (⟨#[104,111,109,101,115]⟩) sx.1)]:List bS) 0 1).length 1 24)<|iA (GW++(sub ([(bS.mk (⟨#[104,111,109,101,115]⟩) sx.1)]:List bS) 0 1)) λr16=>ck (az sx.2.2.2.2.2.2.2.2.2.2.length sx.2.2.2.2.2.2.2.2.2.2.length)<|(iK n sx.2.1 sx.2.2.1 sx.2.2.2.1 sx.2.2.2.2.1 sx.2.2.2.2.2.1 sx.2.2.2.2.2.2.1 sx.2.2.2.2.2.2.2.1 sx.2.2.2.2.2.2.2.2.1 sx.2.2.2.2.2.2.2.2.2.1 sx.2.2.2.2.2.2.2.2.2.2).bind λsq=>ck (bQ r16.length r16.length (sub ([(bS.mk (⟨#[114,117,110,111,102,102]⟩) sq.1)]:List bS) 0 1).length 1 24)<|iA (r16++(sub ([(bS.mk (⟨#[114,117,110,111,102,102]⟩) sq.1)]:List bS) 0 1)) λGT=>ck (az sq.2.2.2.2.2.2.2.2.2.2.length sq.2.2.2.2.2.2.2.2.2.2.length)<|(jk n sq.2.1 sq.2.2.1 sq.2.2.2.1 sq.2.2.2.2.1 sq.2.2.2.2.2.1 sq.2.2.2.2.2.2.1 sq.2.2.2.2.2.2.2.1 sq.2.2.2.2.2.2.2.2.1 sq.2.2.2.2.2.2.2.2.2.1 sq.2.2.2.2.2.2.2.2.2.2).bind λso=>ck (bQ GT.length GT.length (sub ([(bS.mk (⟨#[115,101,116,98,97,99,107]⟩) so.1)]:List bS) 0 1).length 1 24)<|iA (GT++(sub ([(bS.mk (⟨#[115,101,116,98,97,99,107]⟩) so.1)]:List bS) 0 1)) λGS=>ck (az so.2.2.2.2.2.2.2.2.2.2.length so.2.2.2.2.2.2.2.2.2.2.length)<|(jl n so.2.1 so.2.2.1 so.2.2.2.1 so.2.2.2.2.1 so.2.2.2.2.2.1 so.2.2.2.2.2.2.1 so.2.2.2.2.2.2.2.1 so.2.2.2.2.2.2.2.2.1 so.2.2.2.2.2.2.2.2.2.1 so.2.2.2.2.2.2.2.2.2.2).bind λLt=>ck (bQ GS.length GS.length (sub ([(bS.mk (⟨#[116,114,97,102,102,105,99]⟩) Lt.1)]:List bS) 0 1).length 1 24)<|iA (GS++(sub ([(bS.mk (⟨#[116,114,97,102,102,105,99]⟩) Lt.1)]:List bS) 0 1)) λAE=>ck (az (sub AE 0 AE.length).length AE.length)<|some (sub AE 0 AE.length)
def yU(a0:Int):Option (Int×Bool):=
 ((bif (a0==0)then some (a0==0)else(bif (a0==1)then some (a0==1)else(bif (a0==2)then some (a0==2)else some (a0==3))))).bind λv1=>(bif v1 then some ((0:Int),true)else((bif (a0==9)then some (a0==9)else some (a0==15))).bind λv2=>(bif v2 then some ((1:Int),true)else(bif (a0==16)then some ((3:Int),true)else(bif decide (a0>=0)then some ((2:Int),(decide (a0<17)))else some ((2:Int),false)))))
def xR(n:Nat)(rc:(cu)->(Int)->Option Int)(a0:cu)(a1:Int):Stp (Int×Int) Int
 |(v2,v3)=>(bif decide (v3<(a0.args.length:Int))then(bo a0.args v3).bind λx1=>(rc (cu.mk x1.op x1.n x1.s x1.key x1.args) (i64.wrap (a1+1))).bind λr2=>some (.inl ((max v2 r2),(i64.wrap (v3+1))))else some (.inr v2))
def Ai(rc:(cu)->(Int)->Option Int)(a0:cu)(a1:Int):Option Int:=
 (yU a0.op).bind λr1=>((bif (!r1.2)then some true else(bif (r1.1 !=(a0.args.length:Int))then some true else some (decide (a1>=12))))).bind λv1=>(bif v1 then some (13:Int)else(iter (xR n rc a0 a1) n ((0:Int),(0:Int))).bind λw1=>some (i64.wrap (w1+1)))
def Es(rc:(cu)->(Int)->Option Int):bz xx:=⟨[.d (.st SI.Expr),.d (.int .i64)],[.d (.int .i64)],λa=>rc a.1 a.2.1,none⟩
def sI(n:Nat):Nat->(cu)->(Int)->Option Int
 | 0=>λ_ _=>none
 |m+1=>Ai n (sI n m)
def Qb(a0:cu)(a1:Int):Option Int:=sI n n a0 a1
def Ib(a0:cu):Option Bool:=
 (Qb n (cu.mk a0.op a0.n a0.s a0.key a0.args) 0).bind λr1=>some (decide (r1<=12))
def wW:Option (List ByteArray):=
 ck (az (sub ([⟨#[97,114,101,97]⟩,⟨#[99,111,118,101,114]⟩,⟨#[102,108,111,111,114]⟩,⟨#[102,108,111,111,114,115]⟩,⟨#[104,101,105,103,104,116]⟩,⟨#[104,111,109,101,115]⟩,⟨#[114,117,110,111,102,102]⟩,⟨#[115,101,116,98,97,99,107]⟩,⟨#[116,114,97,102,102,105,99]⟩]:List ByteArray) 0 9).length 9)<|some (sub ([⟨#[97,114,101,97]⟩,⟨#[99,111,118,101,114]⟩,⟨#[102,108,111,111,114]⟩,⟨#[102,108,111,111,114,115]⟩,⟨#[104,101,105,103,104,116]⟩,⟨#[104,111,109,101,115]⟩,⟨#[114,117,110,111,102,102]⟩,⟨#[115,101,116,98,97,99,107]⟩,⟨#[116,114,97,102,102,105,99]⟩]:List ByteArray) 0 9)
mutual
def toE:cu->ET
 |⟨op,_,s,_,args⟩=> .mk op s (Ic args)
def Ic:List cu->List ET
 |[]=>[]
 |x::xs=>toE x::Ic xs
end
def toD(d:fA):ByteArray×ET:=(d.name,.mk d.io d.kw (Ic d.eo))
def kU(a0:List fA):Option ((List fA)×(List (List Int))):=ck (Nat.ble (ri (a0.map toD)) 4000000)<|some (a0,oH (a0.map toD))
def qH(a0:List Int)(a1:Int):Option (List Int):=match a0 with
 |[x]=>ck (decide (0<=a1)&&decide (a1<=1000000000000))<|some (List.replicate a1.toNat x)
 |_=>none
def Sv(a0:List Int)(a1:Int):Stp Int (Unit⊕Int)
 |v1=>(bif decide (v1<(a0.length:Int))then(bo a0 v1).bind λx1=>(bif (a1==(x1:Int))then(some v1).map λa=> .inr (.inr a)else some (.inl (i64.wrap (v1+1))))else some (.inr (.inl ())))
def Et(a0:List Int)(a1:Int):Option Int:=
 dw (iter (Sv a0 a1) n (0:Int)) λ()=>some ((-1):Int)
def q9(a0:List Int)(a1:Int):Option Bool:=
 (Et n a0 a1).bind λr1=>some (decide (r1>=0))
def fT(a0:oU)(r1:List Int)(x2:Int):Stp (Int×Int×(List Int)×(List Int)) (Int×(List Int)×(List Int))
 |(v4,v5,v6,v7)=>(bif decide (v5<(a0.uses.length:Int))then((bo a0.uses v5).bind λx3=>(ck (cC v5 r1.length)<|(bo v6 ((0:Nat)+v5:Int)).bind λx4=>(bif decide (x4<0)then(q9 n x3 x2).bind λr2=>some r2 else some false)).bind λv8=>(bif v8 then ck (cC x2 r1.length)<|(bo v6 ((0:Nat)+x2:Int)).bind λx5=>ck (cC v5 r1.length)<|(bo v6 ((0:Nat)+v5:Int)).bind λx6=>ck (bQ (Vv ((v4:Int).toNat) v7).length (v7.length -(v4:Int).toNat) (sub ([v5]:List Int) 0 1).length 1 8)<|iA ((Vv ((v4:Int).toNat) v7)++(sub ([v5]:List Int) 0 1)) λr3=>ck (az (0+r3.length) r3.length)<|some ((0:Int),(v6.set ((0:Nat)+v5:Int).toNat (i64.wrap (x5+1))),r3)else ck (az (((v4:Int).toNat)+(v7.length -(v4:Int).toNat)) v7.length)<|some ((((v4:Int).toNat:Nat):Int),v6,v7)):Option (Int×(List Int)×(List Int))).bind λ(v9,v10,v11)=>ck (az (((v9:Int).toNat)+(v11.length -(v9:Int).toNat)) v11.length)<|some (.inl ((((v9:Int).toNat:Nat):Int),(i64.wrap (v5+1)),v10,v11))else ck (az (((v4:Int).toNat)+(v7.length -(v4:Int).toNat)) v7.length)<|some (.inr ((((v4:Int).toNat:Nat):Int),v6,v7)))
def dX(a0:oU)(r1:List Int):Stp (Int×(List Int)×(List Int)) (List Int)
 |(v1,v2,v3)=>(bif (decide ((((v3.length -(v1:Int).toNat):Nat):Int)>0))then ck (cC 0 (v3.length -(v1:Int).toNat))<|(bo v3 (((v1:Int).toNat:Nat)+0:Int)).bind λx2=>ck (AX 1 (((v3.length -(v1:Int).toNat):Nat):Int) (v3.length -(v1:Int).toNat))<|ck (az (((v1:Int).toNat+1)+((v3.length -(v1:Int).toNat) -1)) v3.length)<|(iter (fT n a0 r1 x2) n (((((v1:Int).toNat+1):Nat):Int),(0:Int),v2,v3)).bind λ(w1,w2,w3)=>ck (az (((w1:Int).toNat)+(w3.length -(w1:Int).toNat)) w3.length)<|some (.inl ((((w1:Int).toNat:Nat):Int),w2,w3))else some (.inr v2))
def jK(a0:oU)(a1:Int):Option (List Int):=
 ck (az (sub ([(-1)]:List Int) 0 1).length 1)<|(qH (sub ([(-1)]:List Int) 0 1) (a0.defs.length:Int)).bind λr1=>ck (cC a1 r1.length)<|(bo r1 ((0:Nat)+a1:Int)).bind λx1=>ck (az (0+1) ([a1]:List Int).length)<|(iter (dX n a0 r1) n ((0:Int),(r1.set ((0:Nat)+a1:Int).toNat 0),([a1]:List Int))).bind λw4=>ck (az (sub w4 0 r1.length).length r1.length)<|some (sub w4 0 r1.length)
def cmp_isNaN_string(a0:ByteArray):Option Bool:=
 some (!(ByteArray.toList a0==ByteArray.toList a0))
def nJ(a0:ByteArray)(a1:ByteArray):Option Int:=
 (cmp_isNaN_string a0).bind λr1=>(cmp_isNaN_string a1).bind λr2=>(bif r1 then(bif r2 then some (0:Int)else some ((-1):Int))else(bif r2 then some (1:Int)else(bif (Vr a0 a1)then some ((-1):Int)else(bif (!(Vr a0 a1 || ByteArray.toList a0==ByteArray.toList a1))then some (1:Int)else some (0:Int)))))
def lQ(a0:List ByteArray)(a1:List ByteArray):Stp Int (Unit⊕Int)
 |v1=>(bif decide (v1<(a0.length:Int))then(bo a0 v1).bind λx1=>(bif decide (v1>=(a1.length:Int))then(some (1:Int)).map λa=> .inr (.inr a)else(bo a1 v1).bind λx2=>(nJ x1 x2).bind λr1=>(bif (r1 !=0)then(some r1).map λa=> .inr (.inr a)else some (.inl (i64.wrap (v1+1)))))else some (.inr (.inl ())))
def lT(a0:List ByteArray)(a1:List ByteArray):Option Int:=
 dw (iter (lQ a0 a1) n (0:Int)) λ()=>(bif decide ((a0.length:Int)<(a1.length:Int))then some ((-1):Int)else some (0:Int))
def l9(a0:Int)(a1:List Bool):Option (Bool×(List Bool)):=
 ck (cC a0 a1.length)<|(bo a1 ((0:Nat)+a0:Int)).bind λx1=>ck (az a1.length a1.length)<|some ((!x1),a1)
def jL(a0:List Int):Stp (Int×(List Bool)) ((List Bool)⊕(Int×(List Bool)))
 |(v1,v2)=>(bif decide (v1<(a0.length:Int))then(bo a0 v1).bind λx1=>ck (az v2.length v2.length)<|(l9 x1 v2).bind λr1=>(bif r1.1 then(ck (az r1.2.length r1.2.length)<|some (v1,r1.2)).map λa=> .inr (.inr a)else ck (az r1.2.length r1.2.length)<|some (.inl ((i64.wrap (v1+1)),r1.2)))else ck (az v2.length v2.length)<|some (.inr (.inl v2)))
def mI(a0:List Int)(a1:List Bool):Option (Int×(List Bool)):=
 ck (az a1.length a1.length)<|dw (iter (jL a0) n ((0:Int),a1)) λw1=>ck (az w1.length w1.length)<|some (((-1):Int),w1)
def iq(a0:List Int)(a1:List Bool):Option (Bool×(List Bool)):=
 ck (az a1.length a1.length)<|(mI n a0 a1).bind λr1=>ck (az r1.2.length r1.2.length)<|some ((decide (r1.1>=0)),r1.2)
def iL(a0:oU):Stp (Int×Int×(List Bool)) (Int×(List Bool))
 |(v4,v5,v6)=>(bif decide (v5<(a0.uses.length:Int))then((bo a0.uses v5).bind λx1=>ck (az v6.length v6.length)<|(iq n x1 v6).bind λr1=>(ck (cC v5 r1.2.length)<|(bo r1.2 ((0:Nat)+v5:Int)).bind λx2=>(bif (!x2)then(bif (!r1.1)then(bif decide (v4<0)then some true else(bo a0.defs v5).bind λx3=>(bo a0.defs v4).bind λx4=>some (Vr x3.name x4.name))else some false)else some false)).bind λv7=>(bif v7 then ck (az r1.2.length r1.2.length)<|some (v5,r1.2)else ck (az r1.2.length r1.2.length)<|some (v4,r1.2)):Option (Int×(List Bool))).bind λ(v8,v9)=>ck (az v9.length v9.length)<|some (.inl (v8,(i64.wrap (v5+1)),v9))else ck (az v6.length v6.length)<|some (.inr (v4,v6)))
def kI(a0:oU):Stp (Int×(List Int)×(List Bool)) (List Int)
 |(v1,v2,v3)=>(bif decide (v1<(a0.defs.length:Int))then ck (az v3.length v3.length)<|(iter (iL n a0) n (((-1):Int),(0:Int),v3)).bind λ(w1,w2)=>ck (cC w1 w2.length)<|(bo w2 ((0:Nat)+w1:Int)).bind λx5=>ck (bQ v2.length v2.length (sub ([w1]:List Int) 0 1).length 1 8)<|iA (v2++(sub ([w1]:List Int) 0 1)) λr2=>ck (az r2.length r2.length)<|ck (az w2.length (w2.set ((0:Nat)+w1:Int).toNat true).length)<|some (.inl ((i64.wrap (v1+1)),r2,(w2.set ((0:Nat)+w1:Int).toNat true)))else ck (az v2.length v2.length)<|some (.inr v2))
def nK(a0:oU):Option (List Int):=
 ck (decide ((a0.defs.length:Int)<=(a0.defs.length:Int))&&(decide (0<=(a0.defs.length:Int))&&zG (a0.defs.length:Int) 1))<|ck (az 0 ([]:List Int).length)<|ck (az ((a0.defs.length:Int).toNat) (List.replicate (a0.defs.length:Int).toNat false).length)<|(iter (kI n a0) n ((0:Int),([]:List Int),(List.replicate (a0.defs.length:Int).toNat false))).bind λw3=>ck (az (sub w3 0 w3.length).length w3.length)<|some (sub w3 0 w3.length)
def iF(r1:List Int)(x2:List Int):Stp (Int×Int) Int
 |(v3,v4)=>(bif decide (v4<(x2.length:Int))then((bo x2 v4).bind λx3=>(ck (cC x3 r1.length)<|(bo r1 ((0:Nat)+x3:Int)).bind λx4=>(bif decide (x4>=0)then(bif decide (v3<0)then some true else ck (cC x3 r1.length)<|(bo r1 ((0:Nat)+x3:Int)).bind λx5=>ck (cC v3 r1.length)<|(bo r1 ((0:Nat)+v3:Int)).bind λx6=>some (decide (x5<(x6:Int))))else some false)).bind λv5=>(bif v5 then some x3 else some v3):Option Int).bind λv6=>some (.inl (v6,(i64.wrap (v4+1))))else some (.inr v3))
def kM(a0:Int)(a1:List fA)(a2:List (List Int))(r1:List Int):Stp (Int×(List ByteArray)) (Unit⊕((List fA)×(List (List Int))×(List ByteArray)))
 |(v1,v2)=>(bo a1 v1).bind λx1=>ck (bQ v2.length v2.length (sub ([x1.name]:List ByteArray) 0 1).length 1 16)<|iA (v2++(sub ([x1.name]:List ByteArray) 0 1)) λr2=>(bo a2 v1).bind λx2=>(iter (iF r1 x2) n (((-1):Int),(0:Int))).bind λw1=>(bif decide (w1<0)then(ck (az 0 ([]:List ByteArray).length)<|some (a1,a2,([]:List ByteArray))).map λa=> .inr (.inr a)else(bif (w1==(a0:Int))then(ck (!(r2.length==0)&&az r2.length r2.length)<|some (a1,a2,r2)).map λa=> .inr (.inr a)else ck (az r2.length r2.length)<|some (.inl (w1,r2))))
def jM(a0:Int)(a1:List fA)(a2:List (List Int)):Option ((List fA)×(List (List Int))×(List ByteArray)):=
 (jK n (oU.mk a1 a2) a0).bind λr1=>ck (az 0 ([]:List ByteArray).length)<|dw (iter (kM n a0 a1 a2 r1) n (a0,([]:List ByteArray))) λ()=>none
def gU(a0:List fA):Stp (Int×(List fA)×(List (List Int))×(List ByteArray)) ((List fA)×(List (List Int))×(List ByteArray))
 |(v1,v2,v3,v4)=>(bif decide (v1<(a0.length:Int))then((jM n v1 v2 v3).bind λr1=>((bif r1.2.2.length==0 then some true else some false)).bind λv5=>(bif v5 then ck (az v4.length v4.length)<|some (r1.1,r1.2.1,v4)else((bif v4.length==0 then some true else(bif decide ((r1.2.2.length:Int)<(v4.length:Int))then some true else(bif ((r1.2.2.length:Int)==(v4.length:Int))then ck (az (sub r1.2.2 0 r1.2.2.length).length r1.2.2.length)<|ck (az (sub v4 0 v4.length).length v4.length)<|(lT n (sub r1.2.2 0 r1.2.2.length) (sub v4 0 v4.length)).bind λr2=>some (decide (r2<0))else some false)))).bind λv6=>(bif v6 then ck (az r1.2.2.length r1.2.2.length)<|some (r1.1,r1.2.1,r1.2.2)else ck (az v4.length v4.length)<|some (r1.1,r1.2.1,v4))):Option ((List fA)×(List (List Int))×(List ByteArray))).bind λ(v7,v8,v9)=>ck (az v9.length v9.length)<|some (.inl ((i64.wrap (v1+1)),v7,v8,v9))else ck (az v4.length v4.length)<|some (.inr (v2,v3,v4)))
def iW(a0:List fA)(a1:List (List Int)):Option ((List fA)×(List (List Int))×(List ByteArray)):=
 ck (az 0 ([]:List ByteArray).length)<|(iter (gU n a0) n ((0:Int),a0,a1,([]:List ByteArray))).bind λ(w1,w2,w3)=>ck (az w3.length w3.length)<|some (w1,w2,w3)
def nW(r1:List ByteArray):Stp (Int×(List (ByteArray×Bool))) (List (ByteArray×Bool))
 |(v1,v2)=>(bif decide (v1<(r1.length:Int))then ck (cC v1 r1.length)<|(bo r1 ((0:Nat)+v1:Int)).bind λx1=>some (.inl ((i64.wrap (v1+1)),(rG lf x1 true v2)))else some (.inr v2))
def kV(a0:bn):Stp (Int×(List (ByteArray×Bool))) (Unit⊕((List Int)×(List ByteArray)×Int))
 |(v3,v4)=>(bif decide (v3<(a0.defs.length:Int))then(bo a0.defs v3).bind λx2=>(bif ((fO lf x2.name v4).getD false)then(some (([]:(List Int)),([]:(List ByteArray)),(5:Int))).map λa=> .inr (.inr a)else some (.inl ((i64.wrap (v3+1)),(rG lf x2.name true v4))))else some (.inr (.inl ())))
def nL(a0:bn):Option ((List Int)×(List ByteArray)×Int):=
 (wW).bind λr1=>(iter (nW r1) n ((0:Int),([]:(List (ByteArray×Bool))))).bind λw1=>dw (iter (kV a0) n ((0:Int),w1)) λ()=>(kU a0.defs).bind λr2=>(iW n r2.1 r2.2).bind λr3=>((bif r3.2.2.length==0 then some false else some true)).bind λv5=>(bif v5 then ck (az (sub r3.2.2 0 r3.2.2.length).length r3.2.2.length)<|some (([]:(List Int)),(sub r3.2.2 0 r3.2.2.length),(16:Int))else(nK n (oU.mk r3.1 r3.2.1)).bind λr4=>ck (az (sub r4 0 r4.length).length r4.length)<|some ((sub r4 0 r4.length),([]:(List ByteArray)),(0:Int)))
def Aj(a0:cB)(a1:cu):Option Bool:=
 some (ByteArray.toList a0.name==ByteArray.toList a1.s)
def FI(a0:List cB)(a1:(cB×Unit)->Option Bool):Stp Int (Unit⊕Int)
 |v1=>(bif decide (v1<(a0.length:Int))then(bo a0 v1).bind λx1=>(a1 (x1,())).bind λr1=>(bif r1 then(some v1).map λa=> .inr (.inr a)else some (.inl (i64.wrap (v1+1))))else some (.inr (.inl ())))
def rO(a0:List cB)(a1:(cB×Unit)->Option Bool):Option Int:=
 dw (iter (FI a0 a1) n (0:Int)) λ()=>some ((-1):Int)
def Ak(a0:bS)(a1:cu):Option Bool:=
 some (ByteArray.toList a0.name==ByteArray.toList a1.key)
def yV(a0:Bool):Option Int:=
 (bif a0 then some (1:Int)else some (0:Int))
def wK(a0:Int)(a1:Int):Option Int:=
 (bif (a1==0)then some (0:Int)else ck (a1 !=0)<|(ck (a1 !=0)<|((bif ((Int.tmod a0 a1) !=0)then some (!((decide ((Int.tmod a0 a1)<0))==(decide (a1<0))))else some false)).bind λv1=>(bif v1 then some (i64.wrap ((i64.wrap (Int.tdiv a0 a1)) -1))else some (i64.wrap (Int.tdiv a0 a1))):Option Int).bind λv2=>some v2)
def JE(a0:Int)(a1:Int)(a2:Int):Option Int:=
 (bif (a0==4)then some (i64.wrap (a1+a2))else(bif (a0==5)then some (i64.wrap (a1 -a2))else(bif (a0==6)then some (i64.wrap (a1*a2))else(bif (a0==7)then(wK a1 a2).bind λr1=>some r1 else(bif (a0==8)then(bif (a2==0)then some (0:Int)else(wK a1 a2).bind λr2=>some (i64.wrap (a1 -(i64.wrap (r2*a2)))))else(bif (a0==10)then(yV (a1==(a2:Int))).bind λr3=>some r3 else(bif (a0==11)then(yV (decide (a1<(a2:Int)))).bind λr4=>some r4 else(bif (a0==12)then(yV (decide (a1<=(a2:Int)))).bind λr5=>some r5 else(bif (a0==13)then(bif (a1 !=0)then(yV (a2 !=0)).bind λr6=>some r6 else(yV false).bind λr7=>some r7)else(bif (a1 !=0)then(yV true).bind λr8=>some r8 else(yV (a2 !=0)).bind λr9=>some r9))))))))))
def jm(a0:List fA)(a1:List cB)(a2:List dO)(a3:List bJ)(a4:List fV)(a5:List eU)(a6:List bV)(a7:Int)(a8:List ByteArray)(a9:cu)(j0:List (ByteArray×Int)):Option (Int×(List (ByteArray×Int))):=
 (rO n a1 (λ (y1:cB×Unit)=>Aj y1.1 (cu.mk a9.op a9.n a9.s a9.key a9.args))).bind λr1=>(bif decide (r1<0)then some ((0:Int),j0)else(bo a1 r1).bind λx1=>(ko n x1.rows (λ (y2:bS×Unit)=>Ak y2.1 (cu.mk a9.op a9.n a9.s a9.key a9.args))).bind λr2=>(bif decide (r2>=0)then(bo x1.rows r2).bind λx2=>some (x2.n,j0)else some (x1.sk,j0)))
def fw(n:Nat)(rc:((List fA))->((List cB))->((List dO))->((List bJ))->((List fV))->((List eU))->((List bV))->(Int)->((List ByteArray))->(cu)->((List (ByteArray×Int)))->Option (Int×(List (ByteArray×Int))))(a0:List fA)(a1:List cB)(a2:List dO)(a3:List bJ)(a4:List fV)(a5:List eU)(a6:List bV)(a7:Int)(a8:List ByteArray)(a9:cu):Stp (Int×(List (ByteArray×Int))×(List Int)) ((List (ByteArray×Int))×(List Int))
 |(v1,v2,v3)=>(bif decide (v1<(a9.args.length:Int))then((bo a9.args v1).bind λx1=>((bif (a9.op==16)then(bif decide (v1>0)then ck (cC 0 v3.length)<|(bo v3 ((0:Nat)+0:Int)).bind λx2=>some (!((x2 !=0)==(v1==1)))else some false)else some false)).bind λv4=>(bif v4 then ck (bQ v3.length v3.length (sub ([0]:List Int) 0 1).length 1 8)<|iA (v3++(sub ([0]:List Int) 0 1)) λr1=>ck (az r1.length r1.length)<|some (v2,r1)else(rc a0 a1 a2 a3 a4 a5 a6 a7 a8 (cu.mk x1.op x1.n x1.s x1.key x1.args) v2).bind λr2=>ck (bQ v3.length v3.length (sub ([r2.1]:List Int) 0 1).length 1 8)<|iA (v3++(sub ([r2.1]:List Int) 0 1)) λr3=>ck (az r3.length r3.length)<|some (r2.2,r3)):Option ((List (ByteArray×Int))×(List Int))).bind λ(v5,v6)=>ck (az v6.length v6.length)<|some (.inl ((i64.wrap (v1+1)),v5,v6))else ck (az v3.length v3.length)<|some (.inr (v2,v3)))
def fE(rc:((List fA))->((List cB))->((List dO))->((List bJ))->((List fV))->((List eU))->((List bV))->(Int)->((List ByteArray))->(cu)->((List (ByteArray×Int)))->Option (Int×(List (ByteArray×Int))))(a0:List fA)(a1:List cB)(a2:List dO)(a3:List bJ)(a4:List fV)(a5:List eU)(a6:List bV)(a7:Int)(a8:List ByteArray)(a9:cu)(j0:List (ByteArray×Int)):Option (Int×(List (ByteArray×Int))):=
 ck (az 0 ([]:List Int).length)<|(iter (fw n rc a0 a1 a2 a3 a4 a5 a6 a7 a8 a9) n ((0:Int),j0,([]:List Int))).bind λ(w1,w2)=>(bif (a9.op==0)then some (a9.n,w1)else(bif (a9.op==1)then some (((fO lf a9.s w1).getD 0),w1)else(bif (a9.op==2)then(jm n a0 a1 a2 a3 a4 a5 a6 a7 a8 (cu.mk a9.op a9.n a9.s a9.key a9.args) w1).bind λr4=>some (r4.1,r4.2)else(bif (a9.op==3)then(fJ n a8 a9.s).bind λr5=>(yV r5).bind λr6=>some (r6,w1)else(bif (a9.op==9)then ck (cC 0 w2.length)<|(bo w2 ((0:Nat)+0:Int)).bind λx3=>some ((i64.wrap (0 -x3)),w1)else(bif (a9.op==15)then ck (cC 0 w2.length)<|(bo w2 ((0:Nat)+0:Int)).bind λx4=>(yV (x4==0)).bind λr7=>some (r7,w1)else(bif (a9.op==16)then ck (cC 0 w2.length)<|(bo w2 ((0:Nat)+0:Int)).bind λx5=>(bif (x5 !=0)then ck (cC 1 w2.length)<|(bo w2 ((0:Nat)+1:Int)).bind λx6=>some (x6,w1)else ck (cC 2 w2.length)<|(bo w2 ((0:Nat)+2:Int)).bind λx7=>some (x7,w1))else ck (cC 0 w2.length)<|(bo w2 ((0:Nat)+0:Int)).bind λx8=>ck (cC 1 w2.length)<|(bo w2 ((0:Nat)+1:Int)).bind λx9=>(JE a9.op x8 x9).bind λr8=>some (r8,w1))))))))
def Eu(rc:((List fA))->((List cB))->((List dO))->((List bJ))->((List fV))->((List eU))->((List bV))->(Int)->((List ByteArray))->(cu)->((List (ByteArray×Int)))->Option (Int×(List (ByteArray×Int)))):cX xx:=⟨[(.a [(.v (.sl (.st SI.Def))),(.v (.sl (.st SI.Table))),(.v (.sl (.st SI.Zone))),(.v (.sl (.st SI.Rule))),(.v (.sl (.st SI.Cap))),(.v (.sl (.st SI.View))),(.v (.sl (.st SI.gz))),(.v (.int .i64)),(.mp 0),(.v (.sl .str))]),(.v (.st SI.Expr))],[(0,.m .str (.int .i64))],[(.v (.int .i64))],[(0,.m .str (.int .i64))],λv=>rc (v.1) (v.2.1) (v.2.2.1) (v.2.2.2.1) (v.2.2.2.2.1) (v.2.2.2.2.2.1) (v.2.2.2.2.2.2.1) (v.2.2.2.2.2.2.2.1) (v.2.2.2.2.2.2.2.2.1) (v.2.2.2.2.2.2.2.2.2.1) (v.2.2.2.2.2.2.2.2.2.2)⟩
def jN(rc:((List fA))->((List cB))->((List dO))->((List bJ))->((List fV))->((List eU))->((List bV))->(Int)->((List ByteArray))->(cu)->((List (ByteArray×Int)))->Option (Int×(List (ByteArray×Int)))):bz xx:=⟨[],[.d .bool],λ_=>none,some (Eu rc)⟩
def cK(n:Nat):Nat->((List fA))->((List cB))->((List dO))->((List bJ))->((List fV))->((List eU))->((List bV))->(Int)->((List ByteArray))->(cu)->((List (ByteArray×Int)))->Option (Int×(List (ByteArray×Int)))
 | 0=>λ_ _ _ _ _ _ _ _ _ _ _=>none
 |m+1=>fE n (cK n m)
def gm(a0:List fA)(a1:List cB)(a2:List dO)(a3:List bJ)(a4:List fV)(a5:List eU)(a6:List bV)(a7:Int)(a8:List ByteArray)(a9:cu)(j0:List (ByteArray×Int)):Option (Int×(List (ByteArray×Int))):=cK n n a0 a1 a2 a3 a4 a5 a6 a7 a8 a9 j0
def jY(n:Nat)(a1:List bS):Stp (Int×(List (ByteArray×Int))×(List (ByteArray×Bool))) ((List (ByteArray×Int))×(List (ByteArray×Bool)))
 |(v1,v2,v3)=>(bif decide (v1<(a1.length:Int))then((bo a1 v1).bind λx1=>(bif (!((fO lf x1.name v3).getD false))then some ((rG lf x1.name x1.n v2),(rG lf x1.name true v3))else some (v2,v3)):Option ((List (ByteArray×Int))×(List (ByteArray×Bool)))).bind λ(v4,v5)=>some (.inl ((i64.wrap (v1+1)),v4,v5))else some (.inr (v2,v3)))
def gJ(a0:bn)(a2:List ByteArray)(w2:List (ByteArray×Bool))(r1:(List Int)×(List ByteArray)×Int):Stp (Int×(List (ByteArray×Int))×(List Int)) ((List (ByteArray×Int))×(List Int))
 |(v6,v7,v8)=>(bif decide (v6<(r1.1.length:Int))then(ck (cC v6 r1.1.length)<|(bo r1.1 ((0:Nat)+v6:Int)).bind λx2=>(bo a0.defs x2).bind λx3=>((Ib n (cu.mk x3.io x3.lw x3.kw x3.ia x3.eo)).bind λr2=>(bif r2 then(gm n a0.defs a0.tables a0.zones a0.rules a0.caps a0.views a0.ml a0.hours a2 (cu.mk x3.io x3.lw x3.kw x3.ia x3.eo) v7).bind λr3=>ck (cC x2 ((a0.defs.length:Int).toNat))<|(bo v8 ((0:Nat)+x2:Int)).bind λx4=>some (r3.2,(v8.set ((0:Nat)+x2:Int).toNat r3.1))else some (v7,v8)):Option ((List (ByteArray×Int))×(List Int))).bind λ(v9,v10)=>(bif (!((fO lf x3.name w2).getD false))then ck (cC x2 ((a0.defs.length:Int).toNat))<|(bo v10 ((0:Nat)+x2:Int)).bind λx5=>some ((rG lf x3.name x5 v9),v10)else some (v9,v10)):Option ((List (ByteArray×Int))×(List Int))).bind λ(v11,v12)=>some (.inl ((i64.wrap (v6+1)),v11,v12))else some (.inr (v7,v8)))
def mh(a0:bn)(a1:List bS)(a2:List ByteArray):Option ((List fA)×(List cB)×(List dO)×(List bJ)×(List fV)×(List eU)×(List bV)×Int×(List ByteArray)×(List (ByteArray×Int))×(List Int)):=
 (iter (jY n a1) n ((0:Int),([]:(List (ByteArray×Int))),([]:(List (ByteArray×Bool))))).bind λ(w1,w2)=>ck (decide ((a0.defs.length:Int)<=(a0.defs.length:Int))&&(decide (0<=(a0.defs.length:Int))&&zG (a0.defs.length:Int) 8))<|(nL n a0).bind λr1=>(bif (r1.2.2 !=0)then ck (az ((a0.defs.length:Int).toNat) (List.replicate (a0.defs.length:Int).toNat (0:Int)).length)<|some (a0.defs,a0.tables,a0.zones,a0.rules,a0.caps,a0.views,a0.ml,a0.hours,a2,w1,(List.replicate (a0.defs.length:Int).toNat (0:Int)))else(iter (gJ n a0 a2 w2 r1) n ((0:Int),w1,(List.replicate (a0.defs.length:Int).toNat (0:Int)))).bind λ(w3,w4)=>ck (az ((a0.defs.length:Int).toNat) w4.length)<|some (a0.defs,a0.tables,a0.zones,a0.rules,a0.caps,a0.views,a0.ml,a0.hours,a2,w3,w4))
def vL(a0:bn)(a1:List bS)(a2:List ByteArray)(a3:cu):Option Int:=
 (Ib n (cu.mk a3.op a3.n a3.s a3.key a3.args)).bind λr1=>(bif (!r1)then some (0:Int)else(mh n a0 a1 a2).bind λr2=>(gm n r2.1 r2.2.1 r2.2.2.1 r2.2.2.2.1 r2.2.2.2.2.1 r2.2.2.2.2.2.1 r2.2.2.2.2.2.2.1 r2.2.2.2.2.2.2.2.1 r2.2.2.2.2.2.2.2.2.1 (cu.mk a3.op a3.n a3.s a3.key a3.args) r2.2.2.2.2.2.2.2.2.2.1).bind λr3=>some r3.1)
def xS(a0:aH):Option (List fQ):=
 ck (az (sub ([(ax.mk a0.bu a0.ca a0.br a0.b9)]:List ax) 0 1).length 1)<|ck (az (sub ([(fQ.mk a0.er a0.eb (sub ([(ax.mk a0.bu a0.ca a0.br a0.b9)]:List ax) 0 1))]:List fQ) 0 1).length 1)<|some (sub ([(fQ.mk a0.er a0.eb (sub ([(ax.mk a0.bu a0.ca a0.br a0.b9)]:List ax) 0 1))]:List fQ) 0 1)
def FJ(a0:List dV)(a1:(dV×Unit)->Option Bool):Stp Int (Unit⊕Int)
 |v1=>(bif decide (v1<(a0.length:Int))then(bo a0 v1).bind λx1=>(a1 (x1,())).bind λr1=>(bif r1 then(some v1).map λa=> .inr (.inr a)else some (.inl (i64.wrap (v1+1))))else some (.inr (.inl ())))
def rP(a0:List dV)(a1:(dV×Unit)->Option Bool):Option Int:=
 dw (iter (FJ a0 a1) n (0:Int)) λ()=>some ((-1):Int)
def kJ(a0:List dV)(a1:(dV×Unit)->Option Bool):Option Bool:=
 (rP n a0 a1).bind λr1=>some (decide (r1>=0))
def nM(a0:Int)(a1:Int)(a2:Int):Option Bool:=
 (bif decide (a1<=(a0:Int))then some (decide (a0<=(a2:Int)))else some false)
def Al(a0:dV):Option Bool:=
 (nM a0.side 0 3).bind λr1=>(bif r1 then(nM a0.base 0 4096).bind λr2=>(bif r2 then(nM a0.num 0 4096).bind λr3=>(bif r3 then(nM a0.den 1 4096).bind λr4=>some r4 else some false)else some false)else some false)
def tX(a0:dV):Option Bool:=
 (Al a0).bind λr1=>some (!r1)
def Am(a0:ax)(a1:List dV):Option Bool:=
 (nD a0).bind λr1=>(bif r1 then(kJ n a1 (λ (y1:dV×Unit)=>tX y1.1)).bind λr2=>some (!r2)else some false)
def Uz(a0:List ax)(a1:List ax):Option Bool:=
 (ow n a0 a1).bind λr1=>some r1
def Ao(a0:List fQ):Stp Int (Unit⊕Bool)
 |v1=>(bif decide (v1<(a0.length:Int))then dw ((bo a0 v1).bind λx1=>((bif decide (x1.z0<0)then some true else(bif decide (x1.z0>=(x1.z1:Int))then some true else(bif decide (x1.z1>4096)then some true else(bif ((x1.area.length:Int)==0)then some true else(nU n x1.area).bind λr1=>some (!r1)))))).bind λv2=>(bif v2 then((some false).map λa=> .inr (.inr a)).map .inr else(bif (v1==0)then some (.inl ())else(bo a0 (i64.wrap (v1 -1))).bind λx2=>((bif decide (x2.z1>(x1.z0:Int))then some true else(bif (x2.z1==(x1.z0:Int))then(Uz n x2.area x1.area).bind λr2=>some r2 else some false))).bind λv3=>(bif v3 then((some false).map λa=> .inr (.inr a)).map .inr else some (.inl ())))):Option ((Unit)⊕_)) λ()=>some (.inl (i64.wrap (v1+1)))else some (.inr (.inl ())))
def Ie(a0:List fQ):Option Bool:=
 (bif decide ((a0.length:Int)>80)then some false else dw (iter (Ao n a0) n (0:Int)) λ()=>some true)
def wX(a0:ax)(a1:Int)(a2:Int):Option Nq:=
 some (Nq.mk (i64.wrap (a1 -a0.x0)) (i64.wrap ((i64.wrap (a0.x1 -1)) -a1)) (i64.wrap (a2 -a0.y0)) (i64.wrap ((i64.wrap (a0.y1 -1)) -a2)))
def tY(a0:Int)(a1:Int):Option Int:=
 ck (a1 !=0)<|(ck (a1 !=0)<|(bif decide ((Int.tmod a0 a1)<0)then some (i64.wrap ((i64.wrap (Int.tdiv a0 a1)) -1))else some (i64.wrap (Int.tdiv a0 a1))):Option Int).bind λv1=>some v1
def xU(a0:ax)(a1:List dV)(a2:Int)(a3:Int)(r1:Nq):Stp (Int×Int) Int
 |(v1,v2)=>(bif decide (v2<(a1.length:Int))then(bo a1 v2).bind λx1=>ck (cC x1.side 4)<|(bo ([r1.a0,r1.a1,r1.a2,r1.a3]:List Int) x1.side).bind λx2=>(tY (i64.wrap (x1.num*x2)) x1.den).bind λr2=>some (.inl ((min v1 (i64.wrap (x1.base+r2))),(i64.wrap (v2+1))))else some (.inr v1))
def JF(a0:ax)(a1:List dV)(a2:Int)(a3:Int):Option Int:=
 (wX a0 a2 a3).bind λr1=>(iter (xU a0 a1 a2 a3 r1) n ((4096:Int),(0:Int))).bind λw1=>some w1
def nX(a0:ax)(a1:List dV)(x1:ax)(x2:Int):Stp (Int×Int) Int
 |(v5,v6)=>(bif decide (v6<2)then ck (cC v6 2)<|(bo ([x1.y0,(i64.wrap (x1.y1 -1))]:List Int) ((0:Nat)+v6:Int)).bind λx3=>(JF n a0 a1 x2 x3).bind λr1=>some (.inl ((min v5 r1),(i64.wrap (v6+1))))else some (.inr v5))
def nY(a0:ax)(a1:List dV)(x1:ax):Stp (Int×Int) Int
 |(v3,v4)=>(bif decide (v4<2)then ck (cC v4 2)<|(bo ([x1.x0,(i64.wrap (x1.x1 -1))]:List Int) ((0:Nat)+v4:Int)).bind λx2=>(iter (nX n a0 a1 x1 x2) n (v3,(0:Int))).bind λw1=>some (.inl (w1,(i64.wrap (v4+1))))else some (.inr v3))
def rf(a0:ax)(a1:List dV)(a2:List ax):Stp (Int×Int) Int
 |(v1,v2)=>(bif decide (v2<(a2.length:Int))then(bo a2 v2).bind λx1=>(iter (nY n a0 a1 x1) n (v1,(0:Int))).bind λw2=>some (.inl (w2,(i64.wrap (v2+1))))else some (.inr v1))
def xV(a0:ax)(a1:List dV)(a2:List ax):Option Int:=
 (iter (rf n a0 a1 a2) n ((4096:Int),(0:Int))).bind λw3=>some w3
def rq(a0:fQ)(a1:ax)(a2:List dV):Option Bool:=
 (xV n a1 a2 a0.area).bind λr1=>some (decide (r1<(a0.z1:Int)))
def lU(a0:List fQ)(a1:(fQ×Unit)->Option Bool):Stp Int (Unit⊕Int)
 |v1=>(bif decide (v1<(a0.length:Int))then(bo a0 v1).bind λx1=>(a1 (x1,())).bind λr1=>(bif r1 then(some v1).map λa=> .inr (.inr a)else some (.inl (i64.wrap (v1+1))))else some (.inr (.inl ())))
def tZ(a0:List fQ)(a1:(fQ×Unit)->Option Bool):Option Int:=
 dw (iter (lU a0 a1) n (0:Int)) λ()=>some ((-1):Int)
def jb(a0:List fQ)(a1:(fQ×Unit)->Option Bool):Option Bool:=
 (tZ n a0 a1).bind λr1=>some (decide (r1>=0))
def xW(a0:ax)(a1:List dV)(a2:List fQ):Option Bool:=
 ((Am n a0 a1).bind λr1=>(bif (!r1)then some true else(Ie n a2).bind λr2=>some (!r2))).bind λv1=>(bif v1 then some false else(jb n a2 (λ (y1:fQ×Unit)=>rq n y1.1 a0 a1)).bind λr3=>some (!r3))
def jO(a0:aH)(a1:ax)(a2:bJ):Option Bool:=
 (xS a0).bind λr1=>ck (az (sub ([(dV.mk a2.gR a2.gS a2.jn a2.jp)]:List dV) 0 1).length 1)<|ck (az (sub r1 0 r1.length).length r1.length)<|(xW n a1 (sub ([(dV.mk a2.gR a2.gS a2.jn a2.jp)]:List dV) 0 1) (sub r1 0 r1.length)).bind λr2=>some (!r2)
def gK(a0:l6)(a1:(aH×Unit)->Option Bool):Option Bool:=
 (fK n a0.cy a1).bind λr1=>some r1
def jP(a0:aH)(a1:bJ):Option Bool:=
 ck (decide (0<=a0.use)&&decide (a0.use<=i64.bits))<|some ((bits .and .i64 a1.uses (i64.wrap (1*2 ^ (a0.use:Int).toNat)))==0)
def alv(a0:ax)(a1:ax):Option (Int×Int):=
 some ((i64.wrap ((max a0.x0 a1.x0) -(min a0.x1 a1.x1))),(i64.wrap ((max a0.y0 a1.y0) -(min a0.y1 a1.y1))))
def MY(a0:ax)(a1:ax):Option Int:=
 ((nD a0).bind λr1=>(bif (!r1)then some true else(nD a1).bind λr2=>some (!r2))).bind λv1=>(bif v1 then some ((-1):Int)else(alv a0 a1).bind λr3=>some (max (max (0:Int) r3.1) r3.2))
def dU(a0:iD)(a1:l6)(a2:aH)(a3:bJ):Option Bool:=
 ((bif (a0.lot==(a1.cD:Int))then some true else(nD (ax.mk a0.ef a0.ed a0.ee a0.ec)).bind λr1=>(bif (!r1)then some true else(bif decide (a0.fc<0)then some true else some (decide (a0.fc>=6)))))).bind λv1=>(bif v1 then some false else((bif (a2.use==(a3.uses:Int))then(bif (a0.fc==(a3.other:Int))then some true else(bif (a2.use==(a3.other:Int))then some (a0.fc==(a3.uses:Int))else some false))else(bif (a2.use==(a3.other:Int))then some (a0.fc==(a3.uses:Int))else some false))).bind λv2=>(bif v2 then(MY (ax.mk a2.bu a2.ca a2.br a2.b9) (ax.mk a0.ef a0.ed a0.ee a0.ec)).bind λr2=>some (decide (r2<(a3.n:Int)))else some false))
def Ew(a0:List iD)(a1:(iD×Unit)->Option Bool):Stp Int (Unit⊕Int)
 |v1=>(bif decide (v1<(a0.length:Int))then(bo a0 v1).bind λx1=>(a1 (x1,())).bind λr1=>(bif r1 then(some v1).map λa=> .inr (.inr a)else some (.inl (i64.wrap (v1+1))))else some (.inr (.inl ())))
def qp(a0:List iD)(a1:(iD×Unit)->Option Bool):Option Int:=
 dw (iter (Ew a0 a1) n (0:Int)) λ()=>some ((-1):Int)
def jQ(a0:List iD)(a1:(iD×Unit)->Option Bool):Option Bool:=
 (qp n a0 a1).bind λr1=>some (decide (r1>=0))
def rQ(a0:l6)(a1:bJ)(a2:aH):Option Bool:=
 (jQ n a0.fS (λ (y1:iD×Unit)=>dU y1.1 a0 a2 a1)).bind λr1=>some r1
def jR(a0:aH)(a1:l6)(a2:bJ):Option Bool:=
 (rQ n a1 a2 a0).bind λr1=>some r1
def mJ(a0:l6)(a1:bJ):Option Bool:=
 (bif (a1.kind==0)then(kz n (bn.mk a0.fj a0.eC a0.eR a0.eV a0.fm a0.eS a0.gc a0.eW) (bU.mk a0.s6 a0.mL a0.km a0.oY) (bq.mk a0.cD a0.cN)).bind λr1=>ck (az (sub r1 0 r1.length).length r1.length)<|(vL n (bn.mk a0.fj a0.eC a0.eR a0.eV a0.fm a0.eS a0.gc a0.eW) (sub r1 0 r1.length) a0.zones (cu.mk a1.kB a1.mn a1.mm a1.i9 a1.fW)).bind λr2=>some (r2==0)else(bif (a1.kind==1)then(CG n a0.km).bind λr3=>(gK n a0 (λ (y1:aH×Unit)=>jO n y1.1 r3.1 a1)).bind λr4=>some r4 else(bif (a1.kind==2)then(gK n a0 (λ (y2:aH×Unit)=>jP y2.1 a1)).bind λr5=>some r5 else(bif (a1.kind==3)then(gK n a0 (λ (y3:aH×Unit)=>jR n y3.1 a0 a1)).bind λr6=>some r6 else some false))))
def vM(a0:ax)(a1:ax):Option Bool:=
 (bif decide ((max a1.x0 a0.x0)<((min a1.x1 a0.x1):Int))then some (decide ((max a1.y0 a0.y0)<((min a1.y1 a0.y1):Int)))else some false)
def Ig(a0:List ax)(a1:(ax×Unit)->Option Bool):Stp Int (Unit⊕Int)
 |v1=>(bif decide (v1<(a0.length:Int))then(bo a0 v1).bind λx1=>(a1 (x1,())).bind λr1=>(bif r1 then(some v1).map λa=> .inr (.inr a)else some (.inl (i64.wrap (v1+1))))else some (.inr (.inl ())))
def uf(a0:List ax)(a1:(ax×Unit)->Option Bool):Option Int:=
 dw (iter (Ig a0 a1) n (0:Int)) λ()=>some ((-1):Int)
def jc(a0:List ax)(a1:(ax×Unit)->Option Bool):Option Bool:=
 (uf n a0 a1).bind λr1=>some (decide (r1>=0))
def Ey(a0:ax)(a1:List ax):Option Bool:=
 (jc n a1 (λ (y1:ax×Unit)=>vM y1.1 a0)).bind λr1=>some r1
def UA(a0:List ax)(a1:List ax):Option Bool:=
 (jc n a0 (λ (y1:ax×Unit)=>Ey n y1.1 a1)).bind λr1=>some r1
def qI(a0:fQ)(a1:jh):Option Bool:=
 (bif decide (a0.z1>(a1.top:Int))then(UA n a0.area a1.area).bind λr1=>some r1 else some false)
def vN(a0:List jh)(a1:Int)(a2:List fQ):Stp Int (Unit⊕Bool)
 |v1=>(bif decide (v1<(a0.length:Int))then dw ((bo a0 v1).bind λx1=>((bif (x1.lot !=(a1:Int))then some true else(nU n x1.area).bind λr2=>some (!r2))).bind λv2=>(bif v2 then some (.inl ())else(jb n a2 (λ (y1:fQ×Unit)=>qI n y1.1 x1)).bind λr3=>(bif r3 then((some false).map λa=> .inr (.inr a)).map .inr else some (.inl ()))):Option ((Unit)⊕_)) λ()=>some (.inl (i64.wrap (v1+1)))else some (.inr (.inl ())))
def Ez(a0:List jh)(a1:Int)(a2:List fQ):Option Bool:=
 (Ie n a2).bind λr1=>(bif (!r1)then some false else dw (iter (vN n a0 a1 a2) n (0:Int)) λ()=>some true)
def mR(a0:aH)(a1:bT)(a2:bq):Option Bool:=
 (xS a0).bind λr1=>ck (az (sub r1 0 r1.length).length r1.length)<|(Ez n a1.bx a2.lot (sub r1 0 r1.length)).bind λr2=>some (!r2)
def jA(a0:ByteArray)(a1:Bool)(a2:List ByteArray):Option (List ByteArray):=
 ((bif a1 then ck (az (sub a2 0 a2.length).length a2.length)<|(fJ n (sub a2 0 a2.length) a0).bind λr1=>some (!r1)else some false)).bind λv1=>(bif v1 then ck (bQ a2.length a2.length (sub ([a0]:List ByteArray) 0 1).length 1 16)<|iA (a2++(sub ([a0]:List ByteArray) 0 1)) λr2=>ck (az r2.length r2.length)<|some r2 else ck (az a2.length a2.length)<|some a2)
def mU(a0:bT)(r1:l6×Int)(r2:List Int):Stp (Int×(List ByteArray)) (List ByteArray)
 |(v1,v2)=>(bif decide (v1<(r2.length:Int))then ck (cC v1 r2.length)<|(bo r2 ((0:Nat)+v1:Int)).bind λx1=>(bo a0.aE x1).bind λx2=>(bo a0.aE x1).bind λx3=>(mJ n r1.1 x3).bind λr3=>ck (az v2.length v2.length)<|(jA n x2.name r3 v2).bind λr4=>ck (az r4.length r4.length)<|some (.inl ((i64.wrap (v1+1)),r4))else ck (az v2.length v2.length)<|some (.inr v2))
def oF(a0:bT)(a1:bq)(a2:Int):Option ((List ByteArray)×Int):=
 (Ag n a0 a1).bind λr1=>(bif (r1.2 !=0)then some (([]:(List ByteArray)),r1.2)else(tV n (bn.mk a0.ci a0.b8 a0.b7 a0.aE a0.ct a0.cj a0.cz a0.cm) r1.1.zones a2).bind λr2=>ck (az 0 ([]:List ByteArray).length)<|(iter (mU n a0 r1 r2) n ((0:Int),([]:List ByteArray))).bind λw1=>(gK n r1.1 (λ (y1:aH×Unit)=>mR n y1.1 a0 a1)).bind λr5=>ck (az w1.length w1.length)<|(jA n (⟨#[101,97,115,101,109,101,110,116]⟩) r5 w1).bind λr6=>ck (az (sub r6 0 r6.length).length r6.length)<|some ((sub r6 0 r6.length),(0:Int)))
def iX(a0:bT)(a1:bq)(a2:Int):Option Bool:=
 (oF n a0 a1 a2).bind λr1=>(bif (r1.2==0)then some ((r1.1.length:Int)==0)else some false)
def nZ(a0:bT)(a1:Int)(a3:List bn)(x1:sD):Stp (Int×(List Bool)) (List Bool)
 |(v2,v3)=>(bif decide (v2<(a3.length:Int))then(bo a3 v2).bind λx2=>(witness_under a0 x2).bind λr2=>(iX n r2 (bq.mk x1.cD x1.cN) a1).bind λr3=>ck (bQ v3.length v3.length (sub ([r3]:List Bool) 0 1).length 1 1)<|iA (v3++(sub ([r3]:List Bool) 0 1)) λr4=>ck (az r4.length r4.length)<|some (.inl ((i64.wrap (v2+1)),r4))else ck (az v3.length v3.length)<|some (.inr v3))
def ru(a0:bT)(a1:Int)(a2:((List Bool)×Unit)->Option Bool)(a3:List bn)(r1:List sD):Stp Int (Unit⊕(aT×Bool))
 |v1=>(bif decide (v1<(r1.length:Int))then ck (cC v1 r1.length)<|(bo r1 ((0:Nat)+v1:Int)).bind λx1=>ck (az 0 ([]:List Bool).length)<|(iter (nZ n a0 a1 a3 x1) n ((0:Int),([]:List Bool))).bind λw1=>ck (az (sub w1 0 w1.length).length w1.length)<|(a2 ((sub w1 0 w1.length),())).bind λr5=>(bif r5 then(some ((aT.mk x1.mA x1.mz x1.ju x1.kf),true)).map λa=> .inr (.inr a)else some (.inl (i64.wrap (v1+1))))else some (.inr (.inl ())))
def pY(a0:bT)(a1:Int)(a2:((List Bool)×Unit)->Option Bool)(a3:List bn):Option (aT×Bool):=
 (qE n a0).bind λr1=>dw (iter (ru n a0 a1 a2 a3 r1) n (0:Int)) λ()=>some ((aT.mk 0 0 0 0),false)
def vk(a0:List Bool):Option Bool:=
 (bo a0 0).bind λx1=>(bo a0 1).bind λx2=>some (!(x1==x2))
def gW(a0:bT)(a1:bn)(a2:bn)(a3:Int):Option (aT×Bool):=
 ck (az (sub ([a1,a2]:List bn) 0 2).length 2)<|(pY n a0 a3 (λ (y1:(List Bool)×Unit)=>vk y1.1) (sub ([a1,a2]:List bn) 0 2)).bind λr1=>some (r1.1,r1.2)
def vo(a0:List Bool):Option Bool:=
 (bo a0 2).bind λx1=>((bo a0 1).bind λx2=>(bo a0 0).bind λx3=>(bif (!(x2==x3))then(bo a0 1).bind λx4=>some x4 else some x1)).bind λv1=>(bo a0 3).bind λx5=>some (!(x5==v1))
def gX(a0:bT)(a1:bn)(a2:bn)(a3:bn)(a4:bn)(a5:Int):Option (aT×Bool):=
 ck (az (sub ([a1,a2,a3,a4]:List bn) 0 4).length 4)<|(pY n a0 a5 (λ (y1:(List Bool)×Unit)=>vo y1.1) (sub ([a1,a2,a3,a4]:List bn) 0 4)).bind λr1=>some (r1.1,r1.2)
def qw(a0:List Bool):Option Bool:=
 (bo a0 0).bind λx1=>(bif x1 then(bo a0 1).bind λx2=>some (!x2)else some false)
def eu(a0:bT)(a1:bn)(a2:bn)(a3:Int):Option Bool:=
 ck (az (sub ([a1,a2]:List bn) 0 2).length 2)<|(pY n a0 a3 (λ (y1:(List Bool)×Unit)=>qw y1.1) (sub ([a1,a2]:List bn) 0 2)).bind λr1=>some (!r1.2)
def kC(a0:bT)(a1:bn)(a2:aT)(a3:Int):Option Bool:=
 (tN n a0 a2).bind λr1=>(bif r1.2 then(witness_under a0 a1).bind λr2=>(iX n r2 r1.1 a3).bind λr3=>some r3 else some false)
def mK(a0:bT)(a1:bn)(a2:Int)(r1:List sD):Stp (Int×(List Bool)) (List Bool)
 |(v1,v2)=>(bif decide (v1<(r1.length:Int))then ck (cC v1 r1.length)<|(bo r1 ((0:Nat)+v1:Int)).bind λx1=>(witness_under a0 a1).bind λr2=>(iX n r2 (bq.mk x1.cD x1.cN) a2).bind λr3=>ck (bQ v2.length v2.length (sub ([r3]:List Bool) 0 1).length 1 1)<|iA (v2++(sub ([r3]:List Bool) 0 1)) λr4=>ck (az r4.length r4.length)<|some (.inl ((i64.wrap (v1+1)),r4))else ck (az v2.length v2.length)<|some (.inr v2))
def mV(a0:bT)(a1:bn)(a2:Int):Option (List Bool):=
 (qE n a0).bind λr1=>ck (az 0 ([]:List Bool).length)<|(iter (mK n a0 a1 a2 r1) n ((0:Int),([]:List Bool))).bind λw1=>ck (az (sub w1 0 w1.length).length w1.length)<|some (sub w1 0 w1.length)
def CP:Option Bool:=
 ck (az (sub ([(ax.mk 0 0 4 4)]:List ax) 0 1).length 1)<|(fC 6).bind λr1=>(fC 9).bind λr2=>ck (az (sub ([(bU.mk 1 0 (sub ([(ax.mk 0 0 4 4)]:List ax) 0 1) ([]))]:List bU) 0 1).length 1)<|(gW n (bT.mk ([]) ([]) ([]) ([]) ([]) ([]) ([]) 0 (sub ([(bU.mk 1 0 (sub ([(ax.mk 0 0 4 4)]:List ax) 0 1) ([]))]:List bU) 0 1) ([]) ([]) ([]) ([])) r1 r2 0).bind λr3=>(fC 6).bind λr4=>(fC 7).bind λr5=>ck (az (sub ([(bU.mk 1 0 (sub ([(ax.mk 0 0 4 4)]:List ax) 0 1) ([]))]:List bU) 0 1).length 1)<|(gW n (bT.mk ([]) ([]) ([]) ([]) ([]) ([]) ([]) 0 (sub ([(bU.mk 1 0 (sub ([(ax.mk 0 0 4 4)]:List ax) 0 1) ([]))]:List bU) 0 1) ([]) ([]) ([]) ([])) r4 r5 0).bind λr6=>(fC 6).bind λr7=>(fC 9).bind λr8=>(fC 3).bind λr9=>(fC 6).bind λvx=>ck (az (sub ([(bU.mk 1 0 (sub ([(ax.mk 0 0 4 4)]:List ax) 0 1) ([]))]:List bU) 0 1).length 1)<|(gX n (bT.mk ([]) ([]) ([]) ([]) ([]) ([]) ([]) 0 (sub ([(bU.mk 1 0 (sub ([(ax.mk 0 0 4 4)]:List ax) 0 1) ([]))]:List bU) 0 1) ([]) ([]) ([]) ([])) r7 r8 r9 vx 0).bind λp5=>(fC 6).bind λG0=>(fC 9).bind λsy=>(fC 3).bind λGW=>(fC 9).bind λsx=>ck (az (sub ([(bU.mk 1 0 (sub ([(ax.mk 0 0 4 4)]:List ax) 0 1) ([]))]:List bU) 0 1).length 1)<|(gX n (bT.mk ([]) ([]) ([]) ([]) ([]) ([]) ([]) 0 (sub ([(bU.mk 1 0 (sub ([(ax.mk 0 0 4 4)]:List ax) 0 1) ([]))]:List bU) 0 1) ([]) ([]) ([]) ([])) G0 sy GW sx 0).bind λr16=>(fC 6).bind λsq=>(fC 9).bind λGT=>(fC 6).bind λso=>(fC 9).bind λGS=>ck (az (sub ([(bU.mk 1 0 (sub ([(ax.mk 0 0 4 4)]:List ax) 0 1) ([]))]:List bU) 0 1).length 1)<|(gX n (bT.mk ([]) ([]) ([]) ([]) ([]) ([]) ([]) 0 (sub ([(bU.mk 1 0 (sub ([(ax.mk 0 0 4 4)]:List ax) 0 1) ([]))]:List bU) 0 1) ([]) ([]) ([]) ([])) sq GT so GS 0).bind λLt=>((bif r3.2 then(bif ((r3.1.lot==1)&&((r3.1.use==0)&&((r3.1.floors==3)&&((r3.1.fL==1)&&true))))then(bif (!r6.2)then(fC 6).bind λAE=>(fC 9).bind λr23=>ck (az (sub ([(bU.mk 1 0 (sub ([(ax.mk 0 0 4 4)]:List ax) 0 1) ([]))]:List bU) 0 1).length 1)<|(eu n (bT.mk ([]) ([]) ([]) ([]) ([]) ([]) ([]) 0 (sub ([(bU.mk 1 0 (sub ([(ax.mk 0 0 4 4)]:List ax) 0 1) ([]))]:List bU) 0 1) ([]) ([]) ([]) ([])) AE r23 0).bind λr24=>(bif r24 then(fC 9).bind λr25=>(fC 6).bind λr26=>ck (az (sub ([(bU.mk 1 0 (sub ([(ax.mk 0 0 4 4)]:List ax) 0 1) ([]))]:List bU) 0 1).length 1)<|(eu n (bT.mk ([]) ([]) ([]) ([]) ([]) ([]) ([]) 0 (sub ([(bU.mk 1 0 (sub ([(ax.mk 0 0 4 4)]:List ax) 0 1) ([]))]:List bU) 0 1) ([]) ([]) ([]) ([])) r25 r26 0).bind λr27=>some (!r27)else some false)else some false)else some false)else some false)).bind λv1=>(bif v1 then(bif p5.2 then(bif ((p5.1.lot==1)&&((p5.1.use==0)&&((p5.1.floors==2)&&((p5.1.fL==1)&&true))))then(bif r16.2 then(bif ((r16.1.lot==1)&&((r16.1.use==0)&&((r16.1.floors==2)&&((r16.1.fL==1)&&true))))then(bif (!Lt.2)then(fC 6).bind λr28=>ck (az (sub ([(bU.mk 1 0 (sub ([(ax.mk 0 0 4 4)]:List ax) 0 1) ([]))]:List bU) 0 1).length 1)<|(kC n (bT.mk ([]) ([]) ([]) ([]) ([]) ([]) ([]) 0 (sub ([(bU.mk 1 0 (sub ([(ax.mk 0 0 4 4)]:List ax) 0 1) ([]))]:List bU) 0 1) ([]) ([]) ([]) ([])) r28 (aT.mk 1 0 2 1) 0).bind λr29=>(bif r29 then(fC 5).bind λr30=>ck (az (sub ([(bU.mk 1 0 (sub ([(ax.mk 0 0 4 4)]:List ax) 0 1) ([]))]:List bU) 0 1).length 1)<|(kC n (bT.mk ([]) ([]) ([]) ([]) ([]) ([]) ([]) 0 (sub ([(bU.mk 1 0 (sub ([(ax.mk 0 0 4 4)]:List ax) 0 1) ([]))]:List bU) 0 1) ([]) ([]) ([]) ([])) r30 (aT.mk 1 0 2 1) 0).bind λr31=>(bif (!r31)then(fC 6).bind λr32=>ck (az (sub ([(bU.mk 1 0 (sub ([(ax.mk 0 0 4 4)]:List ax) 0 1) ([]))]:List bU) 0 1).length 1)<|(mV n (bT.mk ([]) ([]) ([]) ([]) ([]) ([]) ([]) 0 (sub ([(bU.mk 1 0 (sub ([(ax.mk 0 0 4 4)]:List ax) 0 1) ([]))]:List bU) 0 1) ([]) ([]) ([]) ([])) r32 0).bind λr33=>some ((r33.length:Int)==144)else some false)else some false)else some false)else some false)else some false)else some false)else some false)else some false)
def Ap(rc:(cu)->Option Int)(a0:cu):Stp (Int×Int) Int
 |(v1,v2)=>(bif decide (v2<(a0.args.length:Int))then(bo a0.args v2).bind λx1=>(rc x1).bind λr1=>some (.inl ((i64.wrap (v1+r1)),(i64.wrap (v2+1))))else some (.inr v1))
def EA(rc:(cu)->Option Int)(a0:cu):Option Int:=
 (iter (Ap rc a0) n ((1:Int),(0:Int))).bind λw1=>some w1
def Ih(rc:(cu)->Option Int):bz xx:=⟨[.d (.st SI.Expr)],[.d (.int .i64)],λa=>rc a.1,none⟩
def vv(n:Nat):Nat->(cu)->Option Int
 | 0=>λ_=>none
 |m+1=>EA n (vv n m)
def Ii(a0:cu):Option Int:=vv n n a0
def ug(a0:bn):Stp Int (Unit⊕Bool)
 |v2=>(bif decide (v2<(a0.defs.length:Int))then(bo a0.defs v2).bind λx1=>(Ii n (cu.mk x1.io x1.lw x1.kw x1.ia x1.eo)).bind λr1=>(bif decide (r1>30)then(some false).map λa=> .inr (.inr a)else some (.inl (i64.wrap (v2+1))))else some (.inr (.inl ())))
def uh(a0:bn):Stp Int (Unit⊕Bool)
 |v3=>(bif decide (v3<(a0.rules.length:Int))then((bo a0.rules v3).bind λx2=>(Ii n (cu.mk x2.kB x2.mn x2.mm x2.i9 x2.fW)).bind λr2=>(bif decide (r2>30)then some true else(bo a0.rules v3).bind λx3=>(bif decide ((x3.zones.length:Int)>5)then some true else(bo a0.rules v3).bind λx4=>some (decide ((x4.except.length:Int)>5))))).bind λv4=>(bif v4 then(some false).map λa=> .inr (.inr a)else some (.inl (i64.wrap (v3+1))))else some (.inr (.inl ())))
def uj(a0:bn):Stp Int (Unit⊕Bool)
 |v5=>(bif decide (v5<(a0.tables.length:Int))then(bo a0.tables v5).bind λx5=>(bif decide ((x5.rows.length:Int)>8)then(some false).map λa=> .inr (.inr a)else some (.inl (i64.wrap (v5+1))))else some (.inr (.inl ())))
def ul(a0:bn):Stp Int (Unit⊕Bool)
 |v6=>(bif decide (v6<(a0.zones.length:Int))then(bo a0.zones v6).bind λx6=>(bif decide ((x6.corners.length:Int)>12)then(some false).map λa=> .inr (.inr a)else some (.inl (i64.wrap (v6+1))))else some (.inr (.inl ())))
def um(a0:bn):Stp Int (Unit⊕Bool)
 |v7=>(bif decide (v7<(a0.caps.length:Int))then(bo a0.caps v7).bind λx7=>(bif decide ((x7.corners.length:Int)>12)then(some false).map λa=> .inr (.inr a)else some (.inl (i64.wrap (v7+1))))else some (.inr (.inl ())))
def wL(a0:bn):Option Bool:=
 ((bif decide ((a0.defs.length:Int)>5)then some true else(bif decide ((a0.rules.length:Int)>5)then some true else(bif decide ((a0.tables.length:Int)>4)then some true else(bif decide ((a0.zones.length:Int)>5)then some true else some (decide ((a0.caps.length:Int)>3))))))).bind λv1=>(bif v1 then some false else dw (iter (ug n a0) n (0:Int)) λ()=>dw (iter (uh n a0) n (0:Int)) λ()=>dw (iter (uj a0) n (0:Int)) λ()=>dw (iter (ul a0) n (0:Int)) λ()=>dw (iter (um a0) n (0:Int)) λ()=>some true)
def vO(a0:ax):Option Bool:=
 (bif decide (a0.x0>=0)then(bif decide (a0.x0<(a0.x1:Int))then(bif decide (a0.x1<=1048576)then(bif decide (a0.y0>=0)then(bif decide (a0.y0<(a0.y1:Int))then some (decide (a0.y1<=1048576))else some false)else some false)else some false)else some false)else some false)
def qJ(a0:List Int)(v1:Int)(v2:List Int):Stp Int Int
 |v3=>((bif decide (v3>0)then ck (cC (i64.wrap (v3 -1)) v2.length)<|(bo v2 ((0:Nat)+(i64.wrap (v3 -1)):Int)).bind λx1=>(bo a0 v1).bind λx2=>some (decide (x1>(x2:Int)))else some false)).bind λv4=>(bif v4 then some (.inl (i64.wrap (v3 -1)))else some (.inr v3))
def qK(w1:Int)(r1:List Int):Stp (Int×(List Int)) (List Int)
 |(v6,v7)=>(bif decide (v6>(w1:Int))then ck (cC (i64.wrap (v6 -1)) r1.length)<|(bo v7 ((0:Nat)+(i64.wrap (v6 -1)):Int)).bind λx5=>ck (cC v6 r1.length)<|(bo v7 ((0:Nat)+v6:Int)).bind λx6=>some (.inl ((i64.wrap (v6 -1)),(v7.set ((0:Nat)+v6:Int).toNat x5)))else some (.inr v7))
def vP(a0:List Int):Stp (Int×(List Int)) (List Int)
 |(v1,v2)=>(bif decide (v1<(a0.length:Int))then((iter (qJ a0 v1 v2) n (v2.length:Int)).bind λw1=>((bif decide (w1>0)then ck (cC (i64.wrap (w1 -1)) v2.length)<|(bo v2 ((0:Nat)+(i64.wrap (w1 -1)):Int)).bind λx3=>(bo a0 v1).bind λx4=>some (x3==(x4:Int))else some false)).bind λv5=>(bif v5 then ck (az v2.length v2.length)<|some v2 else ck (bQ v2.length v2.length (sub ([0]:List Int) 0 1).length 1 8)<|iA (v2++(sub ([0]:List Int) 0 1)) λr1=>(iter (qK w1 r1) n ((i64.wrap ((r1.length:Int) -1)),r1)).bind λw2=>(bo a0 v1).bind λx7=>ck (cC w1 r1.length)<|(bo w2 ((0:Nat)+w1:Int)).bind λx8=>ck (az r1.length (w2.set ((0:Nat)+w1:Int).toNat x7).length)<|some (w2.set ((0:Nat)+w1:Int).toNat x7)):Option ((List Int))).bind λv8=>ck (az v8.length v8.length)<|some (.inl ((i64.wrap (v1+1)),v8))else ck (az v2.length v2.length)<|some (.inr v2))
def EB(a0:List Int):Option (List Int):=
 ck (az 0 ([]:List Int).length)<|(iter (vP n a0) n ((0:Int),([]:List Int))).bind λw3=>ck (az (sub w3 0 w3.length).length w3.length)<|some (sub w3 0 w3.length)
def xX(a0:List ax):Stp (Int×(List Int)) (List Int)
 |(v1,v2)=>(bif decide (v1<(a0.length:Int))then(bo a0 v1).bind λx1=>(bo a0 v1).bind λx2=>ck (bQ v2.length v2.length (sub ([x1.x0,x2.x1]:List Int) 0 2).length 2 8)<|iA (v2++(sub ([x1.x0,x2.x1]:List Int) 0 2)) λr1=>ck (az r1.length r1.length)<|some (.inl ((i64.wrap (v1+1)),r1))else ck (az v2.length v2.length)<|some (.inr v2))
def EC(a1:List ax):Stp (Int×(List Int)) (List Int)
 |(v3,v4)=>(bif decide (v3<(a1.length:Int))then(bo a1 v3).bind λx3=>(bo a1 v3).bind λx4=>ck (bQ v4.length v4.length (sub ([x3.x0,x4.x1]:List Int) 0 2).length 2 8)<|iA (v4++(sub ([x3.x0,x4.x1]:List Int) 0 2)) λr2=>ck (az r2.length r2.length)<|some (.inl ((i64.wrap (v3+1)),r2))else ck (az v4.length v4.length)<|some (.inr v4))
def JG(a0:List ax)(a1:List ax):Option (List Int):=
 ck (az 0 ([]:List Int).length)<|(iter (xX a0) n ((0:Int),([]:List Int))).bind λw1=>ck (az w1.length w1.length)<|(iter (EC a1) n ((0:Int),w1)).bind λw2=>ck (az (sub w2 0 w2.length).length w2.length)<|(EB n (sub w2 0 w2.length)).bind λr3=>ck (az (sub r3 0 r3.length).length r3.length)<|some (sub r3 0 r3.length)
def qL(a0:List ax)(v1:Int)(r1:List Int)(r2:List Int):Stp (Int×(List Int)×(List Int)) (Int×(List Int)×(List Int))
 |(v5,v6,v7)=>((bif decide (v5>0)then ck (cC (i64.wrap (v5 -1)) r1.length)<|(bo v6 ((0:Nat)+(i64.wrap (v5 -1)):Int)).bind λx3=>(bo a0 v1).bind λx4=>some (decide (x3>(x4.y0:Int)))else some false)).bind λv8=>(bif v8 then ck (cC (i64.wrap (v5 -1)) r1.length)<|(bo v6 ((0:Nat)+(i64.wrap (v5 -1)):Int)).bind λx5=>ck (cC v5 r1.length)<|(bo v6 ((0:Nat)+v5:Int)).bind λx6=>ck (cC (i64.wrap (v5 -1)) r2.length)<|(bo v7 ((0:Nat)+(i64.wrap (v5 -1)):Int)).bind λx7=>ck (cC v5 r2.length)<|(bo v7 ((0:Nat)+v5:Int)).bind λx8=>some (.inl ((i64.wrap (v5 -1)),(v6.set ((0:Nat)+v5:Int).toNat x5),(v7.set ((0:Nat)+v5:Int).toNat x7)))else some (.inr (v5,v6,v7)))
def qM(a0:List ax)(a1:Int):Stp (Int×(List Int)×(List Int)) ((List Int)×(List Int))
 |(v1,v2,v3)=>(bif decide (v1<(a0.length:Int))then(((bo a0 v1).bind λx1=>(bif decide (x1.x0>(a1:Int))then some true else(bo a0 v1).bind λx2=>some (decide (x2.x1<=(a1:Int))))).bind λv4=>(bif v4 then ck (az v2.length v2.length)<|ck (az v3.length v3.length)<|some (v2,v3)else ck (bQ v2.length v2.length (sub ([0]:List Int) 0 1).length 1 8)<|iA (v2++(sub ([0]:List Int) 0 1)) λr1=>ck (bQ v3.length v3.length (sub ([0]:List Int) 0 1).length 1 8)<|iA (v3++(sub ([0]:List Int) 0 1)) λr2=>(iter (qL a0 v1 r1 r2) n ((v2.length:Int),r1,r2)).bind λ(w1,w2,w3)=>(bo a0 v1).bind λx9=>ck (cC w1 r1.length)<|(bo w2 ((0:Nat)+w1:Int)).bind λx10=>(bo a0 v1).bind λx11=>ck (cC w1 r2.length)<|(bo w3 ((0:Nat)+w1:Int)).bind λx12=>ck (az r1.length (w2.set ((0:Nat)+w1:Int).toNat x9.y0).length)<|ck (az r2.length (w3.set ((0:Nat)+w1:Int).toNat x11.y1).length)<|some ((w2.set ((0:Nat)+w1:Int).toNat x9.y0),(w3.set ((0:Nat)+w1:Int).toNat x11.y1))):Option ((List Int)×(List Int))).bind λ(v9,v10)=>ck (az v9.length v9.length)<|ck (az v10.length v10.length)<|some (.inl ((i64.wrap (v1+1)),v9,v10))else ck (az v2.length v2.length)<|ck (az v3.length v3.length)<|some (.inr (v2,v3)))
def qN(w4:List Int)(w5:List Int):Stp (Int×(List Int)) (List Int)
 |(v11,v12)=>(bif decide (v11<(w4.length:Int))then(((bif decide ((v12.length:Int)>0)then ck (cC v11 w4.length)<|(bo w4 ((0:Nat)+v11:Int)).bind λx13=>ck (cC (i64.wrap ((v12.length:Int) -1)) v12.length)<|(bo v12 ((0:Nat)+(i64.wrap ((v12.length:Int) -1)):Int)).bind λx14=>some (decide (x13<=(x14:Int)))else some false)).bind λv13=>(bif v13 then ck (cC (i64.wrap ((v12.length:Int) -1)) v12.length)<|(bo v12 ((0:Nat)+(i64.wrap ((v12.length:Int) -1)):Int)).bind λx15=>ck (cC v11 w5.length)<|(bo w5 ((0:Nat)+v11:Int)).bind λx16=>ck (cC (i64.wrap ((v12.length:Int) -1)) v12.length)<|(bo v12 ((0:Nat)+(i64.wrap ((v12.length:Int) -1)):Int)).bind λx17=>ck (az v12.length (v12.set ((0:Nat)+(i64.wrap ((v12.length:Int) -1)):Int).toNat (max x15 x16)).length)<|some (v12.set ((0:Nat)+(i64.wrap ((v12.length:Int) -1)):Int).toNat (max x15 x16))else ck (cC v11 w4.length)<|(bo w4 ((0:Nat)+v11:Int)).bind λx18=>ck (cC v11 w5.length)<|(bo w5 ((0:Nat)+v11:Int)).bind λx19=>ck (bQ v12.length v12.length (sub ([x18,x19]:List Int) 0 2).length 2 8)<|iA (v12++(sub ([x18,x19]:List Int) 0 2)) λr3=>ck (az r3.length r3.length)<|some r3):Option ((List Int))).bind λv14=>ck (az v14.length v14.length)<|some (.inl ((i64.wrap (v11+1)),v14))else ck (az v12.length v12.length)<|some (.inr v12))
def yX(a0:List ax)(a1:Int):Option (List Int):=
 ck (az 0 ([]:List Int).length)<|ck (az 0 ([]:List Int).length)<|(iter (qM n a0 a1) n ((0:Int),([]:List Int),([]:List Int))).bind λ(w4,w5)=>ck (az 0 ([]:List Int).length)<|(iter (qN w4 w5) n ((0:Int),([]:List Int))).bind λw6=>ck (az (sub w6 0 w6.length).length w6.length)<|some (sub w6 0 w6.length)
def uo(a0:List Int)(a1:List Int)(a2:Int):Stp (Int×Int×Bool×(List Int)) (List Int)
 |(v1,v2,v3,v4)=>((bif decide (v1<(a0.length:Int))then some true else some (decide (v2<(a1.length:Int))))).bind λv5=>(bif v5 then(((bif decide (v1<(a0.length:Int))then(bif decide (v2>=(a1.length:Int))then some true else(bo a0 v1).bind λx1=>(bo a1 (min v2 (i64.wrap ((a1.length:Int) -1)))).bind λx2=>some (decide (x1<=(x2:Int))))else some false)).bind λv6=>(bif v6 then(bo a0 v1).bind λx3=>some x3 else(bo a1 v2).bind λx4=>some x4):Option Int).bind λv7=>(((bif decide (v1<(a0.length:Int))then(bo a0 v1).bind λx5=>some (x5==(v7:Int))else some false)).bind λv8=>(bif v8 then some (i64.wrap (v1+1))else some v1):Option Int).bind λv9=>(((bif decide (v2<(a1.length:Int))then(bo a1 v2).bind λx6=>some (x6==(v7:Int))else some false)).bind λv10=>(bif v10 then some (i64.wrap (v2+1))else some v2):Option Int).bind λv11=>ck (2 !=0)<|ck (2 !=0)<|((bif ((Int.tmod v9 2)==1)then some true else some ((Int.tmod v11 2)==1))).bind λv12=>((bif (a2==1)then(bif ((Int.tmod v9 2)==1)then some ((Int.tmod v11 2)==1)else some false)else some v12)).bind λv13=>((bif (a2==2)then(bif ((Int.tmod v9 2)==1)then some (!((Int.tmod v11 2)==1))else some false)else some v13)).bind λv14=>((bif (!(v14==v3))then ck (bQ v4.length v4.length (sub ([v7]:List Int) 0 1).length 1 8)<|iA (v4++(sub ([v7]:List Int) 0 1)) λr1=>ck (az r1.length r1.length)<|some r1 else ck (az v4.length v4.length)<|some v4):Option ((List Int))).bind λv15=>ck (az v15.length v15.length)<|some (.inl (v9,v11,v14,v15))else ck (az v4.length v4.length)<|some (.inr v4))
def Aq(a0:List Int)(a1:List Int)(a2:Int):Option (List Int):=
 ck (az 0 ([]:List Int).length)<|(iter (uo a0 a1 a2) n ((0:Int),(0:Int),false,([]:List Int))).bind λw1=>ck (az (sub w1 0 w1.length).length w1.length)<|some (sub w1 0 w1.length)
def Ar(a0:List Int)(a1:List Int):Stp Int (Unit⊕Bool)
 |v1=>(bif decide (v1<(a0.length:Int))then(bo a0 v1).bind λx1=>(bo a1 v1).bind λx2=>(bif (x1 !=(x2:Int))then(some false).map λa=> .inr (.inr a)else some (.inl (i64.wrap (v1+1))))else some (.inr (.inl ())))
def NJ(a0:List Int)(a1:List Int):Option Bool:=
 (bif ((a0.length:Int) !=(a1.length:Int))then some false else dw (iter (Ar a0 a1) n (0:Int)) λ()=>some true)
def wM(r1:List Int)(v2:Int)(v3:List ax):Stp (Int×(List ax)) (List ax)
 |(v6,v7)=>(bif decide (v6<(v3.length:Int))then ck (cC (i64.wrap (v2+1)) r1.length)<|(bo r1 ((0:Nat)+(i64.wrap (v2+1)):Int)).bind λx3=>ck (cC v6 v3.length)<|(bo v7 ((0:Nat)+v6:Int)).bind λx4=>some (.inl ((i64.wrap (v6+1)),(v7.set ((0:Nat)+v6:Int).toNat (ax.mk x4.x0 x4.y0 x3 x4.y1))))else some (.inr v7))
def wN(r1:List Int)(v2:Int)(r4:List Int):Stp (Int×(List ax)) (List ax)
 |(v8,v9)=>(bif decide ((i64.wrap (v8+1))<(r4.length:Int))then ck (cC v2 r1.length)<|(bo r1 ((0:Nat)+v2:Int)).bind λx5=>ck (cC v8 r4.length)<|(bo r4 ((0:Nat)+v8:Int)).bind λx6=>ck (cC (i64.wrap (v2+1)) r1.length)<|(bo r1 ((0:Nat)+(i64.wrap (v2+1)):Int)).bind λx7=>ck (cC (i64.wrap (v8+1)) r4.length)<|(bo r4 ((0:Nat)+(i64.wrap (v8+1)):Int)).bind λx8=>ck (bQ v9.length v9.length (sub ([(ax.mk x5 x6 x7 x8)]:List ax) 0 1).length 1 32)<|iA (v9++(sub ([(ax.mk x5 x6 x7 x8)]:List ax) 0 1)) λr6=>ck (az r6.length r6.length)<|some (.inl ((i64.wrap (v8+2)),r6))else ck (az v9.length v9.length)<|some (.inr v9))
def Au(a0:List ax)(a1:List ax)(a2:Int)(r1:List Int):Stp (Int×Int×(List ax)×(List Int)) (List ax)
 |(v1,v2,v3,v4)=>(bif decide ((i64.wrap (v2+1))<(r1.length:Int))then(ck (cC v2 r1.length)<|(bo r1 ((0:Nat)+v2:Int)).bind λx1=>(yX n a0 x1).bind λr2=>ck (cC v2 r1.length)<|(bo r1 ((0:Nat)+v2:Int)).bind λx2=>(yX n a1 x2).bind λr3=>ck (az (sub r2 0 r2.length).length r2.length)<|ck (az (sub r3 0 r3.length).length r3.length)<|(Aq n (sub r2 0 r2.length) (sub r3 0 r3.length) a2).bind λr4=>((bif decide (v2>0)then(bif decide ((r4.length:Int)>0)then ck (az (sub r4 0 r4.length).length r4.length)<|ck (az (sub v4 0 v4.length).length v4.length)<|(NJ n (sub r4 0 r4.length) (sub v4 0 v4.length)).bind λr5=>some r5 else some false)else some false)).bind λv5=>(bif v5 then(iter (wM r1 v2 v3) n (v1,v3)).bind λw1=>ck (az v3.length w1.length)<|ck (az v4.length v4.length)<|some (v1,w1,v4)else ck (az v3.length v3.length)<|(iter (wN r1 v2 r4) n ((0:Int),v3)).bind λw2=>ck (az w2.length w2.length)<|ck (az r4.length r4.length)<|some ((v3.length:Int),w2,r4)):Option (Int×(List ax)×(List Int))).bind λ(v10,v11,v12)=>ck (az v11.length v11.length)<|ck (az v12.length v12.length)<|some (.inl (v10,(i64.wrap (v2+1)),v11,v12))else ck (az v3.length v3.length)<|some (.inr v3))
def NK(a0:List ax)(a1:List ax)(a2:Int):Option (List ax):=
 (JG n a0 a1).bind λr1=>ck (az 0 ([]:List ax).length)<|ck (az 0 ([]:List Int).length)<|(iter (Au n a0 a1 a2 r1) n ((0:Int),(0:Int),([]:List ax),([]:List Int))).bind λw3=>ck (az (sub w3 0 w3.length).length w3.length)<|some (sub w3 0 w3.length)
def JH(a0:List ax):Stp Int (Unit⊕((List ax)×Int))
 |v1=>(bif decide (v1<(a0.length:Int))then(bo a0 v1).bind λx1=>(vO x1).bind λr1=>(bif (!r1)then(some (([]:(List ax)),(1:Int))).map λa=> .inr (.inr a)else some (.inl (i64.wrap (v1+1))))else some (.inr (.inl ())))
def OF(a0:List ax):Option ((List ax)×Int):=
 dw (iter (JH a0) n (0:Int)) λ()=>(bif decide ((a0.length:Int)>400)then some (([]:(List ax)),(6:Int))else(NK n a0 ([]) 0).bind λr2=>(bif decide ((r2.length:Int)>200)then some (([]:(List ax)),(6:Int))else ck (az (sub r2 0 r2.length).length r2.length)<|some ((sub r2 0 r2.length),(0:Int))))
def Av(a0:List ax)(a1:List ax):Stp Int (Unit⊕Bool)
 |v1=>(bif decide (v1<(a0.length:Int))then(bo a0 v1).bind λx1=>(bo a1 v1).bind λx2=>(bif (!((x1.x0==(x2.x0:Int))&&((x1.y0==(x2.y0:Int))&&((x1.x1==(x2.x1:Int))&&((x1.y1==(x2.y1:Int))&&true)))))then(some false).map λa=> .inr (.inr a)else some (.inl (i64.wrap (v1+1))))else some (.inr (.inl ())))
def NN(a0:List ax)(a1:List ax):Option Bool:=
 (bif ((a0.length:Int) !=(a1.length:Int))then some false else dw (iter (Av a0 a1) n (0:Int)) λ()=>some true)
def JI(a0:List ax):Option Bool:=
 (OF n a0).bind λr1=>(bif (r1.2==0)then ck (az (sub r1.1 0 r1.1.length).length r1.1.length)<|(NN n (sub r1.1 0 r1.1.length) a0).bind λr2=>some r2 else some false)
def vQ(a0:List ax)(x1:ax):Stp (Int×Int×Int×Int×Int) (Int×Int×Int×Int)
 |(v2,v3,v4,v5,v6)=>(bif decide (v2<(a0.length:Int))then(bo a0 v2).bind λx2=>(bo a0 v2).bind λx3=>(bo a0 v2).bind λx4=>(bo a0 v2).bind λx5=>some (.inl ((i64.wrap (v2+1)),(min v3 x2.x0),(min v4 x3.y0),(max v5 x4.x1),(max v6 x5.y1)))else some (.inr (v3,v4,v5,v6)))
def ED(a0:List ax):Option (ax×Bool):=
 ((bif ((a0.length:Int)==0)then some true else(JI n a0).bind λr1=>some (!r1))).bind λv1=>(bif v1 then some ((ax.mk 0 0 0 0),false)else(bo a0 0).bind λx1=>(iter (vQ a0 x1) n ((1:Int),x1.x0,x1.y0,x1.x1,x1.y1)).bind λ(w1,w2,w3,w4)=>some ((ax.mk w1 w2 w3 w4),true))
def EF(a0:bU):Option Bool:=
 (bif decide ((a0.area.length:Int)>4)then some false else(ED n a0.area).bind λr1=>(bif (!r1.2)then some true else(bif decide ((i64.wrap (r1.1.x1 -r1.1.x0))<=4)then some true else some (decide ((i64.wrap (r1.1.y1 -r1.1.y0))<=4)))))
def EG(a0:bT):Stp Int (Unit⊕Bool)
 |v2=>(bif decide (v2<(a0.land.length:Int))then(bo a0.land v2).bind λx1=>(EF n x1).bind λr2=>(bif (!r2)then(some false).map λa=> .inr (.inr a)else some (.inl (i64.wrap (v2+1))))else some (.inr (.inl ())))
def EH(a0:bT):Stp Int (Unit⊕Bool)
 |v3=>(bif decide (v3<(a0.bx.length:Int))then(bo a0.bx v3).bind λx2=>(bif decide ((x2.area.length:Int)>4)then(some false).map λa=> .inr (.inr a)else some (.inl (i64.wrap (v3+1))))else some (.inr (.inl ())))
def EI(a0:bT):Option Bool:=
 ((wL n (bn.mk a0.ci a0.b8 a0.b7 a0.aE a0.ct a0.cj a0.cz a0.cm)).bind λr1=>(bif (!r1)then some true else(bif decide ((a0.land.length:Int)>2)then some true else(bif decide ((a0.bx.length:Int)>3)then some true else some (decide ((a0.built.length:Int)>6)))))).bind λv1=>(bif v1 then some false else dw (iter (EG n a0) n (0:Int)) λ()=>dw (iter (EH a0) n (0:Int)) λ()=>some true)
def rR(a1:List bn):Stp (Int×(List fA)×(List cB)×(List dO)×(List bJ)×(List fV)×(List eU)×(List bV)×Int×(List bU)×(List jh)×(List Ei)×(List iD)×(List bS)) (((List fA)×(List cB)×(List dO)×(List bJ)×(List fV)×(List eU)×(List bV)×Int×(List bU)×(List jh)×(List Ei)×(List iD)×(List bS))⊕Bool)
 |(v1,v2,v3,v4,v5,v6,v7,v8,v9,v10,v11,v12,v13,v14)=>(bif decide (v1<(a1.length:Int))then(bo a1 v1).bind λx1=>(EI n (bT.mk x1.defs x1.tables x1.zones x1.rules x1.caps x1.views x1.ml x1.hours v10 v11 v12 v13 v14)).bind λr1=>(bif (!r1)then(some false).map λa=> .inr (.inr a)else some (.inl ((i64.wrap (v1+1)),x1.defs,x1.tables,x1.zones,x1.rules,x1.caps,x1.views,x1.ml,x1.hours,v10,v11,v12,v13,v14)))else some (.inr (.inl (v2,v3,v4,v5,v6,v7,v8,v9,v10,v11,v12,v13,v14))))
def NP(a0:bT)(a1:List bn):Option Bool:=
 dw (iter (rR n a1) n ((0:Int),a0.ci,a0.b8,a0.b7,a0.aE,a0.ct,a0.cj,a0.cz,a0.cm,a0.land,a0.bx,a0.windows,a0.built,a0.base)) λ(w1,w2,w3,w4,w5,w6,w7,w8,w9,wi,wg,PC,PB)=>(EI n (bT.mk w1 w2 w3 w4 w5 w6 w7 w8 w9 wi wg PC PB)).bind λr2=>some r2
def iR(a1:bn)(a2:bJ)(r1:Bool):Stp Int (Unit⊕Bool)
 |v2=>(bif decide (v2<(a1.rules.length:Int))then(bo a1.rules v2).bind λx1=>(bif (ByteArray.toList x1.name==ByteArray.toList a2.name)then(some r1).map λa=> .inr (.inr a)else some (.inl (i64.wrap (v2+1))))else some (.inr (.inl ())))
def kD(a0:bT)(a1:bn)(a2:bJ)(a3:Int)(r1:Bool)(r3:List bJ)(r6:aT×Bool):Stp Int (Unit⊕Bool)
 |v3=>(bif decide (v3<(a0.land.length:Int))then(bo a0.land v3).bind λx2=>(bif (x2.id !=(r6.1.lot:Int))then some (.inl (i64.wrap (v3+1)))else(bo a0.land v3).bind λx3=>(qD n x3 r6.1).bind λr8=>(oF n (bT.mk a1.defs a1.tables a1.zones (sub r3 0 r3.length) a1.caps a1.views a1.ml a1.hours a0.land a0.bx a0.windows a0.built a0.base) r8.1 a3).bind λr9=>(bif r1 then(bif r8.2 then(bif (r9.2==0)then(bif ((r9.1.length:Int)==1)then ck (cC 0 r9.1.length)<|(bo r9.1 ((0:Nat)+0:Int)).bind λx4=>(bif (ByteArray.toList x4==ByteArray.toList a2.name)then(kC n a0 a1 r6.1 a3).bind λvx=>(some vx).map λa=> .inr (.inr a)else(some false).map λa=> .inr (.inr a))else(some false).map λa=> .inr (.inr a))else(some false).map λa=> .inr (.inr a))else(some false).map λa=> .inr (.inr a))else(some false).map λa=> .inr (.inr a)))else some (.inr (.inl ())))
def rz(a0:bT)(a1:bn)(a2:bJ)(a3:Int):Option Bool:=
 (CP n).bind λr1=>ck (bQ ([]:List bJ).length 0 a1.rules.length a1.rules.length 232)<|iA (([]:List bJ)++a1.rules) λr2=>ck (bQ r2.length r2.length (sub ([a2]:List bJ) 0 1).length 1 232)<|iA (r2++(sub ([a2]:List bJ) 0 1)) λr3=>ck (az (sub r3 0 r3.length).length r3.length)<|(ck (az (sub ([a1,(bn.mk a1.defs a1.tables a1.zones (sub r3 0 r3.length) a1.caps a1.views a1.ml a1.hours)]:List bn) 0 2).length 2)<|(NP n a0 (sub ([a1,(bn.mk a1.defs a1.tables a1.zones (sub r3 0 r3.length) a1.caps a1.views a1.ml a1.hours)]:List bn) 0 2)).bind λr4=>(bif (!r4)then some true else some (ByteArray.toList a2.name==ByteArray.toList (⟨#[101,97,115,101,109,101,110,116]⟩)))).bind λv1=>(bif v1 then some r1 else dw (iter (iR a1 a2 r1) n (0:Int)) λ()=>(eu n a0 (bn.mk a1.defs a1.tables a1.zones (sub r3 0 r3.length) a1.caps a1.views a1.ml a1.hours) a1 a3).bind λr5=>(bif (!r5)then some false else(gW n a0 a1 (bn.mk a1.defs a1.tables a1.zones (sub r3 0 r3.length) a1.caps a1.views a1.ml a1.hours) a3).bind λr6=>(bif (!r6.2)then(bif r1 then(eu n a0 a1 (bn.mk a1.defs a1.tables a1.zones (sub r3 0 r3.length) a1.caps a1.views a1.ml a1.hours) a3).bind λr7=>some r7 else some false)else dw (iter (kD n a0 a1 a2 a3 r1 r3 r6) n (0:Int)) λ()=>some false)))
end
end Go.Proofs
