import Derived.Test.YtjkanncjllckgaaGreatTBase
open Go.IntKind (i64)
namespace Go.Proofs
open Go.Gb Go.RowKit
noncomputable section
variable (n:Nat)
def fC(a0:Int):Option bB:=
 ck (az (sub ([(bZ.mk 1 0 (⟨#[104,101,105,103,104,116]⟩) (⟨#[]⟩) ([])),(bZ.mk 0 a0 (⟨#[]⟩) (⟨#[]⟩) ([]))]:List bZ) 0 2).length 2)<|ck (az (sub ([(bX.mk (⟨#[97]⟩) ([]) ([]) 0 0 0 false 0 12 0 (⟨#[]⟩) (⟨#[]⟩) (sub ([(bZ.mk 1 0 (⟨#[104,101,105,103,104,116]⟩) (⟨#[]⟩) ([])),(bZ.mk 0 a0 (⟨#[]⟩) (⟨#[]⟩) ([]))]:List bZ) 0 2) 0 0 0 0 0 0 0)]:List bX) 0 1).length 1)<|some (bB.mk ([]) ([]) ([]) (sub ([(bX.mk (⟨#[97]⟩) ([]) ([]) 0 0 0 false 0 12 0 (⟨#[]⟩) (⟨#[]⟩) (sub ([(bZ.mk 1 0 (⟨#[104,101,105,103,104,116]⟩) (⟨#[]⟩) ([])),(bZ.mk 0 a0 (⟨#[]⟩) (⟨#[]⟩) ([]))]:List bZ) 0 2) 0 0 0 0 0 0 0)]:List bX) 0 1) ([]) ([]) ([]) 0)
def ny(a0:ax):Option Bool:=
 (bif decide (0<=(a0.x0:Int))then(bif decide (a0.x0<(a0.x1:Int))then(bif decide (a0.x1<=1048576)then(bif decide (0<=(a0.y0:Int))then(bif decide (a0.y0<(a0.y1:Int))then some (decide (a0.y1<=1048576))else some false)else some false)else some false)else some false)else some false)
def Nt(a0:Unit)(a1:Int):Option (List ax):=
 (bif decide (a1<0)then none else(bif (decide ((i64.wrap (a1 -(i64.wrap (0 -0))))>0))then ck (zC (i64.wrap (a1 -(i64.wrap (0 -0)))) 32)<|ck (AQ 0 0 ((i64.wrap (a1 -(i64.wrap (0 -0)))).toNat))<|ck (az (sub (List.replicate (i64.wrap (a1 -(i64.wrap (0 -0)))).toNat (ax.mk 0 0 0 0)) 0 0).length 0)<|some (sub (List.replicate (i64.wrap (a1 -(i64.wrap (0 -0)))).toNat (ax.mk 0 0 0 0)) 0 0)else some ([]:(List ax))))
def Nu(a0:List (List ax)):Stp (Int×Int) Int
 |(v1,v2)=>(bif decide (v2<(a0.length:Int))then(bp a0 v2).bind λx1=>(bif decide ((i64.wrap (v1+(x1.length:Int)))<0)then none else some (.inl ((i64.wrap (v1+(x1.length:Int))),(i64.wrap (v2+1)))))else some (.inr v1))
def Nv(a0:List (List ax)):Stp (Int×(List ax)) (List ax)
 |(v3,v4)=>(bif decide (v3<(a0.length:Int))then(bp a0 v3).bind λx2=>ck (bP v4.length v4.length x2.length x2.length 32)<|iH (v4++x2) λr2=>ck (az r2.length r2.length)<|some (.inl ((i64.wrap (v3+1)),r2))else ck (az v4.length v4.length)<|some (.inr v4))
def yN(a0:List (List ax)):Option (List ax):=
 (iter (Nu a0) n ((0:Int),(0:Int))).bind λw1=>(Nt () w1).bind λr1=>ck (az r1.length r1.length)<|(iter (Nv a0) n ((0:Int),r1)).bind λw2=>ck (az (sub w2 0 w2.length).length w2.length)<|some (sub w2 0 w2.length)
def oO(_:Nat)(a0:List Int):Option (List Int):=Kd a0
def Nw(a0:List Int)(v1:Int):Stp (Int×Int×(List Int)) (Int×(List Int))
 |(v2,v3,v4)=>(bif (decide (v3<((((a0.length -(v1:Int).toNat):Nat):Int):Int)))then(ck (cz v3 (a0.length -(v1:Int).toNat))<|(bp v4 (((0+(v1:Int).toNat):Nat)+v3:Int)).bind λx3=>ck (cz (i64.wrap (v3 -1)) (a0.length -(v1:Int).toNat))<|(bp v4 (((0+(v1:Int).toNat):Nat)+(i64.wrap (v3 -1)):Int)).bind λx4=>(bif (x3 !=(x4:Int))then ck (cz v3 (a0.length -(v1:Int).toNat))<|(bp v4 (((0+(v1:Int).toNat):Nat)+v3:Int)).bind λx5=>ck (cz v2 a0.length)<|(bp v4 ((0:Nat)+v2:Int)).bind λx6=>some ((i64.wrap (v2+1)),(v4.set ((0:Nat)+v2:Int).toNat x5))else some (v2,v4)):Option (Int×(List Int))).bind λ(v5,v6)=>some (.inl (v5,(i64.wrap (v3+1)),v6))else some (.inr (v2,v4)))
def Ny(a0:List Int):Stp Int (Unit⊕(Unit×(List Int)))
 |v1=>(bif decide (v1<(a0.length:Int))then ck (cz v1 a0.length)<|(bp a0 ((0:Nat)+v1:Int)).bind λx1=>ck (cz (i64.wrap (v1 -1)) a0.length)<|(bp a0 ((0:Nat)+(i64.wrap (v1 -1)):Int)).bind λx2=>(bif (x1==(x2:Int))then ck (AQ v1 (a0.length:Int) a0.length)<|(iter (Nw a0 v1) n (v1,(1:Int),a0)).bind λ(w1,w2)=>ck (AQ w1 (a0.length:Int) a0.length)<|ck (AQ 0 w1 a0.length)<|(ck (az ((w1:Int).toNat) ((w1:Int).toNat))<|ck (az (sub (w2.take (0+(w1:Int).toNat)) 0 ((w1:Int).toNat)).length ((w1:Int).toNat))<|some ((),(sub (w2.take (0+(w1:Int).toNat)) 0 ((w1:Int).toNat)))).map λa=> .inr (.inr a)else some (.inl (i64.wrap (v1+1))))else some (.inr (.inl ())))
def oP(a0:List Int):Option (Unit×(List Int)):=
 (bif decide ((a0.length:Int)<2)then ck (az a0.length a0.length)<|ck (az (sub a0 0 a0.length).length a0.length)<|some ((),(sub a0 0 a0.length))else dx (iter (Ny n a0) n (1:Int)) λ()=>ck (az a0.length a0.length)<|ck (az (sub a0 0 a0.length).length a0.length)<|some ((),(sub a0 0 a0.length)))
def uX(_:Nat)(a0:List aO)(a1:(aO×aO×Unit)->Option Int):Option (List aO):=Gk a0 a1
def cmp_isNaN_int(a0:Int):Option Bool:=
 some (a0 !=(a0:Int))
def cmp_Compare_int(a0:Int)(a1:Int):Option Int:=
 (cmp_isNaN_int a0).bind λr1=>(cmp_isNaN_int a1).bind λr2=>(bif r1 then(bif r2 then some (0:Int)else some ((-1):Int))else(bif r2 then some (1:Int)else(bif decide (a0<(a1:Int))then some ((-1):Int)else(bif decide (a0>(a1:Int))then some (1:Int)else some (0:Int)))))
def xH(a0:aO)(a1:aO):Option Int:=
 (cmp_Compare_int a0.from_ a1.from_).bind λr1=>some r1
def sZ(a0:List ax)(a1:Int):Stp (Int×(List aO)) (List aO)
 |(v1,v2)=>(bif decide (v1<(a0.length:Int))then((bp a0 v1).bind λx1=>((bif decide (x1.x0<=(a1:Int))then some (decide (a1<(x1.x1:Int)))else some false)).bind λv3=>(bif v3 then ck (bP v2.length v2.length (sub ([(aO.mk x1.y0 x1.y1)]:List aO) 0 1).length 1 16)<|iH (v2++(sub ([(aO.mk x1.y0 x1.y1)]:List aO) 0 1)) λr1=>ck (az r1.length r1.length)<|some r1 else ck (az v2.length v2.length)<|some v2):Option ((List aO))).bind λv4=>ck (az v4.length v4.length)<|some (.inl ((i64.wrap (v1+1)),v4))else ck (az v2.length v2.length)<|some (.inr v2))
def tq(w1:List aO)(r2:List aO):Stp (Int×(List aO)) (List aO)
 |(v5,v6)=>(bif decide (v5<(w1.length:Int))then(ck (cz v5 w1.length)<|(bp r2 ((0:Nat)+v5:Int)).bind λx2=>((bif decide ((v6.length:Int)>0)then ck (cz (i64.wrap ((v6.length:Int) -1)) v6.length)<|(bp v6 ((0:Nat)+(i64.wrap ((v6.length:Int) -1)):Int)).bind λx3=>some (decide (x2.from_<=(x3.to:Int)))else some false)).bind λv7=>(bif v7 then ck (cz (i64.wrap ((v6.length:Int) -1)) v6.length)<|(bp v6 ((0:Nat)+(i64.wrap ((v6.length:Int) -1)):Int)).bind λx4=>ck (cz (i64.wrap ((v6.length:Int) -1)) v6.length)<|(bp v6 ((0:Nat)+(i64.wrap ((v6.length:Int) -1)):Int)).bind λx5=>ck (az v6.length (v6.set ((0:Nat)+(i64.wrap ((v6.length:Int) -1)):Int).toNat (aO.mk x5.from_ (max x4.to x2.to))).length)<|some (v6.set ((0:Nat)+(i64.wrap ((v6.length:Int) -1)):Int).toNat (aO.mk x5.from_ (max x4.to x2.to)))else ck (bP v6.length v6.length (sub ([x2]:List aO) 0 1).length 1 16)<|iH (v6++(sub ([x2]:List aO) 0 1)) λr3=>ck (az r3.length r3.length)<|some r3):Option ((List aO))).bind λv8=>ck (az v8.length v8.length)<|some (.inl ((i64.wrap (v5+1)),v8))else ck (az v6.length v6.length)<|some (.inr v6))
def Jw(a0:List ax)(a1:Int):Option (List aO):=
 ck (az 0 ([]:List aO).length)<|(iter (sZ a0 a1) n ((0:Int),([]:List aO))).bind λw1=>ck (az w1.length w1.length)<|(uX n w1 (λ (y1:aO×aO×Unit)=>xH y1.1 y1.2.1)).bind λr2=>ck (az 0 ([]:List aO).length)<|(iter (tq w1 r2) n ((0:Int),([]:List aO))).bind λw2=>ck (az (sub w2 0 w2.length).length w2.length)<|some (sub w2 0 w2.length)
def tu(r1:List ax):Stp (Int×(List Int)) (List Int)
 |(v1,v2)=>(bif decide (v1<(r1.length:Int))then ck (cz v1 r1.length)<|(bp r1 ((0:Nat)+v1:Int)).bind λx1=>ck (bP v2.length v2.length (sub ([x1.x0,x1.x1]:List Int) 0 2).length 2 8)<|iH (v2++(sub ([x1.x0,x1.x1]:List Int) 0 2)) λr2=>ck (az r2.length r2.length)<|some (.inl ((i64.wrap (v1+1)),r2))else ck (az v2.length v2.length)<|some (.inr v2))
def tC(r1:List ax)(r4:Unit×(List Int)):Stp (Int×(List bV)) (List bV)
 |(v3,v4)=>(bif decide (v3<(r4.2.length:Int))then ck (cz (i64.wrap (v3 -1)) r4.2.length)<|(bp r4.2 ((0:Nat)+(i64.wrap (v3 -1)):Int)).bind λx2=>ck (cz v3 r4.2.length)<|(bp r4.2 ((0:Nat)+v3:Int)).bind λx3=>ck (cz (i64.wrap (v3 -1)) r4.2.length)<|(bp r4.2 ((0:Nat)+(i64.wrap (v3 -1)):Int)).bind λx4=>ck (az (sub r1 0 r1.length).length r1.length)<|(Jw n (sub r1 0 r1.length) x4).bind λr5=>ck (az (sub r5 0 r5.length).length r5.length)<|ck (bP v4.length v4.length (sub ([(bV.mk x2 x3 (sub r5 0 r5.length))]:List bV) 0 1).length 1 40)<|iH (v4++(sub ([(bV.mk x2 x3 (sub r5 0 r5.length))]:List bV) 0 1)) λr6=>ck (az r6.length r6.length)<|some (.inl ((i64.wrap (v3+1)),r6))else ck (az v4.length v4.length)<|some (.inr v4))
def oh(a0:List (List ax)):Option (List bV):=
 (yN n a0).bind λr1=>ck (az 0 ([]:List Int).length)<|(iter (tu r1) n ((0:Int),([]:List Int))).bind λw1=>ck (az w1.length w1.length)<|(oO n w1).bind λr3=>ck (az w1.length r3.length)<|(oP n r3).bind λr4=>ck (az 0 ([]:List bV).length)<|(iter (tC n r1 r4) n ((1:Int),([]:List bV))).bind λw2=>ck (az (sub w2 0 w2.length).length w2.length)<|some (sub w2 0 w2.length)
def P5(a0:List aO)(a1:List aO):Stp Int (Unit⊕Bool)
 |v1=>(bif decide (v1<(a0.length:Int))then(bp a0 v1).bind λx1=>(bp a1 v1).bind λx2=>(bif (!((x1.from_==(x2.from_:Int))&&((x1.to==(x2.to:Int))&&true)))then(some false).map λa=> .inr (.inr a)else some (.inl (i64.wrap (v1+1))))else some (.inr (.inl ())))
def vD(a0:List aO)(a1:List aO):Option Bool:=
 (bif ((a0.length:Int) !=(a1.length:Int))then some false else dx (iter (P5 a0 a1) n (0:Int)) λ()=>some true)
def rW(a0:List bV)(v1:Int):Stp Int Int
 |v3=>((bif decide (v3<(a0.length:Int))then(bp a0 v3).bind λx1=>(bp a0 v1).bind λx2=>(vD n x1.column x2.column).bind λr1=>some r1 else some false)).bind λv4=>(bif v4 then some (.inl (i64.wrap (v3+1)))else some (.inr v3))
def wB(a0:List bV)(v1:Int)(w1:Int)(x3:bV):Stp (Int×(List ax)) (List ax)
 |(v5,v6)=>(bif decide (v5<(x3.column.length:Int))then(bp x3.column v5).bind λx4=>(bp a0 v1).bind λx5=>(bp a0 (i64.wrap (w1 -1))).bind λx6=>ck (bP v6.length v6.length (sub ([(ax.mk x5.x0 x4.from_ x6.x1 x4.to)]:List ax) 0 1).length 1 32)<|iH (v6++(sub ([(ax.mk x5.x0 x4.from_ x6.x1 x4.to)]:List ax) 0 1)) λr2=>ck (az r2.length r2.length)<|some (.inl ((i64.wrap (v5+1)),r2))else ck (az v6.length v6.length)<|some (.inr v6))
def wC(a0:List bV):Stp (Int×(List ax)) (List ax)
 |(v1,v2)=>(bif decide (v1<(a0.length:Int))then(iter (rW n a0 v1) n (i64.wrap (v1+1))).bind λw1=>(bp a0 v1).bind λx3=>ck (az v2.length v2.length)<|(iter (wB a0 v1 w1 x3) n ((0:Int),v2)).bind λw2=>ck (az w2.length w2.length)<|some (.inl (w1,w2))else ck (az v2.length v2.length)<|some (.inr v2))
def H7(a0:List bV):Option (List ax):=
 ck (az 0 ([]:List ax).length)<|(iter (wC n a0) n ((0:Int),([]:List ax))).bind λw3=>ck (az (sub w3 0 w3.length).length w3.length)<|some (sub w3 0 w3.length)
def yO(a0:List ax):Option ((List ax)×Int):=
 (bif decide ((a0.length:Int)>200)then some (([]:(List ax)),(6:Int))else some (a0,(0:Int)))
def Nz(a0:List ax):Stp Int (Unit⊕((List ax)×Int))
 |v1=>(bif decide (v1<(a0.length:Int))then(bp a0 v1).bind λx1=>(ny x1).bind λr1=>(bif (!r1)then(some (([]:(List ax)),(1:Int))).map λa=> .inr (.inr a)else some (.inl (i64.wrap (v1+1))))else some (.inr (.inl ())))
def N3(a0:List ax):Option ((List ax)×Int):=
 dx (iter (Nz a0) n (0:Int)) λ()=>(bif decide ((a0.length:Int)>400)then some (([]:(List ax)),(6:Int))else ck (az (sub ([a0]:List (List ax)) 0 1).length 1)<|(oh n (sub ([a0]:List (List ax)) 0 1)).bind λr2=>ck (az (sub r2 0 r2.length).length r2.length)<|(H7 n (sub r2 0 r2.length)).bind λr3=>ck (az (sub r3 0 r3.length).length r3.length)<|(yO (sub r3 0 r3.length)).bind λr4=>some (r4.1,r4.2))
def P6(a0:List ax)(a1:List ax):Stp Int (Unit⊕Bool)
 |v1=>(bif decide (v1<(a0.length:Int))then(bp a0 v1).bind λx1=>(bp a1 v1).bind λx2=>(bif (!((x1.x0==(x2.x0:Int))&&((x1.y0==(x2.y0:Int))&&((x1.x1==(x2.x1:Int))&&((x1.y1==(x2.y1:Int))&&true)))))then(some false).map λa=> .inr (.inr a)else some (.inl (i64.wrap (v1+1))))else some (.inr (.inl ())))
def om(a0:List ax)(a1:List ax):Option Bool:=
 (bif ((a0.length:Int) !=(a1.length:Int))then some false else dx (iter (P6 a0 a1) n (0:Int)) λ()=>some true)
def nR(a0:List ax):Option Bool:=
 (N3 n a0).bind λr1=>(bif (r1.2==0)then(om n r1.1 a0).bind λr2=>some r2 else some false)
def Aa(a0:List ax):Stp (Bool×Int×Int×Int×Int×Int) (Bool×Int×Int×Int×Int)
 |(v1,v2,v3,v4,v5,v6)=>(bif decide (v2<(a0.length:Int))then((bp a0 v2).bind λx1=>(ny x1).bind λr1=>(bif (!r1)then some (v1,v3,v4,v5,v6)else(bif (!v1)then some (true,x1.x0,x1.y0,x1.x1,x1.y1)else some (v1,(min v3 x1.x0),(min v4 x1.y0),(max v5 x1.x1),(max v6 x1.y1)))):Option (Bool×Int×Int×Int×Int)).bind λ(v7,v8,v9,v10,v11)=>some (.inl (v7,(i64.wrap (v2+1)),v8,v9,v10,v11))else some (.inr (v1,v3,v4,v5,v6)))
def NA(a0:List ax):Option (ax×Bool):=
 (iter (Aa a0) n (false,(0:Int),(0:Int),(0:Int),(0:Int),(0:Int))).bind λ(w1,w2,w3,w4,w5)=>some ((ax.mk w2 w3 w4 w5),w1)
def CB(a0:List ax):Option (ax×Bool):=
 ((bif ((a0.length:Int)==0)then some true else(nR n a0).bind λr1=>some (!r1))).bind λv1=>(bif v1 then some ((ax.mk 0 0 0 0),false)else(NA n a0).bind λr2=>some (r2.1,r2.2))
def rX(a0:ax):Option (ax×Bool):=
 (ny a0).bind λr1=>(bif r1 then some (a0,true)else some ((ax.mk 0 0 0 0),false))
def NC(a0:ax)(a1:Int):Option (ax×Bool):=
 ((ny a0).bind λr1=>(bif (!r1)then some true else some (decide (a1<0)))).bind λv1=>(bif v1 then some ((ax.mk 0 0 0 0),false)else(rX (ax.mk (i64.wrap (a0.x0+(min a1 (1048576:Int)))) (i64.wrap (a0.y0+(min a1 (1048576:Int)))) (i64.wrap (a0.x1 -(min a1 (1048576:Int)))) (i64.wrap (a0.y1 -(min a1 (1048576:Int)))))).bind λr2=>some (r2.1,r2.2))
def lu(a0:List bV)(a1:Int)(a2:(bV×Int×Unit)->Option Int):Stp (Int×Int) Int
 |(v1,v2)=>(bif decide (v1<(v2:Int))then ck (decide (0<=1)&&decide (1<=IntKind.u64.bits))<|(bp a0 (i64.wrap ((IntKind.u64.wrap (i64.wrap (v1+v2)))/2 ^ (1:Int).toNat))).bind λx1=>(a2 (x1,a1,())).bind λr1=>(bif decide (r1<0)then some (.inl ((i64.wrap ((i64.wrap ((IntKind.u64.wrap (i64.wrap (v1+v2)))/2 ^ (1:Int).toNat))+1)),v2))else some (.inl (v1,(i64.wrap ((IntKind.u64.wrap (i64.wrap (v1+v2)))/2 ^ (1:Int).toNat)))))else some (.inr v1))
def iZ(a0:List bV)(a1:Int)(a2:(bV×Int×Unit)->Option Int):Option (Int×Bool):=
 (iter (lu a0 a1 a2) n ((0:Int),(a0.length:Int))).bind λw1=>(bif decide (w1<(a0.length:Int))then(bp a0 w1).bind λx2=>(a2 (x2,a1,())).bind λr2=>some (w1,(r2==0))else some (w1,false))
def wD(a0:bV)(a1:Int):Option Int:=
 (bif decide (a0.x1<=(a1:Int))then some ((-1):Int)else some (1:Int))
def WM(a0:List bV)(a1:Int):Option (List aO):=
 (iZ n a0 a1 (λ (y1:bV×Int×Unit)=>wD y1.1 y1.2.1)).bind λr1=>((bif decide (r1.1<(a0.length:Int))then(bp a0 r1.1).bind λx1=>some (decide (x1.x0<=(a1:Int)))else some false)).bind λv1=>(bif v1 then(bp a0 r1.1).bind λx2=>some x2.column else some ([]:(List aO)))
def ND(a0:Unit)(a1:Int):Option (List aO):=
 (bif decide (a1<0)then none else(bif (decide ((i64.wrap (a1 -(i64.wrap (0 -0))))>0))then ck (zC (i64.wrap (a1 -(i64.wrap (0 -0)))) 16)<|ck (AQ 0 0 ((i64.wrap (a1 -(i64.wrap (0 -0)))).toNat))<|ck (az (sub (List.replicate (i64.wrap (a1 -(i64.wrap (0 -0)))).toNat (aO.mk 0 0)) 0 0).length 0)<|some (sub (List.replicate (i64.wrap (a1 -(i64.wrap (0 -0)))).toNat (aO.mk 0 0)) 0 0)else some ([]:(List aO))))
def NE(a0:List (List aO)):Stp (Int×Int) Int
 |(v1,v2)=>(bif decide (v2<(a0.length:Int))then(bp a0 v2).bind λx1=>(bif decide ((i64.wrap (v1+(x1.length:Int)))<0)then none else some (.inl ((i64.wrap (v1+(x1.length:Int))),(i64.wrap (v2+1)))))else some (.inr v1))
def NF(a0:List (List aO)):Stp (Int×(List aO)) (List aO)
 |(v3,v4)=>(bif decide (v3<(a0.length:Int))then(bp a0 v3).bind λx2=>ck (bP v4.length v4.length x2.length x2.length 16)<|iH (v4++x2) λr2=>ck (az r2.length r2.length)<|some (.inl ((i64.wrap (v3+1)),r2))else ck (az v4.length v4.length)<|some (.inr v4))
def yP(a0:List (List aO)):Option (List aO):=
 (iter (NE a0) n ((0:Int),(0:Int))).bind λw1=>(ND () w1).bind λr1=>ck (az r1.length r1.length)<|(iter (NF a0) n ((0:Int),r1)).bind λw2=>ck (az (sub w2 0 w2.length).length w2.length)<|some (sub w2 0 w2.length)
def mq(a0:List aO)(a1:Int)(a2:(aO×Int×Unit)->Option Int):Stp (Int×Int) Int
 |(v1,v2)=>(bif decide (v1<(v2:Int))then ck (decide (0<=1)&&decide (1<=IntKind.u64.bits))<|(bp a0 (i64.wrap ((IntKind.u64.wrap (i64.wrap (v1+v2)))/2 ^ (1:Int).toNat))).bind λx1=>(a2 (x1,a1,())).bind λr1=>(bif decide (r1<0)then some (.inl ((i64.wrap ((i64.wrap ((IntKind.u64.wrap (i64.wrap (v1+v2)))/2 ^ (1:Int).toNat))+1)),v2))else some (.inl (v1,(i64.wrap ((IntKind.u64.wrap (i64.wrap (v1+v2)))/2 ^ (1:Int).toNat)))))else some (.inr v1))
def jr(a0:List aO)(a1:Int)(a2:(aO×Int×Unit)->Option Int):Option (Int×Bool):=
 (iter (mq a0 a1 a2) n ((0:Int),(a0.length:Int))).bind λw1=>(bif decide (w1<(a0.length:Int))then(bp a0 w1).bind λx2=>(a2 (x2,a1,())).bind λr2=>some (w1,(r2==0))else some (w1,false))
def lC(a0:aO)(a1:Int):Option Int:=
 (bif decide (a0.to<=(a1:Int))then some ((-1):Int)else some (1:Int))
def CF(a0:List aO)(a1:Int):Option Bool:=
 (jr n a0 a1 (λ (y1:aO×Int×Unit)=>lC y1.1 y1.2.1)).bind λr1=>(bif decide (r1.1<(a0.length:Int))then(bp a0 r1.1).bind λx1=>some (decide (x1.from_<=(a1:Int)))else some false)
def wE(r1:List aO):Stp (Int×(List Int)) (List Int)
 |(v1,v2)=>(bif decide (v1<(r1.length:Int))then ck (cz v1 r1.length)<|(bp r1 ((0:Nat)+v1:Int)).bind λx1=>ck (bP v2.length v2.length (sub ([x1.from_,x1.to]:List Int) 0 2).length 2 8)<|iH (v2++(sub ([x1.from_,x1.to]:List Int) 0 2)) λr2=>ck (az r2.length r2.length)<|some (.inl ((i64.wrap (v1+1)),r2))else ck (az v2.length v2.length)<|some (.inr v2))
def wF(a0:List aO)(a1:List aO)(a2:(Bool×Bool×Unit)->Option Bool)(r4:Unit×(List Int)):Stp (Int×(List aO)) (List aO)
 |(v3,v4)=>(bif decide (v3<(r4.2.length:Int))then(ck (cz (i64.wrap (v3 -1)) r4.2.length)<|(bp r4.2 ((0:Nat)+(i64.wrap (v3 -1)):Int)).bind λx2=>(CF n a0 x2).bind λr5=>(CF n a1 x2).bind λr6=>(a2 (r5,r6,())).bind λr7=>(bif (!r7)then ck (az v4.length v4.length)<|some v4 else((bif decide ((v4.length:Int)>0)then ck (cz (i64.wrap ((v4.length:Int) -1)) v4.length)<|(bp v4 ((0:Nat)+(i64.wrap ((v4.length:Int) -1)):Int)).bind λx3=>some (x3.to==(x2:Int))else some false)).bind λv5=>(bif v5 then ck (cz v3 r4.2.length)<|(bp r4.2 ((0:Nat)+v3:Int)).bind λx4=>ck (cz (i64.wrap ((v4.length:Int) -1)) v4.length)<|(bp v4 ((0:Nat)+(i64.wrap ((v4.length:Int) -1)):Int)).bind λx5=>ck (az v4.length (v4.set ((0:Nat)+(i64.wrap ((v4.length:Int) -1)):Int).toNat (aO.mk x5.from_ x4)).length)<|some (v4.set ((0:Nat)+(i64.wrap ((v4.length:Int) -1)):Int).toNat (aO.mk x5.from_ x4))else ck (cz v3 r4.2.length)<|(bp r4.2 ((0:Nat)+v3:Int)).bind λx6=>ck (bP v4.length v4.length (sub ([(aO.mk x2 x6)]:List aO) 0 1).length 1 16)<|iH (v4++(sub ([(aO.mk x2 x6)]:List aO) 0 1)) λr8=>ck (az r8.length r8.length)<|some r8)):Option ((List aO))).bind λv6=>ck (az v6.length v6.length)<|some (.inl ((i64.wrap (v3+1)),v6))else ck (az v4.length v4.length)<|some (.inr v4))
def H8(a0:List aO)(a1:List aO)(a2:(Bool×Bool×Unit)->Option Bool):Option (List aO):=
 ck (az (sub ([a0,a1]:List (List aO)) 0 2).length 2)<|(yP n (sub ([a0,a1]:List (List aO)) 0 2)).bind λr1=>ck (az 0 ([]:List Int).length)<|(iter (wE r1) n ((0:Int),([]:List Int))).bind λw1=>ck (az w1.length w1.length)<|(oO n w1).bind λr3=>ck (az w1.length r3.length)<|(oP n r3).bind λr4=>ck (az 0 ([]:List aO).length)<|(iter (wF n a0 a1 a2 r4) n ((1:Int),([]:List aO))).bind λw2=>ck (az (sub w2 0 w2.length).length w2.length)<|some (sub w2 0 w2.length)
def qp(a2:(Bool×Bool×Unit)->Option Bool)(r3:List bV)(r4:List bV)(r5:List bV):Stp (Int×(List bV)) (List bV)
 |(v2,v3)=>(bif decide (v2<(r5.length:Int))then ck (cz v2 r5.length)<|(bp v3 ((0:Nat)+v2:Int)).bind λx1=>(WM n (sub r3 0 r3.length) x1.x0).bind λr6=>(WM n (sub r4 0 r4.length) x1.x0).bind λr7=>(H8 n r6 r7 a2).bind λr8=>ck (cz v2 r5.length)<|ck (az (sub r8 0 r8.length).length r8.length)<|(bp v3 ((0:Nat)+v2:Int)).bind λx2=>some (.inl ((i64.wrap (v2+1)),(v3.set ((0:Nat)+v2:Int).toNat (bV.mk x2.x0 x2.x1 (sub r8 0 r8.length)))))else some (.inr v3))
def Eh(a0:List ax)(a1:List ax)(a2:(Bool×Bool×Unit)->Option Bool):Option ((List ax)×Int):=
 ((nR n a0).bind λr1=>(bif (!r1)then some true else(nR n a1).bind λr2=>some (!r2))).bind λv1=>(bif v1 then some (([]:(List ax)),(1:Int))else ck (az (sub ([a0]:List (List ax)) 0 1).length 1)<|(oh n (sub ([a0]:List (List ax)) 0 1)).bind λr3=>ck (az (sub ([a1]:List (List ax)) 0 1).length 1)<|(oh n (sub ([a1]:List (List ax)) 0 1)).bind λr4=>ck (az (sub r3 0 r3.length).length r3.length)<|ck (az (sub r4 0 r4.length).length r4.length)<|ck (az (sub ([a0,a1]:List (List ax)) 0 2).length 2)<|(oh n (sub ([a0,a1]:List (List ax)) 0 2)).bind λr5=>(iter (qp n a2 r3 r4 r5) n ((0:Int),r5)).bind λw1=>ck (az (sub w1 0 r5.length).length r5.length)<|(H7 n (sub w1 0 r5.length)).bind λr9=>ck (az (sub r9 0 r9.length).length r9.length)<|(yO (sub r9 0 r9.length)).bind λyl=>some (yl.1,yl.2))
def xI(a0:Bool)(a1:Bool):Option Bool:=
 (bif a0 then some a1 else some false)
def CG(a0:List ax)(a1:List ax):Option ((List ax)×Int):=
 (Eh n a0 a1 (λ (y1:Bool×Bool×Unit)=>xI y1.1 y1.2.1)).bind λr1=>some (r1.1,r1.2)
def oQ(a0:ax):Option Int:=
 (rX a0).bind λr1=>some (i64.wrap ((i64.wrap (r1.1.x1 -r1.1.x0))*(i64.wrap (r1.1.y1 -r1.1.y0))))
def Ei(a0:List ax):Stp (Int×Int) Int
 |(v1,v2)=>(bif decide (v2<(a0.length:Int))then(bp a0 v2).bind λx1=>(oQ x1).bind λr2=>some (.inl ((i64.wrap (v1+r2)),(i64.wrap (v2+1))))else some (.inr v1))
def Jy(a0:List ax):Option Int:=
 (nR n a0).bind λr1=>(bif (!r1)then some (0:Int)else(iter (Ei a0) n ((0:Int),(0:Int))).bind λw1=>some w1)
def nC(a0:bS)(a1:Int):Option (ax×Bool):=
 (CB n a0.area).bind λr1=>((bif (!r1.2)then some true else(bif decide (a1<0)then some true else some (decide (a1>20))))).bind λv1=>(bif v1 then some ((ax.mk 0 0 0 0),false)else(NC r1.1 a1).bind λr2=>(bif (!r2.2)then some ((ax.mk 0 0 0 0),false)else ck (az (sub ([r2.1]:List ax) 0 1).length 1)<|(CG n a0.area (sub ([r2.1]:List ax) 0 1)).bind λr3=>(bif (r3.2==0)then(Jy n r3.1).bind λr4=>(oQ r2.1).bind λr5=>some (r2.1,(r4==(r5:Int)))else some (r2.1,false))))
def vE(a0:List Int):Stp Int (Unit⊕Int)
 |v1=>(bif decide (v1<(a0.length:Int))then(bp a0 v1).bind λx1=>(bif (x1 !=0)then(some x1).map λa=> .inr (.inr a)else some (.inl (i64.wrap (v1+1))))else some (.inr (.inl ())))
def rD(a0:List Int):Option Int:=
 dx (iter (vE a0) n (0:Int)) λ()=>some (0:Int)
def vy:tA xx SI.kw SI.ev:=⟨(λ x=>x.lot),(λ x=>x.use),(λ x=>x.floors),(λ x=>x.d6),(λ x=>x.a0),(λ x=>x.a1),λ_=>rfl,λ_=>rfl⟩
def ah5(a0:List aQ)(a1:List (lq×Int)):Option ((List aQ)×(List (lq×Int))):=@mA xx SI.kw SI.ev (inferInstance:Inhabited aQ) vy a0 a1
def lD(x1:bS)(v6:Int):Stp (Int×(List aQ)) (List aQ)
 |(v9,v10)=>(bif decide (v9<72)then ck (6 !=0)<|ck (6 !=0)<|ck (bP v10.length v10.length (sub ([(aQ.mk x1.id (Int.tmod v9 6) (i64.wrap ((i64.wrap (Int.tdiv v9 6))+1)) v6)]:List aQ) 0 1).length 1 32)<|iH (v10++(sub ([(aQ.mk x1.id (Int.tmod v9 6) (i64.wrap ((i64.wrap (Int.tdiv v9 6))+1)) v6)]:List aQ) 0 1)) λr3=>ck (az r3.length r3.length)<|some (.inl ((i64.wrap (v9+1)),r3))else ck (az v10.length v10.length)<|some (.inr v10))
def lF(x1:bS):Stp (Int×(List (lq×Int))×(List aQ)) ((List (lq×Int))×(List aQ))
 |(v6,v7,v8)=>(bif decide (v6<21)then((nC n x1 v6).bind λr1=>(bif (!r1.2)then ck (az v8.length v8.length)<|some (v7,v8)else(oQ r1.1).bind λr2=>ck (az v8.length v8.length)<|(iter (lD x1 v6) n ((0:Int),v8)).bind λw1=>ck (az w1.length w1.length)<|some ((ru (G6 (X:=xx) SI.ev) (lq.mk x1.id v6) r2 v7),w1)):Option ((List (lq×Int))×(List aQ))).bind λ(v11,v12)=>ck (az v12.length v12.length)<|some (.inl ((i64.wrap (v6+1)),v11,v12))else ck (az v8.length v8.length)<|some (.inr (v7,v8)))
def lG(a0:List bS):Stp (Int×(List (lq×Int))×(List (Int×Bool))×(List aQ)) ((List (lq×Int))×(List aQ))
 |(v1,v2,v3,v4)=>(bif decide (v1<(a0.length:Int))then((bp a0 v1).bind λx1=>((bif ((fP jp x1.id v3).getD false)then some true else(bif decide (x1.id<0)then some true else some (decide (x1.id>1073741824))))).bind λv5=>(bif v5 then ck (az v4.length v4.length)<|some (v2,v3,v4)else ck (az v4.length v4.length)<|(iter (lF n x1) n ((0:Int),v2,v4)).bind λ(w2,w3)=>ck (az w3.length w3.length)<|some (w2,(ru jp x1.id true v3),w3)):Option ((List (lq×Int))×(List (Int×Bool))×(List aQ))).bind λ(v13,v14,v15)=>ck (az v15.length v15.length)<|some (.inl ((i64.wrap (v1+1)),v13,v14,v15))else ck (az v4.length v4.length)<|some (.inr (v2,v4)))
def oU(a0:List bS):Option (List aQ):=
 ck (az 0 ([]:List aQ).length)<|(iter (lG n a0) n ((0:Int),([]:(List (lq×Int))),([]:(List (Int×Bool))),([]:List aQ))).bind λ(w4,w5)=>ck (az w5.length w5.length)<|(ah5 w5 w4).bind λr4=>ck (az (sub r4.1 0 w5.length).length w5.length)<|some (sub r4.1 0 w5.length)
def qP(a0:bS)(a1:aQ):Option Bool:=
 some (a0.id==(a1.lot:Int))
def JR(a0:List bS)(a1:(bS×Unit)->Option Bool):Stp Int (Unit⊕Int)
 |v1=>(bif decide (v1<(a0.length:Int))then(bp a0 v1).bind λx1=>(a1 (x1,())).bind λr1=>(bif r1 then(some v1).map λa=> .inr (.inr a)else some (.inl (i64.wrap (v1+1))))else some (.inr (.inl ())))
def uY(a0:List bS)(a1:(bS×Unit)->Option Bool):Option Int:=
 dx (iter (JR a0 a1) n (0:Int)) λ()=>some ((-1):Int)
def vF(a0:bS)(a1:aQ):Option (bn×Bool):=
 (nC n a0 a1.d6).bind λr1=>((bif (!r1.2)then some true else(bif (a1.lot !=(a0.id:Int))then some true else(bif decide (a1.lot<0)then some true else(bif decide (a1.lot>1073741824)then some true else(bif decide (a1.use<0)then some true else(bif decide (a1.use>=6)then some true else(bif decide (a1.floors<1)then some true else some (decide (a1.floors>12)))))))))).bind λv1=>(bif v1 then some ((bn.mk 0 ([])),false)else((bif (a1.use==0)then some (r1.1.x0,r1.1.y0,r1.1.x1,r1.1.y1,(0:Int),(i64.wrap (a1.floors*3)),a1.use,a1.floors,false)else some (r1.1.x0,r1.1.y0,r1.1.x1,r1.1.y1,(0:Int),(i64.wrap (a1.floors*3)),a1.use,(0:Int),false)):Option (Int×Int×Int×Int×Int×Int×Int×Int×Bool)).bind λ(v2,v3,v4,v5,v6,v7,v8,v9,v10)=>ck (az (sub ([(aH.mk v2 v3 v4 v5 v6 v7 v8 v9 v10)]:List aH) 0 1).length 1)<|ck (az (sub ([(rC.mk (sub ([(aH.mk v2 v3 v4 v5 v6 v7 v8 v9 v10)]:List aH) 0 1) ([]))]:List rC) 0 1).length 1)<|some ((bn.mk a1.lot (sub ([(rC.mk (sub ([(aH.mk v2 v3 v4 v5 v6 v7 v8 v9 v10)]:List aH) 0 1) ([]))]:List rC) 0 1)),true))
def tF(a0:bU)(a1:aQ):Option (bn×Bool):=
 (uY n a0.land (λ (y1:bS×Unit)=>qP y1.1 a1)).bind λr1=>(bif decide (r1<0)then some ((bn.mk 0 ([])),false)else(bp a0.land r1).bind λx1=>(vF n x1 a1).bind λr2=>some (r2.1,r2.2))
def pI(a0:bU)(r1:List aQ):Stp (Int×(List rV)) (List rV)
 |(v1,v2)=>(bif decide (v1<(r1.length:Int))then(ck (cz v1 r1.length)<|(bp r1 ((0:Nat)+v1:Int)).bind λx1=>(tF n a0 x1).bind λr2=>(bif r2.2 then ck (bP v2.length v2.length (sub ([(rV.mk x1.lot x1.use x1.floors x1.d6 r2.1.lot r2.1.phases)]:List rV) 0 1).length 1 64)<|iH (v2++(sub ([(rV.mk x1.lot x1.use x1.floors x1.d6 r2.1.lot r2.1.phases)]:List rV) 0 1)) λr3=>ck (az r3.length r3.length)<|some r3 else ck (az v2.length v2.length)<|some v2):Option ((List rV))).bind λv3=>ck (az v3.length v3.length)<|some (.inl ((i64.wrap (v1+1)),v3))else ck (az v2.length v2.length)<|some (.inr v2))
def qw(a0:bU):Option (List rV):=
 (oU n a0.land).bind λr1=>ck (az 0 ([]:List rV).length)<|(iter (pI n a0 r1) n ((0:Int),([]:List rV))).bind λw1=>ck (az (sub w1 0 w1.length).length w1.length)<|some (sub w1 0 w1.length)
def witness_under(a0:bU)(a1:bB):Option bU:=
 some (bU.mk a1.defs a1.tables a1.zones a1.rules a1.caps a1.views a1.sm a1.hours a0.land a0.bz a0.windows a0.built a0.base)
def A7(a0:List ax):Option (List ax):=
 (bif a0.isEmpty then(both (some ([]:(List ax))) (ck (bP ([]:List ax).length 0 a0.length a0.length 32)<|iH (([]:List ax)++a0) λr1=>ck (az (sub r1 0 r1.length).length r1.length)<|some (sub r1 0 r1.length)))else ck (bP ([]:List ax).length 0 a0.length a0.length 32)<|iH (([]:List ax)++a0) λr2=>ck (az (sub r2 0 r2.length).length r2.length)<|some (sub r2 0 r2.length))
def Ej(a0:List Int):Option (List Int):=
 (bif a0.isEmpty then(both (some ([]:(List Int))) (ck (bP ([]:List Int).length 0 a0.length a0.length 8)<|iH (([]:List Int)++a0) λr1=>ck (az (sub r1 0 r1.length).length r1.length)<|some (sub r1 0 r1.length)))else ck (bP ([]:List Int).length 0 a0.length a0.length 8)<|iH (([]:List Int)++a0) λr2=>ck (az (sub r2 0 r2.length).length r2.length)<|some (sub r2 0 r2.length))
def NG(a0:bS):Option bS:=
 (A7 a0.area).bind λr1=>(Ej a0.from_).bind λr2=>ck (az (sub r1 0 r1.length).length r1.length)<|ck (az (sub r2 0 r2.length).length r2.length)<|some (bS.mk a0.id a0.owner (sub r1 0 r1.length) (sub r2 0 r2.length))
def El(a0:List bS)(a1:Int):Stp Int (Unit⊕(bS×Bool))
 |v1=>(bif decide (v1<(a0.length:Int))then(bp a0 v1).bind λx1=>(bif (x1.id==(a1:Int))then(NG x1).bind λr1=>(some (r1,true)).map λa=> .inr (.inr a)else some (.inl (i64.wrap (v1+1))))else some (.inr (.inl ())))
def NH(a0:List bS)(a1:Int):Option (bS×Bool):=
 dx (iter (El a0 a1) n (0:Int)) λ()=>some ((bS.mk 0 0 ([]) ([])),false)
def nD(a0:bn)(a1:Int)(a2:Int):Stp (Int×(List aH)) (List aH)
 |(v1,v2)=>(bif decide (v1<(a0.phases.length:Int))then((bp a0.phases v1).bind λx1=>((bif decide (v1>=(a1:Int))then some (decide (v1<(a2:Int)))else some false)).bind λv3=>(bif v3 then ck (bP v2.length v2.length x1.cy.length x1.cy.length 72)<|iH (v2++x1.cy) λr1=>ck (az r1.length r1.length)<|some r1 else ck (az v2.length v2.length)<|some v2):Option ((List aH))).bind λv4=>ck (az v4.length v4.length)<|some (.inl ((i64.wrap (v1+1)),v4))else ck (az v2.length v2.length)<|some (.inr v2))
def nS(a0:bn)(a1:Int)(a2:Int):Option (List aH):=
 ck (az 0 ([]:List aH).length)<|(iter (nD a0 a1 a2) n ((0:Int),([]:List aH))).bind λw1=>ck (az (sub w1 0 w1.length).length w1.length)<|some (sub w1 0 w1.length)
def wG(a0:bn):Option (List aH):=
 (nS n a0 0 (a0.phases.length:Int)).bind λr1=>ck (az (sub r1 0 r1.length).length r1.length)<|some (sub r1 0 r1.length)
def gm(a0:aH):Option Bool:=
 ((ny (ax.mk a0.bu a0.ca a0.br a0.b9)).bind λr1=>(bif (!r1)then some true else(bif decide (a0.er<0)then some true else(bif decide (a0.er>=(a0.ec:Int))then some true else some (decide (a0.ec>4096)))))).bind λv1=>(bif v1 then some false else((bif (a0.use !=0)then some (a0.units !=0)else some false)).bind λv2=>(bif v2 then some false else(bif decide (a0.use>=0)then(bif decide (a0.use<6)then(bif decide (a0.units>=0)then some (decide (a0.units<=1048576))else some false)else some false)else some false)))
def rY(a0:ax)(a1:ax):Option (ax×Bool):=
 ((ny a0).bind λr1=>(bif (!r1)then some true else(ny a1).bind λr2=>some (!r2))).bind λv1=>(bif v1 then some ((ax.mk 0 0 0 0),false)else(rX (ax.mk (max a0.x0 a1.x0) (max a0.y0 a1.y0) (min a0.x1 a1.x1) (min a0.y1 a1.y1))).bind λr3=>some (r3.1,r3.2))
def xJ(a0:DA)(a1:DA):Option Bool:=
 (rY (ax.mk a0.oB a0.oy a0.oA a0.ox) (ax.mk a1.oB a1.oy a1.oA a1.ox)).bind λr1=>(bif r1.2 then(bif decide (a0.z0<(a1.z1:Int))then some (decide (a1.z0<(a0.z1:Int)))else some false)else some false)
def qQ(a0:aH)(a1:aH):Option Bool:=
 (xJ (DA.mk a1.bu a1.ca a1.br a1.b9 a1.er a1.ec) (DA.mk a0.bu a0.ca a0.br a0.b9 a0.er a0.ec)).bind λr1=>some r1
def Em(a0:List aH)(a1:(aH×Unit)->Option Bool):Stp Int (Unit⊕Int)
 |v1=>(bif decide (v1<(a0.length:Int))then(bp a0 v1).bind λx1=>(a1 (x1,())).bind λr1=>(bif r1 then(some v1).map λa=> .inr (.inr a)else some (.inl (i64.wrap (v1+1))))else some (.inr (.inl ())))
def qc(a0:List aH)(a1:(aH×Unit)->Option Bool):Option Int:=
 dx (iter (Em a0 a1) n (0:Int)) λ()=>some ((-1):Int)
def fM(a0:List aH)(a1:(aH×Unit)->Option Bool):Option Bool:=
 (qc n a0 a1).bind λr1=>some (decide (r1>=0))
def En(a0:Int):Option Bool:=
 (bif decide (a0>=97)then some (decide (a0<=122))else some false)
def Ab(a0:ByteArray)(a1:(Int×Unit)->Option Bool):Stp Int Int
 |v1=>((bif decide (v1<(a0.size:Int))then(Ro a0 v1).bind λx1=>(a1 (x1,())).bind λr1=>some r1 else some false)).bind λv2=>(bif v2 then some (.inl (i64.wrap (v1+1)))else some (.inr v1))
def NI(a0:ByteArray)(a1:(Int×Unit)->Option Bool):Option Int:=
 (iter (Ab a0 a1) n (0:Int)).bind λw1=>some w1
def P7(a0:Int):Option Bool:=
 (bif decide (a0>=48)then some (decide (a0<=57))else some false)
def Ac(a0:Int):Option Bool:=
 (En a0).bind λr1=>(bif r1 then some true else(P7 a0).bind λr2=>some r2)
def NJ(a0:ByteArray):Option Bool:=
 ((bif (ByteArray.toList a0==ByteArray.toList (⟨#[]⟩))then some true else(Ro a0 0).bind λx1=>(En x1).bind λr1=>(bif (!r1)then some true else some (decide ((a0.size:Int)>20))))).bind λv1=>(bif v1 then some false else(NI n a0 (λ (y1:Int×Unit)=>Ac y1.1)).bind λr2=>some (r2==(a0.size:Int)))
def strings_Contains(a0 a1:ByteArray):Option Bool:=ck (Nat.ble a0.size 4000000)<|some (Lib.contains a0.data.toList a1.data.toList)
def wH(a0:ByteArray):Option Bool:=
 (NJ n a0).bind λr1=>(bif r1 then ck (Vo (⟨#[32]⟩) a0)<|ck (Vo ((⟨#[32]⟩)++a0) (⟨#[32]⟩))<|(strings_Contains (⟨#[32,97,110,100,32,97,112,97,114,116,32,98,97,115,101,32,99,97,112,32,100,101,102,105,110,101,32,101,108,115,101,32,101,120,99,101,112,116,32,102,114,111,109,32,103,114,97,99,101,32,104,111,117,114,115,32,105,102,32,105,110,32,108,101,97,115,116,32,110,111,116,32,111,114,32,111,118,101,114,108,97,121,32,112,108,97,110,101,32,114,117,108,101,32,115,108,111,112,101,32,115,117,110,32,116,97,98,108,101,32,116,104,101,110,32,117,110,116,105,108,32,117,115,101,115,32,118,97,114,121,32,118,105,101,119,32,122,111,110,101,32]⟩) (((⟨#[32]⟩)++a0)++(⟨#[32]⟩))).bind λr2=>some (!r2)else some false)
def kM(r1:List aH):Stp Int (Unit⊕Bool)
 |v2=>(bif decide (v2<(r1.length:Int))then ck (cz v2 r1.length)<|(bp r1 ((0:Nat)+v2:Int)).bind λx1=>((gm x1).bind λr2=>(bif (!r2)then some true else ck (AQ 0 v2 r1.length)<|ck (az (sub r1 0 ((v2:Int).toNat)).length ((v2:Int).toNat))<|(fM n (sub r1 0 ((v2:Int).toNat)) (λ (y1:aH×Unit)=>qQ y1.1 x1)).bind λr3=>some r3)).bind λv3=>(bif v3 then(some false).map λa=> .inr (.inr a)else some (.inl (i64.wrap (v2+1))))else some (.inr (.inl ())))
def kN(x2:rC):Stp (Int×(List (ByteArray×Bool))) (Unit⊕(Int⊕(Unit⊕Bool)))
 |(v5,v6)=>(bif decide (v5<(x2.gives.length:Int))then(bp x2.gives v5).bind λx3=>((bif ((fP lj x3.name v6).getD false)then some true else(wH n x3.name).bind λr4=>(bif (!r4)then some true else(bif decide (x3.n<0)then some true else some (decide (x3.n>1073741824)))))).bind λv7=>(bif v7 then((some false).map λa=> .inr (.inr a)).map λa=> .inr (.inr a)else some (.inl ((i64.wrap (v5+1)),(ru lj x3.name true v6))))else some (.inr (.inl ())))
def kP(a0:bn):Stp Int (Unit⊕Bool)
 |v4=>(bif decide (v4<(a0.phases.length:Int))then(bp a0.phases v4).bind λx2=>dx (iter (kN n x2) n ((0:Int),([]:(List (ByteArray×Bool))))) λ()=>(bif decide ((x2.gives.length:Int)>30)then(some false).map λa=> .inr (.inr a)else some (.inl (i64.wrap (v4+1))))else some (.inr (.inl ())))
def xK(a0:bn):Option Bool:=
 (wG n a0).bind λr1=>((bif decide (a0.lot<0)then some true else(bif decide (a0.lot>1073741824)then some true else(bif decide ((a0.phases.length:Int)<1)then some true else(bif decide ((a0.phases.length:Int)>8)then some true else(bif decide ((r1.length:Int)<1)then some true else some (decide ((r1.length:Int)>40)))))))).bind λv1=>(bif v1 then some false else dx (iter (kM n r1) n (0:Int)) λ()=>dx (iter (kP n a0) n (0:Int)) λ()=>some true)
def uZ(a0:fZ)(a1:bR):Option Bool:=
 some (ByteArray.toList a0.name==ByteArray.toList a1.name)
def JS(a0:List fZ)(a1:(fZ×Unit)->Option Bool):Stp Int (Unit⊕Int)
 |v1=>(bif decide (v1<(a0.length:Int))then(bp a0 v1).bind λx1=>(a1 (x1,())).bind λr1=>(bif r1 then(some v1).map λa=> .inr (.inr a)else some (.inl (i64.wrap (v1+1))))else some (.inr (.inl ())))
def u6(a0:List fZ)(a1:(fZ×Unit)->Option Bool):Option Int:=
 dx (iter (JS a0 a1) n (0:Int)) λ()=>some ((-1):Int)
def mE(a0:List fZ)(a1:(fZ×Unit)->Option Bool):Option Bool:=
 (u6 n a0 a1).bind λr1=>some (decide (r1>=0))
def jV(a1:bS)(r3:List aH):Stp Int (Unit⊕Bool)
 |v2=>(bif decide (v2<(r3.length:Int))then ck (cz v2 r3.length)<|(bp r3 ((0:Nat)+v2:Int)).bind λx1=>ck (az (sub ([(ax.mk x1.bu x1.ca x1.br x1.b9)]:List ax) 0 1).length 1)<|(CG n a1.area (sub ([(ax.mk x1.bu x1.ca x1.br x1.b9)]:List ax) 0 1)).bind λr4=>((bif (r4.2 !=0)then some true else(Jy n r4.1).bind λr5=>(oQ (ax.mk x1.bu x1.ca x1.br x1.b9)).bind λr6=>some (decide (r5<(r6:Int))))).bind λv3=>(bif v3 then(some false).map λa=> .inr (.inr a)else some (.inl (i64.wrap (v2+1))))else some (.inr (.inl ())))
def jW(a0:bB)(x2:rC):Stp Int (Unit⊕(Int⊕(Unit⊕Bool)))
 |v5=>(bif decide (v5<(x2.gives.length:Int))then(bp x2.gives v5).bind λx3=>(mE n a0.caps (λ (y1:fZ×Unit)=>uZ y1.1 x3)).bind λr7=>(bif (!r7)then((some false).map λa=> .inr (.inr a)).map λa=> .inr (.inr a)else some (.inl (i64.wrap (v5+1))))else some (.inr (.inl ())))
def jX(a0:bB)(a2:bn):Stp Int (Unit⊕Bool)
 |v4=>(bif decide (v4<(a2.phases.length:Int))then(bp a2.phases v4).bind λx2=>dx (iter (jW n a0 x2) n (0:Int)) λ()=>some (.inl (i64.wrap (v4+1)))else some (.inr (.inl ())))
def oo(a0:bB)(a1:bS)(a2:bn):Option Bool:=
 ((xK n a2).bind λr1=>(bif (!r1)then some true else(bif (a1.id !=(a2.lot:Int))then some true else(nR n a1.area).bind λr2=>some (!r2)))).bind λv1=>(bif v1 then some false else(wG n a2).bind λr3=>dx (iter (jV n a1 r3) n (0:Int)) λ()=>dx (iter (jX n a0 a2) n (0:Int)) λ()=>some true)
def oF(a0:bn):Stp (Int×(List aH)) (List aH)
 |(v1,v2)=>(bif decide (v1<(a0.phases.length:Int))then(bp a0.phases v1).bind λx1=>ck (bP v2.length v2.length x1.cy.length x1.cy.length 72)<|iH (v2++x1.cy) λr1=>ck (az r1.length r1.length)<|some (.inl ((i64.wrap (v1+1)),r1))else ck (az v2.length v2.length)<|some (.inr v2))
def tH(a0:bn):Option (List aH):=
 ck (az 0 ([]:List aH).length)<|(iter (oF a0) n ((0:Int),([]:List aH))).bind λw1=>ck (az (sub w1 0 w1.length).length w1.length)<|some (sub w1 0 w1.length)
def oG(a0:List dR):Stp (Int×(List jA)) (List jA)
 |(v1,v2)=>(bif decide (v1<(a0.length:Int))then(bp a0 v1).bind λx1=>ck ((a0.length:Int) !=0)<|(bp a0 (Int.tmod (i64.wrap (v1+1)) (a0.length:Int))).bind λx2=>ck (cz v1 ((a0.length:Int).toNat))<|(bp v2 ((0:Nat)+v1:Int)).bind λx3=>some (.inl ((i64.wrap (v1+1)),(v2.set ((0:Nat)+v1:Int).toNat (jA.mk x1.x x1.y x2.x x2.y))))else some (.inr v2))
def oV(a0:List dR):Option (List jA):=
 ck (decide ((a0.length:Int)<=(a0.length:Int))&&(decide (0<=(a0.length:Int))&&zC (a0.length:Int) 32))<|(iter (oG a0) n ((0:Int),(List.replicate (a0.length:Int).toNat (jA.mk 0 0 0 0)))).bind λw1=>ck (az (sub w1 0 ((a0.length:Int).toNat)).length ((a0.length:Int).toNat))<|some (sub w1 0 ((a0.length:Int).toNat))
def tJ(a0:dR):Option Bool:=
 (bif decide (0<=(a0.x:Int))then(bif decide (a0.x<=1048576)then(bif decide (0<=(a0.y:Int))then some (decide (a0.y<=1048576))else some false)else some false)else some false)
def gJ(a0:jA):Option Bool:=
 some (a0.ly==(a0.mi:Int))
def qR(a0:dR)(a1:dR):Option Int:=
 (cmp_Compare_int a0.x a1.x).bind λr1=>(cmp_Compare_int a0.y a1.y).bind λr2=>ck (az (sub ([r1,r2]:List Int) 0 2).length 2)<|(rD n (sub ([r1,r2]:List Int) 0 2)).bind λr3=>some r3
def lH(a0:jA)(a1:jA):Option Bool:=
 (bif decide ((max (min a0.ly a0.mi) (min a1.ly a1.mi))<=((min (max a0.ly a0.mi) (max a1.ly a1.mi)):Int))then some (decide ((max (min a0.py a0.t7) (min a1.py a1.t7))<=((min (max a0.py a0.t7) (max a1.py a1.t7)):Int)))else some false)
def pJ(a0:List dR)(r1:List jA):Stp Int (Unit⊕Bool)
 |v2=>(bif decide (v2<(r1.length:Int))then ck (cz v2 r1.length)<|(bp r1 ((0:Nat)+v2:Int)).bind λx1=>ck ((r1.length:Int) !=0)<|ck (cz (Int.tmod (i64.wrap (v2+1)) (r1.length:Int)) r1.length)<|(bp r1 ((0:Nat)+(Int.tmod (i64.wrap (v2+1)) (r1.length:Int)):Int)).bind λx2=>((tJ (dR.mk x1.ly x1.py)).bind λr2=>(bif (!r2)then some true else(bif ((x1.ly==(x1.mi:Int))==(x1.py==(x1.t7:Int)))then some true else(gJ x1).bind λr3=>(gJ x2).bind λr4=>some (r3==r4)))).bind λv3=>(bif v3 then(some false).map λa=> .inr (.inr a)else((bif decide (v2>0)then(bp a0 0).bind λx3=>(bp a0 v2).bind λx4=>(qR n x3 x4).bind λr5=>some (decide (r5>=0))else some false)).bind λv4=>(bif v4 then(some false).map λa=> .inr (.inr a)else some (.inl (i64.wrap (v2+1)))))else some (.inr (.inl ())))
def iR(r1:List jA)(v5:Int):Stp Int (Unit⊕(Int⊕(Unit⊕Bool)))
 |v6=>(bif decide (v6<(r1.length:Int))then((bif (decide ((i64.wrap ((i64.wrap (v5+(r1.length:Int))) -v6))>1))then ck (cz v5 r1.length)<|(bp r1 ((0:Nat)+v5:Int)).bind λx5=>ck (cz v6 r1.length)<|(bp r1 ((0:Nat)+v6:Int)).bind λx6=>(lH x5 x6).bind λr6=>some r6 else some false)).bind λv7=>(bif v7 then((some false).map λa=> .inr (.inr a)).map λa=> .inr (.inr a)else some (.inl (i64.wrap (v6+1))))else some (.inr (.inl ())))
def pK(r1:List jA):Stp Int (Unit⊕Bool)
 |v5=>(bif decide (v5<(r1.length:Int))then dx (iter (iR r1 v5) n (i64.wrap (v5+2))) λ()=>some (.inl (i64.wrap (v5+1)))else some (.inr (.inl ())))
def vG(a0:List dR):Option Bool:=
 ((bif decide ((a0.length:Int)<4)then some true else some (decide ((a0.length:Int)>60)))).bind λv1=>(bif v1 then some false else(oV n a0).bind λr1=>dx (iter (pJ n a0 r1) n (0:Int)) λ()=>dx (iter (pK n r1) n (0:Int)) λ()=>ck (cz 0 r1.length)<|(bp r1 ((0:Nat)+0:Int)).bind λx7=>(gJ x7).bind λr7=>some (!r7))
def lI(a0:List dR):Stp (Int×(List Int)) (List Int)
 |(v1,v2)=>(bif decide (v1<(a0.length:Int))then(bp a0 v1).bind λx1=>ck (bP v2.length v2.length (sub ([x1.x]:List Int) 0 1).length 1 8)<|iH (v2++(sub ([x1.x]:List Int) 0 1)) λr2=>ck (az r2.length r2.length)<|some (.inl ((i64.wrap (v1+1)),r2))else ck (az v2.length v2.length)<|some (.inr v2))
def lJ(r4:Unit×(List Int))(r5:List jA)(v3:Int):Stp (Int×(List Int)) (List Int)
 |(v5,v6)=>(bif decide (v5<(r5.length:Int))then(ck (cz v5 r5.length)<|(bp r5 ((0:Nat)+v5:Int)).bind λx2=>((gJ x2).bind λr6=>(bif (!r6)then ck (cz v3 r4.2.length)<|(bp r4.2 ((0:Nat)+v3:Int)).bind λx3=>(bif decide ((min x2.ly x2.mi)<=(x3:Int))then ck (cz v3 r4.2.length)<|(bp r4.2 ((0:Nat)+v3:Int)).bind λx4=>some (decide (x4<((max x2.ly x2.mi):Int)))else some false)else some false)).bind λv7=>(bif v7 then ck (bP v6.length v6.length (sub ([x2.py]:List Int) 0 1).length 1 8)<|iH (v6++(sub ([x2.py]:List Int) 0 1)) λr7=>ck (az r7.length r7.length)<|some r7 else ck (az v6.length v6.length)<|some v6):Option ((List Int))).bind λv8=>ck (az v8.length v8.length)<|some (.inl ((i64.wrap (v5+1)),v8))else ck (az v6.length v6.length)<|some (.inr v6))
def ji(r4:Unit×(List Int))(v3:Int)(w2:List Int)(r8:List Int):Stp (Int×(List ax)) (List ax)
 |(v9,v10)=>(bif decide ((i64.wrap (v9+1))<(w2.length:Int))then ck (cz v3 r4.2.length)<|(bp r4.2 ((0:Nat)+v3:Int)).bind λx5=>ck (cz v9 w2.length)<|(bp r8 ((0:Nat)+v9:Int)).bind λx6=>ck (cz (i64.wrap (v3+1)) r4.2.length)<|(bp r4.2 ((0:Nat)+(i64.wrap (v3+1)):Int)).bind λx7=>ck (cz (i64.wrap (v9+1)) w2.length)<|(bp r8 ((0:Nat)+(i64.wrap (v9+1)):Int)).bind λx8=>ck (bP v10.length v10.length (sub ([(ax.mk x5 x6 x7 x8)]:List ax) 0 1).length 1 32)<|iH (v10++(sub ([(ax.mk x5 x6 x7 x8)]:List ax) 0 1)) λr9=>ck (az r9.length r9.length)<|some (.inl ((i64.wrap (v9+2)),r9))else ck (az v10.length v10.length)<|some (.inr v10))
def lK(r4:Unit×(List Int))(r5:List jA):Stp (Int×(List ax)) (List ax)
 |(v3,v4)=>(bif (decide (v3<((i64.wrap ((r4.2.length:Int) -1)):Int)))then ck (az 0 ([]:List Int).length)<|(iter (lJ r4 r5 v3) n ((0:Int),([]:List Int))).bind λw2=>ck (az w2.length w2.length)<|(oO n w2).bind λr8=>ck (az v4.length v4.length)<|(iter (ji r4 v3 w2 r8) n ((0:Int),v4)).bind λw3=>ck (az w3.length w3.length)<|some (.inl ((i64.wrap (v3+1)),w3))else ck (az v4.length v4.length)<|some (.inr v4))
def tK(a0:List dR):Option ((List ax)×Int):=
 (vG n a0).bind λr1=>(bif (!r1)then some (([]:(List ax)),(10:Int))else ck (az 0 ([]:List Int).length)<|(iter (lI a0) n ((0:Int),([]:List Int))).bind λw1=>ck (az w1.length w1.length)<|(oO n w1).bind λr3=>ck (az w1.length r3.length)<|(oP n r3).bind λr4=>(oV n a0).bind λr5=>ck (az 0 ([]:List ax).length)<|(iter (lK n r4 r5) n ((0:Int),([]:List ax))).bind λw4=>(bif decide ((w4.length:Int)>200)then some (([]:(List ax)),(6:Int))else ck (az (sub w4 0 w4.length).length w4.length)<|some ((sub w4 0 w4.length),(0:Int))))
def xL(a0:dV):Option (List ax):=
 (tK n a0.corners).bind λr1=>(bif (r1.2 !=0)then some ([]:(List ax))else ck (az (sub r1.1 0 r1.1.length).length r1.1.length)<|some (sub r1.1 0 r1.1.length))
def pM(a1:List ax)(x1:ax):Stp (Int×Int×Int×Int) (Int×Int×Int)
 |(v5,v6,v7,v8)=>(bif decide (v6<(a1.length:Int))then((bp a1 v6).bind λx2=>(rY x1 x2).bind λr1=>(bif (!r1.2)then some (v5,v7,v8)else(oQ r1.1).bind λr2=>(cmp_Compare_int r1.1.x0 v7).bind λr3=>(cmp_Compare_int r1.1.y0 v8).bind λr4=>ck (az (sub ([r3,r4]:List Int) 0 2).length 2)<|(rD n (sub ([r3,r4]:List Int) 0 2)).bind λr5=>(bif decide (r5<0)then some ((i64.wrap (v5+r2)),r1.1.x0,r1.1.y0)else some ((i64.wrap (v5+r2)),v7,v8))):Option (Int×Int×Int)).bind λ(v9,v10,v11)=>some (.inl (v9,(i64.wrap (v6+1)),v10,v11))else some (.inr (v5,v7,v8)))
def pO(a0:List ax)(a1:List ax):Stp (Int×Int×Int×Int) (Int×Int×Int)
 |(v1,v2,v3,v4)=>(bif decide (v2<(a0.length:Int))then(bp a0 v2).bind λx1=>(iter (pM n a1 x1) n (v1,(0:Int),v3,v4)).bind λ(w1,w2,w3)=>some (.inl (w1,(i64.wrap (v2+1)),w2,w3))else some (.inr (v1,v3,v4)))
def vH(a0:List ax)(a1:List ax):Option (Int×dR):=
 (iter (pO n a0 a1) n ((0:Int),(0:Int),(1048576:Int),(0:Int))).bind λ(w4,w5,w6)=>some (w4,(dR.mk w5 w6))
def pQ(a0:bB)(a1:List ax):Stp (Int×(List Int)) (List Int)
 |(v1,v2)=>(bif decide (v1<(a0.zones.length:Int))then(bp a0.zones v1).bind λx1=>(xL n x1).bind λr2=>ck (az (sub r2 0 r2.length).length r2.length)<|(vH n a1 (sub r2 0 r2.length)).bind λr3=>ck (bP v2.length v2.length (sub ([r3.1]:List Int) 0 1).length 1 8)<|iH (v2++(sub ([r3.1]:List Int) 0 1)) λr4=>ck (az r4.length r4.length)<|some (.inl ((i64.wrap (v1+1)),r4))else ck (az v2.length v2.length)<|some (.inr v2))
def vI(a0:bB)(a1:List ax):Option (List Int):=
 (nR n a1).bind λr1=>(bif (!r1)then some ([]:(List Int))else ck (az 0 ([]:List Int).length)<|(iter (pQ n a0 a1) n ((0:Int),([]:List Int))).bind λw1=>ck (az (sub w1 0 w1.length).length w1.length)<|some (sub w1 0 w1.length))
def pR(a0:bB)(r1:List Int):Stp (Int×Int) Int
 |(v1,v2)=>(bif decide (v2<(r1.length:Int))then(ck (cz v2 r1.length)<|(bp r1 ((0:Nat)+v2:Int)).bind λx1=>((bp a0.zones v2).bind λx2=>(bif (!x2.overlay)then(bif decide (x1>0)then(bif decide (v1<0)then some true else ck (cz v1 r1.length)<|(bp r1 ((0:Nat)+v1:Int)).bind λx3=>some (decide (x1>(x3:Int))))else some false)else some false)).bind λv3=>(bif v3 then some v2 else some v1):Option Int).bind λv4=>some (.inl (v4,(i64.wrap (v2+1))))else some (.inr v1))
def xM(a0:bB)(r1:List Int)(w1:Int):Stp (Int×(List ByteArray)) (List ByteArray)
 |(v5,v6)=>(bif decide (v5<(r1.length:Int))then(ck (cz v5 r1.length)<|(bp r1 ((0:Nat)+v5:Int)).bind λx4=>((bif (v5==(w1:Int))then some true else(bp a0.zones v5).bind λx5=>(bif x5.overlay then some (decide (x4>0))else some false))).bind λv7=>(bif v7 then(bp a0.zones v5).bind λx6=>ck (bP v6.length v6.length (sub ([x6.name]:List ByteArray) 0 1).length 1 16)<|iH (v6++(sub ([x6.name]:List ByteArray) 0 1)) λr2=>ck (az r2.length r2.length)<|some r2 else ck (az v6.length v6.length)<|some v6):Option ((List ByteArray))).bind λv8=>ck (az v8.length v8.length)<|some (.inl ((i64.wrap (v5+1)),v8))else ck (az v6.length v6.length)<|some (.inr v6))
def CJ(a0:bB)(a1:List ax):Option (List ByteArray):=
 (vI n a0 a1).bind λr1=>(iter (pR a0 r1) n (((-1):Int),(0:Int))).bind λw1=>ck (az 0 ([]:List ByteArray).length)<|(iter (xM a0 r1 w1) n ((0:Int),([]:List ByteArray))).bind λw2=>ck (az (sub w2 0 w2.length).length w2.length)<|some (sub w2 0 w2.length)
def Ad(a0:bU)(a1:bn):Option (lZ×Int):=
 (NH n a0.land a1.lot).bind λr1=>(bif (!r1.2)then some ((lZ.mk ([]) ([]) ([]) ([]) ([]) ([]) ([]) 0 ([]) ([]) ([]) ([]) ([]) 0 0 ([]) ([]) 0 ([]) ([]) ([])),(4:Int))else(oo n (bB.mk a0.ci a0.b8 a0.b7 a0.bj a0.ct a0.cj a0.cD a0.cm) r1.1 a1).bind λr2=>(bif (!r2)then some ((lZ.mk ([]) ([]) ([]) ([]) ([]) ([]) ([]) 0 ([]) ([]) ([]) ([]) ([]) 0 0 ([]) ([]) 0 ([]) ([]) ([])),(1:Int))else(tH n a1).bind λr3=>(CJ n (bB.mk a0.ci a0.b8 a0.b7 a0.bj a0.ct a0.cj a0.cD a0.cm) r1.1.area).bind λr4=>ck (az (sub r3 0 r3.length).length r3.length)<|ck (az (sub r4 0 r4.length).length r4.length)<|some ((lZ.mk a0.ci a0.b8 a0.b7 a0.bj a0.ct a0.cj a0.cD a0.cm a0.land a0.bz a0.windows a0.built a0.base r1.1.id r1.1.owner r1.1.area r1.1.from_ a1.lot a1.phases (sub r3 0 r3.length) (sub r4 0 r4.length)),(0:Int))))
def nE(a0:List ByteArray)(a1:ByteArray):Stp Int (Unit⊕Int)
 |v1=>(bif decide (v1<(a0.length:Int))then(bp a0 v1).bind λx1=>(bif (ByteArray.toList a1==ByteArray.toList x1)then(some v1).map λa=> .inr (.inr a)else some (.inl (i64.wrap (v1+1))))else some (.inr (.inl ())))
def qU(a0:List ByteArray)(a1:ByteArray):Option Int:=
 dx (iter (nE a0 a1) n (0:Int)) λ()=>some ((-1):Int)
def fK(a0:List ByteArray)(a1:ByteArray):Option Bool:=
 (qU n a0 a1).bind λr1=>some (decide (r1>=0))
def jY(a0:ByteArray)(a1:List ByteArray):Option Bool:=
 (fK n a1 a0).bind λr1=>some r1
def Eo(a0:List ByteArray)(a1:(ByteArray×Unit)->Option Bool):Stp Int (Unit⊕Int)
 |v1=>(bif decide (v1<(a0.length:Int))then(bp a0 v1).bind λx1=>(a1 (x1,())).bind λr1=>(bif r1 then(some v1).map λa=> .inr (.inr a)else some (.inl (i64.wrap (v1+1))))else some (.inr (.inl ())))
def qd(a0:List ByteArray)(a1:(ByteArray×Unit)->Option Bool):Option Int:=
 dx (iter (Eo a0 a1) n (0:Int)) λ()=>some ((-1):Int)
def fO(a0:List ByteArray)(a1:(ByteArray×Unit)->Option Bool):Option Bool:=
 (qd n a0 a1).bind λr1=>some (decide (r1>=0))
def qx(a0:bX)(a1:List ByteArray):Option Bool:=
 (bif ((a0.zones.length:Int)==0)then(fO n a0.except (λ (y1:ByteArray×Unit)=>jY n y1.1 a1)).bind λr1=>some (!r1)else(fO n a0.zones (λ (y2:ByteArray×Unit)=>jY n y2.1 a1)).bind λr2=>(bif r2 then(fO n a0.except (λ (y3:ByteArray×Unit)=>jY n y3.1 a1)).bind λr3=>some (!r3)else some false))
def qV(a0:bB)(a1:List ByteArray)(a2:Int):Stp (Int×(List Int)) (List Int)
 |(v1,v2)=>(bif decide (v1<(a0.rules.length:Int))then((bp a0.rules v1).bind λx1=>((bif decide (x1.from_<=(a2:Int))then(bif (x1.j8==0)then(qx n x1 a1).bind λr1=>some r1 else(bif decide (a2<(x1.j8:Int))then(qx n x1 a1).bind λr2=>some r2 else some false))else some false)).bind λv3=>(bif v3 then ck (bP v2.length v2.length (sub ([v1]:List Int) 0 1).length 1 8)<|iH (v2++(sub ([v1]:List Int) 0 1)) λr3=>ck (az r3.length r3.length)<|some r3 else ck (az v2.length v2.length)<|some v2):Option ((List Int))).bind λv4=>ck (az v4.length v4.length)<|some (.inl ((i64.wrap (v1+1)),v4))else ck (az v2.length v2.length)<|some (.inr v2))
def tL(a0:bB)(a1:List ByteArray)(a2:Int):Option (List Int):=
 ck (az 0 ([]:List Int).length)<|(iter (qV n a0 a1 a2) n ((0:Int),([]:List Int))).bind λw1=>ck (az (sub w1 0 w1.length).length w1.length)<|some (sub w1 0 w1.length)
def u7(_:Nat)(a0:List ax)(a1:(ax×ax×Unit)->Option Int):Option (List ax):=Gk a0 a1
def iL(a0:ax)(a1:ax):Option Int:=
 (cmp_Compare_int a0.y0 a1.y0).bind λr1=>some r1
def kQ(a0:aH):Option Int:=
 ((bif a0.extra then some true else(gm a0).bind λr1=>some (!r1))).bind λv1=>(bif v1 then some (0:Int)else ck (3 !=0)<|some (i64.wrap (Int.tdiv (i64.wrap ((i64.wrap ((i64.wrap (a0.ec -a0.er))+3)) -1)) 3)))
def oq(a0:aH):Option Int:=
 (gm a0).bind λr1=>(bif (!r1)then some (0:Int)else(oQ (ax.mk a0.bu a0.ca a0.br a0.b9)).bind λr2=>(kQ a0).bind λr3=>some (i64.wrap (r2*r3)))
def nG(a0:aH):Option Int:=
 some a0.ec
def oD(a0:aH):Option Int:=
 some a0.units
def A8(a0:ax)(a1:Int):Option (ax×Bool):=
 (ny (ax.mk (i64.wrap (a0.x0 -a1)) (i64.wrap (a0.y0 -a1)) (i64.wrap (a0.x1+a1)) (i64.wrap (a0.y1+a1)))).bind λr1=>some ((ax.mk (i64.wrap (a0.x0 -a1)) (i64.wrap (a0.y0 -a1)) (i64.wrap (a0.x1+a1)) (i64.wrap (a0.y1+a1))),r1)
def ko(a0:bR)(a1:Jv)(a2:Int):Option Bool:=
 ck (cz a2 6)<|(bp ([a1.a0,a1.a1,a1.a2,a1.a3,a1.a4,a1.a5]:List ByteArray) a2).bind λx1=>some (ByteArray.toList a0.name==ByteArray.toList x1)
def FB(a0:List bR)(a1:(bR×Unit)->Option Bool):Stp Int (Unit⊕Int)
 |v1=>(bif decide (v1<(a0.length:Int))then(bp a0 v1).bind λx1=>(a1 (x1,())).bind λr1=>(bif r1 then(some v1).map λa=> .inr (.inr a)else some (.inl (i64.wrap (v1+1))))else some (.inr (.inl ())))
def kr(a0:List bR)(a1:(bR×Unit)->Option Bool):Option Int:=
 dx (iter (FB a0 a1) n (0:Int)) λ()=>some ((-1):Int)
def ku(a0:bB)(a1:Int):Stp Int (Unit⊕Int)
 |v1=>(bif decide (v1<(a0.tables.length:Int))then(bp a0.tables v1).bind λx1=>(bif (!(ByteArray.toList x1.name==ByteArray.toList (⟨#[116,114,97,102,102,105,99]⟩)))then some (.inl (i64.wrap (v1+1)))else((kr n x1.rows (λ (y1:bR×Unit)=>ko y1.1 (Jv.mk (⟨#[104,111,109,101]⟩) (⟨#[115,104,111,112]⟩) (⟨#[119,111,114,107]⟩) (⟨#[112,97,114,107]⟩) (⟨#[112,108,97,110,116]⟩) (⟨#[104,97,108,108]⟩)) a1)).bind λr1=>(bif decide (r1>=0)then(bp x1.rows r1).bind λx2=>some x2.n else some x1.sg):Option Int).bind λv2=>(some (max (0:Int) (min v2 (1048576:Int)))).map λa=> .inr (.inr a))else some (.inr (.inl ())))
def Ae(a0:bB)(a1:Int):Option Int:=
 dx (iter (ku n a0 a1) n (0:Int)) λ()=>some (0:Int)
def kR(a0:bB)(a1:aH):Option Int:=
 (Ae n a0 a1.use).bind λr1=>(oq a1).bind λr2=>((bif decide (r1>0)then ck (r1 !=0)<|some (decide (r2>((i64.wrap (Int.tdiv 109951162777600 r1)):Int)))else some false)).bind λv1=>(bif v1 then some (1099511627776:Int)else ck (100 !=0)<|some (i64.wrap (Int.tdiv (i64.wrap ((i64.wrap ((i64.wrap (r1*r2))+100)) -1)) 100)))
def mF(a0:List fH)(a1:List cu)(a2:List dV)(a3:List bX)(a4:List fZ)(a5:List eX)(a6:List bT)(a7:Int)(a8:List ax)(a9:List aH):Option (Int×gP):=
 (Jy n a8).bind λr1=>ck (az a9.length a9.length)<|some (r1,a0,a1,a2,a3,a4,a5,a6,a7,a8,a9)
def gB(a9:List aH):Stp (Int×(List ax)×(List Int)) ((List ax)×(List Int))
 |(v1,v2,v3)=>(bif decide (v1<(a9.length:Int))then ck (cz v1 a9.length)<|(bp a9 ((0:Nat)+v1:Int)).bind λx1=>ck (cz v1 ((a9.length:Int).toNat))<|(bp v2 ((0:Nat)+v1:Int)).bind λx2=>ck (cz v1 ((a9.length:Int).toNat))<|(bp (v2.set ((0:Nat)+v1:Int).toNat (ax.mk x1.bu x1.ca x1.br x1.b9)) ((0:Nat)+v1:Int)).bind λx3=>ck (cz v1 ((a9.length:Int).toNat))<|(bp (v2.set ((0:Nat)+v1:Int).toNat (ax.mk x1.bu x1.ca x1.br x1.b9)) ((0:Nat)+v1:Int)).bind λx4=>ck (bP v3.length v3.length (sub ([x3.x0,x4.x1]:List Int) 0 2).length 2 8)<|iH (v3++(sub ([x3.x0,x4.x1]:List Int) 0 2)) λr1=>ck (az r1.length r1.length)<|some (.inl ((i64.wrap (v1+1)),(v2.set ((0:Nat)+v1:Int).toNat (ax.mk x1.bu x1.ca x1.br x1.b9)),r1))else ck (az v3.length v3.length)<|some (.inr (v2,v3)))
def iU(a9:List aH)(w2:List Int)(r2:List ax)(r3:List Int)(v5:Int):Stp (Int×Int×Int) Int
 |(v6,v7,v8)=>(bif (decide (v8<((((a9.length:Int).toNat:Nat):Int):Int)))then(ck (cz v8 ((a9.length:Int).toNat))<|(bp r2 ((0:Nat)+v8:Int)).bind λx5=>(ck (cz v5 w2.length)<|(bp r3 ((0:Nat)+v5:Int)).bind λx6=>(bif decide (x5.x0<=(x6:Int))then ck (cz v5 w2.length)<|(bp r3 ((0:Nat)+v5:Int)).bind λx7=>(bif decide (x7<(x5.x1:Int))then some (decide (x5.y1>(v7:Int)))else some false)else some false)).bind λv9=>(bif v9 then ck (cz (i64.wrap (v5+1)) w2.length)<|(bp r3 ((0:Nat)+(i64.wrap (v5+1)):Int)).bind λx8=>ck (cz v5 w2.length)<|(bp r3 ((0:Nat)+v5:Int)).bind λx9=>some ((i64.wrap (v6+(i64.wrap ((i64.wrap (x8 -x9))*(i64.wrap (x5.y1 -(max v7 x5.y0))))))),x5.y1)else some (v6,v7)):Option (Int×Int)).bind λ(v10,v11)=>some (.inl (v10,v11,(i64.wrap (v8+1))))else some (.inr v6))
def iV(a9:List aH)(w2:List Int)(r2:List ax)(r3:List Int):Stp (Int×Int) Int
 |(v4,v5)=>(bif (decide (v5<((max (0:Int) (i64.wrap ((w2.length:Int) -1))):Int)))then(iter (iU a9 w2 r2 r3 v5) n (v4,(0:Int),(0:Int))).bind λw3=>some (.inl (w3,(i64.wrap (v5+1))))else some (.inr v4))
def iM(a0:List fH)(a1:List cu)(a2:List dV)(a3:List bX)(a4:List fZ)(a5:List eX)(a6:List bT)(a7:Int)(a8:List ax)(a9:List aH):Option (Int×gP):=
 ck (decide ((a9.length:Int)<=(a9.length:Int))&&(decide (0<=(a9.length:Int))&&zC (a9.length:Int) 32))<|ck (az 0 ([]:List Int).length)<|(iter (gB a9) n ((0:Int),(List.replicate (a9.length:Int).toNat (ax.mk 0 0 0 0)),([]:List Int))).bind λ(w1,w2)=>ck (az ((a9.length:Int).toNat) w1.length)<|(u7 n w1 (λ (y1:ax×ax×Unit)=>iL y1.1 y1.2.1)).bind λr2=>ck (az w2.length w2.length)<|(oO n w2).bind λr3=>(iter (iV n a9 w2 r2 r3) n ((0:Int),(0:Int))).bind λw4=>ck (az a9.length a9.length)<|some (w4,a0,a1,a2,a3,a4,a5,a6,a7,a8,a9)
def jF(a9:List aH):Stp (Int×Int) Int
 |(v1,v2)=>(bif decide (v2<(a9.length:Int))then ck (cz v2 a9.length)<|(bp a9 ((0:Nat)+v2:Int)).bind λx1=>(oq x1).bind λr1=>some (.inl ((i64.wrap (v1+r1)),(i64.wrap (v2+1))))else some (.inr v1))
def qf(a0:List fH)(a1:List cu)(a2:List dV)(a3:List bX)(a4:List fZ)(a5:List eX)(a6:List bT)(a7:Int)(a8:List ax)(a9:List aH):Option (Int×gP):=
 (iter (jF a9) n ((0:Int),(0:Int))).bind λw1=>ck (az a9.length a9.length)<|some (w1,a0,a1,a2,a3,a4,a5,a6,a7,a8,a9)
def kE(a0:List fH)(a1:List cu)(a2:List dV)(a3:List bX)(a4:List fZ)(a5:List eX)(a6:List bT)(a7:Int)(a8:List ax)(a9:List aH):Option (Int×gP):=
 ck (az a9.length a9.length)<|(qf n a0 a1 a2 a3 a4 a5 a6 a7 a8 a9).bind λr1=>ck (az r1.2.2.2.2.2.2.2.2.2.2.length r1.2.2.2.2.2.2.2.2.2.2.length)<|some (r1.1,r1.2.1,r1.2.2.1,r1.2.2.2.1,r1.2.2.2.2.1,r1.2.2.2.2.2.1,r1.2.2.2.2.2.2.1,r1.2.2.2.2.2.2.2.1,r1.2.2.2.2.2.2.2.2.1,r1.2.2.2.2.2.2.2.2.2.1,r1.2.2.2.2.2.2.2.2.2.2)
def gQ(a9:List aH):Stp (Int×Int) Int
 |(v1,v2)=>(bif decide (v2<(a9.length:Int))then ck (cz v2 a9.length)<|(bp a9 ((0:Nat)+v2:Int)).bind λx1=>(kQ x1).bind λr1=>some (.inl ((max v1 r1),(i64.wrap (v2+1))))else some (.inr v1))
end
end Go.Proofs
