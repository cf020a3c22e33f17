import Derived.Test.YtkgkglgpckgokaaGreatTBase
open Go.IntKind (i64)
namespace Go.Proofs
open Go.Gb Go.RowKit
noncomputable section
variable (n:Nat)
def fD(a0:Int):Option bB:=
 ck (az (sub ([(bZ.mk 1 0 (⟨#[104,101,105,103,104,116]⟩) (⟨#[]⟩) ([])),(bZ.mk 0 a0 (⟨#[]⟩) (⟨#[]⟩) ([]))]:List bZ) 0 2).length 2)<|ck (az (sub ([(bV.mk (⟨#[97]⟩) ([]) ([]) 0 0 0 false 0 12 0 (⟨#[]⟩) (⟨#[]⟩) (sub ([(bZ.mk 1 0 (⟨#[104,101,105,103,104,116]⟩) (⟨#[]⟩) ([])),(bZ.mk 0 a0 (⟨#[]⟩) (⟨#[]⟩) ([]))]:List bZ) 0 2) 0 0 0 0 0 0 0)]:List bV) 0 1).length 1)<|some (bB.mk ([]) ([]) ([]) (sub ([(bV.mk (⟨#[97]⟩) ([]) ([]) 0 0 0 false 0 12 0 (⟨#[]⟩) (⟨#[]⟩) (sub ([(bZ.mk 1 0 (⟨#[104,101,105,103,104,116]⟩) (⟨#[]⟩) ([])),(bZ.mk 0 a0 (⟨#[]⟩) (⟨#[]⟩) ([]))]:List bZ) 0 2) 0 0 0 0 0 0 0)]:List bV) 0 1) ([]) ([]) ([]) 0)
def nu(a0:ax):Option Bool:=
 (bif decide (0<=(a0.x0:Int))then(bif decide (a0.x0<(a0.x1:Int))then(bif decide (a0.x1<=1048576)then(bif decide (0<=(a0.y0:Int))then(bif decide (a0.y0<(a0.y1:Int))then some (decide (a0.y1<=1048576))else some false)else some false)else some false)else some false)else some false)
def Nk(a0:Unit)(a1:Int):Option (List ax):=
 (bif decide (a1<0)then none else(bif (decide ((i64.wrap (a1 -(i64.wrap (0 -0))))>0))then ck (zx (i64.wrap (a1 -(i64.wrap (0 -0)))) 32)<|ck (AJ 0 0 ((i64.wrap (a1 -(i64.wrap (0 -0)))).toNat))<|ck (az (sub (List.replicate (i64.wrap (a1 -(i64.wrap (0 -0)))).toNat (ax.mk 0 0 0 0)) 0 0).length 0)<|some (sub (List.replicate (i64.wrap (a1 -(i64.wrap (0 -0)))).toNat (ax.mk 0 0 0 0)) 0 0)else some ([]:(List ax))))
def Nl(a0:List (List ax)):Stp (Int×Int) Int
 |(v1,v2)=>(bif decide (v2<(a0.length:Int))then(bp a0 v2).bind λx1=>(bif decide ((i64.wrap (v1+(x1.length:Int)))<0)then none else some (.inl ((i64.wrap (v1+(x1.length:Int))),(i64.wrap (v2+1)))))else some (.inr v1))
def Nn(a0:List (List ax)):Stp (Int×(List ax)) (List ax)
 |(v3,v4)=>(bif decide (v3<(a0.length:Int))then(bp a0 v3).bind λx2=>ck (bP v4.length v4.length x2.length x2.length 32)<|iE (v4++x2) λr2=>ck (az r2.length r2.length)<|some (.inl ((i64.wrap (v3+1)),r2))else ck (az v4.length v4.length)<|some (.inr v4))
def yL(a0:List (List ax)):Option (List ax):=
 (iter (Nl a0) n ((0:Int),(0:Int))).bind λw1=>(Nk () w1).bind λr1=>ck (az r1.length r1.length)<|(iter (Nn a0) n ((0:Int),r1)).bind λw2=>ck (az (sub w2 0 w2.length).length w2.length)<|some (sub w2 0 w2.length)
def oN(_:Nat)(a0:List Int):Option (List Int):=Kd a0
def Np(a0:List Int)(v1:Int):Stp (Int×Int×(List Int)) (Int×(List Int))
 |(v2,v3,v4)=>(bif (decide (v3<((((a0.length -(v1:Int).toNat):Nat):Int):Int)))then(ck (cC v3 (a0.length -(v1:Int).toNat))<|(bp v4 (((0+(v1:Int).toNat):Nat)+v3:Int)).bind λx3=>ck (cC (i64.wrap (v3 -1)) (a0.length -(v1:Int).toNat))<|(bp v4 (((0+(v1:Int).toNat):Nat)+(i64.wrap (v3 -1)):Int)).bind λx4=>(bif (x3 !=(x4:Int))then ck (cC v3 (a0.length -(v1:Int).toNat))<|(bp v4 (((0+(v1:Int).toNat):Nat)+v3:Int)).bind λx5=>ck (cC v2 a0.length)<|(bp v4 ((0:Nat)+v2:Int)).bind λx6=>some ((i64.wrap (v2+1)),(v4.set ((0:Nat)+v2:Int).toNat x5))else some (v2,v4)):Option (Int×(List Int))).bind λ(v5,v6)=>some (.inl (v5,(i64.wrap (v3+1)),v6))else some (.inr (v2,v4)))
def Nq(a0:List Int):Stp Int (Unit⊕(Unit×(List Int)))
 |v1=>(bif decide (v1<(a0.length:Int))then ck (cC v1 a0.length)<|(bp a0 ((0:Nat)+v1:Int)).bind λx1=>ck (cC (i64.wrap (v1 -1)) a0.length)<|(bp a0 ((0:Nat)+(i64.wrap (v1 -1)):Int)).bind λx2=>(bif (x1==(x2:Int))then ck (AJ v1 (a0.length:Int) a0.length)<|(iter (Np a0 v1) n (v1,(1:Int),a0)).bind λ(w1,w2)=>ck (AJ w1 (a0.length:Int) a0.length)<|ck (AJ 0 w1 a0.length)<|(ck (az ((w1:Int).toNat) ((w1:Int).toNat))<|ck (az (sub (w2.take (0+(w1:Int).toNat)) 0 ((w1:Int).toNat)).length ((w1:Int).toNat))<|some ((),(sub (w2.take (0+(w1:Int).toNat)) 0 ((w1:Int).toNat)))).map λa=> .inr (.inr a)else some (.inl (i64.wrap (v1+1))))else some (.inr (.inl ())))
def oO(a0:List Int):Option (Unit×(List Int)):=
 (bif decide ((a0.length:Int)<2)then ck (az a0.length a0.length)<|ck (az (sub a0 0 a0.length).length a0.length)<|some ((),(sub a0 0 a0.length))else dD (iter (Nq n a0) n (1:Int)) λ()=>ck (az a0.length a0.length)<|ck (az (sub a0 0 a0.length).length a0.length)<|some ((),(sub a0 0 a0.length)))
def uU(_:Nat)(a0:List aO)(a1:(aO×aO×Unit)->Option Int):Option (List aO):=GB a0 a1
def cmp_isNaN_int(a0:Int):Option Bool:=
 some (a0 !=(a0:Int))
def cmp_Compare_int(a0:Int)(a1:Int):Option Int:=
 (cmp_isNaN_int a0).bind λr1=>(cmp_isNaN_int a1).bind λr2=>(bif r1 then(bif r2 then some (0:Int)else some ((-1):Int))else(bif r2 then some (1:Int)else(bif decide (a0<(a1:Int))then some ((-1):Int)else(bif decide (a0>(a1:Int))then some (1:Int)else some (0:Int)))))
def xE(a0:aO)(a1:aO):Option Int:=
 (cmp_Compare_int a0.from_ a1.from_).bind λr1=>some r1
def sU(a0:List ax)(a1:Int):Stp (Int×(List aO)) (List aO)
 |(v1,v2)=>(bif decide (v1<(a0.length:Int))then((bp a0 v1).bind λx1=>((bif decide (x1.x0<=(a1:Int))then some (decide (a1<(x1.x1:Int)))else some false)).bind λv3=>(bif v3 then ck (bP v2.length v2.length (sub ([(aO.mk x1.y0 x1.y1)]:List aO) 0 1).length 1 16)<|iE (v2++(sub ([(aO.mk x1.y0 x1.y1)]:List aO) 0 1)) λr1=>ck (az r1.length r1.length)<|some r1 else ck (az v2.length v2.length)<|some v2):Option ((List aO))).bind λv4=>ck (az v4.length v4.length)<|some (.inl ((i64.wrap (v1+1)),v4))else ck (az v2.length v2.length)<|some (.inr v2))
def sV(w1:List aO)(r2:List aO):Stp (Int×(List aO)) (List aO)
 |(v5,v6)=>(bif decide (v5<(w1.length:Int))then(ck (cC v5 w1.length)<|(bp r2 ((0:Nat)+v5:Int)).bind λx2=>((bif decide ((v6.length:Int)>0)then ck (cC (i64.wrap ((v6.length:Int) -1)) v6.length)<|(bp v6 ((0:Nat)+(i64.wrap ((v6.length:Int) -1)):Int)).bind λx3=>some (decide (x2.from_<=(x3.to:Int)))else some false)).bind λv7=>(bif v7 then ck (cC (i64.wrap ((v6.length:Int) -1)) v6.length)<|(bp v6 ((0:Nat)+(i64.wrap ((v6.length:Int) -1)):Int)).bind λx4=>ck (cC (i64.wrap ((v6.length:Int) -1)) v6.length)<|(bp v6 ((0:Nat)+(i64.wrap ((v6.length:Int) -1)):Int)).bind λx5=>ck (az v6.length (v6.set ((0:Nat)+(i64.wrap ((v6.length:Int) -1)):Int).toNat (aO.mk x5.from_ (max x4.to x2.to))).length)<|some (v6.set ((0:Nat)+(i64.wrap ((v6.length:Int) -1)):Int).toNat (aO.mk x5.from_ (max x4.to x2.to)))else ck (bP v6.length v6.length (sub ([x2]:List aO) 0 1).length 1 16)<|iE (v6++(sub ([x2]:List aO) 0 1)) λr3=>ck (az r3.length r3.length)<|some r3):Option ((List aO))).bind λv8=>ck (az v8.length v8.length)<|some (.inl ((i64.wrap (v5+1)),v8))else ck (az v6.length v6.length)<|some (.inr v6))
def Jt(a0:List ax)(a1:Int):Option (List aO):=
 ck (az 0 ([]:List aO).length)<|(iter (sU a0 a1) n ((0:Int),([]:List aO))).bind λw1=>ck (az w1.length w1.length)<|(uU n w1 (λ (y1:aO×aO×Unit)=>xE y1.1 y1.2.1)).bind λr2=>ck (az 0 ([]:List aO).length)<|(iter (sV w1 r2) n ((0:Int),([]:List aO))).bind λw2=>ck (az (sub w2 0 w2.length).length w2.length)<|some (sub w2 0 w2.length)
def sW(r1:List ax):Stp (Int×(List Int)) (List Int)
 |(v1,v2)=>(bif decide (v1<(r1.length:Int))then ck (cC v1 r1.length)<|(bp r1 ((0:Nat)+v1:Int)).bind λx1=>ck (bP v2.length v2.length (sub ([x1.x0,x1.x1]:List Int) 0 2).length 2 8)<|iE (v2++(sub ([x1.x0,x1.x1]:List Int) 0 2)) λr2=>ck (az r2.length r2.length)<|some (.inl ((i64.wrap (v1+1)),r2))else ck (az v2.length v2.length)<|some (.inr v2))
def sZ(r1:List ax)(r4:Unit×(List Int)):Stp (Int×(List bU)) (List bU)
 |(v3,v4)=>(bif decide (v3<(r4.2.length:Int))then ck (cC (i64.wrap (v3 -1)) r4.2.length)<|(bp r4.2 ((0:Nat)+(i64.wrap (v3 -1)):Int)).bind λx2=>ck (cC v3 r4.2.length)<|(bp r4.2 ((0:Nat)+v3:Int)).bind λx3=>ck (cC (i64.wrap (v3 -1)) r4.2.length)<|(bp r4.2 ((0:Nat)+(i64.wrap (v3 -1)):Int)).bind λx4=>ck (az (sub r1 0 r1.length).length r1.length)<|(Jt n (sub r1 0 r1.length) x4).bind λr5=>ck (az (sub r5 0 r5.length).length r5.length)<|ck (bP v4.length v4.length (sub ([(bU.mk x2 x3 (sub r5 0 r5.length))]:List bU) 0 1).length 1 40)<|iE (v4++(sub ([(bU.mk x2 x3 (sub r5 0 r5.length))]:List bU) 0 1)) λr6=>ck (az r6.length r6.length)<|some (.inl ((i64.wrap (v3+1)),r6))else ck (az v4.length v4.length)<|some (.inr v4))
def og(a0:List (List ax)):Option (List bU):=
 (yL n a0).bind λr1=>ck (az 0 ([]:List Int).length)<|(iter (sW r1) n ((0:Int),([]:List Int))).bind λw1=>ck (az w1.length w1.length)<|(oN n w1).bind λr3=>ck (az w1.length r3.length)<|(oO n r3).bind λr4=>ck (az 0 ([]:List bU).length)<|(iter (sZ n r1 r4) n ((1:Int),([]:List bU))).bind λw2=>ck (az (sub w2 0 w2.length).length w2.length)<|some (sub w2 0 w2.length)
def PV(a0:List aO)(a1:List aO):Stp Int (Unit⊕Bool)
 |v1=>(bif decide (v1<(a0.length:Int))then(bp a0 v1).bind λx1=>(bp a1 v1).bind λx2=>(bif (!((x1.from_==(x2.from_:Int))&&((x1.to==(x2.to:Int))&&true)))then(some false).map λa=> .inr (.inr a)else some (.inl (i64.wrap (v1+1))))else some (.inr (.inl ())))
def vz(a0:List aO)(a1:List aO):Option Bool:=
 (bif ((a0.length:Int) !=(a1.length:Int))then some false else dD (iter (PV a0 a1) n (0:Int)) λ()=>some true)
def rU(a0:List bU)(v1:Int):Stp Int Int
 |v3=>((bif decide (v3<(a0.length:Int))then(bp a0 v3).bind λx1=>(bp a0 v1).bind λx2=>(vz n x1.column x2.column).bind λr1=>some r1 else some false)).bind λv4=>(bif v4 then some (.inl (i64.wrap (v3+1)))else some (.inr v3))
def wo(a0:List bU)(v1:Int)(w1:Int)(x3:bU):Stp (Int×(List ax)) (List ax)
 |(v5,v6)=>(bif decide (v5<(x3.column.length:Int))then(bp x3.column v5).bind λx4=>(bp a0 v1).bind λx5=>(bp a0 (i64.wrap (w1 -1))).bind λx6=>ck (bP v6.length v6.length (sub ([(ax.mk x5.x0 x4.from_ x6.x1 x4.to)]:List ax) 0 1).length 1 32)<|iE (v6++(sub ([(ax.mk x5.x0 x4.from_ x6.x1 x4.to)]:List ax) 0 1)) λr2=>ck (az r2.length r2.length)<|some (.inl ((i64.wrap (v5+1)),r2))else ck (az v6.length v6.length)<|some (.inr v6))
def wu(a0:List bU):Stp (Int×(List ax)) (List ax)
 |(v1,v2)=>(bif decide (v1<(a0.length:Int))then(iter (rU n a0 v1) n (i64.wrap (v1+1))).bind λw1=>(bp a0 v1).bind λx3=>ck (az v2.length v2.length)<|(iter (wo a0 v1 w1 x3) n ((0:Int),v2)).bind λw2=>ck (az w2.length w2.length)<|some (.inl (w1,w2))else ck (az v2.length v2.length)<|some (.inr v2))
def Hz(a0:List bU):Option (List ax):=
 ck (az 0 ([]:List ax).length)<|(iter (wu n a0) n ((0:Int),([]:List ax))).bind λw3=>ck (az (sub w3 0 w3.length).length w3.length)<|some (sub w3 0 w3.length)
def yM(a0:List ax):Option ((List ax)×Int):=
 (bif decide ((a0.length:Int)>200)then some (([]:(List ax)),(6:Int))else some (a0,(0:Int)))
def Ns(a0:List ax):Stp Int (Unit⊕((List ax)×Int))
 |v1=>(bif decide (v1<(a0.length:Int))then(bp a0 v1).bind λx1=>(nu x1).bind λr1=>(bif (!r1)then(some (([]:(List ax)),(1:Int))).map λa=> .inr (.inr a)else some (.inl (i64.wrap (v1+1))))else some (.inr (.inl ())))
def N4(a0:List ax):Option ((List ax)×Int):=
 dD (iter (Ns a0) n (0:Int)) λ()=>(bif decide ((a0.length:Int)>400)then some (([]:(List ax)),(6:Int))else ck (az (sub ([a0]:List (List ax)) 0 1).length 1)<|(og n (sub ([a0]:List (List ax)) 0 1)).bind λr2=>ck (az (sub r2 0 r2.length).length r2.length)<|(Hz n (sub r2 0 r2.length)).bind λr3=>ck (az (sub r3 0 r3.length).length r3.length)<|(yM (sub r3 0 r3.length)).bind λr4=>some (r4.1,r4.2))
def PW(a0:List ax)(a1:List ax):Stp Int (Unit⊕Bool)
 |v1=>(bif decide (v1<(a0.length:Int))then(bp a0 v1).bind λx1=>(bp a1 v1).bind λx2=>(bif (!((x1.x0==(x2.x0:Int))&&((x1.y0==(x2.y0:Int))&&((x1.x1==(x2.x1:Int))&&((x1.y1==(x2.y1:Int))&&true)))))then(some false).map λa=> .inr (.inr a)else some (.inl (i64.wrap (v1+1))))else some (.inr (.inl ())))
def oh(a0:List ax)(a1:List ax):Option Bool:=
 (bif ((a0.length:Int) !=(a1.length:Int))then some false else dD (iter (PW a0 a1) n (0:Int)) λ()=>some true)
def nQ(a0:List ax):Option Bool:=
 (N4 n a0).bind λr1=>(bif (r1.2==0)then(oh n r1.1 a0).bind λr2=>some r2 else some false)
def zX(a0:List ax):Stp (Bool×Int×Int×Int×Int×Int) (Bool×Int×Int×Int×Int)
 |(v1,v2,v3,v4,v5,v6)=>(bif decide (v2<(a0.length:Int))then((bp a0 v2).bind λx1=>(nu x1).bind λr1=>(bif (!r1)then some (v1,v3,v4,v5,v6)else(bif (!v1)then some (true,x1.x0,x1.y0,x1.x1,x1.y1)else some (v1,(min v3 x1.x0),(min v4 x1.y0),(max v5 x1.x1),(max v6 x1.y1)))):Option (Bool×Int×Int×Int×Int)).bind λ(v7,v8,v9,v10,v11)=>some (.inl (v7,(i64.wrap (v2+1)),v8,v9,v10,v11))else some (.inr (v1,v3,v4,v5,v6)))
def Nt(a0:List ax):Option (ax×Bool):=
 (iter (zX a0) n (false,(0:Int),(0:Int),(0:Int),(0:Int),(0:Int))).bind λ(w1,w2,w3,w4,w5)=>some ((ax.mk w2 w3 w4 w5),w1)
def Cw(a0:List ax):Option (ax×Bool):=
 ((bif ((a0.length:Int)==0)then some true else(nQ n a0).bind λr1=>some (!r1))).bind λv1=>(bif v1 then some ((ax.mk 0 0 0 0),false)else(Nt n a0).bind λr2=>some (r2.1,r2.2))
def rV(a0:ax):Option (ax×Bool):=
 (nu a0).bind λr1=>(bif r1 then some (a0,true)else some ((ax.mk 0 0 0 0),false))
def Nu(a0:ax)(a1:Int):Option (ax×Bool):=
 ((nu a0).bind λr1=>(bif (!r1)then some true else some (decide (a1<0)))).bind λv1=>(bif v1 then some ((ax.mk 0 0 0 0),false)else(rV (ax.mk (i64.wrap (a0.x0+(min a1 (1048576:Int)))) (i64.wrap (a0.y0+(min a1 (1048576:Int)))) (i64.wrap (a0.x1 -(min a1 (1048576:Int)))) (i64.wrap (a0.y1 -(min a1 (1048576:Int)))))).bind λr2=>some (r2.1,r2.2))
def lg(a0:List bU)(a1:Int)(a2:(bU×Int×Unit)->Option Int):Stp (Int×Int) Int
 |(v1,v2)=>(bif decide (v1<(v2:Int))then ck (decide (0<=1)&&decide (1<=IntKind.u64.bits))<|(bp a0 (i64.wrap ((IntKind.u64.wrap (i64.wrap (v1+v2)))/2 ^ (1:Int).toNat))).bind λx1=>(a2 (x1,a1,())).bind λr1=>(bif decide (r1<0)then some (.inl ((i64.wrap ((i64.wrap ((IntKind.u64.wrap (i64.wrap (v1+v2)))/2 ^ (1:Int).toNat))+1)),v2))else some (.inl (v1,(i64.wrap ((IntKind.u64.wrap (i64.wrap (v1+v2)))/2 ^ (1:Int).toNat)))))else some (.inr v1))
def iX(a0:List bU)(a1:Int)(a2:(bU×Int×Unit)->Option Int):Option (Int×Bool):=
 (iter (lg a0 a1 a2) n ((0:Int),(a0.length:Int))).bind λw1=>(bif decide (w1<(a0.length:Int))then(bp a0 w1).bind λx2=>(a2 (x2,a1,())).bind λr2=>some (w1,(r2==0))else some (w1,false))
def wz(a0:bU)(a1:Int):Option Int:=
 (bif decide (a0.x1<=(a1:Int))then some ((-1):Int)else some (1:Int))
def WJ(a0:List bU)(a1:Int):Option (List aO):=
 (iX n a0 a1 (λ (y1:bU×Int×Unit)=>wz y1.1 y1.2.1)).bind λr1=>((bif decide (r1.1<(a0.length:Int))then(bp a0 r1.1).bind λx1=>some (decide (x1.x0<=(a1:Int)))else some false)).bind λv1=>(bif v1 then(bp a0 r1.1).bind λx2=>some x2.column else some ([]:(List aO)))
def Nv(a0:Unit)(a1:Int):Option (List aO):=
 (bif decide (a1<0)then none else(bif (decide ((i64.wrap (a1 -(i64.wrap (0 -0))))>0))then ck (zx (i64.wrap (a1 -(i64.wrap (0 -0)))) 16)<|ck (AJ 0 0 ((i64.wrap (a1 -(i64.wrap (0 -0)))).toNat))<|ck (az (sub (List.replicate (i64.wrap (a1 -(i64.wrap (0 -0)))).toNat (aO.mk 0 0)) 0 0).length 0)<|some (sub (List.replicate (i64.wrap (a1 -(i64.wrap (0 -0)))).toNat (aO.mk 0 0)) 0 0)else some ([]:(List aO))))
def Nw(a0:List (List aO)):Stp (Int×Int) Int
 |(v1,v2)=>(bif decide (v2<(a0.length:Int))then(bp a0 v2).bind λx1=>(bif decide ((i64.wrap (v1+(x1.length:Int)))<0)then none else some (.inl ((i64.wrap (v1+(x1.length:Int))),(i64.wrap (v2+1)))))else some (.inr v1))
def Ny(a0:List (List aO)):Stp (Int×(List aO)) (List aO)
 |(v3,v4)=>(bif decide (v3<(a0.length:Int))then(bp a0 v3).bind λx2=>ck (bP v4.length v4.length x2.length x2.length 16)<|iE (v4++x2) λr2=>ck (az r2.length r2.length)<|some (.inl ((i64.wrap (v3+1)),r2))else ck (az v4.length v4.length)<|some (.inr v4))
def yN(a0:List (List aO)):Option (List aO):=
 (iter (Nw a0) n ((0:Int),(0:Int))).bind λw1=>(Nv () w1).bind λr1=>ck (az r1.length r1.length)<|(iter (Ny a0) n ((0:Int),r1)).bind λw2=>ck (az (sub w2 0 w2.length).length w2.length)<|some (sub w2 0 w2.length)
def l9(a0:List aO)(a1:Int)(a2:(aO×Int×Unit)->Option Int):Stp (Int×Int) Int
 |(v1,v2)=>(bif decide (v1<(v2:Int))then ck (decide (0<=1)&&decide (1<=IntKind.u64.bits))<|(bp a0 (i64.wrap ((IntKind.u64.wrap (i64.wrap (v1+v2)))/2 ^ (1:Int).toNat))).bind λx1=>(a2 (x1,a1,())).bind λr1=>(bif decide (r1<0)then some (.inl ((i64.wrap ((i64.wrap ((IntKind.u64.wrap (i64.wrap (v1+v2)))/2 ^ (1:Int).toNat))+1)),v2))else some (.inl (v1,(i64.wrap ((IntKind.u64.wrap (i64.wrap (v1+v2)))/2 ^ (1:Int).toNat)))))else some (.inr v1))
def jo(a0:List aO)(a1:Int)(a2:(aO×Int×Unit)->Option Int):Option (Int×Bool):=
 (iter (l9 a0 a1 a2) n ((0:Int),(a0.length:Int))).bind λw1=>(bif decide (w1<(a0.length:Int))then(bp a0 w1).bind λx2=>(a2 (x2,a1,())).bind λr2=>some (w1,(r2==0))else some (w1,false))
def lq(a0:aO)(a1:Int):Option Int:=
 (bif decide (a0.to<=(a1:Int))then some ((-1):Int)else some (1:Int))
def Cx(a0:List aO)(a1:Int):Option Bool:=
 (jo n a0 a1 (λ (y1:aO×Int×Unit)=>lq y1.1 y1.2.1)).bind λr1=>(bif decide (r1.1<(a0.length:Int))then(bp a0 r1.1).bind λx1=>some (decide (x1.from_<=(a1:Int)))else some false)
def wB(r1:List aO):Stp (Int×(List Int)) (List Int)
 |(v1,v2)=>(bif decide (v1<(r1.length:Int))then ck (cC v1 r1.length)<|(bp r1 ((0:Nat)+v1:Int)).bind λx1=>ck (bP v2.length v2.length (sub ([x1.from_,x1.to]:List Int) 0 2).length 2 8)<|iE (v2++(sub ([x1.from_,x1.to]:List Int) 0 2)) λr2=>ck (az r2.length r2.length)<|some (.inl ((i64.wrap (v1+1)),r2))else ck (az v2.length v2.length)<|some (.inr v2))
def wC(a0:List aO)(a1:List aO)(a2:(Bool×Bool×Unit)->Option Bool)(r4:Unit×(List Int)):Stp (Int×(List aO)) (List aO)
 |(v3,v4)=>(bif decide (v3<(r4.2.length:Int))then(ck (cC (i64.wrap (v3 -1)) r4.2.length)<|(bp r4.2 ((0:Nat)+(i64.wrap (v3 -1)):Int)).bind λx2=>(Cx n a0 x2).bind λr5=>(Cx n a1 x2).bind λr6=>(a2 (r5,r6,())).bind λr7=>(bif (!r7)then ck (az v4.length v4.length)<|some v4 else((bif decide ((v4.length:Int)>0)then ck (cC (i64.wrap ((v4.length:Int) -1)) v4.length)<|(bp v4 ((0:Nat)+(i64.wrap ((v4.length:Int) -1)):Int)).bind λx3=>some (x3.to==(x2:Int))else some false)).bind λv5=>(bif v5 then ck (cC v3 r4.2.length)<|(bp r4.2 ((0:Nat)+v3:Int)).bind λx4=>ck (cC (i64.wrap ((v4.length:Int) -1)) v4.length)<|(bp v4 ((0:Nat)+(i64.wrap ((v4.length:Int) -1)):Int)).bind λx5=>ck (az v4.length (v4.set ((0:Nat)+(i64.wrap ((v4.length:Int) -1)):Int).toNat (aO.mk x5.from_ x4)).length)<|some (v4.set ((0:Nat)+(i64.wrap ((v4.length:Int) -1)):Int).toNat (aO.mk x5.from_ x4))else ck (cC v3 r4.2.length)<|(bp r4.2 ((0:Nat)+v3:Int)).bind λx6=>ck (bP v4.length v4.length (sub ([(aO.mk x2 x6)]:List aO) 0 1).length 1 16)<|iE (v4++(sub ([(aO.mk x2 x6)]:List aO) 0 1)) λr8=>ck (az r8.length r8.length)<|some r8)):Option ((List aO))).bind λv6=>ck (az v6.length v6.length)<|some (.inl ((i64.wrap (v3+1)),v6))else ck (az v4.length v4.length)<|some (.inr v4))
def HV(a0:List aO)(a1:List aO)(a2:(Bool×Bool×Unit)->Option Bool):Option (List aO):=
 ck (az (sub ([a0,a1]:List (List aO)) 0 2).length 2)<|(yN n (sub ([a0,a1]:List (List aO)) 0 2)).bind λr1=>ck (az 0 ([]:List Int).length)<|(iter (wB r1) n ((0:Int),([]:List Int))).bind λw1=>ck (az w1.length w1.length)<|(oN n w1).bind λr3=>ck (az w1.length r3.length)<|(oO n r3).bind λr4=>ck (az 0 ([]:List aO).length)<|(iter (wC n a0 a1 a2 r4) n ((1:Int),([]:List aO))).bind λw2=>ck (az (sub w2 0 w2.length).length w2.length)<|some (sub w2 0 w2.length)
def qm(a2:(Bool×Bool×Unit)->Option Bool)(r3:List bU)(r4:List bU)(r5:List bU):Stp (Int×(List bU)) (List bU)
 |(v2,v3)=>(bif decide (v2<(r5.length:Int))then ck (cC v2 r5.length)<|(bp v3 ((0:Nat)+v2:Int)).bind λx1=>(WJ n (sub r3 0 r3.length) x1.x0).bind λr6=>(WJ n (sub r4 0 r4.length) x1.x0).bind λr7=>(HV n r6 r7 a2).bind λr8=>ck (cC v2 r5.length)<|ck (az (sub r8 0 r8.length).length r8.length)<|(bp v3 ((0:Nat)+v2:Int)).bind λx2=>some (.inl ((i64.wrap (v2+1)),(v3.set ((0:Nat)+v2:Int).toNat (bU.mk x2.x0 x2.x1 (sub r8 0 r8.length)))))else some (.inr v3))
def Ec(a0:List ax)(a1:List ax)(a2:(Bool×Bool×Unit)->Option Bool):Option ((List ax)×Int):=
 ((nQ n a0).bind λr1=>(bif (!r1)then some true else(nQ n a1).bind λr2=>some (!r2))).bind λv1=>(bif v1 then some (([]:(List ax)),(1:Int))else ck (az (sub ([a0]:List (List ax)) 0 1).length 1)<|(og n (sub ([a0]:List (List ax)) 0 1)).bind λr3=>ck (az (sub ([a1]:List (List ax)) 0 1).length 1)<|(og n (sub ([a1]:List (List ax)) 0 1)).bind λr4=>ck (az (sub r3 0 r3.length).length r3.length)<|ck (az (sub r4 0 r4.length).length r4.length)<|ck (az (sub ([a0,a1]:List (List ax)) 0 2).length 2)<|(og n (sub ([a0,a1]:List (List ax)) 0 2)).bind λr5=>(iter (qm n a2 r3 r4 r5) n ((0:Int),r5)).bind λw1=>ck (az (sub w1 0 r5.length).length r5.length)<|(Hz n (sub w1 0 r5.length)).bind λr9=>ck (az (sub r9 0 r9.length).length r9.length)<|(yM (sub r9 0 r9.length)).bind λym=>some (ym.1,ym.2))
def xG(a0:Bool)(a1:Bool):Option Bool:=
 (bif a0 then some a1 else some false)
def Cy(a0:List ax)(a1:List ax):Option ((List ax)×Int):=
 (Ec n a0 a1 (λ (y1:Bool×Bool×Unit)=>xG y1.1 y1.2.1)).bind λr1=>some (r1.1,r1.2)
def oP(a0:ax):Option Int:=
 (rV a0).bind λr1=>some (i64.wrap ((i64.wrap (r1.1.x1 -r1.1.x0))*(i64.wrap (r1.1.y1 -r1.1.y0))))
def Ed(a0:List ax):Stp (Int×Int) Int
 |(v1,v2)=>(bif decide (v2<(a0.length:Int))then(bp a0 v2).bind λx1=>(oP x1).bind λr2=>some (.inl ((i64.wrap (v1+r2)),(i64.wrap (v2+1))))else some (.inr v1))
def Ju(a0:List ax):Option Int:=
 (nQ n a0).bind λr1=>(bif (!r1)then some (0:Int)else(iter (Ed a0) n ((0:Int),(0:Int))).bind λw1=>some w1)
def ny(a0:bS)(a1:Int):Option (ax×Bool):=
 (Cw n a0.area).bind λr1=>((bif (!r1.2)then some true else(bif decide (a1<0)then some true else some (decide (a1>20))))).bind λv1=>(bif v1 then some ((ax.mk 0 0 0 0),false)else(Nu r1.1 a1).bind λr2=>(bif (!r2.2)then some ((ax.mk 0 0 0 0),false)else ck (az (sub ([r2.1]:List ax) 0 1).length 1)<|(Cy n a0.area (sub ([r2.1]:List ax) 0 1)).bind λr3=>(bif (r3.2==0)then(Ju n r3.1).bind λr4=>(oP r2.1).bind λr5=>some (r2.1,(r4==(r5:Int)))else some (r2.1,false))))
def vB(a0:List Int):Stp Int (Unit⊕Int)
 |v1=>(bif decide (v1<(a0.length:Int))then(bp a0 v1).bind λx1=>(bif (x1 !=0)then(some x1).map λa=> .inr (.inr a)else some (.inl (i64.wrap (v1+1))))else some (.inr (.inl ())))
def rz(a0:List Int):Option Int:=
 dD (iter (vB a0) n (0:Int)) λ()=>some (0:Int)
def vy:tB xx SI.kx SI.er:=⟨(λ x=>x.lot),(λ x=>x.use),(λ x=>x.floors),(λ x=>x.ev),(λ x=>x.a0),(λ x=>x.a1),λ_=>rfl,λ_=>rfl⟩
def ah2(a0:List aR)(a1:List (kZ×Int)):Option ((List aR)×(List (kZ×Int))):=@mA xx SI.kx SI.er (inferInstance:Inhabited aR) vy a0 a1
def lu(x1:bS)(v6:Int):Stp (Int×(List aR)) (List aR)
 |(v9,v10)=>(bif decide (v9<72)then ck (6 !=0)<|ck (6 !=0)<|ck (bP v10.length v10.length (sub ([(aR.mk x1.id (Int.tmod v9 6) (i64.wrap ((i64.wrap (Int.tdiv v9 6))+1)) v6)]:List aR) 0 1).length 1 32)<|iE (v10++(sub ([(aR.mk x1.id (Int.tmod v9 6) (i64.wrap ((i64.wrap (Int.tdiv v9 6))+1)) v6)]:List aR) 0 1)) λr3=>ck (az r3.length r3.length)<|some (.inl ((i64.wrap (v9+1)),r3))else ck (az v10.length v10.length)<|some (.inr v10))
def lC(x1:bS):Stp (Int×(List (kZ×Int))×(List aR)) ((List (kZ×Int))×(List aR))
 |(v6,v7,v8)=>(bif decide (v6<21)then((ny n x1 v6).bind λr1=>(bif (!r1.2)then ck (az v8.length v8.length)<|some (v7,v8)else(oP r1.1).bind λr2=>ck (az v8.length v8.length)<|(iter (lu x1 v6) n ((0:Int),v8)).bind λw1=>ck (az w1.length w1.length)<|some ((rf (GV (X:=xx) SI.er) (kZ.mk x1.id v6) r2 v7),w1)):Option ((List (kZ×Int))×(List aR))).bind λ(v11,v12)=>ck (az v12.length v12.length)<|some (.inl ((i64.wrap (v6+1)),v11,v12))else ck (az v8.length v8.length)<|some (.inr (v7,v8)))
def lD(a0:List bS):Stp (Int×(List (kZ×Int))×(List (Int×Bool))×(List aR)) ((List (kZ×Int))×(List aR))
 |(v1,v2,v3,v4)=>(bif decide (v1<(a0.length:Int))then((bp a0 v1).bind λx1=>((bif ((fP jp x1.id v3).getD false)then some true else(bif decide (x1.id<0)then some true else some (decide (x1.id>1073741824))))).bind λv5=>(bif v5 then ck (az v4.length v4.length)<|some (v2,v3,v4)else ck (az v4.length v4.length)<|(iter (lC n x1) n ((0:Int),v2,v4)).bind λ(w2,w3)=>ck (az w3.length w3.length)<|some (w2,(rf jp x1.id true v3),w3)):Option ((List (kZ×Int))×(List (Int×Bool))×(List aR))).bind λ(v13,v14,v15)=>ck (az v15.length v15.length)<|some (.inl ((i64.wrap (v1+1)),v13,v14,v15))else ck (az v4.length v4.length)<|some (.inr (v2,v4)))
def tq(a0:List bS):Option (List aR):=
 ck (az 0 ([]:List aR).length)<|(iter (lD n a0) n ((0:Int),([]:(List (kZ×Int))),([]:(List (Int×Bool))),([]:List aR))).bind λ(w4,w5)=>ck (az w5.length w5.length)<|(ah2 w5 w4).bind λr4=>ck (az (sub r4.1 0 w5.length).length w5.length)<|some (sub r4.1 0 w5.length)
def qN(a0:bS)(a1:aR):Option Bool:=
 some (a0.id==(a1.lot:Int))
def JN(a0:List bS)(a1:(bS×Unit)->Option Bool):Stp Int (Unit⊕Int)
 |v1=>(bif decide (v1<(a0.length:Int))then(bp a0 v1).bind λx1=>(a1 (x1,())).bind λr1=>(bif r1 then(some v1).map λa=> .inr (.inr a)else some (.inl (i64.wrap (v1+1))))else some (.inr (.inl ())))
def uV(a0:List bS)(a1:(bS×Unit)->Option Bool):Option Int:=
 dD (iter (JN a0 a1) n (0:Int)) λ()=>some ((-1):Int)
def vC(a0:bS)(a1:aR):Option (bn×Bool):=
 (ny n a0 a1.ev).bind λr1=>((bif (!r1.2)then some true else(bif (a1.lot !=(a0.id:Int))then some true else(bif decide (a1.lot<0)then some true else(bif decide (a1.lot>1073741824)then some true else(bif decide (a1.use<0)then some true else(bif decide (a1.use>=6)then some true else(bif decide (a1.floors<1)then some true else some (decide (a1.floors>12)))))))))).bind λv1=>(bif v1 then some ((bn.mk 0 ([])),false)else((bif (a1.use==0)then some (r1.1.x0,r1.1.y0,r1.1.x1,r1.1.y1,(0:Int),(i64.wrap (a1.floors*3)),a1.use,a1.floors,false)else some (r1.1.x0,r1.1.y0,r1.1.x1,r1.1.y1,(0:Int),(i64.wrap (a1.floors*3)),a1.use,(0:Int),false)):Option (Int×Int×Int×Int×Int×Int×Int×Int×Bool)).bind λ(v2,v3,v4,v5,v6,v7,v8,v9,v10)=>ck (az (sub ([(aH.mk v2 v3 v4 v5 v6 v7 v8 v9 v10)]:List aH) 0 1).length 1)<|ck (az (sub ([(ru.mk (sub ([(aH.mk v2 v3 v4 v5 v6 v7 v8 v9 v10)]:List aH) 0 1) ([]))]:List ru) 0 1).length 1)<|some ((bn.mk a1.lot (sub ([(ru.mk (sub ([(aH.mk v2 v3 v4 v5 v6 v7 v8 v9 v10)]:List aH) 0 1) ([]))]:List ru) 0 1)),true))
def tu(a0:bW)(a1:aR):Option (bn×Bool):=
 (uV n a0.land (λ (y1:bS×Unit)=>qN y1.1 a1)).bind λr1=>(bif decide (r1<0)then some ((bn.mk 0 ([])),false)else(bp a0.land r1).bind λx1=>(vC n x1 a1).bind λr2=>some (r2.1,r2.2))
def pF(a0:bW)(r1:List aR):Stp (Int×(List rT)) (List rT)
 |(v1,v2)=>(bif decide (v1<(r1.length:Int))then(ck (cC v1 r1.length)<|(bp r1 ((0:Nat)+v1:Int)).bind λx1=>(tu n a0 x1).bind λr2=>(bif r2.2 then ck (bP v2.length v2.length (sub ([(rT.mk x1.lot x1.use x1.floors x1.ev r2.1.lot r2.1.phases)]:List rT) 0 1).length 1 64)<|iE (v2++(sub ([(rT.mk x1.lot x1.use x1.floors x1.ev r2.1.lot r2.1.phases)]:List rT) 0 1)) λr3=>ck (az r3.length r3.length)<|some r3 else ck (az v2.length v2.length)<|some v2):Option ((List rT))).bind λv3=>ck (az v3.length v3.length)<|some (.inl ((i64.wrap (v1+1)),v3))else ck (az v2.length v2.length)<|some (.inr v2))
def qo(a0:bW):Option (List rT):=
 (tq n a0.land).bind λr1=>ck (az 0 ([]:List rT).length)<|(iter (pF n a0 r1) n ((0:Int),([]:List rT))).bind λw1=>ck (az (sub w1 0 w1.length).length w1.length)<|some (sub w1 0 w1.length)
def witness_under(a0:bW)(a1:bB):Option bW:=
 some (bW.mk a1.defs a1.tables a1.zones a1.rules a1.caps a1.views a1.sm a1.hours a0.land a0.bz a0.windows a0.built a0.base)
def AU(a0:List ax):Option (List ax):=
 (bif a0.isEmpty then(both (some ([]:(List ax))) (ck (bP ([]:List ax).length 0 a0.length a0.length 32)<|iE (([]:List ax)++a0) λr1=>ck (az (sub r1 0 r1.length).length r1.length)<|some (sub r1 0 r1.length)))else ck (bP ([]:List ax).length 0 a0.length a0.length 32)<|iE (([]:List ax)++a0) λr2=>ck (az (sub r2 0 r2.length).length r2.length)<|some (sub r2 0 r2.length))
def Ee(a0:List Int):Option (List Int):=
 (bif a0.isEmpty then(both (some ([]:(List Int))) (ck (bP ([]:List Int).length 0 a0.length a0.length 8)<|iE (([]:List Int)++a0) λr1=>ck (az (sub r1 0 r1.length).length r1.length)<|some (sub r1 0 r1.length)))else ck (bP ([]:List Int).length 0 a0.length a0.length 8)<|iE (([]:List Int)++a0) λr2=>ck (az (sub r2 0 r2.length).length r2.length)<|some (sub r2 0 r2.length))
def Nz(a0:bS):Option bS:=
 (AU a0.area).bind λr1=>(Ee a0.from_).bind λr2=>ck (az (sub r1 0 r1.length).length r1.length)<|ck (az (sub r2 0 r2.length).length r2.length)<|some (bS.mk a0.id a0.owner (sub r1 0 r1.length) (sub r2 0 r2.length))
def Ef(a0:List bS)(a1:Int):Stp Int (Unit⊕(bS×Bool))
 |v1=>(bif decide (v1<(a0.length:Int))then(bp a0 v1).bind λx1=>(bif (x1.id==(a1:Int))then(Nz x1).bind λr1=>(some (r1,true)).map λa=> .inr (.inr a)else some (.inl (i64.wrap (v1+1))))else some (.inr (.inl ())))
def NA(a0:List bS)(a1:Int):Option (bS×Bool):=
 dD (iter (Ef a0 a1) n (0:Int)) λ()=>some ((bS.mk 0 0 ([]) ([])),false)
def nC(a0:bn)(a1:Int)(a2:Int):Stp (Int×(List aH)) (List aH)
 |(v1,v2)=>(bif decide (v1<(a0.phases.length:Int))then((bp a0.phases v1).bind λx1=>((bif decide (v1>=(a1:Int))then some (decide (v1<(a2:Int)))else some false)).bind λv3=>(bif v3 then ck (bP v2.length v2.length x1.cy.length x1.cy.length 72)<|iE (v2++x1.cy) λr1=>ck (az r1.length r1.length)<|some r1 else ck (az v2.length v2.length)<|some v2):Option ((List aH))).bind λv4=>ck (az v4.length v4.length)<|some (.inl ((i64.wrap (v1+1)),v4))else ck (az v2.length v2.length)<|some (.inr v2))
def nR(a0:bn)(a1:Int)(a2:Int):Option (List aH):=
 ck (az 0 ([]:List aH).length)<|(iter (nC a0 a1 a2) n ((0:Int),([]:List aH))).bind λw1=>ck (az (sub w1 0 w1.length).length w1.length)<|some (sub w1 0 w1.length)
def wD(a0:bn):Option (List aH):=
 (nR n a0 0 (a0.phases.length:Int)).bind λr1=>ck (az (sub r1 0 r1.length).length r1.length)<|some (sub r1 0 r1.length)
def gm(a0:aH):Option Bool:=
 ((nu (ax.mk a0.bu a0.ca a0.br a0.b9)).bind λr1=>(bif (!r1)then some true else(bif decide (a0.ep<0)then some true else(bif decide (a0.ep>=(a0.eb:Int))then some true else some (decide (a0.eb>4096)))))).bind λv1=>(bif v1 then some false else((bif (a0.use !=0)then some (a0.units !=0)else some false)).bind λv2=>(bif v2 then some false else(bif decide (a0.use>=0)then(bif decide (a0.use<6)then(bif decide (a0.units>=0)then some (decide (a0.units<=1048576))else some false)else some false)else some false)))
def rW(a0:ax)(a1:ax):Option (ax×Bool):=
 ((nu a0).bind λr1=>(bif (!r1)then some true else(nu a1).bind λr2=>some (!r2))).bind λv1=>(bif v1 then some ((ax.mk 0 0 0 0),false)else(rV (ax.mk (max a0.x0 a1.x0) (max a0.y0 a1.y0) (min a0.x1 a1.x1) (min a0.y1 a1.y1))).bind λr3=>some (r3.1,r3.2))
def xH(a0:DA)(a1:DA):Option Bool:=
 (rW (ax.mk a0.oB a0.oy a0.oA a0.ox) (ax.mk a1.oB a1.oy a1.oA a1.ox)).bind λr1=>(bif r1.2 then(bif decide (a0.z0<(a1.z1:Int))then some (decide (a1.z0<(a0.z1:Int)))else some false)else some false)
def qO(a0:aH)(a1:aH):Option Bool:=
 (xH (DA.mk a1.bu a1.ca a1.br a1.b9 a1.ep a1.eb) (DA.mk a0.bu a0.ca a0.br a0.b9 a0.ep a0.eb)).bind λr1=>some r1
def Eg(a0:List aH)(a1:(aH×Unit)->Option Bool):Stp Int (Unit⊕Int)
 |v1=>(bif decide (v1<(a0.length:Int))then(bp a0 v1).bind λx1=>(a1 (x1,())).bind λr1=>(bif r1 then(some v1).map λa=> .inr (.inr a)else some (.inl (i64.wrap (v1+1))))else some (.inr (.inl ())))
def qa(a0:List aH)(a1:(aH×Unit)->Option Bool):Option Int:=
 dD (iter (Eg a0 a1) n (0:Int)) λ()=>some ((-1):Int)
def fM(a0:List aH)(a1:(aH×Unit)->Option Bool):Option Bool:=
 (qa n a0 a1).bind λr1=>some (decide (r1>=0))
def Eh(a0:Int):Option Bool:=
 (bif decide (a0>=97)then some (decide (a0<=122))else some false)
def zY(a0:ByteArray)(a1:(Int×Unit)->Option Bool):Stp Int Int
 |v1=>((bif decide (v1<(a0.size:Int))then(Rl a0 v1).bind λx1=>(a1 (x1,())).bind λr1=>some r1 else some false)).bind λv2=>(bif v2 then some (.inl (i64.wrap (v1+1)))else some (.inr v1))
def NC(a0:ByteArray)(a1:(Int×Unit)->Option Bool):Option Int:=
 (iter (zY a0 a1) n (0:Int)).bind λw1=>some w1
def PX(a0:Int):Option Bool:=
 (bif decide (a0>=48)then some (decide (a0<=57))else some false)
def zZ(a0:Int):Option Bool:=
 (Eh a0).bind λr1=>(bif r1 then some true else(PX a0).bind λr2=>some r2)
def ND(a0:ByteArray):Option Bool:=
 ((bif (ByteArray.toList a0==ByteArray.toList (⟨#[]⟩))then some true else(Rl a0 0).bind λx1=>(Eh x1).bind λr1=>(bif (!r1)then some true else some (decide ((a0.size:Int)>20))))).bind λv1=>(bif v1 then some false else(NC n a0 (λ (y1:Int×Unit)=>zZ y1.1)).bind λr2=>some (r2==(a0.size:Int)))
def strings_Contains(a0 a1:ByteArray):Option Bool:=ck (Nat.ble a0.size 4000000)<|some (Lib.contains a0.data.toList a1.data.toList)
def wE(a0:ByteArray):Option Bool:=
 (ND n a0).bind λr1=>(bif r1 then ck (Vl (⟨#[32]⟩) a0)<|ck (Vl ((⟨#[32]⟩)++a0) (⟨#[32]⟩))<|(strings_Contains (⟨#[32,97,110,100,32,97,112,97,114,116,32,98,97,115,101,32,99,97,112,32,100,101,102,105,110,101,32,101,108,115,101,32,101,120,99,101,112,116,32,102,114,111,109,32,103,114,97,99,101,32,104,111,117,114,115,32,105,102,32,105,110,32,108,101,97,115,116,32,110,111,116,32,111,114,32,111,118,101,114,108,97,121,32,112,108,97,110,101,32,114,117,108,101,32,115,108,111,112,101,32,115,117,110,32,116,97,98,108,101,32,116,104,101,110,32,117,110,116,105,108,32,117,115,101,115,32,118,97,114,121,32,118,105,101,119,32,122,111,110,101,32]⟩) (((⟨#[32]⟩)++a0)++(⟨#[32]⟩))).bind λr2=>some (!r2)else some false)
def kK(r1:List aH):Stp Int (Unit⊕Bool)
 |v2=>(bif decide (v2<(r1.length:Int))then ck (cC v2 r1.length)<|(bp r1 ((0:Nat)+v2:Int)).bind λx1=>((gm x1).bind λr2=>(bif (!r2)then some true else ck (AJ 0 v2 r1.length)<|ck (az (sub r1 0 ((v2:Int).toNat)).length ((v2:Int).toNat))<|(fM n (sub r1 0 ((v2:Int).toNat)) (λ (y1:aH×Unit)=>qO y1.1 x1)).bind λr3=>some r3)).bind λv3=>(bif v3 then(some false).map λa=> .inr (.inr a)else some (.inl (i64.wrap (v2+1))))else some (.inr (.inl ())))
def kL(x2:ru):Stp (Int×(List (ByteArray×Bool))) (Unit⊕(Int⊕(Unit⊕Bool)))
 |(v5,v6)=>(bif decide (v5<(x2.gives.length:Int))then(bp x2.gives v5).bind λx3=>((bif ((fP ll x3.name v6).getD false)then some true else(wE n x3.name).bind λr4=>(bif (!r4)then some true else(bif decide (x3.n<0)then some true else some (decide (x3.n>1073741824)))))).bind λv7=>(bif v7 then((some false).map λa=> .inr (.inr a)).map λa=> .inr (.inr a)else some (.inl ((i64.wrap (v5+1)),(rf ll x3.name true v6))))else some (.inr (.inl ())))
def kM(a0:bn):Stp Int (Unit⊕Bool)
 |v4=>(bif decide (v4<(a0.phases.length:Int))then(bp a0.phases v4).bind λx2=>dD (iter (kL n x2) n ((0:Int),([]:(List (ByteArray×Bool))))) λ()=>(bif decide ((x2.gives.length:Int)>30)then(some false).map λa=> .inr (.inr a)else some (.inl (i64.wrap (v4+1))))else some (.inr (.inl ())))
def xI(a0:bn):Option Bool:=
 (wD n a0).bind λr1=>((bif decide (a0.lot<0)then some true else(bif decide (a0.lot>1073741824)then some true else(bif decide ((a0.phases.length:Int)<1)then some true else(bif decide ((a0.phases.length:Int)>8)then some true else(bif decide ((r1.length:Int)<1)then some true else some (decide ((r1.length:Int)>40)))))))).bind λv1=>(bif v1 then some false else dD (iter (kK n r1) n (0:Int)) λ()=>dD (iter (kM n a0) n (0:Int)) λ()=>some true)
def uW(a0:fZ)(a1:bR):Option Bool:=
 some (ByteArray.toList a0.name==ByteArray.toList a1.name)
def JO(a0:List fZ)(a1:(fZ×Unit)->Option Bool):Stp Int (Unit⊕Int)
 |v1=>(bif decide (v1<(a0.length:Int))then(bp a0 v1).bind λx1=>(a1 (x1,())).bind λr1=>(bif r1 then(some v1).map λa=> .inr (.inr a)else some (.inl (i64.wrap (v1+1))))else some (.inr (.inl ())))
def uX(a0:List fZ)(a1:(fZ×Unit)->Option Bool):Option Int:=
 dD (iter (JO a0 a1) n (0:Int)) λ()=>some ((-1):Int)
def mq(a0:List fZ)(a1:(fZ×Unit)->Option Bool):Option Bool:=
 (uX n a0 a1).bind λr1=>some (decide (r1>=0))
def jS(a1:bS)(r3:List aH):Stp Int (Unit⊕Bool)
 |v2=>(bif decide (v2<(r3.length:Int))then ck (cC v2 r3.length)<|(bp r3 ((0:Nat)+v2:Int)).bind λx1=>ck (az (sub ([(ax.mk x1.bu x1.ca x1.br x1.b9)]:List ax) 0 1).length 1)<|(Cy n a1.area (sub ([(ax.mk x1.bu x1.ca x1.br x1.b9)]:List ax) 0 1)).bind λr4=>((bif (r4.2 !=0)then some true else(Ju n r4.1).bind λr5=>(oP (ax.mk x1.bu x1.ca x1.br x1.b9)).bind λr6=>some (decide (r5<(r6:Int))))).bind λv3=>(bif v3 then(some false).map λa=> .inr (.inr a)else some (.inl (i64.wrap (v2+1))))else some (.inr (.inl ())))
def jT(a0:bB)(x2:ru):Stp Int (Unit⊕(Int⊕(Unit⊕Bool)))
 |v5=>(bif decide (v5<(x2.gives.length:Int))then(bp x2.gives v5).bind λx3=>(mq n a0.caps (λ (y1:fZ×Unit)=>uW y1.1 x3)).bind λr7=>(bif (!r7)then((some false).map λa=> .inr (.inr a)).map λa=> .inr (.inr a)else some (.inl (i64.wrap (v5+1))))else some (.inr (.inl ())))
def jU(a0:bB)(a2:bn):Stp Int (Unit⊕Bool)
 |v4=>(bif decide (v4<(a2.phases.length:Int))then(bp a2.phases v4).bind λx2=>dD (iter (jT n a0 x2) n (0:Int)) λ()=>some (.inl (i64.wrap (v4+1)))else some (.inr (.inl ())))
def om(a0:bB)(a1:bS)(a2:bn):Option Bool:=
 ((xI n a2).bind λr1=>(bif (!r1)then some true else(bif (a1.id !=(a2.lot:Int))then some true else(nQ n a1.area).bind λr2=>some (!r2)))).bind λv1=>(bif v1 then some false else(wD n a2).bind λr3=>dD (iter (jS n a1 r3) n (0:Int)) λ()=>dD (iter (jU n a0 a2) n (0:Int)) λ()=>some true)
def oD(a0:bn):Stp (Int×(List aH)) (List aH)
 |(v1,v2)=>(bif decide (v1<(a0.phases.length:Int))then(bp a0.phases v1).bind λx1=>ck (bP v2.length v2.length x1.cy.length x1.cy.length 72)<|iE (v2++x1.cy) λr1=>ck (az r1.length r1.length)<|some (.inl ((i64.wrap (v1+1)),r1))else ck (az v2.length v2.length)<|some (.inr v2))
def tC(a0:bn):Option (List aH):=
 ck (az 0 ([]:List aH).length)<|(iter (oD a0) n ((0:Int),([]:List aH))).bind λw1=>ck (az (sub w1 0 w1.length).length w1.length)<|some (sub w1 0 w1.length)
def oF(a0:List dQ):Stp (Int×(List jv)) (List jv)
 |(v1,v2)=>(bif decide (v1<(a0.length:Int))then(bp a0 v1).bind λx1=>ck ((a0.length:Int) !=0)<|(bp a0 (Int.tmod (i64.wrap (v1+1)) (a0.length:Int))).bind λx2=>ck (cC v1 ((a0.length:Int).toNat))<|(bp v2 ((0:Nat)+v1:Int)).bind λx3=>some (.inl ((i64.wrap (v1+1)),(v2.set ((0:Nat)+v1:Int).toNat (jv.mk x1.x x1.y x2.x x2.y))))else some (.inr v2))
def oQ(a0:List dQ):Option (List jv):=
 ck (decide ((a0.length:Int)<=(a0.length:Int))&&(decide (0<=(a0.length:Int))&&zx (a0.length:Int) 32))<|(iter (oF a0) n ((0:Int),(List.replicate (a0.length:Int).toNat (jv.mk 0 0 0 0)))).bind λw1=>ck (az (sub w1 0 ((a0.length:Int).toNat)).length ((a0.length:Int).toNat))<|some (sub w1 0 ((a0.length:Int).toNat))
def tF(a0:dQ):Option Bool:=
 (bif decide (0<=(a0.x:Int))then(bif decide (a0.x<=1048576)then(bif decide (0<=(a0.y:Int))then some (decide (a0.y<=1048576))else some false)else some false)else some false)
def gI(a0:jv):Option Bool:=
 some (a0.lz==(a0.mi:Int))
def qP(a0:dQ)(a1:dQ):Option Int:=
 (cmp_Compare_int a0.x a1.x).bind λr1=>(cmp_Compare_int a0.y a1.y).bind λr2=>ck (az (sub ([r1,r2]:List Int) 0 2).length 2)<|(rz n (sub ([r1,r2]:List Int) 0 2)).bind λr3=>some r3
def lF(a0:jv)(a1:jv):Option Bool:=
 (bif decide ((max (min a0.lz a0.mi) (min a1.lz a1.mi))<=((min (max a0.lz a0.mi) (max a1.lz a1.mi)):Int))then some (decide ((max (min a0.py a0.t8) (min a1.py a1.t8))<=((min (max a0.py a0.t8) (max a1.py a1.t8)):Int)))else some false)
def pG(a0:List dQ)(r1:List jv):Stp Int (Unit⊕Bool)
 |v2=>(bif decide (v2<(r1.length:Int))then ck (cC v2 r1.length)<|(bp r1 ((0:Nat)+v2:Int)).bind λx1=>ck ((r1.length:Int) !=0)<|ck (cC (Int.tmod (i64.wrap (v2+1)) (r1.length:Int)) r1.length)<|(bp r1 ((0:Nat)+(Int.tmod (i64.wrap (v2+1)) (r1.length:Int)):Int)).bind λx2=>((tF (dQ.mk x1.lz x1.py)).bind λr2=>(bif (!r2)then some true else(bif ((x1.lz==(x1.mi:Int))==(x1.py==(x1.t8:Int)))then some true else(gI x1).bind λr3=>(gI x2).bind λr4=>some (r3==r4)))).bind λv3=>(bif v3 then(some false).map λa=> .inr (.inr a)else((bif decide (v2>0)then(bp a0 0).bind λx3=>(bp a0 v2).bind λx4=>(qP n x3 x4).bind λr5=>some (decide (r5>=0))else some false)).bind λv4=>(bif v4 then(some false).map λa=> .inr (.inr a)else some (.inl (i64.wrap (v2+1)))))else some (.inr (.inl ())))
def iO(r1:List jv)(v5:Int):Stp Int (Unit⊕(Int⊕(Unit⊕Bool)))
 |v6=>(bif decide (v6<(r1.length:Int))then((bif (decide ((i64.wrap ((i64.wrap (v5+(r1.length:Int))) -v6))>1))then ck (cC v5 r1.length)<|(bp r1 ((0:Nat)+v5:Int)).bind λx5=>ck (cC v6 r1.length)<|(bp r1 ((0:Nat)+v6:Int)).bind λx6=>(lF x5 x6).bind λr6=>some r6 else some false)).bind λv7=>(bif v7 then((some false).map λa=> .inr (.inr a)).map λa=> .inr (.inr a)else some (.inl (i64.wrap (v6+1))))else some (.inr (.inl ())))
def pI(r1:List jv):Stp Int (Unit⊕Bool)
 |v5=>(bif decide (v5<(r1.length:Int))then dD (iter (iO r1 v5) n (i64.wrap (v5+2))) λ()=>some (.inl (i64.wrap (v5+1)))else some (.inr (.inl ())))
def vD(a0:List dQ):Option Bool:=
 ((bif decide ((a0.length:Int)<4)then some true else some (decide ((a0.length:Int)>60)))).bind λv1=>(bif v1 then some false else(oQ n a0).bind λr1=>dD (iter (pG n a0 r1) n (0:Int)) λ()=>dD (iter (pI n r1) n (0:Int)) λ()=>ck (cC 0 r1.length)<|(bp r1 ((0:Nat)+0:Int)).bind λx7=>(gI x7).bind λr7=>some (!r7))
def lG(a0:List dQ):Stp (Int×(List Int)) (List Int)
 |(v1,v2)=>(bif decide (v1<(a0.length:Int))then(bp a0 v1).bind λx1=>ck (bP v2.length v2.length (sub ([x1.x]:List Int) 0 1).length 1 8)<|iE (v2++(sub ([x1.x]:List Int) 0 1)) λr2=>ck (az r2.length r2.length)<|some (.inl ((i64.wrap (v1+1)),r2))else ck (az v2.length v2.length)<|some (.inr v2))
def lH(r4:Unit×(List Int))(r5:List jv)(v3:Int):Stp (Int×(List Int)) (List Int)
 |(v5,v6)=>(bif decide (v5<(r5.length:Int))then(ck (cC v5 r5.length)<|(bp r5 ((0:Nat)+v5:Int)).bind λx2=>((gI x2).bind λr6=>(bif (!r6)then ck (cC v3 r4.2.length)<|(bp r4.2 ((0:Nat)+v3:Int)).bind λx3=>(bif decide ((min x2.lz x2.mi)<=(x3:Int))then ck (cC v3 r4.2.length)<|(bp r4.2 ((0:Nat)+v3:Int)).bind λx4=>some (decide (x4<((max x2.lz x2.mi):Int)))else some false)else some false)).bind λv7=>(bif v7 then ck (bP v6.length v6.length (sub ([x2.py]:List Int) 0 1).length 1 8)<|iE (v6++(sub ([x2.py]:List Int) 0 1)) λr7=>ck (az r7.length r7.length)<|some r7 else ck (az v6.length v6.length)<|some v6):Option ((List Int))).bind λv8=>ck (az v8.length v8.length)<|some (.inl ((i64.wrap (v5+1)),v8))else ck (az v6.length v6.length)<|some (.inr v6))
def jf(r4:Unit×(List Int))(v3:Int)(w2:List Int)(r8:List Int):Stp (Int×(List ax)) (List ax)
 |(v9,v10)=>(bif decide ((i64.wrap (v9+1))<(w2.length:Int))then ck (cC v3 r4.2.length)<|(bp r4.2 ((0:Nat)+v3:Int)).bind λx5=>ck (cC v9 w2.length)<|(bp r8 ((0:Nat)+v9:Int)).bind λx6=>ck (cC (i64.wrap (v3+1)) r4.2.length)<|(bp r4.2 ((0:Nat)+(i64.wrap (v3+1)):Int)).bind λx7=>ck (cC (i64.wrap (v9+1)) w2.length)<|(bp r8 ((0:Nat)+(i64.wrap (v9+1)):Int)).bind λx8=>ck (bP v10.length v10.length (sub ([(ax.mk x5 x6 x7 x8)]:List ax) 0 1).length 1 32)<|iE (v10++(sub ([(ax.mk x5 x6 x7 x8)]:List ax) 0 1)) λr9=>ck (az r9.length r9.length)<|some (.inl ((i64.wrap (v9+2)),r9))else ck (az v10.length v10.length)<|some (.inr v10))
def lI(r4:Unit×(List Int))(r5:List jv):Stp (Int×(List ax)) (List ax)
 |(v3,v4)=>(bif (decide (v3<((i64.wrap ((r4.2.length:Int) -1)):Int)))then ck (az 0 ([]:List Int).length)<|(iter (lH r4 r5 v3) n ((0:Int),([]:List Int))).bind λw2=>ck (az w2.length w2.length)<|(oN n w2).bind λr8=>ck (az v4.length v4.length)<|(iter (jf r4 v3 w2 r8) n ((0:Int),v4)).bind λw3=>ck (az w3.length w3.length)<|some (.inl ((i64.wrap (v3+1)),w3))else ck (az v4.length v4.length)<|some (.inr v4))
def tH(a0:List dQ):Option ((List ax)×Int):=
 (vD n a0).bind λr1=>(bif (!r1)then some (([]:(List ax)),(10:Int))else ck (az 0 ([]:List Int).length)<|(iter (lG a0) n ((0:Int),([]:List Int))).bind λw1=>ck (az w1.length w1.length)<|(oN n w1).bind λr3=>ck (az w1.length r3.length)<|(oO n r3).bind λr4=>(oQ n a0).bind λr5=>ck (az 0 ([]:List ax).length)<|(iter (lI n r4 r5) n ((0:Int),([]:List ax))).bind λw4=>(bif decide ((w4.length:Int)>200)then some (([]:(List ax)),(6:Int))else ck (az (sub w4 0 w4.length).length w4.length)<|some ((sub w4 0 w4.length),(0:Int))))
def xJ(a0:dM):Option (List ax):=
 (tH n a0.corners).bind λr1=>(bif (r1.2 !=0)then some ([]:(List ax))else ck (az (sub r1.1 0 r1.1.length).length r1.1.length)<|some (sub r1.1 0 r1.1.length))
def pJ(a1:List ax)(x1:ax):Stp (Int×Int×Int×Int) (Int×Int×Int)
 |(v5,v6,v7,v8)=>(bif decide (v6<(a1.length:Int))then((bp a1 v6).bind λx2=>(rW x1 x2).bind λr1=>(bif (!r1.2)then some (v5,v7,v8)else(oP r1.1).bind λr2=>(cmp_Compare_int r1.1.x0 v7).bind λr3=>(cmp_Compare_int r1.1.y0 v8).bind λr4=>ck (az (sub ([r3,r4]:List Int) 0 2).length 2)<|(rz n (sub ([r3,r4]:List Int) 0 2)).bind λr5=>(bif decide (r5<0)then some ((i64.wrap (v5+r2)),r1.1.x0,r1.1.y0)else some ((i64.wrap (v5+r2)),v7,v8))):Option (Int×Int×Int)).bind λ(v9,v10,v11)=>some (.inl (v9,(i64.wrap (v6+1)),v10,v11))else some (.inr (v5,v7,v8)))
def pK(a0:List ax)(a1:List ax):Stp (Int×Int×Int×Int) (Int×Int×Int)
 |(v1,v2,v3,v4)=>(bif decide (v2<(a0.length:Int))then(bp a0 v2).bind λx1=>(iter (pJ n a1 x1) n (v1,(0:Int),v3,v4)).bind λ(w1,w2,w3)=>some (.inl (w1,(i64.wrap (v2+1)),w2,w3))else some (.inr (v1,v3,v4)))
def vE(a0:List ax)(a1:List ax):Option (Int×dQ):=
 (iter (pK n a0 a1) n ((0:Int),(0:Int),(1048576:Int),(0:Int))).bind λ(w4,w5,w6)=>some (w4,(dQ.mk w5 w6))
def pM(a0:bB)(a1:List ax):Stp (Int×(List Int)) (List Int)
 |(v1,v2)=>(bif decide (v1<(a0.zones.length:Int))then(bp a0.zones v1).bind λx1=>(xJ n x1).bind λr2=>ck (az (sub r2 0 r2.length).length r2.length)<|(vE n a1 (sub r2 0 r2.length)).bind λr3=>ck (bP v2.length v2.length (sub ([r3.1]:List Int) 0 1).length 1 8)<|iE (v2++(sub ([r3.1]:List Int) 0 1)) λr4=>ck (az r4.length r4.length)<|some (.inl ((i64.wrap (v1+1)),r4))else ck (az v2.length v2.length)<|some (.inr v2))
def vF(a0:bB)(a1:List ax):Option (List Int):=
 (nQ n a1).bind λr1=>(bif (!r1)then some ([]:(List Int))else ck (az 0 ([]:List Int).length)<|(iter (pM n a0 a1) n ((0:Int),([]:List Int))).bind λw1=>ck (az (sub w1 0 w1.length).length w1.length)<|some (sub w1 0 w1.length))
def pO(a0:bB)(r1:List Int):Stp (Int×Int) Int
 |(v1,v2)=>(bif decide (v2<(r1.length:Int))then(ck (cC v2 r1.length)<|(bp r1 ((0:Nat)+v2:Int)).bind λx1=>((bp a0.zones v2).bind λx2=>(bif (!x2.overlay)then(bif decide (x1>0)then(bif decide (v1<0)then some true else ck (cC v1 r1.length)<|(bp r1 ((0:Nat)+v1:Int)).bind λx3=>some (decide (x1>(x3:Int))))else some false)else some false)).bind λv3=>(bif v3 then some v2 else some v1):Option Int).bind λv4=>some (.inl (v4,(i64.wrap (v2+1))))else some (.inr v1))
def xK(a0:bB)(r1:List Int)(w1:Int):Stp (Int×(List ByteArray)) (List ByteArray)
 |(v5,v6)=>(bif decide (v5<(r1.length:Int))then(ck (cC v5 r1.length)<|(bp r1 ((0:Nat)+v5:Int)).bind λx4=>((bif (v5==(w1:Int))then some true else(bp a0.zones v5).bind λx5=>(bif x5.overlay then some (decide (x4>0))else some false))).bind λv7=>(bif v7 then(bp a0.zones v5).bind λx6=>ck (bP v6.length v6.length (sub ([x6.name]:List ByteArray) 0 1).length 1 16)<|iE (v6++(sub ([x6.name]:List ByteArray) 0 1)) λr2=>ck (az r2.length r2.length)<|some r2 else ck (az v6.length v6.length)<|some v6):Option ((List ByteArray))).bind λv8=>ck (az v8.length v8.length)<|some (.inl ((i64.wrap (v5+1)),v8))else ck (az v6.length v6.length)<|some (.inr v6))
def Cz(a0:bB)(a1:List ax):Option (List ByteArray):=
 (vF n a0 a1).bind λr1=>(iter (pO a0 r1) n (((-1):Int),(0:Int))).bind λw1=>ck (az 0 ([]:List ByteArray).length)<|(iter (xK a0 r1 w1) n ((0:Int),([]:List ByteArray))).bind λw2=>ck (az (sub w2 0 w2.length).length w2.length)<|some (sub w2 0 w2.length)
def z8(a0:bW)(a1:bn):Option (lX×Int):=
 (NA n a0.land a1.lot).bind λr1=>(bif (!r1.2)then some ((lX.mk ([]) ([]) ([]) ([]) ([]) ([]) ([]) 0 ([]) ([]) ([]) ([]) ([]) 0 0 ([]) ([]) 0 ([]) ([]) ([])),(4:Int))else(om n (bB.mk a0.ci a0.b8 a0.b7 a0.bj a0.ct a0.cj a0.cD a0.cm) r1.1 a1).bind λr2=>(bif (!r2)then some ((lX.mk ([]) ([]) ([]) ([]) ([]) ([]) ([]) 0 ([]) ([]) ([]) ([]) ([]) 0 0 ([]) ([]) 0 ([]) ([]) ([])),(1:Int))else(tC n a1).bind λr3=>(Cz n (bB.mk a0.ci a0.b8 a0.b7 a0.bj a0.ct a0.cj a0.cD a0.cm) r1.1.area).bind λr4=>ck (az (sub r3 0 r3.length).length r3.length)<|ck (az (sub r4 0 r4.length).length r4.length)<|some ((lX.mk a0.ci a0.b8 a0.b7 a0.bj a0.ct a0.cj a0.cD a0.cm a0.land a0.bz a0.windows a0.built a0.base r1.1.id r1.1.owner r1.1.area r1.1.from_ a1.lot a1.phases (sub r3 0 r3.length) (sub r4 0 r4.length)),(0:Int))))
def nD(a0:List ByteArray)(a1:ByteArray):Stp Int (Unit⊕Int)
 |v1=>(bif decide (v1<(a0.length:Int))then(bp a0 v1).bind λx1=>(bif (ByteArray.toList a1==ByteArray.toList x1)then(some v1).map λa=> .inr (.inr a)else some (.inl (i64.wrap (v1+1))))else some (.inr (.inl ())))
def qQ(a0:List ByteArray)(a1:ByteArray):Option Int:=
 dD (iter (nD a0 a1) n (0:Int)) λ()=>some ((-1):Int)
def fK(a0:List ByteArray)(a1:ByteArray):Option Bool:=
 (qQ n a0 a1).bind λr1=>some (decide (r1>=0))
def jV(a0:ByteArray)(a1:List ByteArray):Option Bool:=
 (fK n a1 a0).bind λr1=>some r1
def Ei(a0:List ByteArray)(a1:(ByteArray×Unit)->Option Bool):Stp Int (Unit⊕Int)
 |v1=>(bif decide (v1<(a0.length:Int))then(bp a0 v1).bind λx1=>(a1 (x1,())).bind λr1=>(bif r1 then(some v1).map λa=> .inr (.inr a)else some (.inl (i64.wrap (v1+1))))else some (.inr (.inl ())))
def qb(a0:List ByteArray)(a1:(ByteArray×Unit)->Option Bool):Option Int:=
 dD (iter (Ei a0 a1) n (0:Int)) λ()=>some ((-1):Int)
def fO(a0:List ByteArray)(a1:(ByteArray×Unit)->Option Bool):Option Bool:=
 (qb n a0 a1).bind λr1=>some (decide (r1>=0))
def qp(a0:bV)(a1:List ByteArray):Option Bool:=
 (bif ((a0.zones.length:Int)==0)then(fO n a0.except (λ (y1:ByteArray×Unit)=>jV n y1.1 a1)).bind λr1=>some (!r1)else(fO n a0.zones (λ (y2:ByteArray×Unit)=>jV n y2.1 a1)).bind λr2=>(bif r2 then(fO n a0.except (λ (y3:ByteArray×Unit)=>jV n y3.1 a1)).bind λr3=>some (!r3)else some false))
def qR(a0:bB)(a1:List ByteArray)(a2:Int):Stp (Int×(List Int)) (List Int)
 |(v1,v2)=>(bif decide (v1<(a0.rules.length:Int))then((bp a0.rules v1).bind λx1=>((bif decide (x1.from_<=(a2:Int))then(bif (x1.j9==0)then(qp n x1 a1).bind λr1=>some r1 else(bif decide (a2<(x1.j9:Int))then(qp n x1 a1).bind λr2=>some r2 else some false))else some false)).bind λv3=>(bif v3 then ck (bP v2.length v2.length (sub ([v1]:List Int) 0 1).length 1 8)<|iE (v2++(sub ([v1]:List Int) 0 1)) λr3=>ck (az r3.length r3.length)<|some r3 else ck (az v2.length v2.length)<|some v2):Option ((List Int))).bind λv4=>ck (az v4.length v4.length)<|some (.inl ((i64.wrap (v1+1)),v4))else ck (az v2.length v2.length)<|some (.inr v2))
def tJ(a0:bB)(a1:List ByteArray)(a2:Int):Option (List Int):=
 ck (az 0 ([]:List Int).length)<|(iter (qR n a0 a1 a2) n ((0:Int),([]:List Int))).bind λw1=>ck (az (sub w1 0 w1.length).length w1.length)<|some (sub w1 0 w1.length)
def uY(_:Nat)(a0:List ax)(a1:(ax×ax×Unit)->Option Int):Option (List ax):=GB a0 a1
def iH(a0:ax)(a1:ax):Option Int:=
 (cmp_Compare_int a0.y0 a1.y0).bind λr1=>some r1
def kN(a0:aH):Option Int:=
 ((bif a0.extra then some true else(gm a0).bind λr1=>some (!r1))).bind λv1=>(bif v1 then some (0:Int)else ck (3 !=0)<|some (i64.wrap (Int.tdiv (i64.wrap ((i64.wrap ((i64.wrap (a0.eb -a0.ep))+3)) -1)) 3)))
def oo(a0:aH):Option Int:=
 (gm a0).bind λr1=>(bif (!r1)then some (0:Int)else(oP (ax.mk a0.bu a0.ca a0.br a0.b9)).bind λr2=>(kN a0).bind λr3=>some (i64.wrap (r2*r3)))
def nE(a0:aH):Option Int:=
 some a0.eb
def oC(a0:aH):Option Int:=
 some a0.units
def AX(a0:ax)(a1:Int):Option (ax×Bool):=
 (nu (ax.mk (i64.wrap (a0.x0 -a1)) (i64.wrap (a0.y0 -a1)) (i64.wrap (a0.x1+a1)) (i64.wrap (a0.y1+a1)))).bind λr1=>some ((ax.mk (i64.wrap (a0.x0 -a1)) (i64.wrap (a0.y0 -a1)) (i64.wrap (a0.x1+a1)) (i64.wrap (a0.y1+a1))),r1)
def j5(a0:bR)(a1:Js)(a2:Int):Option Bool:=
 ck (cC a2 6)<|(bp ([a1.a0,a1.a1,a1.a2,a1.a3,a1.a4,a1.a5]:List ByteArray) a2).bind λx1=>some (ByteArray.toList a0.name==ByteArray.toList x1)
def Fv(a0:List bR)(a1:(bR×Unit)->Option Bool):Stp Int (Unit⊕Int)
 |v1=>(bif decide (v1<(a0.length:Int))then(bp a0 v1).bind λx1=>(a1 (x1,())).bind λr1=>(bif r1 then(some v1).map λa=> .inr (.inr a)else some (.inl (i64.wrap (v1+1))))else some (.inr (.inl ())))
def j6(a0:List bR)(a1:(bR×Unit)->Option Bool):Option Int:=
 dD (iter (Fv a0 a1) n (0:Int)) λ()=>some ((-1):Int)
def kg(a0:bB)(a1:Int):Stp Int (Unit⊕Int)
 |v1=>(bif decide (v1<(a0.tables.length:Int))then(bp a0.tables v1).bind λx1=>(bif (!(ByteArray.toList x1.name==ByteArray.toList (⟨#[116,114,97,102,102,105,99]⟩)))then some (.inl (i64.wrap (v1+1)))else((j6 n x1.rows (λ (y1:bR×Unit)=>j5 y1.1 (Js.mk (⟨#[104,111,109,101]⟩) (⟨#[115,104,111,112]⟩) (⟨#[119,111,114,107]⟩) (⟨#[112,97,114,107]⟩) (⟨#[112,108,97,110,116]⟩) (⟨#[104,97,108,108]⟩)) a1)).bind λr1=>(bif decide (r1>=0)then(bp x1.rows r1).bind λx2=>some x2.n else some x1.sg):Option Int).bind λv2=>(some (max (0:Int) (min v2 (1048576:Int)))).map λa=> .inr (.inr a))else some (.inr (.inl ())))
def Aa(a0:bB)(a1:Int):Option Int:=
 dD (iter (kg n a0 a1) n (0:Int)) λ()=>some (0:Int)
def kP(a0:bB)(a1:aH):Option Int:=
 (Aa n a0 a1.use).bind λr1=>(oo a1).bind λr2=>((bif decide (r1>0)then ck (r1 !=0)<|some (decide (r2>((i64.wrap (Int.tdiv 109951162777600 r1)):Int)))else some false)).bind λv1=>(bif v1 then some (1099511627776:Int)else ck (100 !=0)<|some (i64.wrap (Int.tdiv (i64.wrap ((i64.wrap ((i64.wrap (r1*r2))+100)) -1)) 100)))
def mD(a0:List fB)(a1:List cu)(a2:List dM)(a3:List bV)(a4:List fZ)(a5:List eU)(a6:List bT)(a7:Int)(a8:List ax)(a9:List aH):Option (Int×gP):=
 (Ju n a8).bind λr1=>ck (az a9.length a9.length)<|some (r1,a0,a1,a2,a3,a4,a5,a6,a7,a8,a9)
def gB(a9:List aH):Stp (Int×(List ax)×(List Int)) ((List ax)×(List Int))
 |(v1,v2,v3)=>(bif decide (v1<(a9.length:Int))then ck (cC v1 a9.length)<|(bp a9 ((0:Nat)+v1:Int)).bind λx1=>ck (cC v1 ((a9.length:Int).toNat))<|(bp v2 ((0:Nat)+v1:Int)).bind λx2=>ck (cC v1 ((a9.length:Int).toNat))<|(bp (v2.set ((0:Nat)+v1:Int).toNat (ax.mk x1.bu x1.ca x1.br x1.b9)) ((0:Nat)+v1:Int)).bind λx3=>ck (cC v1 ((a9.length:Int).toNat))<|(bp (v2.set ((0:Nat)+v1:Int).toNat (ax.mk x1.bu x1.ca x1.br x1.b9)) ((0:Nat)+v1:Int)).bind λx4=>ck (bP v3.length v3.length (sub ([x3.x0,x4.x1]:List Int) 0 2).length 2 8)<|iE (v3++(sub ([x3.x0,x4.x1]:List Int) 0 2)) λr1=>ck (az r1.length r1.length)<|some (.inl ((i64.wrap (v1+1)),(v2.set ((0:Nat)+v1:Int).toNat (ax.mk x1.bu x1.ca x1.br x1.b9)),r1))else ck (az v3.length v3.length)<|some (.inr (v2,v3)))
def iQ(a9:List aH)(w2:List Int)(r2:List ax)(r3:List Int)(v5:Int):Stp (Int×Int×Int) Int
 |(v6,v7,v8)=>(bif (decide (v8<((((a9.length:Int).toNat:Nat):Int):Int)))then(ck (cC v8 ((a9.length:Int).toNat))<|(bp r2 ((0:Nat)+v8:Int)).bind λx5=>(ck (cC v5 w2.length)<|(bp r3 ((0:Nat)+v5:Int)).bind λx6=>(bif decide (x5.x0<=(x6:Int))then ck (cC v5 w2.length)<|(bp r3 ((0:Nat)+v5:Int)).bind λx7=>(bif decide (x7<(x5.x1:Int))then some (decide (x5.y1>(v7:Int)))else some false)else some false)).bind λv9=>(bif v9 then ck (cC (i64.wrap (v5+1)) w2.length)<|(bp r3 ((0:Nat)+(i64.wrap (v5+1)):Int)).bind λx8=>ck (cC v5 w2.length)<|(bp r3 ((0:Nat)+v5:Int)).bind λx9=>some ((i64.wrap (v6+(i64.wrap ((i64.wrap (x8 -x9))*(i64.wrap (x5.y1 -(max v7 x5.y0))))))),x5.y1)else some (v6,v7)):Option (Int×Int)).bind λ(v10,v11)=>some (.inl (v10,v11,(i64.wrap (v8+1))))else some (.inr v6))
def iR(a9:List aH)(w2:List Int)(r2:List ax)(r3:List Int):Stp (Int×Int) Int
 |(v4,v5)=>(bif (decide (v5<((max (0:Int) (i64.wrap ((w2.length:Int) -1))):Int)))then(iter (iQ a9 w2 r2 r3 v5) n (v4,(0:Int),(0:Int))).bind λw3=>some (.inl (w3,(i64.wrap (v5+1))))else some (.inr v4))
def iJ(a0:List fB)(a1:List cu)(a2:List dM)(a3:List bV)(a4:List fZ)(a5:List eU)(a6:List bT)(a7:Int)(a8:List ax)(a9:List aH):Option (Int×gP):=
 ck (decide ((a9.length:Int)<=(a9.length:Int))&&(decide (0<=(a9.length:Int))&&zx (a9.length:Int) 32))<|ck (az 0 ([]:List Int).length)<|(iter (gB a9) n ((0:Int),(List.replicate (a9.length:Int).toNat (ax.mk 0 0 0 0)),([]:List Int))).bind λ(w1,w2)=>ck (az ((a9.length:Int).toNat) w1.length)<|(uY n w1 (λ (y1:ax×ax×Unit)=>iH y1.1 y1.2.1)).bind λr2=>ck (az w2.length w2.length)<|(oN n w2).bind λr3=>(iter (iR n a9 w2 r2 r3) n ((0:Int),(0:Int))).bind λw4=>ck (az a9.length a9.length)<|some (w4,a0,a1,a2,a3,a4,a5,a6,a7,a8,a9)
def jC(a9:List aH):Stp (Int×Int) Int
 |(v1,v2)=>(bif decide (v2<(a9.length:Int))then ck (cC v2 a9.length)<|(bp a9 ((0:Nat)+v2:Int)).bind λx1=>(oo x1).bind λr1=>some (.inl ((i64.wrap (v1+r1)),(i64.wrap (v2+1))))else some (.inr v1))
def qc(a0:List fB)(a1:List cu)(a2:List dM)(a3:List bV)(a4:List fZ)(a5:List eU)(a6:List bT)(a7:Int)(a8:List ax)(a9:List aH):Option (Int×gP):=
 (iter (jC a9) n ((0:Int),(0:Int))).bind λw1=>ck (az a9.length a9.length)<|some (w1,a0,a1,a2,a3,a4,a5,a6,a7,a8,a9)
def kz(a0:List fB)(a1:List cu)(a2:List dM)(a3:List bV)(a4:List fZ)(a5:List eU)(a6:List bT)(a7:Int)(a8:List ax)(a9:List aH):Option (Int×gP):=
 ck (az a9.length a9.length)<|(qc n a0 a1 a2 a3 a4 a5 a6 a7 a8 a9).bind λr1=>ck (az r1.2.2.2.2.2.2.2.2.2.2.length r1.2.2.2.2.2.2.2.2.2.2.length)<|some (r1.1,r1.2.1,r1.2.2.1,r1.2.2.2.1,r1.2.2.2.2.1,r1.2.2.2.2.2.1,r1.2.2.2.2.2.2.1,r1.2.2.2.2.2.2.2.1,r1.2.2.2.2.2.2.2.2.1,r1.2.2.2.2.2.2.2.2.2.1,r1.2.2.2.2.2.2.2.2.2.2)
def gQ(a9:List aH):Stp (Int×Int) Int
 |(v1,v2)=>(bif decide (v2<(a9.length:Int))then ck (cC v2 a9.length)<|(bp a9 ((0:Nat)+v2:Int)).bind λx1=>(kN x1).bind λr1=>some (.inl ((max v1 r1),(i64.wrap (v2+1))))else some (.inr v1))
end
end Go.Proofs
