import Derived.Test.YtkgkglgpckgokaaGreatTBase
open Go.IntKind (i64)
namespace Go.Proofs
open Go.Gb Go.RowKit
noncomputable section
variable (n:Nat)
def fB(a0:Int):J bq:=
 ck (az (sub ([(cu.mk 1 0 (⟨#[104,101,105,103,104,116]⟩) (⟨#[]⟩) ([])),(cu.mk 0 a0 (⟨#[]⟩) (⟨#[]⟩) ([]))]:U cu) 0 2).length 2)<|ck (az (sub ([(bV.mk (⟨#[97]⟩) ([]) ([]) 0 0 0 false 0 12 0 (⟨#[]⟩) (⟨#[]⟩) (sub ([(cu.mk 1 0 (⟨#[104,101,105,103,104,116]⟩) (⟨#[]⟩) ([])),(cu.mk 0 a0 (⟨#[]⟩) (⟨#[]⟩) ([]))]:U cu) 0 2) 0 0 0 0 0 0 0)]:U bV) 0 1).length 1)<|some (bq.mk ([]) ([]) ([]) (sub ([(bV.mk (⟨#[97]⟩) ([]) ([]) 0 0 0 false 0 12 0 (⟨#[]⟩) (⟨#[]⟩) (sub ([(cu.mk 1 0 (⟨#[104,101,105,103,104,116]⟩) (⟨#[]⟩) ([])),(cu.mk 0 a0 (⟨#[]⟩) (⟨#[]⟩) ([]))]:U cu) 0 2) 0 0 0 0 0 0 0)]:U bV) 0 1) ([]) ([]) ([]) 0)
def nE(a0:ax):J Bool:=
 (bif decide (0<=(a0.x0:Int))then(bif decide (a0.x0<(a0.x1:Int))then(bif decide (a0.x1<=1048576)then(bif decide (0<=(a0.y0:Int))then(bif decide (a0.y0<(a0.y1:Int))then some (decide (a0.y1<=1048576))else some false)else some false)else some false)else some false)else some false)
def NA(a0:Unit)(a1:Int):J (List ax):=
 (bif decide (a1<0)then none else(bif (decide ((i64.wrap (a1 -(i64.wrap (0 -0))))>0))then ck (zH (i64.wrap (a1 -(i64.wrap (0 -0)))) 32)<|ck (A8 0 0 ((i64.wrap (a1 -(i64.wrap (0 -0)))).toNat))<|ck (az (sub (List.replicate (i64.wrap (a1 -(i64.wrap (0 -0)))).toNat (ax.mk 0 0 0 0)) 0 0).length 0)<|some (sub (List.replicate (i64.wrap (a1 -(i64.wrap (0 -0)))).toNat (ax.mk 0 0 0 0)) 0 0)else some ([]:(List ax))))
def NC(a0:U (List ax)):Stp (Int×Int) Int
 |(v1,v2)=>(bif decide (v2<(a0.length:Int))then(bp a0 v2).bind λx1=>(bif decide ((i64.wrap (v1+(x1.length:Int)))<0)then none else some (.inl ((i64.wrap (v1+(x1.length:Int))),(i64.wrap (v2+1)))))else some (.inr v1))
def ND(a0:U (List ax)):Stp (Int×(List ax)) (List ax)
 |(v3,v4)=>(bif decide (v3<(a0.length:Int))then(bp a0 v3).bind λx2=>ck (bP v4.length v4.length x2.length x2.length 32)<|iL (v4++x2) λr2=>ck (az r2.length r2.length)<|some (.inl ((i64.wrap (v3+1)),r2))else ck (az v4.length v4.length)<|some (.inr v4))
def yR(a0:U (List ax)):J (List ax):=
 (iter (NC a0) n ((0:Int),(0:Int))).bind λw1=>(NA () w1).bind λr1=>ck (az r1.length r1.length)<|(iter (ND a0) n ((0:Int),r1)).bind λw2=>ck (az (sub w2 0 w2.length).length w2.length)<|some (sub w2 0 w2.length)
def oV(_:Nat)(a0:U Int):J (List Int):=Ks a0
def NE(a0:U Int)(v1:Int):Stp (Int×Int×(List Int)) (Int×(List Int))
 |(v2,v3,v4)=>(bif (decide (v3<((((a0.length -(v1:Int).toNat):Nat):Int):Int)))then(ck (cC v3 (a0.length -(v1:Int).toNat))<|(bp v4 (((0+(v1:Int).toNat):Nat)+v3:Int)).bind λx3=>ck (cC (i64.wrap (v3 -1)) (a0.length -(v1:Int).toNat))<|(bp v4 (((0+(v1:Int).toNat):Nat)+(i64.wrap (v3 -1)):Int)).bind λx4=>(bif (x3 !=(x4:Int))then ck (cC v3 (a0.length -(v1:Int).toNat))<|(bp v4 (((0+(v1:Int).toNat):Nat)+v3:Int)).bind λx5=>ck (cC v2 a0.length)<|(bp v4 ((0:Nat)+v2:Int)).bind λx6=>some ((i64.wrap (v2+1)),(v4.set ((0:Nat)+v2:Int).toNat x5))else some (v2,v4)):J (Int×(List Int))).bind λ(v5,v6)=>some (.inl (v5,(i64.wrap (v3+1)),v6))else some (.inr (v2,v4)))
def NF(a0:U Int):Stp Int (Unit⊕(Unit×(List Int)))
 |v1=>(bif decide (v1<(a0.length:Int))then ck (cC v1 a0.length)<|(bp a0 ((0:Nat)+v1:Int)).bind λx1=>ck (cC (i64.wrap (v1 -1)) a0.length)<|(bp a0 ((0:Nat)+(i64.wrap (v1 -1)):Int)).bind λx2=>(bif (x1==(x2:Int))then ck (A8 v1 (a0.length:Int) a0.length)<|(iter (NE a0 v1) n (v1,(1:Int),a0)).bind λ(w1,w2)=>ck (A8 w1 (a0.length:Int) a0.length)<|ck (A8 0 w1 a0.length)<|(ck (az ((w1:Int).toNat) ((w1:Int).toNat))<|ck (az (sub (w2.take (0+(w1:Int).toNat)) 0 ((w1:Int).toNat)).length ((w1:Int).toNat))<|some ((),(sub (w2.take (0+(w1:Int).toNat)) 0 ((w1:Int).toNat)))).map λa=> .inr (.inr a)else some (.inl (i64.wrap (v1+1))))else some (.inr (.inl ())))
def oW(a0:U Int):J (Unit×(List Int)):=
 (bif decide ((a0.length:Int)<2)then ck (az a0.length a0.length)<|ck (az (sub a0 0 a0.length).length a0.length)<|some ((),(sub a0 0 a0.length))else dw (iter (NF n a0) n (1:Int)) λ()=>ck (az a0.length a0.length)<|ck (az (sub a0 0 a0.length).length a0.length)<|some ((),(sub a0 0 a0.length)))
def ve(_:Nat)(a0:U aO)(a1:(aO×aO×Unit)->J Int):J (List aO):=Ge a0 a1
def cmp_isNaN_int(a0:Int):J Bool:=
 some (a0 !=(a0:Int))
def cmp_Compare_int(a0:Int)(a1:Int):J Int:=
 (cmp_isNaN_int a0).bind λr1=>(cmp_isNaN_int a1).bind λr2=>(bif r1 then(bif r2 then some (0:Int)else some ((-1):Int))else(bif r2 then some (1:Int)else(bif decide (a0<(a1:Int))then some ((-1):Int)else(bif decide (a0>(a1:Int))then some (1:Int)else some (0:Int)))))
def xJ(a0:aO)(a1:aO):J Int:=
 (cmp_Compare_int a0.from_ a1.from_).bind λr1=>some r1
def tN(a0:U ax)(a1:Int):Stp (Int×(List aO)) (List aO)
 |(v1,v2)=>(bif decide (v1<(a0.length:Int))then((bp a0 v1).bind λx1=>((bif decide (x1.x0<=(a1:Int))then some (decide (a1<(x1.x1:Int)))else some false)).bind λv3=>(bif v3 then ck (bP v2.length v2.length (sub ([(aO.mk x1.y0 x1.y1)]:U aO) 0 1).length 1 16)<|iL (v2++(sub ([(aO.mk x1.y0 x1.y1)]:U aO) 0 1)) λr1=>ck (az r1.length r1.length)<|some r1 else ck (az v2.length v2.length)<|some v2):J ((List aO))).bind λv4=>ck (az v4.length v4.length)<|some (.inl ((i64.wrap (v1+1)),v4))else ck (az v2.length v2.length)<|some (.inr v2))
def tO(w1:U aO)(r2:U aO):Stp (Int×(List aO)) (List aO)
 |(v5,v6)=>(bif decide (v5<(w1.length:Int))then(ck (cC v5 w1.length)<|(bp r2 ((0:Nat)+v5:Int)).bind λx2=>((bif decide ((v6.length:Int)>0)then ck (cC (i64.wrap ((v6.length:Int) -1)) v6.length)<|(bp v6 ((0:Nat)+(i64.wrap ((v6.length:Int) -1)):Int)).bind λx3=>some (decide (x2.from_<=(x3.to:Int)))else some false)).bind λv7=>(bif v7 then ck (cC (i64.wrap ((v6.length:Int) -1)) v6.length)<|(bp v6 ((0:Nat)+(i64.wrap ((v6.length:Int) -1)):Int)).bind λx4=>ck (cC (i64.wrap ((v6.length:Int) -1)) v6.length)<|(bp v6 ((0:Nat)+(i64.wrap ((v6.length:Int) -1)):Int)).bind λx5=>ck (az v6.length (v6.set ((0:Nat)+(i64.wrap ((v6.length:Int) -1)):Int).toNat (aO.mk x5.from_ (max x4.to x2.to))).length)<|some (v6.set ((0:Nat)+(i64.wrap ((v6.length:Int) -1)):Int).toNat (aO.mk x5.from_ (max x4.to x2.to)))else ck (bP v6.length v6.length (sub ([x2]:U aO) 0 1).length 1 16)<|iL (v6++(sub ([x2]:U aO) 0 1)) λr3=>ck (az r3.length r3.length)<|some r3):J ((List aO))).bind λv8=>ck (az v8.length v8.length)<|some (.inl ((i64.wrap (v5+1)),v8))else ck (az v6.length v6.length)<|some (.inr v6))
def JG(a0:U ax)(a1:Int):J (List aO):=
 ck (az 0 ([]:U aO).length)<|(iter (tN a0 a1) n ((0:Int),([]:U aO))).bind λw1=>ck (az w1.length w1.length)<|(ve n w1 (λ (y1:aO×aO×Unit)=>xJ y1.1 y1.2.1)).bind λr2=>ck (az 0 ([]:U aO).length)<|(iter (tO w1 r2) n ((0:Int),([]:U aO))).bind λw2=>ck (az (sub w2 0 w2.length).length w2.length)<|some (sub w2 0 w2.length)
def tQ(r1:U ax):Stp (Int×(List Int)) (List Int)
 |(v1,v2)=>(bif decide (v1<(r1.length:Int))then ck (cC v1 r1.length)<|(bp r1 ((0:Nat)+v1:Int)).bind λx1=>ck (bP v2.length v2.length (sub ([x1.x0,x1.x1]:U Int) 0 2).length 2 8)<|iL (v2++(sub ([x1.x0,x1.x1]:U Int) 0 2)) λr2=>ck (az r2.length r2.length)<|some (.inl ((i64.wrap (v1+1)),r2))else ck (az v2.length v2.length)<|some (.inr v2))
def tT(r1:U ax)(r4:Unit×(List Int)):Stp (Int×(List bX)) (List bX)
 |(v3,v4)=>(bif decide (v3<(r4.2.length:Int))then ck (cC (i64.wrap (v3 -1)) r4.2.length)<|(bp r4.2 ((0:Nat)+(i64.wrap (v3 -1)):Int)).bind λx2=>ck (cC v3 r4.2.length)<|(bp r4.2 ((0:Nat)+v3:Int)).bind λx3=>ck (cC (i64.wrap (v3 -1)) r4.2.length)<|(bp r4.2 ((0:Nat)+(i64.wrap (v3 -1)):Int)).bind λx4=>ck (az (sub r1 0 r1.length).length r1.length)<|(JG n (sub r1 0 r1.length) x4).bind λr5=>ck (az (sub r5 0 r5.length).length r5.length)<|ck (bP v4.length v4.length (sub ([(bX.mk x2 x3 (sub r5 0 r5.length))]:U bX) 0 1).length 1 40)<|iL (v4++(sub ([(bX.mk x2 x3 (sub r5 0 r5.length))]:U bX) 0 1)) λr6=>ck (az r6.length r6.length)<|some (.inl ((i64.wrap (v3+1)),r6))else ck (az v4.length v4.length)<|some (.inr v4))
def ow(a0:U (List ax)):J (List bX):=
 (yR n a0).bind λr1=>ck (az 0 ([]:U Int).length)<|(iter (tQ r1) n ((0:Int),([]:U Int))).bind λw1=>ck (az w1.length w1.length)<|(oV n w1).bind λr3=>ck (az w1.length r3.length)<|(oW n r3).bind λr4=>ck (az 0 ([]:U bX).length)<|(iter (tT n r1 r4) n ((1:Int),([]:U bX))).bind λw2=>ck (az (sub w2 0 w2.length).length w2.length)<|some (sub w2 0 w2.length)
def P9(a0:U aO)(a1:U aO):Stp Int (Unit⊕Bool)
 |v1=>(bif decide (v1<(a0.length:Int))then(bp a0 v1).bind λx1=>(bp a1 v1).bind λx2=>(bif (!((x1.from_==(x2.from_:Int))&&((x1.to==(x2.to:Int))&&true)))then(some false).map λa=> .inr (.inr a)else some (.inl (i64.wrap (v1+1))))else some (.inr (.inl ())))
def vI(a0:U aO)(a1:U aO):J Bool:=
 (bif ((a0.length:Int) !=(a1.length:Int))then some false else dw (iter (P9 a0 a1) n (0:Int)) λ()=>some true)
def sJ(a0:U bX)(v1:Int):Stp Int Int
 |v3=>((bif decide (v3<(a0.length:Int))then(bp a0 v3).bind λx1=>(bp a0 v1).bind λx2=>(vI n x1.column x2.column).bind λr1=>some r1 else some false)).bind λv4=>(bif v4 then some (.inl (i64.wrap (v3+1)))else some (.inr v3))
def wF(a0:U bX)(v1:Int)(w1:Int)(x3:bX):Stp (Int×(List ax)) (List ax)
 |(v5,v6)=>(bif decide (v5<(x3.column.length:Int))then(bp x3.column v5).bind λx4=>(bp a0 v1).bind λx5=>(bp a0 (i64.wrap (w1 -1))).bind λx6=>ck (bP v6.length v6.length (sub ([(ax.mk x5.x0 x4.from_ x6.x1 x4.to)]:U ax) 0 1).length 1 32)<|iL (v6++(sub ([(ax.mk x5.x0 x4.from_ x6.x1 x4.to)]:U ax) 0 1)) λr2=>ck (az r2.length r2.length)<|some (.inl ((i64.wrap (v5+1)),r2))else ck (az v6.length v6.length)<|some (.inr v6))
def wG(a0:U bX):Stp (Int×(List ax)) (List ax)
 |(v1,v2)=>(bif decide (v1<(a0.length:Int))then(iter (sJ n a0 v1) n (i64.wrap (v1+1))).bind λw1=>(bp a0 v1).bind λx3=>ck (az v2.length v2.length)<|(iter (wF a0 v1 w1 x3) n ((0:Int),v2)).bind λw2=>ck (az w2.length w2.length)<|some (.inl (w1,w2))else ck (az v2.length v2.length)<|some (.inr v2))
def Ig(a0:U bX):J (List ax):=
 ck (az 0 ([]:U ax).length)<|(iter (wG n a0) n ((0:Int),([]:U ax))).bind λw3=>ck (az (sub w3 0 w3.length).length w3.length)<|some (sub w3 0 w3.length)
def yS(a0:U ax):J ((List ax)×Int):=
 (bif decide ((a0.length:Int)>200)then some (([]:(List ax)),(6:Int))else some (a0,(0:Int)))
def NG(a0:U ax):Stp Int (Unit⊕((List ax)×Int))
 |v1=>(bif decide (v1<(a0.length:Int))then(bp a0 v1).bind λx1=>(nE x1).bind λr1=>(bif (!r1)then(some (([]:(List ax)),(1:Int))).map λa=> .inr (.inr a)else some (.inl (i64.wrap (v1+1))))else some (.inr (.inl ())))
def MT(a0:U ax):J ((List ax)×Int):=
 dw (iter (NG a0) n (0:Int)) λ()=>(bif decide ((a0.length:Int)>400)then some (([]:(List ax)),(6:Int))else ck (az (sub ([a0]:U (List ax)) 0 1).length 1)<|(ow n (sub ([a0]:U (List ax)) 0 1)).bind λr2=>ck (az (sub r2 0 r2.length).length r2.length)<|(Ig n (sub r2 0 r2.length)).bind λr3=>ck (az (sub r3 0 r3.length).length r3.length)<|(yS (sub r3 0 r3.length)).bind λr4=>some (r4.1,r4.2))
def Qa(a0:U ax)(a1:U ax):Stp Int (Unit⊕Bool)
 |v1=>(bif decide (v1<(a0.length:Int))then(bp a0 v1).bind λx1=>(bp a1 v1).bind λx2=>(bif (!((x1.x0==(x2.x0:Int))&&((x1.y0==(x2.y0:Int))&&((x1.x1==(x2.x1:Int))&&((x1.y1==(x2.y1:Int))&&true)))))then(some false).map λa=> .inr (.inr a)else some (.inl (i64.wrap (v1+1))))else some (.inr (.inl ())))
def oC(a0:U ax)(a1:U ax):J Bool:=
 (bif ((a0.length:Int) !=(a1.length:Int))then some false else dw (iter (Qa a0 a1) n (0:Int)) λ()=>some true)
def nV(a0:U ax):J Bool:=
 (MT n a0).bind λr1=>(bif (r1.2==0)then(oC n r1.1 a0).bind λr2=>some r2 else some false)
def Af(a0:U ax):Stp (Bool×Int×Int×Int×Int×Int) (Bool×Int×Int×Int×Int)
 |(v1,v2,v3,v4,v5,v6)=>(bif decide (v2<(a0.length:Int))then((bp a0 v2).bind λx1=>(nE x1).bind λr1=>(bif (!r1)then some (v1,v3,v4,v5,v6)else(bif (!v1)then some (true,x1.x0,x1.y0,x1.x1,x1.y1)else some (v1,(min v3 x1.x0),(min v4 x1.y0),(max v5 x1.x1),(max v6 x1.y1)))):J (Bool×Int×Int×Int×Int)).bind λ(v7,v8,v9,v10,v11)=>some (.inl (v7,(i64.wrap (v2+1)),v8,v9,v10,v11))else some (.inr (v1,v3,v4,v5,v6)))
def NH(a0:U ax):J (ax×Bool):=
 (iter (Af a0) n (false,(0:Int),(0:Int),(0:Int),(0:Int),(0:Int))).bind λ(w1,w2,w3,w4,w5)=>some ((ax.mk w2 w3 w4 w5),w1)
def CO(a0:U ax):J (ax×Bool):=
 ((bif ((a0.length:Int)==0)then some true else(nV n a0).bind λr1=>some (!r1))).bind λv1=>(bif v1 then some ((ax.mk 0 0 0 0),false)else(NH n a0).bind λr2=>some (r2.1,r2.2))
def sK(a0:ax):J (ax×Bool):=
 (nE a0).bind λr1=>(bif r1 then some (a0,true)else some ((ax.mk 0 0 0 0),false))
def NI(a0:ax)(a1:Int):J (ax×Bool):=
 ((nE a0).bind λr1=>(bif (!r1)then some true else some (decide (a1<0)))).bind λv1=>(bif v1 then some ((ax.mk 0 0 0 0),false)else(sK (ax.mk (i64.wrap (a0.x0+(min a1 (1048576:Int)))) (i64.wrap (a0.y0+(min a1 (1048576:Int)))) (i64.wrap (a0.x1 -(min a1 (1048576:Int)))) (i64.wrap (a0.y1 -(min a1 (1048576:Int)))))).bind λr2=>some (r2.1,r2.2))
def lD(a0:U bX)(a1:Int)(a2:(bX×Int×Unit)->J Int):Stp (Int×Int) Int
 |(v1,v2)=>(bif decide (v1<(v2:Int))then ck (decide (0<=1)&&decide (1<=IntKind.u64.bits))<|(bp a0 (i64.wrap ((IntKind.u64.wrap (i64.wrap (v1+v2)))/2 ^ (1:Int).toNat))).bind λx1=>(a2 (x1,a1,())).bind λr1=>(bif decide (r1<0)then some (.inl ((i64.wrap ((i64.wrap ((IntKind.u64.wrap (i64.wrap (v1+v2)))/2 ^ (1:Int).toNat))+1)),v2))else some (.inl (v1,(i64.wrap ((IntKind.u64.wrap (i64.wrap (v1+v2)))/2 ^ (1:Int).toNat)))))else some (.inr v1))
def jd(a0:U bX)(a1:Int)(a2:(bX×Int×Unit)->J Int):J (Int×Bool):=
 (iter (lD a0 a1 a2) n ((0:Int),(a0.length:Int))).bind λw1=>(bif decide (w1<(a0.length:Int))then(bp a0 w1).bind λx2=>(a2 (x2,a1,())).bind λr2=>some (w1,(r2==0))else some (w1,false))
def wH(a0:bX)(a1:Int):J Int:=
 (bif decide (a0.x1<=(a1:Int))then some ((-1):Int)else some (1:Int))
def WX(a0:U bX)(a1:Int):J (List aO):=
 (jd n a0 a1 (λ (y1:bX×Int×Unit)=>wH y1.1 y1.2.1)).bind λr1=>((bif decide (r1.1<(a0.length:Int))then(bp a0 r1.1).bind λx1=>some (decide (x1.x0<=(a1:Int)))else some false)).bind λv1=>(bif v1 then(bp a0 r1.1).bind λx2=>some x2.column else some ([]:(List aO)))
def NJ(a0:Unit)(a1:Int):J (List aO):=
 (bif decide (a1<0)then none else(bif (decide ((i64.wrap (a1 -(i64.wrap (0 -0))))>0))then ck (zH (i64.wrap (a1 -(i64.wrap (0 -0)))) 16)<|ck (A8 0 0 ((i64.wrap (a1 -(i64.wrap (0 -0)))).toNat))<|ck (az (sub (List.replicate (i64.wrap (a1 -(i64.wrap (0 -0)))).toNat (aO.mk 0 0)) 0 0).length 0)<|some (sub (List.replicate (i64.wrap (a1 -(i64.wrap (0 -0)))).toNat (aO.mk 0 0)) 0 0)else some ([]:(List aO))))
def NK(a0:U (List aO)):Stp (Int×Int) Int
 |(v1,v2)=>(bif decide (v2<(a0.length:Int))then(bp a0 v2).bind λx1=>(bif decide ((i64.wrap (v1+(x1.length:Int)))<0)then none else some (.inl ((i64.wrap (v1+(x1.length:Int))),(i64.wrap (v2+1)))))else some (.inr v1))
def NN(a0:U (List aO)):Stp (Int×(List aO)) (List aO)
 |(v3,v4)=>(bif decide (v3<(a0.length:Int))then(bp a0 v3).bind λx2=>ck (bP v4.length v4.length x2.length x2.length 16)<|iL (v4++x2) λr2=>ck (az r2.length r2.length)<|some (.inl ((i64.wrap (v3+1)),r2))else ck (az v4.length v4.length)<|some (.inr v4))
def yT(a0:U (List aO)):J (List aO):=
 (iter (NK a0) n ((0:Int),(0:Int))).bind λw1=>(NJ () w1).bind λr1=>ck (az r1.length r1.length)<|(iter (NN a0) n ((0:Int),r1)).bind λw2=>ck (az (sub w2 0 w2.length).length w2.length)<|some (sub w2 0 w2.length)
def mE(a0:U aO)(a1:Int)(a2:(aO×Int×Unit)->J Int):Stp (Int×Int) Int
 |(v1,v2)=>(bif decide (v1<(v2:Int))then ck (decide (0<=1)&&decide (1<=IntKind.u64.bits))<|(bp a0 (i64.wrap ((IntKind.u64.wrap (i64.wrap (v1+v2)))/2 ^ (1:Int).toNat))).bind λx1=>(a2 (x1,a1,())).bind λr1=>(bif decide (r1<0)then some (.inl ((i64.wrap ((i64.wrap ((IntKind.u64.wrap (i64.wrap (v1+v2)))/2 ^ (1:Int).toNat))+1)),v2))else some (.inl (v1,(i64.wrap ((IntKind.u64.wrap (i64.wrap (v1+v2)))/2 ^ (1:Int).toNat)))))else some (.inr v1))
def jy(a0:U aO)(a1:Int)(a2:(aO×Int×Unit)->J Int):J (Int×Bool):=
 (iter (mE a0 a1 a2) n ((0:Int),(a0.length:Int))).bind λw1=>(bif decide (w1<(a0.length:Int))then(bp a0 w1).bind λx2=>(a2 (x2,a1,())).bind λr2=>some (w1,(r2==0))else some (w1,false))
def lF(a0:aO)(a1:Int):J Int:=
 (bif decide (a0.to<=(a1:Int))then some ((-1):Int)else some (1:Int))
def CP(a0:U aO)(a1:Int):J Bool:=
 (jy n a0 a1 (λ (y1:aO×Int×Unit)=>lF y1.1 y1.2.1)).bind λr1=>(bif decide (r1.1<(a0.length:Int))then(bp a0 r1.1).bind λx1=>some (decide (x1.from_<=(a1:Int)))else some false)
def wI(r1:U aO):Stp (Int×(List Int)) (List Int)
 |(v1,v2)=>(bif decide (v1<(r1.length:Int))then ck (cC v1 r1.length)<|(bp r1 ((0:Nat)+v1:Int)).bind λx1=>ck (bP v2.length v2.length (sub ([x1.from_,x1.to]:U Int) 0 2).length 2 8)<|iL (v2++(sub ([x1.from_,x1.to]:U Int) 0 2)) λr2=>ck (az r2.length r2.length)<|some (.inl ((i64.wrap (v1+1)),r2))else ck (az v2.length v2.length)<|some (.inr v2))
def wJ(a0:U aO)(a1:U aO)(a2:(Bool×Bool×Unit)->J Bool)(r4:Unit×(List Int)):Stp (Int×(List aO)) (List aO)
 |(v3,v4)=>(bif decide (v3<(r4.2.length:Int))then(ck (cC (i64.wrap (v3 -1)) r4.2.length)<|(bp r4.2 ((0:Nat)+(i64.wrap (v3 -1)):Int)).bind λx2=>(CP n a0 x2).bind λr5=>(CP n a1 x2).bind λr6=>(a2 (r5,r6,())).bind λr7=>(bif (!r7)then ck (az v4.length v4.length)<|some v4 else((bif decide ((v4.length:Int)>0)then ck (cC (i64.wrap ((v4.length:Int) -1)) v4.length)<|(bp v4 ((0:Nat)+(i64.wrap ((v4.length:Int) -1)):Int)).bind λx3=>some (x3.to==(x2:Int))else some false)).bind λv5=>(bif v5 then ck (cC v3 r4.2.length)<|(bp r4.2 ((0:Nat)+v3:Int)).bind λx4=>ck (cC (i64.wrap ((v4.length:Int) -1)) v4.length)<|(bp v4 ((0:Nat)+(i64.wrap ((v4.length:Int) -1)):Int)).bind λx5=>ck (az v4.length (v4.set ((0:Nat)+(i64.wrap ((v4.length:Int) -1)):Int).toNat (aO.mk x5.from_ x4)).length)<|some (v4.set ((0:Nat)+(i64.wrap ((v4.length:Int) -1)):Int).toNat (aO.mk x5.from_ x4))else ck (cC v3 r4.2.length)<|(bp r4.2 ((0:Nat)+v3:Int)).bind λx6=>ck (bP v4.length v4.length (sub ([(aO.mk x2 x6)]:U aO) 0 1).length 1 16)<|iL (v4++(sub ([(aO.mk x2 x6)]:U aO) 0 1)) λr8=>ck (az r8.length r8.length)<|some r8)):J ((List aO))).bind λv6=>ck (az v6.length v6.length)<|some (.inl ((i64.wrap (v3+1)),v6))else ck (az v4.length v4.length)<|some (.inr v4))
def Ih(a0:U aO)(a1:U aO)(a2:(Bool×Bool×Unit)->J Bool):J (List aO):=
 ck (az (sub ([a0,a1]:U (List aO)) 0 2).length 2)<|(yT n (sub ([a0,a1]:U (List aO)) 0 2)).bind λr1=>ck (az 0 ([]:U Int).length)<|(iter (wI r1) n ((0:Int),([]:U Int))).bind λw1=>ck (az w1.length w1.length)<|(oV n w1).bind λr3=>ck (az w1.length r3.length)<|(oW n r3).bind λr4=>ck (az 0 ([]:U aO).length)<|(iter (wJ n a0 a1 a2 r4) n ((1:Int),([]:U aO))).bind λw2=>ck (az (sub w2 0 w2.length).length w2.length)<|some (sub w2 0 w2.length)
def qF(a2:(Bool×Bool×Unit)->J Bool)(r3:U bX)(r4:U bX)(r5:U bX):Stp (Int×(List bX)) (List bX)
 |(v2,v3)=>(bif decide (v2<(r5.length:Int))then ck (cC v2 r5.length)<|(bp v3 ((0:Nat)+v2:Int)).bind λx1=>(WX n (sub r3 0 r3.length) x1.x0).bind λr6=>(WX n (sub r4 0 r4.length) x1.x0).bind λr7=>(Ih n r6 r7 a2).bind λr8=>ck (cC v2 r5.length)<|ck (az (sub r8 0 r8.length).length r8.length)<|(bp v3 ((0:Nat)+v2:Int)).bind λx2=>some (.inl ((i64.wrap (v2+1)),(v3.set ((0:Nat)+v2:Int).toNat (bX.mk x2.x0 x2.x1 (sub r8 0 r8.length)))))else some (.inr v3))
def El(a0:U ax)(a1:U ax)(a2:(Bool×Bool×Unit)->J Bool):J ((List ax)×Int):=
 ((nV n a0).bind λr1=>(bif (!r1)then some true else(nV n a1).bind λr2=>some (!r2))).bind λv1=>(bif v1 then some (([]:(List ax)),(1:Int))else ck (az (sub ([a0]:U (List ax)) 0 1).length 1)<|(ow n (sub ([a0]:U (List ax)) 0 1)).bind λr3=>ck (az (sub ([a1]:U (List ax)) 0 1).length 1)<|(ow n (sub ([a1]:U (List ax)) 0 1)).bind λr4=>ck (az (sub r3 0 r3.length).length r3.length)<|ck (az (sub r4 0 r4.length).length r4.length)<|ck (az (sub ([a0,a1]:U (List ax)) 0 2).length 2)<|(ow n (sub ([a0,a1]:U (List ax)) 0 2)).bind λr5=>(iter (qF n a2 r3 r4 r5) n ((0:Int),r5)).bind λw1=>ck (az (sub w1 0 r5.length).length r5.length)<|(Ig n (sub w1 0 r5.length)).bind λr9=>ck (az (sub r9 0 r9.length).length r9.length)<|(yS (sub r9 0 r9.length)).bind λyp=>some (yp.1,yp.2))
def xK(a0:Bool)(a1:Bool):J Bool:=
 (bif a0 then some a1 else some false)
def CQ(a0:U ax)(a1:U ax):J ((List ax)×Int):=
 (El n a0 a1 (λ (y1:Bool×Bool×Unit)=>xK y1.1 y1.2.1)).bind λr1=>some (r1.1,r1.2)
def oZ(a0:ax):J Int:=
 (sK a0).bind λr1=>some (i64.wrap ((i64.wrap (r1.1.x1 -r1.1.x0))*(i64.wrap (r1.1.y1 -r1.1.y0))))
def Em(a0:U ax):Stp (Int×Int) Int
 |(v1,v2)=>(bif decide (v2<(a0.length:Int))then(bp a0 v2).bind λx1=>(oZ x1).bind λr2=>some (.inl ((i64.wrap (v1+r2)),(i64.wrap (v2+1))))else some (.inr v1))
def JH(a0:U ax):J Int:=
 (nV n a0).bind λr1=>(bif (!r1)then some (0:Int)else(iter (Em a0) n ((0:Int),(0:Int))).bind λw1=>some w1)
def nG(a0:bU)(a1:Int):J (ax×Bool):=
 (CO n a0.area).bind λr1=>((bif (!r1.2)then some true else(bif decide (a1<0)then some true else some (decide (a1>20))))).bind λv1=>(bif v1 then some ((ax.mk 0 0 0 0),false)else(NI r1.1 a1).bind λr2=>(bif (!r2.2)then some ((ax.mk 0 0 0 0),false)else ck (az (sub ([r2.1]:U ax) 0 1).length 1)<|(CQ n a0.area (sub ([r2.1]:U ax) 0 1)).bind λr3=>(bif (r3.2==0)then(JH n r3.1).bind λr4=>(oZ r2.1).bind λr5=>some (r2.1,(r4==(r5:Int)))else some (r2.1,false))))
def vJ(a0:U Int):Stp Int (Unit⊕Int)
 |v1=>(bif decide (v1<(a0.length:Int))then(bp a0 v1).bind λx1=>(bif (x1 !=0)then(some x1).map λa=> .inr (.inr a)else some (.inl (i64.wrap (v1+1))))else some (.inr (.inl ())))
def rR(a0:U Int):J Int:=
 dw (iter (vJ a0) n (0:Int)) λ()=>some (0:Int)
def vA:tD xx SI.j8 SI.eo:=⟨(λ x=>x.lot),(λ x=>x.use),(λ x=>x.floors),(λ x=>x.fW),(λ x=>x.a0),(λ x=>x.a1),λ_=>rfl,λ_=>rfl⟩
def aiy(a0:U aS)(a1:U (lC×Int)):J ((List aS)×(List (lC×Int))):=@mC xx SI.j8 SI.eo (inferInstance:Inhabited aS) vA a0 a1
def lG(x1:bU)(v6:Int):Stp (Int×(List aS)) (List aS)
 |(v9,v10)=>(bif decide (v9<72)then ck (6 !=0)<|ck (6 !=0)<|ck (bP v10.length v10.length (sub ([(aS.mk x1.id (Int.tmod v9 6) (i64.wrap ((i64.wrap (Int.tdiv v9 6))+1)) v6)]:U aS) 0 1).length 1 32)<|iL (v10++(sub ([(aS.mk x1.id (Int.tmod v9 6) (i64.wrap ((i64.wrap (Int.tdiv v9 6))+1)) v6)]:U aS) 0 1)) λr3=>ck (az r3.length r3.length)<|some (.inl ((i64.wrap (v9+1)),r3))else ck (az v10.length v10.length)<|some (.inr v10))
def lH(x1:bU):Stp (Int×(List (lC×Int))×(List aS)) ((List (lC×Int))×(List aS))
 |(v6,v7,v8)=>(bif decide (v6<21)then((nG n x1 v6).bind λr1=>(bif (!r1.2)then ck (az v8.length v8.length)<|some (v7,v8)else(oZ r1.1).bind λr2=>ck (az v8.length v8.length)<|(iter (lG x1 v6) n ((0:Int),v8)).bind λw1=>ck (az w1.length w1.length)<|some ((rP (Ho (X:=xx) SI.eo) (lC.mk x1.id v6) r2 v7),w1)):J ((List (lC×Int))×(List aS))).bind λ(v11,v12)=>ck (az v12.length v12.length)<|some (.inl ((i64.wrap (v6+1)),v11,v12))else ck (az v8.length v8.length)<|some (.inr (v7,v8)))
def lI(a0:U bU):Stp (Int×(List (lC×Int))×(List (Int×Bool))×(List aS)) ((List (lC×Int))×(List aS))
 |(v1,v2,v3,v4)=>(bif decide (v1<(a0.length:Int))then((bp a0 v1).bind λx1=>((bif ((fP ju x1.id v3).getD false)then some true else(bif decide (x1.id<0)then some true else some (decide (x1.id>1073741824))))).bind λv5=>(bif v5 then ck (az v4.length v4.length)<|some (v2,v3,v4)else ck (az v4.length v4.length)<|(iter (lH n x1) n ((0:Int),v2,v4)).bind λ(w2,w3)=>ck (az w3.length w3.length)<|some (w2,(rP ju x1.id true v3),w3)):J ((List (lC×Int))×(List (Int×Bool))×(List aS))).bind λ(v13,v14,v15)=>ck (az v15.length v15.length)<|some (.inl ((i64.wrap (v1+1)),v13,v14,v15))else ck (az v4.length v4.length)<|some (.inr (v2,v4)))
def o6(a0:U bU):J (List aS):=
 ck (az 0 ([]:U aS).length)<|(iter (lI n a0) n ((0:Int),([]:(List (lC×Int))),([]:(List (Int×Bool))),([]:U aS))).bind λ(w4,w5)=>ck (az w5.length w5.length)<|(aiy w5 w4).bind λr4=>ck (az (sub r4.1 0 w5.length).length w5.length)<|some (sub r4.1 0 w5.length)
def q9(a0:bU)(a1:aS):J Bool:=
 some (a0.id==(a1.lot:Int))
def J2(a0:U bU)(a1:(bU×Unit)->J Bool):Stp Int (Unit⊕Int)
 |v1=>(bif decide (v1<(a0.length:Int))then(bp a0 v1).bind λx1=>(a1 (x1,())).bind λr1=>(bif r1 then(some v1).map λa=> .inr (.inr a)else some (.inl (i64.wrap (v1+1))))else some (.inr (.inl ())))
def vg(a0:U bU)(a1:(bU×Unit)->J Bool):J Int:=
 dw (iter (J2 a0 a1) n (0:Int)) λ()=>some ((-1):Int)
def qG(a0:bU)(a1:aS):J (bg×Bool):=
 (nG n a0 a1.fW).bind λr1=>((bif (!r1.2)then some true else(bif (a1.lot !=(a0.id:Int))then some true else(bif decide (a1.lot<0)then some true else(bif decide (a1.lot>1073741824)then some true else(bif decide (a1.use<0)then some true else(bif decide (a1.use>=6)then some true else(bif decide (a1.floors<1)then some true else some (decide (a1.floors>12)))))))))).bind λv1=>(bif v1 then some ((bg.mk 0 ([])),false)else((bif (a1.use==0)then some (r1.1.x0,r1.1.y0,r1.1.x1,r1.1.y1,(0:Int),(i64.wrap (a1.floors*3)),a1.use,a1.floors,false)else some (r1.1.x0,r1.1.y0,r1.1.x1,r1.1.y1,(0:Int),(i64.wrap (a1.floors*3)),a1.use,(0:Int),false)):J (Int×Int×Int×Int×Int×Int×Int×Int×Bool)).bind λ(v2,v3,v4,v5,v6,v7,v8,v9,v10)=>ck (az (sub ([(aH.mk v2 v3 v4 v5 v6 v7 v8 v9 v10)]:U aH) 0 1).length 1)<|ck (az (sub ([(ql.mk (sub ([(aH.mk v2 v3 v4 v5 v6 v7 v8 v9 v10)]:U aH) 0 1) ([]))]:U ql) 0 1).length 1)<|some ((bg.mk a1.lot (sub ([(ql.mk (sub ([(aH.mk v2 v3 v4 v5 v6 v7 v8 v9 v10)]:U aH) 0 1) ([]))]:U ql) 0 1)),true))
def tV(a0:bT)(a1:aS):J (bg×Bool):=
 (vg n a0.land (λ (y1:bU×Unit)=>q9 y1.1 a1)).bind λr1=>(bif decide (r1<0)then some ((bg.mk 0 ([])),false)else(bp a0.land r1).bind λx1=>(qG n x1 a1).bind λr2=>some (r2.1,r2.2))
def pU(a0:bT)(r1:U aS):Stp (Int×(List sI)) (List sI)
 |(v1,v2)=>(bif decide (v1<(r1.length:Int))then(ck (cC v1 r1.length)<|(bp r1 ((0:Nat)+v1:Int)).bind λx1=>(tV n a0 x1).bind λr2=>(bif r2.2 then ck (bP v2.length v2.length (sub ([(sI.mk x1.lot x1.use x1.floors x1.fW r2.1.lot r2.1.phases)]:U sI) 0 1).length 1 64)<|iL (v2++(sub ([(sI.mk x1.lot x1.use x1.floors x1.fW r2.1.lot r2.1.phases)]:U sI) 0 1)) λr3=>ck (az r3.length r3.length)<|some r3 else ck (az v2.length v2.length)<|some v2):J ((List sI))).bind λv3=>ck (az v3.length v3.length)<|some (.inl ((i64.wrap (v1+1)),v3))else ck (az v2.length v2.length)<|some (.inr v2))
def qH(a0:bT):J (List sI):=
 (o6 n a0.land).bind λr1=>ck (az 0 ([]:U sI).length)<|(iter (pU n a0 r1) n ((0:Int),([]:U sI))).bind λw1=>ck (az (sub w1 0 w1.length).length w1.length)<|some (sub w1 0 w1.length)
def witness_under(a0:bT)(a1:bq):J bT:=
 some (bT.mk a1.defs a1.tables a1.zones a1.rules a1.caps a1.views a1.nr a1.hours a0.land a0.bz a0.windows a0.built a0.base)
def Bd(a0:U ax):J (List ax):=
 (bif a0.isEmpty then(both (some ([]:(List ax))) (ck (bP ([]:U ax).length 0 a0.length a0.length 32)<|iL (([]:U ax)++a0) λr1=>ck (az (sub r1 0 r1.length).length r1.length)<|some (sub r1 0 r1.length)))else ck (bP ([]:U ax).length 0 a0.length a0.length 32)<|iL (([]:U ax)++a0) λr2=>ck (az (sub r2 0 r2.length).length r2.length)<|some (sub r2 0 r2.length))
def En(a0:U Int):J (List Int):=
 (bif a0.isEmpty then(both (some ([]:(List Int))) (ck (bP ([]:U Int).length 0 a0.length a0.length 8)<|iL (([]:U Int)++a0) λr1=>ck (az (sub r1 0 r1.length).length r1.length)<|some (sub r1 0 r1.length)))else ck (bP ([]:U Int).length 0 a0.length a0.length 8)<|iL (([]:U Int)++a0) λr2=>ck (az (sub r2 0 r2.length).length r2.length)<|some (sub r2 0 r2.length))
def NP(a0:bU):J bU:=
 (Bd a0.area).bind λr1=>(En a0.from_).bind λr2=>ck (az (sub r1 0 r1.length).length r1.length)<|ck (az (sub r2 0 r2.length).length r2.length)<|some (bU.mk a0.id a0.owner (sub r1 0 r1.length) (sub r2 0 r2.length))
def Eo(a0:U bU)(a1:Int):Stp Int (Unit⊕(bU×Bool))
 |v1=>(bif decide (v1<(a0.length:Int))then(bp a0 v1).bind λx1=>(bif (x1.id==(a1:Int))then(NP x1).bind λr1=>(some (r1,true)).map λa=> .inr (.inr a)else some (.inl (i64.wrap (v1+1))))else some (.inr (.inl ())))
def NQ(a0:U bU)(a1:Int):J (bU×Bool):=
 dw (iter (Eo a0 a1) n (0:Int)) λ()=>some ((bU.mk 0 0 ([]) ([])),false)
def nH(a0:bg)(a1:Int)(a2:Int):Stp (Int×(List aH)) (List aH)
 |(v1,v2)=>(bif decide (v1<(a0.phases.length:Int))then((bp a0.phases v1).bind λx1=>((bif decide (v1>=(a1:Int))then some (decide (v1<(a2:Int)))else some false)).bind λv3=>(bif v3 then ck (bP v2.length v2.length x1.cy.length x1.cy.length 72)<|iL (v2++x1.cy) λr1=>ck (az r1.length r1.length)<|some r1 else ck (az v2.length v2.length)<|some v2):J ((List aH))).bind λv4=>ck (az v4.length v4.length)<|some (.inl ((i64.wrap (v1+1)),v4))else ck (az v2.length v2.length)<|some (.inr v2))
def nW(a0:bg)(a1:Int)(a2:Int):J (List aH):=
 ck (az 0 ([]:U aH).length)<|(iter (nH a0 a1 a2) n ((0:Int),([]:U aH))).bind λw1=>ck (az (sub w1 0 w1.length).length w1.length)<|some (sub w1 0 w1.length)
def wK(a0:bg):J (List aH):=
 (nW n a0 0 (a0.phases.length:Int)).bind λr1=>ck (az (sub r1 0 r1.length).length r1.length)<|some (sub r1 0 r1.length)
def gm(a0:aH):J Bool:=
 ((nE (ax.mk a0.bx a0.ci a0.bu a0.cg)).bind λr1=>(bif (!r1)then some true else(bif decide (a0.ev<0)then some true else(bif decide (a0.ev>=(a0.ec:Int))then some true else some (decide (a0.ec>4096)))))).bind λv1=>(bif v1 then some false else((bif (a0.use !=0)then some (a0.units !=0)else some false)).bind λv2=>(bif v2 then some false else(bif decide (a0.use>=0)then(bif decide (a0.use<6)then(bif decide (a0.units>=0)then some (decide (a0.units<=1048576))else some false)else some false)else some false)))
def sM(a0:ax)(a1:ax):J (ax×Bool):=
 ((nE a0).bind λr1=>(bif (!r1)then some true else(nE a1).bind λr2=>some (!r2))).bind λv1=>(bif v1 then some ((ax.mk 0 0 0 0),false)else(sK (ax.mk (max a0.x0 a1.x0) (max a0.y0 a1.y0) (min a0.x1 a1.x1) (min a0.y1 a1.y1))).bind λr3=>some (r3.1,r3.2))
def xL(a0:DH)(a1:DH):J Bool:=
 (sM (ax.mk a0.oR a0.oB a0.oE a0.oA) (ax.mk a1.oR a1.oB a1.oE a1.oA)).bind λr1=>(bif r1.2 then(bif decide (a0.z0<(a1.z1:Int))then some (decide (a1.z0<(a0.z1:Int)))else some false)else some false)
def rf(a0:aH)(a1:aH):J Bool:=
 (xL (DH.mk a1.bx a1.ci a1.bu a1.cg a1.ev a1.ec) (DH.mk a0.bx a0.ci a0.bu a0.cg a0.ev a0.ec)).bind λr1=>some r1
def Ep(a0:U aH)(a1:(aH×Unit)->J Bool):Stp Int (Unit⊕Int)
 |v1=>(bif decide (v1<(a0.length:Int))then(bp a0 v1).bind λx1=>(a1 (x1,())).bind λr1=>(bif r1 then(some v1).map λa=> .inr (.inr a)else some (.inl (i64.wrap (v1+1))))else some (.inr (.inl ())))
def qm(a0:U aH)(a1:(aH×Unit)->J Bool):J Int:=
 dw (iter (Ep a0 a1) n (0:Int)) λ()=>some ((-1):Int)
def fJ(a0:U aH)(a1:(aH×Unit)->J Bool):J Bool:=
 (qm n a0 a1).bind λr1=>some (decide (r1>=0))
def Er(a0:Int):J Bool:=
 (bif decide (a0>=97)then some (decide (a0<=122))else some false)
def Ag(a0:ByteArray)(a1:(Int×Unit)->J Bool):Stp Int Int
 |v1=>((bif decide (v1<(a0.size:Int))then(Rw a0 v1).bind λx1=>(a1 (x1,())).bind λr1=>some r1 else some false)).bind λv2=>(bif v2 then some (.inl (i64.wrap (v1+1)))else some (.inr v1))
def NR(a0:ByteArray)(a1:(Int×Unit)->J Bool):J Int:=
 (iter (Ag a0 a1) n (0:Int)).bind λw1=>some w1
def Qb(a0:Int):J Bool:=
 (bif decide (a0>=48)then some (decide (a0<=57))else some false)
def Ah(a0:Int):J Bool:=
 (Er a0).bind λr1=>(bif r1 then some true else(Qb a0).bind λr2=>some r2)
def NS(a0:ByteArray):J Bool:=
 ((bif (ByteArray.toList a0==ByteArray.toList (⟨#[]⟩))then some true else(Rw a0 0).bind λx1=>(Er x1).bind λr1=>(bif (!r1)then some true else some (decide ((a0.size:Int)>20))))).bind λv1=>(bif v1 then some false else(NR n a0 (λ (y1:Int×Unit)=>Ah y1.1)).bind λr2=>some (r2==(a0.size:Int)))
def strings_Contains(a0 a1:ByteArray):J Bool:=ck (Nat.ble a0.size 4000000)<|some (Lib.contains a0.data.toList a1.data.toList)
def wL(a0:ByteArray):J Bool:=
 (NS n a0).bind λr1=>(bif r1 then ck (Vy (⟨#[32]⟩) a0)<|ck (Vy ((⟨#[32]⟩)++a0) (⟨#[32]⟩))<|(strings_Contains (⟨#[32,97,110,100,32,97,112,97,114,116,32,98,97,115,101,32,99,97,112,32,100,101,102,105,110,101,32,101,108,115,101,32,101,120,99,101,112,116,32,102,114,111,109,32,103,114,97,99,101,32,104,111,117,114,115,32,105,102,32,105,110,32,108,101,97,115,116,32,110,111,116,32,111,114,32,111,118,101,114,108,97,121,32,112,108,97,110,101,32,114,117,108,101,32,115,108,111,112,101,32,115,117,110,32,116,97,98,108,101,32,116,104,101,110,32,117,110,116,105,108,32,117,115,101,115,32,118,97,114,121,32,118,105,101,119,32,122,111,110,101,32]⟩) (((⟨#[32]⟩)++a0)++(⟨#[32]⟩))).bind λr2=>some (!r2)else some false)
def kP(r1:U aH):Stp Int (Unit⊕Bool)
 |v2=>(bif decide (v2<(r1.length:Int))then ck (cC v2 r1.length)<|(bp r1 ((0:Nat)+v2:Int)).bind λx1=>((gm x1).bind λr2=>(bif (!r2)then some true else ck (A8 0 v2 r1.length)<|ck (az (sub r1 0 ((v2:Int).toNat)).length ((v2:Int).toNat))<|(fJ n (sub r1 0 ((v2:Int).toNat)) (λ (y1:aH×Unit)=>rf y1.1 x1)).bind λr3=>some r3)).bind λv3=>(bif v3 then(some false).map λa=> .inr (.inr a)else some (.inl (i64.wrap (v2+1))))else some (.inr (.inl ())))
def kQ(x2:ql):Stp (Int×(List (ByteArray×Bool))) (Unit⊕(Int⊕(Unit⊕Bool)))
 |(v5,v6)=>(bif decide (v5<(x2.gives.length:Int))then(bp x2.gives v5).bind λx3=>((bif ((fP ll x3.name v6).getD false)then some true else(wL n x3.name).bind λr4=>(bif (!r4)then some true else(bif decide (x3.n<0)then some true else some (decide (x3.n>1073741824)))))).bind λv7=>(bif v7 then((some false).map λa=> .inr (.inr a)).map λa=> .inr (.inr a)else some (.inl ((i64.wrap (v5+1)),(rP ll x3.name true v6))))else some (.inr (.inl ())))
def kR(a0:bg):Stp Int (Unit⊕Bool)
 |v4=>(bif decide (v4<(a0.phases.length:Int))then(bp a0.phases v4).bind λx2=>dw (iter (kQ n x2) n ((0:Int),([]:(List (ByteArray×Bool))))) λ()=>(bif decide ((x2.gives.length:Int)>30)then(some false).map λa=> .inr (.inr a)else some (.inl (i64.wrap (v4+1))))else some (.inr (.inl ())))
def xM(a0:bg):J Bool:=
 (wK n a0).bind λr1=>((bif decide (a0.lot<0)then some true else(bif decide (a0.lot>1073741824)then some true else(bif decide ((a0.phases.length:Int)<1)then some true else(bif decide ((a0.phases.length:Int)>8)then some true else(bif decide ((r1.length:Int)<1)then some true else some (decide ((r1.length:Int)>40)))))))).bind λv1=>(bif v1 then some false else dw (iter (kP n r1) n (0:Int)) λ()=>dw (iter (kR n a0) n (0:Int)) λ()=>some true)
def vk(a0:fZ)(a1:bR):J Bool:=
 some (ByteArray.toList a0.name==ByteArray.toList a1.name)
def J3(a0:U fZ)(a1:(fZ×Unit)->J Bool):Stp Int (Unit⊕Int)
 |v1=>(bif decide (v1<(a0.length:Int))then(bp a0 v1).bind λx1=>(a1 (x1,())).bind λr1=>(bif r1 then(some v1).map λa=> .inr (.inr a)else some (.inl (i64.wrap (v1+1))))else some (.inr (.inl ())))
def vo(a0:U fZ)(a1:(fZ×Unit)->J Bool):J Int:=
 dw (iter (J3 a0 a1) n (0:Int)) λ()=>some ((-1):Int)
def mG(a0:U fZ)(a1:(fZ×Unit)->J Bool):J Bool:=
 (vo n a0 a1).bind λr1=>some (decide (r1>=0))
def jZ(a1:bU)(r3:U aH):Stp Int (Unit⊕Bool)
 |v2=>(bif decide (v2<(r3.length:Int))then ck (cC v2 r3.length)<|(bp r3 ((0:Nat)+v2:Int)).bind λx1=>ck (az (sub ([(ax.mk x1.bx x1.ci x1.bu x1.cg)]:U ax) 0 1).length 1)<|(CQ n a1.area (sub ([(ax.mk x1.bx x1.ci x1.bu x1.cg)]:U ax) 0 1)).bind λr4=>((bif (r4.2 !=0)then some true else(JH n r4.1).bind λr5=>(oZ (ax.mk x1.bx x1.ci x1.bu x1.cg)).bind λr6=>some (decide (r5<(r6:Int))))).bind λv3=>(bif v3 then(some false).map λa=> .inr (.inr a)else some (.inl (i64.wrap (v2+1))))else some (.inr (.inl ())))
def fK(a0:bq)(x2:ql):Stp Int (Unit⊕(Int⊕(Unit⊕Bool)))
 |v5=>(bif decide (v5<(x2.gives.length:Int))then(bp x2.gives v5).bind λx3=>(mG n a0.caps (λ (y1:fZ×Unit)=>vk y1.1 x3)).bind λr7=>(bif (!r7)then((some false).map λa=> .inr (.inr a)).map λa=> .inr (.inr a)else some (.inl (i64.wrap (v5+1))))else some (.inr (.inl ())))
def fM(a0:bq)(a2:bg):Stp Int (Unit⊕Bool)
 |v4=>(bif decide (v4<(a2.phases.length:Int))then(bp a2.phases v4).bind λx2=>dw (iter (fK n a0 x2) n (0:Int)) λ()=>some (.inl (i64.wrap (v4+1)))else some (.inr (.inl ())))
def iY(a0:bq)(a1:bU)(a2:bg):J Bool:=
 ((xM n a2).bind λr1=>(bif (!r1)then some true else(bif (a1.id !=(a2.lot:Int))then some true else(nV n a1.area).bind λr2=>some (!r2)))).bind λv1=>(bif v1 then some false else(wK n a2).bind λr3=>dw (iter (jZ n a1 r3) n (0:Int)) λ()=>dw (iter (fM n a0 a2) n (0:Int)) λ()=>some true)
def oJ(a0:bg):Stp (Int×(List aH)) (List aH)
 |(v1,v2)=>(bif decide (v1<(a0.phases.length:Int))then(bp a0.phases v1).bind λx1=>ck (bP v2.length v2.length x1.cy.length x1.cy.length 72)<|iL (v2++x1.cy) λr1=>ck (az r1.length r1.length)<|some (.inl ((i64.wrap (v1+1)),r1))else ck (az v2.length v2.length)<|some (.inr v2))
def tX(a0:bg):J (List aH):=
 ck (az 0 ([]:U aH).length)<|(iter (oJ a0) n ((0:Int),([]:U aH))).bind λw1=>ck (az (sub w1 0 w1.length).length w1.length)<|some (sub w1 0 w1.length)
def oK(a0:U dS):Stp (Int×(List jC)) (List jC)
 |(v1,v2)=>(bif decide (v1<(a0.length:Int))then(bp a0 v1).bind λx1=>ck ((a0.length:Int) !=0)<|(bp a0 (Int.tmod (i64.wrap (v1+1)) (a0.length:Int))).bind λx2=>ck (cC v1 ((a0.length:Int).toNat))<|(bp v2 ((0:Nat)+v1:Int)).bind λx3=>some (.inl ((i64.wrap (v1+1)),(v2.set ((0:Nat)+v1:Int).toNat (jC.mk x1.x x1.y x2.x x2.y))))else some (.inr v2))
def o7(a0:U dS):J (List jC):=
 ck (decide ((a0.length:Int)<=(a0.length:Int))&&(decide (0<=(a0.length:Int))&&zH (a0.length:Int) 32))<|(iter (oK a0) n ((0:Int),(List.replicate (a0.length:Int).toNat (jC.mk 0 0 0 0)))).bind λw1=>ck (az (sub w1 0 ((a0.length:Int).toNat)).length ((a0.length:Int).toNat))<|some (sub w1 0 ((a0.length:Int).toNat))
def tY(a0:dS):J Bool:=
 (bif decide (0<=(a0.x:Int))then(bif decide (a0.x<=1048576)then(bif decide (0<=(a0.y:Int))then some (decide (a0.y<=1048576))else some false)else some false)else some false)
def gK(a0:jC):J Bool:=
 some (a0.lz==(a0.mi:Int))
def rq(a0:dS)(a1:dS):J Int:=
 (cmp_Compare_int a0.x a1.x).bind λr1=>(cmp_Compare_int a0.y a1.y).bind λr2=>ck (az (sub ([r1,r2]:U Int) 0 2).length 2)<|(rR n (sub ([r1,r2]:U Int) 0 2)).bind λr3=>some r3
def lJ(a0:jC)(a1:jC):J Bool:=
 (bif decide ((max (min a0.lz a0.mi) (min a1.lz a1.mi))<=((min (max a0.lz a0.mi) (max a1.lz a1.mi)):Int))then some (decide ((max (min a0.pD a0.t8) (min a1.pD a1.t8))<=((min (max a0.pD a0.t8) (max a1.pD a1.t8)):Int)))else some false)
def pV(a0:U dS)(r1:U jC):Stp Int (Unit⊕Bool)
 |v2=>(bif decide (v2<(r1.length:Int))then ck (cC v2 r1.length)<|(bp r1 ((0:Nat)+v2:Int)).bind λx1=>ck ((r1.length:Int) !=0)<|ck (cC (Int.tmod (i64.wrap (v2+1)) (r1.length:Int)) r1.length)<|(bp r1 ((0:Nat)+(Int.tmod (i64.wrap (v2+1)) (r1.length:Int)):Int)).bind λx2=>((tY (dS.mk x1.lz x1.pD)).bind λr2=>(bif (!r2)then some true else(bif ((x1.lz==(x1.mi:Int))==(x1.pD==(x1.t8:Int)))then some true else(gK x1).bind λr3=>(gK x2).bind λr4=>some (r3==r4)))).bind λv3=>(bif v3 then(some false).map λa=> .inr (.inr a)else((bif decide (v2>0)then(bp a0 0).bind λx3=>(bp a0 v2).bind λx4=>(rq n x3 x4).bind λr5=>some (decide (r5>=0))else some false)).bind λv4=>(bif v4 then(some false).map λa=> .inr (.inr a)else some (.inl (i64.wrap (v2+1)))))else some (.inr (.inl ())))
def iV(r1:U jC)(v5:Int):Stp Int (Unit⊕(Int⊕(Unit⊕Bool)))
 |v6=>(bif decide (v6<(r1.length:Int))then((bif (decide ((i64.wrap ((i64.wrap (v5+(r1.length:Int))) -v6))>1))then ck (cC v5 r1.length)<|(bp r1 ((0:Nat)+v5:Int)).bind λx5=>ck (cC v6 r1.length)<|(bp r1 ((0:Nat)+v6:Int)).bind λx6=>(lJ x5 x6).bind λr6=>some r6 else some false)).bind λv7=>(bif v7 then((some false).map λa=> .inr (.inr a)).map λa=> .inr (.inr a)else some (.inl (i64.wrap (v6+1))))else some (.inr (.inl ())))
def pW(r1:U jC):Stp Int (Unit⊕Bool)
 |v5=>(bif decide (v5<(r1.length:Int))then dw (iter (iV r1 v5) n (i64.wrap (v5+2))) λ()=>some (.inl (i64.wrap (v5+1)))else some (.inr (.inl ())))
def vK(a0:U dS):J Bool:=
 ((bif decide ((a0.length:Int)<4)then some true else some (decide ((a0.length:Int)>60)))).bind λv1=>(bif v1 then some false else(o7 n a0).bind λr1=>dw (iter (pV n a0 r1) n (0:Int)) λ()=>dw (iter (pW n r1) n (0:Int)) λ()=>ck (cC 0 r1.length)<|(bp r1 ((0:Nat)+0:Int)).bind λx7=>(gK x7).bind λr7=>some (!r7))
def lK(a0:U dS):Stp (Int×(List Int)) (List Int)
 |(v1,v2)=>(bif decide (v1<(a0.length:Int))then(bp a0 v1).bind λx1=>ck (bP v2.length v2.length (sub ([x1.x]:U Int) 0 1).length 1 8)<|iL (v2++(sub ([x1.x]:U Int) 0 1)) λr2=>ck (az r2.length r2.length)<|some (.inl ((i64.wrap (v1+1)),r2))else ck (az v2.length v2.length)<|some (.inr v2))
def lM(r4:Unit×(List Int))(r5:U jC)(v3:Int):Stp (Int×(List Int)) (List Int)
 |(v5,v6)=>(bif decide (v5<(r5.length:Int))then(ck (cC v5 r5.length)<|(bp r5 ((0:Nat)+v5:Int)).bind λx2=>((gK x2).bind λr6=>(bif (!r6)then ck (cC v3 r4.2.length)<|(bp r4.2 ((0:Nat)+v3:Int)).bind λx3=>(bif decide ((min x2.lz x2.mi)<=(x3:Int))then ck (cC v3 r4.2.length)<|(bp r4.2 ((0:Nat)+v3:Int)).bind λx4=>some (decide (x4<((max x2.lz x2.mi):Int)))else some false)else some false)).bind λv7=>(bif v7 then ck (bP v6.length v6.length (sub ([x2.pD]:U Int) 0 1).length 1 8)<|iL (v6++(sub ([x2.pD]:U Int) 0 1)) λr7=>ck (az r7.length r7.length)<|some r7 else ck (az v6.length v6.length)<|some v6):J ((List Int))).bind λv8=>ck (az v8.length v8.length)<|some (.inl ((i64.wrap (v5+1)),v8))else ck (az v6.length v6.length)<|some (.inr v6))
def jm(r4:Unit×(List Int))(v3:Int)(w2:U Int)(r8:U Int):Stp (Int×(List ax)) (List ax)
 |(v9,v10)=>(bif decide ((i64.wrap (v9+1))<(w2.length:Int))then ck (cC v3 r4.2.length)<|(bp r4.2 ((0:Nat)+v3:Int)).bind λx5=>ck (cC v9 w2.length)<|(bp r8 ((0:Nat)+v9:Int)).bind λx6=>ck (cC (i64.wrap (v3+1)) r4.2.length)<|(bp r4.2 ((0:Nat)+(i64.wrap (v3+1)):Int)).bind λx7=>ck (cC (i64.wrap (v9+1)) w2.length)<|(bp r8 ((0:Nat)+(i64.wrap (v9+1)):Int)).bind λx8=>ck (bP v10.length v10.length (sub ([(ax.mk x5 x6 x7 x8)]:U ax) 0 1).length 1 32)<|iL (v10++(sub ([(ax.mk x5 x6 x7 x8)]:U ax) 0 1)) λr9=>ck (az r9.length r9.length)<|some (.inl ((i64.wrap (v9+2)),r9))else ck (az v10.length v10.length)<|some (.inr v10))
def lN(r4:Unit×(List Int))(r5:U jC):Stp (Int×(List ax)) (List ax)
 |(v3,v4)=>(bif (decide (v3<((i64.wrap ((r4.2.length:Int) -1)):Int)))then ck (az 0 ([]:U Int).length)<|(iter (lM r4 r5 v3) n ((0:Int),([]:U Int))).bind λw2=>ck (az w2.length w2.length)<|(oV n w2).bind λr8=>ck (az v4.length v4.length)<|(iter (jm r4 v3 w2 r8) n ((0:Int),v4)).bind λw3=>ck (az w3.length w3.length)<|some (.inl ((i64.wrap (v3+1)),w3))else ck (az v4.length v4.length)<|some (.inr v4))
def tZ(a0:U dS):J ((List ax)×Int):=
 (vK n a0).bind λr1=>(bif (!r1)then some (([]:(List ax)),(10:Int))else ck (az 0 ([]:U Int).length)<|(iter (lK a0) n ((0:Int),([]:U Int))).bind λw1=>ck (az w1.length w1.length)<|(oV n w1).bind λr3=>ck (az w1.length r3.length)<|(oW n r3).bind λr4=>(o7 n a0).bind λr5=>ck (az 0 ([]:U ax).length)<|(iter (lN n r4 r5) n ((0:Int),([]:U ax))).bind λw4=>(bif decide ((w4.length:Int)>200)then some (([]:(List ax)),(6:Int))else ck (az (sub w4 0 w4.length).length w4.length)<|some ((sub w4 0 w4.length),(0:Int))))
def xN(a0:dN):J (List ax):=
 (tZ n a0.corners).bind λr1=>(bif (r1.2 !=0)then some ([]:(List ax))else ck (az (sub r1.1 0 r1.1.length).length r1.1.length)<|some (sub r1.1 0 r1.1.length))
def pX(a1:U ax)(x1:ax):Stp (Int×Int×Int×Int) (Int×Int×Int)
 |(v5,v6,v7,v8)=>(bif decide (v6<(a1.length:Int))then((bp a1 v6).bind λx2=>(sM x1 x2).bind λr1=>(bif (!r1.2)then some (v5,v7,v8)else(oZ r1.1).bind λr2=>(cmp_Compare_int r1.1.x0 v7).bind λr3=>(cmp_Compare_int r1.1.y0 v8).bind λr4=>ck (az (sub ([r3,r4]:U Int) 0 2).length 2)<|(rR n (sub ([r3,r4]:U Int) 0 2)).bind λr5=>(bif decide (r5<0)then some ((i64.wrap (v5+r2)),r1.1.x0,r1.1.y0)else some ((i64.wrap (v5+r2)),v7,v8))):J (Int×Int×Int)).bind λ(v9,v10,v11)=>some (.inl (v9,(i64.wrap (v6+1)),v10,v11))else some (.inr (v5,v7,v8)))
def pY(a0:U ax)(a1:U ax):Stp (Int×Int×Int×Int) (Int×Int×Int)
 |(v1,v2,v3,v4)=>(bif decide (v2<(a0.length:Int))then(bp a0 v2).bind λx1=>(iter (pX n a1 x1) n (v1,(0:Int),v3,v4)).bind λ(w1,w2,w3)=>some (.inl (w1,(i64.wrap (v2+1)),w2,w3))else some (.inr (v1,v3,v4)))
def vL(a0:U ax)(a1:U ax):J (Int×dS):=
 (iter (pY n a0 a1) n ((0:Int),(0:Int),(1048576:Int),(0:Int))).bind λ(w4,w5,w6)=>some (w4,(dS.mk w5 w6))
def p8(a0:bq)(a1:U ax):Stp (Int×(List Int)) (List Int)
 |(v1,v2)=>(bif decide (v1<(a0.zones.length:Int))then(bp a0.zones v1).bind λx1=>(xN n x1).bind λr2=>ck (az (sub r2 0 r2.length).length r2.length)<|(vL n a1 (sub r2 0 r2.length)).bind λr3=>ck (bP v2.length v2.length (sub ([r3.1]:U Int) 0 1).length 1 8)<|iL (v2++(sub ([r3.1]:U Int) 0 1)) λr4=>ck (az r4.length r4.length)<|some (.inl ((i64.wrap (v1+1)),r4))else ck (az v2.length v2.length)<|some (.inr v2))
def vM(a0:bq)(a1:U ax):J (List Int):=
 (nV n a1).bind λr1=>(bif (!r1)then some ([]:(List Int))else ck (az 0 ([]:U Int).length)<|(iter (p8 n a0 a1) n ((0:Int),([]:U Int))).bind λw1=>ck (az (sub w1 0 w1.length).length w1.length)<|some (sub w1 0 w1.length))
def p9(a0:bq)(r1:U Int):Stp (Int×Int) Int
 |(v1,v2)=>(bif decide (v2<(r1.length:Int))then(ck (cC v2 r1.length)<|(bp r1 ((0:Nat)+v2:Int)).bind λx1=>((bp a0.zones v2).bind λx2=>(bif (!x2.overlay)then(bif decide (x1>0)then(bif decide (v1<0)then some true else ck (cC v1 r1.length)<|(bp r1 ((0:Nat)+v1:Int)).bind λx3=>some (decide (x1>(x3:Int))))else some false)else some false)).bind λv3=>(bif v3 then some v2 else some v1):J Int).bind λv4=>some (.inl (v4,(i64.wrap (v2+1))))else some (.inr v1))
def xO(a0:bq)(r1:U Int)(w1:Int):Stp (Int×(List ByteArray)) (List ByteArray)
 |(v5,v6)=>(bif decide (v5<(r1.length:Int))then(ck (cC v5 r1.length)<|(bp r1 ((0:Nat)+v5:Int)).bind λx4=>((bif (v5==(w1:Int))then some true else(bp a0.zones v5).bind λx5=>(bif x5.overlay then some (decide (x4>0))else some false))).bind λv7=>(bif v7 then(bp a0.zones v5).bind λx6=>ck (bP v6.length v6.length (sub ([x6.name]:U ByteArray) 0 1).length 1 16)<|iL (v6++(sub ([x6.name]:U ByteArray) 0 1)) λr2=>ck (az r2.length r2.length)<|some r2 else ck (az v6.length v6.length)<|some v6):J ((List ByteArray))).bind λv8=>ck (az v8.length v8.length)<|some (.inl ((i64.wrap (v5+1)),v8))else ck (az v6.length v6.length)<|some (.inr v6))
def CR(a0:bq)(a1:U ax):J (List ByteArray):=
 (vM n a0 a1).bind λr1=>(iter (p9 a0 r1) n (((-1):Int),(0:Int))).bind λw1=>ck (az 0 ([]:U ByteArray).length)<|(iter (xO a0 r1 w1) n ((0:Int),([]:U ByteArray))).bind λw2=>ck (az (sub w2 0 w2.length).length w2.length)<|some (sub w2 0 w2.length)
def Ai(a0:bT)(a1:bg):J (l6×Int):=
 (NQ n a0.land a1.lot).bind λr1=>(bif (!r1.2)then some ((l6.mk ([]) ([]) ([]) ([]) ([]) ([]) ([]) 0 ([]) ([]) ([]) ([]) ([]) 0 0 ([]) ([]) 0 ([]) ([]) ([])),(4:Int))else(iY n (bq.mk a0.cj a0.ca a0.b8 a0.bj a0.cw a0.cm a0.cD a0.co) r1.1 a1).bind λr2=>(bif (!r2)then some ((l6.mk ([]) ([]) ([]) ([]) ([]) ([]) ([]) 0 ([]) ([]) ([]) ([]) ([]) 0 0 ([]) ([]) 0 ([]) ([]) ([])),(1:Int))else(tX n a1).bind λr3=>(CR n (bq.mk a0.cj a0.ca a0.b8 a0.bj a0.cw a0.cm a0.cD a0.co) r1.1.area).bind λr4=>ck (az (sub r3 0 r3.length).length r3.length)<|ck (az (sub r4 0 r4.length).length r4.length)<|some ((l6.mk a0.cj a0.ca a0.b8 a0.bj a0.cw a0.cm a0.cD a0.co a0.land a0.bz a0.windows a0.built a0.base r1.1.id r1.1.owner r1.1.area r1.1.from_ a1.lot a1.phases (sub r3 0 r3.length) (sub r4 0 r4.length)),(0:Int))))
def nI(a0:U ByteArray)(a1:ByteArray):Stp Int (Unit⊕Int)
 |v1=>(bif decide (v1<(a0.length:Int))then(bp a0 v1).bind λx1=>(bif (ByteArray.toList a1==ByteArray.toList x1)then(some v1).map λa=> .inr (.inr a)else some (.inl (i64.wrap (v1+1))))else some (.inr (.inl ())))
def ru(a0:U ByteArray)(a1:ByteArray):J Int:=
 dw (iter (nI a0 a1) n (0:Int)) λ()=>some ((-1):Int)
def fI(a0:U ByteArray)(a1:ByteArray):J Bool:=
 (ru n a0 a1).bind λr1=>some (decide (r1>=0))
def j3(a0:ByteArray)(a1:U ByteArray):J Bool:=
 (fI n a1 a0).bind λr1=>some r1
def Es(a0:U ByteArray)(a1:(ByteArray×Unit)->J Bool):Stp Int (Unit⊕Int)
 |v1=>(bif decide (v1<(a0.length:Int))then(bp a0 v1).bind λx1=>(a1 (x1,())).bind λr1=>(bif r1 then(some v1).map λa=> .inr (.inr a)else some (.inl (i64.wrap (v1+1))))else some (.inr (.inl ())))
def qo(a0:U ByteArray)(a1:(ByteArray×Unit)->J Bool):J Int:=
 dw (iter (Es a0 a1) n (0:Int)) λ()=>some ((-1):Int)
def fO(a0:U ByteArray)(a1:(ByteArray×Unit)->J Bool):J Bool:=
 (qo n a0 a1).bind λr1=>some (decide (r1>=0))
def qI(a0:bV)(a1:U ByteArray):J Bool:=
 (bif ((a0.zones.length:Int)==0)then(fO n a0.except (λ (y1:ByteArray×Unit)=>j3 n y1.1 a1)).bind λr1=>some (!r1)else(fO n a0.zones (λ (y2:ByteArray×Unit)=>j3 n y2.1 a1)).bind λr2=>(bif r2 then(fO n a0.except (λ (y3:ByteArray×Unit)=>j3 n y3.1 a1)).bind λr3=>some (!r3)else some false))
def rz(a0:bq)(a1:U ByteArray)(a2:Int):Stp (Int×(List Int)) (List Int)
 |(v1,v2)=>(bif decide (v1<(a0.rules.length:Int))then((bp a0.rules v1).bind λx1=>((bif decide (x1.from_<=(a2:Int))then(bif (x1.cM==0)then(qI n x1 a1).bind λr1=>some r1 else(bif decide (a2<(x1.cM:Int))then(qI n x1 a1).bind λr2=>some r2 else some false))else some false)).bind λv3=>(bif v3 then ck (bP v2.length v2.length (sub ([v1]:U Int) 0 1).length 1 8)<|iL (v2++(sub ([v1]:U Int) 0 1)) λr3=>ck (az r3.length r3.length)<|some r3 else ck (az v2.length v2.length)<|some v2):J ((List Int))).bind λv4=>ck (az v4.length v4.length)<|some (.inl ((i64.wrap (v1+1)),v4))else ck (az v2.length v2.length)<|some (.inr v2))
def uf(a0:bq)(a1:U ByteArray)(a2:Int):J (List Int):=
 ck (az 0 ([]:U Int).length)<|(iter (rz n a0 a1 a2) n ((0:Int),([]:U Int))).bind λw1=>ck (az (sub w1 0 w1.length).length w1.length)<|some (sub w1 0 w1.length)
def vv(_:Nat)(a0:U ax)(a1:(ax×ax×Unit)->J Int):J (List ax):=Ge a0 a1
def iP(a0:ax)(a1:ax):J Int:=
 (cmp_Compare_int a0.y0 a1.y0).bind λr1=>some r1
def kS(a0:aH):J Int:=
 ((bif a0.extra then some true else(gm a0).bind λr1=>some (!r1))).bind λv1=>(bif v1 then some (0:Int)else ck (3 !=0)<|some (i64.wrap (Int.tdiv (i64.wrap ((i64.wrap ((i64.wrap (a0.ec -a0.ev))+3)) -1)) 3)))
def oD(a0:aH):J Int:=
 (gm a0).bind λr1=>(bif (!r1)then some (0:Int)else(oZ (ax.mk a0.bx a0.ci a0.bu a0.cg)).bind λr2=>(kS a0).bind λr3=>some (i64.wrap (r2*r3)))
def nJ(a0:aH):J Int:=
 some a0.ec
def oI(a0:aH):J Int:=
 some a0.units
def Be(a0:ax)(a1:Int):J (ax×Bool):=
 (nE (ax.mk (i64.wrap (a0.x0 -a1)) (i64.wrap (a0.y0 -a1)) (i64.wrap (a0.x1+a1)) (i64.wrap (a0.y1+a1)))).bind λr1=>some ((ax.mk (i64.wrap (a0.x0 -a1)) (i64.wrap (a0.y0 -a1)) (i64.wrap (a0.x1+a1)) (i64.wrap (a0.y1+a1))),r1)
def ku(a0:bR)(a1:JF)(a2:Int):J Bool:=
 ck (cC a2 6)<|(bp ([a1.a0,a1.a1,a1.a2,a1.a3,a1.a4,a1.a5]:U ByteArray) a2).bind λx1=>some (ByteArray.toList a0.name==ByteArray.toList x1)
def FJ(a0:U bR)(a1:(bR×Unit)->J Bool):Stp Int (Unit⊕Int)
 |v1=>(bif decide (v1<(a0.length:Int))then(bp a0 v1).bind λx1=>(a1 (x1,())).bind λr1=>(bif r1 then(some v1).map λa=> .inr (.inr a)else some (.inl (i64.wrap (v1+1))))else some (.inr (.inl ())))
def kz(a0:U bR)(a1:(bR×Unit)->J Bool):J Int:=
 dw (iter (FJ a0 a1) n (0:Int)) λ()=>some ((-1):Int)
def kC(a0:bq)(a1:Int):Stp Int (Unit⊕Int)
 |v1=>(bif decide (v1<(a0.tables.length:Int))then(bp a0.tables v1).bind λx1=>(bif (!(ByteArray.toList x1.name==ByteArray.toList (⟨#[116,114,97,102,102,105,99]⟩)))then some (.inl (i64.wrap (v1+1)))else((kz n x1.rows (λ (y1:bR×Unit)=>ku y1.1 (JF.mk (⟨#[104,111,109,101]⟩) (⟨#[115,104,111,112]⟩) (⟨#[119,111,114,107]⟩) (⟨#[112,97,114,107]⟩) (⟨#[112,108,97,110,116]⟩) (⟨#[104,97,108,108]⟩)) a1)).bind λr1=>(bif decide (r1>=0)then(bp x1.rows r1).bind λx2=>some x2.n else some x1.sn):J Int).bind λv2=>(some (max (0:Int) (min v2 (1048576:Int)))).map λa=> .inr (.inr a))else some (.inr (.inl ())))
def Aj(a0:bq)(a1:Int):J Int:=
 dw (iter (kC n a0 a1) n (0:Int)) λ()=>some (0:Int)
def kT(a0:bq)(a1:aH):J Int:=
 (Aj n a0 a1.use).bind λr1=>(oD a1).bind λr2=>((bif decide (r1>0)then ck (r1 !=0)<|some (decide (r2>((i64.wrap (Int.tdiv 109951162777600 r1)):Int)))else some false)).bind λv1=>(bif v1 then some (1099511627776:Int)else ck (100 !=0)<|some (i64.wrap (Int.tdiv (i64.wrap ((i64.wrap ((i64.wrap (r1*r2))+100)) -1)) 100)))
def mH(a0:U fw)(a1:U cB)(a2:U dN)(a3:U bV)(a4:U fZ)(a5:U eU)(a6:U bW)(a7:Int)(a8:U ax)(a9:U aH):J (Int×gU):=
 (JH n a8).bind λr1=>ck (az a9.length a9.length)<|some (r1,a0,a1,a2,a3,a4,a5,a6,a7,a8,a9)
def gD(a9:U aH):Stp (Int×(List ax)×(List Int)) ((List ax)×(List Int))
 |(v1,v2,v3)=>(bif decide (v1<(a9.length:Int))then ck (cC v1 a9.length)<|(bp a9 ((0:Nat)+v1:Int)).bind λx1=>ck (cC v1 ((a9.length:Int).toNat))<|(bp v2 ((0:Nat)+v1:Int)).bind λx2=>ck (cC v1 ((a9.length:Int).toNat))<|(bp (v2.set ((0:Nat)+v1:Int).toNat (ax.mk x1.bx x1.ci x1.bu x1.cg)) ((0:Nat)+v1:Int)).bind λx3=>ck (cC v1 ((a9.length:Int).toNat))<|(bp (v2.set ((0:Nat)+v1:Int).toNat (ax.mk x1.bx x1.ci x1.bu x1.cg)) ((0:Nat)+v1:Int)).bind λx4=>ck (bP v3.length v3.length (sub ([x3.x0,x4.x1]:U Int) 0 2).length 2 8)<|iL (v3++(sub ([x3.x0,x4.x1]:U Int) 0 2)) λr1=>ck (az r1.length r1.length)<|some (.inl ((i64.wrap (v1+1)),(v2.set ((0:Nat)+v1:Int).toNat (ax.mk x1.bx x1.ci x1.bu x1.cg)),r1))else ck (az v3.length v3.length)<|some (.inr (v2,v3)))
def iZ(a9:U aH)(w2:U Int)(r2:U ax)(r3:U Int)(v5:Int):Stp (Int×Int×Int) Int
 |(v6,v7,v8)=>(bif (decide (v8<((((a9.length:Int).toNat:Nat):Int):Int)))then(ck (cC v8 ((a9.length:Int).toNat))<|(bp r2 ((0:Nat)+v8:Int)).bind λx5=>(ck (cC v5 w2.length)<|(bp r3 ((0:Nat)+v5:Int)).bind λx6=>(bif decide (x5.x0<=(x6:Int))then ck (cC v5 w2.length)<|(bp r3 ((0:Nat)+v5:Int)).bind λx7=>(bif decide (x7<(x5.x1:Int))then some (decide (x5.y1>(v7:Int)))else some false)else some false)).bind λv9=>(bif v9 then ck (cC (i64.wrap (v5+1)) w2.length)<|(bp r3 ((0:Nat)+(i64.wrap (v5+1)):Int)).bind λx8=>ck (cC v5 w2.length)<|(bp r3 ((0:Nat)+v5:Int)).bind λx9=>some ((i64.wrap (v6+(i64.wrap ((i64.wrap (x8 -x9))*(i64.wrap (x5.y1 -(max v7 x5.y0))))))),x5.y1)else some (v6,v7)):J (Int×Int)).bind λ(v10,v11)=>some (.inl (v10,v11,(i64.wrap (v8+1))))else some (.inr v6))
def ja(a9:U aH)(w2:U Int)(r2:U ax)(r3:U Int):Stp (Int×Int) Int
 |(v4,v5)=>(bif (decide (v5<((max (0:Int) (i64.wrap ((w2.length:Int) -1))):Int)))then(iter (iZ a9 w2 r2 r3 v5) n (v4,(0:Int),(0:Int))).bind λw3=>some (.inl (w3,(i64.wrap (v5+1))))else some (.inr v4))
def iQ(a0:U fw)(a1:U cB)(a2:U dN)(a3:U bV)(a4:U fZ)(a5:U eU)(a6:U bW)(a7:Int)(a8:U ax)(a9:U aH):J (Int×gU):=
 ck (decide ((a9.length:Int)<=(a9.length:Int))&&(decide (0<=(a9.length:Int))&&zH (a9.length:Int) 32))<|ck (az 0 ([]:U Int).length)<|(iter (gD a9) n ((0:Int),(List.replicate (a9.length:Int).toNat (ax.mk 0 0 0 0)),([]:U Int))).bind λ(w1,w2)=>ck (az ((a9.length:Int).toNat) w1.length)<|(vv n w1 (λ (y1:ax×ax×Unit)=>iP y1.1 y1.2.1)).bind λr2=>ck (az w2.length w2.length)<|(oV n w2).bind λr3=>(iter (ja n a9 w2 r2 r3) n ((0:Int),(0:Int))).bind λw4=>ck (az a9.length a9.length)<|some (w4,a0,a1,a2,a3,a4,a5,a6,a7,a8,a9)
def jI(a9:U aH):Stp (Int×Int) Int
 |(v1,v2)=>(bif decide (v2<(a9.length:Int))then ck (cC v2 a9.length)<|(bp a9 ((0:Nat)+v2:Int)).bind λx1=>(oD x1).bind λr1=>some (.inl ((i64.wrap (v1+r1)),(i64.wrap (v2+1))))else some (.inr v1))
def qp(a0:U fw)(a1:U cB)(a2:U dN)(a3:U bV)(a4:U fZ)(a5:U eU)(a6:U bW)(a7:Int)(a8:U ax)(a9:U aH):J (Int×gU):=
 (iter (jI a9) n ((0:Int),(0:Int))).bind λw1=>ck (az a9.length a9.length)<|some (w1,a0,a1,a2,a3,a4,a5,a6,a7,a8,a9)
def kF(a0:U fw)(a1:U cB)(a2:U dN)(a3:U bV)(a4:U fZ)(a5:U eU)(a6:U bW)(a7:Int)(a8:U ax)(a9:U aH):J (Int×gU):=
 ck (az a9.length a9.length)<|(qp n a0 a1 a2 a3 a4 a5 a6 a7 a8 a9).bind λr1=>ck (az r1.2.2.2.2.2.2.2.2.2.2.length r1.2.2.2.2.2.2.2.2.2.2.length)<|some (r1.1,r1.2.1,r1.2.2.1,r1.2.2.2.1,r1.2.2.2.2.1,r1.2.2.2.2.2.1,r1.2.2.2.2.2.2.1,r1.2.2.2.2.2.2.2.1,r1.2.2.2.2.2.2.2.2.1,r1.2.2.2.2.2.2.2.2.2.1,r1.2.2.2.2.2.2.2.2.2.2)
def gV(a9:U aH):Stp (Int×Int) Int
 |(v1,v2)=>(bif decide (v2<(a9.length:Int))then ck (cC v2 a9.length)<|(bp a9 ((0:Nat)+v2:Int)).bind λx1=>(kS x1).bind λr1=>some (.inl ((max v1 r1),(i64.wrap (v2+1))))else some (.inr v1))
def l7(a0:U fw)(a1:U cB)(a2:U dN)(a3:U bV)(a4:U fZ)(a5:U eU)(a6:U bW)(a7:Int)(a8:U ax)(a9:U aH):J (Int×gU):=
 (iter (gV a9) n ((0:Int),(0:Int))).bind λw1=>ck (az a9.length a9.length)<|some (w1,a0,a1,a2,a3,a4,a5,a6,a7,a8,a9)
def jJ(a0:U fw)(a1:U cB)(a2:U dN)(a3:U bV)(a4:U fZ)(a5:U eU)(a6:U bW)(a7:Int)(a8:U ax)(a9:U aH):J (Int×gU):=
 ck (az a9.length a9.length)<|(l7 n a0 a1 a2 a3 a4 a5 a6 a7 a8 a9).bind λr1=>ck (az r1.2.2.2.2.2.2.2.2.2.2.length r1.2.2.2.2.2.2.2.2.2.2.length)<|some (r1.1,r1.2.1,r1.2.2.1,r1.2.2.2.1,r1.2.2.2.2.1,r1.2.2.2.2.2.1,r1.2.2.2.2.2.2.1,r1.2.2.2.2.2.2.2.1,r1.2.2.2.2.2.2.2.2.1,r1.2.2.2.2.2.2.2.2.2.1,r1.2.2.2.2.2.2.2.2.2.2)
def gW(a9:U aH):Stp (Int×Int) Int
 |(v1,v2)=>(bif decide (v2<(a9.length:Int))then ck (cC v2 a9.length)<|(bp a9 ((0:Nat)+v2:Int)).bind λx1=>(nJ x1).bind λr1=>some (.inl ((max v1 r1),(i64.wrap (v2+1))))else some (.inr v1))
def l8(a0:U fw)(a1:U cB)(a2:U dN)(a3:U bV)(a4:U fZ)(a5:U eU)(a6:U bW)(a7:Int)(a8:U ax)(a9:U aH):J (Int×gU):=
 (iter (gW a9) n ((0:Int),(0:Int))).bind λw1=>ck (az a9.length a9.length)<|some (w1,a0,a1,a2,a3,a4,a5,a6,a7,a8,a9)
def jK(a0:U fw)(a1:U cB)(a2:U dN)(a3:U bV)(a4:U fZ)(a5:U eU)(a6:U bW)(a7:Int)(a8:U ax)(a9:U aH):J (Int×gU):=
 ck (az a9.length a9.length)<|(l8 n a0 a1 a2 a3 a4 a5 a6 a7 a8 a9).bind λr1=>ck (az r1.2.2.2.2.2.2.2.2.2.2.length r1.2.2.2.2.2.2.2.2.2.2.length)<|some (r1.1,r1.2.1,r1.2.2.1,r1.2.2.2.1,r1.2.2.2.2.1,r1.2.2.2.2.2.1,r1.2.2.2.2.2.2.1,r1.2.2.2.2.2.2.2.1,r1.2.2.2.2.2.2.2.2.1,r1.2.2.2.2.2.2.2.2.2.1,r1.2.2.2.2.2.2.2.2.2.2)
def jL(a9:U aH):Stp (Int×Int) Int
 |(v1,v2)=>(bif decide (v2<(a9.length:Int))then ck (cC v2 a9.length)<|(bp a9 ((0:Nat)+v2:Int)).bind λx1=>(oI x1).bind λr1=>some (.inl ((i64.wrap (v1+r1)),(i64.wrap (v2+1))))else some (.inr v1))
def qw(a0:U fw)(a1:U cB)(a2:U dN)(a3:U bV)(a4:U fZ)(a5:U eU)(a6:U bW)(a7:Int)(a8:U ax)(a9:U aH):J (Int×gU):=
 (iter (jL a9) n ((0:Int),(0:Int))).bind λw1=>ck (az a9.length a9.length)<|some (w1,a0,a1,a2,a3,a4,a5,a6,a7,a8,a9)
def kG(a0:U fw)(a1:U cB)(a2:U dN)(a3:U bV)(a4:U fZ)(a5:U eU)(a6:U bW)(a7:Int)(a8:U ax)(a9:U aH):J (Int×gU):=
 ck (az a9.length a9.length)<|(qw n a0 a1 a2 a3 a4 a5 a6 a7 a8 a9).bind λr1=>ck (az r1.2.2.2.2.2.2.2.2.2.2.length r1.2.2.2.2.2.2.2.2.2.2.length)<|some (r1.1,r1.2.1,r1.2.2.1,r1.2.2.2.1,r1.2.2.2.2.1,r1.2.2.2.2.2.1,r1.2.2.2.2.2.2.1,r1.2.2.2.2.2.2.2.1,r1.2.2.2.2.2.2.2.2.1,r1.2.2.2.2.2.2.2.2.2.1,r1.2.2.2.2.2.2.2.2.2.2)
def iJ(j7:U ax)(r1:ax×Bool):Stp (Int×Int) Int
 |(v1,v2)=>(bif decide (v2<(j7.length:Int))then((bp j7 v2).bind λx1=>(sM r1.1 x1).bind λr2=>(bif r2.2 then(oZ r2.1).bind λr3=>some (i64.wrap (v1+r3))else some v1):J Int).bind λv3=>some (.inl (v3,(i64.wrap (v2+1))))else some (.inr v1))
def jM(a0:ax)(a1:Int)(a2:U fw)(a3:U cB)(a4:U dN)(a5:U bV)(a6:U fZ)(a7:U eU)(a8:U bW)(a9:Int)(j7:U ax)(td:U aH):J (Bool×gU):=
 (Be a0 a1).bind λr1=>(bif (!r1.2)then ck (az td.length td.length)<|some (false,a2,a3,a4,a5,a6,a7,a8,a9,j7,td)else(iter (iJ j7 r1) n ((0:Int),(0:Int))).bind λw1=>(oZ r1.1).bind λr4=>ck (az td.length td.length)<|some ((w1==(r4:Int)),a2,a3,a4,a5,a6,a7,a8,a9,j7,td))
def eX(x1:aH):Stp (Int×Int×gU) (Int×gU)
 |(v13,v14,v15,v16,v17,v18,v19,v20,v21,v22,v23,v24)=>(bif decide (v13<(v14:Int))then ck (2 !=0)<|ck (az v24.length v24.length)<|(jM n (ax.mk x1.bx x1.ci x1.bu x1.cg) (i64.wrap (Int.tdiv (i64.wrap ((i64.wrap (v13+v14))+1)) 2)) v15 v16 v17 v18 v19 v20 v21 v22 v23 v24).bind λr1=>(bif r1.1 then ck (az r1.2.2.2.2.2.2.2.2.2.2.length r1.2.2.2.2.2.2.2.2.2.2.length)<|some (.inl ((i64.wrap (Int.tdiv (i64.wrap ((i64.wrap (v13+v14))+1)) 2)),v14,r1.2.1,r1.2.2.1,r1.2.2.2.1,r1.2.2.2.2.1,r1.2.2.2.2.2.1,r1.2.2.2.2.2.2.1,r1.2.2.2.2.2.2.2.1,r1.2.2.2.2.2.2.2.2.1,r1.2.2.2.2.2.2.2.2.2.1,r1.2.2.2.2.2.2.2.2.2.2))else ck (az r1.2.2.2.2.2.2.2.2.2.2.length r1.2.2.2.2.2.2.2.2.2.2.length)<|some (.inl (v13,(i64.wrap ((i64.wrap (Int.tdiv (i64.wrap ((i64.wrap (v13+v14))+1)) 2)) -1)),r1.2.1,r1.2.2.1,r1.2.2.2.1,r1.2.2.2.2.1,r1.2.2.2.2.2.1,r1.2.2.2.2.2.2.1,r1.2.2.2.2.2.2.2.1,r1.2.2.2.2.2.2.2.2.1,r1.2.2.2.2.2.2.2.2.2.1,r1.2.2.2.2.2.2.2.2.2.2)))else ck (az v24.length v24.length)<|some (.inr (v13,v15,v16,v17,v18,v19,v20,v21,v22,v23,v24)))
def iw(a9:U aH):Stp (Int×Int×gU) (Int×gU)
 |(v1,v2,v3,v4,v5,v6,v7,v8,v9,v10,v11,v12)=>(bif decide (v2<(a9.length:Int))then ck (cC v2 a9.length)<|(bp v12 ((0:Nat)+v2:Int)).bind λx1=>ck (az v12.length v12.length)<|(iter (eX n x1) n ((0:Int),v1,v3,v4,v5,v6,v7,v8,v9,v10,v11,v12)).bind λ(w1,w2,w3,w4,w5,w6,w7,w8,w9,wj,wi)=>ck (az wi.length wi.length)<|some (.inl (w1,(i64.wrap (v2+1)),w2,w3,w4,w5,w6,w7,w8,w9,wj,wi))else ck (az v12.length v12.length)<|some (.inr (v1,v3,v4,v5,v6,v7,v8,v9,v10,v11,v12)))
def jo(a0:U fw)(a1:U cB)(a2:U dN)(a3:U bV)(a4:U fZ)(a5:U eU)(a6:U bW)(a7:Int)(a8:U ax)(a9:U aH):J (Int×gU):=
 ck (az a9.length a9.length)<|(iter (iw n a9) n ((1048576:Int),(0:Int),a0,a1,a2,a3,a4,a5,a6,a7,a8,a9)).bind λ(PJ,PH,w14,w15,w16,w17,w18,w19,w20,w21,PF)=>ck (az PF.length PF.length)<|some (PJ,PH,w14,w15,w16,w17,w18,w19,w20,w21,PF)
def kD(a0:aH)(a1:U fw)(a2:U cB)(a3:U dN)(a4:U bV)(a5:U fZ)(a6:U eU)(a7:U bW)(a8:Int)(a9:U ax)(j7:U aH):J (Int×gU):=
 (kT n (bq.mk a1 a2 a3 a4 a5 a6 a7 a8) a0).bind λr1=>ck (az j7.length j7.length)<|some (r1,a1,a2,a3,a4,a5,a6,a7,a8,a9,j7)
def jN(a9:U aH):Stp (Int×Int×gU) (Int×gU)
 |(v1,v2,v3,v4,v5,v6,v7,v8,v9,v10,v11,v12)=>(bif decide (v2<(a9.length:Int))then ck (cC v2 a9.length)<|(bp v12 ((0:Nat)+v2:Int)).bind λx1=>ck (az v12.length v12.length)<|(kD n x1 v3 v4 v5 v6 v7 v8 v9 v10 v11 v12).bind λr1=>ck (az r1.2.2.2.2.2.2.2.2.2.2.length r1.2.2.2.2.2.2.2.2.2.2.length)<|some (.inl ((i64.wrap (v1+r1.1)),(i64.wrap (v2+1)),r1.2.1,r1.2.2.1,r1.2.2.2.1,r1.2.2.2.2.1,r1.2.2.2.2.2.1,r1.2.2.2.2.2.2.1,r1.2.2.2.2.2.2.2.1,r1.2.2.2.2.2.2.2.2.1,r1.2.2.2.2.2.2.2.2.2.1,r1.2.2.2.2.2.2.2.2.2.2))else ck (az v12.length v12.length)<|some (.inr (v1,v3,v4,v5,v6,v7,v8,v9,v10,v11,v12)))
def qx(a0:U fw)(a1:U cB)(a2:U dN)(a3:U bV)(a4:U fZ)(a5:U eU)(a6:U bW)(a7:Int)(a8:U ax)(a9:U aH):J (Int×gU):=
 ck (az a9.length a9.length)<|(iter (jN n a9) n ((0:Int),(0:Int),a0,a1,a2,a3,a4,a5,a6,a7,a8,a9)).bind λ(w1,w2,w3,w4,w5,w6,w7,w8,w9,wj,wi)=>ck (az wi.length wi.length)<|some (w1,w2,w3,w4,w5,w6,w7,w8,w9,wj,wi)
def jq(a0:U fw)(a1:U cB)(a2:U dN)(a3:U bV)(a4:U fZ)(a5:U eU)(a6:U bW)(a7:Int)(a8:U ax)(a9:U aH):J (Int×gU):=
 ck (az a9.length a9.length)<|(qx n a0 a1 a2 a3 a4 a5 a6 a7 a8 a9).bind λr1=>ck (az r1.2.2.2.2.2.2.2.2.2.2.length r1.2.2.2.2.2.2.2.2.2.2.length)<|some (r1.1,r1.2.1,r1.2.2.1,r1.2.2.2.1,r1.2.2.2.2.1,r1.2.2.2.2.2.1,r1.2.2.2.2.2.2.1,r1.2.2.2.2.2.2.2.1,r1.2.2.2.2.2.2.2.2.1,r1.2.2.2.2.2.2.2.2.2.1,r1.2.2.2.2.2.2.2.2.2.2)
def qJ(r2:U aH):Stp (Int×gU) (gU)
 |(v10,v11,v12,v13,v14,v15,v16,v17,v18,v19,v20)=>(bif decide (v10<(r2.length:Int))then(ck (cC v10 r2.length)<|(bp r2 ((0:Nat)+v10:Int)).bind λx1=>((bif decide (v10<40)then(gm x1).bind λr3=>some r3 else some false)).bind λv21=>(bif v21 then ck (bP v20.length v20.length (sub ([x1]:U aH) 0 1).length 1 72)<|iL (v20++(sub ([x1]:U aH) 0 1)) λr4=>ck (az r4.length r4.length)<|some (v11,v12,v13,v14,v15,v16,v17,v18,v19,r4)else ck (az v20.length v20.length)<|some (v11,v12,v13,v14,v15,v16,v17,v18,v19,v20)):J (gU)).bind λ(v22,v23,v24,v25,v26,v27,v28,v29,v30,v31)=>ck (az v31.length v31.length)<|some (.inl ((i64.wrap (v10+1)),v22,v23,v24,v25,v26,v27,v28,v29,v30,v31))else ck (az v20.length v20.length)<|some (.inr (v11,v12,v13,v14,v15,v16,v17,v18,v19,v20)))
def iW(a0:bq)(a1:bU)(a2:bg):J (List bR):=
 ((nV n a1.area).bind λr1=>(bif r1 then some (a0.defs,a0.tables,a0.zones,a0.rules,a0.caps,a0.views,a0.nr,a0.hours,a1.area)else some (a0.defs,a0.tables,a0.zones,a0.rules,a0.caps,a0.views,a0.nr,a0.hours,([]:(List ax)))):J ((List fw)×(List cB)×(List dN)×(List bV)×(List fZ)×(List eU)×(List bW)×Int×(List ax))).bind λ(v1,v2,v3,v4,v5,v6,v7,v8,v9)=>(nW n a2 0 (a2.phases.length:Int)).bind λr2=>ck (az 0 ([]:U aH).length)<|(iter (qJ r2) n ((0:Int),v1,v2,v3,v4,v5,v6,v7,v8,v9,([]:U aH))).bind λ(w1,w2,w3,w4,w5,w6,w7,w8,w9,wj)=>ck (az wj.length wj.length)<|(mH n w1 w2 w3 w4 w5 w6 w7 w8 w9 wj).bind λr5=>ck (bP 0 0 (sub ([(bR.mk (⟨#[97,114,101,97]⟩) r5.1)]:U bR) 0 1).length 1 24)<|iL ((sub ([(bR.mk (⟨#[97,114,101,97]⟩) r5.1)]:U bR) 0 1)) λr6=>ck (az r5.2.2.2.2.2.2.2.2.2.2.length r5.2.2.2.2.2.2.2.2.2.2.length)<|(iQ n r5.2.1 r5.2.2.1 r5.2.2.2.1 r5.2.2.2.2.1 r5.2.2.2.2.2.1 r5.2.2.2.2.2.2.1 r5.2.2.2.2.2.2.2.1 r5.2.2.2.2.2.2.2.2.1 r5.2.2.2.2.2.2.2.2.2.1 r5.2.2.2.2.2.2.2.2.2.2).bind λr7=>ck (bP r6.length r6.length (sub ([(bR.mk (⟨#[99,111,118,101,114]⟩) r7.1)]:U bR) 0 1).length 1 24)<|iL (r6++(sub ([(bR.mk (⟨#[99,111,118,101,114]⟩) r7.1)]:U bR) 0 1)) λr8=>ck (az r7.2.2.2.2.2.2.2.2.2.2.length r7.2.2.2.2.2.2.2.2.2.2.length)<|(kF n r7.2.1 r7.2.2.1 r7.2.2.2.1 r7.2.2.2.2.1 r7.2.2.2.2.2.1 r7.2.2.2.2.2.2.1 r7.2.2.2.2.2.2.2.1 r7.2.2.2.2.2.2.2.2.1 r7.2.2.2.2.2.2.2.2.2.1 r7.2.2.2.2.2.2.2.2.2.2).bind λr9=>ck (bP r8.length r8.length (sub ([(bR.mk (⟨#[102,108,111,111,114]⟩) r9.1)]:U bR) 0 1).length 1 24)<|iL (r8++(sub ([(bR.mk (⟨#[102,108,111,111,114]⟩) r9.1)]:U bR) 0 1)) λyp=>ck (az r9.2.2.2.2.2.2.2.2.2.2.length r9.2.2.2.2.2.2.2.2.2.2.length)<|(jJ n r9.2.1 r9.2.2.1 r9.2.2.2.1 r9.2.2.2.2.1 r9.2.2.2.2.2.1 r9.2.2.2.2.2.2.1 r9.2.2.2.2.2.2.2.1 r9.2.2.2.2.2.2.2.2.1 r9.2.2.2.2.2.2.2.2.2.1 r9.2.2.2.2.2.2.2.2.2.2).bind λp5=>ck (bP yp.length yp.length (sub ([(bR.mk (⟨#[102,108,111,111,114,115]⟩) p5.1)]:U bR) 0 1).length 1 24)<|iL (yp++(sub ([(bR.mk (⟨#[102,108,111,111,114,115]⟩) p5.1)]:U bR) 0 1)) λG2=>ck (az p5.2.2.2.2.2.2.2.2.2.2.length p5.2.2.2.2.2.2.2.2.2.2.length)<|(jK n p5.2.1 p5.2.2.1 p5.2.2.2.1 p5.2.2.2.2.1 p5.2.2.2.2.2.1 p5.2.2.2.2.2.2.1 p5.2.2.2.2.2.2.2.1 p5.2.2.2.2.2.2.2.2.1 p5.2.2.2.2.2.2.2.2.2.1 p5.2.2.2.2.2.2.2.2.2.2).bind λsA=>ck (bP G2.length G2.length (sub ([(bR.mk (⟨#[104,101,105,103,104,116]⟩) sA.1)]:U bR) 0 1).length 1 24)<|iL (G2++(sub ([(bR.mk (⟨#[104,101,105,103,104,116]⟩) sA.1)]:U bR) 0 1)) λG1=>ck (az sA.2.2.2.2.2.2.2.2.2.2.length sA.2.2.2.2.2.2.2.2.2.2.length)<|(kG n sA.2.1 sA.2.2.1 sA.2.2.2.1 sA.2.2.2.2.1 sA.2.2.2.2.2.1 sA.2.2.2.2.2.2.1 sA.2.2.2.2.2.2.2.1 sA.2.2.2.2.2.2.2.2.1 sA.2.2.2.2.2.2.2.2.2.1 sA.2.2.2.2.2.2.2.2.2.2).bind λsy=>ck (bP G1.length G1.length (sub ([(bR.mk (⟨#[104,111,109,101,115]⟩) sy.1)]:U bR) 0 1).length 1 24)<|iL (G1++(sub ([(bR.mk (⟨#[104,111,109,101,115]⟩) sy.1)]:U bR) 0 1)) λr16=>ck (az sy.2.2.2.2.2.2.2.2.2.2.length sy.2.2.2.2.2.2.2.2.2.2.length)<|(iQ n sy.2.1 sy.2.2.1 sy.2.2.2.1 sy.2.2.2.2.1 sy.2.2.2.2.2.1 sy.2.2.2.2.2.2.1 sy.2.2.2.2.2.2.2.1 sy.2.2.2.2.2.2.2.2.1 sy.2.2.2.2.2.2.2.2.2.1 sy.2.2.2.2.2.2.2.2.2.2).bind λsx=>ck (bP r16.length r16.length (sub ([(bR.mk (⟨#[114,117,110,111,102,102]⟩) sx.1)]:U bR) 0 1).length 1 24)<|iL (r16++(sub ([(bR.mk (⟨#[114,117,110,111,102,102]⟩) sx.1)]:U bR) 0 1)) λG0=>ck (az sx.2.2.2.2.2.2.2.2.2.2.length sx.2.2.2.2.2.2.2.2.2.2.length)<|(jo n sx.2.1 sx.2.2.1 sx.2.2.2.1 sx.2.2.2.2.1 sx.2.2.2.2.2.1 sx.2.2.2.2.2.2.1 sx.2.2.2.2.2.2.2.1 sx.2.2.2.2.2.2.2.2.1 sx.2.2.2.2.2.2.2.2.2.1 sx.2.2.2.2.2.2.2.2.2.2).bind λsq=>ck (bP G0.length G0.length (sub ([(bR.mk (⟨#[115,101,116,98,97,99,107]⟩) sq.1)]:U bR) 0 1).length 1 24)<|iL (G0++(sub ([(bR.mk (⟨#[115,101,116,98,97,99,107]⟩) sq.1)]:U bR) 0 1)) λGW=>ck (az sq.2.2.2.2.2.2.2.2.2.2.length sq.2.2.2.2.2.2.2.2.2.2.length)<|(jq n sq.2.1 sq.2.2.1 sq.2.2.2.1 sq.2.2.2.2.1 sq.2.2.2.2.2.1 sq.2.2.2.2.2.2.1 sq.2.2.2.2.2.2.2.1 sq.2.2.2.2.2.2.2.2.1 sq.2.2.2.2.2.2.2.2.2.1 sq.2.2.2.2.2.2.2.2.2.2).bind λLI=>ck (bP GW.length GW.length (sub ([(bR.mk (⟨#[116,114,97,102,102,105,99]⟩) LI.1)]:U bR) 0 1).length 1 24)<|iL (GW++(sub ([(bR.mk (⟨#[116,114,97,102,102,105,99]⟩) LI.1)]:U bR) 0 1)) λAG=>ck (az (sub AG 0 AG.length).length AG.length)<|some (sub AG 0 AG.length)
def yU(a0:Int):J (Int×Bool):=
 ((bif (a0==0)then some (a0==0)else(bif (a0==1)then some (a0==1)else(bif (a0==2)then some (a0==2)else some (a0==3))))).bind λv1=>(bif v1 then some ((0:Int),true)else((bif (a0==9)then some (a0==9)else some (a0==15))).bind λv2=>(bif v2 then some ((1:Int),true)else(bif (a0==16)then some ((3:Int),true)else(bif decide (a0>=0)then some ((2:Int),(decide (a0<17)))else some ((2:Int),false)))))
def xP(n:Nat)(rc:(cu)->(Int)->J Int)(a0:cu)(a1:Int):Stp (Int×Int) Int
 |(v2,v3)=>(bif decide (v3<(a0.args.length:Int))then(bp a0.args v3).bind λx1=>(rc (cu.mk x1.op x1.n x1.s x1.key x1.args) (i64.wrap (a1+1))).bind λr2=>some (.inl ((max v2 r2),(i64.wrap (v3+1))))else some (.inr v2))
def Ak(rc:(cu)->(Int)->J Int)(a0:cu)(a1:Int):J Int:=
 (yU a0.op).bind λr1=>((bif (!r1.2)then some true else(bif (r1.1 !=(a0.args.length:Int))then some true else some (decide (a1>=12))))).bind λv1=>(bif v1 then some (13:Int)else(iter (xP n rc a0 a1) n ((0:Int),(0:Int))).bind λw1=>some (i64.wrap (w1+1)))
def Et(rc:(cu)->(Int)->J Int):b7 xx:=⟨[.d (.st SI.Expr),.d (.int .i64)],[.d (.int .i64)],λa=>rc a.1 a.2.1,none⟩
def sN(n:Nat):Nat->(cu)->(Int)->J Int
 | 0=>λ_ _=>none
 |m+1=>Ak n (sN n m)
def Qc(a0:cu)(a1:Int):J Int:=sN n n a0 a1
def Ii(a0:cu):J Bool:=
 (Qc n (cu.mk a0.op a0.n a0.s a0.key a0.args) 0).bind λr1=>some (decide (r1<=12))
def wX:J (List ByteArray):=
 ck (az (sub ([⟨#[97,114,101,97]⟩,⟨#[99,111,118,101,114]⟩,⟨#[102,108,111,111,114]⟩,⟨#[102,108,111,111,114,115]⟩,⟨#[104,101,105,103,104,116]⟩,⟨#[104,111,109,101,115]⟩,⟨#[114,117,110,111,102,102]⟩,⟨#[115,101,116,98,97,99,107]⟩,⟨#[116,114,97,102,102,105,99]⟩]:U ByteArray) 0 9).length 9)<|some (sub ([⟨#[97,114,101,97]⟩,⟨#[99,111,118,101,114]⟩,⟨#[102,108,111,111,114]⟩,⟨#[102,108,111,111,114,115]⟩,⟨#[104,101,105,103,104,116]⟩,⟨#[104,111,109,101,115]⟩,⟨#[114,117,110,111,102,102]⟩,⟨#[115,101,116,98,97,99,107]⟩,⟨#[116,114,97,102,102,105,99]⟩]:U ByteArray) 0 9)
mutual
def toE:cu->ET
 |⟨op,_,s,_,args⟩=> .mk op s (Ij args)
def Ij:List cu->List ET
 |[]=>[]
 |x::xs=>toE x::Ij xs
end
def toD(d:fw):ByteArray×ET:=(d.name,.mk d.ir d.kw (Ij d.ep))
def kU(a0:U fw):J ((List fw)×(List (List Int))):=ck (Nat.ble (rj (a0.map toD)) 4000000)<|some (a0,oH (a0.map toD))
def qK(a0:U Int)(a1:Int):J (List Int):=match a0 with
 |[x]=>ck (decide (0<=a1)&&decide (a1<=1000000000000))<|some (List.replicate a1.toNat x)
 |_=>none
def Sy(a0:U Int)(a1:Int):Stp Int (Unit⊕Int)
 |v1=>(bif decide (v1<(a0.length:Int))then(bp a0 v1).bind λx1=>(bif (a1==(x1:Int))then(some v1).map λa=> .inr (.inr a)else some (.inl (i64.wrap (v1+1))))else some (.inr (.inl ())))
def Eu(a0:U Int)(a1:Int):J Int:=
 dw (iter (Sy a0 a1) n (0:Int)) λ()=>some ((-1):Int)
def rC(a0:U Int)(a1:Int):J Bool:=
 (Eu n a0 a1).bind λr1=>some (decide (r1>=0))
def fU(a0:oU)(r1:U Int)(x2:Int):Stp (Int×Int×(List Int)×(List Int)) (Int×(List Int)×(List Int))
 |(v4,v5,v6,v7)=>(bif decide (v5<(a0.uses.length:Int))then((bp a0.uses v5).bind λx3=>(ck (cC v5 r1.length)<|(bp v6 ((0:Nat)+v5:Int)).bind λx4=>(bif decide (x4<0)then(rC n x3 x2).bind λr2=>some r2 else some false)).bind λv8=>(bif v8 then ck (cC x2 r1.length)<|(bp v6 ((0:Nat)+x2:Int)).bind λx5=>ck (cC v5 r1.length)<|(bp v6 ((0:Nat)+v5:Int)).bind λx6=>ck (bP (VB ((v4:Int).toNat) v7).length (v7.length -(v4:Int).toNat) (sub ([v5]:U Int) 0 1).length 1 8)<|iL ((VB ((v4:Int).toNat) v7)++(sub ([v5]:U Int) 0 1)) λr3=>ck (az (0+r3.length) r3.length)<|some ((0:Int),(v6.set ((0:Nat)+v5:Int).toNat (i64.wrap (x5+1))),r3)else ck (az (((v4:Int).toNat)+(v7.length -(v4:Int).toNat)) v7.length)<|some ((((v4:Int).toNat:Nat):Int),v6,v7)):J (Int×(List Int)×(List Int))).bind λ(v9,v10,v11)=>ck (az (((v9:Int).toNat)+(v11.length -(v9:Int).toNat)) v11.length)<|some (.inl ((((v9:Int).toNat:Nat):Int),(i64.wrap (v5+1)),v10,v11))else ck (az (((v4:Int).toNat)+(v7.length -(v4:Int).toNat)) v7.length)<|some (.inr ((((v4:Int).toNat:Nat):Int),v6,v7)))
def dZ(a0:oU)(r1:U Int):Stp (Int×(List Int)×(List Int)) (List Int)
 |(v1,v2,v3)=>(bif (decide ((((v3.length -(v1:Int).toNat):Nat):Int)>0))then ck (cC 0 (v3.length -(v1:Int).toNat))<|(bp v3 (((v1:Int).toNat:Nat)+0:Int)).bind λx2=>ck (A8 1 (((v3.length -(v1:Int).toNat):Nat):Int) (v3.length -(v1:Int).toNat))<|ck (az (((v1:Int).toNat+1)+((v3.length -(v1:Int).toNat) -1)) v3.length)<|(iter (fU n a0 r1 x2) n (((((v1:Int).toNat+1):Nat):Int),(0:Int),v2,v3)).bind λ(w1,w2,w3)=>ck (az (((w1:Int).toNat)+(w3.length -(w1:Int).toNat)) w3.length)<|some (.inl ((((w1:Int).toNat:Nat):Int),w2,w3))else some (.inr v2))
def jO(a0:oU)(a1:Int):J (List Int):=
 ck (az (sub ([(-1)]:U Int) 0 1).length 1)<|(qK (sub ([(-1)]:U Int) 0 1) (a0.defs.length:Int)).bind λr1=>ck (cC a1 r1.length)<|(bp r1 ((0:Nat)+a1:Int)).bind λx1=>ck (az (0+1) ([a1]:U Int).length)<|(iter (dZ n a0 r1) n ((0:Int),(r1.set ((0:Nat)+a1:Int).toNat 0),([a1]:U Int))).bind λw4=>ck (az (sub w4 0 r1.length).length r1.length)<|some (sub w4 0 r1.length)
def cmp_isNaN_string(a0:ByteArray):J Bool:=
 some (!(ByteArray.toList a0==ByteArray.toList a0))
def nK(a0:ByteArray)(a1:ByteArray):J Int:=
 (cmp_isNaN_string a0).bind λr1=>(cmp_isNaN_string a1).bind λr2=>(bif r1 then(bif r2 then some (0:Int)else some ((-1):Int))else(bif r2 then some (1:Int)else(bif (Vx a0 a1)then some ((-1):Int)else(bif (!(Vx a0 a1 || ByteArray.toList a0==ByteArray.toList a1))then some (1:Int)else some (0:Int)))))
def lQ(a0:U ByteArray)(a1:U ByteArray):Stp Int (Unit⊕Int)
 |v1=>(bif decide (v1<(a0.length:Int))then(bp a0 v1).bind λx1=>(bif decide (v1>=(a1.length:Int))then(some (1:Int)).map λa=> .inr (.inr a)else(bp a1 v1).bind λx2=>(nK x1 x2).bind λr1=>(bif (r1 !=0)then(some r1).map λa=> .inr (.inr a)else some (.inl (i64.wrap (v1+1)))))else some (.inr (.inl ())))
def lT(a0:U ByteArray)(a1:U ByteArray):J Int:=
 dw (iter (lQ a0 a1) n (0:Int)) λ()=>(bif decide ((a0.length:Int)<(a1.length:Int))then some ((-1):Int)else some (0:Int))
def l9(a0:Int)(a1:U Bool):J (Bool×(List Bool)):=
 ck (cC a0 a1.length)<|(bp a1 ((0:Nat)+a0:Int)).bind λx1=>ck (az a1.length a1.length)<|some ((!x1),a1)
def jP(a0:U Int):Stp (Int×(List Bool)) ((List Bool)⊕(Int×(List Bool)))
 |(v1,v2)=>(bif decide (v1<(a0.length:Int))then(bp a0 v1).bind λx1=>ck (az v2.length v2.length)<|(l9 x1 v2).bind λr1=>(bif r1.1 then(ck (az r1.2.length r1.2.length)<|some (v1,r1.2)).map λa=> .inr (.inr a)else ck (az r1.2.length r1.2.length)<|some (.inl ((i64.wrap (v1+1)),r1.2)))else ck (az v2.length v2.length)<|some (.inr (.inl v2)))
def mI(a0:U Int)(a1:U Bool):J (Int×(List Bool)):=
 ck (az a1.length a1.length)<|dw (iter (jP a0) n ((0:Int),a1)) λw1=>ck (az w1.length w1.length)<|some (((-1):Int),w1)
def iy(a0:U Int)(a1:U Bool):J (Bool×(List Bool)):=
 ck (az a1.length a1.length)<|(mI n a0 a1).bind λr1=>ck (az r1.2.length r1.2.length)<|some ((decide (r1.1>=0)),r1.2)
def iR(a0:oU):Stp (Int×Int×(List Bool)) (Int×(List Bool))
 |(v4,v5,v6)=>(bif decide (v5<(a0.uses.length:Int))then((bp a0.uses v5).bind λx1=>ck (az v6.length v6.length)<|(iy n x1 v6).bind λr1=>(ck (cC v5 r1.2.length)<|(bp r1.2 ((0:Nat)+v5:Int)).bind λx2=>(bif (!x2)then(bif (!r1.1)then(bif decide (v4<0)then some true else(bp a0.defs v5).bind λx3=>(bp a0.defs v4).bind λx4=>some (Vx x3.name x4.name))else some false)else some false)).bind λv7=>(bif v7 then ck (az r1.2.length r1.2.length)<|some (v5,r1.2)else ck (az r1.2.length r1.2.length)<|some (v4,r1.2)):J (Int×(List Bool))).bind λ(v8,v9)=>ck (az v9.length v9.length)<|some (.inl (v8,(i64.wrap (v5+1)),v9))else ck (az v6.length v6.length)<|some (.inr (v4,v6)))
def kH(a0:oU):Stp (Int×(List Int)×(List Bool)) (List Int)
 |(v1,v2,v3)=>(bif decide (v1<(a0.defs.length:Int))then ck (az v3.length v3.length)<|(iter (iR n a0) n (((-1):Int),(0:Int),v3)).bind λ(w1,w2)=>ck (cC w1 w2.length)<|(bp w2 ((0:Nat)+w1:Int)).bind λx5=>ck (bP v2.length v2.length (sub ([w1]:U Int) 0 1).length 1 8)<|iL (v2++(sub ([w1]:U Int) 0 1)) λr2=>ck (az r2.length r2.length)<|ck (az w2.length (w2.set ((0:Nat)+w1:Int).toNat true).length)<|some (.inl ((i64.wrap (v1+1)),r2,(w2.set ((0:Nat)+w1:Int).toNat true)))else ck (az v2.length v2.length)<|some (.inr v2))
def nL(a0:oU):J (List Int):=
 ck (decide ((a0.defs.length:Int)<=(a0.defs.length:Int))&&(decide (0<=(a0.defs.length:Int))&&zH (a0.defs.length:Int) 1))<|ck (az 0 ([]:U Int).length)<|ck (az ((a0.defs.length:Int).toNat) (List.replicate (a0.defs.length:Int).toNat false).length)<|(iter (kH n a0) n ((0:Int),([]:U Int),(List.replicate (a0.defs.length:Int).toNat false))).bind λw3=>ck (az (sub w3 0 w3.length).length w3.length)<|some (sub w3 0 w3.length)
def iK(r1:U Int)(x2:U Int):Stp (Int×Int) Int
 |(v3,v4)=>(bif decide (v4<(x2.length:Int))then((bp x2 v4).bind λx3=>(ck (cC x3 r1.length)<|(bp r1 ((0:Nat)+x3:Int)).bind λx4=>(bif decide (x4>=0)then(bif decide (v3<0)then some true else ck (cC x3 r1.length)<|(bp r1 ((0:Nat)+x3:Int)).bind λx5=>ck (cC v3 r1.length)<|(bp r1 ((0:Nat)+v3:Int)).bind λx6=>some (decide (x5<(x6:Int))))else some false)).bind λv5=>(bif v5 then some x3 else some v3):J Int).bind λv6=>some (.inl (v6,(i64.wrap (v4+1))))else some (.inr v3))
def kL(a0:Int)(a1:U fw)(a2:U (List Int))(r1:U Int):Stp (Int×(List ByteArray)) (Unit⊕((List fw)×(List (List Int))×(List ByteArray)))
 |(v1,v2)=>(bp a1 v1).bind λx1=>ck (bP v2.length v2.length (sub ([x1.name]:U ByteArray) 0 1).length 1 16)<|iL (v2++(sub ([x1.name]:U ByteArray) 0 1)) λr2=>(bp a2 v1).bind λx2=>(iter (iK r1 x2) n (((-1):Int),(0:Int))).bind λw1=>(bif decide (w1<0)then(ck (az 0 ([]:U ByteArray).length)<|some (a1,a2,([]:U ByteArray))).map λa=> .inr (.inr a)else(bif (w1==(a0:Int))then(ck (!(r2.length==0)&&az r2.length r2.length)<|some (a1,a2,r2)).map λa=> .inr (.inr a)else ck (az r2.length r2.length)<|some (.inl (w1,r2))))
def jQ(a0:Int)(a1:U fw)(a2:U (List Int)):J ((List fw)×(List (List Int))×(List ByteArray)):=
 (jO n (oU.mk a1 a2) a0).bind λr1=>ck (az 0 ([]:U ByteArray).length)<|dw (iter (kL n a0 a1 a2 r1) n (a0,([]:U ByteArray))) λ()=>none
def gX(a0:U fw):Stp (Int×(List fw)×(List (List Int))×(List ByteArray)) ((List fw)×(List (List Int))×(List ByteArray))
 |(v1,v2,v3,v4)=>(bif decide (v1<(a0.length:Int))then((jQ n v1 v2 v3).bind λr1=>((bif r1.2.2.length==0 then some true else some false)).bind λv5=>(bif v5 then ck (az v4.length v4.length)<|some (r1.1,r1.2.1,v4)else((bif v4.length==0 then some true else(bif decide ((r1.2.2.length:Int)<(v4.length:Int))then some true else(bif ((r1.2.2.length:Int)==(v4.length:Int))then ck (az (sub r1.2.2 0 r1.2.2.length).length r1.2.2.length)<|ck (az (sub v4 0 v4.length).length v4.length)<|(lT n (sub r1.2.2 0 r1.2.2.length) (sub v4 0 v4.length)).bind λr2=>some (decide (r2<0))else some false)))).bind λv6=>(bif v6 then ck (az r1.2.2.length r1.2.2.length)<|some (r1.1,r1.2.1,r1.2.2)else ck (az v4.length v4.length)<|some (r1.1,r1.2.1,v4))):J ((List fw)×(List (List Int))×(List ByteArray))).bind λ(v7,v8,v9)=>ck (az v9.length v9.length)<|some (.inl ((i64.wrap (v1+1)),v7,v8,v9))else ck (az v4.length v4.length)<|some (.inr (v2,v3,v4)))
def jb(a0:U fw)(a1:U (List Int)):J ((List fw)×(List (List Int))×(List ByteArray)):=
 ck (az 0 ([]:U ByteArray).length)<|(iter (gX n a0) n ((0:Int),a0,a1,([]:U ByteArray))).bind λ(w1,w2,w3)=>ck (az w3.length w3.length)<|some (w1,w2,w3)
def nX(r1:U ByteArray):Stp (Int×(List (ByteArray×Bool))) (List (ByteArray×Bool))
 |(v1,v2)=>(bif decide (v1<(r1.length:Int))then ck (cC v1 r1.length)<|(bp r1 ((0:Nat)+v1:Int)).bind λx1=>some (.inl ((i64.wrap (v1+1)),(rP ll x1 true v2)))else some (.inr v2))
def kV(a0:bq):Stp (Int×(List (ByteArray×Bool))) (Unit⊕((List Int)×(List ByteArray)×Int))
 |(v3,v4)=>(bif decide (v3<(a0.defs.length:Int))then(bp a0.defs v3).bind λx2=>(bif ((fP ll x2.name v4).getD false)then(some (([]:(List Int)),([]:(List ByteArray)),(5:Int))).map λa=> .inr (.inr a)else some (.inl ((i64.wrap (v3+1)),(rP ll x2.name true v4))))else some (.inr (.inl ())))
def nM(a0:bq):J ((List Int)×(List ByteArray)×Int):=
 (wX).bind λr1=>(iter (nX r1) n ((0:Int),([]:(List (ByteArray×Bool))))).bind λw1=>dw (iter (kV a0) n ((0:Int),w1)) λ()=>(kU a0.defs).bind λr2=>(jb n r2.1 r2.2).bind λr3=>((bif r3.2.2.length==0 then some false else some true)).bind λv5=>(bif v5 then ck (az (sub r3.2.2 0 r3.2.2.length).length r3.2.2.length)<|some (([]:(List Int)),(sub r3.2.2 0 r3.2.2.length),(16:Int))else(nL n (oU.mk r3.1 r3.2.1)).bind λr4=>ck (az (sub r4 0 r4.length).length r4.length)<|some ((sub r4 0 r4.length),([]:(List ByteArray)),(0:Int)))
def Al(a0:cB)(a1:cu):J Bool:=
 some (ByteArray.toList a0.name==ByteArray.toList a1.s)
def FK(a0:U cB)(a1:(cB×Unit)->J Bool):Stp Int (Unit⊕Int)
 |v1=>(bif decide (v1<(a0.length:Int))then(bp a0 v1).bind λx1=>(a1 (x1,())).bind λr1=>(bif r1 then(some v1).map λa=> .inr (.inr a)else some (.inl (i64.wrap (v1+1))))else some (.inr (.inl ())))
def rT(a0:U cB)(a1:(cB×Unit)->J Bool):J Int:=
 dw (iter (FK a0 a1) n (0:Int)) λ()=>some ((-1):Int)
def Am(a0:bR)(a1:cu):J Bool:=
 some (ByteArray.toList a0.name==ByteArray.toList a1.key)
def yV(a0:Bool):J Int:=
 (bif a0 then some (1:Int)else some (0:Int))
def wM(a0:Int)(a1:Int):J Int:=
 (bif (a1==0)then some (0:Int)else ck (a1 !=0)<|(ck (a1 !=0)<|((bif ((Int.tmod a0 a1) !=0)then some (!((decide ((Int.tmod a0 a1)<0))==(decide (a1<0))))else some false)).bind λv1=>(bif v1 then some (i64.wrap ((i64.wrap (Int.tdiv a0 a1)) -1))else some (i64.wrap (Int.tdiv a0 a1))):J Int).bind λv2=>some v2)
def JI(a0:Int)(a1:Int)(a2:Int):J Int:=
 (bif (a0==4)then some (i64.wrap (a1+a2))else(bif (a0==5)then some (i64.wrap (a1 -a2))else(bif (a0==6)then some (i64.wrap (a1*a2))else(bif (a0==7)then(wM a1 a2).bind λr1=>some r1 else(bif (a0==8)then(bif (a2==0)then some (0:Int)else(wM a1 a2).bind λr2=>some (i64.wrap (a1 -(i64.wrap (r2*a2)))))else(bif (a0==10)then(yV (a1==(a2:Int))).bind λr3=>some r3 else(bif (a0==11)then(yV (decide (a1<(a2:Int)))).bind λr4=>some r4 else(bif (a0==12)then(yV (decide (a1<=(a2:Int)))).bind λr5=>some r5 else(bif (a0==13)then(bif (a1 !=0)then(yV (a2 !=0)).bind λr6=>some r6 else(yV false).bind λr7=>some r7)else(bif (a1 !=0)then(yV true).bind λr8=>some r8 else(yV (a2 !=0)).bind λr9=>some r9))))))))))
def jr(a0:U fw)(a1:U cB)(a2:U dN)(a3:U bV)(a4:U fZ)(a5:U eU)(a6:U bW)(a7:Int)(a8:U ByteArray)(a9:cu)(j7:U (ByteArray×Int)):J (Int×(List (ByteArray×Int))):=
 (rT n a1 (λ (y1:cB×Unit)=>Al y1.1 (cu.mk a9.op a9.n a9.s a9.key a9.args))).bind λr1=>(bif decide (r1<0)then some ((0:Int),j7)else(bp a1 r1).bind λx1=>(kz n x1.rows (λ (y2:bR×Unit)=>Am y2.1 (cu.mk a9.op a9.n a9.s a9.key a9.args))).bind λr2=>(bif decide (r2>=0)then(bp x1.rows r2).bind λx2=>some (x2.n,j7)else some (x1.sn,j7)))
def fu(n:Nat)(rc:((List fw))->((List cB))->((List dN))->((List bV))->((List fZ))->((List eU))->((List bW))->(Int)->((List ByteArray))->(cu)->((List (ByteArray×Int)))->J (Int×(List (ByteArray×Int))))(a0:U fw)(a1:U cB)(a2:U dN)(a3:U bV)(a4:U fZ)(a5:U eU)(a6:U bW)(a7:Int)(a8:U ByteArray)(a9:cu):Stp (Int×(List (ByteArray×Int))×(List Int)) ((List (ByteArray×Int))×(List Int))
 |(v1,v2,v3)=>(bif decide (v1<(a9.args.length:Int))then((bp a9.args v1).bind λx1=>((bif (a9.op==16)then(bif decide (v1>0)then ck (cC 0 v3.length)<|(bp v3 ((0:Nat)+0:Int)).bind λx2=>some (!((x2 !=0)==(v1==1)))else some false)else some false)).bind λv4=>(bif v4 then ck (bP v3.length v3.length (sub ([0]:U Int) 0 1).length 1 8)<|iL (v3++(sub ([0]:U Int) 0 1)) λr1=>ck (az r1.length r1.length)<|some (v2,r1)else(rc a0 a1 a2 a3 a4 a5 a6 a7 a8 (cu.mk x1.op x1.n x1.s x1.key x1.args) v2).bind λr2=>ck (bP v3.length v3.length (sub ([r2.1]:U Int) 0 1).length 1 8)<|iL (v3++(sub ([r2.1]:U Int) 0 1)) λr3=>ck (az r3.length r3.length)<|some (r2.2,r3)):J ((List (ByteArray×Int))×(List Int))).bind λ(v5,v6)=>ck (az v6.length v6.length)<|some (.inl ((i64.wrap (v1+1)),v5,v6))else ck (az v3.length v3.length)<|some (.inr (v2,v3)))
def fF(rc:((List fw))->((List cB))->((List dN))->((List bV))->((List fZ))->((List eU))->((List bW))->(Int)->((List ByteArray))->(cu)->((List (ByteArray×Int)))->J (Int×(List (ByteArray×Int))))(a0:U fw)(a1:U cB)(a2:U dN)(a3:U bV)(a4:U fZ)(a5:U eU)(a6:U bW)(a7:Int)(a8:U ByteArray)(a9:cu)(j7:U (ByteArray×Int)):J (Int×(List (ByteArray×Int))):=
 ck (az 0 ([]:U Int).length)<|(iter (fu n rc a0 a1 a2 a3 a4 a5 a6 a7 a8 a9) n ((0:Int),j7,([]:U Int))).bind λ(w1,w2)=>(bif (a9.op==0)then some (a9.n,w1)else(bif (a9.op==1)then some (((fP ll a9.s w1).getD 0),w1)else(bif (a9.op==2)then(jr n a0 a1 a2 a3 a4 a5 a6 a7 a8 (cu.mk a9.op a9.n a9.s a9.key a9.args) w1).bind λr4=>some (r4.1,r4.2)else(bif (a9.op==3)then(fI n a8 a9.s).bind λr5=>(yV r5).bind λr6=>some (r6,w1)else(bif (a9.op==9)then ck (cC 0 w2.length)<|(bp w2 ((0:Nat)+0:Int)).bind λx3=>some ((i64.wrap (0 -x3)),w1)else(bif (a9.op==15)then ck (cC 0 w2.length)<|(bp w2 ((0:Nat)+0:Int)).bind λx4=>(yV (x4==0)).bind λr7=>some (r7,w1)else(bif (a9.op==16)then ck (cC 0 w2.length)<|(bp w2 ((0:Nat)+0:Int)).bind λx5=>(bif (x5 !=0)then ck (cC 1 w2.length)<|(bp w2 ((0:Nat)+1:Int)).bind λx6=>some (x6,w1)else ck (cC 2 w2.length)<|(bp w2 ((0:Nat)+2:Int)).bind λx7=>some (x7,w1))else ck (cC 0 w2.length)<|(bp w2 ((0:Nat)+0:Int)).bind λx8=>ck (cC 1 w2.length)<|(bp w2 ((0:Nat)+1:Int)).bind λx9=>(JI a9.op x8 x9).bind λr8=>some (r8,w1))))))))
def Ew(rc:((List fw))->((List cB))->((List dN))->((List bV))->((List fZ))->((List eU))->((List bW))->(Int)->((List ByteArray))->(cu)->((List (ByteArray×Int)))->J (Int×(List (ByteArray×Int)))):c7 xx:=⟨[(.a [(.v (.sl (.st SI.Def))),(.v (.sl (.st SI.Table))),(.v (.sl (.st SI.Zone))),(.v (.sl (.st SI.Rule))),(.v (.sl (.st SI.Cap))),(.v (.sl (.st SI.View))),(.v (.sl (.st SI.gC))),(.v (.int .i64)),(.mp 0),(.v (.sl .str))]),(.v (.st SI.Expr))],[(0,.m .str (.int .i64))],[(.v (.int .i64))],[(0,.m .str (.int .i64))],λv=>rc (v.1) (v.2.1) (v.2.2.1) (v.2.2.2.1) (v.2.2.2.2.1) (v.2.2.2.2.2.1) (v.2.2.2.2.2.2.1) (v.2.2.2.2.2.2.2.1) (v.2.2.2.2.2.2.2.2.1) (v.2.2.2.2.2.2.2.2.2.1) (v.2.2.2.2.2.2.2.2.2.2)⟩
def jR(rc:((List fw))->((List cB))->((List dN))->((List bV))->((List fZ))->((List eU))->((List bW))->(Int)->((List ByteArray))->(cu)->((List (ByteArray×Int)))->J (Int×(List (ByteArray×Int)))):b7 xx:=⟨[],[.d .bool],λ_=>none,some (Ew rc)⟩
def cK(n:Nat):Nat->((List fw))->((List cB))->((List dN))->((List bV))->((List fZ))->((List eU))->((List bW))->(Int)->((List ByteArray))->(cu)->((List (ByteArray×Int)))->J (Int×(List (ByteArray×Int)))
 | 0=>λ_ _ _ _ _ _ _ _ _ _ _=>none
 |m+1=>fF n (cK n m)
def gq(a0:U fw)(a1:U cB)(a2:U dN)(a3:U bV)(a4:U fZ)(a5:U eU)(a6:U bW)(a7:Int)(a8:U ByteArray)(a9:cu)(j7:U (ByteArray×Int)):J (Int×(List (ByteArray×Int))):=cK n n a0 a1 a2 a3 a4 a5 a6 a7 a8 a9 j7
def j4(n:Nat)(a1:U bR):Stp (Int×(List (ByteArray×Int))×(List (ByteArray×Bool))) ((List (ByteArray×Int))×(List (ByteArray×Bool)))
 |(v1,v2,v3)=>(bif decide (v1<(a1.length:Int))then((bp a1 v1).bind λx1=>(bif (!((fP ll x1.name v3).getD false))then some ((rP ll x1.name x1.n v2),(rP ll x1.name true v3))else some (v2,v3)):J ((List (ByteArray×Int))×(List (ByteArray×Bool)))).bind λ(v4,v5)=>some (.inl ((i64.wrap (v1+1)),v4,v5))else some (.inr (v2,v3)))
def gL(a0:bq)(a2:U ByteArray)(w2:U (ByteArray×Bool))(r1:(List Int)×(List ByteArray)×Int):Stp (Int×(List (ByteArray×Int))×(List Int)) ((List (ByteArray×Int))×(List Int))
 |(v6,v7,v8)=>(bif decide (v6<(r1.1.length:Int))then(ck (cC v6 r1.1.length)<|(bp r1.1 ((0:Nat)+v6:Int)).bind λx2=>(bp a0.defs x2).bind λx3=>((Ii n (cu.mk x3.ir x3.ly x3.kw x3.ii x3.ep)).bind λr2=>(bif r2 then(gq n a0.defs a0.tables a0.zones a0.rules a0.caps a0.views a0.nr a0.hours a2 (cu.mk x3.ir x3.ly x3.kw x3.ii x3.ep) v7).bind λr3=>ck (cC x2 ((a0.defs.length:Int).toNat))<|(bp v8 ((0:Nat)+x2:Int)).bind λx4=>some (r3.2,(v8.set ((0:Nat)+x2:Int).toNat r3.1))else some (v7,v8)):J ((List (ByteArray×Int))×(List Int))).bind λ(v9,v10)=>(bif (!((fP ll x3.name w2).getD false))then ck (cC x2 ((a0.defs.length:Int).toNat))<|(bp v10 ((0:Nat)+x2:Int)).bind λx5=>some ((rP ll x3.name x5 v9),v10)else some (v9,v10)):J ((List (ByteArray×Int))×(List Int))).bind λ(v11,v12)=>some (.inl ((i64.wrap (v6+1)),v11,v12))else some (.inr (v7,v8)))
def mh(a0:bq)(a1:U bR)(a2:U ByteArray):J ((List fw)×(List cB)×(List dN)×(List bV)×(List fZ)×(List eU)×(List bW)×Int×(List ByteArray)×(List (ByteArray×Int))×(List Int)):=
 (iter (j4 n a1) n ((0:Int),([]:(List (ByteArray×Int))),([]:(List (ByteArray×Bool))))).bind λ(w1,w2)=>ck (decide ((a0.defs.length:Int)<=(a0.defs.length:Int))&&(decide (0<=(a0.defs.length:Int))&&zH (a0.defs.length:Int) 8))<|(nM n a0).bind λr1=>(bif (r1.2.2 !=0)then ck (az ((a0.defs.length:Int).toNat) (List.replicate (a0.defs.length:Int).toNat (0:Int)).length)<|some (a0.defs,a0.tables,a0.zones,a0.rules,a0.caps,a0.views,a0.nr,a0.hours,a2,w1,(List.replicate (a0.defs.length:Int).toNat (0:Int)))else(iter (gL n a0 a2 w2 r1) n ((0:Int),w1,(List.replicate (a0.defs.length:Int).toNat (0:Int)))).bind λ(w3,w4)=>ck (az ((a0.defs.length:Int).toNat) w4.length)<|some (a0.defs,a0.tables,a0.zones,a0.rules,a0.caps,a0.views,a0.nr,a0.hours,a2,w3,w4))
def vN(a0:bq)(a1:U bR)(a2:U ByteArray)(a3:cu):J Int:=
 (Ii n (cu.mk a3.op a3.n a3.s a3.key a3.args)).bind λr1=>(bif (!r1)then some (0:Int)else(mh n a0 a1 a2).bind λr2=>(gq n r2.1 r2.2.1 r2.2.2.1 r2.2.2.2.1 r2.2.2.2.2.1 r2.2.2.2.2.2.1 r2.2.2.2.2.2.2.1 r2.2.2.2.2.2.2.2.1 r2.2.2.2.2.2.2.2.2.1 (cu.mk a3.op a3.n a3.s a3.key a3.args) r2.2.2.2.2.2.2.2.2.2.1).bind λr3=>some r3.1)
def xQ(a0:aH):J (List fT):=
 ck (az (sub ([(ax.mk a0.bx a0.ci a0.bu a0.cg)]:U ax) 0 1).length 1)<|ck (az (sub ([(fT.mk a0.ev a0.ec (sub ([(ax.mk a0.bx a0.ci a0.bu a0.cg)]:U ax) 0 1))]:U fT) 0 1).length 1)<|some (sub ([(fT.mk a0.ev a0.ec (sub ([(ax.mk a0.bx a0.ci a0.bu a0.cg)]:U ax) 0 1))]:U fT) 0 1)
def FL(a0:U dX)(a1:(dX×Unit)->J Bool):Stp Int (Unit⊕Int)
 |v1=>(bif decide (v1<(a0.length:Int))then(bp a0 v1).bind λx1=>(a1 (x1,())).bind λr1=>(bif r1 then(some v1).map λa=> .inr (.inr a)else some (.inl (i64.wrap (v1+1))))else some (.inr (.inl ())))
def rU(a0:U dX)(a1:(dX×Unit)->J Bool):J Int:=
 dw (iter (FL a0 a1) n (0:Int)) λ()=>some ((-1):Int)
def kI(a0:U dX)(a1:(dX×Unit)->J Bool):J Bool:=
 (rU n a0 a1).bind λr1=>some (decide (r1>=0))
def nN(a0:Int)(a1:Int)(a2:Int):J Bool:=
 (bif decide (a1<=(a0:Int))then some (decide (a0<=(a2:Int)))else some false)
def Ao(a0:dX):J Bool:=
 (nN a0.side 0 3).bind λr1=>(bif r1 then(nN a0.base 0 4096).bind λr2=>(bif r2 then(nN a0.num 0 4096).bind λr3=>(bif r3 then(nN a0.den 1 4096).bind λr4=>some r4 else some false)else some false)else some false)
def ug(a0:dX):J Bool:=
 (Ao a0).bind λr1=>some (!r1)
def Ap(a0:ax)(a1:U dX):J Bool:=
 (nE a0).bind λr1=>(bif r1 then(kI n a1 (λ (y1:dX×Unit)=>ug y1.1)).bind λr2=>some (!r2)else some false)
def UD(a0:U ax)(a1:U ax):J Bool:=
 (oC n a0 a1).bind λr1=>some r1
def Aq(a0:U fT):Stp Int (Unit⊕Bool)
 |v1=>(bif decide (v1<(a0.length:Int))then dw ((bp a0 v1).bind λx1=>((bif decide (x1.z0<0)then some true else(bif decide (x1.z0>=(x1.z1:Int))then some true else(bif decide (x1.z1>4096)then some true else(bif ((x1.area.length:Int)==0)then some true else(nV n x1.area).bind λr1=>some (!r1)))))).bind λv2=>(bif v2 then((some false).map λa=> .inr (.inr a)).map .inr else(bif (v1==0)then some (.inl ())else(bp a0 (i64.wrap (v1 -1))).bind λx2=>((bif decide (x2.z1>(x1.z0:Int))then some true else(bif (x2.z1==(x1.z0:Int))then(UD n x2.area x1.area).bind λr2=>some r2 else some false))).bind λv3=>(bif v3 then((some false).map λa=> .inr (.inr a)).map .inr else some (.inl ())))):J ((Unit)⊕_)) λ()=>some (.inl (i64.wrap (v1+1)))else some (.inr (.inl ())))
def Ik(a0:U fT):J Bool:=
 (bif decide ((a0.length:Int)>80)then some false else dw (iter (Aq n a0) n (0:Int)) λ()=>some true)
def wY(a0:ax)(a1:Int)(a2:Int):J Nz:=
 some (Nz.mk (i64.wrap (a1 -a0.x0)) (i64.wrap ((i64.wrap (a0.x1 -1)) -a1)) (i64.wrap (a2 -a0.y0)) (i64.wrap ((i64.wrap (a0.y1 -1)) -a2)))
def uh(a0:Int)(a1:Int):J Int:=
 ck (a1 !=0)<|(ck (a1 !=0)<|(bif decide ((Int.tmod a0 a1)<0)then some (i64.wrap ((i64.wrap (Int.tdiv a0 a1)) -1))else some (i64.wrap (Int.tdiv a0 a1))):J Int).bind λv1=>some v1
def xR(a0:ax)(a1:U dX)(a2:Int)(a3:Int)(r1:Nz):Stp (Int×Int) Int
 |(v1,v2)=>(bif decide (v2<(a1.length:Int))then(bp a1 v2).bind λx1=>ck (cC x1.side 4)<|(bp ([r1.a0,r1.a1,r1.a2,r1.a3]:U Int) x1.side).bind λx2=>(uh (i64.wrap (x1.num*x2)) x1.den).bind λr2=>some (.inl ((min v1 (i64.wrap (x1.base+r2))),(i64.wrap (v2+1))))else some (.inr v1))
def JJ(a0:ax)(a1:U dX)(a2:Int)(a3:Int):J Int:=
 (wY a0 a2 a3).bind λr1=>(iter (xR a0 a1 a2 a3 r1) n ((4096:Int),(0:Int))).bind λw1=>some w1
def nY(a0:ax)(a1:U dX)(x1:ax)(x2:Int):Stp (Int×Int) Int
 |(v5,v6)=>(bif decide (v6<2)then ck (cC v6 2)<|(bp ([x1.y0,(i64.wrap (x1.y1 -1))]:U Int) ((0:Nat)+v6:Int)).bind λx3=>(JJ n a0 a1 x2 x3).bind λr1=>some (.inl ((min v5 r1),(i64.wrap (v6+1))))else some (.inr v5))
def nZ(a0:ax)(a1:U dX)(x1:ax):Stp (Int×Int) Int
 |(v3,v4)=>(bif decide (v4<2)then ck (cC v4 2)<|(bp ([x1.x0,(i64.wrap (x1.x1 -1))]:U Int) ((0:Nat)+v4:Int)).bind λx2=>(iter (nY n a0 a1 x1 x2) n (v3,(0:Int))).bind λw1=>some (.inl (w1,(i64.wrap (v4+1))))else some (.inr v3))
def rD(a0:ax)(a1:U dX)(a2:U ax):Stp (Int×Int) Int
 |(v1,v2)=>(bif decide (v2<(a2.length:Int))then(bp a2 v2).bind λx1=>(iter (nZ n a0 a1 x1) n (v1,(0:Int))).bind λw2=>some (.inl (w2,(i64.wrap (v2+1))))else some (.inr v1))
def xS(a0:ax)(a1:U dX)(a2:U ax):J Int:=
 (iter (rD n a0 a1 a2) n ((4096:Int),(0:Int))).bind λw3=>some w3
def rE(a0:fT)(a1:ax)(a2:U dX):J Bool:=
 (xS n a1 a2 a0.area).bind λr1=>some (decide (r1<(a0.z1:Int)))
def lU(a0:U fT)(a1:(fT×Unit)->J Bool):Stp Int (Unit⊕Int)
 |v1=>(bif decide (v1<(a0.length:Int))then(bp a0 v1).bind λx1=>(a1 (x1,())).bind λr1=>(bif r1 then(some v1).map λa=> .inr (.inr a)else some (.inl (i64.wrap (v1+1))))else some (.inr (.inl ())))
def uj(a0:U fT)(a1:(fT×Unit)->J Bool):J Int:=
 dw (iter (lU a0 a1) n (0:Int)) λ()=>some ((-1):Int)
def je(a0:U fT)(a1:(fT×Unit)->J Bool):J Bool:=
 (uj n a0 a1).bind λr1=>some (decide (r1>=0))
def xU(a0:ax)(a1:U dX)(a2:U fT):J Bool:=
 ((Ap n a0 a1).bind λr1=>(bif (!r1)then some true else(Ik n a2).bind λr2=>some (!r2))).bind λv1=>(bif v1 then some false else(je n a2 (λ (y1:fT×Unit)=>rE n y1.1 a0 a1)).bind λr3=>some (!r3))
def jS(a0:aH)(a1:ax)(a2:bV):J Bool:=
 (xQ a0).bind λr1=>ck (az (sub ([(dX.mk a2.hZ a2.ia a2.js a2.jt)]:U dX) 0 1).length 1)<|ck (az (sub r1 0 r1.length).length r1.length)<|(xU n a1 (sub ([(dX.mk a2.hZ a2.ia a2.js a2.jt)]:U dX) 0 1) (sub r1 0 r1.length)).bind λr2=>some (!r2)
def gM(a0:l6)(a1:(aH×Unit)->J Bool):J Bool:=
 (fJ n a0.cy a1).bind λr1=>some r1
def jT(a0:aH)(a1:bV):J Bool:=
 ck (decide (0<=a0.use)&&decide (a0.use<=i64.bits))<|some ((bits .and .i64 a1.uses (i64.wrap (1*2 ^ (a0.use:Int).toNat)))==0)
def alR(a0:ax)(a1:ax):J (Int×Int):=
 some ((i64.wrap ((max a0.x0 a1.x0) -(min a0.x1 a1.x1))),(i64.wrap ((max a0.y0 a1.y0) -(min a0.y1 a1.y1))))
def MM(a0:ax)(a1:ax):J Int:=
 ((nE a0).bind λr1=>(bif (!r1)then some true else(nE a1).bind λr2=>some (!r2))).bind λv1=>(bif v1 then some ((-1):Int)else(alR a0 a1).bind λr3=>some (max (max (0:Int) r3.1) r3.2))
def dV(a0:iH)(a1:l6)(a2:aH)(a3:bV):J Bool:=
 ((bif (a0.lot==(a1.cz:Int))then some true else(nE (ax.mk a0.eh a0.ee a0.ef a0.ed)).bind λr1=>(bif (!r1)then some true else(bif decide (a0.ff<0)then some true else some (decide (a0.ff>=6)))))).bind λv1=>(bif v1 then some false else((bif (a2.use==(a3.uses:Int))then(bif (a0.ff==(a3.other:Int))then some true else(bif (a2.use==(a3.other:Int))then some (a0.ff==(a3.uses:Int))else some false))else(bif (a2.use==(a3.other:Int))then some (a0.ff==(a3.uses:Int))else some false))).bind λv2=>(bif v2 then(MM (ax.mk a2.bx a2.ci a2.bu a2.cg) (ax.mk a0.eh a0.ee a0.ef a0.ed)).bind λr2=>some (decide (r2<(a3.n:Int)))else some false))
def Ey(a0:U iH)(a1:(iH×Unit)->J Bool):Stp Int (Unit⊕Int)
 |v1=>(bif decide (v1<(a0.length:Int))then(bp a0 v1).bind λx1=>(a1 (x1,())).bind λr1=>(bif r1 then(some v1).map λa=> .inr (.inr a)else some (.inl (i64.wrap (v1+1))))else some (.inr (.inl ())))
def qy(a0:U iH)(a1:(iH×Unit)->J Bool):J Int:=
 dw (iter (Ey a0 a1) n (0:Int)) λ()=>some ((-1):Int)
def jU(a0:U iH)(a1:(iH×Unit)->J Bool):J Bool:=
 (qy n a0 a1).bind λr1=>some (decide (r1>=0))
def rV(a0:l6)(a1:bV)(a2:aH):J Bool:=
 (jU n a0.fY (λ (y1:iH×Unit)=>dV y1.1 a0 a2 a1)).bind λr1=>some r1
def jV(a0:aH)(a1:l6)(a2:bV):J Bool:=
 (rV n a1 a2 a0).bind λr1=>some r1
def mJ(a0:l6)(a1:bV):J Bool:=
 (bif (a1.kind==0)then(iW n (bq.mk a0.fm a0.eI a0.eS a0.eW a0.fp a0.eV a0.gh a0.fc) (bU.mk a0.s8 a0.mL a0.km a0.pc) (bg.mk a0.cz a0.cP)).bind λr1=>ck (az (sub r1 0 r1.length).length r1.length)<|(vN n (bq.mk a0.fm a0.eI a0.eS a0.eW a0.fp a0.eV a0.gh a0.fc) (sub r1 0 r1.length) a0.zones (cu.mk a1.kB a1.mw a1.mn a1.jn a1.ga)).bind λr2=>some (r2==0)else(bif (a1.kind==1)then(CO n a0.km).bind λr3=>(gM n a0 (λ (y1:aH×Unit)=>jS n y1.1 r3.1 a1)).bind λr4=>some r4 else(bif (a1.kind==2)then(gM n a0 (λ (y2:aH×Unit)=>jT y2.1 a1)).bind λr5=>some r5 else(bif (a1.kind==3)then(gM n a0 (λ (y3:aH×Unit)=>jV n y3.1 a0 a1)).bind λr6=>some r6 else some false))))
def vO(a0:ax)(a1:ax):J Bool:=
 (bif decide ((max a1.x0 a0.x0)<((min a1.x1 a0.x1):Int))then some (decide ((max a1.y0 a0.y0)<((min a1.y1 a0.y1):Int)))else some false)
def Il(a0:U ax)(a1:(ax×Unit)->J Bool):Stp Int (Unit⊕Int)
 |v1=>(bif decide (v1<(a0.length:Int))then(bp a0 v1).bind λx1=>(a1 (x1,())).bind λr1=>(bif r1 then(some v1).map λa=> .inr (.inr a)else some (.inl (i64.wrap (v1+1))))else some (.inr (.inl ())))
def ul(a0:U ax)(a1:(ax×Unit)->J Bool):J Int:=
 dw (iter (Il a0 a1) n (0:Int)) λ()=>some ((-1):Int)
def jf(a0:U ax)(a1:(ax×Unit)->J Bool):J Bool:=
 (ul n a0 a1).bind λr1=>some (decide (r1>=0))
def Ez(a0:ax)(a1:U ax):J Bool:=
 (jf n a1 (λ (y1:ax×Unit)=>vO y1.1 a0)).bind λr1=>some r1
def UE(a0:U ax)(a1:U ax):J Bool:=
 (jf n a0 (λ (y1:ax×Unit)=>Ez n y1.1 a1)).bind λr1=>some r1
def qL(a0:fT)(a1:jl):J Bool:=
 (bif decide (a0.z1>(a1.top:Int))then(UE n a0.area a1.area).bind λr1=>some r1 else some false)
def vP(a0:U jl)(a1:Int)(a2:U fT):Stp Int (Unit⊕Bool)
 |v1=>(bif decide (v1<(a0.length:Int))then dw ((bp a0 v1).bind λx1=>((bif (x1.lot !=(a1:Int))then some true else(nV n x1.area).bind λr2=>some (!r2))).bind λv2=>(bif v2 then some (.inl ())else(je n a2 (λ (y1:fT×Unit)=>qL n y1.1 x1)).bind λr3=>(bif r3 then((some false).map λa=> .inr (.inr a)).map .inr else some (.inl ()))):J ((Unit)⊕_)) λ()=>some (.inl (i64.wrap (v1+1)))else some (.inr (.inl ())))
def EA(a0:U jl)(a1:Int)(a2:U fT):J Bool:=
 (Ik n a2).bind λr1=>(bif (!r1)then some false else dw (iter (vP n a0 a1 a2) n (0:Int)) λ()=>some true)
def mU(a0:aH)(a1:bT)(a2:bg):J Bool:=
 (xQ a0).bind λr1=>ck (az (sub r1 0 r1.length).length r1.length)<|(EA n a1.bz a2.lot (sub r1 0 r1.length)).bind λr2=>some (!r2)
def jD(a0:ByteArray)(a1:Bool)(a2:U ByteArray):J (List ByteArray):=
 ((bif a1 then ck (az (sub a2 0 a2.length).length a2.length)<|(fI n (sub a2 0 a2.length) a0).bind λr1=>some (!r1)else some false)).bind λv1=>(bif v1 then ck (bP a2.length a2.length (sub ([a0]:U ByteArray) 0 1).length 1 16)<|iL (a2++(sub ([a0]:U ByteArray) 0 1)) λr2=>ck (az r2.length r2.length)<|some r2 else ck (az a2.length a2.length)<|some a2)
def mV(a0:bT)(r1:l6×Int)(r2:U Int):Stp (Int×(List ByteArray)) (List ByteArray)
 |(v1,v2)=>(bif decide (v1<(r2.length:Int))then ck (cC v1 r2.length)<|(bp r2 ((0:Nat)+v1:Int)).bind λx1=>(bp a0.bj x1).bind λx2=>(bp a0.bj x1).bind λx3=>(mJ n r1.1 x3).bind λr3=>ck (az v2.length v2.length)<|(jD n x2.name r3 v2).bind λr4=>ck (az r4.length r4.length)<|some (.inl ((i64.wrap (v1+1)),r4))else ck (az v2.length v2.length)<|some (.inr v2))
def vQ(a0:bT)(a1:bg)(a2:Int):J ((List ByteArray)×Int):=
 (Ai n a0 a1).bind λr1=>(bif (r1.2 !=0)then some (([]:(List ByteArray)),r1.2)else(uf n (bq.mk a0.cj a0.ca a0.b8 a0.bj a0.cw a0.cm a0.cD a0.co) r1.1.zones a2).bind λr2=>ck (az 0 ([]:U ByteArray).length)<|(iter (mV n a0 r1 r2) n ((0:Int),([]:U ByteArray))).bind λw1=>(gM n r1.1 (λ (y1:aH×Unit)=>mU n y1.1 a0 a1)).bind λr5=>ck (az w1.length w1.length)<|(jD n (⟨#[101,97,115,101,109,101,110,116]⟩) r5 w1).bind λr6=>ck (az (sub r6 0 r6.length).length r6.length)<|some ((sub r6 0 r6.length),(0:Int)))
def gF(a0:bT)(a1:bg)(a2:Int):J Bool:=
 (vQ n a0 a1 a2).bind λr1=>(bif (r1.2==0)then some ((r1.1.length:Int)==0)else some false)
def og(a0:bT)(a1:Int)(a3:U bq)(x1:sI):Stp (Int×(List Bool)) (List Bool)
 |(v2,v3)=>(bif decide (v2<(a3.length:Int))then(bp a3 v2).bind λx2=>(witness_under a0 x2).bind λr2=>(gF n r2 (bg.mk x1.cz x1.cP) a1).bind λr3=>ck (bP v3.length v3.length (sub ([r3]:U Bool) 0 1).length 1 1)<|iL (v3++(sub ([r3]:U Bool) 0 1)) λr4=>ck (az r4.length r4.length)<|some (.inl ((i64.wrap (v2+1)),r4))else ck (az v3.length v3.length)<|some (.inr v3))
def rF(a0:bT)(a1:Int)(a2:((List Bool)×Unit)->J Bool)(a3:U bq)(r1:U sI):Stp Int (Unit⊕(aS×Bool))
 |v1=>(bif decide (v1<(r1.length:Int))then ck (cC v1 r1.length)<|(bp r1 ((0:Nat)+v1:Int)).bind λx1=>ck (az 0 ([]:U Bool).length)<|(iter (og n a0 a1 a3 x1) n ((0:Int),([]:U Bool))).bind λw1=>ck (az (sub w1 0 w1.length).length w1.length)<|(a2 ((sub w1 0 w1.length),())).bind λr5=>(bif r5 then(some ((aS.mk x1.mA x1.mz x1.j0 x1.kf),true)).map λa=> .inr (.inr a)else some (.inl (i64.wrap (v1+1))))else some (.inr (.inl ())))
def qa(a0:bT)(a1:Int)(a2:((List Bool)×Unit)->J Bool)(a3:U bq):J (aS×Bool):=
 (qH n a0).bind λr1=>dw (iter (rF n a0 a1 a2 a3 r1) n (0:Int)) λ()=>some ((aS.mk 0 0 0 0),false)
def vw(a0:U Bool):J Bool:=
 (bp a0 0).bind λx1=>(bp a0 1).bind λx2=>some (!(x1==x2))
def jY(a0:bT)(a1:bq)(a2:bq)(a3:Int):J (aS×Bool):=
 ck (az (sub ([a1,a2]:U bq) 0 2).length 2)<|(qa n a0 a3 (λ (y1:(List Bool)×Unit)=>vw y1.1) (sub ([a1,a2]:U bq) 0 2)).bind λr1=>some (r1.1,r1.2)
def vz(a0:U Bool):J Bool:=
 (bp a0 2).bind λx1=>((bp a0 1).bind λx2=>(bp a0 0).bind λx3=>(bif (!(x2==x3))then(bp a0 1).bind λx4=>some x4 else some x1)).bind λv1=>(bp a0 3).bind λx5=>some (!(x5==v1))
def gZ(a0:bT)(a1:bq)(a2:bq)(a3:bq)(a4:bq)(a5:Int):J (aS×Bool):=
 ck (az (sub ([a1,a2,a3,a4]:U bq) 0 4).length 4)<|(qa n a0 a5 (λ (y1:(List Bool)×Unit)=>vz y1.1) (sub ([a1,a2,a3,a4]:U bq) 0 4)).bind λr1=>some (r1.1,r1.2)
def qz(a0:U Bool):J Bool:=
 (bp a0 0).bind λx1=>(bif x1 then(bp a0 1).bind λx2=>some (!x2)else some false)
def gP(a0:bT)(a1:bq)(a2:bq)(a3:Int):J Bool:=
 ck (az (sub ([a1,a2]:U bq) 0 2).length 2)<|(qa n a0 a3 (λ (y1:(List Bool)×Unit)=>qz y1.1) (sub ([a1,a2]:U bq) 0 2)).bind λr1=>some (!r1.2)
def mW(a0:bT)(a1:bq)(a2:aS)(a3:Int):J Bool:=
 (tV n a0 a2).bind λr1=>(bif r1.2 then(witness_under a0 a1).bind λr2=>(gF n r2 r1.1 a3).bind λr3=>some r3 else some false)
def mK(a0:bT)(a1:bq)(a2:Int)(r1:U sI):Stp (Int×(List Bool)) (List Bool)
 |(v1,v2)=>(bif decide (v1<(r1.length:Int))then ck (cC v1 r1.length)<|(bp r1 ((0:Nat)+v1:Int)).bind λx1=>(witness_under a0 a1).bind λr2=>(gF n r2 (bg.mk x1.cz x1.cP) a2).bind λr3=>ck (bP v2.length v2.length (sub ([r3]:U Bool) 0 1).length 1 1)<|iL (v2++(sub ([r3]:U Bool) 0 1)) λr4=>ck (az r4.length r4.length)<|some (.inl ((i64.wrap (v1+1)),r4))else ck (az v2.length v2.length)<|some (.inr v2))
def gQ(a0:bT)(a1:bq)(a2:Int):J (List Bool):=
 (qH n a0).bind λr1=>ck (az 0 ([]:U Bool).length)<|(iter (mK n a0 a1 a2 r1) n ((0:Int),([]:U Bool))).bind λw1=>ck (az (sub w1 0 w1.length).length w1.length)<|some (sub w1 0 w1.length)
def CU:J Bool:=
 ck (az (sub ([(ax.mk 0 0 4 4)]:U ax) 0 1).length 1)<|(fB 6).bind λr1=>(fB 9).bind λr2=>ck (az (sub ([(bU.mk 1 0 (sub ([(ax.mk 0 0 4 4)]:U ax) 0 1) ([]))]:U bU) 0 1).length 1)<|(jY n (bT.mk ([]) ([]) ([]) ([]) ([]) ([]) ([]) 0 (sub ([(bU.mk 1 0 (sub ([(ax.mk 0 0 4 4)]:U ax) 0 1) ([]))]:U bU) 0 1) ([]) ([]) ([]) ([])) r1 r2 0).bind λr3=>(fB 6).bind λr4=>(fB 7).bind λr5=>ck (az (sub ([(bU.mk 1 0 (sub ([(ax.mk 0 0 4 4)]:U ax) 0 1) ([]))]:U bU) 0 1).length 1)<|(jY n (bT.mk ([]) ([]) ([]) ([]) ([]) ([]) ([]) 0 (sub ([(bU.mk 1 0 (sub ([(ax.mk 0 0 4 4)]:U ax) 0 1) ([]))]:U bU) 0 1) ([]) ([]) ([]) ([])) r4 r5 0).bind λr6=>(fB 6).bind λr7=>(fB 9).bind λr8=>(fB 3).bind λr9=>(fB 6).bind λyp=>ck (az (sub ([(bU.mk 1 0 (sub ([(ax.mk 0 0 4 4)]:U ax) 0 1) ([]))]:U bU) 0 1).length 1)<|(gZ n (bT.mk ([]) ([]) ([]) ([]) ([]) ([]) ([]) 0 (sub ([(bU.mk 1 0 (sub ([(ax.mk 0 0 4 4)]:U ax) 0 1) ([]))]:U bU) 0 1) ([]) ([]) ([]) ([])) r7 r8 r9 yp 0).bind λp5=>(fB 6).bind λG2=>(fB 9).bind λsA=>(fB 3).bind λG1=>(fB 9).bind λsy=>ck (az (sub ([(bU.mk 1 0 (sub ([(ax.mk 0 0 4 4)]:U ax) 0 1) ([]))]:U bU) 0 1).length 1)<|(gZ n (bT.mk ([]) ([]) ([]) ([]) ([]) ([]) ([]) 0 (sub ([(bU.mk 1 0 (sub ([(ax.mk 0 0 4 4)]:U ax) 0 1) ([]))]:U bU) 0 1) ([]) ([]) ([]) ([])) G2 sA G1 sy 0).bind λr16=>(fB 6).bind λsx=>(fB 9).bind λG0=>(fB 6).bind λsq=>(fB 9).bind λGW=>ck (az (sub ([(bU.mk 1 0 (sub ([(ax.mk 0 0 4 4)]:U ax) 0 1) ([]))]:U bU) 0 1).length 1)<|(gZ n (bT.mk ([]) ([]) ([]) ([]) ([]) ([]) ([]) 0 (sub ([(bU.mk 1 0 (sub ([(ax.mk 0 0 4 4)]:U ax) 0 1) ([]))]:U bU) 0 1) ([]) ([]) ([]) ([])) sx G0 sq GW 0).bind λLI=>((bif r3.2 then(bif ((r3.1.lot==1)&&((r3.1.use==0)&&((r3.1.floors==3)&&((r3.1.fW==1)&&true))))then(bif (!r6.2)then(fB 6).bind λAG=>(fB 9).bind λr23=>ck (az (sub ([(bU.mk 1 0 (sub ([(ax.mk 0 0 4 4)]:U ax) 0 1) ([]))]:U bU) 0 1).length 1)<|(gP n (bT.mk ([]) ([]) ([]) ([]) ([]) ([]) ([]) 0 (sub ([(bU.mk 1 0 (sub ([(ax.mk 0 0 4 4)]:U ax) 0 1) ([]))]:U bU) 0 1) ([]) ([]) ([]) ([])) AG r23 0).bind λr24=>(bif r24 then(fB 9).bind λr25=>(fB 6).bind λr26=>ck (az (sub ([(bU.mk 1 0 (sub ([(ax.mk 0 0 4 4)]:U ax) 0 1) ([]))]:U bU) 0 1).length 1)<|(gP n (bT.mk ([]) ([]) ([]) ([]) ([]) ([]) ([]) 0 (sub ([(bU.mk 1 0 (sub ([(ax.mk 0 0 4 4)]:U ax) 0 1) ([]))]:U bU) 0 1) ([]) ([]) ([]) ([])) r25 r26 0).bind λr27=>some (!r27)else some false)else some false)else some false)else some false)).bind λv1=>(bif v1 then(bif p5.2 then(bif ((p5.1.lot==1)&&((p5.1.use==0)&&((p5.1.floors==2)&&((p5.1.fW==1)&&true))))then(bif r16.2 then(bif ((r16.1.lot==1)&&((r16.1.use==0)&&((r16.1.floors==2)&&((r16.1.fW==1)&&true))))then(bif (!LI.2)then(fB 6).bind λr28=>ck (az (sub ([(bU.mk 1 0 (sub ([(ax.mk 0 0 4 4)]:U ax) 0 1) ([]))]:U bU) 0 1).length 1)<|(mW n (bT.mk ([]) ([]) ([]) ([]) ([]) ([]) ([]) 0 (sub ([(bU.mk 1 0 (sub ([(ax.mk 0 0 4 4)]:U ax) 0 1) ([]))]:U bU) 0 1) ([]) ([]) ([]) ([])) r28 (aS.mk 1 0 2 1) 0).bind λr29=>(bif r29 then(fB 5).bind λr30=>ck (az (sub ([(bU.mk 1 0 (sub ([(ax.mk 0 0 4 4)]:U ax) 0 1) ([]))]:U bU) 0 1).length 1)<|(mW n (bT.mk ([]) ([]) ([]) ([]) ([]) ([]) ([]) 0 (sub ([(bU.mk 1 0 (sub ([(ax.mk 0 0 4 4)]:U ax) 0 1) ([]))]:U bU) 0 1) ([]) ([]) ([]) ([])) r30 (aS.mk 1 0 2 1) 0).bind λr31=>(bif (!r31)then(fB 6).bind λr32=>ck (az (sub ([(bU.mk 1 0 (sub ([(ax.mk 0 0 4 4)]:U ax) 0 1) ([]))]:U bU) 0 1).length 1)<|(gQ n (bT.mk ([]) ([]) ([]) ([]) ([]) ([]) ([]) 0 (sub ([(bU.mk 1 0 (sub ([(ax.mk 0 0 4 4)]:U ax) 0 1) ([]))]:U bU) 0 1) ([]) ([]) ([]) ([])) r32 0).bind λr33=>some ((r33.length:Int)==144)else some false)else some false)else some false)else some false)else some false)else some false)else some false)else some false)
def Ar(rc:(cu)->J Int)(a0:cu):Stp (Int×Int) Int
 |(v1,v2)=>(bif decide (v2<(a0.args.length:Int))then(bp a0.args v2).bind λx1=>(rc x1).bind λr1=>some (.inl ((i64.wrap (v1+r1)),(i64.wrap (v2+1))))else some (.inr v1))
def EB(rc:(cu)->J Int)(a0:cu):J Int:=
 (iter (Ar rc a0) n ((1:Int),(0:Int))).bind λw1=>some w1
def Im(rc:(cu)->J Int):b7 xx:=⟨[.d (.st SI.Expr)],[.d (.int .i64)],λa=>rc a.1,none⟩
def vB(n:Nat):Nat->(cu)->J Int
 | 0=>λ_=>none
 |m+1=>EB n (vB n m)
def Io(a0:cu):J Int:=vB n n a0
def um(a0:bq):Stp Int (Unit⊕Bool)
 |v2=>(bif decide (v2<(a0.defs.length:Int))then(bp a0.defs v2).bind λx1=>(Io n (cu.mk x1.ir x1.ly x1.kw x1.ii x1.ep)).bind λr1=>(bif decide (r1>30)then(some false).map λa=> .inr (.inr a)else some (.inl (i64.wrap (v2+1))))else some (.inr (.inl ())))
def uo(a0:bq):Stp Int (Unit⊕Bool)
 |v3=>(bif decide (v3<(a0.rules.length:Int))then((bp a0.rules v3).bind λx2=>(Io n (cu.mk x2.kB x2.mw x2.mn x2.jn x2.ga)).bind λr2=>(bif decide (r2>30)then some true else(bp a0.rules v3).bind λx3=>(bif decide ((x3.zones.length:Int)>5)then some true else(bp a0.rules v3).bind λx4=>some (decide ((x4.except.length:Int)>5))))).bind λv4=>(bif v4 then(some false).map λa=> .inr (.inr a)else some (.inl (i64.wrap (v3+1))))else some (.inr (.inl ())))
def uq(a0:bq):Stp Int (Unit⊕Bool)
 |v5=>(bif decide (v5<(a0.tables.length:Int))then(bp a0.tables v5).bind λx5=>(bif decide ((x5.rows.length:Int)>8)then(some false).map λa=> .inr (.inr a)else some (.inl (i64.wrap (v5+1))))else some (.inr (.inl ())))
def uw(a0:bq):Stp Int (Unit⊕Bool)
 |v6=>(bif decide (v6<(a0.zones.length:Int))then(bp a0.zones v6).bind λx6=>(bif decide ((x6.corners.length:Int)>12)then(some false).map λa=> .inr (.inr a)else some (.inl (i64.wrap (v6+1))))else some (.inr (.inl ())))
def uy(a0:bq):Stp Int (Unit⊕Bool)
 |v7=>(bif decide (v7<(a0.caps.length:Int))then(bp a0.caps v7).bind λx7=>(bif decide ((x7.corners.length:Int)>12)then(some false).map λa=> .inr (.inr a)else some (.inl (i64.wrap (v7+1))))else some (.inr (.inl ())))
def wN(a0:bq):J Bool:=
 ((bif decide ((a0.defs.length:Int)>5)then some true else(bif decide ((a0.rules.length:Int)>5)then some true else(bif decide ((a0.tables.length:Int)>4)then some true else(bif decide ((a0.zones.length:Int)>5)then some true else some (decide ((a0.caps.length:Int)>3))))))).bind λv1=>(bif v1 then some false else dw (iter (um n a0) n (0:Int)) λ()=>dw (iter (uo n a0) n (0:Int)) λ()=>dw (iter (uq a0) n (0:Int)) λ()=>dw (iter (uw a0) n (0:Int)) λ()=>dw (iter (uy a0) n (0:Int)) λ()=>some true)
def vR(a0:ax):J Bool:=
 (bif decide (a0.x0>=0)then(bif decide (a0.x0<(a0.x1:Int))then(bif decide (a0.x1<=1048576)then(bif decide (a0.y0>=0)then(bif decide (a0.y0<(a0.y1:Int))then some (decide (a0.y1<=1048576))else some false)else some false)else some false)else some false)else some false)
def qM(a0:U Int)(v1:Int)(v2:U Int):Stp Int Int
 |v3=>((bif decide (v3>0)then ck (cC (i64.wrap (v3 -1)) v2.length)<|(bp v2 ((0:Nat)+(i64.wrap (v3 -1)):Int)).bind λx1=>(bp a0 v1).bind λx2=>some (decide (x1>(x2:Int)))else some false)).bind λv4=>(bif v4 then some (.inl (i64.wrap (v3 -1)))else some (.inr v3))
def qN(w1:Int)(r1:U Int):Stp (Int×(List Int)) (List Int)
 |(v6,v7)=>(bif decide (v6>(w1:Int))then ck (cC (i64.wrap (v6 -1)) r1.length)<|(bp v7 ((0:Nat)+(i64.wrap (v6 -1)):Int)).bind λx5=>ck (cC v6 r1.length)<|(bp v7 ((0:Nat)+v6:Int)).bind λx6=>some (.inl ((i64.wrap (v6 -1)),(v7.set ((0:Nat)+v6:Int).toNat x5)))else some (.inr v7))
def vS(a0:U Int):Stp (Int×(List Int)) (List Int)
 |(v1,v2)=>(bif decide (v1<(a0.length:Int))then((iter (qM a0 v1 v2) n (v2.length:Int)).bind λw1=>((bif decide (w1>0)then ck (cC (i64.wrap (w1 -1)) v2.length)<|(bp v2 ((0:Nat)+(i64.wrap (w1 -1)):Int)).bind λx3=>(bp a0 v1).bind λx4=>some (x3==(x4:Int))else some false)).bind λv5=>(bif v5 then ck (az v2.length v2.length)<|some v2 else ck (bP v2.length v2.length (sub ([0]:U Int) 0 1).length 1 8)<|iL (v2++(sub ([0]:U Int) 0 1)) λr1=>(iter (qN w1 r1) n ((i64.wrap ((r1.length:Int) -1)),r1)).bind λw2=>(bp a0 v1).bind λx7=>ck (cC w1 r1.length)<|(bp w2 ((0:Nat)+w1:Int)).bind λx8=>ck (az r1.length (w2.set ((0:Nat)+w1:Int).toNat x7).length)<|some (w2.set ((0:Nat)+w1:Int).toNat x7)):J ((List Int))).bind λv8=>ck (az v8.length v8.length)<|some (.inl ((i64.wrap (v1+1)),v8))else ck (az v2.length v2.length)<|some (.inr v2))
def EC(a0:U Int):J (List Int):=
 ck (az 0 ([]:U Int).length)<|(iter (vS n a0) n ((0:Int),([]:U Int))).bind λw3=>ck (az (sub w3 0 w3.length).length w3.length)<|some (sub w3 0 w3.length)
def xV(a0:U ax):Stp (Int×(List Int)) (List Int)
 |(v1,v2)=>(bif decide (v1<(a0.length:Int))then(bp a0 v1).bind λx1=>(bp a0 v1).bind λx2=>ck (bP v2.length v2.length (sub ([x1.x0,x2.x1]:U Int) 0 2).length 2 8)<|iL (v2++(sub ([x1.x0,x2.x1]:U Int) 0 2)) λr1=>ck (az r1.length r1.length)<|some (.inl ((i64.wrap (v1+1)),r1))else ck (az v2.length v2.length)<|some (.inr v2))
def ED(a1:U ax):Stp (Int×(List Int)) (List Int)
 |(v3,v4)=>(bif decide (v3<(a1.length:Int))then(bp a1 v3).bind λx3=>(bp a1 v3).bind λx4=>ck (bP v4.length v4.length (sub ([x3.x0,x4.x1]:U Int) 0 2).length 2 8)<|iL (v4++(sub ([x3.x0,x4.x1]:U Int) 0 2)) λr2=>ck (az r2.length r2.length)<|some (.inl ((i64.wrap (v3+1)),r2))else ck (az v4.length v4.length)<|some (.inr v4))
def JK(a0:U ax)(a1:U ax):J (List Int):=
 ck (az 0 ([]:U Int).length)<|(iter (xV a0) n ((0:Int),([]:U Int))).bind λw1=>ck (az w1.length w1.length)<|(iter (ED a1) n ((0:Int),w1)).bind λw2=>ck (az (sub w2 0 w2.length).length w2.length)<|(EC n (sub w2 0 w2.length)).bind λr3=>ck (az (sub r3 0 r3.length).length r3.length)<|some (sub r3 0 r3.length)
def qO(a0:U ax)(v1:Int)(r1:U Int)(r2:U Int):Stp (Int×(List Int)×(List Int)) (Int×(List Int)×(List Int))
 |(v5,v6,v7)=>((bif decide (v5>0)then ck (cC (i64.wrap (v5 -1)) r1.length)<|(bp v6 ((0:Nat)+(i64.wrap (v5 -1)):Int)).bind λx3=>(bp a0 v1).bind λx4=>some (decide (x3>(x4.y0:Int)))else some false)).bind λv8=>(bif v8 then ck (cC (i64.wrap (v5 -1)) r1.length)<|(bp v6 ((0:Nat)+(i64.wrap (v5 -1)):Int)).bind λx5=>ck (cC v5 r1.length)<|(bp v6 ((0:Nat)+v5:Int)).bind λx6=>ck (cC (i64.wrap (v5 -1)) r2.length)<|(bp v7 ((0:Nat)+(i64.wrap (v5 -1)):Int)).bind λx7=>ck (cC v5 r2.length)<|(bp v7 ((0:Nat)+v5:Int)).bind λx8=>some (.inl ((i64.wrap (v5 -1)),(v6.set ((0:Nat)+v5:Int).toNat x5),(v7.set ((0:Nat)+v5:Int).toNat x7)))else some (.inr (v5,v6,v7)))
def qP(a0:U ax)(a1:Int):Stp (Int×(List Int)×(List Int)) ((List Int)×(List Int))
 |(v1,v2,v3)=>(bif decide (v1<(a0.length:Int))then(((bp a0 v1).bind λx1=>(bif decide (x1.x0>(a1:Int))then some true else(bp a0 v1).bind λx2=>some (decide (x2.x1<=(a1:Int))))).bind λv4=>(bif v4 then ck (az v2.length v2.length)<|ck (az v3.length v3.length)<|some (v2,v3)else ck (bP v2.length v2.length (sub ([0]:U Int) 0 1).length 1 8)<|iL (v2++(sub ([0]:U Int) 0 1)) λr1=>ck (bP v3.length v3.length (sub ([0]:U Int) 0 1).length 1 8)<|iL (v3++(sub ([0]:U Int) 0 1)) λr2=>(iter (qO a0 v1 r1 r2) n ((v2.length:Int),r1,r2)).bind λ(w1,w2,w3)=>(bp a0 v1).bind λx9=>ck (cC w1 r1.length)<|(bp w2 ((0:Nat)+w1:Int)).bind λx10=>(bp a0 v1).bind λx11=>ck (cC w1 r2.length)<|(bp w3 ((0:Nat)+w1:Int)).bind λx12=>ck (az r1.length (w2.set ((0:Nat)+w1:Int).toNat x9.y0).length)<|ck (az r2.length (w3.set ((0:Nat)+w1:Int).toNat x11.y1).length)<|some ((w2.set ((0:Nat)+w1:Int).toNat x9.y0),(w3.set ((0:Nat)+w1:Int).toNat x11.y1))):J ((List Int)×(List Int))).bind λ(v9,v10)=>ck (az v9.length v9.length)<|ck (az v10.length v10.length)<|some (.inl ((i64.wrap (v1+1)),v9,v10))else ck (az v2.length v2.length)<|ck (az v3.length v3.length)<|some (.inr (v2,v3)))
def qQ(w4:U Int)(w5:U Int):Stp (Int×(List Int)) (List Int)
 |(v11,v12)=>(bif decide (v11<(w4.length:Int))then(((bif decide ((v12.length:Int)>0)then ck (cC v11 w4.length)<|(bp w4 ((0:Nat)+v11:Int)).bind λx13=>ck (cC (i64.wrap ((v12.length:Int) -1)) v12.length)<|(bp v12 ((0:Nat)+(i64.wrap ((v12.length:Int) -1)):Int)).bind λx14=>some (decide (x13<=(x14:Int)))else some false)).bind λv13=>(bif v13 then ck (cC (i64.wrap ((v12.length:Int) -1)) v12.length)<|(bp v12 ((0:Nat)+(i64.wrap ((v12.length:Int) -1)):Int)).bind λx15=>ck (cC v11 w5.length)<|(bp w5 ((0:Nat)+v11:Int)).bind λx16=>ck (cC (i64.wrap ((v12.length:Int) -1)) v12.length)<|(bp v12 ((0:Nat)+(i64.wrap ((v12.length:Int) -1)):Int)).bind λx17=>ck (az v12.length (v12.set ((0:Nat)+(i64.wrap ((v12.length:Int) -1)):Int).toNat (max x15 x16)).length)<|some (v12.set ((0:Nat)+(i64.wrap ((v12.length:Int) -1)):Int).toNat (max x15 x16))else ck (cC v11 w4.length)<|(bp w4 ((0:Nat)+v11:Int)).bind λx18=>ck (cC v11 w5.length)<|(bp w5 ((0:Nat)+v11:Int)).bind λx19=>ck (bP v12.length v12.length (sub ([x18,x19]:U Int) 0 2).length 2 8)<|iL (v12++(sub ([x18,x19]:U Int) 0 2)) λr3=>ck (az r3.length r3.length)<|some r3):J ((List Int))).bind λv14=>ck (az v14.length v14.length)<|some (.inl ((i64.wrap (v11+1)),v14))else ck (az v12.length v12.length)<|some (.inr v12))
def yX(a0:U ax)(a1:Int):J (List Int):=
 ck (az 0 ([]:U Int).length)<|ck (az 0 ([]:U Int).length)<|(iter (qP n a0 a1) n ((0:Int),([]:U Int),([]:U Int))).bind λ(w4,w5)=>ck (az 0 ([]:U Int).length)<|(iter (qQ w4 w5) n ((0:Int),([]:U Int))).bind λw6=>ck (az (sub w6 0 w6.length).length w6.length)<|some (sub w6 0 w6.length)
def uz(a0:U Int)(a1:U Int)(a2:Int):Stp (Int×Int×Bool×(List Int)) (List Int)
 |(v1,v2,v3,v4)=>((bif decide (v1<(a0.length:Int))then some true else some (decide (v2<(a1.length:Int))))).bind λv5=>(bif v5 then(((bif decide (v1<(a0.length:Int))then(bif decide (v2>=(a1.length:Int))then some true else(bp a0 v1).bind λx1=>(bp a1 (min v2 (i64.wrap ((a1.length:Int) -1)))).bind λx2=>some (decide (x1<=(x2:Int))))else some false)).bind λv6=>(bif v6 then(bp a0 v1).bind λx3=>some x3 else(bp a1 v2).bind λx4=>some x4):J Int).bind λv7=>(((bif decide (v1<(a0.length:Int))then(bp a0 v1).bind λx5=>some (x5==(v7:Int))else some false)).bind λv8=>(bif v8 then some (i64.wrap (v1+1))else some v1):J Int).bind λv9=>(((bif decide (v2<(a1.length:Int))then(bp a1 v2).bind λx6=>some (x6==(v7:Int))else some false)).bind λv10=>(bif v10 then some (i64.wrap (v2+1))else some v2):J Int).bind λv11=>ck (2 !=0)<|ck (2 !=0)<|((bif ((Int.tmod v9 2)==1)then some true else some ((Int.tmod v11 2)==1))).bind λv12=>((bif (a2==1)then(bif ((Int.tmod v9 2)==1)then some ((Int.tmod v11 2)==1)else some false)else some v12)).bind λv13=>((bif (a2==2)then(bif ((Int.tmod v9 2)==1)then some (!((Int.tmod v11 2)==1))else some false)else some v13)).bind λv14=>((bif (!(v14==v3))then ck (bP v4.length v4.length (sub ([v7]:U Int) 0 1).length 1 8)<|iL (v4++(sub ([v7]:U Int) 0 1)) λr1=>ck (az r1.length r1.length)<|some r1 else ck (az v4.length v4.length)<|some v4):J ((List Int))).bind λv15=>ck (az v15.length v15.length)<|some (.inl (v9,v11,v14,v15))else ck (az v4.length v4.length)<|some (.inr v4))
def Au(a0:U Int)(a1:U Int)(a2:Int):J (List Int):=
 ck (az 0 ([]:U Int).length)<|(iter (uz a0 a1 a2) n ((0:Int),(0:Int),false,([]:U Int))).bind λw1=>ck (az (sub w1 0 w1.length).length w1.length)<|some (sub w1 0 w1.length)
def Av(a0:U Int)(a1:U Int):Stp Int (Unit⊕Bool)
 |v1=>(bif decide (v1<(a0.length:Int))then(bp a0 v1).bind λx1=>(bp a1 v1).bind λx2=>(bif (x1 !=(x2:Int))then(some false).map λa=> .inr (.inr a)else some (.inl (i64.wrap (v1+1))))else some (.inr (.inl ())))
def NT(a0:U Int)(a1:U Int):J Bool:=
 (bif ((a0.length:Int) !=(a1.length:Int))then some false else dw (iter (Av a0 a1) n (0:Int)) λ()=>some true)
def wO(r1:U Int)(v2:Int)(v3:U ax):Stp (Int×(List ax)) (List ax)
 |(v6,v7)=>(bif decide (v6<(v3.length:Int))then ck (cC (i64.wrap (v2+1)) r1.length)<|(bp r1 ((0:Nat)+(i64.wrap (v2+1)):Int)).bind λx3=>ck (cC v6 v3.length)<|(bp v7 ((0:Nat)+v6:Int)).bind λx4=>some (.inl ((i64.wrap (v6+1)),(v7.set ((0:Nat)+v6:Int).toNat (ax.mk x4.x0 x4.y0 x3 x4.y1))))else some (.inr v7))
def wP(r1:U Int)(v2:Int)(r4:U Int):Stp (Int×(List ax)) (List ax)
 |(v8,v9)=>(bif decide ((i64.wrap (v8+1))<(r4.length:Int))then ck (cC v2 r1.length)<|(bp r1 ((0:Nat)+v2:Int)).bind λx5=>ck (cC v8 r4.length)<|(bp r4 ((0:Nat)+v8:Int)).bind λx6=>ck (cC (i64.wrap (v2+1)) r1.length)<|(bp r1 ((0:Nat)+(i64.wrap (v2+1)):Int)).bind λx7=>ck (cC (i64.wrap (v8+1)) r4.length)<|(bp r4 ((0:Nat)+(i64.wrap (v8+1)):Int)).bind λx8=>ck (bP v9.length v9.length (sub ([(ax.mk x5 x6 x7 x8)]:U ax) 0 1).length 1 32)<|iL (v9++(sub ([(ax.mk x5 x6 x7 x8)]:U ax) 0 1)) λr6=>ck (az r6.length r6.length)<|some (.inl ((i64.wrap (v8+2)),r6))else ck (az v9.length v9.length)<|some (.inr v9))
def Aw(a0:U ax)(a1:U ax)(a2:Int)(r1:U Int):Stp (Int×Int×(List ax)×(List Int)) (List ax)
 |(v1,v2,v3,v4)=>(bif decide ((i64.wrap (v2+1))<(r1.length:Int))then(ck (cC v2 r1.length)<|(bp r1 ((0:Nat)+v2:Int)).bind λx1=>(yX n a0 x1).bind λr2=>ck (cC v2 r1.length)<|(bp r1 ((0:Nat)+v2:Int)).bind λx2=>(yX n a1 x2).bind λr3=>ck (az (sub r2 0 r2.length).length r2.length)<|ck (az (sub r3 0 r3.length).length r3.length)<|(Au n (sub r2 0 r2.length) (sub r3 0 r3.length) a2).bind λr4=>((bif decide (v2>0)then(bif decide ((r4.length:Int)>0)then ck (az (sub r4 0 r4.length).length r4.length)<|ck (az (sub v4 0 v4.length).length v4.length)<|(NT n (sub r4 0 r4.length) (sub v4 0 v4.length)).bind λr5=>some r5 else some false)else some false)).bind λv5=>(bif v5 then(iter (wO r1 v2 v3) n (v1,v3)).bind λw1=>ck (az v3.length w1.length)<|ck (az v4.length v4.length)<|some (v1,w1,v4)else ck (az v3.length v3.length)<|(iter (wP r1 v2 r4) n ((0:Int),v3)).bind λw2=>ck (az w2.length w2.length)<|ck (az r4.length r4.length)<|some ((v3.length:Int),w2,r4)):J (Int×(List ax)×(List Int))).bind λ(v10,v11,v12)=>ck (az v11.length v11.length)<|ck (az v12.length v12.length)<|some (.inl (v10,(i64.wrap (v2+1)),v11,v12))else ck (az v3.length v3.length)<|some (.inr v3))
def NU(a0:U ax)(a1:U ax)(a2:Int):J (List ax):=
 (JK n a0 a1).bind λr1=>ck (az 0 ([]:U ax).length)<|ck (az 0 ([]:U Int).length)<|(iter (Aw n a0 a1 a2 r1) n ((0:Int),(0:Int),([]:U ax),([]:U Int))).bind λw3=>ck (az (sub w3 0 w3.length).length w3.length)<|some (sub w3 0 w3.length)
def JL(a0:U ax):Stp Int (Unit⊕((List ax)×Int))
 |v1=>(bif decide (v1<(a0.length:Int))then(bp a0 v1).bind λx1=>(vR x1).bind λr1=>(bif (!r1)then(some (([]:(List ax)),(1:Int))).map λa=> .inr (.inr a)else some (.inl (i64.wrap (v1+1))))else some (.inr (.inl ())))
def OK(a0:U ax):J ((List ax)×Int):=
 dw (iter (JL a0) n (0:Int)) λ()=>(bif decide ((a0.length:Int)>400)then some (([]:(List ax)),(6:Int))else(NU n a0 ([]) 0).bind λr2=>(bif decide ((r2.length:Int)>200)then some (([]:(List ax)),(6:Int))else ck (az (sub r2 0 r2.length).length r2.length)<|some ((sub r2 0 r2.length),(0:Int))))
def Ay(a0:U ax)(a1:U ax):Stp Int (Unit⊕Bool)
 |v1=>(bif decide (v1<(a0.length:Int))then(bp a0 v1).bind λx1=>(bp a1 v1).bind λx2=>(bif (!((x1.x0==(x2.x0:Int))&&((x1.y0==(x2.y0:Int))&&((x1.x1==(x2.x1:Int))&&((x1.y1==(x2.y1:Int))&&true)))))then(some false).map λa=> .inr (.inr a)else some (.inl (i64.wrap (v1+1))))else some (.inr (.inl ())))
def NV(a0:U ax)(a1:U ax):J Bool:=
 (bif ((a0.length:Int) !=(a1.length:Int))then some false else dw (iter (Ay a0 a1) n (0:Int)) λ()=>some true)
def JM(a0:U ax):J Bool:=
 (OK n a0).bind λr1=>(bif (r1.2==0)then ck (az (sub r1.1 0 r1.1.length).length r1.1.length)<|(NV n (sub r1.1 0 r1.1.length) a0).bind λr2=>some r2 else some false)
def vT(a0:U ax)(x1:ax):Stp (Int×Int×Int×Int×Int) (Int×Int×Int×Int)
 |(v2,v3,v4,v5,v6)=>(bif decide (v2<(a0.length:Int))then(bp a0 v2).bind λx2=>(bp a0 v2).bind λx3=>(bp a0 v2).bind λx4=>(bp a0 v2).bind λx5=>some (.inl ((i64.wrap (v2+1)),(min v3 x2.x0),(min v4 x3.y0),(max v5 x4.x1),(max v6 x5.y1)))else some (.inr (v3,v4,v5,v6)))
def EF(a0:U ax):J (ax×Bool):=
 ((bif ((a0.length:Int)==0)then some true else(JM n a0).bind λr1=>some (!r1))).bind λv1=>(bif v1 then some ((ax.mk 0 0 0 0),false)else(bp a0 0).bind λx1=>(iter (vT a0 x1) n ((1:Int),x1.x0,x1.y0,x1.x1,x1.y1)).bind λ(w1,w2,w3,w4)=>some ((ax.mk w1 w2 w3 w4),true))
def EG(a0:bU):J Bool:=
 (bif decide ((a0.area.length:Int)>4)then some false else(EF n a0.area).bind λr1=>(bif (!r1.2)then some true else(bif decide ((i64.wrap (r1.1.x1 -r1.1.x0))<=4)then some true else some (decide ((i64.wrap (r1.1.y1 -r1.1.y0))<=4)))))
def EH(a0:bT):Stp Int (Unit⊕Bool)
 |v2=>(bif decide (v2<(a0.land.length:Int))then(bp a0.land v2).bind λx1=>(EG n x1).bind λr2=>(bif (!r2)then(some false).map λa=> .inr (.inr a)else some (.inl (i64.wrap (v2+1))))else some (.inr (.inl ())))
def EI(a0:bT):Stp Int (Unit⊕Bool)
 |v3=>(bif decide (v3<(a0.bz.length:Int))then(bp a0.bz v3).bind λx2=>(bif decide ((x2.area.length:Int)>4)then(some false).map λa=> .inr (.inr a)else some (.inl (i64.wrap (v3+1))))else some (.inr (.inl ())))
def EJ(a0:bT):J Bool:=
 ((wN n (bq.mk a0.cj a0.ca a0.b8 a0.bj a0.cw a0.cm a0.cD a0.co)).bind λr1=>(bif (!r1)then some true else(bif decide ((a0.land.length:Int)>2)then some true else(bif decide ((a0.bz.length:Int)>3)then some true else some (decide ((a0.built.length:Int)>6)))))).bind λv1=>(bif v1 then some false else dw (iter (EH n a0) n (0:Int)) λ()=>dw (iter (EI a0) n (0:Int)) λ()=>some true)
def rW(a1:U bq):Stp (Int×(List fw)×(List cB)×(List dN)×(List bV)×(List fZ)×(List eU)×(List bW)×Int×(List bU)×(List jl)×(List Ej)×(List iH)×(List bR)) (((List fw)×(List cB)×(List dN)×(List bV)×(List fZ)×(List eU)×(List bW)×Int×(List bU)×(List jl)×(List Ej)×(List iH)×(List bR))⊕Bool)
 |(v1,v2,v3,v4,v5,v6,v7,v8,v9,v10,v11,v12,v13,v14)=>(bif decide (v1<(a1.length:Int))then(bp a1 v1).bind λx1=>(EJ n (bT.mk x1.defs x1.tables x1.zones x1.rules x1.caps x1.views x1.nr x1.hours v10 v11 v12 v13 v14)).bind λr1=>(bif (!r1)then(some false).map λa=> .inr (.inr a)else some (.inl ((i64.wrap (v1+1)),x1.defs,x1.tables,x1.zones,x1.rules,x1.caps,x1.views,x1.nr,x1.hours,v10,v11,v12,v13,v14)))else some (.inr (.inl (v2,v3,v4,v5,v6,v7,v8,v9,v10,v11,v12,v13,v14))))
def UF(a0:bT)(a1:U bq):J Bool:=
 dw (iter (rW n a1) n ((0:Int),a0.cj,a0.ca,a0.b8,a0.bj,a0.cw,a0.cm,a0.cD,a0.co,a0.land,a0.bz,a0.windows,a0.built,a0.base)) λ(w1,w2,w3,w4,w5,w6,w7,w8,w9,wj,wi,PJ,PH)=>(EJ n (bT.mk w1 w2 w3 w4 w5 w6 w7 w8 w9 wj wi PJ PH)).bind λr2=>some r2
def o8(a0:Int)(a1:Int)(a2:Bool)(a3:Int):J (Bool×Int):=
 ((bif decide (a0>(a1:Int))then(bif (!a2)then some true else some (decide (a0<(a3:Int))))else some false)).bind λv1=>(bif v1 then some (true,a0)else some (a2,a3))
def o9(a0:bq)(a1:Int):Stp (Int×Int×Bool) (Int×Bool)
 |(v1,v2,v3)=>(bif decide (v1<(a0.rules.length:Int))then((bp a0.rules v1).bind λx1=>(o8 x1.from_ a1 v3 v2).bind λr1=>(bif (x1.cM !=0)then(o8 x1.cM a1 r1.1 r1.2).bind λr2=>some (r2.2,r2.1)else some (r1.2,r1.1)):J (Int×Bool)).bind λ(v4,v5)=>some (.inl ((i64.wrap (v1+1)),v4,v5))else some (.inr (v2,v3)))
def Az(a0:bq)(a1:Int):J (Int×Bool):=
 (iter (o9 a0 a1) n ((0:Int),(0:Int),false)).bind λ(w1,w2)=>some (w1,w2)
def nO(a0:U Bool)(a1:U Bool):Stp Int (Unit⊕Bool)
 |v1=>(bif decide (v1<(a0.length:Int))then(bp a0 v1).bind λx1=>(bp a1 v1).bind λx2=>(bif (!(x1==x2))then(some false).map λa=> .inr (.inr a)else some (.inl (i64.wrap (v1+1))))else some (.inr (.inl ())))
def JN(a0:U Bool)(a1:U Bool):J Bool:=
 (bif ((a0.length:Int) !=(a1.length:Int))then some false else dw (iter (nO a0 a1) n (0:Int)) λ()=>some true)
def iA(a0:bT)(a1:bq)(a2:Int)(r3:U Bool)(r4:U aS)(v2:Int):Stp Int (Unit⊕(Int⊕(Unit⊕Bool)))
 |v3=>(bif decide (v3<(a0.land.length:Int))then(bp a0.land v3).bind λx1=>(bp (sub r4 0 r4.length) v2).bind λx2=>(bif (x1.id !=(x2.lot:Int))then some (.inl (i64.wrap (v3+1)))else(bp a0.land v3).bind λx3=>(bp (sub r4 0 r4.length) v2).bind λx4=>(qG n x3 x4).bind λr5=>((bif (!r5.2)then some true else(gF n (bT.mk a1.defs a1.tables a1.zones a1.rules a1.caps a1.views a1.nr a1.hours a0.land a0.bz a0.windows a0.built a0.base) r5.1 a2).bind λr6=>ck (cC v2 r3.length)<|(bp r3 ((0:Nat)+v2:Int)).bind λx5=>some (!(r6==x5)))).bind λv4=>(bif v4 then((some false).map λa=> .inr (.inr a)).map λa=> .inr (.inr a)else some (.inr (.inl ()))))else some (.inr (.inl ())))
def iB(a0:bT)(a1:bq)(a2:Int)(r3:U Bool)(r4:U aS):Stp Int (Unit⊕Bool)
 |v2=>(bif decide (v2<(((sub r4 0 r4.length).length:Int):Int))then dw (iter (iA n a0 a1 a2 r3 r4 v2) n (0:Int)) λ()=>some (.inl (i64.wrap (v2+1)))else some (.inr (.inl ())))
def mM(a0:bT)(a1:bq)(a2:Int):J Bool:=
 (CU n).bind λr1=>(ck (az (sub ([a1]:U bq) 0 1).length 1)<|(UF n a0 (sub ([a1]:U bq) 0 1)).bind λr2=>(bif (!r2)then some true else(bif decide (a2<0)then some true else some (decide (a2>1073741824))))).bind λv1=>(bif v1 then some r1 else(gQ n a0 a1 a2).bind λr3=>(o6 n a0.land).bind λr4=>ck (az (sub r4 0 r4.length).length r4.length)<|(bif ((r3.length:Int) !=(((sub r4 0 r4.length).length:Int):Int))then some false else dw (iter (iB n a0 a1 a2 r3 r4) n (0:Int)) λ()=>(Az n a1 a2).bind λr7=>((bif r7.2 then some (i64.wrap (r7.1 -1))else some (1073741824:Int)):J Int).bind λv5=>(bif r1 then(gQ n a0 (bq.mk a1.defs a1.tables a1.zones a1.rules ([]) ([]) a1.nr 0) v5).bind λr8=>ck (az (sub r8 0 r8.length).length r8.length)<|ck (az (sub r3 0 r3.length).length r3.length)<|(JN n (sub r8 0 r8.length) (sub r3 0 r3.length)).bind λr9=>some r9 else some false)))
end
end Go.Proofs
