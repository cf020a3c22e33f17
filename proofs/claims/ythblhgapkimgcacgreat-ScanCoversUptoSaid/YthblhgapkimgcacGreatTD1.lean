import Derived.Test.YthblhgapkimgcacGreatTBase
open Go.IntKind (i64)
namespace Go.Proofs
open Go.Gb Go.RowKit
noncomputable section
variable (n:Nat)
def u7(a0:Int):J cB:=
 ck (aE (sub ([(cB.mk 1 0 (⟨#[104,101,105,103,104,116]⟩) (⟨#[]⟩) ([])),(cB.mk 0 a0 (⟨#[]⟩) (⟨#[]⟩) ([]))]:U cB) 0 2).length 2)<|some (cB.mk 12 0 (⟨#[]⟩) (⟨#[]⟩) (sub ([(cB.mk 1 0 (⟨#[104,101,105,103,104,116]⟩) (⟨#[]⟩) ([])),(cB.mk 0 a0 (⟨#[]⟩) (⟨#[]⟩) ([]))]:U cB) 0 2))
def yR(a0:bI):J bR:=
 ck (aE (sub ([(bV.mk 0 0),(bV.mk 9 0),(bV.mk 9 9),(bV.mk 0 9)]:U bV) 0 4).length 4)<|ck (aE (sub ([(ax.mk 0 0 4 4)]:U ax) 0 1).length 1)<|ck (aE (sub ([(dJ.mk (⟨#[99,111,114,101]⟩) false (sub ([(bV.mk 0 0),(bV.mk 9 0),(bV.mk 9 9),(bV.mk 0 9)]:U bV) 0 4))]:U dJ) 0 1).length 1)<|ck (aE (sub ([a0]:U bI) 0 1).length 1)<|ck (aE (sub ([(cK.mk 1 0 (sub ([(ax.mk 0 0 4 4)]:U ax) 0 1) ([]))]:U cK) 0 1).length 1)<|some (bR.mk ([]) ([]) (sub ([(dJ.mk (⟨#[99,111,114,101]⟩) false (sub ([(bV.mk 0 0),(bV.mk 9 0),(bV.mk 9 9),(bV.mk 0 9)]:U bV) 0 4))]:U dJ) 0 1) (sub ([a0]:U bI) 0 1) ([]) ([]) ([]) 0 (sub ([(cK.mk 1 0 (sub ([(ax.mk 0 0 4 4)]:U ax) 0 1) ([]))]:U cK) 0 1) ([]) ([]) ([]) ([]))
def wZ:J (List ByteArray):=
 ck (aE (sub ([⟨#[97,114,101,97]⟩,⟨#[99,111,118,101,114]⟩,⟨#[102,108,111,111,114]⟩,⟨#[102,108,111,111,114,115]⟩,⟨#[104,101,105,103,104,116]⟩,⟨#[104,111,109,101,115]⟩,⟨#[114,117,110,111,102,102]⟩,⟨#[115,101,116,98,97,99,107]⟩,⟨#[116,114,97,102,102,105,99]⟩]:U ByteArray) 0 9).length 9)<|some (sub ([⟨#[97,114,101,97]⟩,⟨#[99,111,118,101,114]⟩,⟨#[102,108,111,111,114]⟩,⟨#[102,108,111,111,114,115]⟩,⟨#[104,101,105,103,104,116]⟩,⟨#[104,111,109,101,115]⟩,⟨#[114,117,110,111,102,102]⟩,⟨#[115,101,116,98,97,99,107]⟩,⟨#[116,114,97,102,102,105,99]⟩]:U ByteArray) 0 9)
mutual
def toE:cB->ET
 |⟨op,_,s,_,args⟩=> .mk op s (Ir args)
def Ir:List cB->List ET
 |[]=>[]
 |x::xs=>toE x::Ir xs
end
def toD(d:eu):ByteArray×ET:=(d.name,.mk d.jn d.k7 (Ir d.eL))
def kN(a0:U eu):J ((List eu)×(List (List Int))):=ck (Nat.ble (rj (a0.map toD)) 4000000)<|some (a0,oK (a0.map toD))
def qG(a0:U Int)(a1:Int):J (List Int):=match a0 with
 |[x]=>ck (decide (0<=a1)&&decide (a1<=1000000000000))<|some (List.replicate a1.toNat x)
 |_=>none
def SQ(a0:U Int)(a1:Int):Stp Int (Unit⊕Int)
 |v1=>(bif decide (v1<(a0.length:Int))then(bo a0 v1).bind λx1=>(bif (a1==(x1:Int))then(some v1).map λa=> .inr (.inr a)else some (.inl (i64.wrap (v1+1))))else some (.inr (.inl ())))
def EA(a0:U Int)(a1:Int):J Int:=
 dF (iter (SQ a0 a1) n (0:Int)) λ()=>some ((-1):Int)
def qZ(a0:U Int)(a1:Int):J Bool:=
 (EA n a0 a1).bind λr1=>some (decide (r1>=0))
def fU(a0:o9)(r1:U Int)(x2:Int):Stp (Int×Int×(List Int)×(List Int)) (Int×(List Int)×(List Int))
 |(v4,v5,v6,v7)=>(bif decide (v5<(a0.uses.length:Int))then((bo a0.uses v5).bind λx3=>(ck (cN v5 r1.length)<|(bo v6 ((0:Nat)+v5:Int)).bind λx4=>(bif decide (x4<0)then(qZ n x3 x2).bind λr2=>some r2 else some false)).bind λv8=>(bif v8 then ck (cN x2 r1.length)<|(bo v6 ((0:Nat)+x2:Int)).bind λx5=>ck (cN v5 r1.length)<|(bo v6 ((0:Nat)+v5:Int)).bind λx6=>ck (bP (VE ((v4:Int).toNat) v7).length (v7.length -(v4:Int).toNat) (sub ([v5]:U Int) 0 1).length 1 8)<|gV ((VE ((v4:Int).toNat) v7)++(sub ([v5]:U Int) 0 1)) λr3=>ck (aE (0+r3.length) r3.length)<|some ((0:Int),(v6.set ((0:Nat)+v5:Int).toNat (i64.wrap (x5+1))),r3)else ck (aE (((v4:Int).toNat)+(v7.length -(v4:Int).toNat)) v7.length)<|some ((((v4:Int).toNat:Nat):Int),v6,v7)):J (Int×(List Int)×(List Int))).bind λ(v9,v10,v11)=>ck (aE (((v9:Int).toNat)+(v11.length -(v9:Int).toNat)) v11.length)<|some (.inl ((((v9:Int).toNat:Nat):Int),(i64.wrap (v5+1)),v10,v11))else ck (aE (((v4:Int).toNat)+(v7.length -(v4:Int).toNat)) v7.length)<|some (.inr ((((v4:Int).toNat:Nat):Int),v6,v7)))
def dY(a0:o9)(r1:U Int):Stp (Int×(List Int)×(List Int)) (List Int)
 |(v1,v2,v3)=>(bif (decide ((((v3.length -(v1:Int).toNat):Nat):Int)>0))then ck (cN 0 (v3.length -(v1:Int).toNat))<|(bo v3 (((v1:Int).toNat:Nat)+0:Int)).bind λx2=>ck (yG 1 (((v3.length -(v1:Int).toNat):Nat):Int) (v3.length -(v1:Int).toNat))<|ck (aE (((v1:Int).toNat+1)+((v3.length -(v1:Int).toNat) -1)) v3.length)<|(iter (fU n a0 r1 x2) n (((((v1:Int).toNat+1):Nat):Int),(0:Int),v2,v3)).bind λ(w1,w2,w3)=>ck (aE (((w1:Int).toNat)+(w3.length -(w1:Int).toNat)) w3.length)<|some (.inl ((((w1:Int).toNat:Nat):Int),w2,w3))else some (.inr v2))
def jB(a0:o9)(a1:Int):J (List Int):=
 ck (aE (sub ([(-1)]:U Int) 0 1).length 1)<|(qG (sub ([(-1)]:U Int) 0 1) (a0.defs.length:Int)).bind λr1=>ck (cN a1 r1.length)<|(bo r1 ((0:Nat)+a1:Int)).bind λx1=>ck (aE (0+1) ([a1]:U Int).length)<|(iter (dY n a0 r1) n ((0:Int),(r1.set ((0:Nat)+a1:Int).toNat 0),([a1]:U Int))).bind λw4=>ck (aE (sub w4 0 r1.length).length r1.length)<|some (sub w4 0 r1.length)
def cmp_isNaN_string(a0:ByteArray):J Bool:=
 some (!(ByteArray.toList a0==ByteArray.toList a0))
def nH(a0:ByteArray)(a1:ByteArray):J Int:=
 (cmp_isNaN_string a0).bind λr1=>(cmp_isNaN_string a1).bind λr2=>(bif r1 then(bif r2 then some (0:Int)else some ((-1):Int))else(bif r2 then some (1:Int)else(bif (Vz a0 a1)then some ((-1):Int)else(bif (!(Vz a0 a1 || ByteArray.toList a0==ByteArray.toList a1))then some (1:Int)else some (0:Int)))))
def lC(a0:U ByteArray)(a1:U ByteArray):Stp Int (Unit⊕Int)
 |v1=>(bif decide (v1<(a0.length:Int))then(bo a0 v1).bind λx1=>(bif decide (v1>=(a1.length:Int))then(some (1:Int)).map λa=> .inr (.inr a)else(bo a1 v1).bind λx2=>(nH x1 x2).bind λr1=>(bif (r1 !=0)then(some r1).map λa=> .inr (.inr a)else some (.inl (i64.wrap (v1+1)))))else some (.inr (.inl ())))
def lD(a0:U ByteArray)(a1:U ByteArray):J Int:=
 dF (iter (lC a0 a1) n (0:Int)) λ()=>(bif decide ((a0.length:Int)<(a1.length:Int))then some ((-1):Int)else some (0:Int))
def mh(a0:Int)(a1:U Bool):J (Bool×(List Bool)):=
 ck (cN a0 a1.length)<|(bo a1 ((0:Nat)+a0:Int)).bind λx1=>ck (aE a1.length a1.length)<|some ((!x1),a1)
def jC(a0:U Int):Stp (Int×(List Bool)) ((List Bool)⊕(Int×(List Bool)))
 |(v1,v2)=>(bif decide (v1<(a0.length:Int))then(bo a0 v1).bind λx1=>ck (aE v2.length v2.length)<|(mh x1 v2).bind λr1=>(bif r1.1 then(ck (aE r1.2.length r1.2.length)<|some (v1,r1.2)).map λa=> .inr (.inr a)else ck (aE r1.2.length r1.2.length)<|some (.inl ((i64.wrap (v1+1)),r1.2)))else ck (aE v2.length v2.length)<|some (.inr (.inl v2)))
def mK(a0:U Int)(a1:U Bool):J (Int×(List Bool)):=
 ck (aE a1.length a1.length)<|dF (iter (jC a0) n ((0:Int),a1)) λw1=>ck (aE w1.length w1.length)<|some (((-1):Int),w1)
def ic(a0:U Int)(a1:U Bool):J (Bool×(List Bool)):=
 ck (aE a1.length a1.length)<|(mK n a0 a1).bind λr1=>ck (aE r1.2.length r1.2.length)<|some ((decide (r1.1>=0)),r1.2)
def iE(a0:o9):Stp (Int×Int×(List Bool)) (Int×(List Bool))
 |(v4,v5,v6)=>(bif decide (v5<(a0.uses.length:Int))then((bo a0.uses v5).bind λx1=>ck (aE v6.length v6.length)<|(ic n x1 v6).bind λr1=>(ck (cN v5 r1.2.length)<|(bo r1.2 ((0:Nat)+v5:Int)).bind λx2=>(bif (!x2)then(bif (!r1.1)then(bif decide (v4<0)then some true else(bo a0.defs v5).bind λx3=>(bo a0.defs v4).bind λx4=>some (Vz x3.name x4.name))else some false)else some false)).bind λv7=>(bif v7 then ck (aE r1.2.length r1.2.length)<|some (v5,r1.2)else ck (aE r1.2.length r1.2.length)<|some (v4,r1.2)):J (Int×(List Bool))).bind λ(v8,v9)=>ck (aE v9.length v9.length)<|some (.inl (v8,(i64.wrap (v5+1)),v9))else ck (aE v6.length v6.length)<|some (.inr (v4,v6)))
def kD(a0:o9):Stp (Int×(List Int)×(List Bool)) (List Int)
 |(v1,v2,v3)=>(bif decide (v1<(a0.defs.length:Int))then ck (aE v3.length v3.length)<|(iter (iE n a0) n (((-1):Int),(0:Int),v3)).bind λ(w1,w2)=>ck (cN w1 w2.length)<|(bo w2 ((0:Nat)+w1:Int)).bind λx5=>ck (bP v2.length v2.length (sub ([w1]:U Int) 0 1).length 1 8)<|gV (v2++(sub ([w1]:U Int) 0 1)) λr2=>ck (aE r2.length r2.length)<|ck (aE w2.length (w2.set ((0:Nat)+w1:Int).toNat true).length)<|some (.inl ((i64.wrap (v1+1)),r2,(w2.set ((0:Nat)+w1:Int).toNat true)))else ck (aE v2.length v2.length)<|some (.inr v2))
def nI(a0:o9):J (List Int):=
 ck (decide ((a0.defs.length:Int)<=(a0.defs.length:Int))&&(decide (0<=(a0.defs.length:Int))&&xE (a0.defs.length:Int) 1))<|ck (aE 0 ([]:U Int).length)<|ck (aE ((a0.defs.length:Int).toNat) (List.replicate (a0.defs.length:Int).toNat false).length)<|(iter (kD n a0) n ((0:Int),([]:U Int),(List.replicate (a0.defs.length:Int).toNat false))).bind λw3=>ck (aE (sub w3 0 w3.length).length w3.length)<|some (sub w3 0 w3.length)
def iB(r1:U Int)(x2:U Int):Stp (Int×Int) Int
 |(v3,v4)=>(bif decide (v4<(x2.length:Int))then((bo x2 v4).bind λx3=>(ck (cN x3 r1.length)<|(bo r1 ((0:Nat)+x3:Int)).bind λx4=>(bif decide (x4>=0)then(bif decide (v3<0)then some true else ck (cN x3 r1.length)<|(bo r1 ((0:Nat)+x3:Int)).bind λx5=>ck (cN v3 r1.length)<|(bo r1 ((0:Nat)+v3:Int)).bind λx6=>some (decide (x5<(x6:Int))))else some false)).bind λv5=>(bif v5 then some x3 else some v3):J Int).bind λv6=>some (.inl (v6,(i64.wrap (v4+1))))else some (.inr v3))
def kK(a0:Int)(a1:U eu)(a2:U (List Int))(r1:U Int):Stp (Int×(List ByteArray)) (Unit⊕((List eu)×(List (List Int))×(List ByteArray)))
 |(v1,v2)=>(bo a1 v1).bind λx1=>ck (bP v2.length v2.length (sub ([x1.name]:U ByteArray) 0 1).length 1 16)<|gV (v2++(sub ([x1.name]:U ByteArray) 0 1)) λr2=>(bo a2 v1).bind λx2=>(iter (iB r1 x2) n (((-1):Int),(0:Int))).bind λw1=>(bif decide (w1<0)then(ck (aE 0 ([]:U ByteArray).length)<|some (a1,a2,([]:U ByteArray))).map λa=> .inr (.inr a)else(bif (w1==(a0:Int))then(ck (!(r2.length==0)&&aE r2.length r2.length)<|some (a1,a2,r2)).map λa=> .inr (.inr a)else ck (aE r2.length r2.length)<|some (.inl (w1,r2))))
def jD(a0:Int)(a1:U eu)(a2:U (List Int)):J ((List eu)×(List (List Int))×(List ByteArray)):=
 (jB n (o9.mk a1 a2) a0).bind λr1=>ck (aE 0 ([]:U ByteArray).length)<|dF (iter (kK n a0 a1 a2 r1) n (a0,([]:U ByteArray))) λ()=>none
def gP(a0:U eu):Stp (Int×(List eu)×(List (List Int))×(List ByteArray)) ((List eu)×(List (List Int))×(List ByteArray))
 |(v1,v2,v3,v4)=>(bif decide (v1<(a0.length:Int))then((jD n v1 v2 v3).bind λr1=>((bif r1.2.2.length==0 then some true else some false)).bind λv5=>(bif v5 then ck (aE v4.length v4.length)<|some (r1.1,r1.2.1,v4)else((bif v4.length==0 then some true else(bif decide ((r1.2.2.length:Int)<(v4.length:Int))then some true else(bif ((r1.2.2.length:Int)==(v4.length:Int))then ck (aE (sub r1.2.2 0 r1.2.2.length).length r1.2.2.length)<|ck (aE (sub v4 0 v4.length).length v4.length)<|(lD n (sub r1.2.2 0 r1.2.2.length) (sub v4 0 v4.length)).bind λr2=>some (decide (r2<0))else some false)))).bind λv6=>(bif v6 then ck (aE r1.2.2.length r1.2.2.length)<|some (r1.1,r1.2.1,r1.2.2)else ck (aE v4.length v4.length)<|some (r1.1,r1.2.1,v4))):J ((List eu)×(List (List Int))×(List ByteArray))).bind λ(v7,v8,v9)=>ck (aE v9.length v9.length)<|some (.inl ((i64.wrap (v1+1)),v7,v8,v9))else ck (aE v4.length v4.length)<|some (.inr (v2,v3,v4)))
def iT(a0:U eu)(a1:U (List Int)):J ((List eu)×(List (List Int))×(List ByteArray)):=
 ck (aE 0 ([]:U ByteArray).length)<|(iter (gP n a0) n ((0:Int),a0,a1,([]:U ByteArray))).bind λ(w1,w2,w3)=>ck (aE w3.length w3.length)<|some (w1,w2,w3)
def nY(r1:U ByteArray):Stp (Int×(List (ByteArray×Bool))) (List (ByteArray×Bool))
 |(v1,v2)=>(bif decide (v1<(r1.length:Int))then ck (cN v1 r1.length)<|(bo r1 ((0:Nat)+v1:Int)).bind λx1=>some (.inl ((i64.wrap (v1+1)),(o6 lv x1 true v2)))else some (.inr v2))
def kP(a0:bS):Stp (Int×(List (ByteArray×Bool))) (Unit⊕((List Int)×(List ByteArray)×Int))
 |(v3,v4)=>(bif decide (v3<(a0.defs.length:Int))then(bo a0.defs v3).bind λx2=>(bif ((eY lv x2.name v4).getD false)then(some (([]:(List Int)),([]:(List ByteArray)),(5:Int))).map λa=> .inr (.inr a)else some (.inl ((i64.wrap (v3+1)),(o6 lv x2.name true v4))))else some (.inr (.inl ())))
def jE(a0:bS):J ((List Int)×(List ByteArray)×Int):=
 (wZ).bind λr1=>(iter (nY r1) n ((0:Int),([]:(List (ByteArray×Bool))))).bind λw1=>dF (iter (kP a0) n ((0:Int),w1)) λ()=>(kN a0.defs).bind λr2=>(iT n r2.1 r2.2).bind λr3=>((bif r3.2.2.length==0 then some false else some true)).bind λv5=>(bif v5 then ck (aE (sub r3.2.2 0 r3.2.2.length).length r3.2.2.length)<|some (([]:(List Int)),(sub r3.2.2 0 r3.2.2.length),(16:Int))else(nI n (o9.mk r3.1 r3.2.1)).bind λr4=>ck (aE (sub r4 0 r4.length).length r4.length)<|some ((sub r4 0 r4.length),([]:(List ByteArray)),(0:Int)))
def oM(a0:U bV):Stp (Int×(List jr)) (List jr)
 |(v1,v2)=>(bif decide (v1<(a0.length:Int))then(bo a0 v1).bind λx1=>ck ((a0.length:Int) !=0)<|(bo a0 (Int.tmod (i64.wrap (v1+1)) (a0.length:Int))).bind λx2=>ck (cN v1 ((a0.length:Int).toNat))<|(bo v2 ((0:Nat)+v1:Int)).bind λx3=>some (.inl ((i64.wrap (v1+1)),(v2.set ((0:Nat)+v1:Int).toNat (jr.mk x1.x x1.y x2.x x2.y))))else some (.inr v2))
def pq(a0:U bV):J (List jr):=
 ck (decide ((a0.length:Int)<=(a0.length:Int))&&(decide (0<=(a0.length:Int))&&xE (a0.length:Int) 32))<|(iter (oM a0) n ((0:Int),(List.replicate (a0.length:Int).toNat (jr.mk 0 0 0 0)))).bind λw1=>ck (aE (sub w1 0 ((a0.length:Int).toNat)).length ((a0.length:Int).toNat))<|some (sub w1 0 ((a0.length:Int).toNat))
def tH(a0:bV):J Bool:=
 (bif decide (0<=(a0.x:Int))then(bif decide (a0.x<=1048576)then(bif decide (0<=(a0.y:Int))then some (decide (a0.y<=1048576))else some false)else some false)else some false)
def gH(a0:jr):J Bool:=
 some (a0.l4==(a0.mw:Int))
def cmp_isNaN_int(a0:Int):J Bool:=
 some (a0 !=(a0:Int))
def cmp_Compare_int(a0:Int)(a1:Int):J Int:=
 (cmp_isNaN_int a0).bind λr1=>(cmp_isNaN_int a1).bind λr2=>(bif r1 then(bif r2 then some (0:Int)else some ((-1):Int))else(bif r2 then some (1:Int)else(bif decide (a0<(a1:Int))then some ((-1):Int)else(bif decide (a0>(a1:Int))then some (1:Int)else some (0:Int)))))
def vI(a0:U Int):Stp Int (Unit⊕Int)
 |v1=>(bif decide (v1<(a0.length:Int))then(bo a0 v1).bind λx1=>(bif (x1 !=0)then(some x1).map λa=> .inr (.inr a)else some (.inl (i64.wrap (v1+1))))else some (.inr (.inl ())))
def rJ(a0:U Int):J Int:=
 dF (iter (vI a0) n (0:Int)) λ()=>some (0:Int)
def q8(a0:bV)(a1:bV):J Int:=
 (cmp_Compare_int a0.x a1.x).bind λr1=>(cmp_Compare_int a0.y a1.y).bind λr2=>ck (aE (sub ([r1,r2]:U Int) 0 2).length 2)<|(rJ n (sub ([r1,r2]:U Int) 0 2)).bind λr3=>some r3
def lF(a0:jr)(a1:jr):J Bool:=
 (bif decide ((max (min a0.l4 a0.mw) (min a1.l4 a1.mw))<=((min (max a0.l4 a0.mw) (max a1.l4 a1.mw)):Int))then some (decide ((max (min a0.pN a0.ua) (min a1.pN a1.ua))<=((min (max a0.pN a0.ua) (max a1.pN a1.ua)):Int)))else some false)
def pY(a0:U bV)(r1:U jr):Stp Int (Unit⊕Bool)
 |v2=>(bif decide (v2<(r1.length:Int))then ck (cN v2 r1.length)<|(bo r1 ((0:Nat)+v2:Int)).bind λx1=>ck ((r1.length:Int) !=0)<|ck (cN (Int.tmod (i64.wrap (v2+1)) (r1.length:Int)) r1.length)<|(bo r1 ((0:Nat)+(Int.tmod (i64.wrap (v2+1)) (r1.length:Int)):Int)).bind λx2=>((tH (bV.mk x1.l4 x1.pN)).bind λr2=>(bif (!r2)then some true else(bif ((x1.l4==(x1.mw:Int))==(x1.pN==(x1.ua:Int)))then some true else(gH x1).bind λr3=>(gH x2).bind λr4=>some (r3==r4)))).bind λv3=>(bif v3 then(some false).map λa=> .inr (.inr a)else((bif decide (v2>0)then(bo a0 0).bind λx3=>(bo a0 v2).bind λx4=>(q8 n x3 x4).bind λr5=>some (decide (r5>=0))else some false)).bind λv4=>(bif v4 then(some false).map λa=> .inr (.inr a)else some (.inl (i64.wrap (v2+1)))))else some (.inr (.inl ())))
def iO(r1:U jr)(v5:Int):Stp Int (Unit⊕(Int⊕(Unit⊕Bool)))
 |v6=>(bif decide (v6<(r1.length:Int))then((bif (decide ((i64.wrap ((i64.wrap (v5+(r1.length:Int))) -v6))>1))then ck (cN v5 r1.length)<|(bo r1 ((0:Nat)+v5:Int)).bind λx5=>ck (cN v6 r1.length)<|(bo r1 ((0:Nat)+v6:Int)).bind λx6=>(lF x5 x6).bind λr6=>some r6 else some false)).bind λv7=>(bif v7 then((some false).map λa=> .inr (.inr a)).map λa=> .inr (.inr a)else some (.inl (i64.wrap (v6+1))))else some (.inr (.inl ())))
def p8(r1:U jr):Stp Int (Unit⊕Bool)
 |v5=>(bif decide (v5<(r1.length:Int))then dF (iter (iO r1 v5) n (i64.wrap (v5+2))) λ()=>some (.inl (i64.wrap (v5+1)))else some (.inr (.inl ())))
def vJ(a0:U bV):J Bool:=
 ((bif decide ((a0.length:Int)<4)then some true else some (decide ((a0.length:Int)>60)))).bind λv1=>(bif v1 then some false else(pq n a0).bind λr1=>dF (iter (pY n a0 r1) n (0:Int)) λ()=>dF (iter (p8 n r1) n (0:Int)) λ()=>ck (cN 0 r1.length)<|(bo r1 ((0:Nat)+0:Int)).bind λx7=>(gH x7).bind λr7=>some (!r7))
def pu(_:Nat)(a0:U Int):J (List Int):=Lo a0
def NG(a0:U Int)(v1:Int):Stp (Int×Int×(List Int)) (Int×(List Int))
 |(v2,v3,v4)=>(bif (decide (v3<((((a0.length -(v1:Int).toNat):Nat):Int):Int)))then(ck (cN v3 (a0.length -(v1:Int).toNat))<|(bo v4 (((0+(v1:Int).toNat):Nat)+v3:Int)).bind λx3=>ck (cN (i64.wrap (v3 -1)) (a0.length -(v1:Int).toNat))<|(bo v4 (((0+(v1:Int).toNat):Nat)+(i64.wrap (v3 -1)):Int)).bind λx4=>(bif (x3 !=(x4:Int))then ck (cN v3 (a0.length -(v1:Int).toNat))<|(bo v4 (((0+(v1:Int).toNat):Nat)+v3:Int)).bind λx5=>ck (cN v2 a0.length)<|(bo v4 ((0:Nat)+v2:Int)).bind λx6=>some ((i64.wrap (v2+1)),(v4.set ((0:Nat)+v2:Int).toNat x5))else some (v2,v4)):J (Int×(List Int))).bind λ(v5,v6)=>some (.inl (v5,(i64.wrap (v3+1)),v6))else some (.inr (v2,v4)))
def NH(a0:U Int):Stp Int (Unit⊕(Unit×(List Int)))
 |v1=>(bif decide (v1<(a0.length:Int))then ck (cN v1 a0.length)<|(bo a0 ((0:Nat)+v1:Int)).bind λx1=>ck (cN (i64.wrap (v1 -1)) a0.length)<|(bo a0 ((0:Nat)+(i64.wrap (v1 -1)):Int)).bind λx2=>(bif (x1==(x2:Int))then ck (yG v1 (a0.length:Int) a0.length)<|(iter (NG a0 v1) n (v1,(1:Int),a0)).bind λ(w1,w2)=>ck (yG w1 (a0.length:Int) a0.length)<|ck (yG 0 w1 a0.length)<|(ck (aE ((w1:Int).toNat) ((w1:Int).toNat))<|ck (aE (sub (w2.take (0+(w1:Int).toNat)) 0 ((w1:Int).toNat)).length ((w1:Int).toNat))<|some ((),(sub (w2.take (0+(w1:Int).toNat)) 0 ((w1:Int).toNat)))).map λa=> .inr (.inr a)else some (.inl (i64.wrap (v1+1))))else some (.inr (.inl ())))
def pz(a0:U Int):J (Unit×(List Int)):=
 (bif decide ((a0.length:Int)<2)then ck (aE a0.length a0.length)<|ck (aE (sub a0 0 a0.length).length a0.length)<|some ((),(sub a0 0 a0.length))else dF (iter (NH n a0) n (1:Int)) λ()=>ck (aE a0.length a0.length)<|ck (aE (sub a0 0 a0.length).length a0.length)<|some ((),(sub a0 0 a0.length)))
def lG(a0:U bV):Stp (Int×(List Int)) (List Int)
 |(v1,v2)=>(bif decide (v1<(a0.length:Int))then(bo a0 v1).bind λx1=>ck (bP v2.length v2.length (sub ([x1.x]:U Int) 0 1).length 1 8)<|gV (v2++(sub ([x1.x]:U Int) 0 1)) λr2=>ck (aE r2.length r2.length)<|some (.inl ((i64.wrap (v1+1)),r2))else ck (aE v2.length v2.length)<|some (.inr v2))
def lH(r4:Unit×(List Int))(r5:U jr)(v3:Int):Stp (Int×(List Int)) (List Int)
 |(v5,v6)=>(bif decide (v5<(r5.length:Int))then(ck (cN v5 r5.length)<|(bo r5 ((0:Nat)+v5:Int)).bind λx2=>((gH x2).bind λr6=>(bif (!r6)then ck (cN v3 r4.2.length)<|(bo r4.2 ((0:Nat)+v3:Int)).bind λx3=>(bif decide ((min x2.l4 x2.mw)<=(x3:Int))then ck (cN v3 r4.2.length)<|(bo r4.2 ((0:Nat)+v3:Int)).bind λx4=>some (decide (x4<((max x2.l4 x2.mw):Int)))else some false)else some false)).bind λv7=>(bif v7 then ck (bP v6.length v6.length (sub ([x2.pN]:U Int) 0 1).length 1 8)<|gV (v6++(sub ([x2.pN]:U Int) 0 1)) λr7=>ck (aE r7.length r7.length)<|some r7 else ck (aE v6.length v6.length)<|some v6):J ((List Int))).bind λv8=>ck (aE v8.length v8.length)<|some (.inl ((i64.wrap (v5+1)),v8))else ck (aE v6.length v6.length)<|some (.inr v6))
def je(r4:Unit×(List Int))(v3:Int)(w2:U Int)(r8:U Int):Stp (Int×(List ax)) (List ax)
 |(v9,v10)=>(bif decide ((i64.wrap (v9+1))<(w2.length:Int))then ck (cN v3 r4.2.length)<|(bo r4.2 ((0:Nat)+v3:Int)).bind λx5=>ck (cN v9 w2.length)<|(bo r8 ((0:Nat)+v9:Int)).bind λx6=>ck (cN (i64.wrap (v3+1)) r4.2.length)<|(bo r4.2 ((0:Nat)+(i64.wrap (v3+1)):Int)).bind λx7=>ck (cN (i64.wrap (v9+1)) w2.length)<|(bo r8 ((0:Nat)+(i64.wrap (v9+1)):Int)).bind λx8=>ck (bP v10.length v10.length (sub ([(ax.mk x5 x6 x7 x8)]:U ax) 0 1).length 1 32)<|gV (v10++(sub ([(ax.mk x5 x6 x7 x8)]:U ax) 0 1)) λr9=>ck (aE r9.length r9.length)<|some (.inl ((i64.wrap (v9+2)),r9))else ck (aE v10.length v10.length)<|some (.inr v10))
def lI(r4:Unit×(List Int))(r5:U jr):Stp (Int×(List ax)) (List ax)
 |(v3,v4)=>(bif (decide (v3<((i64.wrap ((r4.2.length:Int) -1)):Int)))then ck (aE 0 ([]:U Int).length)<|(iter (lH r4 r5 v3) n ((0:Int),([]:U Int))).bind λw2=>ck (aE w2.length w2.length)<|(pu n w2).bind λr8=>ck (aE v4.length v4.length)<|(iter (je r4 v3 w2 r8) n ((0:Int),v4)).bind λw3=>ck (aE w3.length w3.length)<|some (.inl ((i64.wrap (v3+1)),w3))else ck (aE v4.length v4.length)<|some (.inr v4))
def tJ(a0:U bV):J ((List ax)×Int):=
 (vJ n a0).bind λr1=>(bif (!r1)then some (([]:(List ax)),(10:Int))else ck (aE 0 ([]:U Int).length)<|(iter (lG a0) n ((0:Int),([]:U Int))).bind λw1=>ck (aE w1.length w1.length)<|(pu n w1).bind λr3=>ck (aE w1.length r3.length)<|(pz n r3).bind λr4=>(pq n a0).bind λr5=>ck (aE 0 ([]:U ax).length)<|(iter (lI n r4 r5) n ((0:Int),([]:U ax))).bind λw4=>(bif decide ((w4.length:Int)>200)then some (([]:(List ax)),(6:Int))else ck (aE (sub w4 0 w4.length).length w4.length)<|some ((sub w4 0 w4.length),(0:Int))))
def tK(a0:dJ):J (List ax):=
 (tJ n a0.corners).bind λr1=>(bif (r1.2 !=0)then some ([]:(List ax))else ck (aE (sub r1.1 0 r1.1.length).length r1.1.length)<|some (sub r1.1 0 r1.1.length))
def nJ(a0:ax):J Bool:=
 (bif decide (0<=(a0.x0:Int))then(bif decide (a0.x0<(a0.x1:Int))then(bif decide (a0.x1<=1048576)then(bif decide (0<=(a0.y0:Int))then(bif decide (a0.y0<(a0.y1:Int))then some (decide (a0.y1<=1048576))else some false)else some false)else some false)else some false)else some false)
def sw(a0:ax):J (ax×Bool):=
 (nJ a0).bind λr1=>(bif r1 then some (a0,true)else some ((ax.mk 0 0 0 0),false))
def sD(a0:ax)(a1:ax):J (ax×Bool):=
 ((nJ a0).bind λr1=>(bif (!r1)then some true else(nJ a1).bind λr2=>some (!r2))).bind λv1=>(bif v1 then some ((ax.mk 0 0 0 0),false)else(sw (ax.mk (max a0.x0 a1.x0) (max a0.y0 a1.y0) (min a0.x1 a1.x1) (min a0.y1 a1.y1))).bind λr3=>some (r3.1,r3.2))
def pE(a0:ax):J Int:=
 (sw a0).bind λr1=>some (i64.wrap ((i64.wrap (r1.1.x1 -r1.1.x0))*(i64.wrap (r1.1.y1 -r1.1.y0))))
def p9(a1:U ax)(x1:ax):Stp (Int×Int×Int×Int) (Int×Int×Int)
 |(v5,v6,v7,v8)=>(bif decide (v6<(a1.length:Int))then((bo a1 v6).bind λx2=>(sD x1 x2).bind λr1=>(bif (!r1.2)then some (v5,v7,v8)else(pE r1.1).bind λr2=>(cmp_Compare_int r1.1.x0 v7).bind λr3=>(cmp_Compare_int r1.1.y0 v8).bind λr4=>ck (aE (sub ([r3,r4]:U Int) 0 2).length 2)<|(rJ n (sub ([r3,r4]:U Int) 0 2)).bind λr5=>(bif decide (r5<0)then some ((i64.wrap (v5+r2)),r1.1.x0,r1.1.y0)else some ((i64.wrap (v5+r2)),v7,v8))):J (Int×Int×Int)).bind λ(v9,v10,v11)=>some (.inl (v9,(i64.wrap (v6+1)),v10,v11))else some (.inr (v5,v7,v8)))
def qa(a0:U ax)(a1:U ax):Stp (Int×Int×Int×Int) (Int×Int×Int)
 |(v1,v2,v3,v4)=>(bif decide (v2<(a0.length:Int))then(bo a0 v2).bind λx1=>(iter (p9 n a1 x1) n (v1,(0:Int),v3,v4)).bind λ(w1,w2,w3)=>some (.inl (w1,(i64.wrap (v2+1)),w2,w3))else some (.inr (v1,v3,v4)))
def qH(a0:U ax)(a1:U ax):J (Int×bV):=
 (iter (qa n a0 a1) n ((0:Int),(0:Int),(1048576:Int),(0:Int))).bind λ(w4,w5,w6)=>some (w4,(bV.mk w5 w6))
def oN(a0:bS):Stp (Int×(List (List ax))) (List (List ax))
 |(v1,v2)=>(bif decide (v1<(a0.zones.length:Int))then((bo a0.zones v1).bind λx1=>(bif (!x1.overlay)then(tK n x1).bind λr1=>ck (cN v1 ((a0.zones.length:Int).toNat))<|ck (aE (sub r1 0 r1.length).length r1.length)<|(bo v2 ((0:Nat)+v1:Int)).bind λx2=>some (v2.set ((0:Nat)+v1:Int).toNat (sub r1 0 r1.length))else some v2):J ((List (List ax)))).bind λv3=>some (.inl ((i64.wrap (v1+1)),v3))else some (.inr v2))
def jf(a0:bS)(w1:U (List ax))(v4:Int):Stp Int (Unit⊕(Int⊕(Unit⊕((List Int)×bV×Bool))))
 |v5=>(bif (decide (v5<((((a0.zones.length:Int).toNat:Nat):Int):Int)))then ck (cN v4 ((a0.zones.length:Int).toNat))<|(bo w1 ((0:Nat)+v4:Int)).bind λx3=>ck (cN v5 ((a0.zones.length:Int).toNat))<|(bo w1 ((0:Nat)+v5:Int)).bind λx4=>(qH n x3 x4).bind λr2=>(bif decide (r2.1>0)then((ck (aE (sub ([v4,v5]:U Int) 0 2).length 2)<|some ((sub ([v4,v5]:U Int) 0 2),r2.2,true)).map λa=> .inr (.inr a)).map λa=> .inr (.inr a)else some (.inl (i64.wrap (v5+1))))else some (.inr (.inl ())))
def oO(a0:bS)(w1:U (List ax)):Stp Int (Unit⊕((List Int)×bV×Bool))
 |v4=>(bif (decide (v4<((((a0.zones.length:Int).toNat:Nat):Int):Int)))then dF (iter (jf n a0 w1 v4) n (i64.wrap (v4+1))) λ()=>some (.inl (i64.wrap (v4+1)))else some (.inr (.inl ())))
def pF(a0:bS):J ((List Int)×bV×Bool):=
 ck (decide ((a0.zones.length:Int)<=(a0.zones.length:Int))&&(decide (0<=(a0.zones.length:Int))&&xE (a0.zones.length:Int) 24))<|(iter (oN n a0) n ((0:Int),(List.replicate (a0.zones.length:Int).toNat ([])))).bind λw1=>dF (iter (oO n a0 w1) n (0:Int)) λ()=>some (([]:(List Int)),(bV.mk 0 0),false)
def gI(a0:kg)(r3:(List Int)×bV×Bool):Stp (Int×Int×Int×Int×Int×Int×Int×Int×Int×(List ByteArray)) (Int×Int×Int×Int×Int×Int×Int×Int×(List ByteArray))
 |(v2,v3,v4,v5,v6,v7,v8,v9,v10,v11)=>(bif decide (v2<(r3.1.length:Int))then ck (cN v2 r3.1.length)<|(bo r3.1 ((0:Nat)+v2:Int)).bind λx1=>(bo a0.b7 x1).bind λx2=>ck (bP v11.length v11.length (sub ([x2.name]:U ByteArray) 0 1).length 1 16)<|gV (v11++(sub ([x2.name]:U ByteArray) 0 1)) λr4=>ck (aE r4.length r4.length)<|some (.inl ((i64.wrap (v2+1)),v3,v4,v5,v6,v7,v8,v9,v10,r4))else ck (aE v11.length v11.length)<|some (.inr (v3,v4,v5,v6,v7,v8,v9,v10,v11)))
def fH(a0:kg):J (List aQ):=
 ((jE n (bS.mk a0.ct a0.b8 a0.b7 a0.ci a0.cw a0.cg a0.cD a0.cj)).bind λr1=>(bif (r1.2.2==16)then ck (bP 0 0 (sub ([(aQ.mk 3 0 r1.2.1 0 0 0 0 0 0)]:U aQ) 0 1).length 1 88)<|gV ((sub ([(aQ.mk 3 0 r1.2.1 0 0 0 0 0 0)]:U aQ) 0 1)) λr2=>ck (aE r2.length r2.length)<|some r2 else ck (aE 0 ([]:U aQ).length)<|some ([]:U aQ)):J ((List aQ))).bind λv1=>((pF n (bS.mk a0.ct a0.b8 a0.b7 a0.ci a0.cw a0.cg a0.cD a0.cj)).bind λr3=>(bif r3.2.2 then ck (aE 0 ([]:U ByteArray).length)<|(iter (gI a0 r3) n ((0:Int),(2:Int),(0:Int),(0:Int),(0:Int),(0:Int),(0:Int),r3.2.1.x,r3.2.1.y,([]:U ByteArray))).bind λ(w1,w2,w3,w4,w5,w6,w7,w8,w9)=>ck (aE (sub w9 0 w9.length).length w9.length)<|ck (bP v1.length v1.length (sub ([(aQ.mk w1 w2 (sub w9 0 w9.length) w3 w4 w5 w6 w7 w8)]:U aQ) 0 1).length 1 88)<|gV (v1++(sub ([(aQ.mk w1 w2 (sub w9 0 w9.length) w3 w4 w5 w6 w7 w8)]:U aQ) 0 1)) λr5=>ck (aE r5.length r5.length)<|some r5 else ck (aE v1.length v1.length)<|some v1):J ((List aQ))).bind λv12=>ck (aE (sub v12 0 v12.length).length v12.length)<|some (sub v12 0 v12.length)
def NI(a0:Unit)(a1:Int):J (List ax):=
 (bif decide (a1<0)then none else(bif (decide ((i64.wrap (a1 -(i64.wrap (0 -0))))>0))then ck (xE (i64.wrap (a1 -(i64.wrap (0 -0)))) 32)<|ck (yG 0 0 ((i64.wrap (a1 -(i64.wrap (0 -0)))).toNat))<|ck (aE (sub (List.replicate (i64.wrap (a1 -(i64.wrap (0 -0)))).toNat (ax.mk 0 0 0 0)) 0 0).length 0)<|some (sub (List.replicate (i64.wrap (a1 -(i64.wrap (0 -0)))).toNat (ax.mk 0 0 0 0)) 0 0)else some ([]:(List ax))))
def NJ(a0:U (List ax)):Stp (Int×Int) Int
 |(v1,v2)=>(bif decide (v2<(a0.length:Int))then(bo a0 v2).bind λx1=>(bif decide ((i64.wrap (v1+(x1.length:Int)))<0)then none else some (.inl ((i64.wrap (v1+(x1.length:Int))),(i64.wrap (v2+1)))))else some (.inr v1))
def NK(a0:U (List ax)):Stp (Int×(List ax)) (List ax)
 |(v3,v4)=>(bif decide (v3<(a0.length:Int))then(bo a0 v3).bind λx2=>ck (bP v4.length v4.length x2.length x2.length 32)<|gV (v4++x2) λr2=>ck (aE r2.length r2.length)<|some (.inl ((i64.wrap (v3+1)),r2))else ck (aE v4.length v4.length)<|some (.inr v4))
def yS(a0:U (List ax)):J (List ax):=
 (iter (NJ a0) n ((0:Int),(0:Int))).bind λw1=>(NI () w1).bind λr1=>ck (aE r1.length r1.length)<|(iter (NK a0) n ((0:Int),r1)).bind λw2=>ck (aE (sub w2 0 w2.length).length w2.length)<|some (sub w2 0 w2.length)
def ve(_:Nat)(a0:U aN)(a1:(aN×aN×Unit)->J Int):J (List aN):=GM a0 a1
def xL(a0:aN)(a1:aN):J Int:=
 (cmp_Compare_int a0.from_ a1.from_).bind λr1=>some r1
def tL(a0:U ax)(a1:Int):Stp (Int×(List aN)) (List aN)
 |(v1,v2)=>(bif decide (v1<(a0.length:Int))then((bo a0 v1).bind λx1=>((bif decide (x1.x0<=(a1:Int))then some (decide (a1<(x1.x1:Int)))else some false)).bind λv3=>(bif v3 then ck (bP v2.length v2.length (sub ([(aN.mk x1.y0 x1.y1)]:U aN) 0 1).length 1 16)<|gV (v2++(sub ([(aN.mk x1.y0 x1.y1)]:U aN) 0 1)) λr1=>ck (aE r1.length r1.length)<|some r1 else ck (aE v2.length v2.length)<|some v2):J ((List aN))).bind λv4=>ck (aE v4.length v4.length)<|some (.inl ((i64.wrap (v1+1)),v4))else ck (aE v2.length v2.length)<|some (.inr v2))
def tN(w1:U aN)(r2:U aN):Stp (Int×(List aN)) (List aN)
 |(v5,v6)=>(bif decide (v5<(w1.length:Int))then(ck (cN v5 w1.length)<|(bo r2 ((0:Nat)+v5:Int)).bind λx2=>((bif decide ((v6.length:Int)>0)then ck (cN (i64.wrap ((v6.length:Int) -1)) v6.length)<|(bo v6 ((0:Nat)+(i64.wrap ((v6.length:Int) -1)):Int)).bind λx3=>some (decide (x2.from_<=(x3.to:Int)))else some false)).bind λv7=>(bif v7 then ck (cN (i64.wrap ((v6.length:Int) -1)) v6.length)<|(bo v6 ((0:Nat)+(i64.wrap ((v6.length:Int) -1)):Int)).bind λx4=>ck (cN (i64.wrap ((v6.length:Int) -1)) v6.length)<|(bo v6 ((0:Nat)+(i64.wrap ((v6.length:Int) -1)):Int)).bind λx5=>ck (aE v6.length (v6.set ((0:Nat)+(i64.wrap ((v6.length:Int) -1)):Int).toNat (aN.mk x5.from_ (max x4.to x2.to))).length)<|some (v6.set ((0:Nat)+(i64.wrap ((v6.length:Int) -1)):Int).toNat (aN.mk x5.from_ (max x4.to x2.to)))else ck (bP v6.length v6.length (sub ([x2]:U aN) 0 1).length 1 16)<|gV (v6++(sub ([x2]:U aN) 0 1)) λr3=>ck (aE r3.length r3.length)<|some r3):J ((List aN))).bind λv8=>ck (aE v8.length v8.length)<|some (.inl ((i64.wrap (v5+1)),v8))else ck (aE v6.length v6.length)<|some (.inr v6))
def JZ(a0:U ax)(a1:Int):J (List aN):=
 ck (aE 0 ([]:U aN).length)<|(iter (tL a0 a1) n ((0:Int),([]:U aN))).bind λw1=>ck (aE w1.length w1.length)<|(ve n w1 (λ (y1:aN×aN×Unit)=>xL y1.1 y1.2.1)).bind λr2=>ck (aE 0 ([]:U aN).length)<|(iter (tN w1 r2) n ((0:Int),([]:U aN))).bind λw2=>ck (aE (sub w2 0 w2.length).length w2.length)<|some (sub w2 0 w2.length)
def tO(r1:U ax):Stp (Int×(List Int)) (List Int)
 |(v1,v2)=>(bif decide (v1<(r1.length:Int))then ck (cN v1 r1.length)<|(bo r1 ((0:Nat)+v1:Int)).bind λx1=>ck (bP v2.length v2.length (sub ([x1.x0,x1.x1]:U Int) 0 2).length 2 8)<|gV (v2++(sub ([x1.x0,x1.x1]:U Int) 0 2)) λr2=>ck (aE r2.length r2.length)<|some (.inl ((i64.wrap (v1+1)),r2))else ck (aE v2.length v2.length)<|some (.inr v2))
def tQ(r1:U ax)(r4:Unit×(List Int)):Stp (Int×(List bZ)) (List bZ)
 |(v3,v4)=>(bif decide (v3<(r4.2.length:Int))then ck (cN (i64.wrap (v3 -1)) r4.2.length)<|(bo r4.2 ((0:Nat)+(i64.wrap (v3 -1)):Int)).bind λx2=>ck (cN v3 r4.2.length)<|(bo r4.2 ((0:Nat)+v3:Int)).bind λx3=>ck (cN (i64.wrap (v3 -1)) r4.2.length)<|(bo r4.2 ((0:Nat)+(i64.wrap (v3 -1)):Int)).bind λx4=>ck (aE (sub r1 0 r1.length).length r1.length)<|(JZ n (sub r1 0 r1.length) x4).bind λr5=>ck (aE (sub r5 0 r5.length).length r5.length)<|ck (bP v4.length v4.length (sub ([(bZ.mk x2 x3 (sub r5 0 r5.length))]:U bZ) 0 1).length 1 40)<|gV (v4++(sub ([(bZ.mk x2 x3 (sub r5 0 r5.length))]:U bZ) 0 1)) λr6=>ck (aE r6.length r6.length)<|some (.inl ((i64.wrap (v3+1)),r6))else ck (aE v4.length v4.length)<|some (.inr v4))
def oD(a0:U (List ax)):J (List bZ):=
 (yS n a0).bind λr1=>ck (aE 0 ([]:U Int).length)<|(iter (tO r1) n ((0:Int),([]:U Int))).bind λw1=>ck (aE w1.length w1.length)<|(pu n w1).bind λr3=>ck (aE w1.length r3.length)<|(pz n r3).bind λr4=>ck (aE 0 ([]:U bZ).length)<|(iter (tQ n r1 r4) n ((1:Int),([]:U bZ))).bind λw2=>ck (aE (sub w2 0 w2.length).length w2.length)<|some (sub w2 0 w2.length)
def Qd(a0:U aN)(a1:U aN):Stp Int (Unit⊕Bool)
 |v1=>(bif decide (v1<(a0.length:Int))then(bo a0 v1).bind λx1=>(bo a1 v1).bind λx2=>(bif (!((x1.from_==(x2.from_:Int))&&((x1.to==(x2.to:Int))&&true)))then(some false).map λa=> .inr (.inr a)else some (.inl (i64.wrap (v1+1))))else some (.inr (.inl ())))
def vK(a0:U aN)(a1:U aN):J Bool:=
 (bif ((a0.length:Int) !=(a1.length:Int))then some false else dF (iter (Qd a0 a1) n (0:Int)) λ()=>some true)
def sF(a0:U bZ)(v1:Int):Stp Int Int
 |v3=>((bif decide (v3<(a0.length:Int))then(bo a0 v3).bind λx1=>(bo a0 v1).bind λx2=>(vK n x1.column x2.column).bind λr1=>some r1 else some false)).bind λv4=>(bif v4 then some (.inl (i64.wrap (v3+1)))else some (.inr v3))
def wE(a0:U bZ)(v1:Int)(w1:Int)(x3:bZ):Stp (Int×(List ax)) (List ax)
 |(v5,v6)=>(bif decide (v5<(x3.column.length:Int))then(bo x3.column v5).bind λx4=>(bo a0 v1).bind λx5=>(bo a0 (i64.wrap (w1 -1))).bind λx6=>ck (bP v6.length v6.length (sub ([(ax.mk x5.x0 x4.from_ x6.x1 x4.to)]:U ax) 0 1).length 1 32)<|gV (v6++(sub ([(ax.mk x5.x0 x4.from_ x6.x1 x4.to)]:U ax) 0 1)) λr2=>ck (aE r2.length r2.length)<|some (.inl ((i64.wrap (v5+1)),r2))else ck (aE v6.length v6.length)<|some (.inr v6))
def wF(a0:U bZ):Stp (Int×(List ax)) (List ax)
 |(v1,v2)=>(bif decide (v1<(a0.length:Int))then(iter (sF n a0 v1) n (i64.wrap (v1+1))).bind λw1=>(bo a0 v1).bind λx3=>ck (aE v2.length v2.length)<|(iter (wE a0 v1 w1 x3) n ((0:Int),v2)).bind λw2=>ck (aE w2.length w2.length)<|some (.inl (w1,w2))else ck (aE v2.length v2.length)<|some (.inr v2))
def Iu(a0:U bZ):J (List ax):=
 ck (aE 0 ([]:U ax).length)<|(iter (wF n a0) n ((0:Int),([]:U ax))).bind λw3=>ck (aE (sub w3 0 w3.length).length w3.length)<|some (sub w3 0 w3.length)
def yT(a0:U ax):J ((List ax)×Int):=
 (bif decide ((a0.length:Int)>200)then some (([]:(List ax)),(6:Int))else some (a0,(0:Int)))
def NN(a0:U ax):Stp Int (Unit⊕((List ax)×Int))
 |v1=>(bif decide (v1<(a0.length:Int))then(bo a0 v1).bind λx1=>(nJ x1).bind λr1=>(bif (!r1)then(some (([]:(List ax)),(1:Int))).map λa=> .inr (.inr a)else some (.inl (i64.wrap (v1+1))))else some (.inr (.inl ())))
def ON(a0:U ax):J ((List ax)×Int):=
 dF (iter (NN a0) n (0:Int)) λ()=>(bif decide ((a0.length:Int)>400)then some (([]:(List ax)),(6:Int))else ck (aE (sub ([a0]:U (List ax)) 0 1).length 1)<|(oD n (sub ([a0]:U (List ax)) 0 1)).bind λr2=>ck (aE (sub r2 0 r2.length).length r2.length)<|(Iu n (sub r2 0 r2.length)).bind λr3=>ck (aE (sub r3 0 r3.length).length r3.length)<|(yT (sub r3 0 r3.length)).bind λr4=>some (r4.1,r4.2))
def Qe(a0:U ax)(a1:U ax):Stp Int (Unit⊕Bool)
 |v1=>(bif decide (v1<(a0.length:Int))then(bo a0 v1).bind λx1=>(bo a1 v1).bind λx2=>(bif (!((x1.x0==(x2.x0:Int))&&((x1.y0==(x2.y0:Int))&&((x1.x1==(x2.x1:Int))&&((x1.y1==(x2.y1:Int))&&true)))))then(some false).map λa=> .inr (.inr a)else some (.inl (i64.wrap (v1+1))))else some (.inr (.inl ())))
def oF(a0:U ax)(a1:U ax):J Bool:=
 (bif ((a0.length:Int) !=(a1.length:Int))then some false else dF (iter (Qe a0 a1) n (0:Int)) λ()=>some true)
def nZ(a0:U ax):J Bool:=
 (ON n a0).bind λr1=>(bif (r1.2==0)then(oF n r1.1 a0).bind λr2=>some r2 else some false)
def qb(a0:bS)(a1:U ax):Stp (Int×(List Int)) (List Int)
 |(v1,v2)=>(bif decide (v1<(a0.zones.length:Int))then(bo a0.zones v1).bind λx1=>(tK n x1).bind λr2=>ck (aE (sub r2 0 r2.length).length r2.length)<|(qH n a1 (sub r2 0 r2.length)).bind λr3=>ck (bP v2.length v2.length (sub ([r3.1]:U Int) 0 1).length 1 8)<|gV (v2++(sub ([r3.1]:U Int) 0 1)) λr4=>ck (aE r4.length r4.length)<|some (.inl ((i64.wrap (v1+1)),r4))else ck (aE v2.length v2.length)<|some (.inr v2))
def vL(a0:bS)(a1:U ax):J (List Int):=
 (nZ n a1).bind λr1=>(bif (!r1)then some ([]:(List Int))else ck (aE 0 ([]:U Int).length)<|(iter (qb n a0 a1) n ((0:Int),([]:U Int))).bind λw1=>ck (aE (sub w1 0 w1.length).length w1.length)<|some (sub w1 0 w1.length))
def qc(a0:bS)(r1:U Int):Stp (Int×Int) Int
 |(v1,v2)=>(bif decide (v2<(r1.length:Int))then(ck (cN v2 r1.length)<|(bo r1 ((0:Nat)+v2:Int)).bind λx1=>((bo a0.zones v2).bind λx2=>(bif (!x2.overlay)then(bif decide (x1>0)then(bif decide (v1<0)then some true else ck (cN v1 r1.length)<|(bo r1 ((0:Nat)+v1:Int)).bind λx3=>some (decide (x1>(x3:Int))))else some false)else some false)).bind λv3=>(bif v3 then some v2 else some v1):J Int).bind λv4=>some (.inl (v4,(i64.wrap (v2+1))))else some (.inr v1))
def xM(a0:bS)(r1:U Int)(w1:Int):Stp (Int×(List ByteArray)) (List ByteArray)
 |(v5,v6)=>(bif decide (v5<(r1.length:Int))then(ck (cN v5 r1.length)<|(bo r1 ((0:Nat)+v5:Int)).bind λx4=>((bif (v5==(w1:Int))then some true else(bo a0.zones v5).bind λx5=>(bif x5.overlay then some (decide (x4>0))else some false))).bind λv7=>(bif v7 then(bo a0.zones v5).bind λx6=>ck (bP v6.length v6.length (sub ([x6.name]:U ByteArray) 0 1).length 1 16)<|gV (v6++(sub ([x6.name]:U ByteArray) 0 1)) λr2=>ck (aE r2.length r2.length)<|some r2 else ck (aE v6.length v6.length)<|some v6):J ((List ByteArray))).bind λv8=>ck (aE v8.length v8.length)<|some (.inl ((i64.wrap (v5+1)),v8))else ck (aE v6.length v6.length)<|some (.inr v6))
def sG(a0:bS)(a1:U ax):J (List ByteArray):=
 (vL n a0 a1).bind λr1=>(iter (qc a0 r1) n (((-1):Int),(0:Int))).bind λw1=>ck (aE 0 ([]:U ByteArray).length)<|(iter (xM a0 r1 w1) n ((0:Int),([]:U ByteArray))).bind λw2=>ck (aE (sub w2 0 w2.length).length w2.length)<|some (sub w2 0 w2.length)
def nK(a0:U ByteArray)(a1:ByteArray):Stp Int (Unit⊕Int)
 |v1=>(bif decide (v1<(a0.length:Int))then(bo a0 v1).bind λx1=>(bif (ByteArray.toList a1==ByteArray.toList x1)then(some v1).map λa=> .inr (.inr a)else some (.inl (i64.wrap (v1+1))))else some (.inr (.inl ())))
def q9(a0:U ByteArray)(a1:ByteArray):J Int:=
 dF (iter (nK a0 a1) n (0:Int)) λ()=>some ((-1):Int)
def fI(a0:U ByteArray)(a1:ByteArray):J Bool:=
 (q9 n a0 a1).bind λr1=>some (decide (r1>=0))
def jU(a0:ByteArray)(a1:U ByteArray):J Bool:=
 (fI n a1 a0).bind λr1=>some r1
def EB(a0:U ByteArray)(a1:(ByteArray×Unit)->J Bool):Stp Int (Unit⊕Int)
 |v1=>(bif decide (v1<(a0.length:Int))then(bo a0 v1).bind λx1=>(a1 (x1,())).bind λr1=>(bif r1 then(some v1).map λa=> .inr (.inr a)else some (.inl (i64.wrap (v1+1))))else some (.inr (.inl ())))
def qp(a0:U ByteArray)(a1:(ByteArray×Unit)->J Bool):J Int:=
 dF (iter (EB a0 a1) n (0:Int)) λ()=>some ((-1):Int)
def fK(a0:U ByteArray)(a1:(ByteArray×Unit)->J Bool):J Bool:=
 (qp n a0 a1).bind λr1=>some (decide (r1>=0))
def qI(a0:bI)(a1:U ByteArray):J Bool:=
 (bif ((a0.zones.length:Int)==0)then(fK n a0.except (λ (y1:ByteArray×Unit)=>jU n y1.1 a1)).bind λr1=>some (!r1)else(fK n a0.zones (λ (y2:ByteArray×Unit)=>jU n y2.1 a1)).bind λr2=>(bif r2 then(fK n a0.except (λ (y3:ByteArray×Unit)=>jU n y3.1 a1)).bind λr3=>some (!r3)else some false))
def rf(a0:bS)(a1:U ByteArray)(a2:Int):Stp (Int×(List Int)) (List Int)
 |(v1,v2)=>(bif decide (v1<(a0.rules.length:Int))then((bo a0.rules v1).bind λx1=>((bif decide (x1.from_<=(a2:Int))then(bif (x1.js==0)then(qI n x1 a1).bind λr1=>some r1 else(bif decide (a2<(x1.js:Int))then(qI n x1 a1).bind λr2=>some r2 else some false))else some false)).bind λv3=>(bif v3 then ck (bP v2.length v2.length (sub ([v1]:U Int) 0 1).length 1 8)<|gV (v2++(sub ([v1]:U Int) 0 1)) λr3=>ck (aE r3.length r3.length)<|some r3 else ck (aE v2.length v2.length)<|some v2):J ((List Int))).bind λv4=>ck (aE v4.length v4.length)<|some (.inl ((i64.wrap (v1+1)),v4))else ck (aE v2.length v2.length)<|some (.inr v2))
def nL(a0:bS)(a1:U ByteArray)(a2:Int):J (List Int):=
 ck (aE 0 ([]:U Int).length)<|(iter (rf n a0 a1 a2) n ((0:Int),([]:U Int))).bind λw1=>ck (aE (sub w1 0 w1.length).length w1.length)<|some (sub w1 0 w1.length)
def Ag(a0:U ax):Stp (Bool×Int×Int×Int×Int×Int) (Bool×Int×Int×Int×Int)
 |(v1,v2,v3,v4,v5,v6)=>(bif decide (v2<(a0.length:Int))then((bo a0 v2).bind λx1=>(nJ x1).bind λr1=>(bif (!r1)then some (v1,v3,v4,v5,v6)else(bif (!v1)then some (true,x1.x0,x1.y0,x1.x1,x1.y1)else some (v1,(min v3 x1.x0),(min v4 x1.y0),(max v5 x1.x1),(max v6 x1.y1)))):J (Bool×Int×Int×Int×Int)).bind λ(v7,v8,v9,v10,v11)=>some (.inl (v7,(i64.wrap (v2+1)),v8,v9,v10,v11))else some (.inr (v1,v3,v4,v5,v6)))
def NP(a0:U ax):J (ax×Bool):=
 (iter (Ag a0) n (false,(0:Int),(0:Int),(0:Int),(0:Int),(0:Int))).bind λ(w1,w2,w3,w4,w5)=>some ((ax.mk w2 w3 w4 w5),w1)
def CX(a0:U ax):J (ax×Bool):=
 ((bif ((a0.length:Int)==0)then some true else(nZ n a0).bind λr1=>some (!r1))).bind λv1=>(bif v1 then some ((ax.mk 0 0 0 0),false)else(NP n a0).bind λr2=>some (r2.1,r2.2))
def NQ(a0:ax)(a1:Int):J (ax×Bool):=
 ((nJ a0).bind λr1=>(bif (!r1)then some true else some (decide (a1<0)))).bind λv1=>(bif v1 then some ((ax.mk 0 0 0 0),false)else(sw (ax.mk (i64.wrap (a0.x0+(min a1 (1048576:Int)))) (i64.wrap (a0.y0+(min a1 (1048576:Int)))) (i64.wrap (a0.x1 -(min a1 (1048576:Int)))) (i64.wrap (a0.y1 -(min a1 (1048576:Int)))))).bind λr2=>some (r2.1,r2.2))
def lJ(a0:U bZ)(a1:Int)(a2:(bZ×Int×Unit)->J Int):Stp (Int×Int) Int
 |(v1,v2)=>(bif decide (v1<(v2:Int))then ck (decide (0<=1)&&decide (1<=IntKind.u64.bits))<|(bo a0 (i64.wrap ((IntKind.u64.wrap (i64.wrap (v1+v2)))/2 ^ (1:Int).toNat))).bind λx1=>(a2 (x1,a1,())).bind λr1=>(bif decide (r1<0)then some (.inl ((i64.wrap ((i64.wrap ((IntKind.u64.wrap (i64.wrap (v1+v2)))/2 ^ (1:Int).toNat))+1)),v2))else some (.inl (v1,(i64.wrap ((IntKind.u64.wrap (i64.wrap (v1+v2)))/2 ^ (1:Int).toNat)))))else some (.inr v1))
def iW(a0:U bZ)(a1:Int)(a2:(bZ×Int×Unit)->J Int):J (Int×Bool):=
 (iter (lJ a0 a1 a2) n ((0:Int),(a0.length:Int))).bind λw1=>(bif decide (w1<(a0.length:Int))then(bo a0 w1).bind λx2=>(a2 (x2,a1,())).bind λr2=>some (w1,(r2==0))else some (w1,false))
def wG(a0:bZ)(a1:Int):J Int:=
 (bif decide (a0.x1<=(a1:Int))then some ((-1):Int)else some (1:Int))
def W9(a0:U bZ)(a1:Int):J (List aN):=
 (iW n a0 a1 (λ (y1:bZ×Int×Unit)=>wG y1.1 y1.2.1)).bind λr1=>((bif decide (r1.1<(a0.length:Int))then(bo a0 r1.1).bind λx1=>some (decide (x1.x0<=(a1:Int)))else some false)).bind λv1=>(bif v1 then(bo a0 r1.1).bind λx2=>some x2.column else some ([]:(List aN)))
def NR(a0:Unit)(a1:Int):J (List aN):=
 (bif decide (a1<0)then none else(bif (decide ((i64.wrap (a1 -(i64.wrap (0 -0))))>0))then ck (xE (i64.wrap (a1 -(i64.wrap (0 -0)))) 16)<|ck (yG 0 0 ((i64.wrap (a1 -(i64.wrap (0 -0)))).toNat))<|ck (aE (sub (List.replicate (i64.wrap (a1 -(i64.wrap (0 -0)))).toNat (aN.mk 0 0)) 0 0).length 0)<|some (sub (List.replicate (i64.wrap (a1 -(i64.wrap (0 -0)))).toNat (aN.mk 0 0)) 0 0)else some ([]:(List aN))))
def NS(a0:U (List aN)):Stp (Int×Int) Int
 |(v1,v2)=>(bif decide (v2<(a0.length:Int))then(bo a0 v2).bind λx1=>(bif decide ((i64.wrap (v1+(x1.length:Int)))<0)then none else some (.inl ((i64.wrap (v1+(x1.length:Int))),(i64.wrap (v2+1)))))else some (.inr v1))
def NT(a0:U (List aN)):Stp (Int×(List aN)) (List aN)
 |(v3,v4)=>(bif decide (v3<(a0.length:Int))then(bo a0 v3).bind λx2=>ck (bP v4.length v4.length x2.length x2.length 16)<|gV (v4++x2) λr2=>ck (aE r2.length r2.length)<|some (.inl ((i64.wrap (v3+1)),r2))else ck (aE v4.length v4.length)<|some (.inr v4))
def yU(a0:U (List aN)):J (List aN):=
 (iter (NS a0) n ((0:Int),(0:Int))).bind λw1=>(NR () w1).bind λr1=>ck (aE r1.length r1.length)<|(iter (NT a0) n ((0:Int),r1)).bind λw2=>ck (aE (sub w2 0 w2.length).length w2.length)<|some (sub w2 0 w2.length)
def mI(a0:U aN)(a1:Int)(a2:(aN×Int×Unit)->J Int):Stp (Int×Int) Int
 |(v1,v2)=>(bif decide (v1<(v2:Int))then ck (decide (0<=1)&&decide (1<=IntKind.u64.bits))<|(bo a0 (i64.wrap ((IntKind.u64.wrap (i64.wrap (v1+v2)))/2 ^ (1:Int).toNat))).bind λx1=>(a2 (x1,a1,())).bind λr1=>(bif decide (r1<0)then some (.inl ((i64.wrap ((i64.wrap ((IntKind.u64.wrap (i64.wrap (v1+v2)))/2 ^ (1:Int).toNat))+1)),v2))else some (.inl (v1,(i64.wrap ((IntKind.u64.wrap (i64.wrap (v1+v2)))/2 ^ (1:Int).toNat)))))else some (.inr v1))
def jl(a0:U aN)(a1:Int)(a2:(aN×Int×Unit)->J Int):J (Int×Bool):=
 (iter (mI a0 a1 a2) n ((0:Int),(a0.length:Int))).bind λw1=>(bif decide (w1<(a0.length:Int))then(bo a0 w1).bind λx2=>(a2 (x2,a1,())).bind λr2=>some (w1,(r2==0))else some (w1,false))
def lK(a0:aN)(a1:Int):J Int:=
 (bif decide (a0.to<=(a1:Int))then some ((-1):Int)else some (1:Int))
def CY(a0:U aN)(a1:Int):J Bool:=
 (jl n a0 a1 (λ (y1:aN×Int×Unit)=>lK y1.1 y1.2.1)).bind λr1=>(bif decide (r1.1<(a0.length:Int))then(bo a0 r1.1).bind λx1=>some (decide (x1.from_<=(a1:Int)))else some false)
def wH(r1:U aN):Stp (Int×(List Int)) (List Int)
 |(v1,v2)=>(bif decide (v1<(r1.length:Int))then ck (cN v1 r1.length)<|(bo r1 ((0:Nat)+v1:Int)).bind λx1=>ck (bP v2.length v2.length (sub ([x1.from_,x1.to]:U Int) 0 2).length 2 8)<|gV (v2++(sub ([x1.from_,x1.to]:U Int) 0 2)) λr2=>ck (aE r2.length r2.length)<|some (.inl ((i64.wrap (v1+1)),r2))else ck (aE v2.length v2.length)<|some (.inr v2))
def wI(a0:U aN)(a1:U aN)(a2:(Bool×Bool×Unit)->J Bool)(r4:Unit×(List Int)):Stp (Int×(List aN)) (List aN)
 |(v3,v4)=>(bif decide (v3<(r4.2.length:Int))then(ck (cN (i64.wrap (v3 -1)) r4.2.length)<|(bo r4.2 ((0:Nat)+(i64.wrap (v3 -1)):Int)).bind λx2=>(CY n a0 x2).bind λr5=>(CY n a1 x2).bind λr6=>(a2 (r5,r6,())).bind λr7=>(bif (!r7)then ck (aE v4.length v4.length)<|some v4 else((bif decide ((v4.length:Int)>0)then ck (cN (i64.wrap ((v4.length:Int) -1)) v4.length)<|(bo v4 ((0:Nat)+(i64.wrap ((v4.length:Int) -1)):Int)).bind λx3=>some (x3.to==(x2:Int))else some false)).bind λv5=>(bif v5 then ck (cN v3 r4.2.length)<|(bo r4.2 ((0:Nat)+v3:Int)).bind λx4=>ck (cN (i64.wrap ((v4.length:Int) -1)) v4.length)<|(bo v4 ((0:Nat)+(i64.wrap ((v4.length:Int) -1)):Int)).bind λx5=>ck (aE v4.length (v4.set ((0:Nat)+(i64.wrap ((v4.length:Int) -1)):Int).toNat (aN.mk x5.from_ x4)).length)<|some (v4.set ((0:Nat)+(i64.wrap ((v4.length:Int) -1)):Int).toNat (aN.mk x5.from_ x4))else ck (cN v3 r4.2.length)<|(bo r4.2 ((0:Nat)+v3:Int)).bind λx6=>ck (bP v4.length v4.length (sub ([(aN.mk x2 x6)]:U aN) 0 1).length 1 16)<|gV (v4++(sub ([(aN.mk x2 x6)]:U aN) 0 1)) λr8=>ck (aE r8.length r8.length)<|some r8)):J ((List aN))).bind λv6=>ck (aE v6.length v6.length)<|some (.inl ((i64.wrap (v3+1)),v6))else ck (aE v4.length v4.length)<|some (.inr v4))
def Iw(a0:U aN)(a1:U aN)(a2:(Bool×Bool×Unit)->J Bool):J (List aN):=
 ck (aE (sub ([a0,a1]:U (List aN)) 0 2).length 2)<|(yU n (sub ([a0,a1]:U (List aN)) 0 2)).bind λr1=>ck (aE 0 ([]:U Int).length)<|(iter (wH r1) n ((0:Int),([]:U Int))).bind λw1=>ck (aE w1.length w1.length)<|(pu n w1).bind λr3=>ck (aE w1.length r3.length)<|(pz n r3).bind λr4=>ck (aE 0 ([]:U aN).length)<|(iter (wI n a0 a1 a2 r4) n ((1:Int),([]:U aN))).bind λw2=>ck (aE (sub w2 0 w2.length).length w2.length)<|some (sub w2 0 w2.length)
def qJ(a2:(Bool×Bool×Unit)->J Bool)(r3:U bZ)(r4:U bZ)(r5:U bZ):Stp (Int×(List bZ)) (List bZ)
 |(v2,v3)=>(bif decide (v2<(r5.length:Int))then ck (cN v2 r5.length)<|(bo v3 ((0:Nat)+v2:Int)).bind λx1=>(W9 n (sub r3 0 r3.length) x1.x0).bind λr6=>(W9 n (sub r4 0 r4.length) x1.x0).bind λr7=>(Iw n r6 r7 a2).bind λr8=>ck (cN v2 r5.length)<|ck (aE (sub r8 0 r8.length).length r8.length)<|(bo v3 ((0:Nat)+v2:Int)).bind λx2=>some (.inl ((i64.wrap (v2+1)),(v3.set ((0:Nat)+v2:Int).toNat (bZ.mk x2.x0 x2.x1 (sub r8 0 r8.length)))))else some (.inr v3))
def EC(a0:U ax)(a1:U ax)(a2:(Bool×Bool×Unit)->J Bool):J ((List ax)×Int):=
 ((nZ n a0).bind λr1=>(bif (!r1)then some true else(nZ n a1).bind λr2=>some (!r2))).bind λv1=>(bif v1 then some (([]:(List ax)),(1:Int))else ck (aE (sub ([a0]:U (List ax)) 0 1).length 1)<|(oD n (sub ([a0]:U (List ax)) 0 1)).bind λr3=>ck (aE (sub ([a1]:U (List ax)) 0 1).length 1)<|(oD n (sub ([a1]:U (List ax)) 0 1)).bind λr4=>ck (aE (sub r3 0 r3.length).length r3.length)<|ck (aE (sub r4 0 r4.length).length r4.length)<|ck (aE (sub ([a0,a1]:U (List ax)) 0 2).length 2)<|(oD n (sub ([a0,a1]:U (List ax)) 0 2)).bind λr5=>(iter (qJ n a2 r3 r4 r5) n ((0:Int),r5)).bind λw1=>ck (aE (sub w1 0 r5.length).length r5.length)<|(Iu n (sub w1 0 r5.length)).bind λr9=>ck (aE (sub r9 0 r9.length).length r9.length)<|(yT (sub r9 0 r9.length)).bind λwd=>some (wd.1,wd.2))
def xN(a0:Bool)(a1:Bool):J Bool:=
 (bif a0 then some a1 else some false)
def CZ(a0:U ax)(a1:U ax):J ((List ax)×Int):=
 (EC n a0 a1 (λ (y1:Bool×Bool×Unit)=>xN y1.1 y1.2.1)).bind λr1=>some (r1.1,r1.2)
def ED(a0:U ax):Stp (Int×Int) Int
 |(v1,v2)=>(bif decide (v2<(a0.length:Int))then(bo a0 v2).bind λx1=>(pE x1).bind λr2=>some (.inl ((i64.wrap (v1+r2)),(i64.wrap (v2+1))))else some (.inr v1))
def J2(a0:U ax):J Int:=
 (nZ n a0).bind λr1=>(bif (!r1)then some (0:Int)else(iter (ED a0) n ((0:Int),(0:Int))).bind λw1=>some w1)
def nM(a0:cK)(a1:Int):J (ax×Bool):=
 (CX n a0.area).bind λr1=>((bif (!r1.2)then some true else(bif decide (a1<0)then some true else some (decide (a1>20))))).bind λv1=>(bif v1 then some ((ax.mk 0 0 0 0),false)else(NQ r1.1 a1).bind λr2=>(bif (!r2.2)then some ((ax.mk 0 0 0 0),false)else ck (aE (sub ([r2.1]:U ax) 0 1).length 1)<|(CZ n a0.area (sub ([r2.1]:U ax) 0 1)).bind λr3=>(bif (r3.2==0)then(J2 n r3.1).bind λr4=>(pE r2.1).bind λr5=>some (r2.1,(r4==(r5:Int)))else some (r2.1,false))))
def we:tE xx SI.kx SI.eK:=⟨(λ x=>x.lot),(λ x=>x.use),(λ x=>x.floors),(λ x=>x.iS),(λ x=>x.a0),(λ x=>x.a1),λ_=>rfl,λ_=>rfl⟩
def aiO(a0:U bB)(a1:U (lu×Int)):J ((List bB)×(List (lu×Int))):=@mS xx SI.kx SI.eK (inferInstance:Inhabited bB) we a0 a1
def lM(x1:cK)(v6:Int):Stp (Int×(List bB)) (List bB)
 |(v9,v10)=>(bif decide (v9<72)then ck (6 !=0)<|ck (6 !=0)<|ck (bP v10.length v10.length (sub ([(bB.mk x1.id (Int.tmod v9 6) (i64.wrap ((i64.wrap (Int.tdiv v9 6))+1)) v6)]:U bB) 0 1).length 1 32)<|gV (v10++(sub ([(bB.mk x1.id (Int.tmod v9 6) (i64.wrap ((i64.wrap (Int.tdiv v9 6))+1)) v6)]:U bB) 0 1)) λr3=>ck (aE r3.length r3.length)<|some (.inl ((i64.wrap (v9+1)),r3))else ck (aE v10.length v10.length)<|some (.inr v10))
def lN(x1:cK):Stp (Int×(List (lu×Int))×(List bB)) ((List (lu×Int))×(List bB))
 |(v6,v7,v8)=>(bif decide (v6<21)then((nM n x1 v6).bind λr1=>(bif (!r1.2)then ck (aE v8.length v8.length)<|some (v7,v8)else(pE r1.1).bind λr2=>ck (aE v8.length v8.length)<|(iter (lM x1 v6) n ((0:Int),v8)).bind λw1=>ck (aE w1.length w1.length)<|some ((o6 (H7 (X:=xx) SI.eK) (lu.mk x1.id v6) r2 v7),w1)):J ((List (lu×Int))×(List bB))).bind λ(v11,v12)=>ck (aE v12.length v12.length)<|some (.inl ((i64.wrap (v6+1)),v11,v12))else ck (aE v8.length v8.length)<|some (.inr (v7,v8)))
def lQ(a0:U cK):Stp (Int×(List (lu×Int))×(List (Int×Bool))×(List bB)) ((List (lu×Int))×(List bB))
 |(v1,v2,v3,v4)=>(bif decide (v1<(a0.length:Int))then((bo a0 v1).bind λx1=>((bif ((eY gj x1.id v3).getD false)then some true else(bif decide (x1.id<0)then some true else some (decide (x1.id>1073741824))))).bind λv5=>(bif v5 then ck (aE v4.length v4.length)<|some (v2,v3,v4)else ck (aE v4.length v4.length)<|(iter (lN n x1) n ((0:Int),v2,v4)).bind λ(w2,w3)=>ck (aE w3.length w3.length)<|some (w2,(o6 gj x1.id true v3),w3)):J ((List (lu×Int))×(List (Int×Bool))×(List bB))).bind λ(v13,v14,v15)=>ck (aE v15.length v15.length)<|some (.inl ((i64.wrap (v1+1)),v13,v14,v15))else ck (aE v4.length v4.length)<|some (.inr (v2,v4)))
def pG(a0:U cK):J (List bB):=
 ck (aE 0 ([]:U bB).length)<|(iter (lQ n a0) n ((0:Int),([]:(List (lu×Int))),([]:(List (Int×Bool))),([]:U bB))).bind λ(w4,w5)=>ck (aE w5.length w5.length)<|(aiO w5 w4).bind λr4=>ck (aE (sub r4.1 0 w5.length).length w5.length)<|some (sub r4.1 0 w5.length)
def vM(a0:cK)(a1:bB):J (bn×Bool):=
 (nM n a0 a1.iS).bind λr1=>((bif (!r1.2)then some true else(bif (a1.lot !=(a0.id:Int))then some true else(bif decide (a1.lot<0)then some true else(bif decide (a1.lot>1073741824)then some true else(bif decide (a1.use<0)then some true else(bif decide (a1.use>=6)then some true else(bif decide (a1.floors<1)then some true else some (decide (a1.floors>12)))))))))).bind λv1=>(bif v1 then some ((bn.mk 0 ([])),false)else((bif (a1.use==0)then some (r1.1.x0,r1.1.y0,r1.1.x1,r1.1.y1,(0:Int),(i64.wrap (a1.floors*3)),a1.use,a1.floors,false)else some (r1.1.x0,r1.1.y0,r1.1.x1,r1.1.y1,(0:Int),(i64.wrap (a1.floors*3)),a1.use,(0:Int),false)):J (Int×Int×Int×Int×Int×Int×Int×Int×Bool)).bind λ(v2,v3,v4,v5,v6,v7,v8,v9,v10)=>ck (aE (sub ([(aH.mk v2 v3 v4 v5 v6 v7 v8 v9 v10)]:U aH) 0 1).length 1)<|ck (aE (sub ([(tF.mk (sub ([(aH.mk v2 v3 v4 v5 v6 v7 v8 v9 v10)]:U aH) 0 1) ([]))]:U tF) 0 1).length 1)<|some ((bn.mk a1.lot (sub ([(tF.mk (sub ([(aH.mk v2 v3 v4 v5 v6 v7 v8 v9 v10)]:U aH) 0 1) ([]))]:U tF) 0 1)),true))
def Iy(a0:cK)(a1:bB):J bn:=
 (vM n a0 a1).bind λr1=>some r1.1
def Bj(a0:U ax):J (List ax):=
 (bif a0.isEmpty then(both (some ([]:(List ax))) (ck (bP ([]:U ax).length 0 a0.length a0.length 32)<|gV (([]:U ax)++a0) λr1=>ck (aE (sub r1 0 r1.length).length r1.length)<|some (sub r1 0 r1.length)))else ck (bP ([]:U ax).length 0 a0.length a0.length 32)<|gV (([]:U ax)++a0) λr2=>ck (aE (sub r2 0 r2.length).length r2.length)<|some (sub r2 0 r2.length))
def EF(a0:U Int):J (List Int):=
 (bif a0.isEmpty then(both (some ([]:(List Int))) (ck (bP ([]:U Int).length 0 a0.length a0.length 8)<|gV (([]:U Int)++a0) λr1=>ck (aE (sub r1 0 r1.length).length r1.length)<|some (sub r1 0 r1.length)))else ck (bP ([]:U Int).length 0 a0.length a0.length 8)<|gV (([]:U Int)++a0) λr2=>ck (aE (sub r2 0 r2.length).length r2.length)<|some (sub r2 0 r2.length))
def NU(a0:cK):J cK:=
 (Bj a0.area).bind λr1=>(EF a0.from_).bind λr2=>ck (aE (sub r1 0 r1.length).length r1.length)<|ck (aE (sub r2 0 r2.length).length r2.length)<|some (cK.mk a0.id a0.owner (sub r1 0 r1.length) (sub r2 0 r2.length))
def EG(a0:U cK)(a1:Int):Stp Int (Unit⊕(cK×Bool))
 |v1=>(bif decide (v1<(a0.length:Int))then(bo a0 v1).bind λx1=>(bif (x1.id==(a1:Int))then(NU x1).bind λr1=>(some (r1,true)).map λa=> .inr (.inr a)else some (.inl (i64.wrap (v1+1))))else some (.inr (.inl ())))
def NV(a0:U cK)(a1:Int):J (cK×Bool):=
 dF (iter (EG a0 a1) n (0:Int)) λ()=>some ((cK.mk 0 0 ([]) ([])),false)
def nN(a0:bn)(a1:Int)(a2:Int):Stp (Int×(List aH)) (List aH)
 |(v1,v2)=>(bif decide (v1<(a0.phases.length:Int))then((bo a0.phases v1).bind λx1=>((bif decide (v1>=(a1:Int))then some (decide (v1<(a2:Int)))else some false)).bind λv3=>(bif v3 then ck (bP v2.length v2.length x1.cM.length x1.cM.length 72)<|gV (v2++x1.cM) λr1=>ck (aE r1.length r1.length)<|some r1 else ck (aE v2.length v2.length)<|some v2):J ((List aH))).bind λv4=>ck (aE v4.length v4.length)<|some (.inl ((i64.wrap (v1+1)),v4))else ck (aE v2.length v2.length)<|some (.inr v2))
def og(a0:bn)(a1:Int)(a2:Int):J (List aH):=
 ck (aE 0 ([]:U aH).length)<|(iter (nN a0 a1 a2) n ((0:Int),([]:U aH))).bind λw1=>ck (aE (sub w1 0 w1.length).length w1.length)<|some (sub w1 0 w1.length)
def wJ(a0:bn):J (List aH):=
 (og n a0 0 (a0.phases.length:Int)).bind λr1=>ck (aE (sub r1 0 r1.length).length r1.length)<|some (sub r1 0 r1.length)
def fZ(a0:aH):J Bool:=
 ((nJ (ax.mk a0.bz a0.cC a0.bx a0.cz)).bind λr1=>(bif (!r1)then some true else(bif decide (a0.eQ<0)then some true else(bif decide (a0.eQ>=(a0.ep:Int))then some true else some (decide (a0.ep>4096)))))).bind λv1=>(bif v1 then some false else((bif (a0.use !=0)then some (a0.units !=0)else some false)).bind λv2=>(bif v2 then some false else(bif decide (a0.use>=0)then(bif decide (a0.use<6)then(bif decide (a0.units>=0)then some (decide (a0.units<=1048576))else some false)else some false)else some false)))
def xO(a0:D2)(a1:D2):J Bool:=
 (sD (ax.mk a0.oS a0.oE a0.oR a0.oB) (ax.mk a1.oS a1.oE a1.oR a1.oB)).bind λr1=>(bif r1.2 then(bif decide (a0.z0<(a1.z1:Int))then some (decide (a1.z0<(a0.z1:Int)))else some false)else some false)
def rq(a0:aH)(a1:aH):J Bool:=
 (xO (D2.mk a1.bz a1.cC a1.bx a1.cz a1.eQ a1.ep) (D2.mk a0.bz a0.cC a0.bx a0.cz a0.eQ a0.ep)).bind λr1=>some r1
def EH(a0:U aH)(a1:(aH×Unit)->J Bool):Stp Int (Unit⊕Int)
 |v1=>(bif decide (v1<(a0.length:Int))then(bo a0 v1).bind λx1=>(a1 (x1,())).bind λr1=>(bif r1 then(some v1).map λa=> .inr (.inr a)else some (.inl (i64.wrap (v1+1))))else some (.inr (.inl ())))
def qw(a0:U aH)(a1:(aH×Unit)->J Bool):J Int:=
 dF (iter (EH a0 a1) n (0:Int)) λ()=>some ((-1):Int)
def fM(a0:U aH)(a1:(aH×Unit)->J Bool):J Bool:=
 (qw n a0 a1).bind λr1=>some (decide (r1>=0))
def EI(a0:Int):J Bool:=
 (bif decide (a0>=97)then some (decide (a0<=122))else some false)
def Ah(a0:ByteArray)(a1:(Int×Unit)->J Bool):Stp Int Int
 |v1=>((bif decide (v1<(a0.size:Int))then(RI a0 v1).bind λx1=>(a1 (x1,())).bind λr1=>some r1 else some false)).bind λv2=>(bif v2 then some (.inl (i64.wrap (v1+1)))else some (.inr v1))
def NW(a0:ByteArray)(a1:(Int×Unit)->J Bool):J Int:=
 (iter (Ah a0 a1) n (0:Int)).bind λw1=>some w1
def Qf(a0:Int):J Bool:=
 (bif decide (a0>=48)then some (decide (a0<=57))else some false)
def Ai(a0:Int):J Bool:=
 (EI a0).bind λr1=>(bif r1 then some true else(Qf a0).bind λr2=>some r2)
def NY(a0:ByteArray):J Bool:=
 ((bif (ByteArray.toList a0==ByteArray.toList (⟨#[]⟩))then some true else(RI a0 0).bind λx1=>(EI x1).bind λr1=>(bif (!r1)then some true else some (decide ((a0.size:Int)>20))))).bind λv1=>(bif v1 then some false else(NW n a0 (λ (y1:Int×Unit)=>Ai y1.1)).bind λr2=>some (r2==(a0.size:Int)))
def strings_Contains(a0 a1:ByteArray):J Bool:=ck (Nat.ble a0.size 4000000)<|some (Lib.contains a0.data.toList a1.data.toList)
def wK(a0:ByteArray):J Bool:=
 (NY n a0).bind λr1=>(bif r1 then ck (VA (⟨#[32]⟩) a0)<|ck (VA ((⟨#[32]⟩)++a0) (⟨#[32]⟩))<|(strings_Contains (⟨#[32,97,110,100,32,97,112,97,114,116,32,98,97,115,101,32,99,97,112,32,100,101,102,105,110,101,32,101,108,115,101,32,101,120,99,101,112,116,32,102,114,111,109,32,103,114,97,99,101,32,104,111,117,114,115,32,105,102,32,105,110,32,108,101,97,115,116,32,110,111,116,32,111,114,32,111,118,101,114,108,97,121,32,112,108,97,110,101,32,114,117,108,101,32,115,108,111,112,101,32,115,117,110,32,116,97,98,108,101,32,116,104,101,110,32,117,110,116,105,108,32,117,115,101,115,32,118,97,114,121,32,118,105,101,119,32,122,111,110,101,32]⟩) (((⟨#[32]⟩)++a0)++(⟨#[32]⟩))).bind λr2=>some (!r2)else some false)
def kQ(r1:U aH):Stp Int (Unit⊕Bool)
 |v2=>(bif decide (v2<(r1.length:Int))then ck (cN v2 r1.length)<|(bo r1 ((0:Nat)+v2:Int)).bind λx1=>((fZ x1).bind λr2=>(bif (!r2)then some true else ck (yG 0 v2 r1.length)<|ck (aE (sub r1 0 ((v2:Int).toNat)).length ((v2:Int).toNat))<|(fM n (sub r1 0 ((v2:Int).toNat)) (λ (y1:aH×Unit)=>rq y1.1 x1)).bind λr3=>some r3)).bind λv3=>(bif v3 then(some false).map λa=> .inr (.inr a)else some (.inl (i64.wrap (v2+1))))else some (.inr (.inl ())))
def kR(x2:tF):Stp (Int×(List (ByteArray×Bool))) (Unit⊕(Int⊕(Unit⊕Bool)))
 |(v5,v6)=>(bif decide (v5<(x2.gives.length:Int))then(bo x2.gives v5).bind λx3=>((bif ((eY lv x3.name v6).getD false)then some true else(wK n x3.name).bind λr4=>(bif (!r4)then some true else(bif decide (x3.n<0)then some true else some (decide (x3.n>1073741824)))))).bind λv7=>(bif v7 then((some false).map λa=> .inr (.inr a)).map λa=> .inr (.inr a)else some (.inl ((i64.wrap (v5+1)),(o6 lv x3.name true v6))))else some (.inr (.inl ())))
def kS(a0:bn):Stp Int (Unit⊕Bool)
 |v4=>(bif decide (v4<(a0.phases.length:Int))then(bo a0.phases v4).bind λx2=>dF (iter (kR n x2) n ((0:Int),([]:(List (ByteArray×Bool))))) λ()=>(bif decide ((x2.gives.length:Int)>30)then(some false).map λa=> .inr (.inr a)else some (.inl (i64.wrap (v4+1))))else some (.inr (.inl ())))
def xP(a0:bn):J Bool:=
 (wJ n a0).bind λr1=>((bif decide (a0.lot<0)then some true else(bif decide (a0.lot>1073741824)then some true else(bif decide ((a0.phases.length:Int)<1)then some true else(bif decide ((a0.phases.length:Int)>8)then some true else(bif decide ((r1.length:Int)<1)then some true else some (decide ((r1.length:Int)>40)))))))).bind λv1=>(bif v1 then some false else dF (iter (kQ n r1) n (0:Int)) λ()=>dF (iter (kS n a0) n (0:Int)) λ()=>some true)
def vg(a0:gq)(a1:bW):J Bool:=
 some (ByteArray.toList a0.name==ByteArray.toList a1.name)
def Km(a0:U gq)(a1:(gq×Unit)->J Bool):Stp Int (Unit⊕Int)
 |v1=>(bif decide (v1<(a0.length:Int))then(bo a0 v1).bind λx1=>(a1 (x1,())).bind λr1=>(bif r1 then(some v1).map λa=> .inr (.inr a)else some (.inl (i64.wrap (v1+1))))else some (.inr (.inl ())))
def vk(a0:U gq)(a1:(gq×Unit)->J Bool):J Int:=
 dF (iter (Km a0 a1) n (0:Int)) λ()=>some ((-1):Int)
def mM(a0:U gq)(a1:(gq×Unit)->J Bool):J Bool:=
 (vk n a0 a1).bind λr1=>some (decide (r1>=0))
def jV(a1:cK)(r3:U aH):Stp Int (Unit⊕Bool)
 |v2=>(bif decide (v2<(r3.length:Int))then ck (cN v2 r3.length)<|(bo r3 ((0:Nat)+v2:Int)).bind λx1=>ck (aE (sub ([(ax.mk x1.bz x1.cC x1.bx x1.cz)]:U ax) 0 1).length 1)<|(CZ n a1.area (sub ([(ax.mk x1.bz x1.cC x1.bx x1.cz)]:U ax) 0 1)).bind λr4=>((bif (r4.2 !=0)then some true else(J2 n r4.1).bind λr5=>(pE (ax.mk x1.bz x1.cC x1.bx x1.cz)).bind λr6=>some (decide (r5<(r6:Int))))).bind λv3=>(bif v3 then(some false).map λa=> .inr (.inr a)else some (.inl (i64.wrap (v2+1))))else some (.inr (.inl ())))
def jW(a0:bS)(x2:tF):Stp Int (Unit⊕(Int⊕(Unit⊕Bool)))
 |v5=>(bif decide (v5<(x2.gives.length:Int))then(bo x2.gives v5).bind λx3=>(mM n a0.caps (λ (y1:gq×Unit)=>vg y1.1 x3)).bind λr7=>(bif (!r7)then((some false).map λa=> .inr (.inr a)).map λa=> .inr (.inr a)else some (.inl (i64.wrap (v5+1))))else some (.inr (.inl ())))
def jX(a0:bS)(a2:bn):Stp Int (Unit⊕Bool)
 |v4=>(bif decide (v4<(a2.phases.length:Int))then(bo a2.phases v4).bind λx2=>dF (iter (jW n a0 x2) n (0:Int)) λ()=>some (.inl (i64.wrap (v4+1)))else some (.inr (.inl ())))
def oG(a0:bS)(a1:cK)(a2:bn):J Bool:=
 ((xP n a2).bind λr1=>(bif (!r1)then some true else(bif (a1.id !=(a2.lot:Int))then some true else(nZ n a1.area).bind λr2=>some (!r2)))).bind λv1=>(bif v1 then some false else(wJ n a2).bind λr3=>dF (iter (jV n a1 r3) n (0:Int)) λ()=>dF (iter (jX n a0 a2) n (0:Int)) λ()=>some true)
def oP(a0:bn):Stp (Int×(List aH)) (List aH)
 |(v1,v2)=>(bif decide (v1<(a0.phases.length:Int))then(bo a0.phases v1).bind λx1=>ck (bP v2.length v2.length x1.cM.length x1.cM.length 72)<|gV (v2++x1.cM) λr1=>ck (aE r1.length r1.length)<|some (.inl ((i64.wrap (v1+1)),r1))else ck (aE v2.length v2.length)<|some (.inr v2))
def tT(a0:bn):J (List aH):=
 ck (aE 0 ([]:U aH).length)<|(iter (oP a0) n ((0:Int),([]:U aH))).bind λw1=>ck (aE (sub w1 0 w1.length).length w1.length)<|some (sub w1 0 w1.length)
def Aj(a0:bR)(a1:bn):J (l9×Int):=
 (NV n a0.land a1.lot).bind λr1=>(bif (!r1.2)then some ((l9.mk ([]) ([]) ([]) ([]) ([]) ([]) ([]) 0 ([]) ([]) ([]) ([]) ([]) 0 0 ([]) ([]) 0 ([]) ([]) ([])),(4:Int))else(oG n (bS.mk a0.cm a0.br a0.bu a0.az a0.cx a0.b9 a0.cE a0.ca) r1.1 a1).bind λr2=>(bif (!r2)then some ((l9.mk ([]) ([]) ([]) ([]) ([]) ([]) ([]) 0 ([]) ([]) ([]) ([]) ([]) 0 0 ([]) ([]) 0 ([]) ([]) ([])),(1:Int))else(tT n a1).bind λr3=>(sG n (bS.mk a0.cm a0.br a0.bu a0.az a0.cx a0.b9 a0.cE a0.ca) r1.1.area).bind λr4=>ck (aE (sub r3 0 r3.length).length r3.length)<|ck (aE (sub r4 0 r4.length).length r4.length)<|some ((l9.mk a0.cm a0.br a0.bu a0.az a0.cx a0.b9 a0.cE a0.ca a0.land a0.co a0.windows a0.built a0.base r1.1.id r1.1.owner r1.1.area r1.1.from_ a1.lot a1.phases (sub r3 0 r3.length) (sub r4 0 r4.length)),(0:Int))))
def vo(_:Nat)(a0:U ax)(a1:(ax×ax×Unit)->J Int):J (List ax):=GM a0 a1
def iF(a0:ax)(a1:ax):J Int:=
 (cmp_Compare_int a0.y0 a1.y0).bind λr1=>some r1
def kT(a0:aH):J Int:=
 ((bif a0.extra then some true else(fZ a0).bind λr1=>some (!r1))).bind λv1=>(bif v1 then some (0:Int)else ck (3 !=0)<|some (i64.wrap (Int.tdiv (i64.wrap ((i64.wrap ((i64.wrap (a0.ep -a0.eQ))+3)) -1)) 3)))
def oH(a0:aH):J Int:=
 (fZ a0).bind λr1=>(bif (!r1)then some (0:Int)else(pE (ax.mk a0.bz a0.cC a0.bx a0.cz)).bind λr2=>(kT a0).bind λr3=>some (i64.wrap (r2*r3)))
def nO(a0:aH):J Int:=
 some a0.ep
def oL(a0:aH):J Int:=
 some a0.units
def Bl(a0:ax)(a1:Int):J (ax×Bool):=
 (nJ (ax.mk (i64.wrap (a0.x0 -a1)) (i64.wrap (a0.y0 -a1)) (i64.wrap (a0.x1+a1)) (i64.wrap (a0.y1+a1)))).bind λr1=>some ((ax.mk (i64.wrap (a0.x0 -a1)) (i64.wrap (a0.y0 -a1)) (i64.wrap (a0.x1+a1)) (i64.wrap (a0.y1+a1))),r1)
def ko(a0:bW)(a1:JY)(a2:Int):J Bool:=
 ck (cN a2 6)<|(bo ([a1.a0,a1.a1,a1.a2,a1.a3,a1.a4,a1.a5]:U ByteArray) a2).bind λx1=>some (ByteArray.toList a0.name==ByteArray.toList x1)
def F3(a0:U bW)(a1:(bW×Unit)->J Bool):Stp Int (Unit⊕Int)
 |v1=>(bif decide (v1<(a0.length:Int))then(bo a0 v1).bind λx1=>(a1 (x1,())).bind λr1=>(bif r1 then(some v1).map λa=> .inr (.inr a)else some (.inl (i64.wrap (v1+1))))else some (.inr (.inl ())))
def kr(a0:U bW)(a1:(bW×Unit)->J Bool):J Int:=
 dF (iter (F3 a0 a1) n (0:Int)) λ()=>some ((-1):Int)
def ku(a0:bS)(a1:Int):Stp Int (Unit⊕Int)
 |v1=>(bif decide (v1<(a0.tables.length:Int))then(bo a0.tables v1).bind λx1=>(bif (!(ByteArray.toList x1.name==ByteArray.toList (⟨#[116,114,97,102,102,105,99]⟩)))then some (.inl (i64.wrap (v1+1)))else((kr n x1.rows (λ (y1:bW×Unit)=>ko y1.1 (JY.mk (⟨#[104,111,109,101]⟩) (⟨#[115,104,111,112]⟩) (⟨#[119,111,114,107]⟩) (⟨#[112,97,114,107]⟩) (⟨#[112,108,97,110,116]⟩) (⟨#[104,97,108,108]⟩)) a1)).bind λr1=>(bif decide (r1>=0)then(bo x1.rows r1).bind λx2=>some x2.n else some x1.sm):J Int).bind λv2=>(some (max (0:Int) (min v2 (1048576:Int)))).map λa=> .inr (.inr a))else some (.inr (.inl ())))
def Ak(a0:bS)(a1:Int):J Int:=
 dF (iter (ku n a0 a1) n (0:Int)) λ()=>some (0:Int)
def kU(a0:bS)(a1:aH):J Int:=
 (Ak n a0 a1.use).bind λr1=>(oH a1).bind λr2=>((bif decide (r1>0)then ck (r1 !=0)<|some (decide (r2>((i64.wrap (Int.tdiv 109951162777600 r1)):Int)))else some false)).bind λv1=>(bif v1 then some (1099511627776:Int)else ck (100 !=0)<|some (i64.wrap (Int.tdiv (i64.wrap ((i64.wrap ((i64.wrap (r1*r2))+100)) -1)) 100)))
def mO(a0:U eu)(a1:U dh)(a2:U dJ)(a3:U bI)(a4:U gq)(a5:U fq)(a6:U cu)(a7:Int)(a8:U ax)(a9:U aH):J (Int×gM):=
 (J2 n a8).bind λr1=>ck (aE a9.length a9.length)<|some (r1,a0,a1,a2,a3,a4,a5,a6,a7,a8,a9)
def gu(a9:U aH):Stp (Int×(List ax)×(List Int)) ((List ax)×(List Int))
 |(v1,v2,v3)=>(bif decide (v1<(a9.length:Int))then ck (cN v1 a9.length)<|(bo a9 ((0:Nat)+v1:Int)).bind λx1=>ck (cN v1 ((a9.length:Int).toNat))<|(bo v2 ((0:Nat)+v1:Int)).bind λx2=>ck (cN v1 ((a9.length:Int).toNat))<|(bo (v2.set ((0:Nat)+v1:Int).toNat (ax.mk x1.bz x1.cC x1.bx x1.cz)) ((0:Nat)+v1:Int)).bind λx3=>ck (cN v1 ((a9.length:Int).toNat))<|(bo (v2.set ((0:Nat)+v1:Int).toNat (ax.mk x1.bz x1.cC x1.bx x1.cz)) ((0:Nat)+v1:Int)).bind λx4=>ck (bP v3.length v3.length (sub ([x3.x0,x4.x1]:U Int) 0 2).length 2 8)<|gV (v3++(sub ([x3.x0,x4.x1]:U Int) 0 2)) λr1=>ck (aE r1.length r1.length)<|some (.inl ((i64.wrap (v1+1)),(v2.set ((0:Nat)+v1:Int).toNat (ax.mk x1.bz x1.cC x1.bx x1.cz)),r1))else ck (aE v3.length v3.length)<|some (.inr (v2,v3)))
def iU(a9:U aH)(w2:U Int)(r2:U ax)(r3:U Int)(v5:Int):Stp (Int×Int×Int) Int
 |(v6,v7,v8)=>(bif (decide (v8<((((a9.length:Int).toNat:Nat):Int):Int)))then(ck (cN v8 ((a9.length:Int).toNat))<|(bo r2 ((0:Nat)+v8:Int)).bind λx5=>(ck (cN v5 w2.length)<|(bo r3 ((0:Nat)+v5:Int)).bind λx6=>(bif decide (x5.x0<=(x6:Int))then ck (cN v5 w2.length)<|(bo r3 ((0:Nat)+v5:Int)).bind λx7=>(bif decide (x7<(x5.x1:Int))then some (decide (x5.y1>(v7:Int)))else some false)else some false)).bind λv9=>(bif v9 then ck (cN (i64.wrap (v5+1)) w2.length)<|(bo r3 ((0:Nat)+(i64.wrap (v5+1)):Int)).bind λx8=>ck (cN v5 w2.length)<|(bo r3 ((0:Nat)+v5:Int)).bind λx9=>some ((i64.wrap (v6+(i64.wrap ((i64.wrap (x8 -x9))*(i64.wrap (x5.y1 -(max v7 x5.y0))))))),x5.y1)else some (v6,v7)):J (Int×Int)).bind λ(v10,v11)=>some (.inl (v10,v11,(i64.wrap (v8+1))))else some (.inr v6))
def iV(a9:U aH)(w2:U Int)(r2:U ax)(r3:U Int):Stp (Int×Int) Int
 |(v4,v5)=>(bif (decide (v5<((max (0:Int) (i64.wrap ((w2.length:Int) -1))):Int)))then(iter (iU a9 w2 r2 r3 v5) n (v4,(0:Int),(0:Int))).bind λw3=>some (.inl (w3,(i64.wrap (v5+1))))else some (.inr v4))
def iG(a0:U eu)(a1:U dh)(a2:U dJ)(a3:U bI)(a4:U gq)(a5:U fq)(a6:U cu)(a7:Int)(a8:U ax)(a9:U aH):J (Int×gM):=
 ck (decide ((a9.length:Int)<=(a9.length:Int))&&(decide (0<=(a9.length:Int))&&xE (a9.length:Int) 32))<|ck (aE 0 ([]:U Int).length)<|(iter (gu a9) n ((0:Int),(List.replicate (a9.length:Int).toNat (ax.mk 0 0 0 0)),([]:U Int))).bind λ(w1,w2)=>ck (aE ((a9.length:Int).toNat) w1.length)<|(vo n w1 (λ (y1:ax×ax×Unit)=>iF y1.1 y1.2.1)).bind λr2=>ck (aE w2.length w2.length)<|(pu n w2).bind λr3=>(iter (iV n a9 w2 r2 r3) n ((0:Int),(0:Int))).bind λw4=>ck (aE a9.length a9.length)<|some (w4,a0,a1,a2,a3,a4,a5,a6,a7,a8,a9)
def jF(a9:U aH):Stp (Int×Int) Int
 |(v1,v2)=>(bif decide (v2<(a9.length:Int))then ck (cN v2 a9.length)<|(bo a9 ((0:Nat)+v2:Int)).bind λx1=>(oH x1).bind λr1=>some (.inl ((i64.wrap (v1+r1)),(i64.wrap (v2+1))))else some (.inr v1))
def qx(a0:U eu)(a1:U dh)(a2:U dJ)(a3:U bI)(a4:U gq)(a5:U fq)(a6:U cu)(a7:Int)(a8:U ax)(a9:U aH):J (Int×gM):=
 (iter (jF a9) n ((0:Int),(0:Int))).bind λw1=>ck (aE a9.length a9.length)<|some (w1,a0,a1,a2,a3,a4,a5,a6,a7,a8,a9)
def kE(a0:U eu)(a1:U dh)(a2:U dJ)(a3:U bI)(a4:U gq)(a5:U fq)(a6:U cu)(a7:Int)(a8:U ax)(a9:U aH):J (Int×gM):=
 ck (aE a9.length a9.length)<|(qx n a0 a1 a2 a3 a4 a5 a6 a7 a8 a9).bind λr1=>ck (aE r1.2.2.2.2.2.2.2.2.2.2.length r1.2.2.2.2.2.2.2.2.2.2.length)<|some (r1.1,r1.2.1,r1.2.2.1,r1.2.2.2.1,r1.2.2.2.2.1,r1.2.2.2.2.2.1,r1.2.2.2.2.2.2.1,r1.2.2.2.2.2.2.2.1,r1.2.2.2.2.2.2.2.2.1,r1.2.2.2.2.2.2.2.2.2.1,r1.2.2.2.2.2.2.2.2.2.2)
def gQ(a9:U aH):Stp (Int×Int) Int
 |(v1,v2)=>(bif decide (v2<(a9.length:Int))then ck (cN v2 a9.length)<|(bo a9 ((0:Nat)+v2:Int)).bind λx1=>(kT x1).bind λr1=>some (.inl ((max v1 r1),(i64.wrap (v2+1))))else some (.inr v1))
def mq(a0:U eu)(a1:U dh)(a2:U dJ)(a3:U bI)(a4:U gq)(a5:U fq)(a6:U cu)(a7:Int)(a8:U ax)(a9:U aH):J (Int×gM):=
 (iter (gQ a9) n ((0:Int),(0:Int))).bind λw1=>ck (aE a9.length a9.length)<|some (w1,a0,a1,a2,a3,a4,a5,a6,a7,a8,a9)
def jG(a0:U eu)(a1:U dh)(a2:U dJ)(a3:U bI)(a4:U gq)(a5:U fq)(a6:U cu)(a7:Int)(a8:U ax)(a9:U aH):J (Int×gM):=
 ck (aE a9.length a9.length)<|(mq n a0 a1 a2 a3 a4 a5 a6 a7 a8 a9).bind λr1=>ck (aE r1.2.2.2.2.2.2.2.2.2.2.length r1.2.2.2.2.2.2.2.2.2.2.length)<|some (r1.1,r1.2.1,r1.2.2.1,r1.2.2.2.1,r1.2.2.2.2.1,r1.2.2.2.2.2.1,r1.2.2.2.2.2.2.1,r1.2.2.2.2.2.2.2.1,r1.2.2.2.2.2.2.2.2.1,r1.2.2.2.2.2.2.2.2.2.1,r1.2.2.2.2.2.2.2.2.2.2)
def gT(a9:U aH):Stp (Int×Int) Int
 |(v1,v2)=>(bif decide (v2<(a9.length:Int))then ck (cN v2 a9.length)<|(bo a9 ((0:Nat)+v2:Int)).bind λx1=>(nO x1).bind λr1=>some (.inl ((max v1 r1),(i64.wrap (v2+1))))else some (.inr v1))
def mD(a0:U eu)(a1:U dh)(a2:U dJ)(a3:U bI)(a4:U gq)(a5:U fq)(a6:U cu)(a7:Int)(a8:U ax)(a9:U aH):J (Int×gM):=
 (iter (gT a9) n ((0:Int),(0:Int))).bind λw1=>ck (aE a9.length a9.length)<|some (w1,a0,a1,a2,a3,a4,a5,a6,a7,a8,a9)
def jH(a0:U eu)(a1:U dh)(a2:U dJ)(a3:U bI)(a4:U gq)(a5:U fq)(a6:U cu)(a7:Int)(a8:U ax)(a9:U aH):J (Int×gM):=
 ck (aE a9.length a9.length)<|(mD n a0 a1 a2 a3 a4 a5 a6 a7 a8 a9).bind λr1=>ck (aE r1.2.2.2.2.2.2.2.2.2.2.length r1.2.2.2.2.2.2.2.2.2.2.length)<|some (r1.1,r1.2.1,r1.2.2.1,r1.2.2.2.1,r1.2.2.2.2.1,r1.2.2.2.2.2.1,r1.2.2.2.2.2.2.1,r1.2.2.2.2.2.2.2.1,r1.2.2.2.2.2.2.2.2.1,r1.2.2.2.2.2.2.2.2.2.1,r1.2.2.2.2.2.2.2.2.2.2)
def jI(a9:U aH):Stp (Int×Int) Int
 |(v1,v2)=>(bif decide (v2<(a9.length:Int))then ck (cN v2 a9.length)<|(bo a9 ((0:Nat)+v2:Int)).bind λx1=>(oL x1).bind λr1=>some (.inl ((i64.wrap (v1+r1)),(i64.wrap (v2+1))))else some (.inr v1))
def qy(a0:U eu)(a1:U dh)(a2:U dJ)(a3:U bI)(a4:U gq)(a5:U fq)(a6:U cu)(a7:Int)(a8:U ax)(a9:U aH):J (Int×gM):=
 (iter (jI a9) n ((0:Int),(0:Int))).bind λw1=>ck (aE a9.length a9.length)<|some (w1,a0,a1,a2,a3,a4,a5,a6,a7,a8,a9)
def kF(a0:U eu)(a1:U dh)(a2:U dJ)(a3:U bI)(a4:U gq)(a5:U fq)(a6:U cu)(a7:Int)(a8:U ax)(a9:U aH):J (Int×gM):=
 ck (aE a9.length a9.length)<|(qy n a0 a1 a2 a3 a4 a5 a6 a7 a8 a9).bind λr1=>ck (aE r1.2.2.2.2.2.2.2.2.2.2.length r1.2.2.2.2.2.2.2.2.2.2.length)<|some (r1.1,r1.2.1,r1.2.2.1,r1.2.2.2.1,r1.2.2.2.2.1,r1.2.2.2.2.2.1,r1.2.2.2.2.2.2.1,r1.2.2.2.2.2.2.2.1,r1.2.2.2.2.2.2.2.2.1,r1.2.2.2.2.2.2.2.2.2.1,r1.2.2.2.2.2.2.2.2.2.2)
def iC(kq:U ax)(r1:ax×Bool):Stp (Int×Int) Int
 |(v1,v2)=>(bif decide (v2<(kq.length:Int))then((bo kq v2).bind λx1=>(sD r1.1 x1).bind λr2=>(bif r2.2 then(pE r2.1).bind λr3=>some (i64.wrap (v1+r3))else some v1):J Int).bind λv3=>some (.inl (v3,(i64.wrap (v2+1))))else some (.inr v1))
def jJ(a0:ax)(a1:Int)(a2:U eu)(a3:U dh)(a4:U dJ)(a5:U bI)(a6:U gq)(a7:U fq)(a8:U cu)(a9:Int)(kq:U ax)(te:U aH):J (Bool×gM):=
 (Bl a0 a1).bind λr1=>(bif (!r1.2)then ck (aE te.length te.length)<|some (false,a2,a3,a4,a5,a6,a7,a8,a9,kq,te)else(iter (iC kq r1) n ((0:Int),(0:Int))).bind λw1=>(pE r1.1).bind λr4=>ck (aE te.length te.length)<|some ((w1==(r4:Int)),a2,a3,a4,a5,a6,a7,a8,a9,kq,te))
def eZ(x1:aH):Stp (Int×Int×gM) (Int×gM)
 |(v13,v14,v15,v16,v17,v18,v19,v20,v21,v22,v23,v24)=>(bif decide (v13<(v14:Int))then ck (2 !=0)<|ck (aE v24.length v24.length)<|(jJ n (ax.mk x1.bz x1.cC x1.bx x1.cz) (i64.wrap (Int.tdiv (i64.wrap ((i64.wrap (v13+v14))+1)) 2)) v15 v16 v17 v18 v19 v20 v21 v22 v23 v24).bind λr1=>(bif r1.1 then ck (aE r1.2.2.2.2.2.2.2.2.2.2.length r1.2.2.2.2.2.2.2.2.2.2.length)<|some (.inl ((i64.wrap (Int.tdiv (i64.wrap ((i64.wrap (v13+v14))+1)) 2)),v14,r1.2.1,r1.2.2.1,r1.2.2.2.1,r1.2.2.2.2.1,r1.2.2.2.2.2.1,r1.2.2.2.2.2.2.1,r1.2.2.2.2.2.2.2.1,r1.2.2.2.2.2.2.2.2.1,r1.2.2.2.2.2.2.2.2.2.1,r1.2.2.2.2.2.2.2.2.2.2))else ck (aE r1.2.2.2.2.2.2.2.2.2.2.length r1.2.2.2.2.2.2.2.2.2.2.length)<|some (.inl (v13,(i64.wrap ((i64.wrap (Int.tdiv (i64.wrap ((i64.wrap (v13+v14))+1)) 2)) -1)),r1.2.1,r1.2.2.1,r1.2.2.2.1,r1.2.2.2.2.1,r1.2.2.2.2.2.1,r1.2.2.2.2.2.2.1,r1.2.2.2.2.2.2.2.1,r1.2.2.2.2.2.2.2.2.1,r1.2.2.2.2.2.2.2.2.2.1,r1.2.2.2.2.2.2.2.2.2.2)))else ck (aE v24.length v24.length)<|some (.inr (v13,v15,v16,v17,v18,v19,v20,v21,v22,v23,v24)))
def ig(a9:U aH):Stp (Int×Int×gM) (Int×gM)
 |(v1,v2,v3,v4,v5,v6,v7,v8,v9,v10,v11,v12)=>(bif decide (v2<(a9.length:Int))then ck (cN v2 a9.length)<|(bo v12 ((0:Nat)+v2:Int)).bind λx1=>ck (aE v12.length v12.length)<|(iter (eZ n x1) n ((0:Int),v1,v3,v4,v5,v6,v7,v8,v9,v10,v11,v12)).bind λ(w1,w2,w3,w4,w5,w6,w7,w8,w9,AK,AI)=>ck (aE AI.length AI.length)<|some (.inl (w1,(i64.wrap (v2+1)),w2,w3,w4,w5,w6,w7,w8,w9,AK,AI))else ck (aE v12.length v12.length)<|some (.inr (v1,v3,v4,v5,v6,v7,v8,v9,v10,v11,v12)))
def jg(a0:U eu)(a1:U dh)(a2:U dJ)(a3:U bI)(a4:U gq)(a5:U fq)(a6:U cu)(a7:Int)(a8:U ax)(a9:U aH):J (Int×gM):=
 ck (aE a9.length a9.length)<|(iter (ig n a9) n ((1048576:Int),(0:Int),a0,a1,a2,a3,a4,a5,a6,a7,a8,a9)).bind λ(w12,w13,w14,w15,w16,w17,w18,w19,w20,w21,QP)=>ck (aE QP.length QP.length)<|some (w12,w13,w14,w15,w16,w17,w18,w19,w20,w21,QP)
def kz(a0:aH)(a1:U eu)(a2:U dh)(a3:U dJ)(a4:U bI)(a5:U gq)(a6:U fq)(a7:U cu)(a8:Int)(a9:U ax)(kq:U aH):J (Int×gM):=
 (kU n (bS.mk a1 a2 a3 a4 a5 a6 a7 a8) a0).bind λr1=>ck (aE kq.length kq.length)<|some (r1,a1,a2,a3,a4,a5,a6,a7,a8,a9,kq)
def jK(a9:U aH):Stp (Int×Int×gM) (Int×gM)
 |(v1,v2,v3,v4,v5,v6,v7,v8,v9,v10,v11,v12)=>(bif decide (v2<(a9.length:Int))then ck (cN v2 a9.length)<|(bo v12 ((0:Nat)+v2:Int)).bind λx1=>ck (aE v12.length v12.length)<|(kz n x1 v3 v4 v5 v6 v7 v8 v9 v10 v11 v12).bind λr1=>ck (aE r1.2.2.2.2.2.2.2.2.2.2.length r1.2.2.2.2.2.2.2.2.2.2.length)<|some (.inl ((i64.wrap (v1+r1.1)),(i64.wrap (v2+1)),r1.2.1,r1.2.2.1,r1.2.2.2.1,r1.2.2.2.2.1,r1.2.2.2.2.2.1,r1.2.2.2.2.2.2.1,r1.2.2.2.2.2.2.2.1,r1.2.2.2.2.2.2.2.2.1,r1.2.2.2.2.2.2.2.2.2.1,r1.2.2.2.2.2.2.2.2.2.2))else ck (aE v12.length v12.length)<|some (.inr (v1,v3,v4,v5,v6,v7,v8,v9,v10,v11,v12)))
def qz(a0:U eu)(a1:U dh)(a2:U dJ)(a3:U bI)(a4:U gq)(a5:U fq)(a6:U cu)(a7:Int)(a8:U ax)(a9:U aH):J (Int×gM):=
 ck (aE a9.length a9.length)<|(iter (jK n a9) n ((0:Int),(0:Int),a0,a1,a2,a3,a4,a5,a6,a7,a8,a9)).bind λ(w1,w2,w3,w4,w5,w6,w7,w8,w9,AK,AI)=>ck (aE AI.length AI.length)<|some (w1,w2,w3,w4,w5,w6,w7,w8,w9,AK,AI)
def jh(a0:U eu)(a1:U dh)(a2:U dJ)(a3:U bI)(a4:U gq)(a5:U fq)(a6:U cu)(a7:Int)(a8:U ax)(a9:U aH):J (Int×gM):=
 ck (aE a9.length a9.length)<|(qz n a0 a1 a2 a3 a4 a5 a6 a7 a8 a9).bind λr1=>ck (aE r1.2.2.2.2.2.2.2.2.2.2.length r1.2.2.2.2.2.2.2.2.2.2.length)<|some (r1.1,r1.2.1,r1.2.2.1,r1.2.2.2.1,r1.2.2.2.2.1,r1.2.2.2.2.2.1,r1.2.2.2.2.2.2.1,r1.2.2.2.2.2.2.2.1,r1.2.2.2.2.2.2.2.2.1,r1.2.2.2.2.2.2.2.2.2.1,r1.2.2.2.2.2.2.2.2.2.2)
def qK(r2:U aH):Stp (Int×gM) (gM)
 |(v10,v11,v12,v13,v14,v15,v16,v17,v18,v19,v20)=>(bif decide (v10<(r2.length:Int))then(ck (cN v10 r2.length)<|(bo r2 ((0:Nat)+v10:Int)).bind λx1=>((bif decide (v10<40)then(fZ x1).bind λr3=>some r3 else some false)).bind λv21=>(bif v21 then ck (bP v20.length v20.length (sub ([x1]:U aH) 0 1).length 1 72)<|gV (v20++(sub ([x1]:U aH) 0 1)) λr4=>ck (aE r4.length r4.length)<|some (v11,v12,v13,v14,v15,v16,v17,v18,v19,r4)else ck (aE v20.length v20.length)<|some (v11,v12,v13,v14,v15,v16,v17,v18,v19,v20)):J (gM)).bind λ(v22,v23,v24,v25,v26,v27,v28,v29,v30,v31)=>ck (aE v31.length v31.length)<|some (.inl ((i64.wrap (v10+1)),v22,v23,v24,v25,v26,v27,v28,v29,v30,v31))else ck (aE v20.length v20.length)<|some (.inr (v11,v12,v13,v14,v15,v16,v17,v18,v19,v20)))
def jm(a0:bS)(a1:cK)(a2:bn):J (List bW):=
 ((nZ n a1.area).bind λr1=>(bif r1 then some (a0.defs,a0.tables,a0.zones,a0.rules,a0.caps,a0.views,a0.uk,a0.hours,a1.area)else some (a0.defs,a0.tables,a0.zones,a0.rules,a0.caps,a0.views,a0.uk,a0.hours,([]:(List ax)))):J ((List eu)×(List dh)×(List dJ)×(List bI)×(List gq)×(List fq)×(List cu)×Int×(List ax))).bind λ(v1,v2,v3,v4,v5,v6,v7,v8,v9)=>(og n a2 0 (a2.phases.length:Int)).bind λr2=>ck (aE 0 ([]:U aH).length)<|(iter (qK r2) n ((0:Int),v1,v2,v3,v4,v5,v6,v7,v8,v9,([]:U aH))).bind λ(w1,w2,w3,w4,w5,w6,w7,w8,w9,AK)=>ck (aE AK.length AK.length)<|(mO n w1 w2 w3 w4 w5 w6 w7 w8 w9 AK).bind λr5=>ck (bP 0 0 (sub ([(bW.mk (⟨#[97,114,101,97]⟩) r5.1)]:U bW) 0 1).length 1 24)<|gV ((sub ([(bW.mk (⟨#[97,114,101,97]⟩) r5.1)]:U bW) 0 1)) λr6=>ck (aE r5.2.2.2.2.2.2.2.2.2.2.length r5.2.2.2.2.2.2.2.2.2.2.length)<|(iG n r5.2.1 r5.2.2.1 r5.2.2.2.1 r5.2.2.2.2.1 r5.2.2.2.2.2.1 r5.2.2.2.2.2.2.1 r5.2.2.2.2.2.2.2.1 r5.2.2.2.2.2.2.2.2.1 r5.2.2.2.2.2.2.2.2.2.1 r5.2.2.2.2.2.2.2.2.2.2).bind λr7=>ck (bP r6.length r6.length (sub ([(bW.mk (⟨#[99,111,118,101,114]⟩) r7.1)]:U bW) 0 1).length 1 24)<|gV (r6++(sub ([(bW.mk (⟨#[99,111,118,101,114]⟩) r7.1)]:U bW) 0 1)) λr8=>ck (aE r7.2.2.2.2.2.2.2.2.2.2.length r7.2.2.2.2.2.2.2.2.2.2.length)<|(kE n r7.2.1 r7.2.2.1 r7.2.2.2.1 r7.2.2.2.2.1 r7.2.2.2.2.2.1 r7.2.2.2.2.2.2.1 r7.2.2.2.2.2.2.2.1 r7.2.2.2.2.2.2.2.2.1 r7.2.2.2.2.2.2.2.2.2.1 r7.2.2.2.2.2.2.2.2.2.2).bind λr9=>ck (bP r8.length r8.length (sub ([(bW.mk (⟨#[102,108,111,111,114]⟩) r9.1)]:U bW) 0 1).length 1 24)<|gV (r8++(sub ([(bW.mk (⟨#[102,108,111,111,114]⟩) r9.1)]:U bW) 0 1)) λwd=>ck (aE r9.2.2.2.2.2.2.2.2.2.2.length r9.2.2.2.2.2.2.2.2.2.2.length)<|(jG n r9.2.1 r9.2.2.1 r9.2.2.2.1 r9.2.2.2.2.1 r9.2.2.2.2.2.1 r9.2.2.2.2.2.2.1 r9.2.2.2.2.2.2.2.1 r9.2.2.2.2.2.2.2.2.1 r9.2.2.2.2.2.2.2.2.2.1 r9.2.2.2.2.2.2.2.2.2.2).bind λmL=>ck (bP wd.length wd.length (sub ([(bW.mk (⟨#[102,108,111,111,114,115]⟩) mL.1)]:U bW) 0 1).length 1 24)<|gV (wd++(sub ([(bW.mk (⟨#[102,108,111,111,114,115]⟩) mL.1)]:U bW) 0 1)) λxa=>ck (aE mL.2.2.2.2.2.2.2.2.2.2.length mL.2.2.2.2.2.2.2.2.2.2.length)<|(jH n mL.2.1 mL.2.2.1 mL.2.2.2.1 mL.2.2.2.2.1 mL.2.2.2.2.2.1 mL.2.2.2.2.2.2.1 mL.2.2.2.2.2.2.2.1 mL.2.2.2.2.2.2.2.2.1 mL.2.2.2.2.2.2.2.2.2.1 mL.2.2.2.2.2.2.2.2.2.2).bind λrK=>ck (bP xa.length xa.length (sub ([(bW.mk (⟨#[104,101,105,103,104,116]⟩) rK.1)]:U bW) 0 1).length 1 24)<|gV (xa++(sub ([(bW.mk (⟨#[104,101,105,103,104,116]⟩) rK.1)]:U bW) 0 1)) λHk=>ck (aE rK.2.2.2.2.2.2.2.2.2.2.length rK.2.2.2.2.2.2.2.2.2.2.length)<|(kF n rK.2.1 rK.2.2.1 rK.2.2.2.1 rK.2.2.2.2.1 rK.2.2.2.2.2.1 rK.2.2.2.2.2.2.1 rK.2.2.2.2.2.2.2.1 rK.2.2.2.2.2.2.2.2.1 rK.2.2.2.2.2.2.2.2.2.1 rK.2.2.2.2.2.2.2.2.2.2).bind λsy=>ck (bP Hk.length Hk.length (sub ([(bW.mk (⟨#[104,111,109,101,115]⟩) sy.1)]:U bW) 0 1).length 1 24)<|gV (Hk++(sub ([(bW.mk (⟨#[104,111,109,101,115]⟩) sy.1)]:U bW) 0 1)) λr16=>ck (aE sy.2.2.2.2.2.2.2.2.2.2.length sy.2.2.2.2.2.2.2.2.2.2.length)<|(iG n sy.2.1 sy.2.2.1 sy.2.2.2.1 sy.2.2.2.2.1 sy.2.2.2.2.2.1 sy.2.2.2.2.2.2.1 sy.2.2.2.2.2.2.2.1 sy.2.2.2.2.2.2.2.2.1 sy.2.2.2.2.2.2.2.2.2.1 sy.2.2.2.2.2.2.2.2.2.2).bind λsx=>ck (bP r16.length r16.length (sub ([(bW.mk (⟨#[114,117,110,111,102,102]⟩) sx.1)]:U bW) 0 1).length 1 24)<|gV (r16++(sub ([(bW.mk (⟨#[114,117,110,111,102,102]⟩) sx.1)]:U bW) 0 1)) λHj=>ck (aE sx.2.2.2.2.2.2.2.2.2.2.length sx.2.2.2.2.2.2.2.2.2.2.length)<|(jg n sx.2.1 sx.2.2.1 sx.2.2.2.1 sx.2.2.2.2.1 sx.2.2.2.2.2.1 sx.2.2.2.2.2.2.1 sx.2.2.2.2.2.2.2.1 sx.2.2.2.2.2.2.2.2.1 sx.2.2.2.2.2.2.2.2.2.1 sx.2.2.2.2.2.2.2.2.2.2).bind λp5=>ck (bP Hj.length Hj.length (sub ([(bW.mk (⟨#[115,101,116,98,97,99,107]⟩) p5.1)]:U bW) 0 1).length 1 24)<|gV (Hj++(sub ([(bW.mk (⟨#[115,101,116,98,97,99,107]⟩) p5.1)]:U bW) 0 1)) λHi=>ck (aE p5.2.2.2.2.2.2.2.2.2.2.length p5.2.2.2.2.2.2.2.2.2.2.length)<|(jh n p5.2.1 p5.2.2.1 p5.2.2.2.1 p5.2.2.2.2.1 p5.2.2.2.2.2.1 p5.2.2.2.2.2.2.1 p5.2.2.2.2.2.2.2.1 p5.2.2.2.2.2.2.2.2.1 p5.2.2.2.2.2.2.2.2.2.1 p5.2.2.2.2.2.2.2.2.2.2).bind λr21=>ck (bP Hi.length Hi.length (sub ([(bW.mk (⟨#[116,114,97,102,102,105,99]⟩) r21.1)]:U bW) 0 1).length 1 24)<|gV (Hi++(sub ([(bW.mk (⟨#[116,114,97,102,102,105,99]⟩) r21.1)]:U bW) 0 1)) λHh=>ck (aE (sub Hh 0 Hh.length).length Hh.length)<|some (sub Hh 0 Hh.length)
def yV(a0:Int):J (Int×Bool):=
 ((bif (a0==0)then some (a0==0)else(bif (a0==1)then some (a0==1)else(bif (a0==2)then some (a0==2)else some (a0==3))))).bind λv1=>(bif v1 then some ((0:Int),true)else((bif (a0==9)then some (a0==9)else some (a0==15))).bind λv2=>(bif v2 then some ((1:Int),true)else(bif (a0==16)then some ((3:Int),true)else(bif decide (a0>=0)then some ((2:Int),(decide (a0<17)))else some ((2:Int),false)))))
def xQ(n:Nat)(rc:(cB)->(Int)->J Int)(a0:cB)(a1:Int):Stp (Int×Int) Int
 |(v2,v3)=>(bif decide (v3<(a0.args.length:Int))then(bo a0.args v3).bind λx1=>(rc (cB.mk x1.op x1.n x1.s x1.key x1.args) (i64.wrap (a1+1))).bind λr2=>some (.inl ((max v2 r2),(i64.wrap (v3+1))))else some (.inr v2))
def Al(rc:(cB)->(Int)->J Int)(a0:cB)(a1:Int):J Int:=
 (yV a0.op).bind λr1=>((bif (!r1.2)then some true else(bif (r1.1 !=(a0.args.length:Int))then some true else some (decide (a1>=12))))).bind λv1=>(bif v1 then some (13:Int)else(iter (xQ n rc a0 a1) n ((0:Int),(0:Int))).bind λw1=>some (i64.wrap (w1+1)))
def EJ(rc:(cB)->(Int)->J Int):cp xx:=⟨[.d (.st SI.Expr),.d (.int .i64)],[.d (.int .i64)],λa=>rc a.1 a.2.1,none⟩
def sH(n:Nat):Nat->(cB)->(Int)->J Int
 | 0=>λ_ _=>none
 |m+1=>Al n (sH n m)
def Qg(a0:cB)(a1:Int):J Int:=sH n n a0 a1
def C8(a0:cB):J Bool:=
 (Qg n (cB.mk a0.op a0.n a0.s a0.key a0.args) 0).bind λr1=>some (decide (r1<=12))
def Am(a0:dh)(a1:cB):J Bool:=
 some (ByteArray.toList a0.name==ByteArray.toList a1.s)
def F4(a0:U dh)(a1:(dh×Unit)->J Bool):Stp Int (Unit⊕Int)
 |v1=>(bif decide (v1<(a0.length:Int))then(bo a0 v1).bind λx1=>(a1 (x1,())).bind λr1=>(bif r1 then(some v1).map λa=> .inr (.inr a)else some (.inl (i64.wrap (v1+1))))else some (.inr (.inl ())))
def rM(a0:U dh)(a1:(dh×Unit)->J Bool):J Int:=
 dF (iter (F4 a0 a1) n (0:Int)) λ()=>some ((-1):Int)
def Ao(a0:bW)(a1:cB):J Bool:=
 some (ByteArray.toList a0.name==ByteArray.toList a1.key)
def yX(a0:Bool):J Int:=
 (bif a0 then some (1:Int)else some (0:Int))
def wL(a0:Int)(a1:Int):J Int:=
 (bif (a1==0)then some (0:Int)else ck (a1 !=0)<|(ck (a1 !=0)<|((bif ((Int.tmod a0 a1) !=0)then some (!((decide ((Int.tmod a0 a1)<0))==(decide (a1<0))))else some false)).bind λv1=>(bif v1 then some (i64.wrap ((i64.wrap (Int.tdiv a0 a1)) -1))else some (i64.wrap (Int.tdiv a0 a1))):J Int).bind λv2=>some v2)
def J3(a0:Int)(a1:Int)(a2:Int):J Int:=
 (bif (a0==4)then some (i64.wrap (a1+a2))else(bif (a0==5)then some (i64.wrap (a1 -a2))else(bif (a0==6)then some (i64.wrap (a1*a2))else(bif (a0==7)then(wL a1 a2).bind λr1=>some r1 else(bif (a0==8)then(bif (a2==0)then some (0:Int)else(wL a1 a2).bind λr2=>some (i64.wrap (a1 -(i64.wrap (r2*a2)))))else(bif (a0==10)then(yX (a1==(a2:Int))).bind λr3=>some r3 else(bif (a0==11)then(yX (decide (a1<(a2:Int)))).bind λr4=>some r4 else(bif (a0==12)then(yX (decide (a1<=(a2:Int)))).bind λr5=>some r5 else(bif (a0==13)then(bif (a1 !=0)then(yX (a2 !=0)).bind λr6=>some r6 else(yX false).bind λr7=>some r7)else(bif (a1 !=0)then(yX true).bind λr8=>some r8 else(yX (a2 !=0)).bind λr9=>some r9))))))))))
def ji(a0:U eu)(a1:U dh)(a2:U dJ)(a3:U bI)(a4:U gq)(a5:U fq)(a6:U cu)(a7:Int)(a8:U ByteArray)(a9:cB)(kq:U (ByteArray×Int)):J (Int×(List (ByteArray×Int))):=
 (rM n a1 (λ (y1:dh×Unit)=>Am y1.1 (cB.mk a9.op a9.n a9.s a9.key a9.args))).bind λr1=>(bif decide (r1<0)then some ((0:Int),kq)else(bo a1 r1).bind λx1=>(kr n x1.rows (λ (y2:bW×Unit)=>Ao y2.1 (cB.mk a9.op a9.n a9.s a9.key a9.args))).bind λr2=>(bif decide (r2>=0)then(bo x1.rows r2).bind λx2=>some (x2.n,kq)else some (x1.sm,kq)))
def fB(n:Nat)(rc:((List eu))->((List dh))->((List dJ))->((List bI))->((List gq))->((List fq))->((List cu))->(Int)->((List ByteArray))->(cB)->((List (ByteArray×Int)))->J (Int×(List (ByteArray×Int))))(a0:U eu)(a1:U dh)(a2:U dJ)(a3:U bI)(a4:U gq)(a5:U fq)(a6:U cu)(a7:Int)(a8:U ByteArray)(a9:cB):Stp (Int×(List (ByteArray×Int))×(List Int)) ((List (ByteArray×Int))×(List Int))
 |(v1,v2,v3)=>(bif decide (v1<(a9.args.length:Int))then((bo a9.args v1).bind λx1=>((bif (a9.op==16)then(bif decide (v1>0)then ck (cN 0 v3.length)<|(bo v3 ((0:Nat)+0:Int)).bind λx2=>some (!((x2 !=0)==(v1==1)))else some false)else some false)).bind λv4=>(bif v4 then ck (bP v3.length v3.length (sub ([0]:U Int) 0 1).length 1 8)<|gV (v3++(sub ([0]:U Int) 0 1)) λr1=>ck (aE r1.length r1.length)<|some (v2,r1)else(rc a0 a1 a2 a3 a4 a5 a6 a7 a8 (cB.mk x1.op x1.n x1.s x1.key x1.args) v2).bind λr2=>ck (bP v3.length v3.length (sub ([r2.1]:U Int) 0 1).length 1 8)<|gV (v3++(sub ([r2.1]:U Int) 0 1)) λr3=>ck (aE r3.length r3.length)<|some (r2.2,r3)):J ((List (ByteArray×Int))×(List Int))).bind λ(v5,v6)=>ck (aE v6.length v6.length)<|some (.inl ((i64.wrap (v1+1)),v5,v6))else ck (aE v3.length v3.length)<|some (.inr (v2,v3)))
def fF(rc:((List eu))->((List dh))->((List dJ))->((List bI))->((List gq))->((List fq))->((List cu))->(Int)->((List ByteArray))->(cB)->((List (ByteArray×Int)))->J (Int×(List (ByteArray×Int))))(a0:U eu)(a1:U dh)(a2:U dJ)(a3:U bI)(a4:U gq)(a5:U fq)(a6:U cu)(a7:Int)(a8:U ByteArray)(a9:cB)(kq:U (ByteArray×Int)):J (Int×(List (ByteArray×Int))):=
 ck (aE 0 ([]:U Int).length)<|(iter (fB n rc a0 a1 a2 a3 a4 a5 a6 a7 a8 a9) n ((0:Int),kq,([]:U Int))).bind λ(w1,w2)=>(bif (a9.op==0)then some (a9.n,w1)else(bif (a9.op==1)then some (((eY lv a9.s w1).getD 0),w1)else(bif (a9.op==2)then(ji n a0 a1 a2 a3 a4 a5 a6 a7 a8 (cB.mk a9.op a9.n a9.s a9.key a9.args) w1).bind λr4=>some (r4.1,r4.2)else(bif (a9.op==3)then(fI n a8 a9.s).bind λr5=>(yX r5).bind λr6=>some (r6,w1)else(bif (a9.op==9)then ck (cN 0 w2.length)<|(bo w2 ((0:Nat)+0:Int)).bind λx3=>some ((i64.wrap (0 -x3)),w1)else(bif (a9.op==15)then ck (cN 0 w2.length)<|(bo w2 ((0:Nat)+0:Int)).bind λx4=>(yX (x4==0)).bind λr7=>some (r7,w1)else(bif (a9.op==16)then ck (cN 0 w2.length)<|(bo w2 ((0:Nat)+0:Int)).bind λx5=>(bif (x5 !=0)then ck (cN 1 w2.length)<|(bo w2 ((0:Nat)+1:Int)).bind λx6=>some (x6,w1)else ck (cN 2 w2.length)<|(bo w2 ((0:Nat)+2:Int)).bind λx7=>some (x7,w1))else ck (cN 0 w2.length)<|(bo w2 ((0:Nat)+0:Int)).bind λx8=>ck (cN 1 w2.length)<|(bo w2 ((0:Nat)+1:Int)).bind λx9=>(J3 a9.op x8 x9).bind λr8=>some (r8,w1))))))))
def EK(rc:((List eu))->((List dh))->((List dJ))->((List bI))->((List gq))->((List fq))->((List cu))->(Int)->((List ByteArray))->(cB)->((List (ByteArray×Int)))->J (Int×(List (ByteArray×Int)))):df xx:=⟨[(.a [(.v (.sl (.st SI.Def))),(.v (.sl (.st SI.Table))),(.v (.sl (.st SI.Zone))),(.v (.sl (.st SI.Rule))),(.v (.sl (.st SI.Cap))),(.v (.sl (.st SI.View))),(.v (.sl (.st SI.gx))),(.v (.int .i64)),(.mp 0),(.v (.sl .str))]),(.v (.st SI.Expr))],[(0,.m .str (.int .i64))],[(.v (.int .i64))],[(0,.m .str (.int .i64))],λv=>rc (v.1) (v.2.1) (v.2.2.1) (v.2.2.2.1) (v.2.2.2.2.1) (v.2.2.2.2.2.1) (v.2.2.2.2.2.2.1) (v.2.2.2.2.2.2.2.1) (v.2.2.2.2.2.2.2.2.1) (v.2.2.2.2.2.2.2.2.2.1) (v.2.2.2.2.2.2.2.2.2.2)⟩
def jL(rc:((List eu))->((List dh))->((List dJ))->((List bI))->((List gq))->((List fq))->((List cu))->(Int)->((List ByteArray))->(cB)->((List (ByteArray×Int)))->J (Int×(List (ByteArray×Int)))):cp xx:=⟨[],[.d .bool],λ_=>none,some (EK rc)⟩
def cO(n:Nat):Nat->((List eu))->((List dh))->((List dJ))->((List bI))->((List gq))->((List fq))->((List cu))->(Int)->((List ByteArray))->(cB)->((List (ByteArray×Int)))->J (Int×(List (ByteArray×Int)))
 | 0=>λ_ _ _ _ _ _ _ _ _ _ _=>none
 |m+1=>fF n (cO n m)
def fE(a0:U eu)(a1:U dh)(a2:U dJ)(a3:U bI)(a4:U gq)(a5:U fq)(a6:U cu)(a7:Int)(a8:U ByteArray)(a9:cB)(kq:U (ByteArray×Int)):J (Int×(List (ByteArray×Int))):=cO n n a0 a1 a2 a3 a4 a5 a6 a7 a8 a9 kq
def jY(n:Nat)(a1:U bW):Stp (Int×(List (ByteArray×Int))×(List (ByteArray×Bool))) ((List (ByteArray×Int))×(List (ByteArray×Bool)))
 |(v1,v2,v3)=>(bif decide (v1<(a1.length:Int))then((bo a1 v1).bind λx1=>(bif (!((eY lv x1.name v3).getD false))then some ((o6 lv x1.name x1.n v2),(o6 lv x1.name true v3))else some (v2,v3)):J ((List (ByteArray×Int))×(List (ByteArray×Bool)))).bind λ(v4,v5)=>some (.inl ((i64.wrap (v1+1)),v4,v5))else some (.inr (v2,v3)))
def gJ(a0:bS)(a2:U ByteArray)(w2:U (ByteArray×Bool))(r1:(List Int)×(List ByteArray)×Int):Stp (Int×(List (ByteArray×Int))×(List Int)) ((List (ByteArray×Int))×(List Int))
 |(v6,v7,v8)=>(bif decide (v6<(r1.1.length:Int))then(ck (cN v6 r1.1.length)<|(bo r1.1 ((0:Nat)+v6:Int)).bind λx2=>(bo a0.defs x2).bind λx3=>((C8 n (cB.mk x3.jn x3.lR x3.k7 x3.i8 x3.eL)).bind λr2=>(bif r2 then(fE n a0.defs a0.tables a0.zones a0.rules a0.caps a0.views a0.uk a0.hours a2 (cB.mk x3.jn x3.lR x3.k7 x3.i8 x3.eL) v7).bind λr3=>ck (cN x2 ((a0.defs.length:Int).toNat))<|(bo v8 ((0:Nat)+x2:Int)).bind λx4=>some (r3.2,(v8.set ((0:Nat)+x2:Int).toNat r3.1))else some (v7,v8)):J ((List (ByteArray×Int))×(List Int))).bind λ(v9,v10)=>(bif (!((eY lv x3.name w2).getD false))then ck (cN x2 ((a0.defs.length:Int).toNat))<|(bo v10 ((0:Nat)+x2:Int)).bind λx5=>some ((o6 lv x3.name x5 v9),v10)else some (v9,v10)):J ((List (ByteArray×Int))×(List Int))).bind λ(v11,v12)=>some (.inl ((i64.wrap (v6+1)),v11,v12))else some (.inr (v7,v8)))
def mE(a0:bS)(a1:U bW)(a2:U ByteArray):J ((List eu)×(List dh)×(List dJ)×(List bI)×(List gq)×(List fq)×(List cu)×Int×(List ByteArray)×(List (ByteArray×Int))×(List Int)):=
 (iter (jY n a1) n ((0:Int),([]:(List (ByteArray×Int))),([]:(List (ByteArray×Bool))))).bind λ(w1,w2)=>ck (decide ((a0.defs.length:Int)<=(a0.defs.length:Int))&&(decide (0<=(a0.defs.length:Int))&&xE (a0.defs.length:Int) 8))<|(jE n a0).bind λr1=>(bif (r1.2.2 !=0)then ck (aE ((a0.defs.length:Int).toNat) (List.replicate (a0.defs.length:Int).toNat (0:Int)).length)<|some (a0.defs,a0.tables,a0.zones,a0.rules,a0.caps,a0.views,a0.uk,a0.hours,a2,w1,(List.replicate (a0.defs.length:Int).toNat (0:Int)))else(iter (gJ n a0 a2 w2 r1) n ((0:Int),w1,(List.replicate (a0.defs.length:Int).toNat (0:Int)))).bind λ(w3,w4)=>ck (aE ((a0.defs.length:Int).toNat) w4.length)<|some (a0.defs,a0.tables,a0.zones,a0.rules,a0.caps,a0.views,a0.uk,a0.hours,a2,w3,w4))
def tV(a0:bS)(a1:U bW)(a2:U ByteArray)(a3:cB):J Int:=
 (C8 n (cB.mk a3.op a3.n a3.s a3.key a3.args)).bind λr1=>(bif (!r1)then some (0:Int)else(mE n a0 a1 a2).bind λr2=>(fE n r2.1 r2.2.1 r2.2.2.1 r2.2.2.2.1 r2.2.2.2.2.1 r2.2.2.2.2.2.1 r2.2.2.2.2.2.2.1 r2.2.2.2.2.2.2.2.1 r2.2.2.2.2.2.2.2.2.1 (cB.mk a3.op a3.n a3.s a3.key a3.args) r2.2.2.2.2.2.2.2.2.2.1).bind λr3=>some r3.1)
def xR(a0:aH):J (List fT):=
 ck (aE (sub ([(ax.mk a0.bz a0.cC a0.bx a0.cz)]:U ax) 0 1).length 1)<|ck (aE (sub ([(fT.mk a0.eQ a0.ep (sub ([(ax.mk a0.bz a0.cC a0.bx a0.cz)]:U ax) 0 1))]:U fT) 0 1).length 1)<|some (sub ([(fT.mk a0.eQ a0.ep (sub ([(ax.mk a0.bz a0.cC a0.bx a0.cz)]:U ax) 0 1))]:U fT) 0 1)
def F5(a0:U dW)(a1:(dW×Unit)->J Bool):Stp Int (Unit⊕Int)
 |v1=>(bif decide (v1<(a0.length:Int))then(bo a0 v1).bind λx1=>(a1 (x1,())).bind λr1=>(bif r1 then(some v1).map λa=> .inr (.inr a)else some (.inl (i64.wrap (v1+1))))else some (.inr (.inl ())))
def rO(a0:U dW)(a1:(dW×Unit)->J Bool):J Int:=
 dF (iter (F5 a0 a1) n (0:Int)) λ()=>some ((-1):Int)
def kG(a0:U dW)(a1:(dW×Unit)->J Bool):J Bool:=
 (rO n a0 a1).bind λr1=>some (decide (r1>=0))
def nP(a0:Int)(a1:Int)(a2:Int):J Bool:=
 (bif decide (a1<=(a0:Int))then some (decide (a0<=(a2:Int)))else some false)
def Ap(a0:dW):J Bool:=
 (nP a0.side 0 3).bind λr1=>(bif r1 then(nP a0.base 0 4096).bind λr2=>(bif r2 then(nP a0.num 0 4096).bind λr3=>(bif r3 then(nP a0.den 1 4096).bind λr4=>some r4 else some false)else some false)else some false)
def tX(a0:dW):J Bool:=
 (Ap a0).bind λr1=>some (!r1)
def Aq(a0:ax)(a1:U dW):J Bool:=
 (nJ a0).bind λr1=>(bif r1 then(kG n a1 (λ (y1:dW×Unit)=>tX y1.1)).bind λr2=>some (!r2)else some false)
def UE(a0:U ax)(a1:U ax):J Bool:=
 (oF n a0 a1).bind λr1=>some r1
def Ar(a0:U fT):Stp Int (Unit⊕Bool)
 |v1=>(bif decide (v1<(a0.length:Int))then dF ((bo a0 v1).bind λx1=>((bif decide (x1.z0<0)then some true else(bif decide (x1.z0>=(x1.z1:Int))then some true else(bif decide (x1.z1>4096)then some true else(bif ((x1.area.length:Int)==0)then some true else(nZ n x1.area).bind λr1=>some (!r1)))))).bind λv2=>(bif v2 then((some false).map λa=> .inr (.inr a)).map .inr else(bif (v1==0)then some (.inl ())else(bo a0 (i64.wrap (v1 -1))).bind λx2=>((bif decide (x2.z1>(x1.z0:Int))then some true else(bif (x2.z1==(x1.z0:Int))then(UE n x2.area x1.area).bind λr2=>some r2 else some false))).bind λv3=>(bif v3 then((some false).map λa=> .inr (.inr a)).map .inr else some (.inl ())))):J ((Unit)⊕_)) λ()=>some (.inl (i64.wrap (v1+1)))else some (.inr (.inl ())))
def Iz(a0:U fT):J Bool:=
 (bif decide ((a0.length:Int)>80)then some false else dF (iter (Ar n a0) n (0:Int)) λ()=>some true)
def xg(a0:ax)(a1:Int)(a2:Int):J NF:=
 some (NF.mk (i64.wrap (a1 -a0.x0)) (i64.wrap ((i64.wrap (a0.x1 -1)) -a1)) (i64.wrap (a2 -a0.y0)) (i64.wrap ((i64.wrap (a0.y1 -1)) -a2)))
def tY(a0:Int)(a1:Int):J Int:=
 ck (a1 !=0)<|(ck (a1 !=0)<|(bif decide ((Int.tmod a0 a1)<0)then some (i64.wrap ((i64.wrap (Int.tdiv a0 a1)) -1))else some (i64.wrap (Int.tdiv a0 a1))):J Int).bind λv1=>some v1
def xS(a0:ax)(a1:U dW)(a2:Int)(a3:Int)(r1:NF):Stp (Int×Int) Int
 |(v1,v2)=>(bif decide (v2<(a1.length:Int))then(bo a1 v2).bind λx1=>ck (cN x1.side 4)<|(bo ([r1.a0,r1.a1,r1.a2,r1.a3]:U Int) x1.side).bind λx2=>(tY (i64.wrap (x1.num*x2)) x1.den).bind λr2=>some (.inl ((min v1 (i64.wrap (x1.base+r2))),(i64.wrap (v2+1))))else some (.inr v1))
def J4(a0:ax)(a1:U dW)(a2:Int)(a3:Int):J Int:=
 (xg a0 a2 a3).bind λr1=>(iter (xS a0 a1 a2 a3 r1) n ((4096:Int),(0:Int))).bind λw1=>some w1
def oh(a0:ax)(a1:U dW)(x1:ax)(x2:Int):Stp (Int×Int) Int
 |(v5,v6)=>(bif decide (v6<2)then ck (cN v6 2)<|(bo ([x1.y0,(i64.wrap (x1.y1 -1))]:U Int) ((0:Nat)+v6:Int)).bind λx3=>(J4 n a0 a1 x2 x3).bind λr1=>some (.inl ((min v5 r1),(i64.wrap (v6+1))))else some (.inr v5))
def om(a0:ax)(a1:U dW)(x1:ax):Stp (Int×Int) Int
 |(v3,v4)=>(bif decide (v4<2)then ck (cN v4 2)<|(bo ([x1.x0,(i64.wrap (x1.x1 -1))]:U Int) ((0:Nat)+v4:Int)).bind λx2=>(iter (oh n a0 a1 x1 x2) n (v3,(0:Int))).bind λw1=>some (.inl (w1,(i64.wrap (v4+1))))else some (.inr v3))
def ru(a0:ax)(a1:U dW)(a2:U ax):Stp (Int×Int) Int
 |(v1,v2)=>(bif decide (v2<(a2.length:Int))then(bo a2 v2).bind λx1=>(iter (om n a0 a1 x1) n (v1,(0:Int))).bind λw2=>some (.inl (w2,(i64.wrap (v2+1))))else some (.inr v1))
def xU(a0:ax)(a1:U dW)(a2:U ax):J Int:=
 (iter (ru n a0 a1 a2) n ((4096:Int),(0:Int))).bind λw3=>some w3
def rz(a0:fT)(a1:ax)(a2:U dW):J Bool:=
 (xU n a1 a2 a0.area).bind λr1=>some (decide (r1<(a0.z1:Int)))
def lT(a0:U fT)(a1:(fT×Unit)->J Bool):Stp Int (Unit⊕Int)
 |v1=>(bif decide (v1<(a0.length:Int))then(bo a0 v1).bind λx1=>(a1 (x1,())).bind λr1=>(bif r1 then(some v1).map λa=> .inr (.inr a)else some (.inl (i64.wrap (v1+1))))else some (.inr (.inl ())))
def tZ(a0:U fT)(a1:(fT×Unit)->J Bool):J Int:=
 dF (iter (lT a0 a1) n (0:Int)) λ()=>some ((-1):Int)
def iX(a0:U fT)(a1:(fT×Unit)->J Bool):J Bool:=
 (tZ n a0 a1).bind λr1=>some (decide (r1>=0))
def xV(a0:ax)(a1:U dW)(a2:U fT):J Bool:=
 ((Aq n a0 a1).bind λr1=>(bif (!r1)then some true else(Iz n a2).bind λr2=>some (!r2))).bind λv1=>(bif v1 then some false else(iX n a2 (λ (y1:fT×Unit)=>rz n y1.1 a0 a1)).bind λr3=>some (!r3))
def jM(a0:aH)(a1:ax)(a2:bI):J Bool:=
 (xR a0).bind λr1=>ck (aE (sub ([(dW.mk a2.iv a2.ix a2.kf a2.kh)]:U dW) 0 1).length 1)<|ck (aE (sub r1 0 r1.length).length r1.length)<|(xV n a1 (sub ([(dW.mk a2.iv a2.ix a2.kf a2.kh)]:U dW) 0 1) (sub r1 0 r1.length)).bind λr2=>some (!r2)
def gK(a0:l9)(a1:(aH×Unit)->J Bool):J Bool:=
 (fM n a0.cM a1).bind λr1=>some r1
def jN(a0:aH)(a1:bI):J Bool:=
 ck (decide (0<=a0.use)&&decide (a0.use<=i64.bits))<|some ((bits .and .i64 a1.uses (i64.wrap (1*2 ^ (a0.use:Int).toNat)))==0)
def al8(a0:ax)(a1:ax):J (Int×Int):=
 some ((i64.wrap ((max a0.x0 a1.x0) -(min a0.x1 a1.x1))),(i64.wrap ((max a0.y0 a1.y0) -(min a0.y1 a1.y1))))
def OK(a0:ax)(a1:ax):J Int:=
 ((nJ a0).bind λr1=>(bif (!r1)then some true else(nJ a1).bind λr2=>some (!r2))).bind λv1=>(bif v1 then some ((-1):Int)else(al8 a0 a1).bind λr3=>some (max (max (0:Int) r3.1) r3.2))
def dV(a0:jd)(a1:l9)(a2:aH)(a3:bI):J Bool:=
 ((bif (a0.lot==(a1.ee:Int))then some true else(nJ (ax.mk a0.eC a0.ey a0.ez a0.ev)).bind λr1=>(bif (!r1)then some true else(bif decide (a0.fp<0)then some true else some (decide (a0.fp>=6)))))).bind λv1=>(bif v1 then some false else((bif (a2.use==(a3.uses:Int))then(bif (a0.fp==(a3.other:Int))then some true else(bif (a2.use==(a3.other:Int))then some (a0.fp==(a3.uses:Int))else some false))else(bif (a2.use==(a3.other:Int))then some (a0.fp==(a3.uses:Int))else some false))).bind λv2=>(bif v2 then(OK (ax.mk a2.bz a2.cC a2.bx a2.cz) (ax.mk a0.eC a0.ey a0.ez a0.ev)).bind λr2=>some (decide (r2<(a3.n:Int)))else some false))
def EL(a0:U jd)(a1:(jd×Unit)->J Bool):Stp Int (Unit⊕Int)
 |v1=>(bif decide (v1<(a0.length:Int))then(bo a0 v1).bind λx1=>(a1 (x1,())).bind λr1=>(bif r1 then(some v1).map λa=> .inr (.inr a)else some (.inl (i64.wrap (v1+1))))else some (.inr (.inl ())))
def qC(a0:U jd)(a1:(jd×Unit)->J Bool):J Int:=
 dF (iter (EL a0 a1) n (0:Int)) λ()=>some ((-1):Int)
def jO(a0:U jd)(a1:(jd×Unit)->J Bool):J Bool:=
 (qC n a0 a1).bind λr1=>some (decide (r1>=0))
def rP(a0:l9)(a1:bI)(a2:aH):J Bool:=
 (jO n a0.dg (λ (y1:jd×Unit)=>dV y1.1 a0 a2 a1)).bind λr1=>some r1
def jP(a0:aH)(a1:l9)(a2:bI):J Bool:=
 (rP n a1 a2 a0).bind λr1=>some r1
def mQ(a0:l9)(a1:bI):J Bool:=
 (bif (a1.kind==0)then(jm n (bS.mk a0.ct a0.b8 a0.b7 a0.ci a0.cw a0.cg a0.cD a0.cj) (cK.mk a0.s7 a0.mT a0.kO a0.pf) (bn.mk a0.ee a0.i7)).bind λr1=>ck (aE (sub r1 0 r1.length).length r1.length)<|(tV n (bS.mk a0.ct a0.b8 a0.b7 a0.ci a0.cw a0.cg a0.cD a0.cj) (sub r1 0 r1.length) a0.zones (cB.mk a1.lf a1.mC a1.mA a1.ke a1.gd)).bind λr2=>some (r2==0)else(bif (a1.kind==1)then(CX n a0.kO).bind λr3=>(gK n a0 (λ (y1:aH×Unit)=>jM n y1.1 r3.1 a1)).bind λr4=>some r4 else(bif (a1.kind==2)then(gK n a0 (λ (y2:aH×Unit)=>jN y2.1 a1)).bind λr5=>some r5 else(bif (a1.kind==3)then(gK n a0 (λ (y3:aH×Unit)=>jP n y3.1 a0 a1)).bind λr6=>some r6 else some false))))
def vN(a0:ax)(a1:ax):J Bool:=
 (bif decide ((max a1.x0 a0.x0)<((min a1.x1 a0.x1):Int))then some (decide ((max a1.y0 a0.y0)<((min a1.y1 a0.y1):Int)))else some false)
def IA(a0:U ax)(a1:(ax×Unit)->J Bool):Stp Int (Unit⊕Int)
 |v1=>(bif decide (v1<(a0.length:Int))then(bo a0 v1).bind λx1=>(a1 (x1,())).bind λr1=>(bif r1 then(some v1).map λa=> .inr (.inr a)else some (.inl (i64.wrap (v1+1))))else some (.inr (.inl ())))
def uf(a0:U ax)(a1:(ax×Unit)->J Bool):J Int:=
 dF (iter (IA a0 a1) n (0:Int)) λ()=>some ((-1):Int)
def iY(a0:U ax)(a1:(ax×Unit)->J Bool):J Bool:=
 (uf n a0 a1).bind λr1=>some (decide (r1>=0))
def EM(a0:ax)(a1:U ax):J Bool:=
 (iY n a1 (λ (y1:ax×Unit)=>vN y1.1 a0)).bind λr1=>some r1
def UF(a0:U ax)(a1:U ax):J Bool:=
 (iY n a0 (λ (y1:ax×Unit)=>EM n y1.1 a1)).bind λr1=>some r1
def qL(a0:fT)(a1:kM):J Bool:=
 (bif decide (a0.z1>(a1.top:Int))then(UF n a0.area a1.area).bind λr1=>some r1 else some false)
def vO(a0:U kM)(a1:Int)(a2:U fT):Stp Int (Unit⊕Bool)
 |v1=>(bif decide (v1<(a0.length:Int))then dF ((bo a0 v1).bind λx1=>((bif (x1.lot !=(a1:Int))then some true else(nZ n x1.area).bind λr2=>some (!r2))).bind λv2=>(bif v2 then some (.inl ())else(iX n a2 (λ (y1:fT×Unit)=>qL n y1.1 x1)).bind λr3=>(bif r3 then((some false).map λa=> .inr (.inr a)).map .inr else some (.inl ()))):J ((Unit)⊕_)) λ()=>some (.inl (i64.wrap (v1+1)))else some (.inr (.inl ())))
def EN(a0:U kM)(a1:Int)(a2:U fT):J Bool:=
 (Iz n a2).bind λr1=>(bif (!r1)then some false else dF (iter (vO n a0 a1 a2) n (0:Int)) λ()=>some true)
def mY(a0:aH)(a1:bR)(a2:bn):J Bool:=
 (xR a0).bind λr1=>ck (aE (sub r1 0 r1.length).length r1.length)<|(EN n a1.co a2.lot (sub r1 0 r1.length)).bind λr2=>some (!r2)
def jv(a0:ByteArray)(a1:Bool)(a2:U ByteArray):J (List ByteArray):=
 ((bif a1 then ck (aE (sub a2 0 a2.length).length a2.length)<|(fI n (sub a2 0 a2.length) a0).bind λr1=>some (!r1)else some false)).bind λv1=>(bif v1 then ck (bP a2.length a2.length (sub ([a0]:U ByteArray) 0 1).length 1 16)<|gV (a2++(sub ([a0]:U ByteArray) 0 1)) λr2=>ck (aE r2.length r2.length)<|some r2 else ck (aE a2.length a2.length)<|some a2)
def mZ(a0:bR)(r1:l9×Int)(r2:U Int):Stp (Int×(List ByteArray)) (List ByteArray)
 |(v1,v2)=>(bif decide (v1<(r2.length:Int))then ck (cN v1 r2.length)<|(bo r2 ((0:Nat)+v1:Int)).bind λx1=>(bo a0.az x1).bind λx2=>(bo a0.az x1).bind λx3=>(mQ n r1.1 x3).bind λr3=>ck (aE v2.length v2.length)<|(jv n x2.name r3 v2).bind λr4=>ck (aE r4.length r4.length)<|some (.inl ((i64.wrap (v1+1)),r4))else ck (aE v2.length v2.length)<|some (.inr v2))
def oI(a0:bR)(a1:bn)(a2:Int):J ((List ByteArray)×Int):=
 (Aj n a0 a1).bind λr1=>(bif (r1.2 !=0)then some (([]:(List ByteArray)),r1.2)else(nL n (bS.mk a0.cm a0.br a0.bu a0.az a0.cx a0.b9 a0.cE a0.ca) r1.1.zones a2).bind λr2=>ck (aE 0 ([]:U ByteArray).length)<|(iter (mZ n a0 r1 r2) n ((0:Int),([]:U ByteArray))).bind λw1=>(gK n r1.1 (λ (y1:aH×Unit)=>mY n y1.1 a0 a1)).bind λr5=>ck (aE w1.length w1.length)<|(jv n (⟨#[101,97,115,101,109,101,110,116]⟩) r5 w1).bind λr6=>ck (aE (sub r6 0 r6.length).length r6.length)<|some ((sub r6 0 r6.length),(0:Int)))
def mF(a0:bR)(a1:bn)(a2:Int):J Bool:=
 (oI n a0 a1 a2).bind λr1=>(bif (r1.2==0)then some ((r1.1.length:Int)==0)else some false)
def iH(a0:bB)(a1:kg)(a2:cK):J Bool:=
 (Iy n a2 a0).bind λr1=>(mF n (bR.mk a1.ct a1.b8 a1.b7 a1.ci a1.cw a1.cg a1.cD a1.cj a1.eW a1.c9 a1.d5 a1.dg a1.fc) r1 a1.day).bind λr2=>some r2
def F6(a0:U bB)(a1:(bB×Unit)->J Bool):Stp Int (Unit⊕Int)
 |v1=>(bif decide (v1<(a0.length:Int))then(bo a0 v1).bind λx1=>(a1 (x1,())).bind λr1=>(bif r1 then(some v1).map λa=> .inr (.inr a)else some (.inl (i64.wrap (v1+1))))else some (.inr (.inl ())))
def rQ(a0:U bB)(a1:(bB×Unit)->J Bool):J Int:=
 dF (iter (F6 a0 a1) n (0:Int)) λ()=>some ((-1):Int)
def iP(a0:kg)(a1:cK)(a2:U bB):J (bB×Bool):=
 (rQ n a2 (λ (y1:bB×Unit)=>iH n y1.1 a0 a1)).bind λr1=>(bif decide (r1<0)then some ((bB.mk 0 0 0 0),false)else(bo a2 r1).bind λx1=>some (x1,true))
def lU(a0:kg)(a1:cK):J (aQ×Bool):=
 (sG n (bS.mk a0.ct a0.b8 a0.b7 a0.ci a0.cw a0.cg a0.cD a0.cj) a1.area).bind λr1=>ck (aE (sub r1 0 r1.length).length r1.length)<|(nL n (bS.mk a0.ct a0.b8 a0.b7 a0.ci a0.cw a0.cg a0.cD a0.cj) (sub r1 0 r1.length) a0.day).bind λr2=>(bif ((r2.length:Int)==0)then some ((aQ.mk 0 a1.id ([]) 0 0 0 0 0 0),true)else ck (aE (sub ([a1]:U cK) 0 1).length 1)<|(pG n (sub ([a1]:U cK) 0 1)).bind λr3=>ck (aE (sub r3 0 r3.length).length r3.length)<|(iP n a0 a1 (sub r3 0 r3.length)).bind λr4=>(bif r4.2 then some ((aQ.mk 0 a1.id ([]) 0 0 0 0 0 0),false)else((bif decide (((sub r3 0 r3.length).length:Int)>0)then(bo (sub r3 0 r3.length) 0).bind λx1=>(bo (sub r3 0 r3.length) 0).bind λx2=>(Iy n a1 x2).bind λr5=>(oI n (bR.mk a0.ct a0.b8 a0.b7 a0.ci a0.cw a0.cg a0.cD a0.cj a0.eW a0.c9 a0.d5 a0.dg a0.fc) r5 a0.day).bind λr6=>ck (aE r6.1.length r6.1.length)<|some ((1:Int),a1.id,x1.lot,x1.use,x1.floors,x1.iS,(0:Int),(0:Int),r6.1)else ck (aE 0 ([]:U ByteArray).length)<|some ((1:Int),a1.id,(0:Int),(0:Int),(0:Int),(0:Int),(0:Int),(0:Int),([]:U ByteArray))):J (Int×Int×Int×Int×Int×Int×Int×Int×(List ByteArray))).bind λ(v1,v2,v3,v4,v5,v6,v7,v8,v9)=>ck (aE (sub v9 0 v9.length).length v9.length)<|some ((aQ.mk v1 v2 (sub v9 0 v9.length) v3 v4 v5 v6 v7 v8),true)))
def ug(a0:bR)(a1:Int):Stp (Int×(List (Int×Bool))×(List aQ)) (List aQ)
 |(v1,v2,v3)=>(bif decide (v1<(a0.land.length:Int))then((bo a0.land v1).bind λx1=>(bif ((eY gj x1.id v2).getD false)then ck (aE v3.length v3.length)<|some (v2,v3)else(lU n (kg.mk a0.cm a0.br a0.bu a0.az a0.cx a0.b9 a0.cE a0.ca a0.land a0.co a0.windows a0.built a0.base a1) x1).bind λr2=>(bif r2.2 then ck (bP v3.length v3.length (sub ([r2.1]:U aQ) 0 1).length 1 88)<|gV (v3++(sub ([r2.1]:U aQ) 0 1)) λr3=>ck (aE r3.length r3.length)<|some ((o6 gj x1.id true v2),r3)else ck (aE v3.length v3.length)<|some ((o6 gj x1.id true v2),v3))):J ((List (Int×Bool))×(List aQ))).bind λ(v4,v5)=>ck (aE v5.length v5.length)<|some (.inl ((i64.wrap (v1+1)),v4,v5))else ck (aE v3.length v3.length)<|some (.inr v3))
def fO(a0:bR)(a1:Int):J (List aQ):=
 (fH n (kg.mk a0.cm a0.br a0.bu a0.az a0.cx a0.b9 a0.cE a0.ca a0.land a0.co a0.windows a0.built a0.base a1)).bind λr1=>ck (aE r1.length r1.length)<|(iter (ug n a0 a1) n ((0:Int),([]:(List (Int×Bool))),r1)).bind λw1=>ck (aE (sub w1 0 w1.length).length w1.length)<|some (sub w1 0 w1.length)
def vP(a0:cK)(a1:Int):J Bool:=
 some (a0.id==(a1:Int))
def Kn(a0:U cK)(a1:(cK×Unit)->J Bool):Stp Int (Unit⊕Int)
 |v1=>(bif decide (v1<(a0.length:Int))then(bo a0 v1).bind λx1=>(a1 (x1,())).bind λr1=>(bif r1 then(some v1).map λa=> .inr (.inr a)else some (.inl (i64.wrap (v1+1))))else some (.inr (.inl ())))
def vv(a0:U cK)(a1:(cK×Unit)->J Bool):J Int:=
 dF (iter (Kn a0 a1) n (0:Int)) λ()=>some ((-1):Int)
def rR(a0:bR)(a1:Int)(a2:Int):J (bB×Bool):=
 (vv n a0.land (λ (y1:cK×Unit)=>vP y1.1 a1)).bind λr1=>(bif decide (r1<0)then some ((bB.mk 0 0 0 0),false)else(bo a0.land r1).bind λx1=>ck (yG r1 (i64.wrap (r1+1)) a0.land.length)<|(pG n (sub a0.land ((r1:Int).toNat) (((i64.wrap (r1+1)):Int).toNat -(r1:Int).toNat))).bind λr2=>ck (aE (sub r2 0 r2.length).length r2.length)<|(iP n (kg.mk a0.cm a0.br a0.bu a0.az a0.cx a0.b9 a0.cE a0.ca a0.land a0.co a0.windows a0.built a0.base a2) x1 (sub r2 0 r2.length)).bind λr3=>some (r3.1,r3.2))
def yY(a0:Int)(a1:Int)(a2:Bool)(a3:Int):J (Bool×Int):=
 ((bif decide (a0>(a1:Int))then(bif (!a2)then some true else some (decide (a0<(a3:Int))))else some false)).bind λv1=>(bif v1 then some (true,a0)else some (a2,a3))
def Xa(a0:bS)(a1:Int):Stp (Int×Int×Bool) (Int×Bool)
 |(v1,v2,v3)=>(bif decide (v1<(a0.rules.length:Int))then((bo a0.rules v1).bind λx1=>(yY x1.from_ a1 v3 v2).bind λr1=>(bif (x1.js !=0)then(yY x1.js a1 r1.1 r1.2).bind λr2=>some (r2.2,r2.1)else some (r1.2,r1.1)):J (Int×Bool)).bind λ(v4,v5)=>some (.inl ((i64.wrap (v1+1)),v4,v5))else some (.inr (v2,v3)))
def Au(a0:bS)(a1:Int):J (Int×Bool):=
 (iter (Xa a0 a1) n ((0:Int),(0:Int),false)).bind λ(w1,w2)=>some (w1,w2)
def nQ(a0:bR)(a2:Int):Stp (Int×Bool) (Unit⊕(Int×Bool))
 |(v1,v2)=>((bif v2 then some (decide (v1<=(a2:Int)))else some false)).bind λv3=>(bif v3 then(fO n a0 v1).bind λr1=>(bif decide ((r1.length:Int)>0)then(some (v1,true)).map λa=> .inr (.inr a)else(Au n (bS.mk a0.cm a0.br a0.bu a0.az a0.cx a0.b9 a0.cE a0.ca) v1).bind λr2=>some (.inl (r2.1,r2.2)))else some (.inr (.inl ())))
def J5(a0:bR)(a1:Int)(a2:Int):J (Int×Bool):=
 dF (iter (nQ n a0 a2) n (a1,true)) λ()=>some ((0:Int),false)
def xW(a0:U ByteArray)(a1:U ByteArray):Stp Int (Unit⊕Bool)
 |v1=>(bif decide (v1<(a0.length:Int))then(bo a0 v1).bind λx1=>(bo a1 v1).bind λx2=>(bif (!(ByteArray.toList x1==ByteArray.toList x2))then(some false).map λa=> .inr (.inr a)else some (.inl (i64.wrap (v1+1))))else some (.inr (.inl ())))
def J6(a0:U ByteArray)(a1:U ByteArray):J Bool:=
 (bif ((a0.length:Int) !=(a1.length:Int))then some false else dF (iter (xW a0 a1) n (0:Int)) λ()=>some true)
def Av(a0:U aQ)(a1:U aQ):Stp Int (Unit⊕Bool)
 |v1=>(bif decide (v1<(a0.length:Int))then((bo a0 v1).bind λx1=>(bo a1 v1).bind λx2=>(bif (x1.kind !=(x2.kind:Int))then some true else(bo a0 v1).bind λx3=>(bo a1 v1).bind λx4=>(bif (x3.lot !=(x4.lot:Int))then some true else(bo a0 v1).bind λx5=>(bo a1 v1).bind λx6=>(bif (!((x5.fx==(x6.fx:Int))&&((x5.ft==(x6.ft:Int))&&((x5.ec==(x6.ec:Int))&&((x5.er==(x6.er:Int))&&true)))))then some true else(bo a0 v1).bind λx7=>(bo a1 v1).bind λx8=>(bif (!((x7.td==(x8.td:Int))&&((x7.tc==(x8.tc:Int))&&true)))then some true else(bo a0 v1).bind λx9=>(bo a1 v1).bind λx10=>(J6 n x9.names x10.names).bind λr1=>some (!r1)))))).bind λv2=>(bif v2 then(some false).map λa=> .inr (.inr a)else some (.inl (i64.wrap (v1+1))))else some (.inr (.inl ())))
def C9(a0:U aQ)(a1:U aQ):J Bool:=
 (bif ((a0.length:Int) !=(a1.length:Int))then some false else dF (iter (Av n a0 a1) n (0:Int)) λ()=>some true)
def Da:J Bool:=
 (u7 6).bind λr1=>ck (aE (sub ([⟨#[99,111,114,101]⟩]:U ByteArray) 0 1).length 1)<|(yR (bI.mk (⟨#[97]⟩) (sub ([⟨#[99,111,114,101]⟩]:U ByteArray) 0 1) ([]) 0 0 0 false 0 r1.op r1.n r1.s r1.key r1.args 0 0 0 0 0 0 0)).bind λr2=>(u7 6).bind λr3=>ck (aE (sub ([⟨#[114,105,109]⟩]:U ByteArray) 0 1).length 1)<|(yR (bI.mk (⟨#[97]⟩) (sub ([⟨#[114,105,109]⟩]:U ByteArray) 0 1) ([]) 0 0 0 false 0 r3.op r3.n r3.s r3.key r3.args 0 0 0 0 0 0 0)).bind λr4=>(fO n r4 0).bind λr5=>(u7 2).bind λr6=>(yR (bI.mk (⟨#[97]⟩) ([]) ([]) 0 0 0 false 0 r6.op r6.n r6.s r6.key r6.args 0 0 0 0 0 0 0)).bind λr7=>(fO n r7 0).bind λr8=>(u7 6).bind λr9=>(yR (bI.mk (⟨#[97]⟩) ([]) ([]) 0 9 0 false 0 r9.op r9.n r9.s r9.key r9.args 0 0 0 0 0 0 0)).bind λwd=>(yR (bI.mk (⟨#[97]⟩) ([]) ([]) 0 0 0 false 0 0 1 (⟨#[]⟩) (⟨#[]⟩) ([]) 0 0 0 0 0 0 0)).bind λmL=>(rR n r2 1 0).bind λxa=>(J5 n wd 0 20).bind λrK=>((fO n r2 0).bind λHk=>(bif ((Hk.length:Int)==0)then(bif xa.2 then(bif ((xa.1.lot==1)&&((xa.1.use==0)&&((xa.1.floors==1)&&((xa.1.iS==1)&&true))))then ck (aE (sub r5 0 r5.length).length r5.length)<|ck (aE (sub ([(aQ.mk 0 1 ([]) 0 0 0 0 0 0)]:U aQ) 0 1).length 1)<|(C9 n (sub r5 0 r5.length) (sub ([(aQ.mk 0 1 ([]) 0 0 0 0 0 0)]:U aQ) 0 1)).bind λsy=>(bif sy then ck (aE (sub ([⟨#[97]⟩]:U ByteArray) 0 1).length 1)<|ck (aE (sub r8 0 r8.length).length r8.length)<|ck (aE (sub ([(aQ.mk 1 1 (sub ([⟨#[97]⟩]:U ByteArray) 0 1) 1 0 1 1 0 0)]:U aQ) 0 1).length 1)<|(C9 n (sub r8 0 r8.length) (sub ([(aQ.mk 1 1 (sub ([⟨#[97]⟩]:U ByteArray) 0 1) 1 0 1 1 0 0)]:U aQ) 0 1)).bind λr16=>some r16 else some false)else some false)else some false)else some false)).bind λv1=>((fO n wd 8).bind λsx=>(bif ((sx.length:Int)==0)then(fO n wd 9).bind λHj=>(bif ((Hj.length:Int)==1)then(bif (rK.1==9)then(bif rK.2 then ck (aE (sub ([(eu.mk (⟨#[120]⟩) 1 0 (⟨#[121]⟩) (⟨#[]⟩) ([])),(eu.mk (⟨#[121]⟩) 1 0 (⟨#[120]⟩) (⟨#[]⟩) ([]))]:U eu) 0 2).length 2)<|(fO n (bR.mk (sub ([(eu.mk (⟨#[120]⟩) 1 0 (⟨#[121]⟩) (⟨#[]⟩) ([])),(eu.mk (⟨#[121]⟩) 1 0 (⟨#[120]⟩) (⟨#[]⟩) ([]))]:U eu) 0 2) mL.br mL.bu mL.az mL.cx mL.b9 mL.cE mL.ca mL.land mL.co mL.windows mL.built mL.base) 0).bind λp5=>ck (aE (sub ([⟨#[120]⟩,⟨#[121]⟩]:U ByteArray) 0 2).length 2)<|ck (aE (sub p5 0 p5.length).length p5.length)<|ck (aE (sub ([(aQ.mk 3 0 (sub ([⟨#[120]⟩,⟨#[121]⟩]:U ByteArray) 0 2) 0 0 0 0 0 0)]:U aQ) 0 1).length 1)<|(C9 n (sub p5 0 p5.length) (sub ([(aQ.mk 3 0 (sub ([⟨#[120]⟩,⟨#[121]⟩]:U ByteArray) 0 2) 0 0 0 0 0 0)]:U aQ) 0 1)).bind λHi=>some Hi else some false)else some false)else some false)else some false)).bind λv2=>(bif v1 then some v2 else some false)
def Aw(rc:(cB)->J Int)(a0:cB):Stp (Int×Int) Int
 |(v1,v2)=>(bif decide (v2<(a0.args.length:Int))then(bo a0.args v2).bind λx1=>(rc x1).bind λr1=>some (.inl ((i64.wrap (v1+r1)),(i64.wrap (v2+1))))else some (.inr v1))
def EO(rc:(cB)->J Int)(a0:cB):J Int:=
 (iter (Aw rc a0) n ((1:Int),(0:Int))).bind λw1=>some w1
def IB(rc:(cB)->J Int):cp xx:=⟨[.d (.st SI.Expr)],[.d (.int .i64)],λa=>rc a.1,none⟩
def vw(n:Nat):Nat->(cB)->J Int
 | 0=>λ_=>none
 |m+1=>EO n (vw n m)
def IC(a0:cB):J Int:=vw n n a0
def uh(a0:bS):Stp Int (Unit⊕Bool)
 |v2=>(bif decide (v2<(a0.defs.length:Int))then(bo a0.defs v2).bind λx1=>(IC n (cB.mk x1.jn x1.lR x1.k7 x1.i8 x1.eL)).bind λr1=>(bif decide (r1>30)then(some false).map λa=> .inr (.inr a)else some (.inl (i64.wrap (v2+1))))else some (.inr (.inl ())))
def uj(a0:bS):Stp Int (Unit⊕Bool)
 |v3=>(bif decide (v3<(a0.rules.length:Int))then((bo a0.rules v3).bind λx2=>(IC n (cB.mk x2.lf x2.mC x2.mA x2.ke x2.gd)).bind λr2=>(bif decide (r2>30)then some true else(bo a0.rules v3).bind λx3=>(bif decide ((x3.zones.length:Int)>5)then some true else(bo a0.rules v3).bind λx4=>some (decide ((x4.except.length:Int)>5))))).bind λv4=>(bif v4 then(some false).map λa=> .inr (.inr a)else some (.inl (i64.wrap (v3+1))))else some (.inr (.inl ())))
def ul(a0:bS):Stp Int (Unit⊕Bool)
 |v5=>(bif decide (v5<(a0.tables.length:Int))then(bo a0.tables v5).bind λx5=>(bif decide ((x5.rows.length:Int)>8)then(some false).map λa=> .inr (.inr a)else some (.inl (i64.wrap (v5+1))))else some (.inr (.inl ())))
def um(a0:bS):Stp Int (Unit⊕Bool)
 |v6=>(bif decide (v6<(a0.zones.length:Int))then(bo a0.zones v6).bind λx6=>(bif decide ((x6.corners.length:Int)>12)then(some false).map λa=> .inr (.inr a)else some (.inl (i64.wrap (v6+1))))else some (.inr (.inl ())))
def uo(a0:bS):Stp Int (Unit⊕Bool)
 |v7=>(bif decide (v7<(a0.caps.length:Int))then(bo a0.caps v7).bind λx7=>(bif decide ((x7.corners.length:Int)>12)then(some false).map λa=> .inr (.inr a)else some (.inl (i64.wrap (v7+1))))else some (.inr (.inl ())))
def wM(a0:bS):J Bool:=
 ((bif decide ((a0.defs.length:Int)>5)then some true else(bif decide ((a0.rules.length:Int)>5)then some true else(bif decide ((a0.tables.length:Int)>4)then some true else(bif decide ((a0.zones.length:Int)>5)then some true else some (decide ((a0.caps.length:Int)>3))))))).bind λv1=>(bif v1 then some false else dF (iter (uh n a0) n (0:Int)) λ()=>dF (iter (uj n a0) n (0:Int)) λ()=>dF (iter (ul a0) n (0:Int)) λ()=>dF (iter (um a0) n (0:Int)) λ()=>dF (iter (uo a0) n (0:Int)) λ()=>some true)
def vQ(a0:ax):J Bool:=
 (bif decide (a0.x0>=0)then(bif decide (a0.x0<(a0.x1:Int))then(bif decide (a0.x1<=1048576)then(bif decide (a0.y0>=0)then(bif decide (a0.y0<(a0.y1:Int))then some (decide (a0.y1<=1048576))else some false)else some false)else some false)else some false)else some false)
def qM(a0:U Int)(v1:Int)(v2:U Int):Stp Int Int
 |v3=>((bif decide (v3>0)then ck (cN (i64.wrap (v3 -1)) v2.length)<|(bo v2 ((0:Nat)+(i64.wrap (v3 -1)):Int)).bind λx1=>(bo a0 v1).bind λx2=>some (decide (x1>(x2:Int)))else some false)).bind λv4=>(bif v4 then some (.inl (i64.wrap (v3 -1)))else some (.inr v3))
def qN(w1:Int)(r1:U Int):Stp (Int×(List Int)) (List Int)
 |(v6,v7)=>(bif decide (v6>(w1:Int))then ck (cN (i64.wrap (v6 -1)) r1.length)<|(bo v7 ((0:Nat)+(i64.wrap (v6 -1)):Int)).bind λx5=>ck (cN v6 r1.length)<|(bo v7 ((0:Nat)+v6:Int)).bind λx6=>some (.inl ((i64.wrap (v6 -1)),(v7.set ((0:Nat)+v6:Int).toNat x5)))else some (.inr v7))
def vR(a0:U Int):Stp (Int×(List Int)) (List Int)
 |(v1,v2)=>(bif decide (v1<(a0.length:Int))then((iter (qM a0 v1 v2) n (v2.length:Int)).bind λw1=>((bif decide (w1>0)then ck (cN (i64.wrap (w1 -1)) v2.length)<|(bo v2 ((0:Nat)+(i64.wrap (w1 -1)):Int)).bind λx3=>(bo a0 v1).bind λx4=>some (x3==(x4:Int))else some false)).bind λv5=>(bif v5 then ck (aE v2.length v2.length)<|some v2 else ck (bP v2.length v2.length (sub ([0]:U Int) 0 1).length 1 8)<|gV (v2++(sub ([0]:U Int) 0 1)) λr1=>(iter (qN w1 r1) n ((i64.wrap ((r1.length:Int) -1)),r1)).bind λw2=>(bo a0 v1).bind λx7=>ck (cN w1 r1.length)<|(bo w2 ((0:Nat)+w1:Int)).bind λx8=>ck (aE r1.length (w2.set ((0:Nat)+w1:Int).toNat x7).length)<|some (w2.set ((0:Nat)+w1:Int).toNat x7)):J ((List Int))).bind λv8=>ck (aE v8.length v8.length)<|some (.inl ((i64.wrap (v1+1)),v8))else ck (aE v2.length v2.length)<|some (.inr v2))
def EP(a0:U Int):J (List Int):=
 ck (aE 0 ([]:U Int).length)<|(iter (vR n a0) n ((0:Int),([]:U Int))).bind λw3=>ck (aE (sub w3 0 w3.length).length w3.length)<|some (sub w3 0 w3.length)
def xX(a0:U ax):Stp (Int×(List Int)) (List Int)
 |(v1,v2)=>(bif decide (v1<(a0.length:Int))then(bo a0 v1).bind λx1=>(bo a0 v1).bind λx2=>ck (bP v2.length v2.length (sub ([x1.x0,x2.x1]:U Int) 0 2).length 2 8)<|gV (v2++(sub ([x1.x0,x2.x1]:U Int) 0 2)) λr1=>ck (aE r1.length r1.length)<|some (.inl ((i64.wrap (v1+1)),r1))else ck (aE v2.length v2.length)<|some (.inr v2))
def EQ(a1:U ax):Stp (Int×(List Int)) (List Int)
 |(v3,v4)=>(bif decide (v3<(a1.length:Int))then(bo a1 v3).bind λx3=>(bo a1 v3).bind λx4=>ck (bP v4.length v4.length (sub ([x3.x0,x4.x1]:U Int) 0 2).length 2 8)<|gV (v4++(sub ([x3.x0,x4.x1]:U Int) 0 2)) λr2=>ck (aE r2.length r2.length)<|some (.inl ((i64.wrap (v3+1)),r2))else ck (aE v4.length v4.length)<|some (.inr v4))
def J7(a0:U ax)(a1:U ax):J (List Int):=
 ck (aE 0 ([]:U Int).length)<|(iter (xX a0) n ((0:Int),([]:U Int))).bind λw1=>ck (aE w1.length w1.length)<|(iter (EQ a1) n ((0:Int),w1)).bind λw2=>ck (aE (sub w2 0 w2.length).length w2.length)<|(EP n (sub w2 0 w2.length)).bind λr3=>ck (aE (sub r3 0 r3.length).length r3.length)<|some (sub r3 0 r3.length)
def qO(a0:U ax)(v1:Int)(r1:U Int)(r2:U Int):Stp (Int×(List Int)×(List Int)) (Int×(List Int)×(List Int))
 |(v5,v6,v7)=>((bif decide (v5>0)then ck (cN (i64.wrap (v5 -1)) r1.length)<|(bo v6 ((0:Nat)+(i64.wrap (v5 -1)):Int)).bind λx3=>(bo a0 v1).bind λx4=>some (decide (x3>(x4.y0:Int)))else some false)).bind λv8=>(bif v8 then ck (cN (i64.wrap (v5 -1)) r1.length)<|(bo v6 ((0:Nat)+(i64.wrap (v5 -1)):Int)).bind λx5=>ck (cN v5 r1.length)<|(bo v6 ((0:Nat)+v5:Int)).bind λx6=>ck (cN (i64.wrap (v5 -1)) r2.length)<|(bo v7 ((0:Nat)+(i64.wrap (v5 -1)):Int)).bind λx7=>ck (cN v5 r2.length)<|(bo v7 ((0:Nat)+v5:Int)).bind λx8=>some (.inl ((i64.wrap (v5 -1)),(v6.set ((0:Nat)+v5:Int).toNat x5),(v7.set ((0:Nat)+v5:Int).toNat x7)))else some (.inr (v5,v6,v7)))
def qP(a0:U ax)(a1:Int):Stp (Int×(List Int)×(List Int)) ((List Int)×(List Int))
 |(v1,v2,v3)=>(bif decide (v1<(a0.length:Int))then(((bo a0 v1).bind λx1=>(bif decide (x1.x0>(a1:Int))then some true else(bo a0 v1).bind λx2=>some (decide (x2.x1<=(a1:Int))))).bind λv4=>(bif v4 then ck (aE v2.length v2.length)<|ck (aE v3.length v3.length)<|some (v2,v3)else ck (bP v2.length v2.length (sub ([0]:U Int) 0 1).length 1 8)<|gV (v2++(sub ([0]:U Int) 0 1)) λr1=>ck (bP v3.length v3.length (sub ([0]:U Int) 0 1).length 1 8)<|gV (v3++(sub ([0]:U Int) 0 1)) λr2=>(iter (qO a0 v1 r1 r2) n ((v2.length:Int),r1,r2)).bind λ(w1,w2,w3)=>(bo a0 v1).bind λx9=>ck (cN w1 r1.length)<|(bo w2 ((0:Nat)+w1:Int)).bind λx10=>(bo a0 v1).bind λx11=>ck (cN w1 r2.length)<|(bo w3 ((0:Nat)+w1:Int)).bind λx12=>ck (aE r1.length (w2.set ((0:Nat)+w1:Int).toNat x9.y0).length)<|ck (aE r2.length (w3.set ((0:Nat)+w1:Int).toNat x11.y1).length)<|some ((w2.set ((0:Nat)+w1:Int).toNat x9.y0),(w3.set ((0:Nat)+w1:Int).toNat x11.y1))):J ((List Int)×(List Int))).bind λ(v9,v10)=>ck (aE v9.length v9.length)<|ck (aE v10.length v10.length)<|some (.inl ((i64.wrap (v1+1)),v9,v10))else ck (aE v2.length v2.length)<|ck (aE v3.length v3.length)<|some (.inr (v2,v3)))
def qQ(w4:U Int)(w5:U Int):Stp (Int×(List Int)) (List Int)
 |(v11,v12)=>(bif decide (v11<(w4.length:Int))then(((bif decide ((v12.length:Int)>0)then ck (cN v11 w4.length)<|(bo w4 ((0:Nat)+v11:Int)).bind λx13=>ck (cN (i64.wrap ((v12.length:Int) -1)) v12.length)<|(bo v12 ((0:Nat)+(i64.wrap ((v12.length:Int) -1)):Int)).bind λx14=>some (decide (x13<=(x14:Int)))else some false)).bind λv13=>(bif v13 then ck (cN (i64.wrap ((v12.length:Int) -1)) v12.length)<|(bo v12 ((0:Nat)+(i64.wrap ((v12.length:Int) -1)):Int)).bind λx15=>ck (cN v11 w5.length)<|(bo w5 ((0:Nat)+v11:Int)).bind λx16=>ck (cN (i64.wrap ((v12.length:Int) -1)) v12.length)<|(bo v12 ((0:Nat)+(i64.wrap ((v12.length:Int) -1)):Int)).bind λx17=>ck (aE v12.length (v12.set ((0:Nat)+(i64.wrap ((v12.length:Int) -1)):Int).toNat (max x15 x16)).length)<|some (v12.set ((0:Nat)+(i64.wrap ((v12.length:Int) -1)):Int).toNat (max x15 x16))else ck (cN v11 w4.length)<|(bo w4 ((0:Nat)+v11:Int)).bind λx18=>ck (cN v11 w5.length)<|(bo w5 ((0:Nat)+v11:Int)).bind λx19=>ck (bP v12.length v12.length (sub ([x18,x19]:U Int) 0 2).length 2 8)<|gV (v12++(sub ([x18,x19]:U Int) 0 2)) λr3=>ck (aE r3.length r3.length)<|some r3):J ((List Int))).bind λv14=>ck (aE v14.length v14.length)<|some (.inl ((i64.wrap (v11+1)),v14))else ck (aE v12.length v12.length)<|some (.inr v12))
def yZ(a0:U ax)(a1:Int):J (List Int):=
 ck (aE 0 ([]:U Int).length)<|ck (aE 0 ([]:U Int).length)<|(iter (qP n a0 a1) n ((0:Int),([]:U Int),([]:U Int))).bind λ(w4,w5)=>ck (aE 0 ([]:U Int).length)<|(iter (qQ w4 w5) n ((0:Int),([]:U Int))).bind λw6=>ck (aE (sub w6 0 w6.length).length w6.length)<|some (sub w6 0 w6.length)
def uq(a0:U Int)(a1:U Int)(a2:Int):Stp (Int×Int×Bool×(List Int)) (List Int)
 |(v1,v2,v3,v4)=>((bif decide (v1<(a0.length:Int))then some true else some (decide (v2<(a1.length:Int))))).bind λv5=>(bif v5 then(((bif decide (v1<(a0.length:Int))then(bif decide (v2>=(a1.length:Int))then some true else(bo a0 v1).bind λx1=>(bo a1 (min v2 (i64.wrap ((a1.length:Int) -1)))).bind λx2=>some (decide (x1<=(x2:Int))))else some false)).bind λv6=>(bif v6 then(bo a0 v1).bind λx3=>some x3 else(bo a1 v2).bind λx4=>some x4):J Int).bind λv7=>(((bif decide (v1<(a0.length:Int))then(bo a0 v1).bind λx5=>some (x5==(v7:Int))else some false)).bind λv8=>(bif v8 then some (i64.wrap (v1+1))else some v1):J Int).bind λv9=>(((bif decide (v2<(a1.length:Int))then(bo a1 v2).bind λx6=>some (x6==(v7:Int))else some false)).bind λv10=>(bif v10 then some (i64.wrap (v2+1))else some v2):J Int).bind λv11=>ck (2 !=0)<|ck (2 !=0)<|((bif ((Int.tmod v9 2)==1)then some true else some ((Int.tmod v11 2)==1))).bind λv12=>((bif (a2==1)then(bif ((Int.tmod v9 2)==1)then some ((Int.tmod v11 2)==1)else some false)else some v12)).bind λv13=>((bif (a2==2)then(bif ((Int.tmod v9 2)==1)then some (!((Int.tmod v11 2)==1))else some false)else some v13)).bind λv14=>((bif (!(v14==v3))then ck (bP v4.length v4.length (sub ([v7]:U Int) 0 1).length 1 8)<|gV (v4++(sub ([v7]:U Int) 0 1)) λr1=>ck (aE r1.length r1.length)<|some r1 else ck (aE v4.length v4.length)<|some v4):J ((List Int))).bind λv15=>ck (aE v15.length v15.length)<|some (.inl (v9,v11,v14,v15))else ck (aE v4.length v4.length)<|some (.inr v4))
def Ay(a0:U Int)(a1:U Int)(a2:Int):J (List Int):=
 ck (aE 0 ([]:U Int).length)<|(iter (uq a0 a1 a2) n ((0:Int),(0:Int),false,([]:U Int))).bind λw1=>ck (aE (sub w1 0 w1.length).length w1.length)<|some (sub w1 0 w1.length)
def Az(a0:U Int)(a1:U Int):Stp Int (Unit⊕Bool)
 |v1=>(bif decide (v1<(a0.length:Int))then(bo a0 v1).bind λx1=>(bo a1 v1).bind λx2=>(bif (x1 !=(x2:Int))then(some false).map λa=> .inr (.inr a)else some (.inl (i64.wrap (v1+1))))else some (.inr (.inl ())))
def NZ(a0:U Int)(a1:U Int):J Bool:=
 (bif ((a0.length:Int) !=(a1.length:Int))then some false else dF (iter (Az a0 a1) n (0:Int)) λ()=>some true)
def wN(r1:U Int)(v2:Int)(v3:U ax):Stp (Int×(List ax)) (List ax)
 |(v6,v7)=>(bif decide (v6<(v3.length:Int))then ck (cN (i64.wrap (v2+1)) r1.length)<|(bo r1 ((0:Nat)+(i64.wrap (v2+1)):Int)).bind λx3=>ck (cN v6 v3.length)<|(bo v7 ((0:Nat)+v6:Int)).bind λx4=>some (.inl ((i64.wrap (v6+1)),(v7.set ((0:Nat)+v6:Int).toNat (ax.mk x4.x0 x4.y0 x3 x4.y1))))else some (.inr v7))
def wO(r1:U Int)(v2:Int)(r4:U Int):Stp (Int×(List ax)) (List ax)
 |(v8,v9)=>(bif decide ((i64.wrap (v8+1))<(r4.length:Int))then ck (cN v2 r1.length)<|(bo r1 ((0:Nat)+v2:Int)).bind λx5=>ck (cN v8 r4.length)<|(bo r4 ((0:Nat)+v8:Int)).bind λx6=>ck (cN (i64.wrap (v2+1)) r1.length)<|(bo r1 ((0:Nat)+(i64.wrap (v2+1)):Int)).bind λx7=>ck (cN (i64.wrap (v8+1)) r4.length)<|(bo r4 ((0:Nat)+(i64.wrap (v8+1)):Int)).bind λx8=>ck (bP v9.length v9.length (sub ([(ax.mk x5 x6 x7 x8)]:U ax) 0 1).length 1 32)<|gV (v9++(sub ([(ax.mk x5 x6 x7 x8)]:U ax) 0 1)) λr6=>ck (aE r6.length r6.length)<|some (.inl ((i64.wrap (v8+2)),r6))else ck (aE v9.length v9.length)<|some (.inr v9))
def AA(a0:U ax)(a1:U ax)(a2:Int)(r1:U Int):Stp (Int×Int×(List ax)×(List Int)) (List ax)
 |(v1,v2,v3,v4)=>(bif decide ((i64.wrap (v2+1))<(r1.length:Int))then(ck (cN v2 r1.length)<|(bo r1 ((0:Nat)+v2:Int)).bind λx1=>(yZ n a0 x1).bind λr2=>ck (cN v2 r1.length)<|(bo r1 ((0:Nat)+v2:Int)).bind λx2=>(yZ n a1 x2).bind λr3=>ck (aE (sub r2 0 r2.length).length r2.length)<|ck (aE (sub r3 0 r3.length).length r3.length)<|(Ay n (sub r2 0 r2.length) (sub r3 0 r3.length) a2).bind λr4=>((bif decide (v2>0)then(bif decide ((r4.length:Int)>0)then ck (aE (sub r4 0 r4.length).length r4.length)<|ck (aE (sub v4 0 v4.length).length v4.length)<|(NZ n (sub r4 0 r4.length) (sub v4 0 v4.length)).bind λr5=>some r5 else some false)else some false)).bind λv5=>(bif v5 then(iter (wN r1 v2 v3) n (v1,v3)).bind λw1=>ck (aE v3.length w1.length)<|ck (aE v4.length v4.length)<|some (v1,w1,v4)else ck (aE v3.length v3.length)<|(iter (wO r1 v2 r4) n ((0:Int),v3)).bind λw2=>ck (aE w2.length w2.length)<|ck (aE r4.length r4.length)<|some ((v3.length:Int),w2,r4)):J (Int×(List ax)×(List Int))).bind λ(v10,v11,v12)=>ck (aE v11.length v11.length)<|ck (aE v12.length v12.length)<|some (.inl (v10,(i64.wrap (v2+1)),v11,v12))else ck (aE v3.length v3.length)<|some (.inr v3))
def N7(a0:U ax)(a1:U ax)(a2:Int):J (List ax):=
 (J7 n a0 a1).bind λr1=>ck (aE 0 ([]:U ax).length)<|ck (aE 0 ([]:U Int).length)<|(iter (AA n a0 a1 a2 r1) n ((0:Int),(0:Int),([]:U ax),([]:U Int))).bind λw3=>ck (aE (sub w3 0 w3.length).length w3.length)<|some (sub w3 0 w3.length)
def J8(a0:U ax):Stp Int (Unit⊕((List ax)×Int))
 |v1=>(bif decide (v1<(a0.length:Int))then(bo a0 v1).bind λx1=>(vQ x1).bind λr1=>(bif (!r1)then(some (([]:(List ax)),(1:Int))).map λa=> .inr (.inr a)else some (.inl (i64.wrap (v1+1))))else some (.inr (.inl ())))
def PF(a0:U ax):J ((List ax)×Int):=
 dF (iter (J8 a0) n (0:Int)) λ()=>(bif decide ((a0.length:Int)>400)then some (([]:(List ax)),(6:Int))else(N7 n a0 ([]) 0).bind λr2=>(bif decide ((r2.length:Int)>200)then some (([]:(List ax)),(6:Int))else ck (aE (sub r2 0 r2.length).length r2.length)<|some ((sub r2 0 r2.length),(0:Int))))
def AB(a0:U ax)(a1:U ax):Stp Int (Unit⊕Bool)
 |v1=>(bif decide (v1<(a0.length:Int))then(bo a0 v1).bind λx1=>(bo a1 v1).bind λx2=>(bif (!((x1.x0==(x2.x0:Int))&&((x1.y0==(x2.y0:Int))&&((x1.x1==(x2.x1:Int))&&((x1.y1==(x2.y1:Int))&&true)))))then(some false).map λa=> .inr (.inr a)else some (.inl (i64.wrap (v1+1))))else some (.inr (.inl ())))
def N8(a0:U ax)(a1:U ax):J Bool:=
 (bif ((a0.length:Int) !=(a1.length:Int))then some false else dF (iter (AB a0 a1) n (0:Int)) λ()=>some true)
def J9(a0:U ax):J Bool:=
 (PF n a0).bind λr1=>(bif (r1.2==0)then ck (aE (sub r1.1 0 r1.1.length).length r1.1.length)<|(N8 n (sub r1.1 0 r1.1.length) a0).bind λr2=>some r2 else some false)
def vS(a0:U ax)(x1:ax):Stp (Int×Int×Int×Int×Int) (Int×Int×Int×Int)
 |(v2,v3,v4,v5,v6)=>(bif decide (v2<(a0.length:Int))then(bo a0 v2).bind λx2=>(bo a0 v2).bind λx3=>(bo a0 v2).bind λx4=>(bo a0 v2).bind λx5=>some (.inl ((i64.wrap (v2+1)),(min v3 x2.x0),(min v4 x3.y0),(max v5 x4.x1),(max v6 x5.y1)))else some (.inr (v3,v4,v5,v6)))
def ER(a0:U ax):J (ax×Bool):=
 ((bif ((a0.length:Int)==0)then some true else(J9 n a0).bind λr1=>some (!r1))).bind λv1=>(bif v1 then some ((ax.mk 0 0 0 0),false)else(bo a0 0).bind λx1=>(iter (vS a0 x1) n ((1:Int),x1.x0,x1.y0,x1.x1,x1.y1)).bind λ(w1,w2,w3,w4)=>some ((ax.mk w1 w2 w3 w4),true))
def ES(a0:cK):J Bool:=
 (bif decide ((a0.area.length:Int)>4)then some false else(ER n a0.area).bind λr1=>(bif (!r1.2)then some true else(bif decide ((i64.wrap (r1.1.x1 -r1.1.x0))<=4)then some true else some (decide ((i64.wrap (r1.1.y1 -r1.1.y0))<=4)))))
def EU(a0:bR):Stp Int (Unit⊕Bool)
 |v2=>(bif decide (v2<(a0.land.length:Int))then(bo a0.land v2).bind λx1=>(ES n x1).bind λr2=>(bif (!r2)then(some false).map λa=> .inr (.inr a)else some (.inl (i64.wrap (v2+1))))else some (.inr (.inl ())))
def EW(a0:bR):Stp Int (Unit⊕Bool)
 |v3=>(bif decide (v3<(a0.co.length:Int))then(bo a0.co v3).bind λx2=>(bif decide ((x2.area.length:Int)>4)then(some false).map λa=> .inr (.inr a)else some (.inl (i64.wrap (v3+1))))else some (.inr (.inl ())))
def UG(a0:bR):J Bool:=
 ((wM n (bS.mk a0.cm a0.br a0.bu a0.az a0.cx a0.b9 a0.cE a0.ca)).bind λr1=>(bif (!r1)then some true else(bif decide ((a0.land.length:Int)>2)then some true else(bif decide ((a0.co.length:Int)>3)then some true else some (decide ((a0.built.length:Int)>6)))))).bind λv1=>(bif v1 then some false else dF (iter (EU n a0) n (0:Int)) λ()=>dF (iter (EW a0) n (0:Int)) λ()=>some true)
def lV(a0:bR)(a1:Int)(r6:U aQ):Stp Int (Unit⊕Bool)
 |v2=>(bif decide (v2<(r6.length:Int))then ck (cN v2 r6.length)<|(bo r6 ((0:Nat)+v2:Int)).bind λx1=>(bif (x1.kind==0)then(some false).map λa=> .inr (.inr a)else(rR n a0 x1.lot a1).bind λr7=>((bif (x1.kind==1)then some r7.2 else some false)).bind λv3=>(bif v3 then(some false).map λa=> .inr (.inr a)else some (.inl (i64.wrap (v2+1)))))else some (.inr (.inl ())))
def lW(r6:U aQ)(x2:aQ):Stp (Bool×Int) Bool
 |(v5,v6)=>(bif decide (v6<(r6.length:Int))then((bif v5 then some true else ck (cN v6 r6.length)<|(bo r6 ((0:Nat)+v6:Int)).bind λx3=>(bif (x3.kind==1)then ck (cN v6 r6.length)<|(bo r6 ((0:Nat)+v6:Int)).bind λx4=>(bif (x4.lot==(x2.lot:Int))then ck (cN v6 r6.length)<|(bo r6 ((0:Nat)+v6:Int)).bind λx5=>some ((x5.fx==(x2.fx:Int))&&((x5.ft==(x2.ft:Int))&&((x5.ec==(x2.ec:Int))&&((x5.er==(x2.er:Int))&&true))))else some false)else some false))).bind λv7=>some (.inl (v7,(i64.wrap (v6+1))))else some (.inr v5))
def lX(r5:U aQ)(r6:U aQ):Stp Int (Unit⊕Bool)
 |v4=>(bif decide (v4<(r5.length:Int))then ck (cN v4 r5.length)<|(bo r5 ((0:Nat)+v4:Int)).bind λx2=>(iter (lW r6 x2) n ((x2.kind !=1),(0:Int))).bind λw1=>(bif (!w1)then(some false).map λa=> .inr (.inr a)else some (.inl (i64.wrap (v4+1))))else some (.inr (.inl ())))
def uw(a0:bR)(a1:Int):J Bool:=
 (Da n).bind λr1=>((UG n a0).bind λr2=>(bif (!r2)then some true else(bif decide ((a0.az.length:Int)>4)then some true else some (decide (a1<0))))).bind λv1=>(bif v1 then some r1 else ck (bP ([]:U bI).length 0 a0.az.length a0.az.length 232)<|gV (([]:U bI)++a0.az) λr3=>ck (bP r3.length r3.length (sub ([(bI.mk (⟨#[97,110,121]⟩) ([]) ([]) 0 0 0 false 0 0 1 (⟨#[]⟩) (⟨#[]⟩) ([]) 0 0 0 0 0 0 0)]:U bI) 0 1).length 1 232)<|gV (r3++(sub ([(bI.mk (⟨#[97,110,121]⟩) ([]) ([]) 0 0 0 false 0 0 1 (⟨#[]⟩) (⟨#[]⟩) ([]) 0 0 0 0 0 0 0)]:U bI) 0 1)) λr4=>(fO n a0 a1).bind λr5=>ck (aE (sub r4 0 r4.length).length r4.length)<|(fO n (bR.mk a0.cm a0.br a0.bu (sub r4 0 r4.length) a0.cx a0.b9 a0.cE a0.ca a0.land a0.co a0.windows a0.built a0.base) a1).bind λr6=>dF (iter (lV n a0 a1 r6) n (0:Int)) λ()=>dF (iter (lX n r5 r6) n (0:Int)) λ()=>some r1)
end
end Go.Proofs
