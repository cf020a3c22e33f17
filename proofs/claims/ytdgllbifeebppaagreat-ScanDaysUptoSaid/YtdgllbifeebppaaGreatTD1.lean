import Derived.Test.YtdgllbifeebppaaGreatTBase
open Go.IntKind (i64)
namespace Go.Proofs
open Go.Gb Go.RowKit
noncomputable section
variable (n:Nat)
def uX(a0:Int):J cu:=
 ck (aE (sub ([(cu.mk 1 0 (⟨#[104,101,105,103,104,116]⟩) (⟨#[]⟩) ([])),(cu.mk 0 a0 (⟨#[]⟩) (⟨#[]⟩) ([]))]:U cu) 0 2).length 2)<|some (cu.mk 12 0 (⟨#[]⟩) (⟨#[]⟩) (sub ([(cu.mk 1 0 (⟨#[104,101,105,103,104,116]⟩) (⟨#[]⟩) ([])),(cu.mk 0 a0 (⟨#[]⟩) (⟨#[]⟩) ([]))]:U cu) 0 2))
def yP(a0:bP):J bU:=
 ck (aE (sub ([(bT.mk 0 0),(bT.mk 9 0),(bT.mk 9 9),(bT.mk 0 9)]:U bT) 0 4).length 4)<|ck (aE (sub ([(ax.mk 0 0 4 4)]:U ax) 0 1).length 1)<|ck (aE (sub ([(dL.mk (⟨#[99,111,114,101]⟩) false (sub ([(bT.mk 0 0),(bT.mk 9 0),(bT.mk 9 9),(bT.mk 0 9)]:U bT) 0 4))]:U dL) 0 1).length 1)<|ck (aE (sub ([a0]:U bP) 0 1).length 1)<|ck (aE (sub ([(dn.mk 1 0 (sub ([(ax.mk 0 0 4 4)]:U ax) 0 1) ([]))]:U dn) 0 1).length 1)<|some (bU.mk ([]) ([]) (sub ([(dL.mk (⟨#[99,111,114,101]⟩) false (sub ([(bT.mk 0 0),(bT.mk 9 0),(bT.mk 9 9),(bT.mk 0 9)]:U bT) 0 4))]:U dL) 0 1) (sub ([a0]:U bP) 0 1) ([]) ([]) ([]) 0 (sub ([(dn.mk 1 0 (sub ([(ax.mk 0 0 4 4)]:U ax) 0 1) ([]))]:U dn) 0 1) ([]) ([]) ([]) ([]))
def wW:J (List ByteArray):=
 ck (aE (sub ([⟨#[97,114,101,97]⟩,⟨#[99,111,118,101,114]⟩,⟨#[102,108,111,111,114]⟩,⟨#[102,108,111,111,114,115]⟩,⟨#[104,101,105,103,104,116]⟩,⟨#[104,111,109,101,115]⟩,⟨#[114,117,110,111,102,102]⟩,⟨#[115,101,116,98,97,99,107]⟩,⟨#[116,114,97,102,102,105,99]⟩]:U ByteArray) 0 9).length 9)<|some (sub ([⟨#[97,114,101,97]⟩,⟨#[99,111,118,101,114]⟩,⟨#[102,108,111,111,114]⟩,⟨#[102,108,111,111,114,115]⟩,⟨#[104,101,105,103,104,116]⟩,⟨#[104,111,109,101,115]⟩,⟨#[114,117,110,111,102,102]⟩,⟨#[115,101,116,98,97,99,107]⟩,⟨#[116,114,97,102,102,105,99]⟩]:U ByteArray) 0 9)
mutual
def toE:cu->ET
 |⟨op,_,s,_,args⟩=> .mk op s (Im args)
def Im:List cu->List ET
 |[]=>[]
 |x::xs=>toE x::Im xs
end
def toD(d:eu):ByteArray×ET:=(d.name,.mk d.i9 d.k5 (Im d.eK))
def kN(a0:U eu):J ((List eu)×(List (List Int))):=ck (Nat.ble (rk (a0.map toD)) 4000000)<|some (a0,oJ (a0.map toD))
def qG(a0:U Int)(a1:Int):J (List Int):=match a0 with
 |[x]=>ck (decide (0<=a1)&&decide (a1<=1000000000000))<|some (List.replicate a1.toNat x)
 |_=>none
def SF(a0:U Int)(a1:Int):Stp Int (Unit⊕Int)
 |v1=>(bif decide (v1<(a0.length:Int))then(bo a0 v1).bind λx1=>(bif (a1==(x1:Int))then(some v1).map λa=> .inr (.inr a)else some (.inl (i64.wrap (v1+1))))else some (.inr (.inl ())))
def Ey(a0:U Int)(a1:Int):J Int:=
 dF (iter (SF a0 a1) n (0:Int)) λ()=>some ((-1):Int)
def qZ(a0:U Int)(a1:Int):J Bool:=
 (Ey n a0 a1).bind λr1=>some (decide (r1>=0))
def fQ(a0:o8)(r1:U Int)(x2:Int):Stp (Int×Int×(List Int)×(List Int)) (Int×(List Int)×(List Int))
 |(v4,v5,v6,v7)=>(bif decide (v5<(a0.uses.length:Int))then((bo a0.uses v5).bind λx3=>(ck (cN v5 r1.length)<|(bo v6 ((0:Nat)+v5:Int)).bind λx4=>(bif decide (x4<0)then(qZ n x3 x2).bind λr2=>some r2 else some false)).bind λv8=>(bif v8 then ck (cN x2 r1.length)<|(bo v6 ((0:Nat)+x2:Int)).bind λx5=>ck (cN v5 r1.length)<|(bo v6 ((0:Nat)+v5:Int)).bind λx6=>ck (bR (Vu ((v4:Int).toNat) v7).length (v7.length -(v4:Int).toNat) (sub ([v5]:U Int) 0 1).length 1 8)<|iA ((Vu ((v4:Int).toNat) v7)++(sub ([v5]:U Int) 0 1)) λr3=>ck (aE (0+r3.length) r3.length)<|some ((0:Int),(v6.set ((0:Nat)+v5:Int).toNat (i64.wrap (x5+1))),r3)else ck (aE (((v4:Int).toNat)+(v7.length -(v4:Int).toNat)) v7.length)<|some ((((v4:Int).toNat:Nat):Int),v6,v7)):J (Int×(List Int)×(List Int))).bind λ(v9,v10,v11)=>ck (aE (((v9:Int).toNat)+(v11.length -(v9:Int).toNat)) v11.length)<|some (.inl ((((v9:Int).toNat:Nat):Int),(i64.wrap (v5+1)),v10,v11))else ck (aE (((v4:Int).toNat)+(v7.length -(v4:Int).toNat)) v7.length)<|some (.inr ((((v4:Int).toNat:Nat):Int),v6,v7)))
def dY(a0:o8)(r1:U Int):Stp (Int×(List Int)×(List Int)) (List Int)
 |(v1,v2,v3)=>(bif (decide ((((v3.length -(v1:Int).toNat):Nat):Int)>0))then ck (cN 0 (v3.length -(v1:Int).toNat))<|(bo v3 (((v1:Int).toNat:Nat)+0:Int)).bind λx2=>ck (yE 1 (((v3.length -(v1:Int).toNat):Nat):Int) (v3.length -(v1:Int).toNat))<|ck (aE (((v1:Int).toNat+1)+((v3.length -(v1:Int).toNat) -1)) v3.length)<|(iter (fQ n a0 r1 x2) n (((((v1:Int).toNat+1):Nat):Int),(0:Int),v2,v3)).bind λ(w1,w2,w3)=>ck (aE (((w1:Int).toNat)+(w3.length -(w1:Int).toNat)) w3.length)<|some (.inl ((((w1:Int).toNat:Nat):Int),w2,w3))else some (.inr v2))
def jA(a0:o8)(a1:Int):J (List Int):=
 ck (aE (sub ([(-1)]:U Int) 0 1).length 1)<|(qG (sub ([(-1)]:U Int) 0 1) (a0.defs.length:Int)).bind λr1=>ck (cN a1 r1.length)<|(bo r1 ((0:Nat)+a1:Int)).bind λx1=>ck (aE (0+1) ([a1]:U Int).length)<|(iter (dY n a0 r1) n ((0:Int),(r1.set ((0:Nat)+a1:Int).toNat 0),([a1]:U Int))).bind λw4=>ck (aE (sub w4 0 r1.length).length r1.length)<|some (sub w4 0 r1.length)
def cmp_isNaN_string(a0:ByteArray):J Bool:=
 some (!(ByteArray.toList a0==ByteArray.toList a0))
def nG(a0:ByteArray)(a1:ByteArray):J Int:=
 (cmp_isNaN_string a0).bind λr1=>(cmp_isNaN_string a1).bind λr2=>(bif r1 then(bif r2 then some (0:Int)else some ((-1):Int))else(bif r2 then some (1:Int)else(bif (Vq a0 a1)then some ((-1):Int)else(bif (!(Vq a0 a1 || ByteArray.toList a0==ByteArray.toList a1))then some (1:Int)else some (0:Int)))))
def lC(a0:U ByteArray)(a1:U ByteArray):Stp Int (Unit⊕Int)
 |v1=>(bif decide (v1<(a0.length:Int))then(bo a0 v1).bind λx1=>(bif decide (v1>=(a1.length:Int))then(some (1:Int)).map λa=> .inr (.inr a)else(bo a1 v1).bind λx2=>(nG x1 x2).bind λr1=>(bif (r1 !=0)then(some r1).map λa=> .inr (.inr a)else some (.inl (i64.wrap (v1+1)))))else some (.inr (.inl ())))
def lD(a0:U ByteArray)(a1:U ByteArray):J Int:=
 dF (iter (lC a0 a1) n (0:Int)) λ()=>(bif decide ((a0.length:Int)<(a1.length:Int))then some ((-1):Int)else some (0:Int))
def mq(a0:Int)(a1:U Bool):J (Bool×(List Bool)):=
 ck (cN a0 a1.length)<|(bo a1 ((0:Nat)+a0:Int)).bind λx1=>ck (aE a1.length a1.length)<|some ((!x1),a1)
def jB(a0:U Int):Stp (Int×(List Bool)) ((List Bool)⊕(Int×(List Bool)))
 |(v1,v2)=>(bif decide (v1<(a0.length:Int))then(bo a0 v1).bind λx1=>ck (aE v2.length v2.length)<|(mq x1 v2).bind λr1=>(bif r1.1 then(ck (aE r1.2.length r1.2.length)<|some (v1,r1.2)).map λa=> .inr (.inr a)else ck (aE r1.2.length r1.2.length)<|some (.inl ((i64.wrap (v1+1)),r1.2)))else ck (aE v2.length v2.length)<|some (.inr (.inl v2)))
def mM(a0:U Int)(a1:U Bool):J (Int×(List Bool)):=
 ck (aE a1.length a1.length)<|dF (iter (jB a0) n ((0:Int),a1)) λw1=>ck (aE w1.length w1.length)<|some (((-1):Int),w1)
def gZ(a0:U Int)(a1:U Bool):J (Bool×(List Bool)):=
 ck (aE a1.length a1.length)<|(mM n a0 a1).bind λr1=>ck (aE r1.2.length r1.2.length)<|some ((decide (r1.1>=0)),r1.2)
def iG(a0:o8):Stp (Int×Int×(List Bool)) (Int×(List Bool))
 |(v4,v5,v6)=>(bif decide (v5<(a0.uses.length:Int))then((bo a0.uses v5).bind λx1=>ck (aE v6.length v6.length)<|(gZ n x1 v6).bind λr1=>(ck (cN v5 r1.2.length)<|(bo r1.2 ((0:Nat)+v5:Int)).bind λx2=>(bif (!x2)then(bif (!r1.1)then(bif decide (v4<0)then some true else(bo a0.defs v5).bind λx3=>(bo a0.defs v4).bind λx4=>some (Vq x3.name x4.name))else some false)else some false)).bind λv7=>(bif v7 then ck (aE r1.2.length r1.2.length)<|some (v5,r1.2)else ck (aE r1.2.length r1.2.length)<|some (v4,r1.2)):J (Int×(List Bool))).bind λ(v8,v9)=>ck (aE v9.length v9.length)<|some (.inl (v8,(i64.wrap (v5+1)),v9))else ck (aE v6.length v6.length)<|some (.inr (v4,v6)))
def kD(a0:o8):Stp (Int×(List Int)×(List Bool)) (List Int)
 |(v1,v2,v3)=>(bif decide (v1<(a0.defs.length:Int))then ck (aE v3.length v3.length)<|(iter (iG n a0) n (((-1):Int),(0:Int),v3)).bind λ(w1,w2)=>ck (cN w1 w2.length)<|(bo w2 ((0:Nat)+w1:Int)).bind λx5=>ck (bR v2.length v2.length (sub ([w1]:U Int) 0 1).length 1 8)<|iA (v2++(sub ([w1]:U Int) 0 1)) λr2=>ck (aE r2.length r2.length)<|ck (aE w2.length (w2.set ((0:Nat)+w1:Int).toNat true).length)<|some (.inl ((i64.wrap (v1+1)),r2,(w2.set ((0:Nat)+w1:Int).toNat true)))else ck (aE v2.length v2.length)<|some (.inr v2))
def nH(a0:o8):J (List Int):=
 ck (decide ((a0.defs.length:Int)<=(a0.defs.length:Int))&&(decide (0<=(a0.defs.length:Int))&&xA (a0.defs.length:Int) 1))<|ck (aE 0 ([]:U Int).length)<|ck (aE ((a0.defs.length:Int).toNat) (List.replicate (a0.defs.length:Int).toNat false).length)<|(iter (kD n a0) n ((0:Int),([]:U Int),(List.replicate (a0.defs.length:Int).toNat false))).bind λw3=>ck (aE (sub w3 0 w3.length).length w3.length)<|some (sub w3 0 w3.length)
def iD(r1:U Int)(x2:U Int):Stp (Int×Int) Int
 |(v3,v4)=>(bif decide (v4<(x2.length:Int))then((bo x2 v4).bind λx3=>(ck (cN x3 r1.length)<|(bo r1 ((0:Nat)+x3:Int)).bind λx4=>(bif decide (x4>=0)then(bif decide (v3<0)then some true else ck (cN x3 r1.length)<|(bo r1 ((0:Nat)+x3:Int)).bind λx5=>ck (cN v3 r1.length)<|(bo r1 ((0:Nat)+v3:Int)).bind λx6=>some (decide (x5<(x6:Int))))else some false)).bind λv5=>(bif v5 then some x3 else some v3):J Int).bind λv6=>some (.inl (v6,(i64.wrap (v4+1))))else some (.inr v3))
def kK(a0:Int)(a1:U eu)(a2:U (List Int))(r1:U Int):Stp (Int×(List ByteArray)) (Unit⊕((List eu)×(List (List Int))×(List ByteArray)))
 |(v1,v2)=>(bo a1 v1).bind λx1=>ck (bR v2.length v2.length (sub ([x1.name]:U ByteArray) 0 1).length 1 16)<|iA (v2++(sub ([x1.name]:U ByteArray) 0 1)) λr2=>(bo a2 v1).bind λx2=>(iter (iD r1 x2) n (((-1):Int),(0:Int))).bind λw1=>(bif decide (w1<0)then(ck (aE 0 ([]:U ByteArray).length)<|some (a1,a2,([]:U ByteArray))).map λa=> .inr (.inr a)else(bif (w1==(a0:Int))then(ck (!(r2.length==0)&&aE r2.length r2.length)<|some (a1,a2,r2)).map λa=> .inr (.inr a)else ck (aE r2.length r2.length)<|some (.inl (w1,r2))))
def jC(a0:Int)(a1:U eu)(a2:U (List Int)):J ((List eu)×(List (List Int))×(List ByteArray)):=
 (jA n (o8.mk a1 a2) a0).bind λr1=>ck (aE 0 ([]:U ByteArray).length)<|dF (iter (kK n a0 a1 a2 r1) n (a0,([]:U ByteArray))) λ()=>none
def gP(a0:U eu):Stp (Int×(List eu)×(List (List Int))×(List ByteArray)) ((List eu)×(List (List Int))×(List ByteArray))
 |(v1,v2,v3,v4)=>(bif decide (v1<(a0.length:Int))then((jC n v1 v2 v3).bind λr1=>((bif r1.2.2.length==0 then some true else some false)).bind λv5=>(bif v5 then ck (aE v4.length v4.length)<|some (r1.1,r1.2.1,v4)else((bif v4.length==0 then some true else(bif decide ((r1.2.2.length:Int)<(v4.length:Int))then some true else(bif ((r1.2.2.length:Int)==(v4.length:Int))then ck (aE (sub r1.2.2 0 r1.2.2.length).length r1.2.2.length)<|ck (aE (sub v4 0 v4.length).length v4.length)<|(lD n (sub r1.2.2 0 r1.2.2.length) (sub v4 0 v4.length)).bind λr2=>some (decide (r2<0))else some false)))).bind λv6=>(bif v6 then ck (aE r1.2.2.length r1.2.2.length)<|some (r1.1,r1.2.1,r1.2.2)else ck (aE v4.length v4.length)<|some (r1.1,r1.2.1,v4))):J ((List eu)×(List (List Int))×(List ByteArray))).bind λ(v7,v8,v9)=>ck (aE v9.length v9.length)<|some (.inl ((i64.wrap (v1+1)),v7,v8,v9))else ck (aE v4.length v4.length)<|some (.inr (v2,v3,v4)))
def iT(a0:U eu)(a1:U (List Int)):J ((List eu)×(List (List Int))×(List ByteArray)):=
 ck (aE 0 ([]:U ByteArray).length)<|(iter (gP n a0) n ((0:Int),a0,a1,([]:U ByteArray))).bind λ(w1,w2,w3)=>ck (aE w3.length w3.length)<|some (w1,w2,w3)
def nW(r1:U ByteArray):Stp (Int×(List (ByteArray×Bool))) (List (ByteArray×Bool))
 |(v1,v2)=>(bif decide (v1<(r1.length:Int))then ck (cN v1 r1.length)<|(bo r1 ((0:Nat)+v1:Int)).bind λx1=>some (.inl ((i64.wrap (v1+1)),(oZ lw x1 true v2)))else some (.inr v2))
def kP(a0:bQ):Stp (Int×(List (ByteArray×Bool))) (Unit⊕((List Int)×(List ByteArray)×Int))
 |(v3,v4)=>(bif decide (v3<(a0.defs.length:Int))then(bo a0.defs v3).bind λx2=>(bif ((eX lw x2.name v4).getD false)then(some (([]:(List Int)),([]:(List ByteArray)),(5:Int))).map λa=> .inr (.inr a)else some (.inl ((i64.wrap (v3+1)),(oZ lw x2.name true v4))))else some (.inr (.inl ())))
def jD(a0:bQ):J ((List Int)×(List ByteArray)×Int):=
 (wW).bind λr1=>(iter (nW r1) n ((0:Int),([]:(List (ByteArray×Bool))))).bind λw1=>dF (iter (kP a0) n ((0:Int),w1)) λ()=>(kN a0.defs).bind λr2=>(iT n r2.1 r2.2).bind λr3=>((bif r3.2.2.length==0 then some false else some true)).bind λv5=>(bif v5 then ck (aE (sub r3.2.2 0 r3.2.2.length).length r3.2.2.length)<|some (([]:(List Int)),(sub r3.2.2 0 r3.2.2.length),(16:Int))else(nH n (o8.mk r3.1 r3.2.1)).bind λr4=>ck (aE (sub r4 0 r4.length).length r4.length)<|some ((sub r4 0 r4.length),([]:(List ByteArray)),(0:Int)))
def oL(a0:U bT):Stp (Int×(List jq)) (List jq)
 |(v1,v2)=>(bif decide (v1<(a0.length:Int))then(bo a0 v1).bind λx1=>ck ((a0.length:Int) !=0)<|(bo a0 (Int.tmod (i64.wrap (v1+1)) (a0.length:Int))).bind λx2=>ck (cN v1 ((a0.length:Int).toNat))<|(bo v2 ((0:Nat)+v1:Int)).bind λx3=>some (.inl ((i64.wrap (v1+1)),(v2.set ((0:Nat)+v1:Int).toNat (jq.mk x1.x x1.y x2.x x2.y))))else some (.inr v2))
def o9(a0:U bT):J (List jq):=
 ck (decide ((a0.length:Int)<=(a0.length:Int))&&(decide (0<=(a0.length:Int))&&xA (a0.length:Int) 32))<|(iter (oL a0) n ((0:Int),(List.replicate (a0.length:Int).toNat (jq.mk 0 0 0 0)))).bind λw1=>ck (aE (sub w1 0 ((a0.length:Int).toNat)).length ((a0.length:Int).toNat))<|some (sub w1 0 ((a0.length:Int).toNat))
def tC(a0:bT):J Bool:=
 (bif decide (0<=(a0.x:Int))then(bif decide (a0.x<=1048576)then(bif decide (0<=(a0.y:Int))then some (decide (a0.y<=1048576))else some false)else some false)else some false)
def gH(a0:jq):J Bool:=
 some (a0.l4==(a0.mw:Int))
def cmp_isNaN_int(a0:Int):J Bool:=
 some (a0 !=(a0:Int))
def cmp_Compare_int(a0:Int)(a1:Int):J Int:=
 (cmp_isNaN_int a0).bind λr1=>(cmp_isNaN_int a1).bind λr2=>(bif r1 then(bif r2 then some (0:Int)else some ((-1):Int))else(bif r2 then some (1:Int)else(bif decide (a0<(a1:Int))then some ((-1):Int)else(bif decide (a0>(a1:Int))then some (1:Int)else some (0:Int)))))
def vF(a0:U Int):Stp Int (Unit⊕Int)
 |v1=>(bif decide (v1<(a0.length:Int))then(bo a0 v1).bind λx1=>(bif (x1 !=0)then(some x1).map λa=> .inr (.inr a)else some (.inl (i64.wrap (v1+1))))else some (.inr (.inl ())))
def rH(a0:U Int):J Int:=
 dF (iter (vF a0) n (0:Int)) λ()=>some (0:Int)
def q8(a0:bT)(a1:bT):J Int:=
 (cmp_Compare_int a0.x a1.x).bind λr1=>(cmp_Compare_int a0.y a1.y).bind λr2=>ck (aE (sub ([r1,r2]:U Int) 0 2).length 2)<|(rH n (sub ([r1,r2]:U Int) 0 2)).bind λr3=>some r3
def lF(a0:jq)(a1:jq):J Bool:=
 (bif decide ((max (min a0.l4 a0.mw) (min a1.l4 a1.mw))<=((min (max a0.l4 a0.mw) (max a1.l4 a1.mw)):Int))then some (decide ((max (min a0.pN a0.uc) (min a1.pN a1.uc))<=((min (max a0.pN a0.uc) (max a1.pN a1.uc)):Int)))else some false)
def p8(a0:U bT)(r1:U jq):Stp Int (Unit⊕Bool)
 |v2=>(bif decide (v2<(r1.length:Int))then ck (cN v2 r1.length)<|(bo r1 ((0:Nat)+v2:Int)).bind λx1=>ck ((r1.length:Int) !=0)<|ck (cN (Int.tmod (i64.wrap (v2+1)) (r1.length:Int)) r1.length)<|(bo r1 ((0:Nat)+(Int.tmod (i64.wrap (v2+1)) (r1.length:Int)):Int)).bind λx2=>((tC (bT.mk x1.l4 x1.pN)).bind λr2=>(bif (!r2)then some true else(bif ((x1.l4==(x1.mw:Int))==(x1.pN==(x1.uc:Int)))then some true else(gH x1).bind λr3=>(gH x2).bind λr4=>some (r3==r4)))).bind λv3=>(bif v3 then(some false).map λa=> .inr (.inr a)else((bif decide (v2>0)then(bo a0 0).bind λx3=>(bo a0 v2).bind λx4=>(q8 n x3 x4).bind λr5=>some (decide (r5>=0))else some false)).bind λv4=>(bif v4 then(some false).map λa=> .inr (.inr a)else some (.inl (i64.wrap (v2+1)))))else some (.inr (.inl ())))
def iP(r1:U jq)(v5:Int):Stp Int (Unit⊕(Int⊕(Unit⊕Bool)))
 |v6=>(bif decide (v6<(r1.length:Int))then((bif (decide ((i64.wrap ((i64.wrap (v5+(r1.length:Int))) -v6))>1))then ck (cN v5 r1.length)<|(bo r1 ((0:Nat)+v5:Int)).bind λx5=>ck (cN v6 r1.length)<|(bo r1 ((0:Nat)+v6:Int)).bind λx6=>(lF x5 x6).bind λr6=>some r6 else some false)).bind λv7=>(bif v7 then((some false).map λa=> .inr (.inr a)).map λa=> .inr (.inr a)else some (.inl (i64.wrap (v6+1))))else some (.inr (.inl ())))
def p9(r1:U jq):Stp Int (Unit⊕Bool)
 |v5=>(bif decide (v5<(r1.length:Int))then dF (iter (iP r1 v5) n (i64.wrap (v5+2))) λ()=>some (.inl (i64.wrap (v5+1)))else some (.inr (.inl ())))
def vG(a0:U bT):J Bool:=
 ((bif decide ((a0.length:Int)<4)then some true else some (decide ((a0.length:Int)>60)))).bind λv1=>(bif v1 then some false else(o9 n a0).bind λr1=>dF (iter (p8 n a0 r1) n (0:Int)) λ()=>dF (iter (p9 n r1) n (0:Int)) λ()=>ck (cN 0 r1.length)<|(bo r1 ((0:Nat)+0:Int)).bind λx7=>(gH x7).bind λr7=>some (!r7))
def pq(_:Nat)(a0:U Int):J (List Int):=Lq a0
def NF(a0:U Int)(v1:Int):Stp (Int×Int×(List Int)) (Int×(List Int))
 |(v2,v3,v4)=>(bif (decide (v3<((((a0.length -(v1:Int).toNat):Nat):Int):Int)))then(ck (cN v3 (a0.length -(v1:Int).toNat))<|(bo v4 (((0+(v1:Int).toNat):Nat)+v3:Int)).bind λx3=>ck (cN (i64.wrap (v3 -1)) (a0.length -(v1:Int).toNat))<|(bo v4 (((0+(v1:Int).toNat):Nat)+(i64.wrap (v3 -1)):Int)).bind λx4=>(bif (x3 !=(x4:Int))then ck (cN v3 (a0.length -(v1:Int).toNat))<|(bo v4 (((0+(v1:Int).toNat):Nat)+v3:Int)).bind λx5=>ck (cN v2 a0.length)<|(bo v4 ((0:Nat)+v2:Int)).bind λx6=>some ((i64.wrap (v2+1)),(v4.set ((0:Nat)+v2:Int).toNat x5))else some (v2,v4)):J (Int×(List Int))).bind λ(v5,v6)=>some (.inl (v5,(i64.wrap (v3+1)),v6))else some (.inr (v2,v4)))
def NG(a0:U Int):Stp Int (Unit⊕(Unit×(List Int)))
 |v1=>(bif decide (v1<(a0.length:Int))then ck (cN v1 a0.length)<|(bo a0 ((0:Nat)+v1:Int)).bind λx1=>ck (cN (i64.wrap (v1 -1)) a0.length)<|(bo a0 ((0:Nat)+(i64.wrap (v1 -1)):Int)).bind λx2=>(bif (x1==(x2:Int))then ck (yE v1 (a0.length:Int) a0.length)<|(iter (NF a0 v1) n (v1,(1:Int),a0)).bind λ(w1,w2)=>ck (yE w1 (a0.length:Int) a0.length)<|ck (yE 0 w1 a0.length)<|(ck (aE ((w1:Int).toNat) ((w1:Int).toNat))<|ck (aE (sub (w2.take (0+(w1:Int).toNat)) 0 ((w1:Int).toNat)).length ((w1:Int).toNat))<|some ((),(sub (w2.take (0+(w1:Int).toNat)) 0 ((w1:Int).toNat)))).map λa=> .inr (.inr a)else some (.inl (i64.wrap (v1+1))))else some (.inr (.inl ())))
def pu(a0:U Int):J (Unit×(List Int)):=
 (bif decide ((a0.length:Int)<2)then ck (aE a0.length a0.length)<|ck (aE (sub a0 0 a0.length).length a0.length)<|some ((),(sub a0 0 a0.length))else dF (iter (NG n a0) n (1:Int)) λ()=>ck (aE a0.length a0.length)<|ck (aE (sub a0 0 a0.length).length a0.length)<|some ((),(sub a0 0 a0.length)))
def lG(a0:U bT):Stp (Int×(List Int)) (List Int)
 |(v1,v2)=>(bif decide (v1<(a0.length:Int))then(bo a0 v1).bind λx1=>ck (bR v2.length v2.length (sub ([x1.x]:U Int) 0 1).length 1 8)<|iA (v2++(sub ([x1.x]:U Int) 0 1)) λr2=>ck (aE r2.length r2.length)<|some (.inl ((i64.wrap (v1+1)),r2))else ck (aE v2.length v2.length)<|some (.inr v2))
def lH(r4:Unit×(List Int))(r5:U jq)(v3:Int):Stp (Int×(List Int)) (List Int)
 |(v5,v6)=>(bif decide (v5<(r5.length:Int))then(ck (cN v5 r5.length)<|(bo r5 ((0:Nat)+v5:Int)).bind λx2=>((gH x2).bind λr6=>(bif (!r6)then ck (cN v3 r4.2.length)<|(bo r4.2 ((0:Nat)+v3:Int)).bind λx3=>(bif decide ((min x2.l4 x2.mw)<=(x3:Int))then ck (cN v3 r4.2.length)<|(bo r4.2 ((0:Nat)+v3:Int)).bind λx4=>some (decide (x4<((max x2.l4 x2.mw):Int)))else some false)else some false)).bind λv7=>(bif v7 then ck (bR v6.length v6.length (sub ([x2.pN]:U Int) 0 1).length 1 8)<|iA (v6++(sub ([x2.pN]:U Int) 0 1)) λr7=>ck (aE r7.length r7.length)<|some r7 else ck (aE v6.length v6.length)<|some v6):J ((List Int))).bind λv8=>ck (aE v8.length v8.length)<|some (.inl ((i64.wrap (v5+1)),v8))else ck (aE v6.length v6.length)<|some (.inr v6))
def je(r4:Unit×(List Int))(v3:Int)(w2:U Int)(r8:U Int):Stp (Int×(List ax)) (List ax)
 |(v9,v10)=>(bif decide ((i64.wrap (v9+1))<(w2.length:Int))then ck (cN v3 r4.2.length)<|(bo r4.2 ((0:Nat)+v3:Int)).bind λx5=>ck (cN v9 w2.length)<|(bo r8 ((0:Nat)+v9:Int)).bind λx6=>ck (cN (i64.wrap (v3+1)) r4.2.length)<|(bo r4.2 ((0:Nat)+(i64.wrap (v3+1)):Int)).bind λx7=>ck (cN (i64.wrap (v9+1)) w2.length)<|(bo r8 ((0:Nat)+(i64.wrap (v9+1)):Int)).bind λx8=>ck (bR v10.length v10.length (sub ([(ax.mk x5 x6 x7 x8)]:U ax) 0 1).length 1 32)<|iA (v10++(sub ([(ax.mk x5 x6 x7 x8)]:U ax) 0 1)) λr9=>ck (aE r9.length r9.length)<|some (.inl ((i64.wrap (v9+2)),r9))else ck (aE v10.length v10.length)<|some (.inr v10))
def lI(r4:Unit×(List Int))(r5:U jq):Stp (Int×(List ax)) (List ax)
 |(v3,v4)=>(bif (decide (v3<((i64.wrap ((r4.2.length:Int) -1)):Int)))then ck (aE 0 ([]:U Int).length)<|(iter (lH r4 r5 v3) n ((0:Int),([]:U Int))).bind λw2=>ck (aE w2.length w2.length)<|(pq n w2).bind λr8=>ck (aE v4.length v4.length)<|(iter (je r4 v3 w2 r8) n ((0:Int),v4)).bind λw3=>ck (aE w3.length w3.length)<|some (.inl ((i64.wrap (v3+1)),w3))else ck (aE v4.length v4.length)<|some (.inr v4))
def tF(a0:U bT):J ((List ax)×Int):=
 (vG n a0).bind λr1=>(bif (!r1)then some (([]:(List ax)),(10:Int))else ck (aE 0 ([]:U Int).length)<|(iter (lG a0) n ((0:Int),([]:U Int))).bind λw1=>ck (aE w1.length w1.length)<|(pq n w1).bind λr3=>ck (aE w1.length r3.length)<|(pu n r3).bind λr4=>(o9 n a0).bind λr5=>ck (aE 0 ([]:U ax).length)<|(iter (lI n r4 r5) n ((0:Int),([]:U ax))).bind λw4=>(bif decide ((w4.length:Int)>200)then some (([]:(List ax)),(6:Int))else ck (aE (sub w4 0 w4.length).length w4.length)<|some ((sub w4 0 w4.length),(0:Int))))
def tH(a0:dL):J (List ax):=
 (tF n a0.corners).bind λr1=>(bif (r1.2 !=0)then some ([]:(List ax))else ck (aE (sub r1.1 0 r1.1.length).length r1.1.length)<|some (sub r1.1 0 r1.1.length))
def nI(a0:ax):J Bool:=
 (bif decide (0<=(a0.x0:Int))then(bif decide (a0.x0<(a0.x1:Int))then(bif decide (a0.x1<=1048576)then(bif decide (0<=(a0.y0:Int))then(bif decide (a0.y0<(a0.y1:Int))then some (decide (a0.y1<=1048576))else some false)else some false)else some false)else some false)else some false)
def rZ(a0:ax):J (ax×Bool):=
 (nI a0).bind λr1=>(bif r1 then some (a0,true)else some ((ax.mk 0 0 0 0),false))
def sj(a0:ax)(a1:ax):J (ax×Bool):=
 ((nI a0).bind λr1=>(bif (!r1)then some true else(nI a1).bind λr2=>some (!r2))).bind λv1=>(bif v1 then some ((ax.mk 0 0 0 0),false)else(rZ (ax.mk (max a0.x0 a1.x0) (max a0.y0 a1.y0) (min a0.x1 a1.x1) (min a0.y1 a1.y1))).bind λr3=>some (r3.1,r3.2))
def pz(a0:ax):J Int:=
 (rZ a0).bind λr1=>some (i64.wrap ((i64.wrap (r1.1.x1 -r1.1.x0))*(i64.wrap (r1.1.y1 -r1.1.y0))))
def qa(a1:U ax)(x1:ax):Stp (Int×Int×Int×Int) (Int×Int×Int)
 |(v5,v6,v7,v8)=>(bif decide (v6<(a1.length:Int))then((bo a1 v6).bind λx2=>(sj x1 x2).bind λr1=>(bif (!r1.2)then some (v5,v7,v8)else(pz r1.1).bind λr2=>(cmp_Compare_int r1.1.x0 v7).bind λr3=>(cmp_Compare_int r1.1.y0 v8).bind λr4=>ck (aE (sub ([r3,r4]:U Int) 0 2).length 2)<|(rH n (sub ([r3,r4]:U Int) 0 2)).bind λr5=>(bif decide (r5<0)then some ((i64.wrap (v5+r2)),r1.1.x0,r1.1.y0)else some ((i64.wrap (v5+r2)),v7,v8))):J (Int×Int×Int)).bind λ(v9,v10,v11)=>some (.inl (v9,(i64.wrap (v6+1)),v10,v11))else some (.inr (v5,v7,v8)))
def qb(a0:U ax)(a1:U ax):Stp (Int×Int×Int×Int) (Int×Int×Int)
 |(v1,v2,v3,v4)=>(bif decide (v2<(a0.length:Int))then(bo a0 v2).bind λx1=>(iter (qa n a1 x1) n (v1,(0:Int),v3,v4)).bind λ(w1,w2,w3)=>some (.inl (w1,(i64.wrap (v2+1)),w2,w3))else some (.inr (v1,v3,v4)))
def qH(a0:U ax)(a1:U ax):J (Int×bT):=
 (iter (qb n a0 a1) n ((0:Int),(0:Int),(1048576:Int),(0:Int))).bind λ(w4,w5,w6)=>some (w4,(bT.mk w5 w6))
def oM(a0:bQ):Stp (Int×(List (List ax))) (List (List ax))
 |(v1,v2)=>(bif decide (v1<(a0.zones.length:Int))then((bo a0.zones v1).bind λx1=>(bif (!x1.overlay)then(tH n x1).bind λr1=>ck (cN v1 ((a0.zones.length:Int).toNat))<|ck (aE (sub r1 0 r1.length).length r1.length)<|(bo v2 ((0:Nat)+v1:Int)).bind λx2=>some (v2.set ((0:Nat)+v1:Int).toNat (sub r1 0 r1.length))else some v2):J ((List (List ax)))).bind λv3=>some (.inl ((i64.wrap (v1+1)),v3))else some (.inr v2))
def jf(a0:bQ)(w1:U (List ax))(v4:Int):Stp Int (Unit⊕(Int⊕(Unit⊕((List Int)×bT×Bool))))
 |v5=>(bif (decide (v5<((((a0.zones.length:Int).toNat:Nat):Int):Int)))then ck (cN v4 ((a0.zones.length:Int).toNat))<|(bo w1 ((0:Nat)+v4:Int)).bind λx3=>ck (cN v5 ((a0.zones.length:Int).toNat))<|(bo w1 ((0:Nat)+v5:Int)).bind λx4=>(qH n x3 x4).bind λr2=>(bif decide (r2.1>0)then((ck (aE (sub ([v4,v5]:U Int) 0 2).length 2)<|some ((sub ([v4,v5]:U Int) 0 2),r2.2,true)).map λa=> .inr (.inr a)).map λa=> .inr (.inr a)else some (.inl (i64.wrap (v5+1))))else some (.inr (.inl ())))
def oN(a0:bQ)(w1:U (List ax)):Stp Int (Unit⊕((List Int)×bT×Bool))
 |v4=>(bif (decide (v4<((((a0.zones.length:Int).toNat:Nat):Int):Int)))then dF (iter (jf n a0 w1 v4) n (i64.wrap (v4+1))) λ()=>some (.inl (i64.wrap (v4+1)))else some (.inr (.inl ())))
def pE(a0:bQ):J ((List Int)×bT×Bool):=
 ck (decide ((a0.zones.length:Int)<=(a0.zones.length:Int))&&(decide (0<=(a0.zones.length:Int))&&xA (a0.zones.length:Int) 24))<|(iter (oM n a0) n ((0:Int),(List.replicate (a0.zones.length:Int).toNat ([])))).bind λw1=>dF (iter (oN n a0 w1) n (0:Int)) λ()=>some (([]:(List Int)),(bT.mk 0 0),false)
def gI(a0:j5)(r3:(List Int)×bT×Bool):Stp (Int×Int×Int×Int×Int×Int×Int×Int×Int×(List ByteArray)) (Int×Int×Int×Int×Int×Int×Int×Int×(List ByteArray))
 |(v2,v3,v4,v5,v6,v7,v8,v9,v10,v11)=>(bif decide (v2<(r3.1.length:Int))then ck (cN v2 r3.1.length)<|(bo r3.1 ((0:Nat)+v2:Int)).bind λx1=>(bo a0.b7 x1).bind λx2=>ck (bR v11.length v11.length (sub ([x2.name]:U ByteArray) 0 1).length 1 16)<|iA (v11++(sub ([x2.name]:U ByteArray) 0 1)) λr4=>ck (aE r4.length r4.length)<|some (.inl ((i64.wrap (v2+1)),v3,v4,v5,v6,v7,v8,v9,v10,r4))else ck (aE v11.length v11.length)<|some (.inr (v3,v4,v5,v6,v7,v8,v9,v10,v11)))
def fG(a0:j5):J (List aS):=
 ((jD n (bQ.mk a0.cp a0.b8 a0.b7 a0.ci a0.ct a0.cg a0.cD a0.cj)).bind λr1=>(bif (r1.2.2==16)then ck (bR 0 0 (sub ([(aS.mk 3 0 r1.2.1 0 0 0 0 0 0)]:U aS) 0 1).length 1 88)<|iA ((sub ([(aS.mk 3 0 r1.2.1 0 0 0 0 0 0)]:U aS) 0 1)) λr2=>ck (aE r2.length r2.length)<|some r2 else ck (aE 0 ([]:U aS).length)<|some ([]:U aS)):J ((List aS))).bind λv1=>((pE n (bQ.mk a0.cp a0.b8 a0.b7 a0.ci a0.ct a0.cg a0.cD a0.cj)).bind λr3=>(bif r3.2.2 then ck (aE 0 ([]:U ByteArray).length)<|(iter (gI a0 r3) n ((0:Int),(2:Int),(0:Int),(0:Int),(0:Int),(0:Int),(0:Int),r3.2.1.x,r3.2.1.y,([]:U ByteArray))).bind λ(w1,w2,w3,w4,w5,w6,w7,w8,w9)=>ck (aE (sub w9 0 w9.length).length w9.length)<|ck (bR v1.length v1.length (sub ([(aS.mk w1 w2 (sub w9 0 w9.length) w3 w4 w5 w6 w7 w8)]:U aS) 0 1).length 1 88)<|iA (v1++(sub ([(aS.mk w1 w2 (sub w9 0 w9.length) w3 w4 w5 w6 w7 w8)]:U aS) 0 1)) λr5=>ck (aE r5.length r5.length)<|some r5 else ck (aE v1.length v1.length)<|some v1):J ((List aS))).bind λv12=>ck (aE (sub v12 0 v12.length).length v12.length)<|some (sub v12 0 v12.length)
def NH(a0:Unit)(a1:Int):J (List ax):=
 (bif decide (a1<0)then none else(bif (decide ((i64.wrap (a1 -(i64.wrap (0 -0))))>0))then ck (xA (i64.wrap (a1 -(i64.wrap (0 -0)))) 32)<|ck (yE 0 0 ((i64.wrap (a1 -(i64.wrap (0 -0)))).toNat))<|ck (aE (sub (List.replicate (i64.wrap (a1 -(i64.wrap (0 -0)))).toNat (ax.mk 0 0 0 0)) 0 0).length 0)<|some (sub (List.replicate (i64.wrap (a1 -(i64.wrap (0 -0)))).toNat (ax.mk 0 0 0 0)) 0 0)else some ([]:(List ax))))
def NI(a0:U (List ax)):Stp (Int×Int) Int
 |(v1,v2)=>(bif decide (v2<(a0.length:Int))then(bo a0 v2).bind λx1=>(bif decide ((i64.wrap (v1+(x1.length:Int)))<0)then none else some (.inl ((i64.wrap (v1+(x1.length:Int))),(i64.wrap (v2+1)))))else some (.inr v1))
def NJ(a0:U (List ax)):Stp (Int×(List ax)) (List ax)
 |(v3,v4)=>(bif decide (v3<(a0.length:Int))then(bo a0 v3).bind λx2=>ck (bR v4.length v4.length x2.length x2.length 32)<|iA (v4++x2) λr2=>ck (aE r2.length r2.length)<|some (.inl ((i64.wrap (v3+1)),r2))else ck (aE v4.length v4.length)<|some (.inr v4))
def yQ(a0:U (List ax)):J (List ax):=
 (iter (NI a0) n ((0:Int),(0:Int))).bind λw1=>(NH () w1).bind λr1=>ck (aE r1.length r1.length)<|(iter (NJ a0) n ((0:Int),r1)).bind λw2=>ck (aE (sub w2 0 w2.length).length w2.length)<|some (sub w2 0 w2.length)
def uY(_:Nat)(a0:U aO)(a1:(aO×aO×Unit)->J Int):J (List aO):=GW a0 a1
def xH(a0:aO)(a1:aO):J Int:=
 (cmp_Compare_int a0.from_ a1.from_).bind λr1=>some r1
def tJ(a0:U ax)(a1:Int):Stp (Int×(List aO)) (List aO)
 |(v1,v2)=>(bif decide (v1<(a0.length:Int))then((bo a0 v1).bind λx1=>((bif decide (x1.x0<=(a1:Int))then some (decide (a1<(x1.x1:Int)))else some false)).bind λv3=>(bif v3 then ck (bR v2.length v2.length (sub ([(aO.mk x1.y0 x1.y1)]:U aO) 0 1).length 1 16)<|iA (v2++(sub ([(aO.mk x1.y0 x1.y1)]:U aO) 0 1)) λr1=>ck (aE r1.length r1.length)<|some r1 else ck (aE v2.length v2.length)<|some v2):J ((List aO))).bind λv4=>ck (aE v4.length v4.length)<|some (.inl ((i64.wrap (v1+1)),v4))else ck (aE v2.length v2.length)<|some (.inr v2))
def tK(w1:U aO)(r2:U aO):Stp (Int×(List aO)) (List aO)
 |(v5,v6)=>(bif decide (v5<(w1.length:Int))then(ck (cN v5 w1.length)<|(bo r2 ((0:Nat)+v5:Int)).bind λx2=>((bif decide ((v6.length:Int)>0)then ck (cN (i64.wrap ((v6.length:Int) -1)) v6.length)<|(bo v6 ((0:Nat)+(i64.wrap ((v6.length:Int) -1)):Int)).bind λx3=>some (decide (x2.from_<=(x3.to:Int)))else some false)).bind λv7=>(bif v7 then ck (cN (i64.wrap ((v6.length:Int) -1)) v6.length)<|(bo v6 ((0:Nat)+(i64.wrap ((v6.length:Int) -1)):Int)).bind λx4=>ck (cN (i64.wrap ((v6.length:Int) -1)) v6.length)<|(bo v6 ((0:Nat)+(i64.wrap ((v6.length:Int) -1)):Int)).bind λx5=>ck (aE v6.length (v6.set ((0:Nat)+(i64.wrap ((v6.length:Int) -1)):Int).toNat (aO.mk x5.from_ (max x4.to x2.to))).length)<|some (v6.set ((0:Nat)+(i64.wrap ((v6.length:Int) -1)):Int).toNat (aO.mk x5.from_ (max x4.to x2.to)))else ck (bR v6.length v6.length (sub ([x2]:U aO) 0 1).length 1 16)<|iA (v6++(sub ([x2]:U aO) 0 1)) λr3=>ck (aE r3.length r3.length)<|some r3):J ((List aO))).bind λv8=>ck (aE v8.length v8.length)<|some (.inl ((i64.wrap (v5+1)),v8))else ck (aE v6.length v6.length)<|some (.inr v6))
def JW(a0:U ax)(a1:Int):J (List aO):=
 ck (aE 0 ([]:U aO).length)<|(iter (tJ a0 a1) n ((0:Int),([]:U aO))).bind λw1=>ck (aE w1.length w1.length)<|(uY n w1 (λ (y1:aO×aO×Unit)=>xH y1.1 y1.2.1)).bind λr2=>ck (aE 0 ([]:U aO).length)<|(iter (tK w1 r2) n ((0:Int),([]:U aO))).bind λw2=>ck (aE (sub w2 0 w2.length).length w2.length)<|some (sub w2 0 w2.length)
def tL(r1:U ax):Stp (Int×(List Int)) (List Int)
 |(v1,v2)=>(bif decide (v1<(r1.length:Int))then ck (cN v1 r1.length)<|(bo r1 ((0:Nat)+v1:Int)).bind λx1=>ck (bR v2.length v2.length (sub ([x1.x0,x1.x1]:U Int) 0 2).length 2 8)<|iA (v2++(sub ([x1.x0,x1.x1]:U Int) 0 2)) λr2=>ck (aE r2.length r2.length)<|some (.inl ((i64.wrap (v1+1)),r2))else ck (aE v2.length v2.length)<|some (.inr v2))
def tN(r1:U ax)(r4:Unit×(List Int)):Stp (Int×(List bZ)) (List bZ)
 |(v3,v4)=>(bif decide (v3<(r4.2.length:Int))then ck (cN (i64.wrap (v3 -1)) r4.2.length)<|(bo r4.2 ((0:Nat)+(i64.wrap (v3 -1)):Int)).bind λx2=>ck (cN v3 r4.2.length)<|(bo r4.2 ((0:Nat)+v3:Int)).bind λx3=>ck (cN (i64.wrap (v3 -1)) r4.2.length)<|(bo r4.2 ((0:Nat)+(i64.wrap (v3 -1)):Int)).bind λx4=>ck (aE (sub r1 0 r1.length).length r1.length)<|(JW n (sub r1 0 r1.length) x4).bind λr5=>ck (aE (sub r5 0 r5.length).length r5.length)<|ck (bR v4.length v4.length (sub ([(bZ.mk x2 x3 (sub r5 0 r5.length))]:U bZ) 0 1).length 1 40)<|iA (v4++(sub ([(bZ.mk x2 x3 (sub r5 0 r5.length))]:U bZ) 0 1)) λr6=>ck (aE r6.length r6.length)<|some (.inl ((i64.wrap (v3+1)),r6))else ck (aE v4.length v4.length)<|some (.inr v4))
def oC(a0:U (List ax)):J (List bZ):=
 (yQ n a0).bind λr1=>ck (aE 0 ([]:U Int).length)<|(iter (tL r1) n ((0:Int),([]:U Int))).bind λw1=>ck (aE w1.length w1.length)<|(pq n w1).bind λr3=>ck (aE w1.length r3.length)<|(pu n r3).bind λr4=>ck (aE 0 ([]:U bZ).length)<|(iter (tN n r1 r4) n ((1:Int),([]:U bZ))).bind λw2=>ck (aE (sub w2 0 w2.length).length w2.length)<|some (sub w2 0 w2.length)
def Qb(a0:U aO)(a1:U aO):Stp Int (Unit⊕Bool)
 |v1=>(bif decide (v1<(a0.length:Int))then(bo a0 v1).bind λx1=>(bo a1 v1).bind λx2=>(bif (!((x1.from_==(x2.from_:Int))&&((x1.to==(x2.to:Int))&&true)))then(some false).map λa=> .inr (.inr a)else some (.inl (i64.wrap (v1+1))))else some (.inr (.inl ())))
def vH(a0:U aO)(a1:U aO):J Bool:=
 (bif ((a0.length:Int) !=(a1.length:Int))then some false else dF (iter (Qb a0 a1) n (0:Int)) λ()=>some true)
def sw(a0:U bZ)(v1:Int):Stp Int Int
 |v3=>((bif decide (v3<(a0.length:Int))then(bo a0 v3).bind λx1=>(bo a0 v1).bind λx2=>(vH n x1.column x2.column).bind λr1=>some r1 else some false)).bind λv4=>(bif v4 then some (.inl (i64.wrap (v3+1)))else some (.inr v3))
def wB(a0:U bZ)(v1:Int)(w1:Int)(x3:bZ):Stp (Int×(List ax)) (List ax)
 |(v5,v6)=>(bif decide (v5<(x3.column.length:Int))then(bo x3.column v5).bind λx4=>(bo a0 v1).bind λx5=>(bo a0 (i64.wrap (w1 -1))).bind λx6=>ck (bR v6.length v6.length (sub ([(ax.mk x5.x0 x4.from_ x6.x1 x4.to)]:U ax) 0 1).length 1 32)<|iA (v6++(sub ([(ax.mk x5.x0 x4.from_ x6.x1 x4.to)]:U ax) 0 1)) λr2=>ck (aE r2.length r2.length)<|some (.inl ((i64.wrap (v5+1)),r2))else ck (aE v6.length v6.length)<|some (.inr v6))
def wC(a0:U bZ):Stp (Int×(List ax)) (List ax)
 |(v1,v2)=>(bif decide (v1<(a0.length:Int))then(iter (sw n a0 v1) n (i64.wrap (v1+1))).bind λw1=>(bo a0 v1).bind λx3=>ck (aE v2.length v2.length)<|(iter (wB a0 v1 w1 x3) n ((0:Int),v2)).bind λw2=>ck (aE w2.length w2.length)<|some (.inl (w1,w2))else ck (aE v2.length v2.length)<|some (.inr v2))
def Io(a0:U bZ):J (List ax):=
 ck (aE 0 ([]:U ax).length)<|(iter (wC n a0) n ((0:Int),([]:U ax))).bind λw3=>ck (aE (sub w3 0 w3.length).length w3.length)<|some (sub w3 0 w3.length)
def yR(a0:U ax):J ((List ax)×Int):=
 (bif decide ((a0.length:Int)>200)then some (([]:(List ax)),(6:Int))else some (a0,(0:Int)))
def NK(a0:U ax):Stp Int (Unit⊕((List ax)×Int))
 |v1=>(bif decide (v1<(a0.length:Int))then(bo a0 v1).bind λx1=>(nI x1).bind λr1=>(bif (!r1)then(some (([]:(List ax)),(1:Int))).map λa=> .inr (.inr a)else some (.inl (i64.wrap (v1+1))))else some (.inr (.inl ())))
def OS(a0:U ax):J ((List ax)×Int):=
 dF (iter (NK a0) n (0:Int)) λ()=>(bif decide ((a0.length:Int)>400)then some (([]:(List ax)),(6:Int))else ck (aE (sub ([a0]:U (List ax)) 0 1).length 1)<|(oC n (sub ([a0]:U (List ax)) 0 1)).bind λr2=>ck (aE (sub r2 0 r2.length).length r2.length)<|(Io n (sub r2 0 r2.length)).bind λr3=>ck (aE (sub r3 0 r3.length).length r3.length)<|(yR (sub r3 0 r3.length)).bind λr4=>some (r4.1,r4.2))
def Qc(a0:U ax)(a1:U ax):Stp Int (Unit⊕Bool)
 |v1=>(bif decide (v1<(a0.length:Int))then(bo a0 v1).bind λx1=>(bo a1 v1).bind λx2=>(bif (!((x1.x0==(x2.x0:Int))&&((x1.y0==(x2.y0:Int))&&((x1.x1==(x2.x1:Int))&&((x1.y1==(x2.y1:Int))&&true)))))then(some false).map λa=> .inr (.inr a)else some (.inl (i64.wrap (v1+1))))else some (.inr (.inl ())))
def oD(a0:U ax)(a1:U ax):J Bool:=
 (bif ((a0.length:Int) !=(a1.length:Int))then some false else dF (iter (Qc a0 a1) n (0:Int)) λ()=>some true)
def nX(a0:U ax):J Bool:=
 (OS n a0).bind λr1=>(bif (r1.2==0)then(oD n r1.1 a0).bind λr2=>some r2 else some false)
def qc(a0:bQ)(a1:U ax):Stp (Int×(List Int)) (List Int)
 |(v1,v2)=>(bif decide (v1<(a0.zones.length:Int))then(bo a0.zones v1).bind λx1=>(tH n x1).bind λr2=>ck (aE (sub r2 0 r2.length).length r2.length)<|(qH n a1 (sub r2 0 r2.length)).bind λr3=>ck (bR v2.length v2.length (sub ([r3.1]:U Int) 0 1).length 1 8)<|iA (v2++(sub ([r3.1]:U Int) 0 1)) λr4=>ck (aE r4.length r4.length)<|some (.inl ((i64.wrap (v1+1)),r4))else ck (aE v2.length v2.length)<|some (.inr v2))
def vI(a0:bQ)(a1:U ax):J (List Int):=
 (nX n a1).bind λr1=>(bif (!r1)then some ([]:(List Int))else ck (aE 0 ([]:U Int).length)<|(iter (qc n a0 a1) n ((0:Int),([]:U Int))).bind λw1=>ck (aE (sub w1 0 w1.length).length w1.length)<|some (sub w1 0 w1.length))
def qd(a0:bQ)(r1:U Int):Stp (Int×Int) Int
 |(v1,v2)=>(bif decide (v2<(r1.length:Int))then(ck (cN v2 r1.length)<|(bo r1 ((0:Nat)+v2:Int)).bind λx1=>((bo a0.zones v2).bind λx2=>(bif (!x2.overlay)then(bif decide (x1>0)then(bif decide (v1<0)then some true else ck (cN v1 r1.length)<|(bo r1 ((0:Nat)+v1:Int)).bind λx3=>some (decide (x1>(x3:Int))))else some false)else some false)).bind λv3=>(bif v3 then some v2 else some v1):J Int).bind λv4=>some (.inl (v4,(i64.wrap (v2+1))))else some (.inr v1))
def xI(a0:bQ)(r1:U Int)(w1:Int):Stp (Int×(List ByteArray)) (List ByteArray)
 |(v5,v6)=>(bif decide (v5<(r1.length:Int))then(ck (cN v5 r1.length)<|(bo r1 ((0:Nat)+v5:Int)).bind λx4=>((bif (v5==(w1:Int))then some true else(bo a0.zones v5).bind λx5=>(bif x5.overlay then some (decide (x4>0))else some false))).bind λv7=>(bif v7 then(bo a0.zones v5).bind λx6=>ck (bR v6.length v6.length (sub ([x6.name]:U ByteArray) 0 1).length 1 16)<|iA (v6++(sub ([x6.name]:U ByteArray) 0 1)) λr2=>ck (aE r2.length r2.length)<|some r2 else ck (aE v6.length v6.length)<|some v6):J ((List ByteArray))).bind λv8=>ck (aE v8.length v8.length)<|some (.inl ((i64.wrap (v5+1)),v8))else ck (aE v6.length v6.length)<|some (.inr v6))
def sD(a0:bQ)(a1:U ax):J (List ByteArray):=
 (vI n a0 a1).bind λr1=>(iter (qd a0 r1) n (((-1):Int),(0:Int))).bind λw1=>ck (aE 0 ([]:U ByteArray).length)<|(iter (xI a0 r1 w1) n ((0:Int),([]:U ByteArray))).bind λw2=>ck (aE (sub w2 0 w2.length).length w2.length)<|some (sub w2 0 w2.length)
def nJ(a0:U ByteArray)(a1:ByteArray):Stp Int (Unit⊕Int)
 |v1=>(bif decide (v1<(a0.length:Int))then(bo a0 v1).bind λx1=>(bif (ByteArray.toList a1==ByteArray.toList x1)then(some v1).map λa=> .inr (.inr a)else some (.inl (i64.wrap (v1+1))))else some (.inr (.inl ())))
def q9(a0:U ByteArray)(a1:ByteArray):J Int:=
 dF (iter (nJ a0 a1) n (0:Int)) λ()=>some ((-1):Int)
def fH(a0:U ByteArray)(a1:ByteArray):J Bool:=
 (q9 n a0 a1).bind λr1=>some (decide (r1>=0))
def jR(a0:ByteArray)(a1:U ByteArray):J Bool:=
 (fH n a1 a0).bind λr1=>some r1
def Ez(a0:U ByteArray)(a1:(ByteArray×Unit)->J Bool):Stp Int (Unit⊕Int)
 |v1=>(bif decide (v1<(a0.length:Int))then(bo a0 v1).bind λx1=>(a1 (x1,())).bind λr1=>(bif r1 then(some v1).map λa=> .inr (.inr a)else some (.inl (i64.wrap (v1+1))))else some (.inr (.inl ())))
def qp(a0:U ByteArray)(a1:(ByteArray×Unit)->J Bool):J Int:=
 dF (iter (Ez a0 a1) n (0:Int)) λ()=>some ((-1):Int)
def fJ(a0:U ByteArray)(a1:(ByteArray×Unit)->J Bool):J Bool:=
 (qp n a0 a1).bind λr1=>some (decide (r1>=0))
def qI(a0:bP)(a1:U ByteArray):J Bool:=
 (bif ((a0.zones.length:Int)==0)then(fJ n a0.except (λ (y1:ByteArray×Unit)=>jR n y1.1 a1)).bind λr1=>some (!r1)else(fJ n a0.zones (λ (y2:ByteArray×Unit)=>jR n y2.1 a1)).bind λr2=>(bif r2 then(fJ n a0.except (λ (y3:ByteArray×Unit)=>jR n y3.1 a1)).bind λr3=>some (!r3)else some false))
def rf(a0:bQ)(a1:U ByteArray)(a2:Int):Stp (Int×(List Int)) (List Int)
 |(v1,v2)=>(bif decide (v1<(a0.rules.length:Int))then((bo a0.rules v1).bind λx1=>((bif decide (x1.from_<=(a2:Int))then(bif (x1.cP==0)then(qI n x1 a1).bind λr1=>some r1 else(bif decide (a2<(x1.cP:Int))then(qI n x1 a1).bind λr2=>some r2 else some false))else some false)).bind λv3=>(bif v3 then ck (bR v2.length v2.length (sub ([v1]:U Int) 0 1).length 1 8)<|iA (v2++(sub ([v1]:U Int) 0 1)) λr3=>ck (aE r3.length r3.length)<|some r3 else ck (aE v2.length v2.length)<|some v2):J ((List Int))).bind λv4=>ck (aE v4.length v4.length)<|some (.inl ((i64.wrap (v1+1)),v4))else ck (aE v2.length v2.length)<|some (.inr v2))
def nK(a0:bQ)(a1:U ByteArray)(a2:Int):J (List Int):=
 ck (aE 0 ([]:U Int).length)<|(iter (rf n a0 a1 a2) n ((0:Int),([]:U Int))).bind λw1=>ck (aE (sub w1 0 w1.length).length w1.length)<|some (sub w1 0 w1.length)
def Aj(a0:U ax):Stp (Bool×Int×Int×Int×Int×Int) (Bool×Int×Int×Int×Int)
 |(v1,v2,v3,v4,v5,v6)=>(bif decide (v2<(a0.length:Int))then((bo a0 v2).bind λx1=>(nI x1).bind λr1=>(bif (!r1)then some (v1,v3,v4,v5,v6)else(bif (!v1)then some (true,x1.x0,x1.y0,x1.x1,x1.y1)else some (v1,(min v3 x1.x0),(min v4 x1.y0),(max v5 x1.x1),(max v6 x1.y1)))):J (Bool×Int×Int×Int×Int)).bind λ(v7,v8,v9,v10,v11)=>some (.inl (v7,(i64.wrap (v2+1)),v8,v9,v10,v11))else some (.inr (v1,v3,v4,v5,v6)))
def NN(a0:U ax):J (ax×Bool):=
 (iter (Aj a0) n (false,(0:Int),(0:Int),(0:Int),(0:Int),(0:Int))).bind λ(w1,w2,w3,w4,w5)=>some ((ax.mk w2 w3 w4 w5),w1)
def CY(a0:U ax):J (ax×Bool):=
 ((bif ((a0.length:Int)==0)then some true else(nX n a0).bind λr1=>some (!r1))).bind λv1=>(bif v1 then some ((ax.mk 0 0 0 0),false)else(NN n a0).bind λr2=>some (r2.1,r2.2))
def NP(a0:ax)(a1:Int):J (ax×Bool):=
 ((nI a0).bind λr1=>(bif (!r1)then some true else some (decide (a1<0)))).bind λv1=>(bif v1 then some ((ax.mk 0 0 0 0),false)else(rZ (ax.mk (i64.wrap (a0.x0+(min a1 (1048576:Int)))) (i64.wrap (a0.y0+(min a1 (1048576:Int)))) (i64.wrap (a0.x1 -(min a1 (1048576:Int)))) (i64.wrap (a0.y1 -(min a1 (1048576:Int)))))).bind λr2=>some (r2.1,r2.2))
def lJ(a0:U bZ)(a1:Int)(a2:(bZ×Int×Unit)->J Int):Stp (Int×Int) Int
 |(v1,v2)=>(bif decide (v1<(v2:Int))then ck (decide (0<=1)&&decide (1<=IntKind.u64.bits))<|(bo a0 (i64.wrap ((IntKind.u64.wrap (i64.wrap (v1+v2)))/2 ^ (1:Int).toNat))).bind λx1=>(a2 (x1,a1,())).bind λr1=>(bif decide (r1<0)then some (.inl ((i64.wrap ((i64.wrap ((IntKind.u64.wrap (i64.wrap (v1+v2)))/2 ^ (1:Int).toNat))+1)),v2))else some (.inl (v1,(i64.wrap ((IntKind.u64.wrap (i64.wrap (v1+v2)))/2 ^ (1:Int).toNat)))))else some (.inr v1))
def iW(a0:U bZ)(a1:Int)(a2:(bZ×Int×Unit)->J Int):J (Int×Bool):=
 (iter (lJ a0 a1 a2) n ((0:Int),(a0.length:Int))).bind λw1=>(bif decide (w1<(a0.length:Int))then(bo a0 w1).bind λx2=>(a2 (x2,a1,())).bind λr2=>some (w1,(r2==0))else some (w1,false))
def wD(a0:bZ)(a1:Int):J Int:=
 (bif decide (a0.x1<=(a1:Int))then some ((-1):Int)else some (1:Int))
def WR(a0:U bZ)(a1:Int):J (List aO):=
 (iW n a0 a1 (λ (y1:bZ×Int×Unit)=>wD y1.1 y1.2.1)).bind λr1=>((bif decide (r1.1<(a0.length:Int))then(bo a0 r1.1).bind λx1=>some (decide (x1.x0<=(a1:Int)))else some false)).bind λv1=>(bif v1 then(bo a0 r1.1).bind λx2=>some x2.column else some ([]:(List aO)))
def NQ(a0:Unit)(a1:Int):J (List aO):=
 (bif decide (a1<0)then none else(bif (decide ((i64.wrap (a1 -(i64.wrap (0 -0))))>0))then ck (xA (i64.wrap (a1 -(i64.wrap (0 -0)))) 16)<|ck (yE 0 0 ((i64.wrap (a1 -(i64.wrap (0 -0)))).toNat))<|ck (aE (sub (List.replicate (i64.wrap (a1 -(i64.wrap (0 -0)))).toNat (aO.mk 0 0)) 0 0).length 0)<|some (sub (List.replicate (i64.wrap (a1 -(i64.wrap (0 -0)))).toNat (aO.mk 0 0)) 0 0)else some ([]:(List aO))))
def NR(a0:U (List aO)):Stp (Int×Int) Int
 |(v1,v2)=>(bif decide (v2<(a0.length:Int))then(bo a0 v2).bind λx1=>(bif decide ((i64.wrap (v1+(x1.length:Int)))<0)then none else some (.inl ((i64.wrap (v1+(x1.length:Int))),(i64.wrap (v2+1)))))else some (.inr v1))
def NS(a0:U (List aO)):Stp (Int×(List aO)) (List aO)
 |(v3,v4)=>(bif decide (v3<(a0.length:Int))then(bo a0 v3).bind λx2=>ck (bR v4.length v4.length x2.length x2.length 16)<|iA (v4++x2) λr2=>ck (aE r2.length r2.length)<|some (.inl ((i64.wrap (v3+1)),r2))else ck (aE v4.length v4.length)<|some (.inr v4))
def yS(a0:U (List aO)):J (List aO):=
 (iter (NR a0) n ((0:Int),(0:Int))).bind λw1=>(NQ () w1).bind λr1=>ck (aE r1.length r1.length)<|(iter (NS a0) n ((0:Int),r1)).bind λw2=>ck (aE (sub w2 0 w2.length).length w2.length)<|some (sub w2 0 w2.length)
def mJ(a0:U aO)(a1:Int)(a2:(aO×Int×Unit)->J Int):Stp (Int×Int) Int
 |(v1,v2)=>(bif decide (v1<(v2:Int))then ck (decide (0<=1)&&decide (1<=IntKind.u64.bits))<|(bo a0 (i64.wrap ((IntKind.u64.wrap (i64.wrap (v1+v2)))/2 ^ (1:Int).toNat))).bind λx1=>(a2 (x1,a1,())).bind λr1=>(bif decide (r1<0)then some (.inl ((i64.wrap ((i64.wrap ((IntKind.u64.wrap (i64.wrap (v1+v2)))/2 ^ (1:Int).toNat))+1)),v2))else some (.inl (v1,(i64.wrap ((IntKind.u64.wrap (i64.wrap (v1+v2)))/2 ^ (1:Int).toNat)))))else some (.inr v1))
def jl(a0:U aO)(a1:Int)(a2:(aO×Int×Unit)->J Int):J (Int×Bool):=
 (iter (mJ a0 a1 a2) n ((0:Int),(a0.length:Int))).bind λw1=>(bif decide (w1<(a0.length:Int))then(bo a0 w1).bind λx2=>(a2 (x2,a1,())).bind λr2=>some (w1,(r2==0))else some (w1,false))
def lK(a0:aO)(a1:Int):J Int:=
 (bif decide (a0.to<=(a1:Int))then some ((-1):Int)else some (1:Int))
def CZ(a0:U aO)(a1:Int):J Bool:=
 (jl n a0 a1 (λ (y1:aO×Int×Unit)=>lK y1.1 y1.2.1)).bind λr1=>(bif decide (r1.1<(a0.length:Int))then(bo a0 r1.1).bind λx1=>some (decide (x1.from_<=(a1:Int)))else some false)
def wE(r1:U aO):Stp (Int×(List Int)) (List Int)
 |(v1,v2)=>(bif decide (v1<(r1.length:Int))then ck (cN v1 r1.length)<|(bo r1 ((0:Nat)+v1:Int)).bind λx1=>ck (bR v2.length v2.length (sub ([x1.from_,x1.to]:U Int) 0 2).length 2 8)<|iA (v2++(sub ([x1.from_,x1.to]:U Int) 0 2)) λr2=>ck (aE r2.length r2.length)<|some (.inl ((i64.wrap (v1+1)),r2))else ck (aE v2.length v2.length)<|some (.inr v2))
def wF(a0:U aO)(a1:U aO)(a2:(Bool×Bool×Unit)->J Bool)(r4:Unit×(List Int)):Stp (Int×(List aO)) (List aO)
 |(v3,v4)=>(bif decide (v3<(r4.2.length:Int))then(ck (cN (i64.wrap (v3 -1)) r4.2.length)<|(bo r4.2 ((0:Nat)+(i64.wrap (v3 -1)):Int)).bind λx2=>(CZ n a0 x2).bind λr5=>(CZ n a1 x2).bind λr6=>(a2 (r5,r6,())).bind λr7=>(bif (!r7)then ck (aE v4.length v4.length)<|some v4 else((bif decide ((v4.length:Int)>0)then ck (cN (i64.wrap ((v4.length:Int) -1)) v4.length)<|(bo v4 ((0:Nat)+(i64.wrap ((v4.length:Int) -1)):Int)).bind λx3=>some (x3.to==(x2:Int))else some false)).bind λv5=>(bif v5 then ck (cN v3 r4.2.length)<|(bo r4.2 ((0:Nat)+v3:Int)).bind λx4=>ck (cN (i64.wrap ((v4.length:Int) -1)) v4.length)<|(bo v4 ((0:Nat)+(i64.wrap ((v4.length:Int) -1)):Int)).bind λx5=>ck (aE v4.length (v4.set ((0:Nat)+(i64.wrap ((v4.length:Int) -1)):Int).toNat (aO.mk x5.from_ x4)).length)<|some (v4.set ((0:Nat)+(i64.wrap ((v4.length:Int) -1)):Int).toNat (aO.mk x5.from_ x4))else ck (cN v3 r4.2.length)<|(bo r4.2 ((0:Nat)+v3:Int)).bind λx6=>ck (bR v4.length v4.length (sub ([(aO.mk x2 x6)]:U aO) 0 1).length 1 16)<|iA (v4++(sub ([(aO.mk x2 x6)]:U aO) 0 1)) λr8=>ck (aE r8.length r8.length)<|some r8)):J ((List aO))).bind λv6=>ck (aE v6.length v6.length)<|some (.inl ((i64.wrap (v3+1)),v6))else ck (aE v4.length v4.length)<|some (.inr v4))
def Ip(a0:U aO)(a1:U aO)(a2:(Bool×Bool×Unit)->J Bool):J (List aO):=
 ck (aE (sub ([a0,a1]:U (List aO)) 0 2).length 2)<|(yS n (sub ([a0,a1]:U (List aO)) 0 2)).bind λr1=>ck (aE 0 ([]:U Int).length)<|(iter (wE r1) n ((0:Int),([]:U Int))).bind λw1=>ck (aE w1.length w1.length)<|(pq n w1).bind λr3=>ck (aE w1.length r3.length)<|(pu n r3).bind λr4=>ck (aE 0 ([]:U aO).length)<|(iter (wF n a0 a1 a2 r4) n ((1:Int),([]:U aO))).bind λw2=>ck (aE (sub w2 0 w2.length).length w2.length)<|some (sub w2 0 w2.length)
def qJ(a2:(Bool×Bool×Unit)->J Bool)(r3:U bZ)(r4:U bZ)(r5:U bZ):Stp (Int×(List bZ)) (List bZ)
 |(v2,v3)=>(bif decide (v2<(r5.length:Int))then ck (cN v2 r5.length)<|(bo v3 ((0:Nat)+v2:Int)).bind λx1=>(WR n (sub r3 0 r3.length) x1.x0).bind λr6=>(WR n (sub r4 0 r4.length) x1.x0).bind λr7=>(Ip n r6 r7 a2).bind λr8=>ck (cN v2 r5.length)<|ck (aE (sub r8 0 r8.length).length r8.length)<|(bo v3 ((0:Nat)+v2:Int)).bind λx2=>some (.inl ((i64.wrap (v2+1)),(v3.set ((0:Nat)+v2:Int).toNat (bZ.mk x2.x0 x2.x1 (sub r8 0 r8.length)))))else some (.inr v3))
def EA(a0:U ax)(a1:U ax)(a2:(Bool×Bool×Unit)->J Bool):J ((List ax)×Int):=
 ((nX n a0).bind λr1=>(bif (!r1)then some true else(nX n a1).bind λr2=>some (!r2))).bind λv1=>(bif v1 then some (([]:(List ax)),(1:Int))else ck (aE (sub ([a0]:U (List ax)) 0 1).length 1)<|(oC n (sub ([a0]:U (List ax)) 0 1)).bind λr3=>ck (aE (sub ([a1]:U (List ax)) 0 1).length 1)<|(oC n (sub ([a1]:U (List ax)) 0 1)).bind λr4=>ck (aE (sub r3 0 r3.length).length r3.length)<|ck (aE (sub r4 0 r4.length).length r4.length)<|ck (aE (sub ([a0,a1]:U (List ax)) 0 2).length 2)<|(oC n (sub ([a0,a1]:U (List ax)) 0 2)).bind λr5=>(iter (qJ n a2 r3 r4 r5) n ((0:Int),r5)).bind λw1=>ck (aE (sub w1 0 r5.length).length r5.length)<|(Io n (sub w1 0 r5.length)).bind λr9=>ck (aE (sub r9 0 r9.length).length r9.length)<|(yR (sub r9 0 r9.length)).bind λuv=>some (uv.1,uv.2))
def xJ(a0:Bool)(a1:Bool):J Bool:=
 (bif a0 then some a1 else some false)
def C8(a0:U ax)(a1:U ax):J ((List ax)×Int):=
 (EA n a0 a1 (λ (y1:Bool×Bool×Unit)=>xJ y1.1 y1.2.1)).bind λr1=>some (r1.1,r1.2)
def EB(a0:U ax):Stp (Int×Int) Int
 |(v1,v2)=>(bif decide (v2<(a0.length:Int))then(bo a0 v2).bind λx1=>(pz x1).bind λr2=>some (.inl ((i64.wrap (v1+r2)),(i64.wrap (v2+1))))else some (.inr v1))
def JX(a0:U ax):J Int:=
 (nX n a0).bind λr1=>(bif (!r1)then some (0:Int)else(iter (EB a0) n ((0:Int),(0:Int))).bind λw1=>some w1)
def nL(a0:dn)(a1:Int):J (ax×Bool):=
 (CY n a0.area).bind λr1=>((bif (!r1.2)then some true else(bif decide (a1<0)then some true else some (decide (a1>20))))).bind λv1=>(bif v1 then some ((ax.mk 0 0 0 0),false)else(NP r1.1 a1).bind λr2=>(bif (!r2.2)then some ((ax.mk 0 0 0 0),false)else ck (aE (sub ([r2.1]:U ax) 0 1).length 1)<|(C8 n a0.area (sub ([r2.1]:U ax) 0 1)).bind λr3=>(bif (r3.2==0)then(JX n r3.1).bind λr4=>(pz r2.1).bind λr5=>some (r2.1,(r4==(r5:Int)))else some (r2.1,false))))
def we:tI xx SI.kw SI.eJ:=⟨(λ x=>x.lot),(λ x=>x.use),(λ x=>x.floors),(λ x=>x.iv),(λ x=>x.a0),(λ x=>x.a1),λ_=>rfl,λ_=>rfl⟩
def aiJ(a0:U bB)(a1:U (lu×Int)):J ((List bB)×(List (lu×Int))):=@mT xx SI.kw SI.eJ (inferInstance:Inhabited bB) we a0 a1
def lM(x1:dn)(v6:Int):Stp (Int×(List bB)) (List bB)
 |(v9,v10)=>(bif decide (v9<72)then ck (6 !=0)<|ck (6 !=0)<|ck (bR v10.length v10.length (sub ([(bB.mk x1.id (Int.tmod v9 6) (i64.wrap ((i64.wrap (Int.tdiv v9 6))+1)) v6)]:U bB) 0 1).length 1 32)<|iA (v10++(sub ([(bB.mk x1.id (Int.tmod v9 6) (i64.wrap ((i64.wrap (Int.tdiv v9 6))+1)) v6)]:U bB) 0 1)) λr3=>ck (aE r3.length r3.length)<|some (.inl ((i64.wrap (v9+1)),r3))else ck (aE v10.length v10.length)<|some (.inr v10))
def lN(x1:dn):Stp (Int×(List (lu×Int))×(List bB)) ((List (lu×Int))×(List bB))
 |(v6,v7,v8)=>(bif decide (v6<21)then((nL n x1 v6).bind λr1=>(bif (!r1.2)then ck (aE v8.length v8.length)<|some (v7,v8)else(pz r1.1).bind λr2=>ck (aE v8.length v8.length)<|(iter (lM x1 v6) n ((0:Int),v8)).bind λw1=>ck (aE w1.length w1.length)<|some ((oZ (HV (X:=xx) SI.eJ) (lu.mk x1.id v6) r2 v7),w1)):J ((List (lu×Int))×(List bB))).bind λ(v11,v12)=>ck (aE v12.length v12.length)<|some (.inl ((i64.wrap (v6+1)),v11,v12))else ck (aE v8.length v8.length)<|some (.inr (v7,v8)))
def lQ(a0:U dn):Stp (Int×(List (lu×Int))×(List (Int×Bool))×(List bB)) ((List (lu×Int))×(List bB))
 |(v1,v2,v3,v4)=>(bif decide (v1<(a0.length:Int))then((bo a0 v1).bind λx1=>((bif ((eX gd x1.id v3).getD false)then some true else(bif decide (x1.id<0)then some true else some (decide (x1.id>1073741824))))).bind λv5=>(bif v5 then ck (aE v4.length v4.length)<|some (v2,v3,v4)else ck (aE v4.length v4.length)<|(iter (lN n x1) n ((0:Int),v2,v4)).bind λ(w2,w3)=>ck (aE w3.length w3.length)<|some (w2,(oZ gd x1.id true v3),w3)):J ((List (lu×Int))×(List (Int×Bool))×(List bB))).bind λ(v13,v14,v15)=>ck (aE v15.length v15.length)<|some (.inl ((i64.wrap (v1+1)),v13,v14,v15))else ck (aE v4.length v4.length)<|some (.inr (v2,v4)))
def pF(a0:U dn):J (List bB):=
 ck (aE 0 ([]:U bB).length)<|(iter (lQ n a0) n ((0:Int),([]:(List (lu×Int))),([]:(List (Int×Bool))),([]:U bB))).bind λ(w4,w5)=>ck (aE w5.length w5.length)<|(aiJ w5 w4).bind λr4=>ck (aE (sub r4.1 0 w5.length).length w5.length)<|some (sub r4.1 0 w5.length)
def vJ(a0:dn)(a1:bB):J (bq×Bool):=
 (nL n a0 a1.iv).bind λr1=>((bif (!r1.2)then some true else(bif (a1.lot !=(a0.id:Int))then some true else(bif decide (a1.lot<0)then some true else(bif decide (a1.lot>1073741824)then some true else(bif decide (a1.use<0)then some true else(bif decide (a1.use>=6)then some true else(bif decide (a1.floors<1)then some true else some (decide (a1.floors>12)))))))))).bind λv1=>(bif v1 then some ((bq.mk 0 ([])),false)else((bif (a1.use==0)then some (r1.1.x0,r1.1.y0,r1.1.x1,r1.1.y1,(0:Int),(i64.wrap (a1.floors*3)),a1.use,a1.floors,false)else some (r1.1.x0,r1.1.y0,r1.1.x1,r1.1.y1,(0:Int),(i64.wrap (a1.floors*3)),a1.use,(0:Int),false)):J (Int×Int×Int×Int×Int×Int×Int×Int×Bool)).bind λ(v2,v3,v4,v5,v6,v7,v8,v9,v10)=>ck (aE (sub ([(aH.mk v2 v3 v4 v5 v6 v7 v8 v9 v10)]:U aH) 0 1).length 1)<|ck (aE (sub ([(tu.mk (sub ([(aH.mk v2 v3 v4 v5 v6 v7 v8 v9 v10)]:U aH) 0 1) ([]))]:U tu) 0 1).length 1)<|some ((bq.mk a1.lot (sub ([(tu.mk (sub ([(aH.mk v2 v3 v4 v5 v6 v7 v8 v9 v10)]:U aH) 0 1) ([]))]:U tu) 0 1)),true))
def Iq(a0:dn)(a1:bB):J bq:=
 (vJ n a0 a1).bind λr1=>some r1.1
def Bl(a0:U ax):J (List ax):=
 (bif a0.isEmpty then(both (some ([]:(List ax))) (ck (bR ([]:U ax).length 0 a0.length a0.length 32)<|iA (([]:U ax)++a0) λr1=>ck (aE (sub r1 0 r1.length).length r1.length)<|some (sub r1 0 r1.length)))else ck (bR ([]:U ax).length 0 a0.length a0.length 32)<|iA (([]:U ax)++a0) λr2=>ck (aE (sub r2 0 r2.length).length r2.length)<|some (sub r2 0 r2.length))
def EC(a0:U Int):J (List Int):=
 (bif a0.isEmpty then(both (some ([]:(List Int))) (ck (bR ([]:U Int).length 0 a0.length a0.length 8)<|iA (([]:U Int)++a0) λr1=>ck (aE (sub r1 0 r1.length).length r1.length)<|some (sub r1 0 r1.length)))else ck (bR ([]:U Int).length 0 a0.length a0.length 8)<|iA (([]:U Int)++a0) λr2=>ck (aE (sub r2 0 r2.length).length r2.length)<|some (sub r2 0 r2.length))
def NT(a0:dn):J dn:=
 (Bl a0.area).bind λr1=>(EC a0.from_).bind λr2=>ck (aE (sub r1 0 r1.length).length r1.length)<|ck (aE (sub r2 0 r2.length).length r2.length)<|some (dn.mk a0.id a0.owner (sub r1 0 r1.length) (sub r2 0 r2.length))
def ED(a0:U dn)(a1:Int):Stp Int (Unit⊕(dn×Bool))
 |v1=>(bif decide (v1<(a0.length:Int))then(bo a0 v1).bind λx1=>(bif (x1.id==(a1:Int))then(NT x1).bind λr1=>(some (r1,true)).map λa=> .inr (.inr a)else some (.inl (i64.wrap (v1+1))))else some (.inr (.inl ())))
def NU(a0:U dn)(a1:Int):J (dn×Bool):=
 dF (iter (ED a0 a1) n (0:Int)) λ()=>some ((dn.mk 0 0 ([]) ([])),false)
def nM(a0:bq)(a1:Int)(a2:Int):Stp (Int×(List aH)) (List aH)
 |(v1,v2)=>(bif decide (v1<(a0.phases.length:Int))then((bo a0.phases v1).bind λx1=>((bif decide (v1>=(a1:Int))then some (decide (v1<(a2:Int)))else some false)).bind λv3=>(bif v3 then ck (bR v2.length v2.length x1.cM.length x1.cM.length 72)<|iA (v2++x1.cM) λr1=>ck (aE r1.length r1.length)<|some r1 else ck (aE v2.length v2.length)<|some v2):J ((List aH))).bind λv4=>ck (aE v4.length v4.length)<|some (.inl ((i64.wrap (v1+1)),v4))else ck (aE v2.length v2.length)<|some (.inr v2))
def nY(a0:bq)(a1:Int)(a2:Int):J (List aH):=
 ck (aE 0 ([]:U aH).length)<|(iter (nM a0 a1 a2) n ((0:Int),([]:U aH))).bind λw1=>ck (aE (sub w1 0 w1.length).length w1.length)<|some (sub w1 0 w1.length)
def wG(a0:bq):J (List aH):=
 (nY n a0 0 (a0.phases.length:Int)).bind λr1=>ck (aE (sub r1 0 r1.length).length r1.length)<|some (sub r1 0 r1.length)
def fU(a0:aH):J Bool:=
 ((nI (ax.mk a0.bz a0.cC a0.bx a0.cz)).bind λr1=>(bif (!r1)then some true else(bif decide (a0.eM<0)then some true else(bif decide (a0.eM>=(a0.ep:Int))then some true else some (decide (a0.ep>4096)))))).bind λv1=>(bif v1 then some false else((bif (a0.use !=0)then some (a0.units !=0)else some false)).bind λv2=>(bif v2 then some false else(bif decide (a0.use>=0)then(bif decide (a0.use<6)then(bif decide (a0.units>=0)then some (decide (a0.units<=1048576))else some false)else some false)else some false)))
def xK(a0:D3)(a1:D3):J Bool:=
 (sj (ax.mk a0.oS a0.oE a0.oR a0.oB) (ax.mk a1.oS a1.oE a1.oR a1.oB)).bind λr1=>(bif r1.2 then(bif decide (a0.z0<(a1.z1:Int))then some (decide (a1.z0<(a0.z1:Int)))else some false)else some false)
def rq(a0:aH)(a1:aH):J Bool:=
 (xK (D3.mk a1.bz a1.cC a1.bx a1.cz a1.eM a1.ep) (D3.mk a0.bz a0.cC a0.bx a0.cz a0.eM a0.ep)).bind λr1=>some r1
def EF(a0:U aH)(a1:(aH×Unit)->J Bool):Stp Int (Unit⊕Int)
 |v1=>(bif decide (v1<(a0.length:Int))then(bo a0 v1).bind λx1=>(a1 (x1,())).bind λr1=>(bif r1 then(some v1).map λa=> .inr (.inr a)else some (.inl (i64.wrap (v1+1))))else some (.inr (.inl ())))
def qw(a0:U aH)(a1:(aH×Unit)->J Bool):J Int:=
 dF (iter (EF a0 a1) n (0:Int)) λ()=>some ((-1):Int)
def fK(a0:U aH)(a1:(aH×Unit)->J Bool):J Bool:=
 (qw n a0 a1).bind λr1=>some (decide (r1>=0))
def EG(a0:Int):J Bool:=
 (bif decide (a0>=97)then some (decide (a0<=122))else some false)
def Ak(a0:ByteArray)(a1:(Int×Unit)->J Bool):Stp Int Int
 |v1=>((bif decide (v1<(a0.size:Int))then(RA a0 v1).bind λx1=>(a1 (x1,())).bind λr1=>some r1 else some false)).bind λv2=>(bif v2 then some (.inl (i64.wrap (v1+1)))else some (.inr v1))
def NV(a0:ByteArray)(a1:(Int×Unit)->J Bool):J Int:=
 (iter (Ak a0 a1) n (0:Int)).bind λw1=>some w1
def Qd(a0:Int):J Bool:=
 (bif decide (a0>=48)then some (decide (a0<=57))else some false)
def Al(a0:Int):J Bool:=
 (EG a0).bind λr1=>(bif r1 then some true else(Qd a0).bind λr2=>some r2)
def NW(a0:ByteArray):J Bool:=
 ((bif (ByteArray.toList a0==ByteArray.toList (⟨#[]⟩))then some true else(RA a0 0).bind λx1=>(EG x1).bind λr1=>(bif (!r1)then some true else some (decide ((a0.size:Int)>20))))).bind λv1=>(bif v1 then some false else(NV n a0 (λ (y1:Int×Unit)=>Al y1.1)).bind λr2=>some (r2==(a0.size:Int)))
def strings_Contains(a0 a1:ByteArray):J Bool:=ck (Nat.ble a0.size 4000000)<|some (Lib.contains a0.data.toList a1.data.toList)
def wH(a0:ByteArray):J Bool:=
 (NW n a0).bind λr1=>(bif r1 then ck (Vr (⟨#[32]⟩) a0)<|ck (Vr ((⟨#[32]⟩)++a0) (⟨#[32]⟩))<|(strings_Contains (⟨#[32,97,110,100,32,97,112,97,114,116,32,98,97,115,101,32,99,97,112,32,100,101,102,105,110,101,32,101,108,115,101,32,101,120,99,101,112,116,32,102,114,111,109,32,103,114,97,99,101,32,104,111,117,114,115,32,105,102,32,105,110,32,108,101,97,115,116,32,110,111,116,32,111,114,32,111,118,101,114,108,97,121,32,112,108,97,110,101,32,114,117,108,101,32,115,108,111,112,101,32,115,117,110,32,116,97,98,108,101,32,116,104,101,110,32,117,110,116,105,108,32,117,115,101,115,32,118,97,114,121,32,118,105,101,119,32,122,111,110,101,32]⟩) (((⟨#[32]⟩)++a0)++(⟨#[32]⟩))).bind λr2=>some (!r2)else some false)
def kQ(r1:U aH):Stp Int (Unit⊕Bool)
 |v2=>(bif decide (v2<(r1.length:Int))then ck (cN v2 r1.length)<|(bo r1 ((0:Nat)+v2:Int)).bind λx1=>((fU x1).bind λr2=>(bif (!r2)then some true else ck (yE 0 v2 r1.length)<|ck (aE (sub r1 0 ((v2:Int).toNat)).length ((v2:Int).toNat))<|(fK n (sub r1 0 ((v2:Int).toNat)) (λ (y1:aH×Unit)=>rq y1.1 x1)).bind λr3=>some r3)).bind λv3=>(bif v3 then(some false).map λa=> .inr (.inr a)else some (.inl (i64.wrap (v2+1))))else some (.inr (.inl ())))
def kR(x2:tu):Stp (Int×(List (ByteArray×Bool))) (Unit⊕(Int⊕(Unit⊕Bool)))
 |(v5,v6)=>(bif decide (v5<(x2.gives.length:Int))then(bo x2.gives v5).bind λx3=>((bif ((eX lw x3.name v6).getD false)then some true else(wH n x3.name).bind λr4=>(bif (!r4)then some true else(bif decide (x3.n<0)then some true else some (decide (x3.n>1073741824)))))).bind λv7=>(bif v7 then((some false).map λa=> .inr (.inr a)).map λa=> .inr (.inr a)else some (.inl ((i64.wrap (v5+1)),(oZ lw x3.name true v6))))else some (.inr (.inl ())))
def kS(a0:bq):Stp Int (Unit⊕Bool)
 |v4=>(bif decide (v4<(a0.phases.length:Int))then(bo a0.phases v4).bind λx2=>dF (iter (kR n x2) n ((0:Int),([]:(List (ByteArray×Bool))))) λ()=>(bif decide ((x2.gives.length:Int)>30)then(some false).map λa=> .inr (.inr a)else some (.inl (i64.wrap (v4+1))))else some (.inr (.inl ())))
def xL(a0:bq):J Bool:=
 (wG n a0).bind λr1=>((bif decide (a0.lot<0)then some true else(bif decide (a0.lot>1073741824)then some true else(bif decide ((a0.phases.length:Int)<1)then some true else(bif decide ((a0.phases.length:Int)>8)then some true else(bif decide ((r1.length:Int)<1)then some true else some (decide ((r1.length:Int)>40)))))))).bind λv1=>(bif v1 then some false else dF (iter (kQ n r1) n (0:Int)) λ()=>dF (iter (kS n a0) n (0:Int)) λ()=>some true)
def uZ(a0:gq)(a1:bW):J Bool:=
 some (ByteArray.toList a0.name==ByteArray.toList a1.name)
def Kj(a0:U gq)(a1:(gq×Unit)->J Bool):Stp Int (Unit⊕Int)
 |v1=>(bif decide (v1<(a0.length:Int))then(bo a0 v1).bind λx1=>(a1 (x1,())).bind λr1=>(bif r1 then(some v1).map λa=> .inr (.inr a)else some (.inl (i64.wrap (v1+1))))else some (.inr (.inl ())))
def u6(a0:U gq)(a1:(gq×Unit)->J Bool):J Int:=
 dF (iter (Kj a0 a1) n (0:Int)) λ()=>some ((-1):Int)
def mO(a0:U gq)(a1:(gq×Unit)->J Bool):J Bool:=
 (u6 n a0 a1).bind λr1=>some (decide (r1>=0))
def jS(a1:dn)(r3:U aH):Stp Int (Unit⊕Bool)
 |v2=>(bif decide (v2<(r3.length:Int))then ck (cN v2 r3.length)<|(bo r3 ((0:Nat)+v2:Int)).bind λx1=>ck (aE (sub ([(ax.mk x1.bz x1.cC x1.bx x1.cz)]:U ax) 0 1).length 1)<|(C8 n a1.area (sub ([(ax.mk x1.bz x1.cC x1.bx x1.cz)]:U ax) 0 1)).bind λr4=>((bif (r4.2 !=0)then some true else(JX n r4.1).bind λr5=>(pz (ax.mk x1.bz x1.cC x1.bx x1.cz)).bind λr6=>some (decide (r5<(r6:Int))))).bind λv3=>(bif v3 then(some false).map λa=> .inr (.inr a)else some (.inl (i64.wrap (v2+1))))else some (.inr (.inl ())))
def jT(a0:bQ)(x2:tu):Stp Int (Unit⊕(Int⊕(Unit⊕Bool)))
 |v5=>(bif decide (v5<(x2.gives.length:Int))then(bo x2.gives v5).bind λx3=>(mO n a0.caps (λ (y1:gq×Unit)=>uZ y1.1 x3)).bind λr7=>(bif (!r7)then((some false).map λa=> .inr (.inr a)).map λa=> .inr (.inr a)else some (.inl (i64.wrap (v5+1))))else some (.inr (.inl ())))
def jU(a0:bQ)(a2:bq):Stp Int (Unit⊕Bool)
 |v4=>(bif decide (v4<(a2.phases.length:Int))then(bo a2.phases v4).bind λx2=>dF (iter (jT n a0 x2) n (0:Int)) λ()=>some (.inl (i64.wrap (v4+1)))else some (.inr (.inl ())))
def oF(a0:bQ)(a1:dn)(a2:bq):J Bool:=
 ((xL n a2).bind λr1=>(bif (!r1)then some true else(bif (a1.id !=(a2.lot:Int))then some true else(nX n a1.area).bind λr2=>some (!r2)))).bind λv1=>(bif v1 then some false else(wG n a2).bind λr3=>dF (iter (jS n a1 r3) n (0:Int)) λ()=>dF (iter (jU n a0 a2) n (0:Int)) λ()=>some true)
def oO(a0:bq):Stp (Int×(List aH)) (List aH)
 |(v1,v2)=>(bif decide (v1<(a0.phases.length:Int))then(bo a0.phases v1).bind λx1=>ck (bR v2.length v2.length x1.cM.length x1.cM.length 72)<|iA (v2++x1.cM) λr1=>ck (aE r1.length r1.length)<|some (.inl ((i64.wrap (v1+1)),r1))else ck (aE v2.length v2.length)<|some (.inr v2))
def tO(a0:bq):J (List aH):=
 ck (aE 0 ([]:U aH).length)<|(iter (oO a0) n ((0:Int),([]:U aH))).bind λw1=>ck (aE (sub w1 0 w1.length).length w1.length)<|some (sub w1 0 w1.length)
def Am(a0:bU)(a1:bq):J (mh×Int):=
 (NU n a0.land a1.lot).bind λr1=>(bif (!r1.2)then some ((mh.mk ([]) ([]) ([]) ([]) ([]) ([]) ([]) 0 ([]) ([]) ([]) ([]) ([]) 0 0 ([]) ([]) 0 ([]) ([]) ([])),(4:Int))else(oF n (bQ.mk a0.cm a0.br a0.bu a0.az a0.cw a0.b9 a0.cE a0.ca) r1.1 a1).bind λr2=>(bif (!r2)then some ((mh.mk ([]) ([]) ([]) ([]) ([]) ([]) ([]) 0 ([]) ([]) ([]) ([]) ([]) 0 0 ([]) ([]) 0 ([]) ([]) ([])),(1:Int))else(tO n a1).bind λr3=>(sD n (bQ.mk a0.cm a0.br a0.bu a0.az a0.cw a0.b9 a0.cE a0.ca) r1.1.area).bind λr4=>ck (aE (sub r3 0 r3.length).length r3.length)<|ck (aE (sub r4 0 r4.length).length r4.length)<|some ((mh.mk a0.cm a0.br a0.bu a0.az a0.cw a0.b9 a0.cE a0.ca a0.land a0.cx a0.windows a0.built a0.base r1.1.id r1.1.owner r1.1.area r1.1.from_ a1.lot a1.phases (sub r3 0 r3.length) (sub r4 0 r4.length)),(0:Int))))
def u7(_:Nat)(a0:U ax)(a1:(ax×ax×Unit)->J Int):J (List ax):=GW a0 a1
def iH(a0:ax)(a1:ax):J Int:=
 (cmp_Compare_int a0.y0 a1.y0).bind λr1=>some r1
def kT(a0:aH):J Int:=
 ((bif a0.extra then some true else(fU a0).bind λr1=>some (!r1))).bind λv1=>(bif v1 then some (0:Int)else ck (3 !=0)<|some (i64.wrap (Int.tdiv (i64.wrap ((i64.wrap ((i64.wrap (a0.ep -a0.eM))+3)) -1)) 3)))
def oG(a0:aH):J Int:=
 (fU a0).bind λr1=>(bif (!r1)then some (0:Int)else(pz (ax.mk a0.bz a0.cC a0.bx a0.cz)).bind λr2=>(kT a0).bind λr3=>some (i64.wrap (r2*r3)))
def nN(a0:aH):J Int:=
 some a0.ep
def oK(a0:aH):J Int:=
 some a0.units
def Bn(a0:ax)(a1:Int):J (ax×Bool):=
 (nI (ax.mk (i64.wrap (a0.x0 -a1)) (i64.wrap (a0.y0 -a1)) (i64.wrap (a0.x1+a1)) (i64.wrap (a0.y1+a1)))).bind λr1=>some ((ax.mk (i64.wrap (a0.x0 -a1)) (i64.wrap (a0.y0 -a1)) (i64.wrap (a0.x1+a1)) (i64.wrap (a0.y1+a1))),r1)
def j6(a0:bW)(a1:JV)(a2:Int):J Bool:=
 ck (cN a2 6)<|(bo ([a1.a0,a1.a1,a1.a2,a1.a3,a1.a4,a1.a5]:U ByteArray) a2).bind λx1=>some (ByteArray.toList a0.name==ByteArray.toList x1)
def FW(a0:U bW)(a1:(bW×Unit)->J Bool):Stp Int (Unit⊕Int)
 |v1=>(bif decide (v1<(a0.length:Int))then(bo a0 v1).bind λx1=>(a1 (x1,())).bind λr1=>(bif r1 then(some v1).map λa=> .inr (.inr a)else some (.inl (i64.wrap (v1+1))))else some (.inr (.inl ())))
def kg(a0:U bW)(a1:(bW×Unit)->J Bool):J Int:=
 dF (iter (FW a0 a1) n (0:Int)) λ()=>some ((-1):Int)
def ko(a0:bQ)(a1:Int):Stp Int (Unit⊕Int)
 |v1=>(bif decide (v1<(a0.tables.length:Int))then(bo a0.tables v1).bind λx1=>(bif (!(ByteArray.toList x1.name==ByteArray.toList (⟨#[116,114,97,102,102,105,99]⟩)))then some (.inl (i64.wrap (v1+1)))else((kg n x1.rows (λ (y1:bW×Unit)=>j6 y1.1 (JV.mk (⟨#[104,111,109,101]⟩) (⟨#[115,104,111,112]⟩) (⟨#[119,111,114,107]⟩) (⟨#[112,97,114,107]⟩) (⟨#[112,108,97,110,116]⟩) (⟨#[104,97,108,108]⟩)) a1)).bind λr1=>(bif decide (r1>=0)then(bo x1.rows r1).bind λx2=>some x2.n else some x1.sn):J Int).bind λv2=>(some (max (0:Int) (min v2 (1048576:Int)))).map λa=> .inr (.inr a))else some (.inr (.inl ())))
def Ao(a0:bQ)(a1:Int):J Int:=
 dF (iter (ko n a0 a1) n (0:Int)) λ()=>some (0:Int)
def kU(a0:bQ)(a1:aH):J Int:=
 (Ao n a0 a1.use).bind λr1=>(oG a1).bind λr2=>((bif decide (r1>0)then ck (r1 !=0)<|some (decide (r2>((i64.wrap (Int.tdiv 109951162777600 r1)):Int)))else some false)).bind λv1=>(bif v1 then some (1099511627776:Int)else ck (100 !=0)<|some (i64.wrap (Int.tdiv (i64.wrap ((i64.wrap ((i64.wrap (r1*r2))+100)) -1)) 100)))
def mQ(a0:U eu)(a1:U cZ)(a2:U dL)(a3:U bP)(a4:U gq)(a5:U fu)(a6:U cB)(a7:Int)(a8:U ax)(a9:U aH):J (Int×gM):=
 (JX n a8).bind λr1=>ck (aE a9.length a9.length)<|some (r1,a0,a1,a2,a3,a4,a5,a6,a7,a8,a9)
def gu(a9:U aH):Stp (Int×(List ax)×(List Int)) ((List ax)×(List Int))
 |(v1,v2,v3)=>(bif decide (v1<(a9.length:Int))then ck (cN v1 a9.length)<|(bo a9 ((0:Nat)+v1:Int)).bind λx1=>ck (cN v1 ((a9.length:Int).toNat))<|(bo v2 ((0:Nat)+v1:Int)).bind λx2=>ck (cN v1 ((a9.length:Int).toNat))<|(bo (v2.set ((0:Nat)+v1:Int).toNat (ax.mk x1.bz x1.cC x1.bx x1.cz)) ((0:Nat)+v1:Int)).bind λx3=>ck (cN v1 ((a9.length:Int).toNat))<|(bo (v2.set ((0:Nat)+v1:Int).toNat (ax.mk x1.bz x1.cC x1.bx x1.cz)) ((0:Nat)+v1:Int)).bind λx4=>ck (bR v3.length v3.length (sub ([x3.x0,x4.x1]:U Int) 0 2).length 2 8)<|iA (v3++(sub ([x3.x0,x4.x1]:U Int) 0 2)) λr1=>ck (aE r1.length r1.length)<|some (.inl ((i64.wrap (v1+1)),(v2.set ((0:Nat)+v1:Int).toNat (ax.mk x1.bz x1.cC x1.bx x1.cz)),r1))else ck (aE v3.length v3.length)<|some (.inr (v2,v3)))
def iU(a9:U aH)(w2:U Int)(r2:U ax)(r3:U Int)(v5:Int):Stp (Int×Int×Int) Int
 |(v6,v7,v8)=>(bif (decide (v8<((((a9.length:Int).toNat:Nat):Int):Int)))then(ck (cN v8 ((a9.length:Int).toNat))<|(bo r2 ((0:Nat)+v8:Int)).bind λx5=>(ck (cN v5 w2.length)<|(bo r3 ((0:Nat)+v5:Int)).bind λx6=>(bif decide (x5.x0<=(x6:Int))then ck (cN v5 w2.length)<|(bo r3 ((0:Nat)+v5:Int)).bind λx7=>(bif decide (x7<(x5.x1:Int))then some (decide (x5.y1>(v7:Int)))else some false)else some false)).bind λv9=>(bif v9 then ck (cN (i64.wrap (v5+1)) w2.length)<|(bo r3 ((0:Nat)+(i64.wrap (v5+1)):Int)).bind λx8=>ck (cN v5 w2.length)<|(bo r3 ((0:Nat)+v5:Int)).bind λx9=>some ((i64.wrap (v6+(i64.wrap ((i64.wrap (x8 -x9))*(i64.wrap (x5.y1 -(max v7 x5.y0))))))),x5.y1)else some (v6,v7)):J (Int×Int)).bind λ(v10,v11)=>some (.inl (v10,v11,(i64.wrap (v8+1))))else some (.inr v6))
def iV(a9:U aH)(w2:U Int)(r2:U ax)(r3:U Int):Stp (Int×Int) Int
 |(v4,v5)=>(bif (decide (v5<((max (0:Int) (i64.wrap ((w2.length:Int) -1))):Int)))then(iter (iU a9 w2 r2 r3 v5) n (v4,(0:Int),(0:Int))).bind λw3=>some (.inl (w3,(i64.wrap (v5+1))))else some (.inr v4))
def iJ(a0:U eu)(a1:U cZ)(a2:U dL)(a3:U bP)(a4:U gq)(a5:U fu)(a6:U cB)(a7:Int)(a8:U ax)(a9:U aH):J (Int×gM):=
 ck (decide ((a9.length:Int)<=(a9.length:Int))&&(decide (0<=(a9.length:Int))&&xA (a9.length:Int) 32))<|ck (aE 0 ([]:U Int).length)<|(iter (gu a9) n ((0:Int),(List.replicate (a9.length:Int).toNat (ax.mk 0 0 0 0)),([]:U Int))).bind λ(w1,w2)=>ck (aE ((a9.length:Int).toNat) w1.length)<|(u7 n w1 (λ (y1:ax×ax×Unit)=>iH y1.1 y1.2.1)).bind λr2=>ck (aE w2.length w2.length)<|(pq n w2).bind λr3=>(iter (iV n a9 w2 r2 r3) n ((0:Int),(0:Int))).bind λw4=>ck (aE a9.length a9.length)<|some (w4,a0,a1,a2,a3,a4,a5,a6,a7,a8,a9)
def jE(a9:U aH):Stp (Int×Int) Int
 |(v1,v2)=>(bif decide (v2<(a9.length:Int))then ck (cN v2 a9.length)<|(bo a9 ((0:Nat)+v2:Int)).bind λx1=>(oG x1).bind λr1=>some (.inl ((i64.wrap (v1+r1)),(i64.wrap (v2+1))))else some (.inr v1))
def qx(a0:U eu)(a1:U cZ)(a2:U dL)(a3:U bP)(a4:U gq)(a5:U fu)(a6:U cB)(a7:Int)(a8:U ax)(a9:U aH):J (Int×gM):=
 (iter (jE a9) n ((0:Int),(0:Int))).bind λw1=>ck (aE a9.length a9.length)<|some (w1,a0,a1,a2,a3,a4,a5,a6,a7,a8,a9)
def kE(a0:U eu)(a1:U cZ)(a2:U dL)(a3:U bP)(a4:U gq)(a5:U fu)(a6:U cB)(a7:Int)(a8:U ax)(a9:U aH):J (Int×gM):=
 ck (aE a9.length a9.length)<|(qx n a0 a1 a2 a3 a4 a5 a6 a7 a8 a9).bind λr1=>ck (aE r1.2.2.2.2.2.2.2.2.2.2.length r1.2.2.2.2.2.2.2.2.2.2.length)<|some (r1.1,r1.2.1,r1.2.2.1,r1.2.2.2.1,r1.2.2.2.2.1,r1.2.2.2.2.2.1,r1.2.2.2.2.2.2.1,r1.2.2.2.2.2.2.2.1,r1.2.2.2.2.2.2.2.2.1,r1.2.2.2.2.2.2.2.2.2.1,r1.2.2.2.2.2.2.2.2.2.2)
def gQ(a9:U aH):Stp (Int×Int) Int
 |(v1,v2)=>(bif decide (v2<(a9.length:Int))then ck (cN v2 a9.length)<|(bo a9 ((0:Nat)+v2:Int)).bind λx1=>(kT x1).bind λr1=>some (.inl ((max v1 r1),(i64.wrap (v2+1))))else some (.inr v1))
def mD(a0:U eu)(a1:U cZ)(a2:U dL)(a3:U bP)(a4:U gq)(a5:U fu)(a6:U cB)(a7:Int)(a8:U ax)(a9:U aH):J (Int×gM):=
 (iter (gQ a9) n ((0:Int),(0:Int))).bind λw1=>ck (aE a9.length a9.length)<|some (w1,a0,a1,a2,a3,a4,a5,a6,a7,a8,a9)
def jF(a0:U eu)(a1:U cZ)(a2:U dL)(a3:U bP)(a4:U gq)(a5:U fu)(a6:U cB)(a7:Int)(a8:U ax)(a9:U aH):J (Int×gM):=
 ck (aE a9.length a9.length)<|(mD n a0 a1 a2 a3 a4 a5 a6 a7 a8 a9).bind λr1=>ck (aE r1.2.2.2.2.2.2.2.2.2.2.length r1.2.2.2.2.2.2.2.2.2.2.length)<|some (r1.1,r1.2.1,r1.2.2.1,r1.2.2.2.1,r1.2.2.2.2.1,r1.2.2.2.2.2.1,r1.2.2.2.2.2.2.1,r1.2.2.2.2.2.2.2.1,r1.2.2.2.2.2.2.2.2.1,r1.2.2.2.2.2.2.2.2.2.1,r1.2.2.2.2.2.2.2.2.2.2)
def gT(a9:U aH):Stp (Int×Int) Int
 |(v1,v2)=>(bif decide (v2<(a9.length:Int))then ck (cN v2 a9.length)<|(bo a9 ((0:Nat)+v2:Int)).bind λx1=>(nN x1).bind λr1=>some (.inl ((max v1 r1),(i64.wrap (v2+1))))else some (.inr v1))
def mE(a0:U eu)(a1:U cZ)(a2:U dL)(a3:U bP)(a4:U gq)(a5:U fu)(a6:U cB)(a7:Int)(a8:U ax)(a9:U aH):J (Int×gM):=
 (iter (gT a9) n ((0:Int),(0:Int))).bind λw1=>ck (aE a9.length a9.length)<|some (w1,a0,a1,a2,a3,a4,a5,a6,a7,a8,a9)
def jG(a0:U eu)(a1:U cZ)(a2:U dL)(a3:U bP)(a4:U gq)(a5:U fu)(a6:U cB)(a7:Int)(a8:U ax)(a9:U aH):J (Int×gM):=
 ck (aE a9.length a9.length)<|(mE n a0 a1 a2 a3 a4 a5 a6 a7 a8 a9).bind λr1=>ck (aE r1.2.2.2.2.2.2.2.2.2.2.length r1.2.2.2.2.2.2.2.2.2.2.length)<|some (r1.1,r1.2.1,r1.2.2.1,r1.2.2.2.1,r1.2.2.2.2.1,r1.2.2.2.2.2.1,r1.2.2.2.2.2.2.1,r1.2.2.2.2.2.2.2.1,r1.2.2.2.2.2.2.2.2.1,r1.2.2.2.2.2.2.2.2.2.1,r1.2.2.2.2.2.2.2.2.2.2)
def jH(a9:U aH):Stp (Int×Int) Int
 |(v1,v2)=>(bif decide (v2<(a9.length:Int))then ck (cN v2 a9.length)<|(bo a9 ((0:Nat)+v2:Int)).bind λx1=>(oK x1).bind λr1=>some (.inl ((i64.wrap (v1+r1)),(i64.wrap (v2+1))))else some (.inr v1))
def qy(a0:U eu)(a1:U cZ)(a2:U dL)(a3:U bP)(a4:U gq)(a5:U fu)(a6:U cB)(a7:Int)(a8:U ax)(a9:U aH):J (Int×gM):=
 (iter (jH a9) n ((0:Int),(0:Int))).bind λw1=>ck (aE a9.length a9.length)<|some (w1,a0,a1,a2,a3,a4,a5,a6,a7,a8,a9)
def kF(a0:U eu)(a1:U cZ)(a2:U dL)(a3:U bP)(a4:U gq)(a5:U fu)(a6:U cB)(a7:Int)(a8:U ax)(a9:U aH):J (Int×gM):=
 ck (aE a9.length a9.length)<|(qy n a0 a1 a2 a3 a4 a5 a6 a7 a8 a9).bind λr1=>ck (aE r1.2.2.2.2.2.2.2.2.2.2.length r1.2.2.2.2.2.2.2.2.2.2.length)<|some (r1.1,r1.2.1,r1.2.2.1,r1.2.2.2.1,r1.2.2.2.2.1,r1.2.2.2.2.2.1,r1.2.2.2.2.2.2.1,r1.2.2.2.2.2.2.2.1,r1.2.2.2.2.2.2.2.2.1,r1.2.2.2.2.2.2.2.2.2.1,r1.2.2.2.2.2.2.2.2.2.2)
def iE(km:U ax)(r1:ax×Bool):Stp (Int×Int) Int
 |(v1,v2)=>(bif decide (v2<(km.length:Int))then((bo km v2).bind λx1=>(sj r1.1 x1).bind λr2=>(bif r2.2 then(pz r2.1).bind λr3=>some (i64.wrap (v1+r3))else some v1):J Int).bind λv3=>some (.inl (v3,(i64.wrap (v2+1))))else some (.inr v1))
def jI(a0:ax)(a1:Int)(a2:U eu)(a3:U cZ)(a4:U dL)(a5:U bP)(a6:U gq)(a7:U fu)(a8:U cB)(a9:Int)(km:U ax)(tg:U aH):J (Bool×gM):=
 (Bn a0 a1).bind λr1=>(bif (!r1.2)then ck (aE tg.length tg.length)<|some (false,a2,a3,a4,a5,a6,a7,a8,a9,km,tg)else(iter (iE km r1) n ((0:Int),(0:Int))).bind λw1=>(pz r1.1).bind λr4=>ck (aE tg.length tg.length)<|some ((w1==(r4:Int)),a2,a3,a4,a5,a6,a7,a8,a9,km,tg))
def eZ(x1:aH):Stp (Int×Int×gM) (Int×gM)
 |(v13,v14,v15,v16,v17,v18,v19,v20,v21,v22,v23,v24)=>(bif decide (v13<(v14:Int))then ck (2 !=0)<|ck (aE v24.length v24.length)<|(jI n (ax.mk x1.bz x1.cC x1.bx x1.cz) (i64.wrap (Int.tdiv (i64.wrap ((i64.wrap (v13+v14))+1)) 2)) v15 v16 v17 v18 v19 v20 v21 v22 v23 v24).bind λr1=>(bif r1.1 then ck (aE r1.2.2.2.2.2.2.2.2.2.2.length r1.2.2.2.2.2.2.2.2.2.2.length)<|some (.inl ((i64.wrap (Int.tdiv (i64.wrap ((i64.wrap (v13+v14))+1)) 2)),v14,r1.2.1,r1.2.2.1,r1.2.2.2.1,r1.2.2.2.2.1,r1.2.2.2.2.2.1,r1.2.2.2.2.2.2.1,r1.2.2.2.2.2.2.2.1,r1.2.2.2.2.2.2.2.2.1,r1.2.2.2.2.2.2.2.2.2.1,r1.2.2.2.2.2.2.2.2.2.2))else ck (aE r1.2.2.2.2.2.2.2.2.2.2.length r1.2.2.2.2.2.2.2.2.2.2.length)<|some (.inl (v13,(i64.wrap ((i64.wrap (Int.tdiv (i64.wrap ((i64.wrap (v13+v14))+1)) 2)) -1)),r1.2.1,r1.2.2.1,r1.2.2.2.1,r1.2.2.2.2.1,r1.2.2.2.2.2.1,r1.2.2.2.2.2.2.1,r1.2.2.2.2.2.2.2.1,r1.2.2.2.2.2.2.2.2.1,r1.2.2.2.2.2.2.2.2.2.1,r1.2.2.2.2.2.2.2.2.2.2)))else ck (aE v24.length v24.length)<|some (.inr (v13,v15,v16,v17,v18,v19,v20,v21,v22,v23,v24)))
def ic(a9:U aH):Stp (Int×Int×gM) (Int×gM)
 |(v1,v2,v3,v4,v5,v6,v7,v8,v9,v10,v11,v12)=>(bif decide (v2<(a9.length:Int))then ck (cN v2 a9.length)<|(bo v12 ((0:Nat)+v2:Int)).bind λx1=>ck (aE v12.length v12.length)<|(iter (eZ n x1) n ((0:Int),v1,v3,v4,v5,v6,v7,v8,v9,v10,v11,v12)).bind λ(w1,w2,w3,w4,w5,w6,w7,w8,w9,AW,AS)=>ck (aE AS.length AS.length)<|some (.inl (w1,(i64.wrap (v2+1)),w2,w3,w4,w5,w6,w7,w8,w9,AW,AS))else ck (aE v12.length v12.length)<|some (.inr (v1,v3,v4,v5,v6,v7,v8,v9,v10,v11,v12)))
def jg(a0:U eu)(a1:U cZ)(a2:U dL)(a3:U bP)(a4:U gq)(a5:U fu)(a6:U cB)(a7:Int)(a8:U ax)(a9:U aH):J (Int×gM):=
 ck (aE a9.length a9.length)<|(iter (ic n a9) n ((1048576:Int),(0:Int),a0,a1,a2,a3,a4,a5,a6,a7,a8,a9)).bind λ(w12,w13,w14,w15,w16,w17,w18,w19,w20,w21,Q1)=>ck (aE Q1.length Q1.length)<|some (w12,w13,w14,w15,w16,w17,w18,w19,w20,w21,Q1)
def kr(a0:aH)(a1:U eu)(a2:U cZ)(a3:U dL)(a4:U bP)(a5:U gq)(a6:U fu)(a7:U cB)(a8:Int)(a9:U ax)(km:U aH):J (Int×gM):=
 (kU n (bQ.mk a1 a2 a3 a4 a5 a6 a7 a8) a0).bind λr1=>ck (aE km.length km.length)<|some (r1,a1,a2,a3,a4,a5,a6,a7,a8,a9,km)
def jJ(a9:U aH):Stp (Int×Int×gM) (Int×gM)
 |(v1,v2,v3,v4,v5,v6,v7,v8,v9,v10,v11,v12)=>(bif decide (v2<(a9.length:Int))then ck (cN v2 a9.length)<|(bo v12 ((0:Nat)+v2:Int)).bind λx1=>ck (aE v12.length v12.length)<|(kr n x1 v3 v4 v5 v6 v7 v8 v9 v10 v11 v12).bind λr1=>ck (aE r1.2.2.2.2.2.2.2.2.2.2.length r1.2.2.2.2.2.2.2.2.2.2.length)<|some (.inl ((i64.wrap (v1+r1.1)),(i64.wrap (v2+1)),r1.2.1,r1.2.2.1,r1.2.2.2.1,r1.2.2.2.2.1,r1.2.2.2.2.2.1,r1.2.2.2.2.2.2.1,r1.2.2.2.2.2.2.2.1,r1.2.2.2.2.2.2.2.2.1,r1.2.2.2.2.2.2.2.2.2.1,r1.2.2.2.2.2.2.2.2.2.2))else ck (aE v12.length v12.length)<|some (.inr (v1,v3,v4,v5,v6,v7,v8,v9,v10,v11,v12)))
def qz(a0:U eu)(a1:U cZ)(a2:U dL)(a3:U bP)(a4:U gq)(a5:U fu)(a6:U cB)(a7:Int)(a8:U ax)(a9:U aH):J (Int×gM):=
 ck (aE a9.length a9.length)<|(iter (jJ n a9) n ((0:Int),(0:Int),a0,a1,a2,a3,a4,a5,a6,a7,a8,a9)).bind λ(w1,w2,w3,w4,w5,w6,w7,w8,w9,AW,AS)=>ck (aE AS.length AS.length)<|some (w1,w2,w3,w4,w5,w6,w7,w8,w9,AW,AS)
def jh(a0:U eu)(a1:U cZ)(a2:U dL)(a3:U bP)(a4:U gq)(a5:U fu)(a6:U cB)(a7:Int)(a8:U ax)(a9:U aH):J (Int×gM):=
 ck (aE a9.length a9.length)<|(qz n a0 a1 a2 a3 a4 a5 a6 a7 a8 a9).bind λr1=>ck (aE r1.2.2.2.2.2.2.2.2.2.2.length r1.2.2.2.2.2.2.2.2.2.2.length)<|some (r1.1,r1.2.1,r1.2.2.1,r1.2.2.2.1,r1.2.2.2.2.1,r1.2.2.2.2.2.1,r1.2.2.2.2.2.2.1,r1.2.2.2.2.2.2.2.1,r1.2.2.2.2.2.2.2.2.1,r1.2.2.2.2.2.2.2.2.2.1,r1.2.2.2.2.2.2.2.2.2.2)
def qK(r2:U aH):Stp (Int×gM) (gM)
 |(v10,v11,v12,v13,v14,v15,v16,v17,v18,v19,v20)=>(bif decide (v10<(r2.length:Int))then(ck (cN v10 r2.length)<|(bo r2 ((0:Nat)+v10:Int)).bind λx1=>((bif decide (v10<40)then(fU x1).bind λr3=>some r3 else some false)).bind λv21=>(bif v21 then ck (bR v20.length v20.length (sub ([x1]:U aH) 0 1).length 1 72)<|iA (v20++(sub ([x1]:U aH) 0 1)) λr4=>ck (aE r4.length r4.length)<|some (v11,v12,v13,v14,v15,v16,v17,v18,v19,r4)else ck (aE v20.length v20.length)<|some (v11,v12,v13,v14,v15,v16,v17,v18,v19,v20)):J (gM)).bind λ(v22,v23,v24,v25,v26,v27,v28,v29,v30,v31)=>ck (aE v31.length v31.length)<|some (.inl ((i64.wrap (v10+1)),v22,v23,v24,v25,v26,v27,v28,v29,v30,v31))else ck (aE v20.length v20.length)<|some (.inr (v11,v12,v13,v14,v15,v16,v17,v18,v19,v20)))
def ku(a0:bQ)(a1:dn)(a2:bq):J (List bW):=
 ((nX n a1.area).bind λr1=>(bif r1 then some (a0.defs,a0.tables,a0.zones,a0.rules,a0.caps,a0.views,a0.ut,a0.hours,a1.area)else some (a0.defs,a0.tables,a0.zones,a0.rules,a0.caps,a0.views,a0.ut,a0.hours,([]:(List ax)))):J ((List eu)×(List cZ)×(List dL)×(List bP)×(List gq)×(List fu)×(List cB)×Int×(List ax))).bind λ(v1,v2,v3,v4,v5,v6,v7,v8,v9)=>(nY n a2 0 (a2.phases.length:Int)).bind λr2=>ck (aE 0 ([]:U aH).length)<|(iter (qK r2) n ((0:Int),v1,v2,v3,v4,v5,v6,v7,v8,v9,([]:U aH))).bind λ(w1,w2,w3,w4,w5,w6,w7,w8,w9,AW)=>ck (aE AW.length AW.length)<|(mQ n w1 w2 w3 w4 w5 w6 w7 w8 w9 AW).bind λr5=>ck (bR 0 0 (sub ([(bW.mk (⟨#[97,114,101,97]⟩) r5.1)]:U bW) 0 1).length 1 24)<|iA ((sub ([(bW.mk (⟨#[97,114,101,97]⟩) r5.1)]:U bW) 0 1)) λr6=>ck (aE r5.2.2.2.2.2.2.2.2.2.2.length r5.2.2.2.2.2.2.2.2.2.2.length)<|(iJ n r5.2.1 r5.2.2.1 r5.2.2.2.1 r5.2.2.2.2.1 r5.2.2.2.2.2.1 r5.2.2.2.2.2.2.1 r5.2.2.2.2.2.2.2.1 r5.2.2.2.2.2.2.2.2.1 r5.2.2.2.2.2.2.2.2.2.1 r5.2.2.2.2.2.2.2.2.2.2).bind λr7=>ck (bR r6.length r6.length (sub ([(bW.mk (⟨#[99,111,118,101,114]⟩) r7.1)]:U bW) 0 1).length 1 24)<|iA (r6++(sub ([(bW.mk (⟨#[99,111,118,101,114]⟩) r7.1)]:U bW) 0 1)) λr8=>ck (aE r7.2.2.2.2.2.2.2.2.2.2.length r7.2.2.2.2.2.2.2.2.2.2.length)<|(kE n r7.2.1 r7.2.2.1 r7.2.2.2.1 r7.2.2.2.2.1 r7.2.2.2.2.2.1 r7.2.2.2.2.2.2.1 r7.2.2.2.2.2.2.2.1 r7.2.2.2.2.2.2.2.2.1 r7.2.2.2.2.2.2.2.2.2.1 r7.2.2.2.2.2.2.2.2.2.2).bind λr9=>ck (bR r8.length r8.length (sub ([(bW.mk (⟨#[102,108,111,111,114]⟩) r9.1)]:U bW) 0 1).length 1 24)<|iA (r8++(sub ([(bW.mk (⟨#[102,108,111,111,114]⟩) r9.1)]:U bW) 0 1)) λuv=>ck (aE r9.2.2.2.2.2.2.2.2.2.2.length r9.2.2.2.2.2.2.2.2.2.2.length)<|(jF n r9.2.1 r9.2.2.1 r9.2.2.2.1 r9.2.2.2.2.1 r9.2.2.2.2.2.1 r9.2.2.2.2.2.2.1 r9.2.2.2.2.2.2.2.1 r9.2.2.2.2.2.2.2.2.1 r9.2.2.2.2.2.2.2.2.2.1 r9.2.2.2.2.2.2.2.2.2.2).bind λmN=>ck (bR uv.length uv.length (sub ([(bW.mk (⟨#[102,108,111,111,114,115]⟩) mN.1)]:U bW) 0 1).length 1 24)<|iA (uv++(sub ([(bW.mk (⟨#[102,108,111,111,114,115]⟩) mN.1)]:U bW) 0 1)) λxa=>ck (aE mN.2.2.2.2.2.2.2.2.2.2.length mN.2.2.2.2.2.2.2.2.2.2.length)<|(jG n mN.2.1 mN.2.2.1 mN.2.2.2.1 mN.2.2.2.2.1 mN.2.2.2.2.2.1 mN.2.2.2.2.2.2.1 mN.2.2.2.2.2.2.2.1 mN.2.2.2.2.2.2.2.2.1 mN.2.2.2.2.2.2.2.2.2.1 mN.2.2.2.2.2.2.2.2.2.2).bind λrL=>ck (bR xa.length xa.length (sub ([(bW.mk (⟨#[104,101,105,103,104,116]⟩) rL.1)]:U bW) 0 1).length 1 24)<|iA (xa++(sub ([(bW.mk (⟨#[104,101,105,103,104,116]⟩) rL.1)]:U bW) 0 1)) λHp=>ck (aE rL.2.2.2.2.2.2.2.2.2.2.length rL.2.2.2.2.2.2.2.2.2.2.length)<|(kF n rL.2.1 rL.2.2.1 rL.2.2.2.1 rL.2.2.2.2.1 rL.2.2.2.2.2.1 rL.2.2.2.2.2.2.1 rL.2.2.2.2.2.2.2.1 rL.2.2.2.2.2.2.2.2.1 rL.2.2.2.2.2.2.2.2.2.1 rL.2.2.2.2.2.2.2.2.2.2).bind λsA=>ck (bR Hp.length Hp.length (sub ([(bW.mk (⟨#[104,111,109,101,115]⟩) sA.1)]:U bW) 0 1).length 1 24)<|iA (Hp++(sub ([(bW.mk (⟨#[104,111,109,101,115]⟩) sA.1)]:U bW) 0 1)) λr16=>ck (aE sA.2.2.2.2.2.2.2.2.2.2.length sA.2.2.2.2.2.2.2.2.2.2.length)<|(iJ n sA.2.1 sA.2.2.1 sA.2.2.2.1 sA.2.2.2.2.1 sA.2.2.2.2.2.1 sA.2.2.2.2.2.2.1 sA.2.2.2.2.2.2.2.1 sA.2.2.2.2.2.2.2.2.1 sA.2.2.2.2.2.2.2.2.2.1 sA.2.2.2.2.2.2.2.2.2.2).bind λsy=>ck (bR r16.length r16.length (sub ([(bW.mk (⟨#[114,117,110,111,102,102]⟩) sy.1)]:U bW) 0 1).length 1 24)<|iA (r16++(sub ([(bW.mk (⟨#[114,117,110,111,102,102]⟩) sy.1)]:U bW) 0 1)) λHm=>ck (aE sy.2.2.2.2.2.2.2.2.2.2.length sy.2.2.2.2.2.2.2.2.2.2.length)<|(jg n sy.2.1 sy.2.2.1 sy.2.2.2.1 sy.2.2.2.2.1 sy.2.2.2.2.2.1 sy.2.2.2.2.2.2.1 sy.2.2.2.2.2.2.2.1 sy.2.2.2.2.2.2.2.2.1 sy.2.2.2.2.2.2.2.2.2.1 sy.2.2.2.2.2.2.2.2.2.2).bind λp5=>ck (bR Hm.length Hm.length (sub ([(bW.mk (⟨#[115,101,116,98,97,99,107]⟩) p5.1)]:U bW) 0 1).length 1 24)<|iA (Hm++(sub ([(bW.mk (⟨#[115,101,116,98,97,99,107]⟩) p5.1)]:U bW) 0 1)) λHk=>ck (aE p5.2.2.2.2.2.2.2.2.2.2.length p5.2.2.2.2.2.2.2.2.2.2.length)<|(jh n p5.2.1 p5.2.2.1 p5.2.2.2.1 p5.2.2.2.2.1 p5.2.2.2.2.2.1 p5.2.2.2.2.2.2.1 p5.2.2.2.2.2.2.2.1 p5.2.2.2.2.2.2.2.2.1 p5.2.2.2.2.2.2.2.2.2.1 p5.2.2.2.2.2.2.2.2.2.2).bind λr21=>ck (bR Hk.length Hk.length (sub ([(bW.mk (⟨#[116,114,97,102,102,105,99]⟩) r21.1)]:U bW) 0 1).length 1 24)<|iA (Hk++(sub ([(bW.mk (⟨#[116,114,97,102,102,105,99]⟩) r21.1)]:U bW) 0 1)) λHj=>ck (aE (sub Hj 0 Hj.length).length Hj.length)<|some (sub Hj 0 Hj.length)
def yT(a0:Int):J (Int×Bool):=
 ((bif (a0==0)then some (a0==0)else(bif (a0==1)then some (a0==1)else(bif (a0==2)then some (a0==2)else some (a0==3))))).bind λv1=>(bif v1 then some ((0:Int),true)else((bif (a0==9)then some (a0==9)else some (a0==15))).bind λv2=>(bif v2 then some ((1:Int),true)else(bif (a0==16)then some ((3:Int),true)else(bif decide (a0>=0)then some ((2:Int),(decide (a0<17)))else some ((2:Int),false)))))
def xM(n:Nat)(rc:(cu)->(Int)->J Int)(a0:cu)(a1:Int):Stp (Int×Int) Int
 |(v2,v3)=>(bif decide (v3<(a0.args.length:Int))then(bo a0.args v3).bind λx1=>(rc (cu.mk x1.op x1.n x1.s x1.key x1.args) (i64.wrap (a1+1))).bind λr2=>some (.inl ((max v2 r2),(i64.wrap (v3+1))))else some (.inr v2))
def Ap(rc:(cu)->(Int)->J Int)(a0:cu)(a1:Int):J Int:=
 (yT a0.op).bind λr1=>((bif (!r1.2)then some true else(bif (r1.1 !=(a0.args.length:Int))then some true else some (decide (a1>=12))))).bind λv1=>(bif v1 then some (13:Int)else(iter (xM n rc a0 a1) n ((0:Int),(0:Int))).bind λw1=>some (i64.wrap (w1+1)))
def EH(rc:(cu)->(Int)->J Int):co xx:=⟨[.d (.st SI.Expr),.d (.int .i64)],[.d (.int .i64)],λa=>rc a.1 a.2.1,none⟩
def sF(n:Nat):Nat->(cu)->(Int)->J Int
 | 0=>λ_ _=>none
 |m+1=>Ap n (sF n m)
def Qe(a0:cu)(a1:Int):J Int:=sF n n a0 a1
def Ir(a0:cu):J Bool:=
 (Qe n (cu.mk a0.op a0.n a0.s a0.key a0.args) 0).bind λr1=>some (decide (r1<=12))
def Aq(a0:cZ)(a1:cu):J Bool:=
 some (ByteArray.toList a0.name==ByteArray.toList a1.s)
def FX(a0:U cZ)(a1:(cZ×Unit)->J Bool):Stp Int (Unit⊕Int)
 |v1=>(bif decide (v1<(a0.length:Int))then(bo a0 v1).bind λx1=>(a1 (x1,())).bind λr1=>(bif r1 then(some v1).map λa=> .inr (.inr a)else some (.inl (i64.wrap (v1+1))))else some (.inr (.inl ())))
def rJ(a0:U cZ)(a1:(cZ×Unit)->J Bool):J Int:=
 dF (iter (FX a0 a1) n (0:Int)) λ()=>some ((-1):Int)
def Ar(a0:bW)(a1:cu):J Bool:=
 some (ByteArray.toList a0.name==ByteArray.toList a1.key)
def yU(a0:Bool):J Int:=
 (bif a0 then some (1:Int)else some (0:Int))
def wI(a0:Int)(a1:Int):J Int:=
 (bif (a1==0)then some (0:Int)else ck (a1 !=0)<|(ck (a1 !=0)<|((bif ((Int.tmod a0 a1) !=0)then some (!((decide ((Int.tmod a0 a1)<0))==(decide (a1<0))))else some false)).bind λv1=>(bif v1 then some (i64.wrap ((i64.wrap (Int.tdiv a0 a1)) -1))else some (i64.wrap (Int.tdiv a0 a1))):J Int).bind λv2=>some v2)
def JY(a0:Int)(a1:Int)(a2:Int):J Int:=
 (bif (a0==4)then some (i64.wrap (a1+a2))else(bif (a0==5)then some (i64.wrap (a1 -a2))else(bif (a0==6)then some (i64.wrap (a1*a2))else(bif (a0==7)then(wI a1 a2).bind λr1=>some r1 else(bif (a0==8)then(bif (a2==0)then some (0:Int)else(wI a1 a2).bind λr2=>some (i64.wrap (a1 -(i64.wrap (r2*a2)))))else(bif (a0==10)then(yU (a1==(a2:Int))).bind λr3=>some r3 else(bif (a0==11)then(yU (decide (a1<(a2:Int)))).bind λr4=>some r4 else(bif (a0==12)then(yU (decide (a1<=(a2:Int)))).bind λr5=>some r5 else(bif (a0==13)then(bif (a1 !=0)then(yU (a2 !=0)).bind λr6=>some r6 else(yU false).bind λr7=>some r7)else(bif (a1 !=0)then(yU true).bind λr8=>some r8 else(yU (a2 !=0)).bind λr9=>some r9))))))))))
def ji(a0:U eu)(a1:U cZ)(a2:U dL)(a3:U bP)(a4:U gq)(a5:U fu)(a6:U cB)(a7:Int)(a8:U ByteArray)(a9:cu)(km:U (ByteArray×Int)):J (Int×(List (ByteArray×Int))):=
 (rJ n a1 (λ (y1:cZ×Unit)=>Aq y1.1 (cu.mk a9.op a9.n a9.s a9.key a9.args))).bind λr1=>(bif decide (r1<0)then some ((0:Int),km)else(bo a1 r1).bind λx1=>(kg n x1.rows (λ (y2:bW×Unit)=>Ar y2.1 (cu.mk a9.op a9.n a9.s a9.key a9.args))).bind λr2=>(bif decide (r2>=0)then(bo x1.rows r2).bind λx2=>some (x2.n,km)else some (x1.sn,km)))
def fB(n:Nat)(rc:((List eu))->((List cZ))->((List dL))->((List bP))->((List gq))->((List fu))->((List cB))->(Int)->((List ByteArray))->(cu)->((List (ByteArray×Int)))->J (Int×(List (ByteArray×Int))))(a0:U eu)(a1:U cZ)(a2:U dL)(a3:U bP)(a4:U gq)(a5:U fu)(a6:U cB)(a7:Int)(a8:U ByteArray)(a9:cu):Stp (Int×(List (ByteArray×Int))×(List Int)) ((List (ByteArray×Int))×(List Int))
 |(v1,v2,v3)=>(bif decide (v1<(a9.args.length:Int))then((bo a9.args v1).bind λx1=>((bif (a9.op==16)then(bif decide (v1>0)then ck (cN 0 v3.length)<|(bo v3 ((0:Nat)+0:Int)).bind λx2=>some (!((x2 !=0)==(v1==1)))else some false)else some false)).bind λv4=>(bif v4 then ck (bR v3.length v3.length (sub ([0]:U Int) 0 1).length 1 8)<|iA (v3++(sub ([0]:U Int) 0 1)) λr1=>ck (aE r1.length r1.length)<|some (v2,r1)else(rc a0 a1 a2 a3 a4 a5 a6 a7 a8 (cu.mk x1.op x1.n x1.s x1.key x1.args) v2).bind λr2=>ck (bR v3.length v3.length (sub ([r2.1]:U Int) 0 1).length 1 8)<|iA (v3++(sub ([r2.1]:U Int) 0 1)) λr3=>ck (aE r3.length r3.length)<|some (r2.2,r3)):J ((List (ByteArray×Int))×(List Int))).bind λ(v5,v6)=>ck (aE v6.length v6.length)<|some (.inl ((i64.wrap (v1+1)),v5,v6))else ck (aE v3.length v3.length)<|some (.inr (v2,v3)))
def fF(rc:((List eu))->((List cZ))->((List dL))->((List bP))->((List gq))->((List fu))->((List cB))->(Int)->((List ByteArray))->(cu)->((List (ByteArray×Int)))->J (Int×(List (ByteArray×Int))))(a0:U eu)(a1:U cZ)(a2:U dL)(a3:U bP)(a4:U gq)(a5:U fu)(a6:U cB)(a7:Int)(a8:U ByteArray)(a9:cu)(km:U (ByteArray×Int)):J (Int×(List (ByteArray×Int))):=
 ck (aE 0 ([]:U Int).length)<|(iter (fB n rc a0 a1 a2 a3 a4 a5 a6 a7 a8 a9) n ((0:Int),km,([]:U Int))).bind λ(w1,w2)=>(bif (a9.op==0)then some (a9.n,w1)else(bif (a9.op==1)then some (((eX lw a9.s w1).getD 0),w1)else(bif (a9.op==2)then(ji n a0 a1 a2 a3 a4 a5 a6 a7 a8 (cu.mk a9.op a9.n a9.s a9.key a9.args) w1).bind λr4=>some (r4.1,r4.2)else(bif (a9.op==3)then(fH n a8 a9.s).bind λr5=>(yU r5).bind λr6=>some (r6,w1)else(bif (a9.op==9)then ck (cN 0 w2.length)<|(bo w2 ((0:Nat)+0:Int)).bind λx3=>some ((i64.wrap (0 -x3)),w1)else(bif (a9.op==15)then ck (cN 0 w2.length)<|(bo w2 ((0:Nat)+0:Int)).bind λx4=>(yU (x4==0)).bind λr7=>some (r7,w1)else(bif (a9.op==16)then ck (cN 0 w2.length)<|(bo w2 ((0:Nat)+0:Int)).bind λx5=>(bif (x5 !=0)then ck (cN 1 w2.length)<|(bo w2 ((0:Nat)+1:Int)).bind λx6=>some (x6,w1)else ck (cN 2 w2.length)<|(bo w2 ((0:Nat)+2:Int)).bind λx7=>some (x7,w1))else ck (cN 0 w2.length)<|(bo w2 ((0:Nat)+0:Int)).bind λx8=>ck (cN 1 w2.length)<|(bo w2 ((0:Nat)+1:Int)).bind λx9=>(JY a9.op x8 x9).bind λr8=>some (r8,w1))))))))
def EI(rc:((List eu))->((List cZ))->((List dL))->((List bP))->((List gq))->((List fu))->((List cB))->(Int)->((List ByteArray))->(cu)->((List (ByteArray×Int)))->J (Int×(List (ByteArray×Int)))):dg xx:=⟨[(.a [(.v (.sl (.st SI.Def))),(.v (.sl (.st SI.Table))),(.v (.sl (.st SI.Zone))),(.v (.sl (.st SI.Rule))),(.v (.sl (.st SI.Cap))),(.v (.sl (.st SI.View))),(.v (.sl (.st SI.gi))),(.v (.int .i64)),(.mp 0),(.v (.sl .str))]),(.v (.st SI.Expr))],[(0,.m .str (.int .i64))],[(.v (.int .i64))],[(0,.m .str (.int .i64))],λv=>rc (v.1) (v.2.1) (v.2.2.1) (v.2.2.2.1) (v.2.2.2.2.1) (v.2.2.2.2.2.1) (v.2.2.2.2.2.2.1) (v.2.2.2.2.2.2.2.1) (v.2.2.2.2.2.2.2.2.1) (v.2.2.2.2.2.2.2.2.2.1) (v.2.2.2.2.2.2.2.2.2.2)⟩
def jK(rc:((List eu))->((List cZ))->((List dL))->((List bP))->((List gq))->((List fu))->((List cB))->(Int)->((List ByteArray))->(cu)->((List (ByteArray×Int)))->J (Int×(List (ByteArray×Int)))):co xx:=⟨[],[.d .bool],λ_=>none,some (EI rc)⟩
def cK(n:Nat):Nat->((List eu))->((List cZ))->((List dL))->((List bP))->((List gq))->((List fu))->((List cB))->(Int)->((List ByteArray))->(cu)->((List (ByteArray×Int)))->J (Int×(List (ByteArray×Int)))
 | 0=>λ_ _ _ _ _ _ _ _ _ _ _=>none
 |m+1=>fF n (cK n m)
def fV(a0:U eu)(a1:U cZ)(a2:U dL)(a3:U bP)(a4:U gq)(a5:U fu)(a6:U cB)(a7:Int)(a8:U ByteArray)(a9:cu)(km:U (ByteArray×Int)):J (Int×(List (ByteArray×Int))):=cK n n a0 a1 a2 a3 a4 a5 a6 a7 a8 a9 km
def jV(n:Nat)(a1:U bW):Stp (Int×(List (ByteArray×Int))×(List (ByteArray×Bool))) ((List (ByteArray×Int))×(List (ByteArray×Bool)))
 |(v1,v2,v3)=>(bif decide (v1<(a1.length:Int))then((bo a1 v1).bind λx1=>(bif (!((eX lw x1.name v3).getD false))then some ((oZ lw x1.name x1.n v2),(oZ lw x1.name true v3))else some (v2,v3)):J ((List (ByteArray×Int))×(List (ByteArray×Bool)))).bind λ(v4,v5)=>some (.inl ((i64.wrap (v1+1)),v4,v5))else some (.inr (v2,v3)))
def gJ(a0:bQ)(a2:U ByteArray)(w2:U (ByteArray×Bool))(r1:(List Int)×(List ByteArray)×Int):Stp (Int×(List (ByteArray×Int))×(List Int)) ((List (ByteArray×Int))×(List Int))
 |(v6,v7,v8)=>(bif decide (v6<(r1.1.length:Int))then(ck (cN v6 r1.1.length)<|(bo r1.1 ((0:Nat)+v6:Int)).bind λx2=>(bo a0.defs x2).bind λx3=>((Ir n (cu.mk x3.i9 x3.lR x3.k5 x3.iS x3.eK)).bind λr2=>(bif r2 then(fV n a0.defs a0.tables a0.zones a0.rules a0.caps a0.views a0.ut a0.hours a2 (cu.mk x3.i9 x3.lR x3.k5 x3.iS x3.eK) v7).bind λr3=>ck (cN x2 ((a0.defs.length:Int).toNat))<|(bo v8 ((0:Nat)+x2:Int)).bind λx4=>some (r3.2,(v8.set ((0:Nat)+x2:Int).toNat r3.1))else some (v7,v8)):J ((List (ByteArray×Int))×(List Int))).bind λ(v9,v10)=>(bif (!((eX lw x3.name w2).getD false))then ck (cN x2 ((a0.defs.length:Int).toNat))<|(bo v10 ((0:Nat)+x2:Int)).bind λx5=>some ((oZ lw x3.name x5 v9),v10)else some (v9,v10)):J ((List (ByteArray×Int))×(List Int))).bind λ(v11,v12)=>some (.inl ((i64.wrap (v6+1)),v11,v12))else some (.inr (v7,v8)))
def mF(a0:bQ)(a1:U bW)(a2:U ByteArray):J ((List eu)×(List cZ)×(List dL)×(List bP)×(List gq)×(List fu)×(List cB)×Int×(List ByteArray)×(List (ByteArray×Int))×(List Int)):=
 (iter (jV n a1) n ((0:Int),([]:(List (ByteArray×Int))),([]:(List (ByteArray×Bool))))).bind λ(w1,w2)=>ck (decide ((a0.defs.length:Int)<=(a0.defs.length:Int))&&(decide (0<=(a0.defs.length:Int))&&xA (a0.defs.length:Int) 8))<|(jD n a0).bind λr1=>(bif (r1.2.2 !=0)then ck (aE ((a0.defs.length:Int).toNat) (List.replicate (a0.defs.length:Int).toNat (0:Int)).length)<|some (a0.defs,a0.tables,a0.zones,a0.rules,a0.caps,a0.views,a0.ut,a0.hours,a2,w1,(List.replicate (a0.defs.length:Int).toNat (0:Int)))else(iter (gJ n a0 a2 w2 r1) n ((0:Int),w1,(List.replicate (a0.defs.length:Int).toNat (0:Int)))).bind λ(w3,w4)=>ck (aE ((a0.defs.length:Int).toNat) w4.length)<|some (a0.defs,a0.tables,a0.zones,a0.rules,a0.caps,a0.views,a0.ut,a0.hours,a2,w3,w4))
def xN(a0:bQ)(a1:U bW)(a2:U ByteArray)(a3:cu):J Int:=
 (Ir n (cu.mk a3.op a3.n a3.s a3.key a3.args)).bind λr1=>(bif (!r1)then some (0:Int)else(mF n a0 a1 a2).bind λr2=>(fV n r2.1 r2.2.1 r2.2.2.1 r2.2.2.2.1 r2.2.2.2.2.1 r2.2.2.2.2.2.1 r2.2.2.2.2.2.2.1 r2.2.2.2.2.2.2.2.1 r2.2.2.2.2.2.2.2.2.1 (cu.mk a3.op a3.n a3.s a3.key a3.args) r2.2.2.2.2.2.2.2.2.2.1).bind λr3=>some r3.1)
def xO(a0:aH):J (List fP):=
 ck (aE (sub ([(ax.mk a0.bz a0.cC a0.bx a0.cz)]:U ax) 0 1).length 1)<|ck (aE (sub ([(fP.mk a0.eM a0.ep (sub ([(ax.mk a0.bz a0.cC a0.bx a0.cz)]:U ax) 0 1))]:U fP) 0 1).length 1)<|some (sub ([(fP.mk a0.eM a0.ep (sub ([(ax.mk a0.bz a0.cC a0.bx a0.cz)]:U ax) 0 1))]:U fP) 0 1)
def FY(a0:U dW)(a1:(dW×Unit)->J Bool):Stp Int (Unit⊕Int)
 |v1=>(bif decide (v1<(a0.length:Int))then(bo a0 v1).bind λx1=>(a1 (x1,())).bind λr1=>(bif r1 then(some v1).map λa=> .inr (.inr a)else some (.inl (i64.wrap (v1+1))))else some (.inr (.inl ())))
def rM(a0:U dW)(a1:(dW×Unit)->J Bool):J Int:=
 dF (iter (FY a0 a1) n (0:Int)) λ()=>some ((-1):Int)
def kG(a0:U dW)(a1:(dW×Unit)->J Bool):J Bool:=
 (rM n a0 a1).bind λr1=>some (decide (r1>=0))
def nO(a0:Int)(a1:Int)(a2:Int):J Bool:=
 (bif decide (a1<=(a0:Int))then some (decide (a0<=(a2:Int)))else some false)
def Au(a0:dW):J Bool:=
 (nO a0.side 0 3).bind λr1=>(bif r1 then(nO a0.base 0 4096).bind λr2=>(bif r2 then(nO a0.num 0 4096).bind λr3=>(bif r3 then(nO a0.den 1 4096).bind λr4=>some r4 else some false)else some false)else some false)
def tQ(a0:dW):J Bool:=
 (Au a0).bind λr1=>some (!r1)
def Av(a0:ax)(a1:U dW):J Bool:=
 (nI a0).bind λr1=>(bif r1 then(kG n a1 (λ (y1:dW×Unit)=>tQ y1.1)).bind λr2=>some (!r2)else some false)
def Ux(a0:U ax)(a1:U ax):J Bool:=
 (oD n a0 a1).bind λr1=>some r1
def Aw(a0:U fP):Stp Int (Unit⊕Bool)
 |v1=>(bif decide (v1<(a0.length:Int))then dF ((bo a0 v1).bind λx1=>((bif decide (x1.z0<0)then some true else(bif decide (x1.z0>=(x1.z1:Int))then some true else(bif decide (x1.z1>4096)then some true else(bif ((x1.area.length:Int)==0)then some true else(nX n x1.area).bind λr1=>some (!r1)))))).bind λv2=>(bif v2 then((some false).map λa=> .inr (.inr a)).map .inr else(bif (v1==0)then some (.inl ())else(bo a0 (i64.wrap (v1 -1))).bind λx2=>((bif decide (x2.z1>(x1.z0:Int))then some true else(bif (x2.z1==(x1.z0:Int))then(Ux n x2.area x1.area).bind λr2=>some r2 else some false))).bind λv3=>(bif v3 then((some false).map λa=> .inr (.inr a)).map .inr else some (.inl ())))):J ((Unit)⊕_)) λ()=>some (.inl (i64.wrap (v1+1)))else some (.inr (.inl ())))
def Iu(a0:U fP):J Bool:=
 (bif decide ((a0.length:Int)>80)then some false else dF (iter (Aw n a0) n (0:Int)) λ()=>some true)
def wX(a0:ax)(a1:Int)(a2:Int):J NE:=
 some (NE.mk (i64.wrap (a1 -a0.x0)) (i64.wrap ((i64.wrap (a0.x1 -1)) -a1)) (i64.wrap (a2 -a0.y0)) (i64.wrap ((i64.wrap (a0.y1 -1)) -a2)))
def tT(a0:Int)(a1:Int):J Int:=
 ck (a1 !=0)<|(ck (a1 !=0)<|(bif decide ((Int.tmod a0 a1)<0)then some (i64.wrap ((i64.wrap (Int.tdiv a0 a1)) -1))else some (i64.wrap (Int.tdiv a0 a1))):J Int).bind λv1=>some v1
def xP(a0:ax)(a1:U dW)(a2:Int)(a3:Int)(r1:NE):Stp (Int×Int) Int
 |(v1,v2)=>(bif decide (v2<(a1.length:Int))then(bo a1 v2).bind λx1=>ck (cN x1.side 4)<|(bo ([r1.a0,r1.a1,r1.a2,r1.a3]:U Int) x1.side).bind λx2=>(tT (i64.wrap (x1.num*x2)) x1.den).bind λr2=>some (.inl ((min v1 (i64.wrap (x1.base+r2))),(i64.wrap (v2+1))))else some (.inr v1))
def JZ(a0:ax)(a1:U dW)(a2:Int)(a3:Int):J Int:=
 (wX a0 a2 a3).bind λr1=>(iter (xP a0 a1 a2 a3 r1) n ((4096:Int),(0:Int))).bind λw1=>some w1
def nZ(a0:ax)(a1:U dW)(x1:ax)(x2:Int):Stp (Int×Int) Int
 |(v5,v6)=>(bif decide (v6<2)then ck (cN v6 2)<|(bo ([x1.y0,(i64.wrap (x1.y1 -1))]:U Int) ((0:Nat)+v6:Int)).bind λx3=>(JZ n a0 a1 x2 x3).bind λr1=>some (.inl ((min v5 r1),(i64.wrap (v6+1))))else some (.inr v5))
def og(a0:ax)(a1:U dW)(x1:ax):Stp (Int×Int) Int
 |(v3,v4)=>(bif decide (v4<2)then ck (cN v4 2)<|(bo ([x1.x0,(i64.wrap (x1.x1 -1))]:U Int) ((0:Nat)+v4:Int)).bind λx2=>(iter (nZ n a0 a1 x1 x2) n (v3,(0:Int))).bind λw1=>some (.inl (w1,(i64.wrap (v4+1))))else some (.inr v3))
def ru(a0:ax)(a1:U dW)(a2:U ax):Stp (Int×Int) Int
 |(v1,v2)=>(bif decide (v2<(a2.length:Int))then(bo a2 v2).bind λx1=>(iter (og n a0 a1 x1) n (v1,(0:Int))).bind λw2=>some (.inl (w2,(i64.wrap (v2+1))))else some (.inr v1))
def xQ(a0:ax)(a1:U dW)(a2:U ax):J Int:=
 (iter (ru n a0 a1 a2) n ((4096:Int),(0:Int))).bind λw3=>some w3
def rz(a0:fP)(a1:ax)(a2:U dW):J Bool:=
 (xQ n a1 a2 a0.area).bind λr1=>some (decide (r1<(a0.z1:Int)))
def lT(a0:U fP)(a1:(fP×Unit)->J Bool):Stp Int (Unit⊕Int)
 |v1=>(bif decide (v1<(a0.length:Int))then(bo a0 v1).bind λx1=>(a1 (x1,())).bind λr1=>(bif r1 then(some v1).map λa=> .inr (.inr a)else some (.inl (i64.wrap (v1+1))))else some (.inr (.inl ())))
def tV(a0:U fP)(a1:(fP×Unit)->J Bool):J Int:=
 dF (iter (lT a0 a1) n (0:Int)) λ()=>some ((-1):Int)
def iX(a0:U fP)(a1:(fP×Unit)->J Bool):J Bool:=
 (tV n a0 a1).bind λr1=>some (decide (r1>=0))
def xR(a0:ax)(a1:U dW)(a2:U fP):J Bool:=
 ((Av n a0 a1).bind λr1=>(bif (!r1)then some true else(Iu n a2).bind λr2=>some (!r2))).bind λv1=>(bif v1 then some false else(iX n a2 (λ (y1:fP×Unit)=>rz n y1.1 a0 a1)).bind λr3=>some (!r3))
def jL(a0:aH)(a1:ax)(a2:bP):J Bool:=
 (xO a0).bind λr1=>ck (aE (sub ([(dW.mk a2.ir a2.iu a2.j9 a2.ka)]:U dW) 0 1).length 1)<|ck (aE (sub r1 0 r1.length).length r1.length)<|(xR n a1 (sub ([(dW.mk a2.ir a2.iu a2.j9 a2.ka)]:U dW) 0 1) (sub r1 0 r1.length)).bind λr2=>some (!r2)
def gK(a0:mh)(a1:(aH×Unit)->J Bool):J Bool:=
 (fK n a0.cM a1).bind λr1=>some r1
def jM(a0:aH)(a1:bP):J Bool:=
 ck (decide (0<=a0.use)&&decide (a0.use<=i64.bits))<|some ((bits .and .i64 a1.uses (i64.wrap (1*2 ^ (a0.use:Int).toNat)))==0)
def al9(a0:ax)(a1:ax):J (Int×Int):=
 some ((i64.wrap ((max a0.x0 a1.x0) -(min a0.x1 a1.x1))),(i64.wrap ((max a0.y0 a1.y0) -(min a0.y1 a1.y1))))
def ON(a0:ax)(a1:ax):J Int:=
 ((nI a0).bind λr1=>(bif (!r1)then some true else(nI a1).bind λr2=>some (!r2))).bind λv1=>(bif v1 then some ((-1):Int)else(al9 a0 a1).bind λr3=>some (max (max (0:Int) r3.1) r3.2))
def dV(a0:jd)(a1:mh)(a2:aH)(a3:bP):J Bool:=
 ((bif (a0.lot==(a1.ee:Int))then some true else(nI (ax.mk a0.ez a0.ev a0.ey a0.er)).bind λr1=>(bif (!r1)then some true else(bif decide (a0.fm<0)then some true else some (decide (a0.fm>=6)))))).bind λv1=>(bif v1 then some false else((bif (a2.use==(a3.uses:Int))then(bif (a0.fm==(a3.other:Int))then some true else(bif (a2.use==(a3.other:Int))then some (a0.fm==(a3.uses:Int))else some false))else(bif (a2.use==(a3.other:Int))then some (a0.fm==(a3.uses:Int))else some false))).bind λv2=>(bif v2 then(ON (ax.mk a2.bz a2.cC a2.bx a2.cz) (ax.mk a0.ez a0.ev a0.ey a0.er)).bind λr2=>some (decide (r2<(a3.n:Int)))else some false))
def EJ(a0:U jd)(a1:(jd×Unit)->J Bool):Stp Int (Unit⊕Int)
 |v1=>(bif decide (v1<(a0.length:Int))then(bo a0 v1).bind λx1=>(a1 (x1,())).bind λr1=>(bif r1 then(some v1).map λa=> .inr (.inr a)else some (.inl (i64.wrap (v1+1))))else some (.inr (.inl ())))
def qC(a0:U jd)(a1:(jd×Unit)->J Bool):J Int:=
 dF (iter (EJ a0 a1) n (0:Int)) λ()=>some ((-1):Int)
def jN(a0:U jd)(a1:(jd×Unit)->J Bool):J Bool:=
 (qC n a0 a1).bind λr1=>some (decide (r1>=0))
def rO(a0:mh)(a1:bP)(a2:aH):J Bool:=
 (jN n a0.dp (λ (y1:jd×Unit)=>dV y1.1 a0 a2 a1)).bind λr1=>some r1
def jO(a0:aH)(a1:mh)(a2:bP):J Bool:=
 (rO n a1 a2 a0).bind λr1=>some r1
def mR(a0:mh)(a1:bP):J Bool:=
 (bif (a1.kind==0)then(ku n (bQ.mk a0.cp a0.b8 a0.b7 a0.ci a0.ct a0.cg a0.cD a0.cj) (dn.mk a0.s9 a0.m4 a0.kB a0.pf) (bq.mk a0.ee a0.iz)).bind λr1=>ck (aE (sub r1 0 r1.length).length r1.length)<|(xN n (bQ.mk a0.cp a0.b8 a0.b7 a0.ci a0.ct a0.cg a0.cD a0.cj) (sub r1 0 r1.length) a0.zones (cu.mk a1.ld a1.mL a1.mC a1.j8 a1.ga)).bind λr2=>some (r2==0)else(bif (a1.kind==1)then(CY n a0.kB).bind λr3=>(gK n a0 (λ (y1:aH×Unit)=>jL n y1.1 r3.1 a1)).bind λr4=>some r4 else(bif (a1.kind==2)then(gK n a0 (λ (y2:aH×Unit)=>jM y2.1 a1)).bind λr5=>some r5 else(bif (a1.kind==3)then(gK n a0 (λ (y3:aH×Unit)=>jO n y3.1 a0 a1)).bind λr6=>some r6 else some false))))
def vK(a0:ax)(a1:ax):J Bool:=
 (bif decide ((max a1.x0 a0.x0)<((min a1.x1 a0.x1):Int))then some (decide ((max a1.y0 a0.y0)<((min a1.y1 a0.y1):Int)))else some false)
def Iw(a0:U ax)(a1:(ax×Unit)->J Bool):Stp Int (Unit⊕Int)
 |v1=>(bif decide (v1<(a0.length:Int))then(bo a0 v1).bind λx1=>(a1 (x1,())).bind λr1=>(bif r1 then(some v1).map λa=> .inr (.inr a)else some (.inl (i64.wrap (v1+1))))else some (.inr (.inl ())))
def tX(a0:U ax)(a1:(ax×Unit)->J Bool):J Int:=
 dF (iter (Iw a0 a1) n (0:Int)) λ()=>some ((-1):Int)
def iY(a0:U ax)(a1:(ax×Unit)->J Bool):J Bool:=
 (tX n a0 a1).bind λr1=>some (decide (r1>=0))
def EK(a0:ax)(a1:U ax):J Bool:=
 (iY n a1 (λ (y1:ax×Unit)=>vK y1.1 a0)).bind λr1=>some r1
def Uy(a0:U ax)(a1:U ax):J Bool:=
 (iY n a0 (λ (y1:ax×Unit)=>EK n y1.1 a1)).bind λr1=>some r1
def qL(a0:fP)(a1:kM):J Bool:=
 (bif decide (a0.z1>(a1.top:Int))then(Uy n a0.area a1.area).bind λr1=>some r1 else some false)
def vL(a0:U kM)(a1:Int)(a2:U fP):Stp Int (Unit⊕Bool)
 |v1=>(bif decide (v1<(a0.length:Int))then dF ((bo a0 v1).bind λx1=>((bif (x1.lot !=(a1:Int))then some true else(nX n x1.area).bind λr2=>some (!r2))).bind λv2=>(bif v2 then some (.inl ())else(iX n a2 (λ (y1:fP×Unit)=>qL n y1.1 x1)).bind λr3=>(bif r3 then((some false).map λa=> .inr (.inr a)).map .inr else some (.inl ()))):J ((Unit)⊕_)) λ()=>some (.inl (i64.wrap (v1+1)))else some (.inr (.inl ())))
def EL(a0:U kM)(a1:Int)(a2:U fP):J Bool:=
 (Iu n a2).bind λr1=>(bif (!r1)then some false else dF (iter (vL n a0 a1 a2) n (0:Int)) λ()=>some true)
def mY(a0:aH)(a1:bU)(a2:bq):J Bool:=
 (xO a0).bind λr1=>ck (aE (sub r1 0 r1.length).length r1.length)<|(EL n a1.cx a2.lot (sub r1 0 r1.length)).bind λr2=>some (!r2)
def jr(a0:ByteArray)(a1:Bool)(a2:U ByteArray):J (List ByteArray):=
 ((bif a1 then ck (aE (sub a2 0 a2.length).length a2.length)<|(fH n (sub a2 0 a2.length) a0).bind λr1=>some (!r1)else some false)).bind λv1=>(bif v1 then ck (bR a2.length a2.length (sub ([a0]:U ByteArray) 0 1).length 1 16)<|iA (a2++(sub ([a0]:U ByteArray) 0 1)) λr2=>ck (aE r2.length r2.length)<|some r2 else ck (aE a2.length a2.length)<|some a2)
def mZ(a0:bU)(r1:mh×Int)(r2:U Int):Stp (Int×(List ByteArray)) (List ByteArray)
 |(v1,v2)=>(bif decide (v1<(r2.length:Int))then ck (cN v1 r2.length)<|(bo r2 ((0:Nat)+v1:Int)).bind λx1=>(bo a0.az x1).bind λx2=>(bo a0.az x1).bind λx3=>(mR n r1.1 x3).bind λr3=>ck (aE v2.length v2.length)<|(jr n x2.name r3 v2).bind λr4=>ck (aE r4.length r4.length)<|some (.inl ((i64.wrap (v1+1)),r4))else ck (aE v2.length v2.length)<|some (.inr v2))
def oH(a0:bU)(a1:bq)(a2:Int):J ((List ByteArray)×Int):=
 (Am n a0 a1).bind λr1=>(bif (r1.2 !=0)then some (([]:(List ByteArray)),r1.2)else(nK n (bQ.mk a0.cm a0.br a0.bu a0.az a0.cw a0.b9 a0.cE a0.ca) r1.1.zones a2).bind λr2=>ck (aE 0 ([]:U ByteArray).length)<|(iter (mZ n a0 r1 r2) n ((0:Int),([]:U ByteArray))).bind λw1=>(gK n r1.1 (λ (y1:aH×Unit)=>mY n y1.1 a0 a1)).bind λr5=>ck (aE w1.length w1.length)<|(jr n (⟨#[101,97,115,101,109,101,110,116]⟩) r5 w1).bind λr6=>ck (aE (sub r6 0 r6.length).length r6.length)<|some ((sub r6 0 r6.length),(0:Int)))
def mG(a0:bU)(a1:bq)(a2:Int):J Bool:=
 (oH n a0 a1 a2).bind λr1=>(bif (r1.2==0)then some ((r1.1.length:Int)==0)else some false)
def iK(a0:bB)(a1:j5)(a2:dn):J Bool:=
 (Iq n a2 a0).bind λr1=>(mG n (bU.mk a1.cp a1.b8 a1.b7 a1.ci a1.ct a1.cg a1.cD a1.cj a1.eV a1.da a1.d6 a1.dp a1.eW) r1 a1.day).bind λr2=>some r2
def FZ(a0:U bB)(a1:(bB×Unit)->J Bool):Stp Int (Unit⊕Int)
 |v1=>(bif decide (v1<(a0.length:Int))then(bo a0 v1).bind λx1=>(a1 (x1,())).bind λr1=>(bif r1 then(some v1).map λa=> .inr (.inr a)else some (.inl (i64.wrap (v1+1))))else some (.inr (.inl ())))
def rP(a0:U bB)(a1:(bB×Unit)->J Bool):J Int:=
 dF (iter (FZ a0 a1) n (0:Int)) λ()=>some ((-1):Int)
def iQ(a0:j5)(a1:dn)(a2:U bB):J (bB×Bool):=
 (rP n a2 (λ (y1:bB×Unit)=>iK n y1.1 a0 a1)).bind λr1=>(bif decide (r1<0)then some ((bB.mk 0 0 0 0),false)else(bo a2 r1).bind λx1=>some (x1,true))
def lU(a0:j5)(a1:dn):J (aS×Bool):=
 (sD n (bQ.mk a0.cp a0.b8 a0.b7 a0.ci a0.ct a0.cg a0.cD a0.cj) a1.area).bind λr1=>ck (aE (sub r1 0 r1.length).length r1.length)<|(nK n (bQ.mk a0.cp a0.b8 a0.b7 a0.ci a0.ct a0.cg a0.cD a0.cj) (sub r1 0 r1.length) a0.day).bind λr2=>(bif ((r2.length:Int)==0)then some ((aS.mk 0 a1.id ([]) 0 0 0 0 0 0),true)else ck (aE (sub ([a1]:U dn) 0 1).length 1)<|(pF n (sub ([a1]:U dn) 0 1)).bind λr3=>ck (aE (sub r3 0 r3.length).length r3.length)<|(iQ n a0 a1 (sub r3 0 r3.length)).bind λr4=>(bif r4.2 then some ((aS.mk 0 a1.id ([]) 0 0 0 0 0 0),false)else((bif decide (((sub r3 0 r3.length).length:Int)>0)then(bo (sub r3 0 r3.length) 0).bind λx1=>(bo (sub r3 0 r3.length) 0).bind λx2=>(Iq n a1 x2).bind λr5=>(oH n (bU.mk a0.cp a0.b8 a0.b7 a0.ci a0.ct a0.cg a0.cD a0.cj a0.eV a0.da a0.d6 a0.dp a0.eW) r5 a0.day).bind λr6=>ck (aE r6.1.length r6.1.length)<|some ((1:Int),a1.id,x1.lot,x1.use,x1.floors,x1.iv,(0:Int),(0:Int),r6.1)else ck (aE 0 ([]:U ByteArray).length)<|some ((1:Int),a1.id,(0:Int),(0:Int),(0:Int),(0:Int),(0:Int),(0:Int),([]:U ByteArray))):J (Int×Int×Int×Int×Int×Int×Int×Int×(List ByteArray))).bind λ(v1,v2,v3,v4,v5,v6,v7,v8,v9)=>ck (aE (sub v9 0 v9.length).length v9.length)<|some ((aS.mk v1 v2 (sub v9 0 v9.length) v3 v4 v5 v6 v7 v8),true)))
def tY(a0:bU)(a1:Int):Stp (Int×(List (Int×Bool))×(List aS)) (List aS)
 |(v1,v2,v3)=>(bif decide (v1<(a0.land.length:Int))then((bo a0.land v1).bind λx1=>(bif ((eX gd x1.id v2).getD false)then ck (aE v3.length v3.length)<|some (v2,v3)else(lU n (j5.mk a0.cm a0.br a0.bu a0.az a0.cw a0.b9 a0.cE a0.ca a0.land a0.cx a0.windows a0.built a0.base a1) x1).bind λr2=>(bif r2.2 then ck (bR v3.length v3.length (sub ([r2.1]:U aS) 0 1).length 1 88)<|iA (v3++(sub ([r2.1]:U aS) 0 1)) λr3=>ck (aE r3.length r3.length)<|some ((oZ gd x1.id true v2),r3)else ck (aE v3.length v3.length)<|some ((oZ gd x1.id true v2),v3))):J ((List (Int×Bool))×(List aS))).bind λ(v4,v5)=>ck (aE v5.length v5.length)<|some (.inl ((i64.wrap (v1+1)),v4,v5))else ck (aE v3.length v3.length)<|some (.inr v3))
def fE(a0:bU)(a1:Int):J (List aS):=
 (fG n (j5.mk a0.cm a0.br a0.bu a0.az a0.cw a0.b9 a0.cE a0.ca a0.land a0.cx a0.windows a0.built a0.base a1)).bind λr1=>ck (aE r1.length r1.length)<|(iter (tY n a0 a1) n ((0:Int),([]:(List (Int×Bool))),r1)).bind λw1=>ck (aE (sub w1 0 w1.length).length w1.length)<|some (sub w1 0 w1.length)
def vM(a0:dn)(a1:Int):J Bool:=
 some (a0.id==(a1:Int))
def Kk(a0:U dn)(a1:(dn×Unit)->J Bool):Stp Int (Unit⊕Int)
 |v1=>(bif decide (v1<(a0.length:Int))then(bo a0 v1).bind λx1=>(a1 (x1,())).bind λr1=>(bif r1 then(some v1).map λa=> .inr (.inr a)else some (.inl (i64.wrap (v1+1))))else some (.inr (.inl ())))
def ve(a0:U dn)(a1:(dn×Unit)->J Bool):J Int:=
 dF (iter (Kk a0 a1) n (0:Int)) λ()=>some ((-1):Int)
def yV(a0:bU)(a1:Int)(a2:Int):J (bB×Bool):=
 (ve n a0.land (λ (y1:dn×Unit)=>vM y1.1 a1)).bind λr1=>(bif decide (r1<0)then some ((bB.mk 0 0 0 0),false)else(bo a0.land r1).bind λx1=>ck (yE r1 (i64.wrap (r1+1)) a0.land.length)<|(pF n (sub a0.land ((r1:Int).toNat) (((i64.wrap (r1+1)):Int).toNat -(r1:Int).toNat))).bind λr2=>ck (aE (sub r2 0 r2.length).length r2.length)<|(iQ n (j5.mk a0.cm a0.br a0.bu a0.az a0.cw a0.b9 a0.cE a0.ca a0.land a0.cx a0.windows a0.built a0.base a2) x1 (sub r2 0 r2.length)).bind λr3=>some (r3.1,r3.2))
def pG(a0:Int)(a1:Int)(a2:Bool)(a3:Int):J (Bool×Int):=
 ((bif decide (a0>(a1:Int))then(bif (!a2)then some true else some (decide (a0<(a3:Int))))else some false)).bind λv1=>(bif v1 then some (true,a0)else some (a2,a3))
def pI(a0:bQ)(a1:Int):Stp (Int×Int×Bool) (Int×Bool)
 |(v1,v2,v3)=>(bif decide (v1<(a0.rules.length:Int))then((bo a0.rules v1).bind λx1=>(pG x1.from_ a1 v3 v2).bind λr1=>(bif (x1.cP !=0)then(pG x1.cP a1 r1.1 r1.2).bind λr2=>some (r2.2,r2.1)else some (r1.2,r1.1)):J (Int×Bool)).bind λ(v4,v5)=>some (.inl ((i64.wrap (v1+1)),v4,v5))else some (.inr (v2,v3)))
def lV(a0:bQ)(a1:Int):J (Int×Bool):=
 (iter (pI a0 a1) n ((0:Int),(0:Int),false)).bind λ(w1,w2)=>some (w1,w2)
def ig(a0:bU)(a2:Int):Stp (Int×Bool) (Unit⊕(Int×Bool))
 |(v1,v2)=>((bif v2 then some (decide (v1<=(a2:Int)))else some false)).bind λv3=>(bif v3 then(fE n a0 v1).bind λr1=>(bif decide ((r1.length:Int)>0)then(some (v1,true)).map λa=> .inr (.inr a)else(lV n (bQ.mk a0.cm a0.br a0.bu a0.az a0.cw a0.b9 a0.cE a0.ca) v1).bind λr2=>some (.inl (r2.1,r2.2)))else some (.inr (.inl ())))
def vg(a0:bU)(a1:Int)(a2:Int):J (Int×Bool):=
 dF (iter (ig n a0 a2) n (a1,true)) λ()=>some ((0:Int),false)
def xS(a0:U ByteArray)(a1:U ByteArray):Stp Int (Unit⊕Bool)
 |v1=>(bif decide (v1<(a0.length:Int))then(bo a0 v1).bind λx1=>(bo a1 v1).bind λx2=>(bif (!(ByteArray.toList x1==ByteArray.toList x2))then(some false).map λa=> .inr (.inr a)else some (.inl (i64.wrap (v1+1))))else some (.inr (.inl ())))
def J2(a0:U ByteArray)(a1:U ByteArray):J Bool:=
 (bif ((a0.length:Int) !=(a1.length:Int))then some false else dF (iter (xS a0 a1) n (0:Int)) λ()=>some true)
def Ay(a0:U aS)(a1:U aS):Stp Int (Unit⊕Bool)
 |v1=>(bif decide (v1<(a0.length:Int))then((bo a0 v1).bind λx1=>(bo a1 v1).bind λx2=>(bif (x1.kind !=(x2.kind:Int))then some true else(bo a0 v1).bind λx3=>(bo a1 v1).bind λx4=>(bif (x3.lot !=(x4.lot:Int))then some true else(bo a0 v1).bind λx5=>(bo a1 v1).bind λx6=>(bif (!((x5.lh==(x6.lh:Int))&&((x5.lf==(x6.lf:Int))&&((x5.ij==(x6.ij:Int))&&((x5.i8==(x6.i8:Int))&&true)))))then some true else(bo a0 v1).bind λx7=>(bo a1 v1).bind λx8=>(bif (!((x7.tf==(x8.tf:Int))&&((x7.te==(x8.te:Int))&&true)))then some true else(bo a0 v1).bind λx9=>(bo a1 v1).bind λx10=>(J2 n x9.names x10.names).bind λr1=>some (!r1)))))).bind λv2=>(bif v2 then(some false).map λa=> .inr (.inr a)else some (.inl (i64.wrap (v1+1))))else some (.inr (.inl ())))
def yX(a0:U aS)(a1:U aS):J Bool:=
 (bif ((a0.length:Int) !=(a1.length:Int))then some false else dF (iter (Ay n a0 a1) n (0:Int)) λ()=>some true)
def C9:J Bool:=
 (uX 6).bind λr1=>ck (aE (sub ([⟨#[99,111,114,101]⟩]:U ByteArray) 0 1).length 1)<|(yP (bP.mk (⟨#[97]⟩) (sub ([⟨#[99,111,114,101]⟩]:U ByteArray) 0 1) ([]) 0 0 0 false 0 r1.op r1.n r1.s r1.key r1.args 0 0 0 0 0 0 0)).bind λr2=>(uX 6).bind λr3=>ck (aE (sub ([⟨#[114,105,109]⟩]:U ByteArray) 0 1).length 1)<|(yP (bP.mk (⟨#[97]⟩) (sub ([⟨#[114,105,109]⟩]:U ByteArray) 0 1) ([]) 0 0 0 false 0 r3.op r3.n r3.s r3.key r3.args 0 0 0 0 0 0 0)).bind λr4=>(fE n r4 0).bind λr5=>(uX 2).bind λr6=>(yP (bP.mk (⟨#[97]⟩) ([]) ([]) 0 0 0 false 0 r6.op r6.n r6.s r6.key r6.args 0 0 0 0 0 0 0)).bind λr7=>(fE n r7 0).bind λr8=>(uX 6).bind λr9=>(yP (bP.mk (⟨#[97]⟩) ([]) ([]) 0 9 0 false 0 r9.op r9.n r9.s r9.key r9.args 0 0 0 0 0 0 0)).bind λuv=>(yP (bP.mk (⟨#[97]⟩) ([]) ([]) 0 0 0 false 0 0 1 (⟨#[]⟩) (⟨#[]⟩) ([]) 0 0 0 0 0 0 0)).bind λmN=>(yV n r2 1 0).bind λxa=>(vg n uv 0 20).bind λrL=>((fE n r2 0).bind λHp=>(bif ((Hp.length:Int)==0)then(bif xa.2 then(bif ((xa.1.lot==1)&&((xa.1.use==0)&&((xa.1.floors==1)&&((xa.1.iv==1)&&true))))then ck (aE (sub r5 0 r5.length).length r5.length)<|ck (aE (sub ([(aS.mk 0 1 ([]) 0 0 0 0 0 0)]:U aS) 0 1).length 1)<|(yX n (sub r5 0 r5.length) (sub ([(aS.mk 0 1 ([]) 0 0 0 0 0 0)]:U aS) 0 1)).bind λsA=>(bif sA then ck (aE (sub ([⟨#[97]⟩]:U ByteArray) 0 1).length 1)<|ck (aE (sub r8 0 r8.length).length r8.length)<|ck (aE (sub ([(aS.mk 1 1 (sub ([⟨#[97]⟩]:U ByteArray) 0 1) 1 0 1 1 0 0)]:U aS) 0 1).length 1)<|(yX n (sub r8 0 r8.length) (sub ([(aS.mk 1 1 (sub ([⟨#[97]⟩]:U ByteArray) 0 1) 1 0 1 1 0 0)]:U aS) 0 1)).bind λr16=>some r16 else some false)else some false)else some false)else some false)).bind λv1=>((fE n uv 8).bind λsy=>(bif ((sy.length:Int)==0)then(fE n uv 9).bind λHm=>(bif ((Hm.length:Int)==1)then(bif (rL.1==9)then(bif rL.2 then ck (aE (sub ([(eu.mk (⟨#[120]⟩) 1 0 (⟨#[121]⟩) (⟨#[]⟩) ([])),(eu.mk (⟨#[121]⟩) 1 0 (⟨#[120]⟩) (⟨#[]⟩) ([]))]:U eu) 0 2).length 2)<|(fE n (bU.mk (sub ([(eu.mk (⟨#[120]⟩) 1 0 (⟨#[121]⟩) (⟨#[]⟩) ([])),(eu.mk (⟨#[121]⟩) 1 0 (⟨#[120]⟩) (⟨#[]⟩) ([]))]:U eu) 0 2) mN.br mN.bu mN.az mN.cw mN.b9 mN.cE mN.ca mN.land mN.cx mN.windows mN.built mN.base) 0).bind λp5=>ck (aE (sub ([⟨#[120]⟩,⟨#[121]⟩]:U ByteArray) 0 2).length 2)<|ck (aE (sub p5 0 p5.length).length p5.length)<|ck (aE (sub ([(aS.mk 3 0 (sub ([⟨#[120]⟩,⟨#[121]⟩]:U ByteArray) 0 2) 0 0 0 0 0 0)]:U aS) 0 1).length 1)<|(yX n (sub p5 0 p5.length) (sub ([(aS.mk 3 0 (sub ([⟨#[120]⟩,⟨#[121]⟩]:U ByteArray) 0 2) 0 0 0 0 0 0)]:U aS) 0 1)).bind λHk=>some Hk else some false)else some false)else some false)else some false)).bind λv2=>(bif v1 then some v2 else some false)
def Az(rc:(cu)->J Int)(a0:cu):Stp (Int×Int) Int
 |(v1,v2)=>(bif decide (v2<(a0.args.length:Int))then(bo a0.args v2).bind λx1=>(rc x1).bind λr1=>some (.inl ((i64.wrap (v1+r1)),(i64.wrap (v2+1))))else some (.inr v1))
def EM(rc:(cu)->J Int)(a0:cu):J Int:=
 (iter (Az rc a0) n ((1:Int),(0:Int))).bind λw1=>some w1
def Iy(rc:(cu)->J Int):co xx:=⟨[.d (.st SI.Expr)],[.d (.int .i64)],λa=>rc a.1,none⟩
def vk(n:Nat):Nat->(cu)->J Int
 | 0=>λ_=>none
 |m+1=>EM n (vk n m)
def Iz(a0:cu):J Int:=vk n n a0
def tZ(a0:bQ):Stp Int (Unit⊕Bool)
 |v2=>(bif decide (v2<(a0.defs.length:Int))then(bo a0.defs v2).bind λx1=>(Iz n (cu.mk x1.i9 x1.lR x1.k5 x1.iS x1.eK)).bind λr1=>(bif decide (r1>30)then(some false).map λa=> .inr (.inr a)else some (.inl (i64.wrap (v2+1))))else some (.inr (.inl ())))
def uf(a0:bQ):Stp Int (Unit⊕Bool)
 |v3=>(bif decide (v3<(a0.rules.length:Int))then((bo a0.rules v3).bind λx2=>(Iz n (cu.mk x2.ld x2.mL x2.mC x2.j8 x2.ga)).bind λr2=>(bif decide (r2>30)then some true else(bo a0.rules v3).bind λx3=>(bif decide ((x3.zones.length:Int)>5)then some true else(bo a0.rules v3).bind λx4=>some (decide ((x4.except.length:Int)>5))))).bind λv4=>(bif v4 then(some false).map λa=> .inr (.inr a)else some (.inl (i64.wrap (v3+1))))else some (.inr (.inl ())))
def ug(a0:bQ):Stp Int (Unit⊕Bool)
 |v5=>(bif decide (v5<(a0.tables.length:Int))then(bo a0.tables v5).bind λx5=>(bif decide ((x5.rows.length:Int)>8)then(some false).map λa=> .inr (.inr a)else some (.inl (i64.wrap (v5+1))))else some (.inr (.inl ())))
def uh(a0:bQ):Stp Int (Unit⊕Bool)
 |v6=>(bif decide (v6<(a0.zones.length:Int))then(bo a0.zones v6).bind λx6=>(bif decide ((x6.corners.length:Int)>12)then(some false).map λa=> .inr (.inr a)else some (.inl (i64.wrap (v6+1))))else some (.inr (.inl ())))
def uj(a0:bQ):Stp Int (Unit⊕Bool)
 |v7=>(bif decide (v7<(a0.caps.length:Int))then(bo a0.caps v7).bind λx7=>(bif decide ((x7.corners.length:Int)>12)then(some false).map λa=> .inr (.inr a)else some (.inl (i64.wrap (v7+1))))else some (.inr (.inl ())))
def wJ(a0:bQ):J Bool:=
 ((bif decide ((a0.defs.length:Int)>5)then some true else(bif decide ((a0.rules.length:Int)>5)then some true else(bif decide ((a0.tables.length:Int)>4)then some true else(bif decide ((a0.zones.length:Int)>5)then some true else some (decide ((a0.caps.length:Int)>3))))))).bind λv1=>(bif v1 then some false else dF (iter (tZ n a0) n (0:Int)) λ()=>dF (iter (uf n a0) n (0:Int)) λ()=>dF (iter (ug a0) n (0:Int)) λ()=>dF (iter (uh a0) n (0:Int)) λ()=>dF (iter (uj a0) n (0:Int)) λ()=>some true)
def vN(a0:ax):J Bool:=
 (bif decide (a0.x0>=0)then(bif decide (a0.x0<(a0.x1:Int))then(bif decide (a0.x1<=1048576)then(bif decide (a0.y0>=0)then(bif decide (a0.y0<(a0.y1:Int))then some (decide (a0.y1<=1048576))else some false)else some false)else some false)else some false)else some false)
def qM(a0:U Int)(v1:Int)(v2:U Int):Stp Int Int
 |v3=>((bif decide (v3>0)then ck (cN (i64.wrap (v3 -1)) v2.length)<|(bo v2 ((0:Nat)+(i64.wrap (v3 -1)):Int)).bind λx1=>(bo a0 v1).bind λx2=>some (decide (x1>(x2:Int)))else some false)).bind λv4=>(bif v4 then some (.inl (i64.wrap (v3 -1)))else some (.inr v3))
def qN(w1:Int)(r1:U Int):Stp (Int×(List Int)) (List Int)
 |(v6,v7)=>(bif decide (v6>(w1:Int))then ck (cN (i64.wrap (v6 -1)) r1.length)<|(bo v7 ((0:Nat)+(i64.wrap (v6 -1)):Int)).bind λx5=>ck (cN v6 r1.length)<|(bo v7 ((0:Nat)+v6:Int)).bind λx6=>some (.inl ((i64.wrap (v6 -1)),(v7.set ((0:Nat)+v6:Int).toNat x5)))else some (.inr v7))
def vO(a0:U Int):Stp (Int×(List Int)) (List Int)
 |(v1,v2)=>(bif decide (v1<(a0.length:Int))then((iter (qM a0 v1 v2) n (v2.length:Int)).bind λw1=>((bif decide (w1>0)then ck (cN (i64.wrap (w1 -1)) v2.length)<|(bo v2 ((0:Nat)+(i64.wrap (w1 -1)):Int)).bind λx3=>(bo a0 v1).bind λx4=>some (x3==(x4:Int))else some false)).bind λv5=>(bif v5 then ck (aE v2.length v2.length)<|some v2 else ck (bR v2.length v2.length (sub ([0]:U Int) 0 1).length 1 8)<|iA (v2++(sub ([0]:U Int) 0 1)) λr1=>(iter (qN w1 r1) n ((i64.wrap ((r1.length:Int) -1)),r1)).bind λw2=>(bo a0 v1).bind λx7=>ck (cN w1 r1.length)<|(bo w2 ((0:Nat)+w1:Int)).bind λx8=>ck (aE r1.length (w2.set ((0:Nat)+w1:Int).toNat x7).length)<|some (w2.set ((0:Nat)+w1:Int).toNat x7)):J ((List Int))).bind λv8=>ck (aE v8.length v8.length)<|some (.inl ((i64.wrap (v1+1)),v8))else ck (aE v2.length v2.length)<|some (.inr v2))
def EN(a0:U Int):J (List Int):=
 ck (aE 0 ([]:U Int).length)<|(iter (vO n a0) n ((0:Int),([]:U Int))).bind λw3=>ck (aE (sub w3 0 w3.length).length w3.length)<|some (sub w3 0 w3.length)
def xU(a0:U ax):Stp (Int×(List Int)) (List Int)
 |(v1,v2)=>(bif decide (v1<(a0.length:Int))then(bo a0 v1).bind λx1=>(bo a0 v1).bind λx2=>ck (bR v2.length v2.length (sub ([x1.x0,x2.x1]:U Int) 0 2).length 2 8)<|iA (v2++(sub ([x1.x0,x2.x1]:U Int) 0 2)) λr1=>ck (aE r1.length r1.length)<|some (.inl ((i64.wrap (v1+1)),r1))else ck (aE v2.length v2.length)<|some (.inr v2))
def EO(a1:U ax):Stp (Int×(List Int)) (List Int)
 |(v3,v4)=>(bif decide (v3<(a1.length:Int))then(bo a1 v3).bind λx3=>(bo a1 v3).bind λx4=>ck (bR v4.length v4.length (sub ([x3.x0,x4.x1]:U Int) 0 2).length 2 8)<|iA (v4++(sub ([x3.x0,x4.x1]:U Int) 0 2)) λr2=>ck (aE r2.length r2.length)<|some (.inl ((i64.wrap (v3+1)),r2))else ck (aE v4.length v4.length)<|some (.inr v4))
def J3(a0:U ax)(a1:U ax):J (List Int):=
 ck (aE 0 ([]:U Int).length)<|(iter (xU a0) n ((0:Int),([]:U Int))).bind λw1=>ck (aE w1.length w1.length)<|(iter (EO a1) n ((0:Int),w1)).bind λw2=>ck (aE (sub w2 0 w2.length).length w2.length)<|(EN n (sub w2 0 w2.length)).bind λr3=>ck (aE (sub r3 0 r3.length).length r3.length)<|some (sub r3 0 r3.length)
def qO(a0:U ax)(v1:Int)(r1:U Int)(r2:U Int):Stp (Int×(List Int)×(List Int)) (Int×(List Int)×(List Int))
 |(v5,v6,v7)=>((bif decide (v5>0)then ck (cN (i64.wrap (v5 -1)) r1.length)<|(bo v6 ((0:Nat)+(i64.wrap (v5 -1)):Int)).bind λx3=>(bo a0 v1).bind λx4=>some (decide (x3>(x4.y0:Int)))else some false)).bind λv8=>(bif v8 then ck (cN (i64.wrap (v5 -1)) r1.length)<|(bo v6 ((0:Nat)+(i64.wrap (v5 -1)):Int)).bind λx5=>ck (cN v5 r1.length)<|(bo v6 ((0:Nat)+v5:Int)).bind λx6=>ck (cN (i64.wrap (v5 -1)) r2.length)<|(bo v7 ((0:Nat)+(i64.wrap (v5 -1)):Int)).bind λx7=>ck (cN v5 r2.length)<|(bo v7 ((0:Nat)+v5:Int)).bind λx8=>some (.inl ((i64.wrap (v5 -1)),(v6.set ((0:Nat)+v5:Int).toNat x5),(v7.set ((0:Nat)+v5:Int).toNat x7)))else some (.inr (v5,v6,v7)))
def qP(a0:U ax)(a1:Int):Stp (Int×(List Int)×(List Int)) ((List Int)×(List Int))
 |(v1,v2,v3)=>(bif decide (v1<(a0.length:Int))then(((bo a0 v1).bind λx1=>(bif decide (x1.x0>(a1:Int))then some true else(bo a0 v1).bind λx2=>some (decide (x2.x1<=(a1:Int))))).bind λv4=>(bif v4 then ck (aE v2.length v2.length)<|ck (aE v3.length v3.length)<|some (v2,v3)else ck (bR v2.length v2.length (sub ([0]:U Int) 0 1).length 1 8)<|iA (v2++(sub ([0]:U Int) 0 1)) λr1=>ck (bR v3.length v3.length (sub ([0]:U Int) 0 1).length 1 8)<|iA (v3++(sub ([0]:U Int) 0 1)) λr2=>(iter (qO a0 v1 r1 r2) n ((v2.length:Int),r1,r2)).bind λ(w1,w2,w3)=>(bo a0 v1).bind λx9=>ck (cN w1 r1.length)<|(bo w2 ((0:Nat)+w1:Int)).bind λx10=>(bo a0 v1).bind λx11=>ck (cN w1 r2.length)<|(bo w3 ((0:Nat)+w1:Int)).bind λx12=>ck (aE r1.length (w2.set ((0:Nat)+w1:Int).toNat x9.y0).length)<|ck (aE r2.length (w3.set ((0:Nat)+w1:Int).toNat x11.y1).length)<|some ((w2.set ((0:Nat)+w1:Int).toNat x9.y0),(w3.set ((0:Nat)+w1:Int).toNat x11.y1))):J ((List Int)×(List Int))).bind λ(v9,v10)=>ck (aE v9.length v9.length)<|ck (aE v10.length v10.length)<|some (.inl ((i64.wrap (v1+1)),v9,v10))else ck (aE v2.length v2.length)<|ck (aE v3.length v3.length)<|some (.inr (v2,v3)))
def qQ(w4:U Int)(w5:U Int):Stp (Int×(List Int)) (List Int)
 |(v11,v12)=>(bif decide (v11<(w4.length:Int))then(((bif decide ((v12.length:Int)>0)then ck (cN v11 w4.length)<|(bo w4 ((0:Nat)+v11:Int)).bind λx13=>ck (cN (i64.wrap ((v12.length:Int) -1)) v12.length)<|(bo v12 ((0:Nat)+(i64.wrap ((v12.length:Int) -1)):Int)).bind λx14=>some (decide (x13<=(x14:Int)))else some false)).bind λv13=>(bif v13 then ck (cN (i64.wrap ((v12.length:Int) -1)) v12.length)<|(bo v12 ((0:Nat)+(i64.wrap ((v12.length:Int) -1)):Int)).bind λx15=>ck (cN v11 w5.length)<|(bo w5 ((0:Nat)+v11:Int)).bind λx16=>ck (cN (i64.wrap ((v12.length:Int) -1)) v12.length)<|(bo v12 ((0:Nat)+(i64.wrap ((v12.length:Int) -1)):Int)).bind λx17=>ck (aE v12.length (v12.set ((0:Nat)+(i64.wrap ((v12.length:Int) -1)):Int).toNat (max x15 x16)).length)<|some (v12.set ((0:Nat)+(i64.wrap ((v12.length:Int) -1)):Int).toNat (max x15 x16))else ck (cN v11 w4.length)<|(bo w4 ((0:Nat)+v11:Int)).bind λx18=>ck (cN v11 w5.length)<|(bo w5 ((0:Nat)+v11:Int)).bind λx19=>ck (bR v12.length v12.length (sub ([x18,x19]:U Int) 0 2).length 2 8)<|iA (v12++(sub ([x18,x19]:U Int) 0 2)) λr3=>ck (aE r3.length r3.length)<|some r3):J ((List Int))).bind λv14=>ck (aE v14.length v14.length)<|some (.inl ((i64.wrap (v11+1)),v14))else ck (aE v12.length v12.length)<|some (.inr v12))
def yY(a0:U ax)(a1:Int):J (List Int):=
 ck (aE 0 ([]:U Int).length)<|ck (aE 0 ([]:U Int).length)<|(iter (qP n a0 a1) n ((0:Int),([]:U Int),([]:U Int))).bind λ(w4,w5)=>ck (aE 0 ([]:U Int).length)<|(iter (qQ w4 w5) n ((0:Int),([]:U Int))).bind λw6=>ck (aE (sub w6 0 w6.length).length w6.length)<|some (sub w6 0 w6.length)
def ul(a0:U Int)(a1:U Int)(a2:Int):Stp (Int×Int×Bool×(List Int)) (List Int)
 |(v1,v2,v3,v4)=>((bif decide (v1<(a0.length:Int))then some true else some (decide (v2<(a1.length:Int))))).bind λv5=>(bif v5 then(((bif decide (v1<(a0.length:Int))then(bif decide (v2>=(a1.length:Int))then some true else(bo a0 v1).bind λx1=>(bo a1 (min v2 (i64.wrap ((a1.length:Int) -1)))).bind λx2=>some (decide (x1<=(x2:Int))))else some false)).bind λv6=>(bif v6 then(bo a0 v1).bind λx3=>some x3 else(bo a1 v2).bind λx4=>some x4):J Int).bind λv7=>(((bif decide (v1<(a0.length:Int))then(bo a0 v1).bind λx5=>some (x5==(v7:Int))else some false)).bind λv8=>(bif v8 then some (i64.wrap (v1+1))else some v1):J Int).bind λv9=>(((bif decide (v2<(a1.length:Int))then(bo a1 v2).bind λx6=>some (x6==(v7:Int))else some false)).bind λv10=>(bif v10 then some (i64.wrap (v2+1))else some v2):J Int).bind λv11=>ck (2 !=0)<|ck (2 !=0)<|((bif ((Int.tmod v9 2)==1)then some true else some ((Int.tmod v11 2)==1))).bind λv12=>((bif (a2==1)then(bif ((Int.tmod v9 2)==1)then some ((Int.tmod v11 2)==1)else some false)else some v12)).bind λv13=>((bif (a2==2)then(bif ((Int.tmod v9 2)==1)then some (!((Int.tmod v11 2)==1))else some false)else some v13)).bind λv14=>((bif (!(v14==v3))then ck (bR v4.length v4.length (sub ([v7]:U Int) 0 1).length 1 8)<|iA (v4++(sub ([v7]:U Int) 0 1)) λr1=>ck (aE r1.length r1.length)<|some r1 else ck (aE v4.length v4.length)<|some v4):J ((List Int))).bind λv15=>ck (aE v15.length v15.length)<|some (.inl (v9,v11,v14,v15))else ck (aE v4.length v4.length)<|some (.inr v4))
def AA(a0:U Int)(a1:U Int)(a2:Int):J (List Int):=
 ck (aE 0 ([]:U Int).length)<|(iter (ul a0 a1 a2) n ((0:Int),(0:Int),false,([]:U Int))).bind λw1=>ck (aE (sub w1 0 w1.length).length w1.length)<|some (sub w1 0 w1.length)
def AB(a0:U Int)(a1:U Int):Stp Int (Unit⊕Bool)
 |v1=>(bif decide (v1<(a0.length:Int))then(bo a0 v1).bind λx1=>(bo a1 v1).bind λx2=>(bif (x1 !=(x2:Int))then(some false).map λa=> .inr (.inr a)else some (.inl (i64.wrap (v1+1))))else some (.inr (.inl ())))
def NY(a0:U Int)(a1:U Int):J Bool:=
 (bif ((a0.length:Int) !=(a1.length:Int))then some false else dF (iter (AB a0 a1) n (0:Int)) λ()=>some true)
def wK(r1:U Int)(v2:Int)(v3:U ax):Stp (Int×(List ax)) (List ax)
 |(v6,v7)=>(bif decide (v6<(v3.length:Int))then ck (cN (i64.wrap (v2+1)) r1.length)<|(bo r1 ((0:Nat)+(i64.wrap (v2+1)):Int)).bind λx3=>ck (cN v6 v3.length)<|(bo v7 ((0:Nat)+v6:Int)).bind λx4=>some (.inl ((i64.wrap (v6+1)),(v7.set ((0:Nat)+v6:Int).toNat (ax.mk x4.x0 x4.y0 x3 x4.y1))))else some (.inr v7))
def wL(r1:U Int)(v2:Int)(r4:U Int):Stp (Int×(List ax)) (List ax)
 |(v8,v9)=>(bif decide ((i64.wrap (v8+1))<(r4.length:Int))then ck (cN v2 r1.length)<|(bo r1 ((0:Nat)+v2:Int)).bind λx5=>ck (cN v8 r4.length)<|(bo r4 ((0:Nat)+v8:Int)).bind λx6=>ck (cN (i64.wrap (v2+1)) r1.length)<|(bo r1 ((0:Nat)+(i64.wrap (v2+1)):Int)).bind λx7=>ck (cN (i64.wrap (v8+1)) r4.length)<|(bo r4 ((0:Nat)+(i64.wrap (v8+1)):Int)).bind λx8=>ck (bR v9.length v9.length (sub ([(ax.mk x5 x6 x7 x8)]:U ax) 0 1).length 1 32)<|iA (v9++(sub ([(ax.mk x5 x6 x7 x8)]:U ax) 0 1)) λr6=>ck (aE r6.length r6.length)<|some (.inl ((i64.wrap (v8+2)),r6))else ck (aE v9.length v9.length)<|some (.inr v9))
def AJ(a0:U ax)(a1:U ax)(a2:Int)(r1:U Int):Stp (Int×Int×(List ax)×(List Int)) (List ax)
 |(v1,v2,v3,v4)=>(bif decide ((i64.wrap (v2+1))<(r1.length:Int))then(ck (cN v2 r1.length)<|(bo r1 ((0:Nat)+v2:Int)).bind λx1=>(yY n a0 x1).bind λr2=>ck (cN v2 r1.length)<|(bo r1 ((0:Nat)+v2:Int)).bind λx2=>(yY n a1 x2).bind λr3=>ck (aE (sub r2 0 r2.length).length r2.length)<|ck (aE (sub r3 0 r3.length).length r3.length)<|(AA n (sub r2 0 r2.length) (sub r3 0 r3.length) a2).bind λr4=>((bif decide (v2>0)then(bif decide ((r4.length:Int)>0)then ck (aE (sub r4 0 r4.length).length r4.length)<|ck (aE (sub v4 0 v4.length).length v4.length)<|(NY n (sub r4 0 r4.length) (sub v4 0 v4.length)).bind λr5=>some r5 else some false)else some false)).bind λv5=>(bif v5 then(iter (wK r1 v2 v3) n (v1,v3)).bind λw1=>ck (aE v3.length w1.length)<|ck (aE v4.length v4.length)<|some (v1,w1,v4)else ck (aE v3.length v3.length)<|(iter (wL r1 v2 r4) n ((0:Int),v3)).bind λw2=>ck (aE w2.length w2.length)<|ck (aE r4.length r4.length)<|some ((v3.length:Int),w2,r4)):J (Int×(List ax)×(List Int))).bind λ(v10,v11,v12)=>ck (aE v11.length v11.length)<|ck (aE v12.length v12.length)<|some (.inl (v10,(i64.wrap (v2+1)),v11,v12))else ck (aE v3.length v3.length)<|some (.inr v3))
def NZ(a0:U ax)(a1:U ax)(a2:Int):J (List ax):=
 (J3 n a0 a1).bind λr1=>ck (aE 0 ([]:U ax).length)<|ck (aE 0 ([]:U Int).length)<|(iter (AJ n a0 a1 a2 r1) n ((0:Int),(0:Int),([]:U ax),([]:U Int))).bind λw3=>ck (aE (sub w3 0 w3.length).length w3.length)<|some (sub w3 0 w3.length)
def J4(a0:U ax):Stp Int (Unit⊕((List ax)×Int))
 |v1=>(bif decide (v1<(a0.length:Int))then(bo a0 v1).bind λx1=>(vN x1).bind λr1=>(bif (!r1)then(some (([]:(List ax)),(1:Int))).map λa=> .inr (.inr a)else some (.inl (i64.wrap (v1+1))))else some (.inr (.inl ())))
def PH(a0:U ax):J ((List ax)×Int):=
 dF (iter (J4 a0) n (0:Int)) λ()=>(bif decide ((a0.length:Int)>400)then some (([]:(List ax)),(6:Int))else(NZ n a0 ([]) 0).bind λr2=>(bif decide ((r2.length:Int)>200)then some (([]:(List ax)),(6:Int))else ck (aE (sub r2 0 r2.length).length r2.length)<|some ((sub r2 0 r2.length),(0:Int))))
def AL(a0:U ax)(a1:U ax):Stp Int (Unit⊕Bool)
 |v1=>(bif decide (v1<(a0.length:Int))then(bo a0 v1).bind λx1=>(bo a1 v1).bind λx2=>(bif (!((x1.x0==(x2.x0:Int))&&((x1.y0==(x2.y0:Int))&&((x1.x1==(x2.x1:Int))&&((x1.y1==(x2.y1:Int))&&true)))))then(some false).map λa=> .inr (.inr a)else some (.inl (i64.wrap (v1+1))))else some (.inr (.inl ())))
def N7(a0:U ax)(a1:U ax):J Bool:=
 (bif ((a0.length:Int) !=(a1.length:Int))then some false else dF (iter (AL a0 a1) n (0:Int)) λ()=>some true)
def J5(a0:U ax):J Bool:=
 (PH n a0).bind λr1=>(bif (r1.2==0)then ck (aE (sub r1.1 0 r1.1.length).length r1.1.length)<|(N7 n (sub r1.1 0 r1.1.length) a0).bind λr2=>some r2 else some false)
def vP(a0:U ax)(x1:ax):Stp (Int×Int×Int×Int×Int) (Int×Int×Int×Int)
 |(v2,v3,v4,v5,v6)=>(bif decide (v2<(a0.length:Int))then(bo a0 v2).bind λx2=>(bo a0 v2).bind λx3=>(bo a0 v2).bind λx4=>(bo a0 v2).bind λx5=>some (.inl ((i64.wrap (v2+1)),(min v3 x2.x0),(min v4 x3.y0),(max v5 x4.x1),(max v6 x5.y1)))else some (.inr (v3,v4,v5,v6)))
def EP(a0:U ax):J (ax×Bool):=
 ((bif ((a0.length:Int)==0)then some true else(J5 n a0).bind λr1=>some (!r1))).bind λv1=>(bif v1 then some ((ax.mk 0 0 0 0),false)else(bo a0 0).bind λx1=>(iter (vP a0 x1) n ((1:Int),x1.x0,x1.y0,x1.x1,x1.y1)).bind λ(w1,w2,w3,w4)=>some ((ax.mk w1 w2 w3 w4),true))
def EQ(a0:dn):J Bool:=
 (bif decide ((a0.area.length:Int)>4)then some false else(EP n a0.area).bind λr1=>(bif (!r1.2)then some true else(bif decide ((i64.wrap (r1.1.x1 -r1.1.x0))<=4)then some true else some (decide ((i64.wrap (r1.1.y1 -r1.1.y0))<=4)))))
def ER(a0:bU):Stp Int (Unit⊕Bool)
 |v2=>(bif decide (v2<(a0.land.length:Int))then(bo a0.land v2).bind λx1=>(EQ n x1).bind λr2=>(bif (!r2)then(some false).map λa=> .inr (.inr a)else some (.inl (i64.wrap (v2+1))))else some (.inr (.inl ())))
def ES(a0:bU):Stp Int (Unit⊕Bool)
 |v3=>(bif decide (v3<(a0.cx.length:Int))then(bo a0.cx v3).bind λx2=>(bif decide ((x2.area.length:Int)>4)then(some false).map λa=> .inr (.inr a)else some (.inl (i64.wrap (v3+1))))else some (.inr (.inl ())))
def Uz(a0:bU):J Bool:=
 ((wJ n (bQ.mk a0.cm a0.br a0.bu a0.az a0.cw a0.b9 a0.cE a0.ca)).bind λr1=>(bif (!r1)then some true else(bif decide ((a0.land.length:Int)>2)then some true else(bif decide ((a0.cx.length:Int)>3)then some true else some (decide ((a0.built.length:Int)>6)))))).bind λv1=>(bif v1 then some false else dF (iter (ER n a0) n (0:Int)) λ()=>dF (iter (ES a0) n (0:Int)) λ()=>some true)
def um(a0:bU)(a1:Int)(a2:Int):J Bool:=
 (C9 n).bind λr1=>((Uz n a0).bind λr2=>(bif (!r2)then some true else(bif decide (a1<0)then some true else(bif decide (a1>1073741824)then some true else(bif decide (a2<0)then some true else some (decide (a2>1073741824))))))).bind λv1=>(bif v1 then some r1 else(fE n a0 a1).bind λr3=>(lV n (bQ.mk a0.cm a0.br a0.bu a0.az a0.cw a0.b9 a0.cE a0.ca) a1).bind λr4=>((bif r4.2 then some (i64.wrap (r4.1 -1))else some (1073741824:Int)):J Int).bind λv2=>(fE n a0 v2).bind λr5=>ck (aE (sub r5 0 r5.length).length r5.length)<|ck (aE (sub r3 0 r3.length).length r3.length)<|(yX n (sub r5 0 r5.length) (sub r3 0 r3.length)).bind λr6=>(bif (!r6)then some false else(vg n a0 a1 a2).bind λr7=>(bif decide (a1>(a2:Int))then(bif r1 then(bif (!r7.2)then some (r7.1==0)else some false)else some false)else(bif (!r7.2)then(bif r1 then(bif (r7.1==0)then(bif ((r3.length:Int)==0)then(fE n a0 a2).bind λr8=>some ((r8.length:Int)==0)else some false)else some false)else some false)else((bif decide (r7.1<(a1:Int))then some true else(bif decide (r7.1>(a2:Int))then some true else(fE n a0 r7.1).bind λr9=>some ((r9.length:Int)==0)))).bind λv3=>(bif v3 then some false else(bif r1 then(bif ((r7.1==(a1:Int))==(decide ((r3.length:Int)>0)))then(bif (r7.1==(a1:Int))then some true else(fE n a0 (i64.wrap (r7.1 -1))).bind λuv=>some ((uv.length:Int)==0))else some false)else some false))))))
end
end Go.Proofs
