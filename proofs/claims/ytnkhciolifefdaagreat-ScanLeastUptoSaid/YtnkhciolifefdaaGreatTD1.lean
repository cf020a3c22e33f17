import Derived.Test.YtnkhciolifefdaaGreatTBase
open Go.IntKind (i64)
namespace Go.Proofs
open Go.Gb Go.RowKit
noncomputable section
variable (n:Nat)
def ve(a0:Int):J cK:=
 ck (aE (sub ([(cK.mk 1 0 (⟨#[104,101,105,103,104,116]⟩) (⟨#[]⟩) ([])),(cK.mk 0 a0 (⟨#[]⟩) (⟨#[]⟩) ([]))]:U cK) 0 2).length 2)<|some (cK.mk 12 0 (⟨#[]⟩) (⟨#[]⟩) (sub ([(cK.mk 1 0 (⟨#[104,101,105,103,104,116]⟩) (⟨#[]⟩) ([])),(cK.mk 0 a0 (⟨#[]⟩) (⟨#[]⟩) ([]))]:U cK) 0 2))
def yY(a0:bK):J cu:=
 ck (aE (sub ([(bV.mk 0 0),(bV.mk 9 0),(bV.mk 9 9),(bV.mk 0 9)]:U bV) 0 4).length 4)<|ck (aE (sub ([(aA.mk 0 0 4 4)]:U aA) 0 1).length 1)<|ck (aE (sub ([(dN.mk (⟨#[99,111,114,101]⟩) false (sub ([(bV.mk 0 0),(bV.mk 9 0),(bV.mk 9 9),(bV.mk 0 9)]:U bV) 0 4))]:U dN) 0 1).length 1)<|ck (aE (sub ([a0]:U bK) 0 1).length 1)<|ck (aE (sub ([(dw.mk 1 0 (sub ([(aA.mk 0 0 4 4)]:U aA) 0 1) ([]))]:U dw) 0 1).length 1)<|some (cu.mk ([]) ([]) (sub ([(dN.mk (⟨#[99,111,114,101]⟩) false (sub ([(bV.mk 0 0),(bV.mk 9 0),(bV.mk 9 9),(bV.mk 0 9)]:U bV) 0 4))]:U dN) 0 1) (sub ([a0]:U bK) 0 1) ([]) ([]) ([]) 0 (sub ([(dw.mk 1 0 (sub ([(aA.mk 0 0 4 4)]:U aA) 0 1) ([]))]:U dw) 0 1) ([]) ([]) ([]) ([]))
def xq:J (List ByteArray):=
 ck (aE (sub ([⟨#[97,114,101,97]⟩,⟨#[99,111,118,101,114]⟩,⟨#[102,108,111,111,114]⟩,⟨#[102,108,111,111,114,115]⟩,⟨#[104,101,105,103,104,116]⟩,⟨#[104,111,109,101,115]⟩,⟨#[114,117,110,111,102,102]⟩,⟨#[115,101,116,98,97,99,107]⟩,⟨#[116,114,97,102,102,105,99]⟩]:U ByteArray) 0 9).length 9)<|some (sub ([⟨#[97,114,101,97]⟩,⟨#[99,111,118,101,114]⟩,⟨#[102,108,111,111,114]⟩,⟨#[102,108,111,111,114,115]⟩,⟨#[104,101,105,103,104,116]⟩,⟨#[104,111,109,101,115]⟩,⟨#[114,117,110,111,102,102]⟩,⟨#[115,101,116,98,97,99,107]⟩,⟨#[116,114,97,102,102,105,99]⟩]:U ByteArray) 0 9)
mutual
def toE:cK->ET
 |⟨op,_,s,_,args⟩=> .mk op s (IC args)
def IC:List cK->List ET
 |[]=>[]
 |x::xs=>toE x::IC xs
end
def toD(d:eT):ByteArray×ET:=(d.name,.mk d.i9 d.k5 (IC d.eL))
def kU(a0:U eT):J ((List eT)×(List (List Int))):=ck (Nat.ble (rk (a0.map toD)) 4000000)<|some (a0,oQ (a0.map toD))
def qL(a0:U Int)(a1:Int):J (List Int):=match a0 with
 |[x]=>ck (decide (0<=a1)&&decide (a1<=1000000000000))<|some (List.replicate a1.toNat x)
 |_=>none
def SS(a0:U Int)(a1:Int):Stp Int (Unit⊕Int)
 |v1=>(bif decide (v1<(a0.length:Int))then(bo a0 v1).bind λx1=>(bif (a1==(x1:Int))then(some v1).map λa=> .inr (.inr a)else some (.inl (i64.wrap (v1+1))))else some (.inr (.inl ())))
def ED(a0:U Int)(a1:Int):J Int:=
 dH (iter (SS a0 a1) n (0:Int)) λ()=>some ((-1):Int)
def rq(a0:U Int)(a1:Int):J Bool:=
 (ED n a0 a1).bind λr1=>some (decide (r1>=0))
def fZ(a0:pF)(r1:U Int)(x2:Int):Stp (Int×Int×(List Int)×(List Int)) (Int×(List Int)×(List Int))
 |(v4,v5,v6,v7)=>(bif decide (v5<(a0.uses.length:Int))then((bo a0.uses v5).bind λx3=>(ck (cN v5 r1.length)<|(bo v6 ((0:Nat)+v5:Int)).bind λx4=>(bif decide (x4<0)then(rq n x3 x2).bind λr2=>some r2 else some false)).bind λv8=>(bif v8 then ck (cN x2 r1.length)<|(bo v6 ((0:Nat)+x2:Int)).bind λx5=>ck (cN v5 r1.length)<|(bo v6 ((0:Nat)+v5:Int)).bind λx6=>ck (bP (VB ((v4:Int).toNat) v7).length (v7.length -(v4:Int).toNat) (sub ([v5]:U Int) 0 1).length 1 8)<|gH ((VB ((v4:Int).toNat) v7)++(sub ([v5]:U Int) 0 1)) λr3=>ck (aE (0+r3.length) r3.length)<|some ((0:Int),(v6.set ((0:Nat)+v5:Int).toNat (i64.wrap (x5+1))),r3)else ck (aE (((v4:Int).toNat)+(v7.length -(v4:Int).toNat)) v7.length)<|some ((((v4:Int).toNat:Nat):Int),v6,v7)):J (Int×(List Int)×(List Int))).bind λ(v9,v10,v11)=>ck (aE (((v9:Int).toNat)+(v11.length -(v9:Int).toNat)) v11.length)<|some (.inl ((((v9:Int).toNat:Nat):Int),(i64.wrap (v5+1)),v10,v11))else ck (aE (((v4:Int).toNat)+(v7.length -(v4:Int).toNat)) v7.length)<|some (.inr ((((v4:Int).toNat:Nat):Int),v6,v7)))
def eD(a0:pF)(r1:U Int):Stp (Int×(List Int)×(List Int)) (List Int)
 |(v1,v2,v3)=>(bif (decide ((((v3.length -(v1:Int).toNat):Nat):Int)>0))then ck (cN 0 (v3.length -(v1:Int).toNat))<|(bo v3 (((v1:Int).toNat:Nat)+0:Int)).bind λx2=>ck (sZ 1 (((v3.length -(v1:Int).toNat):Nat):Int) (v3.length -(v1:Int).toNat))<|ck (aE (((v1:Int).toNat+1)+((v3.length -(v1:Int).toNat) -1)) v3.length)<|(iter (fZ n a0 r1 x2) n (((((v1:Int).toNat+1):Nat):Int),(0:Int),v2,v3)).bind λ(w1,w2,w3)=>ck (aE (((w1:Int).toNat)+(w3.length -(w1:Int).toNat)) w3.length)<|some (.inl ((((w1:Int).toNat:Nat):Int),w2,w3))else some (.inr v2))
def jG(a0:pF)(a1:Int):J (List Int):=
 ck (aE (sub ([(-1)]:U Int) 0 1).length 1)<|(qL (sub ([(-1)]:U Int) 0 1) (a0.defs.length:Int)).bind λr1=>ck (cN a1 r1.length)<|(bo r1 ((0:Nat)+a1:Int)).bind λx1=>ck (aE (0+1) ([a1]:U Int).length)<|(iter (eD n a0 r1) n ((0:Int),(r1.set ((0:Nat)+a1:Int).toNat 0),([a1]:U Int))).bind λw4=>ck (aE (sub w4 0 r1.length).length r1.length)<|some (sub w4 0 r1.length)
def cmp_isNaN_string(a0:ByteArray):J Bool:=
 some (!(ByteArray.toList a0==ByteArray.toList a0))
def nJ(a0:ByteArray)(a1:ByteArray):J Int:=
 (cmp_isNaN_string a0).bind λr1=>(cmp_isNaN_string a1).bind λr2=>(bif r1 then(bif r2 then some (0:Int)else some ((-1):Int))else(bif r2 then some (1:Int)else(bif (Vx a0 a1)then some ((-1):Int)else(bif (!(Vx a0 a1 || ByteArray.toList a0==ByteArray.toList a1))then some (1:Int)else some (0:Int)))))
def lI(a0:U ByteArray)(a1:U ByteArray):Stp Int (Unit⊕Int)
 |v1=>(bif decide (v1<(a0.length:Int))then(bo a0 v1).bind λx1=>(bif decide (v1>=(a1.length:Int))then(some (1:Int)).map λa=> .inr (.inr a)else(bo a1 v1).bind λx2=>(nJ x1 x2).bind λr1=>(bif (r1 !=0)then(some r1).map λa=> .inr (.inr a)else some (.inl (i64.wrap (v1+1)))))else some (.inr (.inl ())))
def lJ(a0:U ByteArray)(a1:U ByteArray):J Int:=
 dH (iter (lI a0 a1) n (0:Int)) λ()=>(bif decide ((a0.length:Int)<(a1.length:Int))then some ((-1):Int)else some (0:Int))
def mE(a0:Int)(a1:U Bool):J (Bool×(List Bool)):=
 ck (cN a0 a1.length)<|(bo a1 ((0:Nat)+a0:Int)).bind λx1=>ck (aE a1.length a1.length)<|some ((!x1),a1)
def jH(a0:U Int):Stp (Int×(List Bool)) ((List Bool)⊕(Int×(List Bool)))
 |(v1,v2)=>(bif decide (v1<(a0.length:Int))then(bo a0 v1).bind λx1=>ck (aE v2.length v2.length)<|(mE x1 v2).bind λr1=>(bif r1.1 then(ck (aE r1.2.length r1.2.length)<|some (v1,r1.2)).map λa=> .inr (.inr a)else ck (aE r1.2.length r1.2.length)<|some (.inl ((i64.wrap (v1+1)),r1.2)))else ck (aE v2.length v2.length)<|some (.inr (.inl v2)))
def mO(a0:U Int)(a1:U Bool):J (Int×(List Bool)):=
 ck (aE a1.length a1.length)<|dH (iter (jH a0) n ((0:Int),a1)) λw1=>ck (aE w1.length w1.length)<|some (((-1):Int),w1)
def iq(a0:U Int)(a1:U Bool):J (Bool×(List Bool)):=
 ck (aE a1.length a1.length)<|(mO n a0 a1).bind λr1=>ck (aE r1.2.length r1.2.length)<|some ((decide (r1.1>=0)),r1.2)
def iJ(a0:pF):Stp (Int×Int×(List Bool)) (Int×(List Bool))
 |(v4,v5,v6)=>(bif decide (v5<(a0.uses.length:Int))then((bo a0.uses v5).bind λx1=>ck (aE v6.length v6.length)<|(iq n x1 v6).bind λr1=>(ck (cN v5 r1.2.length)<|(bo r1.2 ((0:Nat)+v5:Int)).bind λx2=>(bif (!x2)then(bif (!r1.1)then(bif decide (v4<0)then some true else(bo a0.defs v5).bind λx3=>(bo a0.defs v4).bind λx4=>some (Vx x3.name x4.name))else some false)else some false)).bind λv7=>(bif v7 then ck (aE r1.2.length r1.2.length)<|some (v5,r1.2)else ck (aE r1.2.length r1.2.length)<|some (v4,r1.2)):J (Int×(List Bool))).bind λ(v8,v9)=>ck (aE v9.length v9.length)<|some (.inl (v8,(i64.wrap (v5+1)),v9))else ck (aE v6.length v6.length)<|some (.inr (v4,v6)))
def kJ(a0:pF):Stp (Int×(List Int)×(List Bool)) (List Int)
 |(v1,v2,v3)=>(bif decide (v1<(a0.defs.length:Int))then ck (aE v3.length v3.length)<|(iter (iJ n a0) n (((-1):Int),(0:Int),v3)).bind λ(w1,w2)=>ck (cN w1 w2.length)<|(bo w2 ((0:Nat)+w1:Int)).bind λx5=>ck (bP v2.length v2.length (sub ([w1]:U Int) 0 1).length 1 8)<|gH (v2++(sub ([w1]:U Int) 0 1)) λr2=>ck (aE r2.length r2.length)<|ck (aE w2.length (w2.set ((0:Nat)+w1:Int).toNat true).length)<|some (.inl ((i64.wrap (v1+1)),r2,(w2.set ((0:Nat)+w1:Int).toNat true)))else ck (aE v2.length v2.length)<|some (.inr v2))
def nK(a0:pF):J (List Int):=
 ck (decide ((a0.defs.length:Int)<=(a0.defs.length:Int))&&(decide (0<=(a0.defs.length:Int))&&xK (a0.defs.length:Int) 1))<|ck (aE 0 ([]:U Int).length)<|ck (aE ((a0.defs.length:Int).toNat) (List.replicate (a0.defs.length:Int).toNat false).length)<|(iter (kJ n a0) n ((0:Int),([]:U Int),(List.replicate (a0.defs.length:Int).toNat false))).bind λw3=>ck (aE (sub w3 0 w3.length).length w3.length)<|some (sub w3 0 w3.length)
def iF(r1:U Int)(x2:U Int):Stp (Int×Int) Int
 |(v3,v4)=>(bif decide (v4<(x2.length:Int))then((bo x2 v4).bind λx3=>(ck (cN x3 r1.length)<|(bo r1 ((0:Nat)+x3:Int)).bind λx4=>(bif decide (x4>=0)then(bif decide (v3<0)then some true else ck (cN x3 r1.length)<|(bo r1 ((0:Nat)+x3:Int)).bind λx5=>ck (cN v3 r1.length)<|(bo r1 ((0:Nat)+v3:Int)).bind λx6=>some (decide (x5<(x6:Int))))else some false)).bind λv5=>(bif v5 then some x3 else some v3):J Int).bind λv6=>some (.inl (v6,(i64.wrap (v4+1))))else some (.inr v3))
def kR(a0:Int)(a1:U eT)(a2:U (List Int))(r1:U Int):Stp (Int×(List ByteArray)) (Unit⊕((List eT)×(List (List Int))×(List ByteArray)))
 |(v1,v2)=>(bo a1 v1).bind λx1=>ck (bP v2.length v2.length (sub ([x1.name]:U ByteArray) 0 1).length 1 16)<|gH (v2++(sub ([x1.name]:U ByteArray) 0 1)) λr2=>(bo a2 v1).bind λx2=>(iter (iF r1 x2) n (((-1):Int),(0:Int))).bind λw1=>(bif decide (w1<0)then(ck (aE 0 ([]:U ByteArray).length)<|some (a1,a2,([]:U ByteArray))).map λa=> .inr (.inr a)else(bif (w1==(a0:Int))then(ck (!(r2.length==0)&&aE r2.length r2.length)<|some (a1,a2,r2)).map λa=> .inr (.inr a)else ck (aE r2.length r2.length)<|some (.inl (w1,r2))))
def jI(a0:Int)(a1:U eT)(a2:U (List Int)):J ((List eT)×(List (List Int))×(List ByteArray)):=
 (jG n (pF.mk a1 a2) a0).bind λr1=>ck (aE 0 ([]:U ByteArray).length)<|dH (iter (kR n a0 a1 a2 r1) n (a0,([]:U ByteArray))) λ()=>none
def gU(a0:U eT):Stp (Int×(List eT)×(List (List Int))×(List ByteArray)) ((List eT)×(List (List Int))×(List ByteArray))
 |(v1,v2,v3,v4)=>(bif decide (v1<(a0.length:Int))then((jI n v1 v2 v3).bind λr1=>((bif r1.2.2.length==0 then some true else some false)).bind λv5=>(bif v5 then ck (aE v4.length v4.length)<|some (r1.1,r1.2.1,v4)else((bif v4.length==0 then some true else(bif decide ((r1.2.2.length:Int)<(v4.length:Int))then some true else(bif ((r1.2.2.length:Int)==(v4.length:Int))then ck (aE (sub r1.2.2 0 r1.2.2.length).length r1.2.2.length)<|ck (aE (sub v4 0 v4.length).length v4.length)<|(lJ n (sub r1.2.2 0 r1.2.2.length) (sub v4 0 v4.length)).bind λr2=>some (decide (r2<0))else some false)))).bind λv6=>(bif v6 then ck (aE r1.2.2.length r1.2.2.length)<|some (r1.1,r1.2.1,r1.2.2)else ck (aE v4.length v4.length)<|some (r1.1,r1.2.1,v4))):J ((List eT)×(List (List Int))×(List ByteArray))).bind λ(v7,v8,v9)=>ck (aE v9.length v9.length)<|some (.inl ((i64.wrap (v1+1)),v7,v8,v9))else ck (aE v4.length v4.length)<|some (.inr (v2,v3,v4)))
def iV(a0:U eT)(a1:U (List Int)):J ((List eT)×(List (List Int))×(List ByteArray)):=
 ck (aE 0 ([]:U ByteArray).length)<|(iter (gU n a0) n ((0:Int),a0,a1,([]:U ByteArray))).bind λ(w1,w2,w3)=>ck (aE w3.length w3.length)<|some (w1,w2,w3)
def nZ(r1:U ByteArray):Stp (Int×(List (ByteArray×Bool))) (List (ByteArray×Bool))
 |(v1,v2)=>(bif decide (v1<(r1.length:Int))then ck (cN v1 r1.length)<|(bo r1 ((0:Nat)+v1:Int)).bind λx1=>some (.inl ((i64.wrap (v1+1)),(nG lw x1 true v2)))else some (.inr v2))
def kV(a0:bU):Stp (Int×(List (ByteArray×Bool))) (Unit⊕((List Int)×(List ByteArray)×Int))
 |(v3,v4)=>(bif decide (v3<(a0.defs.length:Int))then(bo a0.defs v3).bind λx2=>(bif ((fG lw x2.name v4).getD false)then(some (([]:(List Int)),([]:(List ByteArray)),(5:Int))).map λa=> .inr (.inr a)else some (.inl ((i64.wrap (v3+1)),(nG lw x2.name true v4))))else some (.inr (.inl ())))
def jJ(a0:bU):J ((List Int)×(List ByteArray)×Int):=
 (xq).bind λr1=>(iter (nZ r1) n ((0:Int),([]:(List (ByteArray×Bool))))).bind λw1=>dH (iter (kV a0) n ((0:Int),w1)) λ()=>(kU a0.defs).bind λr2=>(iV n r2.1 r2.2).bind λr3=>((bif r3.2.2.length==0 then some false else some true)).bind λv5=>(bif v5 then ck (aE (sub r3.2.2 0 r3.2.2.length).length r3.2.2.length)<|some (([]:(List Int)),(sub r3.2.2 0 r3.2.2.length),(16:Int))else(nK n (pF.mk r3.1 r3.2.1)).bind λr4=>ck (aE (sub r4 0 r4.length).length r4.length)<|some ((sub r4 0 r4.length),([]:(List ByteArray)),(0:Int)))
def oW(a0:U bV):Stp (Int×(List jB)) (List jB)
 |(v1,v2)=>(bif decide (v1<(a0.length:Int))then(bo a0 v1).bind λx1=>ck ((a0.length:Int) !=0)<|(bo a0 (Int.tmod (i64.wrap (v1+1)) (a0.length:Int))).bind λx2=>ck (cN v1 ((a0.length:Int).toNat))<|(bo v2 ((0:Nat)+v1:Int)).bind λx3=>some (.inl ((i64.wrap (v1+1)),(v2.set ((0:Nat)+v1:Int).toNat (jB.mk x1.x x1.y x2.x x2.y))))else some (.inr v2))
def pG(a0:U bV):J (List jB):=
 ck (decide ((a0.length:Int)<=(a0.length:Int))&&(decide (0<=(a0.length:Int))&&xK (a0.length:Int) 32))<|(iter (oW a0) n ((0:Int),(List.replicate (a0.length:Int).toNat (jB.mk 0 0 0 0)))).bind λw1=>ck (aE (sub w1 0 ((a0.length:Int).toNat)).length ((a0.length:Int).toNat))<|some (sub w1 0 ((a0.length:Int).toNat))
def tN(a0:bV):J Bool:=
 (bif decide (0<=(a0.x:Int))then(bif decide (a0.x<=1048576)then(bif decide (0<=(a0.y:Int))then some (decide (a0.y<=1048576))else some false)else some false)else some false)
def gK(a0:jB):J Bool:=
 some (a0.mi==(a0.mA:Int))
def cmp_isNaN_int(a0:Int):J Bool:=
 some (a0 !=(a0:Int))
def cmp_Compare_int(a0:Int)(a1:Int):J Int:=
 (cmp_isNaN_int a0).bind λr1=>(cmp_isNaN_int a1).bind λr2=>(bif r1 then(bif r2 then some (0:Int)else some ((-1):Int))else(bif r2 then some (1:Int)else(bif decide (a0<(a1:Int))then some ((-1):Int)else(bif decide (a0>(a1:Int))then some (1:Int)else some (0:Int)))))
def vJ(a0:U Int):Stp Int (Unit⊕Int)
 |v1=>(bif decide (v1<(a0.length:Int))then(bo a0 v1).bind λx1=>(bif (x1 !=0)then(some x1).map λa=> .inr (.inr a)else some (.inl (i64.wrap (v1+1))))else some (.inr (.inl ())))
def rQ(a0:U Int):J Int:=
 dH (iter (vJ a0) n (0:Int)) λ()=>some (0:Int)
def ru(a0:bV)(a1:bV):J Int:=
 (cmp_Compare_int a0.x a1.x).bind λr1=>(cmp_Compare_int a0.y a1.y).bind λr2=>ck (aE (sub ([r1,r2]:U Int) 0 2).length 2)<|(rQ n (sub ([r1,r2]:U Int) 0 2)).bind λr3=>some r3
def lK(a0:jB)(a1:jB):J Bool:=
 (bif decide ((max (min a0.mi a0.mA) (min a1.mi a1.mA))<=((min (max a0.mi a0.mA) (max a1.mi a1.mA)):Int))then some (decide ((max (min a0.pS a0.ue) (min a1.pS a1.ue))<=((min (max a0.pS a0.ue) (max a1.pS a1.ue)):Int)))else some false)
def qb(a0:U bV)(r1:U jB):Stp Int (Unit⊕Bool)
 |v2=>(bif decide (v2<(r1.length:Int))then ck (cN v2 r1.length)<|(bo r1 ((0:Nat)+v2:Int)).bind λx1=>ck ((r1.length:Int) !=0)<|ck (cN (Int.tmod (i64.wrap (v2+1)) (r1.length:Int)) r1.length)<|(bo r1 ((0:Nat)+(Int.tmod (i64.wrap (v2+1)) (r1.length:Int)):Int)).bind λx2=>((tN (bV.mk x1.mi x1.pS)).bind λr2=>(bif (!r2)then some true else(bif ((x1.mi==(x1.mA:Int))==(x1.pS==(x1.ue:Int)))then some true else(gK x1).bind λr3=>(gK x2).bind λr4=>some (r3==r4)))).bind λv3=>(bif v3 then(some false).map λa=> .inr (.inr a)else((bif decide (v2>0)then(bo a0 0).bind λx3=>(bo a0 v2).bind λx4=>(ru n x3 x4).bind λr5=>some (decide (r5>=0))else some false)).bind λv4=>(bif v4 then(some false).map λa=> .inr (.inr a)else some (.inl (i64.wrap (v2+1)))))else some (.inr (.inl ())))
def iR(r1:U jB)(v5:Int):Stp Int (Unit⊕(Int⊕(Unit⊕Bool)))
 |v6=>(bif decide (v6<(r1.length:Int))then((bif (decide ((i64.wrap ((i64.wrap (v5+(r1.length:Int))) -v6))>1))then ck (cN v5 r1.length)<|(bo r1 ((0:Nat)+v5:Int)).bind λx5=>ck (cN v6 r1.length)<|(bo r1 ((0:Nat)+v6:Int)).bind λx6=>(lK x5 x6).bind λr6=>some r6 else some false)).bind λv7=>(bif v7 then((some false).map λa=> .inr (.inr a)).map λa=> .inr (.inr a)else some (.inl (i64.wrap (v6+1))))else some (.inr (.inl ())))
def qc(r1:U jB):Stp Int (Unit⊕Bool)
 |v5=>(bif decide (v5<(r1.length:Int))then dH (iter (iR r1 v5) n (i64.wrap (v5+2))) λ()=>some (.inl (i64.wrap (v5+1)))else some (.inr (.inl ())))
def vK(a0:U bV):J Bool:=
 ((bif decide ((a0.length:Int)<4)then some true else some (decide ((a0.length:Int)>60)))).bind λv1=>(bif v1 then some false else(pG n a0).bind λr1=>dH (iter (qb n a0 r1) n (0:Int)) λ()=>dH (iter (qc n r1) n (0:Int)) λ()=>ck (cN 0 r1.length)<|(bo r1 ((0:Nat)+0:Int)).bind λx7=>(gK x7).bind λr7=>some (!r7))
def pI(_:Nat)(a0:U Int):J (List Int):=Lq a0
def NT(a0:U Int)(v1:Int):Stp (Int×Int×(List Int)) (Int×(List Int))
 |(v2,v3,v4)=>(bif (decide (v3<((((a0.length -(v1:Int).toNat):Nat):Int):Int)))then(ck (cN v3 (a0.length -(v1:Int).toNat))<|(bo v4 (((0+(v1:Int).toNat):Nat)+v3:Int)).bind λx3=>ck (cN (i64.wrap (v3 -1)) (a0.length -(v1:Int).toNat))<|(bo v4 (((0+(v1:Int).toNat):Nat)+(i64.wrap (v3 -1)):Int)).bind λx4=>(bif (x3 !=(x4:Int))then ck (cN v3 (a0.length -(v1:Int).toNat))<|(bo v4 (((0+(v1:Int).toNat):Nat)+v3:Int)).bind λx5=>ck (cN v2 a0.length)<|(bo v4 ((0:Nat)+v2:Int)).bind λx6=>some ((i64.wrap (v2+1)),(v4.set ((0:Nat)+v2:Int).toNat x5))else some (v2,v4)):J (Int×(List Int))).bind λ(v5,v6)=>some (.inl (v5,(i64.wrap (v3+1)),v6))else some (.inr (v2,v4)))
def NU(a0:U Int):Stp Int (Unit⊕(Unit×(List Int)))
 |v1=>(bif decide (v1<(a0.length:Int))then ck (cN v1 a0.length)<|(bo a0 ((0:Nat)+v1:Int)).bind λx1=>ck (cN (i64.wrap (v1 -1)) a0.length)<|(bo a0 ((0:Nat)+(i64.wrap (v1 -1)):Int)).bind λx2=>(bif (x1==(x2:Int))then ck (sZ v1 (a0.length:Int) a0.length)<|(iter (NT a0 v1) n (v1,(1:Int),a0)).bind λ(w1,w2)=>ck (sZ w1 (a0.length:Int) a0.length)<|ck (sZ 0 w1 a0.length)<|(ck (aE ((w1:Int).toNat) ((w1:Int).toNat))<|ck (aE (sub (w2.take (0+(w1:Int).toNat)) 0 ((w1:Int).toNat)).length ((w1:Int).toNat))<|some ((),(sub (w2.take (0+(w1:Int).toNat)) 0 ((w1:Int).toNat)))).map λa=> .inr (.inr a)else some (.inl (i64.wrap (v1+1))))else some (.inr (.inl ())))
def pJ(a0:U Int):J (Unit×(List Int)):=
 (bif decide ((a0.length:Int)<2)then ck (aE a0.length a0.length)<|ck (aE (sub a0 0 a0.length).length a0.length)<|some ((),(sub a0 0 a0.length))else dH (iter (NU n a0) n (1:Int)) λ()=>ck (aE a0.length a0.length)<|ck (aE (sub a0 0 a0.length).length a0.length)<|some ((),(sub a0 0 a0.length)))
def lM(a0:U bV):Stp (Int×(List Int)) (List Int)
 |(v1,v2)=>(bif decide (v1<(a0.length:Int))then(bo a0 v1).bind λx1=>ck (bP v2.length v2.length (sub ([x1.x]:U Int) 0 1).length 1 8)<|gH (v2++(sub ([x1.x]:U Int) 0 1)) λr2=>ck (aE r2.length r2.length)<|some (.inl ((i64.wrap (v1+1)),r2))else ck (aE v2.length v2.length)<|some (.inr v2))
def lN(r4:Unit×(List Int))(r5:U jB)(v3:Int):Stp (Int×(List Int)) (List Int)
 |(v5,v6)=>(bif decide (v5<(r5.length:Int))then(ck (cN v5 r5.length)<|(bo r5 ((0:Nat)+v5:Int)).bind λx2=>((gK x2).bind λr6=>(bif (!r6)then ck (cN v3 r4.2.length)<|(bo r4.2 ((0:Nat)+v3:Int)).bind λx3=>(bif decide ((min x2.mi x2.mA)<=(x3:Int))then ck (cN v3 r4.2.length)<|(bo r4.2 ((0:Nat)+v3:Int)).bind λx4=>some (decide (x4<((max x2.mi x2.mA):Int)))else some false)else some false)).bind λv7=>(bif v7 then ck (bP v6.length v6.length (sub ([x2.pS]:U Int) 0 1).length 1 8)<|gH (v6++(sub ([x2.pS]:U Int) 0 1)) λr7=>ck (aE r7.length r7.length)<|some r7 else ck (aE v6.length v6.length)<|some v6):J ((List Int))).bind λv8=>ck (aE v8.length v8.length)<|some (.inl ((i64.wrap (v5+1)),v8))else ck (aE v6.length v6.length)<|some (.inr v6))
def ji(r4:Unit×(List Int))(v3:Int)(w2:U Int)(r8:U Int):Stp (Int×(List aA)) (List aA)
 |(v9,v10)=>(bif decide ((i64.wrap (v9+1))<(w2.length:Int))then ck (cN v3 r4.2.length)<|(bo r4.2 ((0:Nat)+v3:Int)).bind λx5=>ck (cN v9 w2.length)<|(bo r8 ((0:Nat)+v9:Int)).bind λx6=>ck (cN (i64.wrap (v3+1)) r4.2.length)<|(bo r4.2 ((0:Nat)+(i64.wrap (v3+1)):Int)).bind λx7=>ck (cN (i64.wrap (v9+1)) w2.length)<|(bo r8 ((0:Nat)+(i64.wrap (v9+1)):Int)).bind λx8=>ck (bP v10.length v10.length (sub ([(aA.mk x5 x6 x7 x8)]:U aA) 0 1).length 1 32)<|gH (v10++(sub ([(aA.mk x5 x6 x7 x8)]:U aA) 0 1)) λr9=>ck (aE r9.length r9.length)<|some (.inl ((i64.wrap (v9+2)),r9))else ck (aE v10.length v10.length)<|some (.inr v10))
def lQ(r4:Unit×(List Int))(r5:U jB):Stp (Int×(List aA)) (List aA)
 |(v3,v4)=>(bif (decide (v3<((i64.wrap ((r4.2.length:Int) -1)):Int)))then ck (aE 0 ([]:U Int).length)<|(iter (lN r4 r5 v3) n ((0:Int),([]:U Int))).bind λw2=>ck (aE w2.length w2.length)<|(pI n w2).bind λr8=>ck (aE v4.length v4.length)<|(iter (ji r4 v3 w2 r8) n ((0:Int),v4)).bind λw3=>ck (aE w3.length w3.length)<|some (.inl ((i64.wrap (v3+1)),w3))else ck (aE v4.length v4.length)<|some (.inr v4))
def tO(a0:U bV):J ((List aA)×Int):=
 (vK n a0).bind λr1=>(bif (!r1)then some (([]:(List aA)),(10:Int))else ck (aE 0 ([]:U Int).length)<|(iter (lM a0) n ((0:Int),([]:U Int))).bind λw1=>ck (aE w1.length w1.length)<|(pI n w1).bind λr3=>ck (aE w1.length r3.length)<|(pJ n r3).bind λr4=>(pG n a0).bind λr5=>ck (aE 0 ([]:U aA).length)<|(iter (lQ n r4 r5) n ((0:Int),([]:U aA))).bind λw4=>(bif decide ((w4.length:Int)>200)then some (([]:(List aA)),(6:Int))else ck (aE (sub w4 0 w4.length).length w4.length)<|some ((sub w4 0 w4.length),(0:Int))))
def tQ(a0:dN):J (List aA):=
 (tO n a0.corners).bind λr1=>(bif (r1.2 !=0)then some ([]:(List aA))else ck (aE (sub r1.1 0 r1.1.length).length r1.1.length)<|some (sub r1.1 0 r1.1.length))
def nL(a0:aA):J Bool:=
 (bif decide (0<=(a0.x0:Int))then(bif decide (a0.x0<(a0.x1:Int))then(bif decide (a0.x1<=1048576)then(bif decide (0<=(a0.y0:Int))then(bif decide (a0.y0<(a0.y1:Int))then some (decide (a0.y1<=1048576))else some false)else some false)else some false)else some false)else some false)
def sH(a0:aA):J (aA×Bool):=
 (nL a0).bind λr1=>(bif r1 then some (a0,true)else some ((aA.mk 0 0 0 0),false))
def sI(a0:aA)(a1:aA):J (aA×Bool):=
 ((nL a0).bind λr1=>(bif (!r1)then some true else(nL a1).bind λr2=>some (!r2))).bind λv1=>(bif v1 then some ((aA.mk 0 0 0 0),false)else(sH (aA.mk (max a0.x0 a1.x0) (max a0.y0 a1.y0) (min a0.x1 a1.x1) (min a0.y1 a1.y1))).bind λr3=>some (r3.1,r3.2))
def oU(a0:aA):J Int:=
 (sH a0).bind λr1=>some (i64.wrap ((i64.wrap (r1.1.x1 -r1.1.x0))*(i64.wrap (r1.1.y1 -r1.1.y0))))
def qd(a1:U aA)(x1:aA):Stp (Int×Int×Int×Int) (Int×Int×Int)
 |(v5,v6,v7,v8)=>(bif decide (v6<(a1.length:Int))then((bo a1 v6).bind λx2=>(sI x1 x2).bind λr1=>(bif (!r1.2)then some (v5,v7,v8)else(oU r1.1).bind λr2=>(cmp_Compare_int r1.1.x0 v7).bind λr3=>(cmp_Compare_int r1.1.y0 v8).bind λr4=>ck (aE (sub ([r3,r4]:U Int) 0 2).length 2)<|(rQ n (sub ([r3,r4]:U Int) 0 2)).bind λr5=>(bif decide (r5<0)then some ((i64.wrap (v5+r2)),r1.1.x0,r1.1.y0)else some ((i64.wrap (v5+r2)),v7,v8))):J (Int×Int×Int)).bind λ(v9,v10,v11)=>some (.inl (v9,(i64.wrap (v6+1)),v10,v11))else some (.inr (v5,v7,v8)))
def qf(a0:U aA)(a1:U aA):Stp (Int×Int×Int×Int) (Int×Int×Int)
 |(v1,v2,v3,v4)=>(bif decide (v2<(a0.length:Int))then(bo a0 v2).bind λx1=>(iter (qd n a1 x1) n (v1,(0:Int),v3,v4)).bind λ(w1,w2,w3)=>some (.inl (w1,(i64.wrap (v2+1)),w2,w3))else some (.inr (v1,v3,v4)))
def qM(a0:U aA)(a1:U aA):J (Int×bV):=
 (iter (qf n a0 a1) n ((0:Int),(0:Int),(1048576:Int),(0:Int))).bind λ(w4,w5,w6)=>some (w4,(bV.mk w5 w6))
def oZ(a0:bU):Stp (Int×(List (List aA))) (List (List aA))
 |(v1,v2)=>(bif decide (v1<(a0.zones.length:Int))then((bo a0.zones v1).bind λx1=>(bif (!x1.overlay)then(tQ n x1).bind λr1=>ck (cN v1 ((a0.zones.length:Int).toNat))<|ck (aE (sub r1 0 r1.length).length r1.length)<|(bo v2 ((0:Nat)+v1:Int)).bind λx2=>some (v2.set ((0:Nat)+v1:Int).toNat (sub r1 0 r1.length))else some v2):J ((List (List aA)))).bind λv3=>some (.inl ((i64.wrap (v1+1)),v3))else some (.inr v2))
def jk(a0:bU)(w1:U (List aA))(v4:Int):Stp Int (Unit⊕(Int⊕(Unit⊕((List Int)×bV×Bool))))
 |v5=>(bif (decide (v5<((((a0.zones.length:Int).toNat:Nat):Int):Int)))then ck (cN v4 ((a0.zones.length:Int).toNat))<|(bo w1 ((0:Nat)+v4:Int)).bind λx3=>ck (cN v5 ((a0.zones.length:Int).toNat))<|(bo w1 ((0:Nat)+v5:Int)).bind λx4=>(qM n x3 x4).bind λr2=>(bif decide (r2.1>0)then((ck (aE (sub ([v4,v5]:U Int) 0 2).length 2)<|some ((sub ([v4,v5]:U Int) 0 2),r2.2,true)).map λa=> .inr (.inr a)).map λa=> .inr (.inr a)else some (.inl (i64.wrap (v5+1))))else some (.inr (.inl ())))
def o6(a0:bU)(w1:U (List aA)):Stp Int (Unit⊕((List Int)×bV×Bool))
 |v4=>(bif (decide (v4<((((a0.zones.length:Int).toNat:Nat):Int):Int)))then dH (iter (jk n a0 w1 v4) n (i64.wrap (v4+1))) λ()=>some (.inl (i64.wrap (v4+1)))else some (.inr (.inl ())))
def pK(a0:bU):J ((List Int)×bV×Bool):=
 ck (decide ((a0.zones.length:Int)<=(a0.zones.length:Int))&&(decide (0<=(a0.zones.length:Int))&&xK (a0.zones.length:Int) 24))<|(iter (oZ n a0) n ((0:Int),(List.replicate (a0.zones.length:Int).toNat ([])))).bind λw1=>dH (iter (o6 n a0 w1) n (0:Int)) λ()=>some (([]:(List Int)),(bV.mk 0 0),false)
def gL(a0:kz)(r3:(List Int)×bV×Bool):Stp (Int×Int×Int×Int×Int×Int×Int×Int×Int×(List ByteArray)) (Int×Int×Int×Int×Int×Int×Int×Int×(List ByteArray))
 |(v2,v3,v4,v5,v6,v7,v8,v9,v10,v11)=>(bif decide (v2<(r3.1.length:Int))then ck (cN v2 r3.1.length)<|(bo r3.1 ((0:Nat)+v2:Int)).bind λx1=>(bo a0.b7 x1).bind λx2=>ck (bP v11.length v11.length (sub ([x2.name]:U ByteArray) 0 1).length 1 16)<|gH (v11++(sub ([x2.name]:U ByteArray) 0 1)) λr4=>ck (aE r4.length r4.length)<|some (.inl ((i64.wrap (v2+1)),v3,v4,v5,v6,v7,v8,v9,v10,r4))else ck (aE v11.length v11.length)<|some (.inr (v3,v4,v5,v6,v7,v8,v9,v10,v11)))
def fI(a0:kz):J (List bf):=
 ((jJ n (bU.mk a0.cw a0.b8 a0.b7 a0.ci a0.cx a0.cg a0.cD a0.cj)).bind λr1=>(bif (r1.2.2==16)then ck (bP 0 0 (sub ([(bf.mk 3 0 r1.2.1 0 0 0 0 0 0)]:U bf) 0 1).length 1 88)<|gH ((sub ([(bf.mk 3 0 r1.2.1 0 0 0 0 0 0)]:U bf) 0 1)) λr2=>ck (aE r2.length r2.length)<|some r2 else ck (aE 0 ([]:U bf).length)<|some ([]:U bf)):J ((List bf))).bind λv1=>((pK n (bU.mk a0.cw a0.b8 a0.b7 a0.ci a0.cx a0.cg a0.cD a0.cj)).bind λr3=>(bif r3.2.2 then ck (aE 0 ([]:U ByteArray).length)<|(iter (gL a0 r3) n ((0:Int),(2:Int),(0:Int),(0:Int),(0:Int),(0:Int),(0:Int),r3.2.1.x,r3.2.1.y,([]:U ByteArray))).bind λ(w1,w2,w3,w4,w5,w6,w7,w8,w9)=>ck (aE (sub w9 0 w9.length).length w9.length)<|ck (bP v1.length v1.length (sub ([(bf.mk w1 w2 (sub w9 0 w9.length) w3 w4 w5 w6 w7 w8)]:U bf) 0 1).length 1 88)<|gH (v1++(sub ([(bf.mk w1 w2 (sub w9 0 w9.length) w3 w4 w5 w6 w7 w8)]:U bf) 0 1)) λr5=>ck (aE r5.length r5.length)<|some r5 else ck (aE v1.length v1.length)<|some v1):J ((List bf))).bind λv12=>ck (aE (sub v12 0 v12.length).length v12.length)<|some (sub v12 0 v12.length)
def NV(a0:Unit)(a1:Int):J (List aA):=
 (bif decide (a1<0)then none else(bif (decide ((i64.wrap (a1 -(i64.wrap (0 -0))))>0))then ck (xK (i64.wrap (a1 -(i64.wrap (0 -0)))) 32)<|ck (sZ 0 0 ((i64.wrap (a1 -(i64.wrap (0 -0)))).toNat))<|ck (aE (sub (List.replicate (i64.wrap (a1 -(i64.wrap (0 -0)))).toNat (aA.mk 0 0 0 0)) 0 0).length 0)<|some (sub (List.replicate (i64.wrap (a1 -(i64.wrap (0 -0)))).toNat (aA.mk 0 0 0 0)) 0 0)else some ([]:(List aA))))
def NW(a0:U (List aA)):Stp (Int×Int) Int
 |(v1,v2)=>(bif decide (v2<(a0.length:Int))then(bo a0 v2).bind λx1=>(bif decide ((i64.wrap (v1+(x1.length:Int)))<0)then none else some (.inl ((i64.wrap (v1+(x1.length:Int))),(i64.wrap (v2+1)))))else some (.inr v1))
def NY(a0:U (List aA)):Stp (Int×(List aA)) (List aA)
 |(v3,v4)=>(bif decide (v3<(a0.length:Int))then(bo a0 v3).bind λx2=>ck (bP v4.length v4.length x2.length x2.length 32)<|gH (v4++x2) λr2=>ck (aE r2.length r2.length)<|some (.inl ((i64.wrap (v3+1)),r2))else ck (aE v4.length v4.length)<|some (.inr v4))
def yZ(a0:U (List aA)):J (List aA):=
 (iter (NW a0) n ((0:Int),(0:Int))).bind λw1=>(NV () w1).bind λr1=>ck (aE r1.length r1.length)<|(iter (NY a0) n ((0:Int),r1)).bind λw2=>ck (aE (sub w2 0 w2.length).length w2.length)<|some (sub w2 0 w2.length)
def vg(_:Nat)(a0:U aP)(a1:(aP×aP×Unit)->J Int):J (List aP):=GP a0 a1
def xQ(a0:aP)(a1:aP):J Int:=
 (cmp_Compare_int a0.from_ a1.from_).bind λr1=>some r1
def tT(a0:U aA)(a1:Int):Stp (Int×(List aP)) (List aP)
 |(v1,v2)=>(bif decide (v1<(a0.length:Int))then((bo a0 v1).bind λx1=>((bif decide (x1.x0<=(a1:Int))then some (decide (a1<(x1.x1:Int)))else some false)).bind λv3=>(bif v3 then ck (bP v2.length v2.length (sub ([(aP.mk x1.y0 x1.y1)]:U aP) 0 1).length 1 16)<|gH (v2++(sub ([(aP.mk x1.y0 x1.y1)]:U aP) 0 1)) λr1=>ck (aE r1.length r1.length)<|some r1 else ck (aE v2.length v2.length)<|some v2):J ((List aP))).bind λv4=>ck (aE v4.length v4.length)<|some (.inl ((i64.wrap (v1+1)),v4))else ck (aE v2.length v2.length)<|some (.inr v2))
def tV(w1:U aP)(r2:U aP):Stp (Int×(List aP)) (List aP)
 |(v5,v6)=>(bif decide (v5<(w1.length:Int))then(ck (cN v5 w1.length)<|(bo r2 ((0:Nat)+v5:Int)).bind λx2=>((bif decide ((v6.length:Int)>0)then ck (cN (i64.wrap ((v6.length:Int) -1)) v6.length)<|(bo v6 ((0:Nat)+(i64.wrap ((v6.length:Int) -1)):Int)).bind λx3=>some (decide (x2.from_<=(x3.to:Int)))else some false)).bind λv7=>(bif v7 then ck (cN (i64.wrap ((v6.length:Int) -1)) v6.length)<|(bo v6 ((0:Nat)+(i64.wrap ((v6.length:Int) -1)):Int)).bind λx4=>ck (cN (i64.wrap ((v6.length:Int) -1)) v6.length)<|(bo v6 ((0:Nat)+(i64.wrap ((v6.length:Int) -1)):Int)).bind λx5=>ck (aE v6.length (v6.set ((0:Nat)+(i64.wrap ((v6.length:Int) -1)):Int).toNat (aP.mk x5.from_ (max x4.to x2.to))).length)<|some (v6.set ((0:Nat)+(i64.wrap ((v6.length:Int) -1)):Int).toNat (aP.mk x5.from_ (max x4.to x2.to)))else ck (bP v6.length v6.length (sub ([x2]:U aP) 0 1).length 1 16)<|gH (v6++(sub ([x2]:U aP) 0 1)) λr3=>ck (aE r3.length r3.length)<|some r3):J ((List aP))).bind λv8=>ck (aE v8.length v8.length)<|some (.inl ((i64.wrap (v5+1)),v8))else ck (aE v6.length v6.length)<|some (.inr v6))
def Ke(a0:U aA)(a1:Int):J (List aP):=
 ck (aE 0 ([]:U aP).length)<|(iter (tT a0 a1) n ((0:Int),([]:U aP))).bind λw1=>ck (aE w1.length w1.length)<|(vg n w1 (λ (y1:aP×aP×Unit)=>xQ y1.1 y1.2.1)).bind λr2=>ck (aE 0 ([]:U aP).length)<|(iter (tV w1 r2) n ((0:Int),([]:U aP))).bind λw2=>ck (aE (sub w2 0 w2.length).length w2.length)<|some (sub w2 0 w2.length)
def tX(r1:U aA):Stp (Int×(List Int)) (List Int)
 |(v1,v2)=>(bif decide (v1<(r1.length:Int))then ck (cN v1 r1.length)<|(bo r1 ((0:Nat)+v1:Int)).bind λx1=>ck (bP v2.length v2.length (sub ([x1.x0,x1.x1]:U Int) 0 2).length 2 8)<|gH (v2++(sub ([x1.x0,x1.x1]:U Int) 0 2)) λr2=>ck (aE r2.length r2.length)<|some (.inl ((i64.wrap (v1+1)),r2))else ck (aE v2.length v2.length)<|some (.inr v2))
def tY(r1:U aA)(r4:Unit×(List Int)):Stp (Int×(List cB)) (List cB)
 |(v3,v4)=>(bif decide (v3<(r4.2.length:Int))then ck (cN (i64.wrap (v3 -1)) r4.2.length)<|(bo r4.2 ((0:Nat)+(i64.wrap (v3 -1)):Int)).bind λx2=>ck (cN v3 r4.2.length)<|(bo r4.2 ((0:Nat)+v3:Int)).bind λx3=>ck (cN (i64.wrap (v3 -1)) r4.2.length)<|(bo r4.2 ((0:Nat)+(i64.wrap (v3 -1)):Int)).bind λx4=>ck (aE (sub r1 0 r1.length).length r1.length)<|(Ke n (sub r1 0 r1.length) x4).bind λr5=>ck (aE (sub r5 0 r5.length).length r5.length)<|ck (bP v4.length v4.length (sub ([(cB.mk x2 x3 (sub r5 0 r5.length))]:U cB) 0 1).length 1 40)<|gH (v4++(sub ([(cB.mk x2 x3 (sub r5 0 r5.length))]:U cB) 0 1)) λr6=>ck (aE r6.length r6.length)<|some (.inl ((i64.wrap (v3+1)),r6))else ck (aE v4.length v4.length)<|some (.inr v4))
def oJ(a0:U (List aA)):J (List cB):=
 (yZ n a0).bind λr1=>ck (aE 0 ([]:U Int).length)<|(iter (tX r1) n ((0:Int),([]:U Int))).bind λw1=>ck (aE w1.length w1.length)<|(pI n w1).bind λr3=>ck (aE w1.length r3.length)<|(pJ n r3).bind λr4=>ck (aE 0 ([]:U cB).length)<|(iter (tY n r1 r4) n ((1:Int),([]:U cB))).bind λw2=>ck (aE (sub w2 0 w2.length).length w2.length)<|some (sub w2 0 w2.length)
def Qj(a0:U aP)(a1:U aP):Stp Int (Unit⊕Bool)
 |v1=>(bif decide (v1<(a0.length:Int))then(bo a0 v1).bind λx1=>(bo a1 v1).bind λx2=>(bif (!((x1.from_==(x2.from_:Int))&&((x1.to==(x2.to:Int))&&true)))then(some false).map λa=> .inr (.inr a)else some (.inl (i64.wrap (v1+1))))else some (.inr (.inl ())))
def vL(a0:U aP)(a1:U aP):J Bool:=
 (bif ((a0.length:Int) !=(a1.length:Int))then some false else dH (iter (Qj a0 a1) n (0:Int)) λ()=>some true)
def sJ(a0:U cB)(v1:Int):Stp Int Int
 |v3=>((bif decide (v3<(a0.length:Int))then(bo a0 v3).bind λx1=>(bo a0 v1).bind λx2=>(vL n x1.column x2.column).bind λr1=>some r1 else some false)).bind λv4=>(bif v4 then some (.inl (i64.wrap (v3+1)))else some (.inr v3))
def wG(a0:U cB)(v1:Int)(w1:Int)(x3:cB):Stp (Int×(List aA)) (List aA)
 |(v5,v6)=>(bif decide (v5<(x3.column.length:Int))then(bo x3.column v5).bind λx4=>(bo a0 v1).bind λx5=>(bo a0 (i64.wrap (w1 -1))).bind λx6=>ck (bP v6.length v6.length (sub ([(aA.mk x5.x0 x4.from_ x6.x1 x4.to)]:U aA) 0 1).length 1 32)<|gH (v6++(sub ([(aA.mk x5.x0 x4.from_ x6.x1 x4.to)]:U aA) 0 1)) λr2=>ck (aE r2.length r2.length)<|some (.inl ((i64.wrap (v5+1)),r2))else ck (aE v6.length v6.length)<|some (.inr v6))
def wH(a0:U cB):Stp (Int×(List aA)) (List aA)
 |(v1,v2)=>(bif decide (v1<(a0.length:Int))then(iter (sJ n a0 v1) n (i64.wrap (v1+1))).bind λw1=>(bo a0 v1).bind λx3=>ck (aE v2.length v2.length)<|(iter (wG a0 v1 w1 x3) n ((0:Int),v2)).bind λw2=>ck (aE w2.length w2.length)<|some (.inl (w1,w2))else ck (aE v2.length v2.length)<|some (.inr v2))
def IE(a0:U cB):J (List aA):=
 ck (aE 0 ([]:U aA).length)<|(iter (wH n a0) n ((0:Int),([]:U aA))).bind λw3=>ck (aE (sub w3 0 w3.length).length w3.length)<|some (sub w3 0 w3.length)
def y5(a0:U aA):J ((List aA)×Int):=
 (bif decide ((a0.length:Int)>200)then some (([]:(List aA)),(6:Int))else some (a0,(0:Int)))
def NZ(a0:U aA):Stp Int (Unit⊕((List aA)×Int))
 |v1=>(bif decide (v1<(a0.length:Int))then(bo a0 v1).bind λx1=>(nL x1).bind λr1=>(bif (!r1)then(some (([]:(List aA)),(1:Int))).map λa=> .inr (.inr a)else some (.inl (i64.wrap (v1+1))))else some (.inr (.inl ())))
def O2(a0:U aA):J ((List aA)×Int):=
 dH (iter (NZ a0) n (0:Int)) λ()=>(bif decide ((a0.length:Int)>400)then some (([]:(List aA)),(6:Int))else ck (aE (sub ([a0]:U (List aA)) 0 1).length 1)<|(oJ n (sub ([a0]:U (List aA)) 0 1)).bind λr2=>ck (aE (sub r2 0 r2.length).length r2.length)<|(IE n (sub r2 0 r2.length)).bind λr3=>ck (aE (sub r3 0 r3.length).length r3.length)<|(y5 (sub r3 0 r3.length)).bind λr4=>some (r4.1,r4.2))
def Qk(a0:U aA)(a1:U aA):Stp Int (Unit⊕Bool)
 |v1=>(bif decide (v1<(a0.length:Int))then(bo a0 v1).bind λx1=>(bo a1 v1).bind λx2=>(bif (!((x1.x0==(x2.x0:Int))&&((x1.y0==(x2.y0:Int))&&((x1.x1==(x2.x1:Int))&&((x1.y1==(x2.y1:Int))&&true)))))then(some false).map λa=> .inr (.inr a)else some (.inl (i64.wrap (v1+1))))else some (.inr (.inl ())))
def oK(a0:U aA)(a1:U aA):J Bool:=
 (bif ((a0.length:Int) !=(a1.length:Int))then some false else dH (iter (Qk a0 a1) n (0:Int)) λ()=>some true)
def og(a0:U aA):J Bool:=
 (O2 n a0).bind λr1=>(bif (r1.2==0)then(oK n r1.1 a0).bind λr2=>some r2 else some false)
def qg(a0:bU)(a1:U aA):Stp (Int×(List Int)) (List Int)
 |(v1,v2)=>(bif decide (v1<(a0.zones.length:Int))then(bo a0.zones v1).bind λx1=>(tQ n x1).bind λr2=>ck (aE (sub r2 0 r2.length).length r2.length)<|(qM n a1 (sub r2 0 r2.length)).bind λr3=>ck (bP v2.length v2.length (sub ([r3.1]:U Int) 0 1).length 1 8)<|gH (v2++(sub ([r3.1]:U Int) 0 1)) λr4=>ck (aE r4.length r4.length)<|some (.inl ((i64.wrap (v1+1)),r4))else ck (aE v2.length v2.length)<|some (.inr v2))
def vM(a0:bU)(a1:U aA):J (List Int):=
 (og n a1).bind λr1=>(bif (!r1)then some ([]:(List Int))else ck (aE 0 ([]:U Int).length)<|(iter (qg n a0 a1) n ((0:Int),([]:U Int))).bind λw1=>ck (aE (sub w1 0 w1.length).length w1.length)<|some (sub w1 0 w1.length))
def qh(a0:bU)(r1:U Int):Stp (Int×Int) Int
 |(v1,v2)=>(bif decide (v2<(r1.length:Int))then(ck (cN v2 r1.length)<|(bo r1 ((0:Nat)+v2:Int)).bind λx1=>((bo a0.zones v2).bind λx2=>(bif (!x2.overlay)then(bif decide (x1>0)then(bif decide (v1<0)then some true else ck (cN v1 r1.length)<|(bo r1 ((0:Nat)+v1:Int)).bind λx3=>some (decide (x1>(x3:Int))))else some false)else some false)).bind λv3=>(bif v3 then some v2 else some v1):J Int).bind λv4=>some (.inl (v4,(i64.wrap (v2+1))))else some (.inr v1))
def xR(a0:bU)(r1:U Int)(w1:Int):Stp (Int×(List ByteArray)) (List ByteArray)
 |(v5,v6)=>(bif decide (v5<(r1.length:Int))then(ck (cN v5 r1.length)<|(bo r1 ((0:Nat)+v5:Int)).bind λx4=>((bif (v5==(w1:Int))then some true else(bo a0.zones v5).bind λx5=>(bif x5.overlay then some (decide (x4>0))else some false))).bind λv7=>(bif v7 then(bo a0.zones v5).bind λx6=>ck (bP v6.length v6.length (sub ([x6.name]:U ByteArray) 0 1).length 1 16)<|gH (v6++(sub ([x6.name]:U ByteArray) 0 1)) λr2=>ck (aE r2.length r2.length)<|some r2 else ck (aE v6.length v6.length)<|some v6):J ((List ByteArray))).bind λv8=>ck (aE v8.length v8.length)<|some (.inl ((i64.wrap (v5+1)),v8))else ck (aE v6.length v6.length)<|some (.inr v6))
def sK(a0:bU)(a1:U aA):J (List ByteArray):=
 (vM n a0 a1).bind λr1=>(iter (qh a0 r1) n (((-1):Int),(0:Int))).bind λw1=>ck (aE 0 ([]:U ByteArray).length)<|(iter (xR a0 r1 w1) n ((0:Int),([]:U ByteArray))).bind λw2=>ck (aE (sub w2 0 w2.length).length w2.length)<|some (sub w2 0 w2.length)
def nM(a0:U ByteArray)(a1:ByteArray):Stp Int (Unit⊕Int)
 |v1=>(bif decide (v1<(a0.length:Int))then(bo a0 v1).bind λx1=>(bif (ByteArray.toList a1==ByteArray.toList x1)then(some v1).map λa=> .inr (.inr a)else some (.inl (i64.wrap (v1+1))))else some (.inr (.inl ())))
def rz(a0:U ByteArray)(a1:ByteArray):J Int:=
 dH (iter (nM a0 a1) n (0:Int)) λ()=>some ((-1):Int)
def fJ(a0:U ByteArray)(a1:ByteArray):J Bool:=
 (rz n a0 a1).bind λr1=>some (decide (r1>=0))
def jZ(a0:ByteArray)(a1:U ByteArray):J Bool:=
 (fJ n a1 a0).bind λr1=>some r1
def EF(a0:U ByteArray)(a1:(ByteArray×Unit)->J Bool):Stp Int (Unit⊕Int)
 |v1=>(bif decide (v1<(a0.length:Int))then(bo a0 v1).bind λx1=>(a1 (x1,())).bind λr1=>(bif r1 then(some v1).map λa=> .inr (.inr a)else some (.inl (i64.wrap (v1+1))))else some (.inr (.inl ())))
def qz(a0:U ByteArray)(a1:(ByteArray×Unit)->J Bool):J Int:=
 dH (iter (EF a0 a1) n (0:Int)) λ()=>some ((-1):Int)
def fO(a0:U ByteArray)(a1:(ByteArray×Unit)->J Bool):J Bool:=
 (qz n a0 a1).bind λr1=>some (decide (r1>=0))
def qN(a0:bK)(a1:U ByteArray):J Bool:=
 (bif ((a0.zones.length:Int)==0)then(fO n a0.except (λ (y1:ByteArray×Unit)=>jZ n y1.1 a1)).bind λr1=>some (!r1)else(fO n a0.zones (λ (y2:ByteArray×Unit)=>jZ n y2.1 a1)).bind λr2=>(bif r2 then(fO n a0.except (λ (y3:ByteArray×Unit)=>jZ n y3.1 a1)).bind λr3=>some (!r3)else some false))
def rC(a0:bU)(a1:U ByteArray)(a2:Int):Stp (Int×(List Int)) (List Int)
 |(v1,v2)=>(bif decide (v1<(a0.rules.length:Int))then((bo a0.rules v1).bind λx1=>((bif decide (x1.from_<=(a2:Int))then(bif (x1.jj==0)then(qN n x1 a1).bind λr1=>some r1 else(bif decide (a2<(x1.jj:Int))then(qN n x1 a1).bind λr2=>some r2 else some false))else some false)).bind λv3=>(bif v3 then ck (bP v2.length v2.length (sub ([v1]:U Int) 0 1).length 1 8)<|gH (v2++(sub ([v1]:U Int) 0 1)) λr3=>ck (aE r3.length r3.length)<|some r3 else ck (aE v2.length v2.length)<|some v2):J ((List Int))).bind λv4=>ck (aE v4.length v4.length)<|some (.inl ((i64.wrap (v1+1)),v4))else ck (aE v2.length v2.length)<|some (.inr v2))
def nN(a0:bU)(a1:U ByteArray)(a2:Int):J (List Int):=
 ck (aE 0 ([]:U Int).length)<|(iter (rC n a0 a1 a2) n ((0:Int),([]:U Int))).bind λw1=>ck (aE (sub w1 0 w1.length).length w1.length)<|some (sub w1 0 w1.length)
def Al(a0:U aA):Stp (Bool×Int×Int×Int×Int×Int) (Bool×Int×Int×Int×Int)
 |(v1,v2,v3,v4,v5,v6)=>(bif decide (v2<(a0.length:Int))then((bo a0 v2).bind λx1=>(nL x1).bind λr1=>(bif (!r1)then some (v1,v3,v4,v5,v6)else(bif (!v1)then some (true,x1.x0,x1.y0,x1.x1,x1.y1)else some (v1,(min v3 x1.x0),(min v4 x1.y0),(max v5 x1.x1),(max v6 x1.y1)))):J (Bool×Int×Int×Int×Int)).bind λ(v7,v8,v9,v10,v11)=>some (.inl (v7,(i64.wrap (v2+1)),v8,v9,v10,v11))else some (.inr (v1,v3,v4,v5,v6)))
def N7(a0:U aA):J (aA×Bool):=
 (iter (Al a0) n (false,(0:Int),(0:Int),(0:Int),(0:Int),(0:Int))).bind λ(w1,w2,w3,w4,w5)=>some ((aA.mk w2 w3 w4 w5),w1)
def Da(a0:U aA):J (aA×Bool):=
 ((bif ((a0.length:Int)==0)then some true else(og n a0).bind λr1=>some (!r1))).bind λv1=>(bif v1 then some ((aA.mk 0 0 0 0),false)else(N7 n a0).bind λr2=>some (r2.1,r2.2))
def IG(a0:aA)(a1:Int):J (aA×Bool):=
 ((nL a0).bind λr1=>(bif (!r1)then some true else some (decide (a1<0)))).bind λv1=>(bif v1 then some ((aA.mk 0 0 0 0),false)else(sH (aA.mk (i64.wrap (a0.x0+(min a1 (1048576:Int)))) (i64.wrap (a0.y0+(min a1 (1048576:Int)))) (i64.wrap (a0.x1 -(min a1 (1048576:Int)))) (i64.wrap (a0.y1 -(min a1 (1048576:Int)))))).bind λr2=>some (r2.1,r2.2))
def lT(a0:U cB)(a1:Int)(a2:(cB×Int×Unit)->J Int):Stp (Int×Int) Int
 |(v1,v2)=>(bif decide (v1<(v2:Int))then ck (decide (0<=1)&&decide (1<=IntKind.u64.bits))<|(bo a0 (i64.wrap ((IntKind.u64.wrap (i64.wrap (v1+v2)))/2 ^ (1:Int).toNat))).bind λx1=>(a2 (x1,a1,())).bind λr1=>(bif decide (r1<0)then some (.inl ((i64.wrap ((i64.wrap ((IntKind.u64.wrap (i64.wrap (v1+v2)))/2 ^ (1:Int).toNat))+1)),v2))else some (.inl (v1,(i64.wrap ((IntKind.u64.wrap (i64.wrap (v1+v2)))/2 ^ (1:Int).toNat)))))else some (.inr v1))
def iZ(a0:U cB)(a1:Int)(a2:(cB×Int×Unit)->J Int):J (Int×Bool):=
 (iter (lT a0 a1 a2) n ((0:Int),(a0.length:Int))).bind λw1=>(bif decide (w1<(a0.length:Int))then(bo a0 w1).bind λx2=>(a2 (x2,a1,())).bind λr2=>some (w1,(r2==0))else some (w1,false))
def wI(a0:cB)(a1:Int):J Int:=
 (bif decide (a0.x1<=(a1:Int))then some ((-1):Int)else some (1:Int))
def WX(a0:U cB)(a1:Int):J (List aP):=
 (iZ n a0 a1 (λ (y1:cB×Int×Unit)=>wI y1.1 y1.2.1)).bind λr1=>((bif decide (r1.1<(a0.length:Int))then(bo a0 r1.1).bind λx1=>some (decide (x1.x0<=(a1:Int)))else some false)).bind λv1=>(bif v1 then(bo a0 r1.1).bind λx2=>some x2.column else some ([]:(List aP)))
def N8(a0:Unit)(a1:Int):J (List aP):=
 (bif decide (a1<0)then none else(bif (decide ((i64.wrap (a1 -(i64.wrap (0 -0))))>0))then ck (xK (i64.wrap (a1 -(i64.wrap (0 -0)))) 16)<|ck (sZ 0 0 ((i64.wrap (a1 -(i64.wrap (0 -0)))).toNat))<|ck (aE (sub (List.replicate (i64.wrap (a1 -(i64.wrap (0 -0)))).toNat (aP.mk 0 0)) 0 0).length 0)<|some (sub (List.replicate (i64.wrap (a1 -(i64.wrap (0 -0)))).toNat (aP.mk 0 0)) 0 0)else some ([]:(List aP))))
def N9(a0:U (List aP)):Stp (Int×Int) Int
 |(v1,v2)=>(bif decide (v2<(a0.length:Int))then(bo a0 v2).bind λx1=>(bif decide ((i64.wrap (v1+(x1.length:Int)))<0)then none else some (.inl ((i64.wrap (v1+(x1.length:Int))),(i64.wrap (v2+1)))))else some (.inr v1))
def Oa(a0:U (List aP)):Stp (Int×(List aP)) (List aP)
 |(v3,v4)=>(bif decide (v3<(a0.length:Int))then(bo a0 v3).bind λx2=>ck (bP v4.length v4.length x2.length x2.length 16)<|gH (v4++x2) λr2=>ck (aE r2.length r2.length)<|some (.inl ((i64.wrap (v3+1)),r2))else ck (aE v4.length v4.length)<|some (.inr v4))
def y7(a0:U (List aP)):J (List aP):=
 (iter (N9 a0) n ((0:Int),(0:Int))).bind λw1=>(N8 () w1).bind λr1=>ck (aE r1.length r1.length)<|(iter (Oa a0) n ((0:Int),r1)).bind λw2=>ck (aE (sub w2 0 w2.length).length w2.length)<|some (sub w2 0 w2.length)
def mK(a0:U aP)(a1:Int)(a2:(aP×Int×Unit)->J Int):Stp (Int×Int) Int
 |(v1,v2)=>(bif decide (v1<(v2:Int))then ck (decide (0<=1)&&decide (1<=IntKind.u64.bits))<|(bo a0 (i64.wrap ((IntKind.u64.wrap (i64.wrap (v1+v2)))/2 ^ (1:Int).toNat))).bind λx1=>(a2 (x1,a1,())).bind λr1=>(bif decide (r1<0)then some (.inl ((i64.wrap ((i64.wrap ((IntKind.u64.wrap (i64.wrap (v1+v2)))/2 ^ (1:Int).toNat))+1)),v2))else some (.inl (v1,(i64.wrap ((IntKind.u64.wrap (i64.wrap (v1+v2)))/2 ^ (1:Int).toNat)))))else some (.inr v1))
def jv(a0:U aP)(a1:Int)(a2:(aP×Int×Unit)->J Int):J (Int×Bool):=
 (iter (mK a0 a1 a2) n ((0:Int),(a0.length:Int))).bind λw1=>(bif decide (w1<(a0.length:Int))then(bo a0 w1).bind λx2=>(a2 (x2,a1,())).bind λr2=>some (w1,(r2==0))else some (w1,false))
def lU(a0:aP)(a1:Int):J Int:=
 (bif decide (a0.to<=(a1:Int))then some ((-1):Int)else some (1:Int))
def Db(a0:U aP)(a1:Int):J Bool:=
 (jv n a0 a1 (λ (y1:aP×Int×Unit)=>lU y1.1 y1.2.1)).bind λr1=>(bif decide (r1.1<(a0.length:Int))then(bo a0 r1.1).bind λx1=>some (decide (x1.from_<=(a1:Int)))else some false)
def wJ(r1:U aP):Stp (Int×(List Int)) (List Int)
 |(v1,v2)=>(bif decide (v1<(r1.length:Int))then ck (cN v1 r1.length)<|(bo r1 ((0:Nat)+v1:Int)).bind λx1=>ck (bP v2.length v2.length (sub ([x1.from_,x1.to]:U Int) 0 2).length 2 8)<|gH (v2++(sub ([x1.from_,x1.to]:U Int) 0 2)) λr2=>ck (aE r2.length r2.length)<|some (.inl ((i64.wrap (v1+1)),r2))else ck (aE v2.length v2.length)<|some (.inr v2))
def wK(a0:U aP)(a1:U aP)(a2:(Bool×Bool×Unit)->J Bool)(r4:Unit×(List Int)):Stp (Int×(List aP)) (List aP)
 |(v3,v4)=>(bif decide (v3<(r4.2.length:Int))then(ck (cN (i64.wrap (v3 -1)) r4.2.length)<|(bo r4.2 ((0:Nat)+(i64.wrap (v3 -1)):Int)).bind λx2=>(Db n a0 x2).bind λr5=>(Db n a1 x2).bind λr6=>(a2 (r5,r6,())).bind λr7=>(bif (!r7)then ck (aE v4.length v4.length)<|some v4 else((bif decide ((v4.length:Int)>0)then ck (cN (i64.wrap ((v4.length:Int) -1)) v4.length)<|(bo v4 ((0:Nat)+(i64.wrap ((v4.length:Int) -1)):Int)).bind λx3=>some (x3.to==(x2:Int))else some false)).bind λv5=>(bif v5 then ck (cN v3 r4.2.length)<|(bo r4.2 ((0:Nat)+v3:Int)).bind λx4=>ck (cN (i64.wrap ((v4.length:Int) -1)) v4.length)<|(bo v4 ((0:Nat)+(i64.wrap ((v4.length:Int) -1)):Int)).bind λx5=>ck (aE v4.length (v4.set ((0:Nat)+(i64.wrap ((v4.length:Int) -1)):Int).toNat (aP.mk x5.from_ x4)).length)<|some (v4.set ((0:Nat)+(i64.wrap ((v4.length:Int) -1)):Int).toNat (aP.mk x5.from_ x4))else ck (cN v3 r4.2.length)<|(bo r4.2 ((0:Nat)+v3:Int)).bind λx6=>ck (bP v4.length v4.length (sub ([(aP.mk x2 x6)]:U aP) 0 1).length 1 16)<|gH (v4++(sub ([(aP.mk x2 x6)]:U aP) 0 1)) λr8=>ck (aE r8.length r8.length)<|some r8)):J ((List aP))).bind λv6=>ck (aE v6.length v6.length)<|some (.inl ((i64.wrap (v3+1)),v6))else ck (aE v4.length v4.length)<|some (.inr v4))
def II(a0:U aP)(a1:U aP)(a2:(Bool×Bool×Unit)->J Bool):J (List aP):=
 ck (aE (sub ([a0,a1]:U (List aP)) 0 2).length 2)<|(y7 n (sub ([a0,a1]:U (List aP)) 0 2)).bind λr1=>ck (aE 0 ([]:U Int).length)<|(iter (wJ r1) n ((0:Int),([]:U Int))).bind λw1=>ck (aE w1.length w1.length)<|(pI n w1).bind λr3=>ck (aE w1.length r3.length)<|(pJ n r3).bind λr4=>ck (aE 0 ([]:U aP).length)<|(iter (wK n a0 a1 a2 r4) n ((1:Int),([]:U aP))).bind λw2=>ck (aE (sub w2 0 w2.length).length w2.length)<|some (sub w2 0 w2.length)
def qO(a2:(Bool×Bool×Unit)->J Bool)(r3:U cB)(r4:U cB)(r5:U cB):Stp (Int×(List cB)) (List cB)
 |(v2,v3)=>(bif decide (v2<(r5.length:Int))then ck (cN v2 r5.length)<|(bo v3 ((0:Nat)+v2:Int)).bind λx1=>(WX n (sub r3 0 r3.length) x1.x0).bind λr6=>(WX n (sub r4 0 r4.length) x1.x0).bind λr7=>(II n r6 r7 a2).bind λr8=>ck (cN v2 r5.length)<|ck (aE (sub r8 0 r8.length).length r8.length)<|(bo v3 ((0:Nat)+v2:Int)).bind λx2=>some (.inl ((i64.wrap (v2+1)),(v3.set ((0:Nat)+v2:Int).toNat (cB.mk x2.x0 x2.x1 (sub r8 0 r8.length)))))else some (.inr v3))
def EG(a0:U aA)(a1:U aA)(a2:(Bool×Bool×Unit)->J Bool):J ((List aA)×Int):=
 ((og n a0).bind λr1=>(bif (!r1)then some true else(og n a1).bind λr2=>some (!r2))).bind λv1=>(bif v1 then some (([]:(List aA)),(1:Int))else ck (aE (sub ([a0]:U (List aA)) 0 1).length 1)<|(oJ n (sub ([a0]:U (List aA)) 0 1)).bind λr3=>ck (aE (sub ([a1]:U (List aA)) 0 1).length 1)<|(oJ n (sub ([a1]:U (List aA)) 0 1)).bind λr4=>ck (aE (sub r3 0 r3.length).length r3.length)<|ck (aE (sub r4 0 r4.length).length r4.length)<|ck (aE (sub ([a0,a1]:U (List aA)) 0 2).length 2)<|(oJ n (sub ([a0,a1]:U (List aA)) 0 2)).bind λr5=>(iter (qO n a2 r3 r4 r5) n ((0:Int),r5)).bind λw1=>ck (aE (sub w1 0 r5.length).length r5.length)<|(IE n (sub w1 0 r5.length)).bind λr9=>ck (aE (sub r9 0 r9.length).length r9.length)<|(y5 (sub r9 0 r9.length)).bind λtj=>some (tj.1,tj.2))
def xS(a0:Bool)(a1:Bool):J Bool:=
 (bif a0 then some a1 else some false)
def Dc(a0:U aA)(a1:U aA):J ((List aA)×Int):=
 (EG n a0 a1 (λ (y1:Bool×Bool×Unit)=>xS y1.1 y1.2.1)).bind λr1=>some (r1.1,r1.2)
def EH(a0:U aA):Stp (Int×Int) Int
 |(v1,v2)=>(bif decide (v2<(a0.length:Int))then(bo a0 v2).bind λx1=>(oU x1).bind λr2=>some (.inl ((i64.wrap (v1+r2)),(i64.wrap (v2+1))))else some (.inr v1))
def Kg(a0:U aA):J Int:=
 (og n a0).bind λr1=>(bif (!r1)then some (0:Int)else(iter (EH a0) n ((0:Int),(0:Int))).bind λw1=>some w1)
def lV(a0:dw)(a1:Int):J (aA×Bool):=
 (Da n a0.area).bind λr1=>((bif (!r1.2)then some true else(bif decide (a1<0)then some true else some (decide (a1>20))))).bind λv1=>(bif v1 then some ((aA.mk 0 0 0 0),false)else(IG r1.1 a1).bind λr2=>(bif (!r2.2)then some ((aA.mk 0 0 0 0),false)else ck (aE (sub ([r2.1]:U aA) 0 1).length 1)<|(Dc n a0.area (sub ([r2.1]:U aA) 0 1)).bind λr3=>(bif (r3.2==0)then(Kg n r3.1).bind λr4=>(oU r2.1).bind λr5=>some (r2.1,(r4==(r5:Int)))else some (r2.1,false))))
def lz:tG xx SI.kw SI.ee:=⟨(λ x=>x.lot),(λ x=>x.use),(λ x=>x.floors),(λ x=>x.cP),(λ x=>x.a0),(λ x=>x.a1),λ_=>rfl,λ_=>rfl⟩
def aiV(a0:U aY)(a1:U (iU×Int)):J ((List aY)×(List (iU×Int))):=@m4 xx SI.kw SI.ee (inferInstance:Inhabited aY) lz a0 a1
def lW(x1:dw)(v6:Int):Stp (Int×(List aY)) (List aY)
 |(v9,v10)=>(bif decide (v9<72)then ck (6 !=0)<|ck (6 !=0)<|ck (bP v10.length v10.length (sub ([(aY.mk x1.id (Int.tmod v9 6) (i64.wrap ((i64.wrap (Int.tdiv v9 6))+1)) v6)]:U aY) 0 1).length 1 32)<|gH (v10++(sub ([(aY.mk x1.id (Int.tmod v9 6) (i64.wrap ((i64.wrap (Int.tdiv v9 6))+1)) v6)]:U aY) 0 1)) λr3=>ck (aE r3.length r3.length)<|some (.inl ((i64.wrap (v9+1)),r3))else ck (aE v10.length v10.length)<|some (.inr v10))
def lX(x1:dw):Stp (Int×(List (iU×Int))×(List aY)) ((List (iU×Int))×(List aY))
 |(v6,v7,v8)=>(bif decide (v6<21)then((lV n x1 v6).bind λr1=>(bif (!r1.2)then ck (aE v8.length v8.length)<|some (v7,v8)else(oU r1.1).bind λr2=>ck (aE v8.length v8.length)<|(iter (lW x1 v6) n ((0:Int),v8)).bind λw1=>ck (aE w1.length w1.length)<|some ((nG (CK (X:=xx) SI.ee) (iU.mk x1.id v6) r2 v7),w1)):J ((List (iU×Int))×(List aY))).bind λ(v11,v12)=>ck (aE v12.length v12.length)<|some (.inl ((i64.wrap (v6+1)),v11,v12))else ck (aE v8.length v8.length)<|some (.inr (v7,v8)))
def lY(a0:U dw):Stp (Int×(List (iU×Int))×(List (Int×Bool))×(List aY)) ((List (iU×Int))×(List aY))
 |(v1,v2,v3,v4)=>(bif decide (v1<(a0.length:Int))then((bo a0 v1).bind λx1=>((bif ((fG io x1.id v3).getD false)then some true else(bif decide (x1.id<0)then some true else some (decide (x1.id>1073741824))))).bind λv5=>(bif v5 then ck (aE v4.length v4.length)<|some (v2,v3,v4)else ck (aE v4.length v4.length)<|(iter (lX n x1) n ((0:Int),v2,v4)).bind λ(w2,w3)=>ck (aE w3.length w3.length)<|some (w2,(nG io x1.id true v3),w3)):J ((List (iU×Int))×(List (Int×Bool))×(List aY))).bind λ(v13,v14,v15)=>ck (aE v15.length v15.length)<|some (.inl ((i64.wrap (v1+1)),v13,v14,v15))else ck (aE v4.length v4.length)<|some (.inr (v2,v4)))
def kC(a0:U dw):J (List aY):=
 ck (aE 0 ([]:U aY).length)<|(iter (lY n a0) n ((0:Int),([]:(List (iU×Int))),([]:(List (Int×Bool))),([]:U aY))).bind λ(w4,w5)=>ck (aE w5.length w5.length)<|(aiV w5 w4).bind λr4=>ck (aE (sub r4.1 0 w5.length).length w5.length)<|some (sub r4.1 0 w5.length)
def oL(a0:dw)(a1:aY):J (bD×Bool):=
 (lV n a0 a1.cP).bind λr1=>((bif (!r1.2)then some true else(bif (a1.lot !=(a0.id:Int))then some true else(bif decide (a1.lot<0)then some true else(bif decide (a1.lot>1073741824)then some true else(bif decide (a1.use<0)then some true else(bif decide (a1.use>=6)then some true else(bif decide (a1.floors<1)then some true else some (decide (a1.floors>12)))))))))).bind λv1=>(bif v1 then some ((bD.mk 0 ([])),false)else((bif (a1.use==0)then some (r1.1.x0,r1.1.y0,r1.1.x1,r1.1.y1,(0:Int),(i64.wrap (a1.floors*3)),a1.use,a1.floors,false)else some (r1.1.x0,r1.1.y0,r1.1.x1,r1.1.y1,(0:Int),(i64.wrap (a1.floors*3)),a1.use,(0:Int),false)):J (Int×Int×Int×Int×Int×Int×Int×Int×Bool)).bind λ(v2,v3,v4,v5,v6,v7,v8,v9,v10)=>ck (aE (sub ([(aJ.mk v2 v3 v4 v5 v6 v7 v8 v9 v10)]:U aJ) 0 1).length 1)<|ck (aE (sub ([(tL.mk (sub ([(aJ.mk v2 v3 v4 v5 v6 v7 v8 v9 v10)]:U aJ) 0 1) ([]))]:U tL) 0 1).length 1)<|some ((bD.mk a1.lot (sub ([(tL.mk (sub ([(aJ.mk v2 v3 v4 v5 v6 v7 v8 v9 v10)]:U aJ) 0 1) ([]))]:U tL) 0 1)),true))
def IJ(a0:dw)(a1:aY):J bD:=
 (oL n a0 a1).bind λr1=>some r1.1
def Bp(a0:U aA):J (List aA):=
 (bif a0.isEmpty then(both (some ([]:(List aA))) (ck (bP ([]:U aA).length 0 a0.length a0.length 32)<|gH (([]:U aA)++a0) λr1=>ck (aE (sub r1 0 r1.length).length r1.length)<|some (sub r1 0 r1.length)))else ck (bP ([]:U aA).length 0 a0.length a0.length 32)<|gH (([]:U aA)++a0) λr2=>ck (aE (sub r2 0 r2.length).length r2.length)<|some (sub r2 0 r2.length))
def EI(a0:U Int):J (List Int):=
 (bif a0.isEmpty then(both (some ([]:(List Int))) (ck (bP ([]:U Int).length 0 a0.length a0.length 8)<|gH (([]:U Int)++a0) λr1=>ck (aE (sub r1 0 r1.length).length r1.length)<|some (sub r1 0 r1.length)))else ck (bP ([]:U Int).length 0 a0.length a0.length 8)<|gH (([]:U Int)++a0) λr2=>ck (aE (sub r2 0 r2.length).length r2.length)<|some (sub r2 0 r2.length))
def Ob(a0:dw):J dw:=
 (Bp a0.area).bind λr1=>(EI a0.from_).bind λr2=>ck (aE (sub r1 0 r1.length).length r1.length)<|ck (aE (sub r2 0 r2.length).length r2.length)<|some (dw.mk a0.id a0.owner (sub r1 0 r1.length) (sub r2 0 r2.length))
def EJ(a0:U dw)(a1:Int):Stp Int (Unit⊕(dw×Bool))
 |v1=>(bif decide (v1<(a0.length:Int))then(bo a0 v1).bind λx1=>(bif (x1.id==(a1:Int))then(Ob x1).bind λr1=>(some (r1,true)).map λa=> .inr (.inr a)else some (.inl (i64.wrap (v1+1))))else some (.inr (.inl ())))
def Oc(a0:U dw)(a1:Int):J (dw×Bool):=
 dH (iter (EJ a0 a1) n (0:Int)) λ()=>some ((dw.mk 0 0 ([]) ([])),false)
def nO(a0:bD)(a1:Int)(a2:Int):Stp (Int×(List aJ)) (List aJ)
 |(v1,v2)=>(bif decide (v1<(a0.phases.length:Int))then((bo a0.phases v1).bind λx1=>((bif decide (v1>=(a1:Int))then some (decide (v1<(a2:Int)))else some false)).bind λv3=>(bif v3 then ck (bP v2.length v2.length x1.cM.length x1.cM.length 72)<|gH (v2++x1.cM) λr1=>ck (aE r1.length r1.length)<|some r1 else ck (aE v2.length v2.length)<|some v2):J ((List aJ))).bind λv4=>ck (aE v4.length v4.length)<|some (.inl ((i64.wrap (v1+1)),v4))else ck (aE v2.length v2.length)<|some (.inr v2))
def oh(a0:bD)(a1:Int)(a2:Int):J (List aJ):=
 ck (aE 0 ([]:U aJ).length)<|(iter (nO a0 a1 a2) n ((0:Int),([]:U aJ))).bind λw1=>ck (aE (sub w1 0 w1.length).length w1.length)<|some (sub w1 0 w1.length)
def wL(a0:bD):J (List aJ):=
 (oh n a0 0 (a0.phases.length:Int)).bind λr1=>ck (aE (sub r1 0 r1.length).length r1.length)<|some (sub r1 0 r1.length)
def gq(a0:aJ):J Bool:=
 ((nL (aA.mk a0.bz a0.cC a0.bx a0.cz)).bind λr1=>(bif (!r1)then some true else(bif decide (a0.eQ<0)then some true else(bif decide (a0.eQ>=(a0.ev:Int))then some true else some (decide (a0.ev>4096)))))).bind λv1=>(bif v1 then some false else((bif (a0.use !=0)then some (a0.units !=0)else some false)).bind λv2=>(bif v2 then some false else(bif decide (a0.use>=0)then(bif decide (a0.use<6)then(bif decide (a0.units>=0)then some (decide (a0.units<=1048576))else some false)else some false)else some false)))
def xU(a0:DQ)(a1:DQ):J Bool:=
 (sI (aA.mk a0.oX a0.oS a0.oT a0.oR) (aA.mk a1.oX a1.oS a1.oT a1.oR)).bind λr1=>(bif r1.2 then(bif decide (a0.z0<(a1.z1:Int))then some (decide (a1.z0<(a0.z1:Int)))else some false)else some false)
def rD(a0:aJ)(a1:aJ):J Bool:=
 (xU (DQ.mk a1.bz a1.cC a1.bx a1.cz a1.eQ a1.ev) (DQ.mk a0.bz a0.cC a0.bx a0.cz a0.eQ a0.ev)).bind λr1=>some r1
def EK(a0:U aJ)(a1:(aJ×Unit)->J Bool):Stp Int (Unit⊕Int)
 |v1=>(bif decide (v1<(a0.length:Int))then(bo a0 v1).bind λx1=>(a1 (x1,())).bind λr1=>(bif r1 then(some v1).map λa=> .inr (.inr a)else some (.inl (i64.wrap (v1+1))))else some (.inr (.inl ())))
def qC(a0:U aJ)(a1:(aJ×Unit)->J Bool):J Int:=
 dH (iter (EK a0 a1) n (0:Int)) λ()=>some ((-1):Int)
def fP(a0:U aJ)(a1:(aJ×Unit)->J Bool):J Bool:=
 (qC n a0 a1).bind λr1=>some (decide (r1>=0))
def EL(a0:Int):J Bool:=
 (bif decide (a0>=97)then some (decide (a0<=122))else some false)
def Am(a0:ByteArray)(a1:(Int×Unit)->J Bool):Stp Int Int
 |v1=>((bif decide (v1<(a0.size:Int))then(RL a0 v1).bind λx1=>(a1 (x1,())).bind λr1=>some r1 else some false)).bind λv2=>(bif v2 then some (.inl (i64.wrap (v1+1)))else some (.inr v1))
def Od(a0:ByteArray)(a1:(Int×Unit)->J Bool):J Int:=
 (iter (Am a0 a1) n (0:Int)).bind λw1=>some w1
def Ql(a0:Int):J Bool:=
 (bif decide (a0>=48)then some (decide (a0<=57))else some false)
def Ao(a0:Int):J Bool:=
 (EL a0).bind λr1=>(bif r1 then some true else(Ql a0).bind λr2=>some r2)
def Oe(a0:ByteArray):J Bool:=
 ((bif (ByteArray.toList a0==ByteArray.toList (⟨#[]⟩))then some true else(RL a0 0).bind λx1=>(EL x1).bind λr1=>(bif (!r1)then some true else some (decide ((a0.size:Int)>20))))).bind λv1=>(bif v1 then some false else(Od n a0 (λ (y1:Int×Unit)=>Ao y1.1)).bind λr2=>some (r2==(a0.size:Int)))
def strings_Contains(a0 a1:ByteArray):J Bool:=ck (Nat.ble a0.size 4000000)<|some (Lib.contains a0.data.toList a1.data.toList)
def wM(a0:ByteArray):J Bool:=
 (Oe n a0).bind λr1=>(bif r1 then ck (Vy (⟨#[32]⟩) a0)<|ck (Vy ((⟨#[32]⟩)++a0) (⟨#[32]⟩))<|(strings_Contains (⟨#[32,97,110,100,32,97,112,97,114,116,32,98,97,115,101,32,99,97,112,32,100,101,102,105,110,101,32,101,108,115,101,32,101,120,99,101,112,116,32,102,114,111,109,32,103,114,97,99,101,32,104,111,117,114,115,32,105,102,32,105,110,32,108,101,97,115,116,32,110,111,116,32,111,114,32,111,118,101,114,108,97,121,32,112,108,97,110,101,32,114,117,108,101,32,115,108,111,112,101,32,115,117,110,32,116,97,98,108,101,32,116,104,101,110,32,117,110,116,105,108,32,117,115,101,115,32,118,97,114,121,32,118,105,101,119,32,122,111,110,101,32]⟩) (((⟨#[32]⟩)++a0)++(⟨#[32]⟩))).bind λr2=>some (!r2)else some false)
def kW(r1:U aJ):Stp Int (Unit⊕Bool)
 |v2=>(bif decide (v2<(r1.length:Int))then ck (cN v2 r1.length)<|(bo r1 ((0:Nat)+v2:Int)).bind λx1=>((gq x1).bind λr2=>(bif (!r2)then some true else ck (sZ 0 v2 r1.length)<|ck (aE (sub r1 0 ((v2:Int).toNat)).length ((v2:Int).toNat))<|(fP n (sub r1 0 ((v2:Int).toNat)) (λ (y1:aJ×Unit)=>rD y1.1 x1)).bind λr3=>some r3)).bind λv3=>(bif v3 then(some false).map λa=> .inr (.inr a)else some (.inl (i64.wrap (v2+1))))else some (.inr (.inl ())))
def kX(x2:tL):Stp (Int×(List (ByteArray×Bool))) (Unit⊕(Int⊕(Unit⊕Bool)))
 |(v5,v6)=>(bif decide (v5<(x2.gives.length:Int))then(bo x2.gives v5).bind λx3=>((bif ((fG lw x3.name v6).getD false)then some true else(wM n x3.name).bind λr4=>(bif (!r4)then some true else(bif decide (x3.n<0)then some true else some (decide (x3.n>1073741824)))))).bind λv7=>(bif v7 then((some false).map λa=> .inr (.inr a)).map λa=> .inr (.inr a)else some (.inl ((i64.wrap (v5+1)),(nG lw x3.name true v6))))else some (.inr (.inl ())))
def kY(a0:bD):Stp Int (Unit⊕Bool)
 |v4=>(bif decide (v4<(a0.phases.length:Int))then(bo a0.phases v4).bind λx2=>dH (iter (kX n x2) n ((0:Int),([]:(List (ByteArray×Bool))))) λ()=>(bif decide ((x2.gives.length:Int)>30)then(some false).map λa=> .inr (.inr a)else some (.inl (i64.wrap (v4+1))))else some (.inr (.inl ())))
def xV(a0:bD):J Bool:=
 (wL n a0).bind λr1=>((bif decide (a0.lot<0)then some true else(bif decide (a0.lot>1073741824)then some true else(bif decide ((a0.phases.length:Int)<1)then some true else(bif decide ((a0.phases.length:Int)>8)then some true else(bif decide ((r1.length:Int)<1)then some true else some (decide ((r1.length:Int)>40)))))))).bind λv1=>(bif v1 then some false else dH (iter (kW n r1) n (0:Int)) λ()=>dH (iter (kY n a0) n (0:Int)) λ()=>some true)
def vk(a0:gD)(a1:bX):J Bool:=
 some (ByteArray.toList a0.name==ByteArray.toList a1.name)
def KC(a0:U gD)(a1:(gD×Unit)->J Bool):Stp Int (Unit⊕Int)
 |v1=>(bif decide (v1<(a0.length:Int))then(bo a0 v1).bind λx1=>(a1 (x1,())).bind λr1=>(bif r1 then(some v1).map λa=> .inr (.inr a)else some (.inl (i64.wrap (v1+1))))else some (.inr (.inl ())))
def vo(a0:U gD)(a1:(gD×Unit)->J Bool):J Int:=
 dH (iter (KC a0 a1) n (0:Int)) λ()=>some ((-1):Int)
def mQ(a0:U gD)(a1:(gD×Unit)->J Bool):J Bool:=
 (vo n a0 a1).bind λr1=>some (decide (r1>=0))
def j3(a1:dw)(r3:U aJ):Stp Int (Unit⊕Bool)
 |v2=>(bif decide (v2<(r3.length:Int))then ck (cN v2 r3.length)<|(bo r3 ((0:Nat)+v2:Int)).bind λx1=>ck (aE (sub ([(aA.mk x1.bz x1.cC x1.bx x1.cz)]:U aA) 0 1).length 1)<|(Dc n a1.area (sub ([(aA.mk x1.bz x1.cC x1.bx x1.cz)]:U aA) 0 1)).bind λr4=>((bif (r4.2 !=0)then some true else(Kg n r4.1).bind λr5=>(oU (aA.mk x1.bz x1.cC x1.bx x1.cz)).bind λr6=>some (decide (r5<(r6:Int))))).bind λv3=>(bif v3 then(some false).map λa=> .inr (.inr a)else some (.inl (i64.wrap (v2+1))))else some (.inr (.inl ())))
def j4(a0:bU)(x2:tL):Stp Int (Unit⊕(Int⊕(Unit⊕Bool)))
 |v5=>(bif decide (v5<(x2.gives.length:Int))then(bo x2.gives v5).bind λx3=>(mQ n a0.caps (λ (y1:gD×Unit)=>vk y1.1 x3)).bind λr7=>(bif (!r7)then((some false).map λa=> .inr (.inr a)).map λa=> .inr (.inr a)else some (.inl (i64.wrap (v5+1))))else some (.inr (.inl ())))
def j5(a0:bU)(a2:bD):Stp Int (Unit⊕Bool)
 |v4=>(bif decide (v4<(a2.phases.length:Int))then(bo a2.phases v4).bind λx2=>dH (iter (j4 n a0 x2) n (0:Int)) λ()=>some (.inl (i64.wrap (v4+1)))else some (.inr (.inl ())))
def oM(a0:bU)(a1:dw)(a2:bD):J Bool:=
 ((xV n a2).bind λr1=>(bif (!r1)then some true else(bif (a1.id !=(a2.lot:Int))then some true else(og n a1.area).bind λr2=>some (!r2)))).bind λv1=>(bif v1 then some false else(wL n a2).bind λr3=>dH (iter (j3 n a1 r3) n (0:Int)) λ()=>dH (iter (j5 n a0 a2) n (0:Int)) λ()=>some true)
def o7(a0:bD):Stp (Int×(List aJ)) (List aJ)
 |(v1,v2)=>(bif decide (v1<(a0.phases.length:Int))then(bo a0.phases v1).bind λx1=>ck (bP v2.length v2.length x1.cM.length x1.cM.length 72)<|gH (v2++x1.cM) λr1=>ck (aE r1.length r1.length)<|some (.inl ((i64.wrap (v1+1)),r1))else ck (aE v2.length v2.length)<|some (.inr v2))
def tZ(a0:bD):J (List aJ):=
 ck (aE 0 ([]:U aJ).length)<|(iter (o7 a0) n ((0:Int),([]:U aJ))).bind λw1=>ck (aE (sub w1 0 w1.length).length w1.length)<|some (sub w1 0 w1.length)
def Ap(a0:cu)(a1:bD):J (mD×Int):=
 (Oc n a0.land a1.lot).bind λr1=>(bif (!r1.2)then some ((mD.mk ([]) ([]) ([]) ([]) ([]) ([]) ([]) 0 ([]) ([]) ([]) ([]) ([]) 0 0 ([]) ([]) 0 ([]) ([]) ([])),(4:Int))else(oM n (bU.mk a0.cm a0.br a0.bu a0.az a0.ct a0.b9 a0.cE a0.ca) r1.1 a1).bind λr2=>(bif (!r2)then some ((mD.mk ([]) ([]) ([]) ([]) ([]) ([]) ([]) 0 ([]) ([]) ([]) ([]) ([]) 0 0 ([]) ([]) 0 ([]) ([]) ([])),(1:Int))else(tZ n a1).bind λr3=>(sK n (bU.mk a0.cm a0.br a0.bu a0.az a0.ct a0.b9 a0.cE a0.ca) r1.1.area).bind λr4=>ck (aE (sub r3 0 r3.length).length r3.length)<|ck (aE (sub r4 0 r4.length).length r4.length)<|some ((mD.mk a0.cm a0.br a0.bu a0.az a0.ct a0.b9 a0.cE a0.ca a0.land a0.co a0.windows a0.built a0.base r1.1.id r1.1.owner r1.1.area r1.1.from_ a1.lot a1.phases (sub r3 0 r3.length) (sub r4 0 r4.length)),(0:Int))))
def vv(_:Nat)(a0:U aA)(a1:(aA×aA×Unit)->J Int):J (List aA):=GP a0 a1
def iK(a0:aA)(a1:aA):J Int:=
 (cmp_Compare_int a0.y0 a1.y0).bind λr1=>some r1
def kZ(a0:aJ):J Int:=
 ((bif a0.extra then some true else(gq a0).bind λr1=>some (!r1))).bind λv1=>(bif v1 then some (0:Int)else ck (3 !=0)<|some (i64.wrap (Int.tdiv (i64.wrap ((i64.wrap ((i64.wrap (a0.ev -a0.eQ))+3)) -1)) 3)))
def oN(a0:aJ):J Int:=
 (gq a0).bind λr1=>(bif (!r1)then some (0:Int)else(oU (aA.mk a0.bz a0.cC a0.bx a0.cz)).bind λr2=>(kZ a0).bind λr3=>some (i64.wrap (r2*r3)))
def nP(a0:aJ):J Int:=
 some a0.ev
def oV(a0:aJ):J Int:=
 some a0.units
def Bq(a0:aA)(a1:Int):J (aA×Bool):=
 (nL (aA.mk (i64.wrap (a0.x0 -a1)) (i64.wrap (a0.y0 -a1)) (i64.wrap (a0.x1+a1)) (i64.wrap (a0.y1+a1)))).bind λr1=>some ((aA.mk (i64.wrap (a0.x0 -a1)) (i64.wrap (a0.y0 -a1)) (i64.wrap (a0.x1+a1)) (i64.wrap (a0.y1+a1))),r1)
def kD(a0:bX)(a1:Kc)(a2:Int):J Bool:=
 ck (cN a2 6)<|(bo ([a1.a0,a1.a1,a1.a2,a1.a3,a1.a4,a1.a5]:U ByteArray) a2).bind λx1=>some (ByteArray.toList a0.name==ByteArray.toList x1)
def F9(a0:U bX)(a1:(bX×Unit)->J Bool):Stp Int (Unit⊕Int)
 |v1=>(bif decide (v1<(a0.length:Int))then(bo a0 v1).bind λx1=>(a1 (x1,())).bind λr1=>(bif r1 then(some v1).map λa=> .inr (.inr a)else some (.inl (i64.wrap (v1+1))))else some (.inr (.inl ())))
def kE(a0:U bX)(a1:(bX×Unit)->J Bool):J Int:=
 dH (iter (F9 a0 a1) n (0:Int)) λ()=>some ((-1):Int)
def kF(a0:bU)(a1:Int):Stp Int (Unit⊕Int)
 |v1=>(bif decide (v1<(a0.tables.length:Int))then(bo a0.tables v1).bind λx1=>(bif (!(ByteArray.toList x1.name==ByteArray.toList (⟨#[116,114,97,102,102,105,99]⟩)))then some (.inl (i64.wrap (v1+1)))else((kE n x1.rows (λ (y1:bX×Unit)=>kD y1.1 (Kc.mk (⟨#[104,111,109,101]⟩) (⟨#[115,104,111,112]⟩) (⟨#[119,111,114,107]⟩) (⟨#[112,97,114,107]⟩) (⟨#[112,108,97,110,116]⟩) (⟨#[104,97,108,108]⟩)) a1)).bind λr1=>(bif decide (r1>=0)then(bo x1.rows r1).bind λx2=>some x2.n else some x1.sn):J Int).bind λv2=>(some (max (0:Int) (min v2 (1048576:Int)))).map λa=> .inr (.inr a))else some (.inr (.inl ())))
def Aq(a0:bU)(a1:Int):J Int:=
 dH (iter (kF n a0 a1) n (0:Int)) λ()=>some (0:Int)
def lg(a0:bU)(a1:aJ):J Int:=
 (Aq n a0 a1.use).bind λr1=>(oN a1).bind λr2=>((bif decide (r1>0)then ck (r1 !=0)<|some (decide (r2>((i64.wrap (Int.tdiv 109951162777600 r1)):Int)))else some false)).bind λv1=>(bif v1 then some (1099511627776:Int)else ck (100 !=0)<|some (i64.wrap (Int.tdiv (i64.wrap ((i64.wrap ((i64.wrap (r1*r2))+100)) -1)) 100)))
def mR(a0:U eT)(a1:U dx)(a2:U dN)(a3:U bK)(a4:U gD)(a5:U fA)(a6:U cZ)(a7:Int)(a8:U aA)(a9:U aJ):J (Int×gT):=
 (Kg n a8).bind λr1=>ck (aE a9.length a9.length)<|some (r1,a0,a1,a2,a3,a4,a5,a6,a7,a8,a9)
def gF(a9:U aJ):Stp (Int×(List aA)×(List Int)) ((List aA)×(List Int))
 |(v1,v2,v3)=>(bif decide (v1<(a9.length:Int))then ck (cN v1 a9.length)<|(bo a9 ((0:Nat)+v1:Int)).bind λx1=>ck (cN v1 ((a9.length:Int).toNat))<|(bo v2 ((0:Nat)+v1:Int)).bind λx2=>ck (cN v1 ((a9.length:Int).toNat))<|(bo (v2.set ((0:Nat)+v1:Int).toNat (aA.mk x1.bz x1.cC x1.bx x1.cz)) ((0:Nat)+v1:Int)).bind λx3=>ck (cN v1 ((a9.length:Int).toNat))<|(bo (v2.set ((0:Nat)+v1:Int).toNat (aA.mk x1.bz x1.cC x1.bx x1.cz)) ((0:Nat)+v1:Int)).bind λx4=>ck (bP v3.length v3.length (sub ([x3.x0,x4.x1]:U Int) 0 2).length 2 8)<|gH (v3++(sub ([x3.x0,x4.x1]:U Int) 0 2)) λr1=>ck (aE r1.length r1.length)<|some (.inl ((i64.wrap (v1+1)),(v2.set ((0:Nat)+v1:Int).toNat (aA.mk x1.bz x1.cC x1.bx x1.cz)),r1))else ck (aE v3.length v3.length)<|some (.inr (v2,v3)))
def iW(a9:U aJ)(w2:U Int)(r2:U aA)(r3:U Int)(v5:Int):Stp (Int×Int×Int) Int
 |(v6,v7,v8)=>(bif (decide (v8<((((a9.length:Int).toNat:Nat):Int):Int)))then(ck (cN v8 ((a9.length:Int).toNat))<|(bo r2 ((0:Nat)+v8:Int)).bind λx5=>(ck (cN v5 w2.length)<|(bo r3 ((0:Nat)+v5:Int)).bind λx6=>(bif decide (x5.x0<=(x6:Int))then ck (cN v5 w2.length)<|(bo r3 ((0:Nat)+v5:Int)).bind λx7=>(bif decide (x7<(x5.x1:Int))then some (decide (x5.y1>(v7:Int)))else some false)else some false)).bind λv9=>(bif v9 then ck (cN (i64.wrap (v5+1)) w2.length)<|(bo r3 ((0:Nat)+(i64.wrap (v5+1)):Int)).bind λx8=>ck (cN v5 w2.length)<|(bo r3 ((0:Nat)+v5:Int)).bind λx9=>some ((i64.wrap (v6+(i64.wrap ((i64.wrap (x8 -x9))*(i64.wrap (x5.y1 -(max v7 x5.y0))))))),x5.y1)else some (v6,v7)):J (Int×Int)).bind λ(v10,v11)=>some (.inl (v10,v11,(i64.wrap (v8+1))))else some (.inr v6))
def iX(a9:U aJ)(w2:U Int)(r2:U aA)(r3:U Int):Stp (Int×Int) Int
 |(v4,v5)=>(bif (decide (v5<((max (0:Int) (i64.wrap ((w2.length:Int) -1))):Int)))then(iter (iW a9 w2 r2 r3 v5) n (v4,(0:Int),(0:Int))).bind λw3=>some (.inl (w3,(i64.wrap (v5+1))))else some (.inr v4))
def iL(a0:U eT)(a1:U dx)(a2:U dN)(a3:U bK)(a4:U gD)(a5:U fA)(a6:U cZ)(a7:Int)(a8:U aA)(a9:U aJ):J (Int×gT):=
 ck (decide ((a9.length:Int)<=(a9.length:Int))&&(decide (0<=(a9.length:Int))&&xK (a9.length:Int) 32))<|ck (aE 0 ([]:U Int).length)<|(iter (gF a9) n ((0:Int),(List.replicate (a9.length:Int).toNat (aA.mk 0 0 0 0)),([]:U Int))).bind λ(w1,w2)=>ck (aE ((a9.length:Int).toNat) w1.length)<|(vv n w1 (λ (y1:aA×aA×Unit)=>iK y1.1 y1.2.1)).bind λr2=>ck (aE w2.length w2.length)<|(pI n w2).bind λr3=>(iter (iX n a9 w2 r2 r3) n ((0:Int),(0:Int))).bind λw4=>ck (aE a9.length a9.length)<|some (w4,a0,a1,a2,a3,a4,a5,a6,a7,a8,a9)
def jK(a9:U aJ):Stp (Int×Int) Int
 |(v1,v2)=>(bif decide (v2<(a9.length:Int))then ck (cN v2 a9.length)<|(bo a9 ((0:Nat)+v2:Int)).bind λx1=>(oN x1).bind λr1=>some (.inl ((i64.wrap (v1+r1)),(i64.wrap (v2+1))))else some (.inr v1))
def qD(a0:U eT)(a1:U dx)(a2:U dN)(a3:U bK)(a4:U gD)(a5:U fA)(a6:U cZ)(a7:Int)(a8:U aA)(a9:U aJ):J (Int×gT):=
 (iter (jK a9) n ((0:Int),(0:Int))).bind λw1=>ck (aE a9.length a9.length)<|some (w1,a0,a1,a2,a3,a4,a5,a6,a7,a8,a9)
def kK(a0:U eT)(a1:U dx)(a2:U dN)(a3:U bK)(a4:U gD)(a5:U fA)(a6:U cZ)(a7:Int)(a8:U aA)(a9:U aJ):J (Int×gT):=
 ck (aE a9.length a9.length)<|(qD n a0 a1 a2 a3 a4 a5 a6 a7 a8 a9).bind λr1=>ck (aE r1.2.2.2.2.2.2.2.2.2.2.length r1.2.2.2.2.2.2.2.2.2.2.length)<|some (r1.1,r1.2.1,r1.2.2.1,r1.2.2.2.1,r1.2.2.2.2.1,r1.2.2.2.2.2.1,r1.2.2.2.2.2.2.1,r1.2.2.2.2.2.2.2.1,r1.2.2.2.2.2.2.2.2.1,r1.2.2.2.2.2.2.2.2.2.1,r1.2.2.2.2.2.2.2.2.2.2)
def gV(a9:U aJ):Stp (Int×Int) Int
 |(v1,v2)=>(bif decide (v2<(a9.length:Int))then ck (cN v2 a9.length)<|(bo a9 ((0:Nat)+v2:Int)).bind λx1=>(kZ x1).bind λr1=>some (.inl ((max v1 r1),(i64.wrap (v2+1))))else some (.inr v1))
def mF(a0:U eT)(a1:U dx)(a2:U dN)(a3:U bK)(a4:U gD)(a5:U fA)(a6:U cZ)(a7:Int)(a8:U aA)(a9:U aJ):J (Int×gT):=
 (iter (gV a9) n ((0:Int),(0:Int))).bind λw1=>ck (aE a9.length a9.length)<|some (w1,a0,a1,a2,a3,a4,a5,a6,a7,a8,a9)
def jL(a0:U eT)(a1:U dx)(a2:U dN)(a3:U bK)(a4:U gD)(a5:U fA)(a6:U cZ)(a7:Int)(a8:U aA)(a9:U aJ):J (Int×gT):=
 ck (aE a9.length a9.length)<|(mF n a0 a1 a2 a3 a4 a5 a6 a7 a8 a9).bind λr1=>ck (aE r1.2.2.2.2.2.2.2.2.2.2.length r1.2.2.2.2.2.2.2.2.2.2.length)<|some (r1.1,r1.2.1,r1.2.2.1,r1.2.2.2.1,r1.2.2.2.2.1,r1.2.2.2.2.2.1,r1.2.2.2.2.2.2.1,r1.2.2.2.2.2.2.2.1,r1.2.2.2.2.2.2.2.2.1,r1.2.2.2.2.2.2.2.2.2.1,r1.2.2.2.2.2.2.2.2.2.2)
def gW(a9:U aJ):Stp (Int×Int) Int
 |(v1,v2)=>(bif decide (v2<(a9.length:Int))then ck (cN v2 a9.length)<|(bo a9 ((0:Nat)+v2:Int)).bind λx1=>(nP x1).bind λr1=>some (.inl ((max v1 r1),(i64.wrap (v2+1))))else some (.inr v1))
def mG(a0:U eT)(a1:U dx)(a2:U dN)(a3:U bK)(a4:U gD)(a5:U fA)(a6:U cZ)(a7:Int)(a8:U aA)(a9:U aJ):J (Int×gT):=
 (iter (gW a9) n ((0:Int),(0:Int))).bind λw1=>ck (aE a9.length a9.length)<|some (w1,a0,a1,a2,a3,a4,a5,a6,a7,a8,a9)
def jM(a0:U eT)(a1:U dx)(a2:U dN)(a3:U bK)(a4:U gD)(a5:U fA)(a6:U cZ)(a7:Int)(a8:U aA)(a9:U aJ):J (Int×gT):=
 ck (aE a9.length a9.length)<|(mG n a0 a1 a2 a3 a4 a5 a6 a7 a8 a9).bind λr1=>ck (aE r1.2.2.2.2.2.2.2.2.2.2.length r1.2.2.2.2.2.2.2.2.2.2.length)<|some (r1.1,r1.2.1,r1.2.2.1,r1.2.2.2.1,r1.2.2.2.2.1,r1.2.2.2.2.2.1,r1.2.2.2.2.2.2.1,r1.2.2.2.2.2.2.2.1,r1.2.2.2.2.2.2.2.2.1,r1.2.2.2.2.2.2.2.2.2.1,r1.2.2.2.2.2.2.2.2.2.2)
def jN(a9:U aJ):Stp (Int×Int) Int
 |(v1,v2)=>(bif decide (v2<(a9.length:Int))then ck (cN v2 a9.length)<|(bo a9 ((0:Nat)+v2:Int)).bind λx1=>(oV x1).bind λr1=>some (.inl ((i64.wrap (v1+r1)),(i64.wrap (v2+1))))else some (.inr v1))
def qE(a0:U eT)(a1:U dx)(a2:U dN)(a3:U bK)(a4:U gD)(a5:U fA)(a6:U cZ)(a7:Int)(a8:U aA)(a9:U aJ):J (Int×gT):=
 (iter (jN a9) n ((0:Int),(0:Int))).bind λw1=>ck (aE a9.length a9.length)<|some (w1,a0,a1,a2,a3,a4,a5,a6,a7,a8,a9)
def kL(a0:U eT)(a1:U dx)(a2:U dN)(a3:U bK)(a4:U gD)(a5:U fA)(a6:U cZ)(a7:Int)(a8:U aA)(a9:U aJ):J (Int×gT):=
 ck (aE a9.length a9.length)<|(qE n a0 a1 a2 a3 a4 a5 a6 a7 a8 a9).bind λr1=>ck (aE r1.2.2.2.2.2.2.2.2.2.2.length r1.2.2.2.2.2.2.2.2.2.2.length)<|some (r1.1,r1.2.1,r1.2.2.1,r1.2.2.2.1,r1.2.2.2.2.1,r1.2.2.2.2.2.1,r1.2.2.2.2.2.2.1,r1.2.2.2.2.2.2.2.1,r1.2.2.2.2.2.2.2.2.1,r1.2.2.2.2.2.2.2.2.2.1,r1.2.2.2.2.2.2.2.2.2.2)
def iG(km:U aA)(r1:aA×Bool):Stp (Int×Int) Int
 |(v1,v2)=>(bif decide (v2<(km.length:Int))then((bo km v2).bind λx1=>(sI r1.1 x1).bind λr2=>(bif r2.2 then(oU r2.1).bind λr3=>some (i64.wrap (v1+r3))else some v1):J Int).bind λv3=>some (.inl (v3,(i64.wrap (v2+1))))else some (.inr v1))
def jO(a0:aA)(a1:Int)(a2:U eT)(a3:U dx)(a4:U dN)(a5:U bK)(a6:U gD)(a7:U fA)(a8:U cZ)(a9:Int)(km:U aA)(te:U aJ):J (Bool×gT):=
 (Bq a0 a1).bind λr1=>(bif (!r1.2)then ck (aE te.length te.length)<|some (false,a2,a3,a4,a5,a6,a7,a8,a9,km,te)else(iter (iG km r1) n ((0:Int),(0:Int))).bind λw1=>(oU r1.1).bind λr4=>ck (aE te.length te.length)<|some ((w1==(r4:Int)),a2,a3,a4,a5,a6,a7,a8,a9,km,te))
def fq(x1:aJ):Stp (Int×Int×gT) (Int×gT)
 |(v13,v14,v15,v16,v17,v18,v19,v20,v21,v22,v23,v24)=>(bif decide (v13<(v14:Int))then ck (2 !=0)<|ck (aE v24.length v24.length)<|(jO n (aA.mk x1.bz x1.cC x1.bx x1.cz) (i64.wrap (Int.tdiv (i64.wrap ((i64.wrap (v13+v14))+1)) 2)) v15 v16 v17 v18 v19 v20 v21 v22 v23 v24).bind λr1=>(bif r1.1 then ck (aE r1.2.2.2.2.2.2.2.2.2.2.length r1.2.2.2.2.2.2.2.2.2.2.length)<|some (.inl ((i64.wrap (Int.tdiv (i64.wrap ((i64.wrap (v13+v14))+1)) 2)),v14,r1.2.1,r1.2.2.1,r1.2.2.2.1,r1.2.2.2.2.1,r1.2.2.2.2.2.1,r1.2.2.2.2.2.2.1,r1.2.2.2.2.2.2.2.1,r1.2.2.2.2.2.2.2.2.1,r1.2.2.2.2.2.2.2.2.2.1,r1.2.2.2.2.2.2.2.2.2.2))else ck (aE r1.2.2.2.2.2.2.2.2.2.2.length r1.2.2.2.2.2.2.2.2.2.2.length)<|some (.inl (v13,(i64.wrap ((i64.wrap (Int.tdiv (i64.wrap ((i64.wrap (v13+v14))+1)) 2)) -1)),r1.2.1,r1.2.2.1,r1.2.2.2.1,r1.2.2.2.2.1,r1.2.2.2.2.2.1,r1.2.2.2.2.2.2.1,r1.2.2.2.2.2.2.2.1,r1.2.2.2.2.2.2.2.2.1,r1.2.2.2.2.2.2.2.2.2.1,r1.2.2.2.2.2.2.2.2.2.2)))else ck (aE v24.length v24.length)<|some (.inr (v13,v15,v16,v17,v18,v19,v20,v21,v22,v23,v24)))
def iw(a9:U aJ):Stp (Int×Int×gT) (Int×gT)
 |(v1,v2,v3,v4,v5,v6,v7,v8,v9,v10,v11,v12)=>(bif decide (v2<(a9.length:Int))then ck (cN v2 a9.length)<|(bo v12 ((0:Nat)+v2:Int)).bind λx1=>ck (aE v12.length v12.length)<|(iter (fq n x1) n ((0:Int),v1,v3,v4,v5,v6,v7,v8,v9,v10,v11,v12)).bind λ(w1,w2,w3,w4,w5,w6,w7,w8,w9,AN,AM)=>ck (aE AM.length AM.length)<|some (.inl (w1,(i64.wrap (v2+1)),w2,w3,w4,w5,w6,w7,w8,w9,AN,AM))else ck (aE v12.length v12.length)<|some (.inr (v1,v3,v4,v5,v6,v7,v8,v9,v10,v11,v12)))
def jl(a0:U eT)(a1:U dx)(a2:U dN)(a3:U bK)(a4:U gD)(a5:U fA)(a6:U cZ)(a7:Int)(a8:U aA)(a9:U aJ):J (Int×gT):=
 ck (aE a9.length a9.length)<|(iter (iw n a9) n ((1048576:Int),(0:Int),a0,a1,a2,a3,a4,a5,a6,a7,a8,a9)).bind λ(w12,w13,w14,w15,w16,w17,w18,w19,w20,w21,Q2)=>ck (aE Q2.length Q2.length)<|some (w12,w13,w14,w15,w16,w17,w18,w19,w20,w21,Q2)
def kG(a0:aJ)(a1:U eT)(a2:U dx)(a3:U dN)(a4:U bK)(a5:U gD)(a6:U fA)(a7:U cZ)(a8:Int)(a9:U aA)(km:U aJ):J (Int×gT):=
 (lg n (bU.mk a1 a2 a3 a4 a5 a6 a7 a8) a0).bind λr1=>ck (aE km.length km.length)<|some (r1,a1,a2,a3,a4,a5,a6,a7,a8,a9,km)
def jP(a9:U aJ):Stp (Int×Int×gT) (Int×gT)
 |(v1,v2,v3,v4,v5,v6,v7,v8,v9,v10,v11,v12)=>(bif decide (v2<(a9.length:Int))then ck (cN v2 a9.length)<|(bo v12 ((0:Nat)+v2:Int)).bind λx1=>ck (aE v12.length v12.length)<|(kG n x1 v3 v4 v5 v6 v7 v8 v9 v10 v11 v12).bind λr1=>ck (aE r1.2.2.2.2.2.2.2.2.2.2.length r1.2.2.2.2.2.2.2.2.2.2.length)<|some (.inl ((i64.wrap (v1+r1.1)),(i64.wrap (v2+1)),r1.2.1,r1.2.2.1,r1.2.2.2.1,r1.2.2.2.2.1,r1.2.2.2.2.2.1,r1.2.2.2.2.2.2.1,r1.2.2.2.2.2.2.2.1,r1.2.2.2.2.2.2.2.2.1,r1.2.2.2.2.2.2.2.2.2.1,r1.2.2.2.2.2.2.2.2.2.2))else ck (aE v12.length v12.length)<|some (.inr (v1,v3,v4,v5,v6,v7,v8,v9,v10,v11,v12)))
def qF(a0:U eT)(a1:U dx)(a2:U dN)(a3:U bK)(a4:U gD)(a5:U fA)(a6:U cZ)(a7:Int)(a8:U aA)(a9:U aJ):J (Int×gT):=
 ck (aE a9.length a9.length)<|(iter (jP n a9) n ((0:Int),(0:Int),a0,a1,a2,a3,a4,a5,a6,a7,a8,a9)).bind λ(w1,w2,w3,w4,w5,w6,w7,w8,w9,AN,AM)=>ck (aE AM.length AM.length)<|some (w1,w2,w3,w4,w5,w6,w7,w8,w9,AN,AM)
def jm(a0:U eT)(a1:U dx)(a2:U dN)(a3:U bK)(a4:U gD)(a5:U fA)(a6:U cZ)(a7:Int)(a8:U aA)(a9:U aJ):J (Int×gT):=
 ck (aE a9.length a9.length)<|(qF n a0 a1 a2 a3 a4 a5 a6 a7 a8 a9).bind λr1=>ck (aE r1.2.2.2.2.2.2.2.2.2.2.length r1.2.2.2.2.2.2.2.2.2.2.length)<|some (r1.1,r1.2.1,r1.2.2.1,r1.2.2.2.1,r1.2.2.2.2.1,r1.2.2.2.2.2.1,r1.2.2.2.2.2.2.1,r1.2.2.2.2.2.2.2.1,r1.2.2.2.2.2.2.2.2.1,r1.2.2.2.2.2.2.2.2.2.1,r1.2.2.2.2.2.2.2.2.2.2)
def qP(r2:U aJ):Stp (Int×gT) (gT)
 |(v10,v11,v12,v13,v14,v15,v16,v17,v18,v19,v20)=>(bif decide (v10<(r2.length:Int))then(ck (cN v10 r2.length)<|(bo r2 ((0:Nat)+v10:Int)).bind λx1=>((bif decide (v10<40)then(gq x1).bind λr3=>some r3 else some false)).bind λv21=>(bif v21 then ck (bP v20.length v20.length (sub ([x1]:U aJ) 0 1).length 1 72)<|gH (v20++(sub ([x1]:U aJ) 0 1)) λr4=>ck (aE r4.length r4.length)<|some (v11,v12,v13,v14,v15,v16,v17,v18,v19,r4)else ck (aE v20.length v20.length)<|some (v11,v12,v13,v14,v15,v16,v17,v18,v19,v20)):J (gT)).bind λ(v22,v23,v24,v25,v26,v27,v28,v29,v30,v31)=>ck (aE v31.length v31.length)<|some (.inl ((i64.wrap (v10+1)),v22,v23,v24,v25,v26,v27,v28,v29,v30,v31))else ck (aE v20.length v20.length)<|some (.inr (v11,v12,v13,v14,v15,v16,v17,v18,v19,v20)))
def kH(a0:bU)(a1:dw)(a2:bD):J (List bX):=
 ((og n a1.area).bind λr1=>(bif r1 then some (a0.defs,a0.tables,a0.zones,a0.rules,a0.caps,a0.views,a0.uu,a0.hours,a1.area)else some (a0.defs,a0.tables,a0.zones,a0.rules,a0.caps,a0.views,a0.uu,a0.hours,([]:(List aA)))):J ((List eT)×(List dx)×(List dN)×(List bK)×(List gD)×(List fA)×(List cZ)×Int×(List aA))).bind λ(v1,v2,v3,v4,v5,v6,v7,v8,v9)=>(oh n a2 0 (a2.phases.length:Int)).bind λr2=>ck (aE 0 ([]:U aJ).length)<|(iter (qP r2) n ((0:Int),v1,v2,v3,v4,v5,v6,v7,v8,v9,([]:U aJ))).bind λ(w1,w2,w3,w4,w5,w6,w7,w8,w9,AN)=>ck (aE AN.length AN.length)<|(mR n w1 w2 w3 w4 w5 w6 w7 w8 w9 AN).bind λr5=>ck (bP 0 0 (sub ([(bX.mk (⟨#[97,114,101,97]⟩) r5.1)]:U bX) 0 1).length 1 24)<|gH ((sub ([(bX.mk (⟨#[97,114,101,97]⟩) r5.1)]:U bX) 0 1)) λr6=>ck (aE r5.2.2.2.2.2.2.2.2.2.2.length r5.2.2.2.2.2.2.2.2.2.2.length)<|(iL n r5.2.1 r5.2.2.1 r5.2.2.2.1 r5.2.2.2.2.1 r5.2.2.2.2.2.1 r5.2.2.2.2.2.2.1 r5.2.2.2.2.2.2.2.1 r5.2.2.2.2.2.2.2.2.1 r5.2.2.2.2.2.2.2.2.2.1 r5.2.2.2.2.2.2.2.2.2.2).bind λr7=>ck (bP r6.length r6.length (sub ([(bX.mk (⟨#[99,111,118,101,114]⟩) r7.1)]:U bX) 0 1).length 1 24)<|gH (r6++(sub ([(bX.mk (⟨#[99,111,118,101,114]⟩) r7.1)]:U bX) 0 1)) λr8=>ck (aE r7.2.2.2.2.2.2.2.2.2.2.length r7.2.2.2.2.2.2.2.2.2.2.length)<|(kK n r7.2.1 r7.2.2.1 r7.2.2.2.1 r7.2.2.2.2.1 r7.2.2.2.2.2.1 r7.2.2.2.2.2.2.1 r7.2.2.2.2.2.2.2.1 r7.2.2.2.2.2.2.2.2.1 r7.2.2.2.2.2.2.2.2.2.1 r7.2.2.2.2.2.2.2.2.2.2).bind λr9=>ck (bP r8.length r8.length (sub ([(bX.mk (⟨#[102,108,111,111,114]⟩) r9.1)]:U bX) 0 1).length 1 24)<|gH (r8++(sub ([(bX.mk (⟨#[102,108,111,111,114]⟩) r9.1)]:U bX) 0 1)) λtj=>ck (aE r9.2.2.2.2.2.2.2.2.2.2.length r9.2.2.2.2.2.2.2.2.2.2.length)<|(jL n r9.2.1 r9.2.2.1 r9.2.2.2.1 r9.2.2.2.2.1 r9.2.2.2.2.2.1 r9.2.2.2.2.2.2.1 r9.2.2.2.2.2.2.2.1 r9.2.2.2.2.2.2.2.2.1 r9.2.2.2.2.2.2.2.2.2.1 r9.2.2.2.2.2.2.2.2.2.2).bind λlP=>ck (bP tj.length tj.length (sub ([(bX.mk (⟨#[102,108,111,111,114,115]⟩) lP.1)]:U bX) 0 1).length 1 24)<|gH (tj++(sub ([(bX.mk (⟨#[102,108,111,111,114,115]⟩) lP.1)]:U bX) 0 1)) λtU=>ck (aE lP.2.2.2.2.2.2.2.2.2.2.length lP.2.2.2.2.2.2.2.2.2.2.length)<|(jM n lP.2.1 lP.2.2.1 lP.2.2.2.1 lP.2.2.2.2.1 lP.2.2.2.2.2.1 lP.2.2.2.2.2.2.1 lP.2.2.2.2.2.2.2.1 lP.2.2.2.2.2.2.2.2.1 lP.2.2.2.2.2.2.2.2.2.1 lP.2.2.2.2.2.2.2.2.2.2).bind λrL=>ck (bP tU.length tU.length (sub ([(bX.mk (⟨#[104,101,105,103,104,116]⟩) rL.1)]:U bX) 0 1).length 1 24)<|gH (tU++(sub ([(bX.mk (⟨#[104,101,105,103,104,116]⟩) rL.1)]:U bX) 0 1)) λHm=>ck (aE rL.2.2.2.2.2.2.2.2.2.2.length rL.2.2.2.2.2.2.2.2.2.2.length)<|(kL n rL.2.1 rL.2.2.1 rL.2.2.2.1 rL.2.2.2.2.1 rL.2.2.2.2.2.1 rL.2.2.2.2.2.2.1 rL.2.2.2.2.2.2.2.1 rL.2.2.2.2.2.2.2.2.1 rL.2.2.2.2.2.2.2.2.2.1 rL.2.2.2.2.2.2.2.2.2.2).bind λsA=>ck (bP Hm.length Hm.length (sub ([(bX.mk (⟨#[104,111,109,101,115]⟩) sA.1)]:U bX) 0 1).length 1 24)<|gH (Hm++(sub ([(bX.mk (⟨#[104,111,109,101,115]⟩) sA.1)]:U bX) 0 1)) λr16=>ck (aE sA.2.2.2.2.2.2.2.2.2.2.length sA.2.2.2.2.2.2.2.2.2.2.length)<|(iL n sA.2.1 sA.2.2.1 sA.2.2.2.1 sA.2.2.2.2.1 sA.2.2.2.2.2.1 sA.2.2.2.2.2.2.1 sA.2.2.2.2.2.2.2.1 sA.2.2.2.2.2.2.2.2.1 sA.2.2.2.2.2.2.2.2.2.1 sA.2.2.2.2.2.2.2.2.2.2).bind λsy=>ck (bP r16.length r16.length (sub ([(bX.mk (⟨#[114,117,110,111,102,102]⟩) sy.1)]:U bX) 0 1).length 1 24)<|gH (r16++(sub ([(bX.mk (⟨#[114,117,110,111,102,102]⟩) sy.1)]:U bX) 0 1)) λHk=>ck (aE sy.2.2.2.2.2.2.2.2.2.2.length sy.2.2.2.2.2.2.2.2.2.2.length)<|(jl n sy.2.1 sy.2.2.1 sy.2.2.2.1 sy.2.2.2.2.1 sy.2.2.2.2.2.1 sy.2.2.2.2.2.2.1 sy.2.2.2.2.2.2.2.1 sy.2.2.2.2.2.2.2.2.1 sy.2.2.2.2.2.2.2.2.2.1 sy.2.2.2.2.2.2.2.2.2.2).bind λp7=>ck (bP Hk.length Hk.length (sub ([(bX.mk (⟨#[115,101,116,98,97,99,107]⟩) p7.1)]:U bX) 0 1).length 1 24)<|gH (Hk++(sub ([(bX.mk (⟨#[115,101,116,98,97,99,107]⟩) p7.1)]:U bX) 0 1)) λHj=>ck (aE p7.2.2.2.2.2.2.2.2.2.2.length p7.2.2.2.2.2.2.2.2.2.2.length)<|(jm n p7.2.1 p7.2.2.1 p7.2.2.2.1 p7.2.2.2.2.1 p7.2.2.2.2.2.1 p7.2.2.2.2.2.2.1 p7.2.2.2.2.2.2.2.1 p7.2.2.2.2.2.2.2.2.1 p7.2.2.2.2.2.2.2.2.2.1 p7.2.2.2.2.2.2.2.2.2.2).bind λr21=>ck (bP Hj.length Hj.length (sub ([(bX.mk (⟨#[116,114,97,102,102,105,99]⟩) r21.1)]:U bX) 0 1).length 1 24)<|gH (Hj++(sub ([(bX.mk (⟨#[116,114,97,102,102,105,99]⟩) r21.1)]:U bX) 0 1)) λHi=>ck (aE (sub Hi 0 Hi.length).length Hi.length)<|some (sub Hi 0 Hi.length)
def y8(a0:Int):J (Int×Bool):=
 ((bif (a0==0)then some (a0==0)else(bif (a0==1)then some (a0==1)else(bif (a0==2)then some (a0==2)else some (a0==3))))).bind λv1=>(bif v1 then some ((0:Int),true)else((bif (a0==9)then some (a0==9)else some (a0==15))).bind λv2=>(bif v2 then some ((1:Int),true)else(bif (a0==16)then some ((3:Int),true)else(bif decide (a0>=0)then some ((2:Int),(decide (a0<17)))else some ((2:Int),false)))))
def xW(n:Nat)(rc:(cK)->(Int)->J Int)(a0:cK)(a1:Int):Stp (Int×Int) Int
 |(v2,v3)=>(bif decide (v3<(a0.args.length:Int))then(bo a0.args v3).bind λx1=>(rc (cK.mk x1.op x1.n x1.s x1.key x1.args) (i64.wrap (a1+1))).bind λr2=>some (.inl ((max v2 r2),(i64.wrap (v3+1))))else some (.inr v2))
def Ar(rc:(cK)->(Int)->J Int)(a0:cK)(a1:Int):J Int:=
 (y8 a0.op).bind λr1=>((bif (!r1.2)then some true else(bif (r1.1 !=(a0.args.length:Int))then some true else some (decide (a1>=12))))).bind λv1=>(bif v1 then some (13:Int)else(iter (xW n rc a0 a1) n ((0:Int),(0:Int))).bind λw1=>some (i64.wrap (w1+1)))
def EM(rc:(cK)->(Int)->J Int):cp xx:=⟨[.d (.st SI.Expr),.d (.int .i64)],[.d (.int .i64)],λa=>rc a.1 a.2.1,none⟩
def sM(n:Nat):Nat->(cK)->(Int)->J Int
 | 0=>λ_ _=>none
 |m+1=>Ar n (sM n m)
def Qm(a0:cK)(a1:Int):J Int:=sM n n a0 a1
def IK(a0:cK):J Bool:=
 (Qm n (cK.mk a0.op a0.n a0.s a0.key a0.args) 0).bind λr1=>some (decide (r1<=12))
def Au(a0:dx)(a1:cK):J Bool:=
 some (ByteArray.toList a0.name==ByteArray.toList a1.s)
def Ga(a0:U dx)(a1:(dx×Unit)->J Bool):Stp Int (Unit⊕Int)
 |v1=>(bif decide (v1<(a0.length:Int))then(bo a0 v1).bind λx1=>(a1 (x1,())).bind λr1=>(bif r1 then(some v1).map λa=> .inr (.inr a)else some (.inl (i64.wrap (v1+1))))else some (.inr (.inl ())))
def rR(a0:U dx)(a1:(dx×Unit)->J Bool):J Int:=
 dH (iter (Ga a0 a1) n (0:Int)) λ()=>some ((-1):Int)
def Av(a0:bX)(a1:cK):J Bool:=
 some (ByteArray.toList a0.name==ByteArray.toList a1.key)
def y9(a0:Bool):J Int:=
 (bif a0 then some (1:Int)else some (0:Int))
def wN(a0:Int)(a1:Int):J Int:=
 (bif (a1==0)then some (0:Int)else ck (a1 !=0)<|(ck (a1 !=0)<|((bif ((Int.tmod a0 a1) !=0)then some (!((decide ((Int.tmod a0 a1)<0))==(decide (a1<0))))else some false)).bind λv1=>(bif v1 then some (i64.wrap ((i64.wrap (Int.tdiv a0 a1)) -1))else some (i64.wrap (Int.tdiv a0 a1))):J Int).bind λv2=>some v2)
def Kh(a0:Int)(a1:Int)(a2:Int):J Int:=
 (bif (a0==4)then some (i64.wrap (a1+a2))else(bif (a0==5)then some (i64.wrap (a1 -a2))else(bif (a0==6)then some (i64.wrap (a1*a2))else(bif (a0==7)then(wN a1 a2).bind λr1=>some r1 else(bif (a0==8)then(bif (a2==0)then some (0:Int)else(wN a1 a2).bind λr2=>some (i64.wrap (a1 -(i64.wrap (r2*a2)))))else(bif (a0==10)then(y9 (a1==(a2:Int))).bind λr3=>some r3 else(bif (a0==11)then(y9 (decide (a1<(a2:Int)))).bind λr4=>some r4 else(bif (a0==12)then(y9 (decide (a1<=(a2:Int)))).bind λr5=>some r5 else(bif (a0==13)then(bif (a1 !=0)then(y9 (a2 !=0)).bind λr6=>some r6 else(y9 false).bind λr7=>some r7)else(bif (a1 !=0)then(y9 true).bind λr8=>some r8 else(y9 (a2 !=0)).bind λr9=>some r9))))))))))
def jo(a0:U eT)(a1:U dx)(a2:U dN)(a3:U bK)(a4:U gD)(a5:U fA)(a6:U cZ)(a7:Int)(a8:U ByteArray)(a9:cK)(km:U (ByteArray×Int)):J (Int×(List (ByteArray×Int))):=
 (rR n a1 (λ (y1:dx×Unit)=>Au y1.1 (cK.mk a9.op a9.n a9.s a9.key a9.args))).bind λr1=>(bif decide (r1<0)then some ((0:Int),km)else(bo a1 r1).bind λx1=>(kE n x1.rows (λ (y2:bX×Unit)=>Av y2.1 (cK.mk a9.op a9.n a9.s a9.key a9.args))).bind λr2=>(bif decide (r2>=0)then(bo x1.rows r2).bind λx2=>some (x2.n,km)else some (x1.sn,km)))
def fD(n:Nat)(rc:((List eT))->((List dx))->((List dN))->((List bK))->((List gD))->((List fA))->((List cZ))->(Int)->((List ByteArray))->(cK)->((List (ByteArray×Int)))->J (Int×(List (ByteArray×Int))))(a0:U eT)(a1:U dx)(a2:U dN)(a3:U bK)(a4:U gD)(a5:U fA)(a6:U cZ)(a7:Int)(a8:U ByteArray)(a9:cK):Stp (Int×(List (ByteArray×Int))×(List Int)) ((List (ByteArray×Int))×(List Int))
 |(v1,v2,v3)=>(bif decide (v1<(a9.args.length:Int))then((bo a9.args v1).bind λx1=>((bif (a9.op==16)then(bif decide (v1>0)then ck (cN 0 v3.length)<|(bo v3 ((0:Nat)+0:Int)).bind λx2=>some (!((x2 !=0)==(v1==1)))else some false)else some false)).bind λv4=>(bif v4 then ck (bP v3.length v3.length (sub ([0]:U Int) 0 1).length 1 8)<|gH (v3++(sub ([0]:U Int) 0 1)) λr1=>ck (aE r1.length r1.length)<|some (v2,r1)else(rc a0 a1 a2 a3 a4 a5 a6 a7 a8 (cK.mk x1.op x1.n x1.s x1.key x1.args) v2).bind λr2=>ck (bP v3.length v3.length (sub ([r2.1]:U Int) 0 1).length 1 8)<|gH (v3++(sub ([r2.1]:U Int) 0 1)) λr3=>ck (aE r3.length r3.length)<|some (r2.2,r3)):J ((List (ByteArray×Int))×(List Int))).bind λ(v5,v6)=>ck (aE v6.length v6.length)<|some (.inl ((i64.wrap (v1+1)),v5,v6))else ck (aE v3.length v3.length)<|some (.inr (v2,v3)))
def fH(rc:((List eT))->((List dx))->((List dN))->((List bK))->((List gD))->((List fA))->((List cZ))->(Int)->((List ByteArray))->(cK)->((List (ByteArray×Int)))->J (Int×(List (ByteArray×Int))))(a0:U eT)(a1:U dx)(a2:U dN)(a3:U bK)(a4:U gD)(a5:U fA)(a6:U cZ)(a7:Int)(a8:U ByteArray)(a9:cK)(km:U (ByteArray×Int)):J (Int×(List (ByteArray×Int))):=
 ck (aE 0 ([]:U Int).length)<|(iter (fD n rc a0 a1 a2 a3 a4 a5 a6 a7 a8 a9) n ((0:Int),km,([]:U Int))).bind λ(w1,w2)=>(bif (a9.op==0)then some (a9.n,w1)else(bif (a9.op==1)then some (((fG lw a9.s w1).getD 0),w1)else(bif (a9.op==2)then(jo n a0 a1 a2 a3 a4 a5 a6 a7 a8 (cK.mk a9.op a9.n a9.s a9.key a9.args) w1).bind λr4=>some (r4.1,r4.2)else(bif (a9.op==3)then(fJ n a8 a9.s).bind λr5=>(y9 r5).bind λr6=>some (r6,w1)else(bif (a9.op==9)then ck (cN 0 w2.length)<|(bo w2 ((0:Nat)+0:Int)).bind λx3=>some ((i64.wrap (0 -x3)),w1)else(bif (a9.op==15)then ck (cN 0 w2.length)<|(bo w2 ((0:Nat)+0:Int)).bind λx4=>(y9 (x4==0)).bind λr7=>some (r7,w1)else(bif (a9.op==16)then ck (cN 0 w2.length)<|(bo w2 ((0:Nat)+0:Int)).bind λx5=>(bif (x5 !=0)then ck (cN 1 w2.length)<|(bo w2 ((0:Nat)+1:Int)).bind λx6=>some (x6,w1)else ck (cN 2 w2.length)<|(bo w2 ((0:Nat)+2:Int)).bind λx7=>some (x7,w1))else ck (cN 0 w2.length)<|(bo w2 ((0:Nat)+0:Int)).bind λx8=>ck (cN 1 w2.length)<|(bo w2 ((0:Nat)+1:Int)).bind λx9=>(Kh a9.op x8 x9).bind λr8=>some (r8,w1))))))))
def EN(rc:((List eT))->((List dx))->((List dN))->((List bK))->((List gD))->((List fA))->((List cZ))->(Int)->((List ByteArray))->(cK)->((List (ByteArray×Int)))->J (Int×(List (ByteArray×Int)))):dg xx:=⟨[(.a [(.v (.sl (.st SI.Def))),(.v (.sl (.st SI.Table))),(.v (.sl (.st SI.Zone))),(.v (.sl (.st SI.Rule))),(.v (.sl (.st SI.Cap))),(.v (.sl (.st SI.View))),(.v (.sl (.st SI.gi))),(.v (.int .i64)),(.mp 0),(.v (.sl .str))]),(.v (.st SI.Expr))],[(0,.m .str (.int .i64))],[(.v (.int .i64))],[(0,.m .str (.int .i64))],λv=>rc (v.1) (v.2.1) (v.2.2.1) (v.2.2.2.1) (v.2.2.2.2.1) (v.2.2.2.2.2.1) (v.2.2.2.2.2.2.1) (v.2.2.2.2.2.2.2.1) (v.2.2.2.2.2.2.2.2.1) (v.2.2.2.2.2.2.2.2.2.1) (v.2.2.2.2.2.2.2.2.2.2)⟩
def jQ(rc:((List eT))->((List dx))->((List dN))->((List bK))->((List gD))->((List fA))->((List cZ))->(Int)->((List ByteArray))->(cK)->((List (ByteArray×Int)))->J (Int×(List (ByteArray×Int)))):cp xx:=⟨[],[.d .bool],λ_=>none,some (EN rc)⟩
def dh(n:Nat):Nat->((List eT))->((List dx))->((List dN))->((List bK))->((List gD))->((List fA))->((List cZ))->(Int)->((List ByteArray))->(cK)->((List (ByteArray×Int)))->J (Int×(List (ByteArray×Int)))
 | 0=>λ_ _ _ _ _ _ _ _ _ _ _=>none
 |m+1=>fH n (dh n m)
def gu(a0:U eT)(a1:U dx)(a2:U dN)(a3:U bK)(a4:U gD)(a5:U fA)(a6:U cZ)(a7:Int)(a8:U ByteArray)(a9:cK)(km:U (ByteArray×Int)):J (Int×(List (ByteArray×Int))):=dh n n a0 a1 a2 a3 a4 a5 a6 a7 a8 a9 km
def j6(n:Nat)(a1:U bX):Stp (Int×(List (ByteArray×Int))×(List (ByteArray×Bool))) ((List (ByteArray×Int))×(List (ByteArray×Bool)))
 |(v1,v2,v3)=>(bif decide (v1<(a1.length:Int))then((bo a1 v1).bind λx1=>(bif (!((fG lw x1.name v3).getD false))then some ((nG lw x1.name x1.n v2),(nG lw x1.name true v3))else some (v2,v3)):J ((List (ByteArray×Int))×(List (ByteArray×Bool)))).bind λ(v4,v5)=>some (.inl ((i64.wrap (v1+1)),v4,v5))else some (.inr (v2,v3)))
def gM(a0:bU)(a2:U ByteArray)(w2:U (ByteArray×Bool))(r1:(List Int)×(List ByteArray)×Int):Stp (Int×(List (ByteArray×Int))×(List Int)) ((List (ByteArray×Int))×(List Int))
 |(v6,v7,v8)=>(bif decide (v6<(r1.1.length:Int))then(ck (cN v6 r1.1.length)<|(bo r1.1 ((0:Nat)+v6:Int)).bind λx2=>(bo a0.defs x2).bind λx3=>((IK n (cK.mk x3.i9 x3.mf x3.k5 x3.iS x3.eL)).bind λr2=>(bif r2 then(gu n a0.defs a0.tables a0.zones a0.rules a0.caps a0.views a0.uu a0.hours a2 (cK.mk x3.i9 x3.mf x3.k5 x3.iS x3.eL) v7).bind λr3=>ck (cN x2 ((a0.defs.length:Int).toNat))<|(bo v8 ((0:Nat)+x2:Int)).bind λx4=>some (r3.2,(v8.set ((0:Nat)+x2:Int).toNat r3.1))else some (v7,v8)):J ((List (ByteArray×Int))×(List Int))).bind λ(v9,v10)=>(bif (!((fG lw x3.name w2).getD false))then ck (cN x2 ((a0.defs.length:Int).toNat))<|(bo v10 ((0:Nat)+x2:Int)).bind λx5=>some ((nG lw x3.name x5 v9),v10)else some (v9,v10)):J ((List (ByteArray×Int))×(List Int))).bind λ(v11,v12)=>some (.inl ((i64.wrap (v6+1)),v11,v12))else some (.inr (v7,v8)))
def mH(a0:bU)(a1:U bX)(a2:U ByteArray):J ((List eT)×(List dx)×(List dN)×(List bK)×(List gD)×(List fA)×(List cZ)×Int×(List ByteArray)×(List (ByteArray×Int))×(List Int)):=
 (iter (j6 n a1) n ((0:Int),([]:(List (ByteArray×Int))),([]:(List (ByteArray×Bool))))).bind λ(w1,w2)=>ck (decide ((a0.defs.length:Int)<=(a0.defs.length:Int))&&(decide (0<=(a0.defs.length:Int))&&xK (a0.defs.length:Int) 8))<|(jJ n a0).bind λr1=>(bif (r1.2.2 !=0)then ck (aE ((a0.defs.length:Int).toNat) (List.replicate (a0.defs.length:Int).toNat (0:Int)).length)<|some (a0.defs,a0.tables,a0.zones,a0.rules,a0.caps,a0.views,a0.uu,a0.hours,a2,w1,(List.replicate (a0.defs.length:Int).toNat (0:Int)))else(iter (gM n a0 a2 w2 r1) n ((0:Int),w1,(List.replicate (a0.defs.length:Int).toNat (0:Int)))).bind λ(w3,w4)=>ck (aE ((a0.defs.length:Int).toNat) w4.length)<|some (a0.defs,a0.tables,a0.zones,a0.rules,a0.caps,a0.views,a0.uu,a0.hours,a2,w3,w4))
def xX(a0:bU)(a1:U bX)(a2:U ByteArray)(a3:cK):J Int:=
 (IK n (cK.mk a3.op a3.n a3.s a3.key a3.args)).bind λr1=>(bif (!r1)then some (0:Int)else(mH n a0 a1 a2).bind λr2=>(gu n r2.1 r2.2.1 r2.2.2.1 r2.2.2.2.1 r2.2.2.2.2.1 r2.2.2.2.2.2.1 r2.2.2.2.2.2.2.1 r2.2.2.2.2.2.2.2.1 r2.2.2.2.2.2.2.2.2.1 (cK.mk a3.op a3.n a3.s a3.key a3.args) r2.2.2.2.2.2.2.2.2.2.1).bind λr3=>some r3.1)
def xY(a0:aJ):J (List fV):=
 ck (aE (sub ([(aA.mk a0.bz a0.cC a0.bx a0.cz)]:U aA) 0 1).length 1)<|ck (aE (sub ([(fV.mk a0.eQ a0.ev (sub ([(aA.mk a0.bz a0.cC a0.bx a0.cz)]:U aA) 0 1))]:U fV) 0 1).length 1)<|some (sub ([(fV.mk a0.eQ a0.ev (sub ([(aA.mk a0.bz a0.cC a0.bx a0.cz)]:U aA) 0 1))]:U fV) 0 1)
def Gc(a0:U d9)(a1:(d9×Unit)->J Bool):Stp Int (Unit⊕Int)
 |v1=>(bif decide (v1<(a0.length:Int))then(bo a0 v1).bind λx1=>(a1 (x1,())).bind λr1=>(bif r1 then(some v1).map λa=> .inr (.inr a)else some (.inl (i64.wrap (v1+1))))else some (.inr (.inl ())))
def rT(a0:U d9)(a1:(d9×Unit)->J Bool):J Int:=
 dH (iter (Gc a0 a1) n (0:Int)) λ()=>some ((-1):Int)
def kM(a0:U d9)(a1:(d9×Unit)->J Bool):J Bool:=
 (rT n a0 a1).bind λr1=>some (decide (r1>=0))
def nQ(a0:Int)(a1:Int)(a2:Int):J Bool:=
 (bif decide (a1<=(a0:Int))then some (decide (a0<=(a2:Int)))else some false)
def Aw(a0:d9):J Bool:=
 (nQ a0.side 0 3).bind λr1=>(bif r1 then(nQ a0.base 0 4096).bind λr2=>(bif r2 then(nQ a0.num 0 4096).bind λr3=>(bif r3 then(nQ a0.den 1 4096).bind λr4=>some r4 else some false)else some false)else some false)
def uf(a0:d9):J Bool:=
 (Aw a0).bind λr1=>some (!r1)
def Ay(a0:aA)(a1:U d9):J Bool:=
 (nL a0).bind λr1=>(bif r1 then(kM n a1 (λ (y1:d9×Unit)=>uf y1.1)).bind λr2=>some (!r2)else some false)
def UE(a0:U aA)(a1:U aA):J Bool:=
 (oK n a0 a1).bind λr1=>some r1
def Az(a0:U fV):Stp Int (Unit⊕Bool)
 |v1=>(bif decide (v1<(a0.length:Int))then dH ((bo a0 v1).bind λx1=>((bif decide (x1.z0<0)then some true else(bif decide (x1.z0>=(x1.z1:Int))then some true else(bif decide (x1.z1>4096)then some true else(bif ((x1.area.length:Int)==0)then some true else(og n x1.area).bind λr1=>some (!r1)))))).bind λv2=>(bif v2 then((some false).map λa=> .inr (.inr a)).map .inr else(bif (v1==0)then some (.inl ())else(bo a0 (i64.wrap (v1 -1))).bind λx2=>((bif decide (x2.z1>(x1.z0:Int))then some true else(bif (x2.z1==(x1.z0:Int))then(UE n x2.area x1.area).bind λr2=>some r2 else some false))).bind λv3=>(bif v3 then((some false).map λa=> .inr (.inr a)).map .inr else some (.inl ())))):J ((Unit)⊕_)) λ()=>some (.inl (i64.wrap (v1+1)))else some (.inr (.inl ())))
def IL(a0:U fV):J Bool:=
 (bif decide ((a0.length:Int)>80)then some false else dH (iter (Az n a0) n (0:Int)) λ()=>some true)
def xu(a0:aA)(a1:Int)(a2:Int):J NS:=
 some (NS.mk (i64.wrap (a1 -a0.x0)) (i64.wrap ((i64.wrap (a0.x1 -1)) -a1)) (i64.wrap (a2 -a0.y0)) (i64.wrap ((i64.wrap (a0.y1 -1)) -a2)))
def ug(a0:Int)(a1:Int):J Int:=
 ck (a1 !=0)<|(ck (a1 !=0)<|(bif decide ((Int.tmod a0 a1)<0)then some (i64.wrap ((i64.wrap (Int.tdiv a0 a1)) -1))else some (i64.wrap (Int.tdiv a0 a1))):J Int).bind λv1=>some v1
def xZ(a0:aA)(a1:U d9)(a2:Int)(a3:Int)(r1:NS):Stp (Int×Int) Int
 |(v1,v2)=>(bif decide (v2<(a1.length:Int))then(bo a1 v2).bind λx1=>ck (cN x1.side 4)<|(bo ([r1.a0,r1.a1,r1.a2,r1.a3]:U Int) x1.side).bind λx2=>(ug (i64.wrap (x1.num*x2)) x1.den).bind λr2=>some (.inl ((min v1 (i64.wrap (x1.base+r2))),(i64.wrap (v2+1))))else some (.inr v1))
def Ki(a0:aA)(a1:U d9)(a2:Int)(a3:Int):J Int:=
 (xu a0 a2 a3).bind λr1=>(iter (xZ a0 a1 a2 a3 r1) n ((4096:Int),(0:Int))).bind λw1=>some w1
def om(a0:aA)(a1:U d9)(x1:aA)(x2:Int):Stp (Int×Int) Int
 |(v5,v6)=>(bif decide (v6<2)then ck (cN v6 2)<|(bo ([x1.y0,(i64.wrap (x1.y1 -1))]:U Int) ((0:Nat)+v6:Int)).bind λx3=>(Ki n a0 a1 x2 x3).bind λr1=>some (.inl ((min v5 r1),(i64.wrap (v6+1))))else some (.inr v5))
def oo(a0:aA)(a1:U d9)(x1:aA):Stp (Int×Int) Int
 |(v3,v4)=>(bif decide (v4<2)then ck (cN v4 2)<|(bo ([x1.x0,(i64.wrap (x1.x1 -1))]:U Int) ((0:Nat)+v4:Int)).bind λx2=>(iter (om n a0 a1 x1 x2) n (v3,(0:Int))).bind λw1=>some (.inl (w1,(i64.wrap (v4+1))))else some (.inr v3))
def rE(a0:aA)(a1:U d9)(a2:U aA):Stp (Int×Int) Int
 |(v1,v2)=>(bif decide (v2<(a2.length:Int))then(bo a2 v2).bind λx1=>(iter (oo n a0 a1 x1) n (v1,(0:Int))).bind λw2=>some (.inl (w2,(i64.wrap (v2+1))))else some (.inr v1))
def yc(a0:aA)(a1:U d9)(a2:U aA):J Int:=
 (iter (rE n a0 a1 a2) n ((4096:Int),(0:Int))).bind λw3=>some w3
def rF(a0:fV)(a1:aA)(a2:U d9):J Bool:=
 (yc n a1 a2 a0.area).bind λr1=>some (decide (r1<(a0.z1:Int)))
def lZ(a0:U fV)(a1:(fV×Unit)->J Bool):Stp Int (Unit⊕Int)
 |v1=>(bif decide (v1<(a0.length:Int))then(bo a0 v1).bind λx1=>(a1 (x1,())).bind λr1=>(bif r1 then(some v1).map λa=> .inr (.inr a)else some (.inl (i64.wrap (v1+1))))else some (.inr (.inl ())))
def uh(a0:U fV)(a1:(fV×Unit)->J Bool):J Int:=
 dH (iter (lZ a0 a1) n (0:Int)) λ()=>some ((-1):Int)
def ja(a0:U fV)(a1:(fV×Unit)->J Bool):J Bool:=
 (uh n a0 a1).bind λr1=>some (decide (r1>=0))
def yg(a0:aA)(a1:U d9)(a2:U fV):J Bool:=
 ((Ay n a0 a1).bind λr1=>(bif (!r1)then some true else(IL n a2).bind λr2=>some (!r2))).bind λv1=>(bif v1 then some false else(ja n a2 (λ (y1:fV×Unit)=>rF n y1.1 a0 a1)).bind λr3=>some (!r3))
def jR(a0:aJ)(a1:aA)(a2:bK):J Bool:=
 (xY a0).bind λr1=>ck (aE (sub ([(d9.mk a2.iu a2.iv a2.j9 a2.ka)]:U d9) 0 1).length 1)<|ck (aE (sub r1 0 r1.length).length r1.length)<|(yg n a1 (sub ([(d9.mk a2.iu a2.iv a2.j9 a2.ka)]:U d9) 0 1) (sub r1 0 r1.length)).bind λr2=>some (!r2)
def gP(a0:mD)(a1:(aJ×Unit)->J Bool):J Bool:=
 (fP n a0.cM a1).bind λr1=>some r1
def jS(a0:aJ)(a1:bK):J Bool:=
 ck (decide (0<=a0.use)&&decide (a0.use<=i64.bits))<|some ((bits .and .i64 a1.uses (i64.wrap (1*2 ^ (a0.use:Int).toNat)))==0)
def amf(a0:aA)(a1:aA):J (Int×Int):=
 some ((i64.wrap ((max a0.x0 a1.x0) -(min a0.x1 a1.x1))),(i64.wrap ((max a0.y0 a1.y0) -(min a0.y1 a1.y1))))
def OS(a0:aA)(a1:aA):J Int:=
 ((nL a0).bind λr1=>(bif (!r1)then some true else(nL a1).bind λr2=>some (!r2))).bind λv1=>(bif v1 then some ((-1):Int)else(amf a0 a1).bind λr3=>some (max (max (0:Int) r3.1) r3.2))
def dY(a0:jh)(a1:mD)(a2:aJ)(a3:bK):J Bool:=
 ((bif (a0.lot==(a1.eh:Int))then some true else(nL (aA.mk a0.eI a0.eC a0.eE a0.ez)).bind λr1=>(bif (!r1)then some true else(bif decide (a0.fp<0)then some true else some (decide (a0.fp>=6)))))).bind λv1=>(bif v1 then some false else((bif (a2.use==(a3.uses:Int))then(bif (a0.fp==(a3.other:Int))then some true else(bif (a2.use==(a3.other:Int))then some (a0.fp==(a3.uses:Int))else some false))else(bif (a2.use==(a3.other:Int))then some (a0.fp==(a3.uses:Int))else some false))).bind λv2=>(bif v2 then(OS (aA.mk a2.bz a2.cC a2.bx a2.cz) (aA.mk a0.eI a0.eC a0.eE a0.ez)).bind λr2=>some (decide (r2<(a3.n:Int)))else some false))
def EO(a0:U jh)(a1:(jh×Unit)->J Bool):Stp Int (Unit⊕Int)
 |v1=>(bif decide (v1<(a0.length:Int))then(bo a0 v1).bind λx1=>(a1 (x1,())).bind λr1=>(bif r1 then(some v1).map λa=> .inr (.inr a)else some (.inl (i64.wrap (v1+1))))else some (.inr (.inl ())))
def qG(a0:U jh)(a1:(jh×Unit)->J Bool):J Int:=
 dH (iter (EO a0 a1) n (0:Int)) λ()=>some ((-1):Int)
def jT(a0:U jh)(a1:(jh×Unit)->J Bool):J Bool:=
 (qG n a0 a1).bind λr1=>some (decide (r1>=0))
def rU(a0:mD)(a1:bK)(a2:aJ):J Bool:=
 (jT n a0.dp (λ (y1:jh×Unit)=>dY y1.1 a0 a2 a1)).bind λr1=>some r1
def jU(a0:aJ)(a1:mD)(a2:bK):J Bool:=
 (rU n a1 a2 a0).bind λr1=>some r1
def mU(a0:mD)(a1:bK):J Bool:=
 (bif (a1.kind==0)then(kH n (bU.mk a0.cw a0.b8 a0.b7 a0.ci a0.cx a0.cg a0.cD a0.cj) (dw.mk a0.s7 a0.m5 a0.kB a0.pj) (bD.mk a0.eh a0.iz)).bind λr1=>ck (aE (sub r1 0 r1.length).length r1.length)<|(xX n (bU.mk a0.cw a0.b8 a0.b7 a0.ci a0.cx a0.cg a0.cD a0.cj) (sub r1 0 r1.length) a0.zones (cK.mk a1.ld a1.mS a1.mN a1.j8 a1.gb)).bind λr2=>some (r2==0)else(bif (a1.kind==1)then(Da n a0.kB).bind λr3=>(gP n a0 (λ (y1:aJ×Unit)=>jR n y1.1 r3.1 a1)).bind λr4=>some r4 else(bif (a1.kind==2)then(gP n a0 (λ (y2:aJ×Unit)=>jS y2.1 a1)).bind λr5=>some r5 else(bif (a1.kind==3)then(gP n a0 (λ (y3:aJ×Unit)=>jU n y3.1 a0 a1)).bind λr6=>some r6 else some false))))
def vN(a0:aA)(a1:aA):J Bool:=
 (bif decide ((max a1.x0 a0.x0)<((min a1.x1 a0.x1):Int))then some (decide ((max a1.y0 a0.y0)<((min a1.y1 a0.y1):Int)))else some false)
def IQ(a0:U aA)(a1:(aA×Unit)->J Bool):Stp Int (Unit⊕Int)
 |v1=>(bif decide (v1<(a0.length:Int))then(bo a0 v1).bind λx1=>(a1 (x1,())).bind λr1=>(bif r1 then(some v1).map λa=> .inr (.inr a)else some (.inl (i64.wrap (v1+1))))else some (.inr (.inl ())))
def uj(a0:U aA)(a1:(aA×Unit)->J Bool):J Int:=
 dH (iter (IQ a0 a1) n (0:Int)) λ()=>some ((-1):Int)
def jb(a0:U aA)(a1:(aA×Unit)->J Bool):J Bool:=
 (uj n a0 a1).bind λr1=>some (decide (r1>=0))
def EP(a0:aA)(a1:U aA):J Bool:=
 (jb n a1 (λ (y1:aA×Unit)=>vN y1.1 a0)).bind λr1=>some r1
def UF(a0:U aA)(a1:U aA):J Bool:=
 (jb n a0 (λ (y1:aA×Unit)=>EP n y1.1 a1)).bind λr1=>some r1
def qQ(a0:fV)(a1:kT):J Bool:=
 (bif decide (a0.z1>(a1.top:Int))then(UF n a0.area a1.area).bind λr1=>some r1 else some false)
def vO(a0:U kT)(a1:Int)(a2:U fV):Stp Int (Unit⊕Bool)
 |v1=>(bif decide (v1<(a0.length:Int))then dH ((bo a0 v1).bind λx1=>((bif (x1.lot !=(a1:Int))then some true else(og n x1.area).bind λr2=>some (!r2))).bind λv2=>(bif v2 then some (.inl ())else(ja n a2 (λ (y1:fV×Unit)=>qQ n y1.1 x1)).bind λr3=>(bif r3 then((some false).map λa=> .inr (.inr a)).map .inr else some (.inl ()))):J ((Unit)⊕_)) λ()=>some (.inl (i64.wrap (v1+1)))else some (.inr (.inl ())))
def EQ(a0:U kT)(a1:Int)(a2:U fV):J Bool:=
 (IL n a2).bind λr1=>(bif (!r1)then some false else dH (iter (vO n a0 a1 a2) n (0:Int)) λ()=>some true)
def mZ(a0:aJ)(a1:cu)(a2:bD):J Bool:=
 (xY a0).bind λr1=>ck (aE (sub r1 0 r1.length).length r1.length)<|(EQ n a1.co a2.lot (sub r1 0 r1.length)).bind λr2=>some (!r2)
def jC(a0:ByteArray)(a1:Bool)(a2:U ByteArray):J (List ByteArray):=
 ((bif a1 then ck (aE (sub a2 0 a2.length).length a2.length)<|(fJ n (sub a2 0 a2.length) a0).bind λr1=>some (!r1)else some false)).bind λv1=>(bif v1 then ck (bP a2.length a2.length (sub ([a0]:U ByteArray) 0 1).length 1 16)<|gH (a2++(sub ([a0]:U ByteArray) 0 1)) λr2=>ck (aE r2.length r2.length)<|some r2 else ck (aE a2.length a2.length)<|some a2)
def ng(a0:cu)(r1:mD×Int)(r2:U Int):Stp (Int×(List ByteArray)) (List ByteArray)
 |(v1,v2)=>(bif decide (v1<(r2.length:Int))then ck (cN v1 r2.length)<|(bo r2 ((0:Nat)+v1:Int)).bind λx1=>(bo a0.az x1).bind λx2=>(bo a0.az x1).bind λx3=>(mU n r1.1 x3).bind λr3=>ck (aE v2.length v2.length)<|(jC n x2.name r3 v2).bind λr4=>ck (aE r4.length r4.length)<|some (.inl ((i64.wrap (v1+1)),r4))else ck (aE v2.length v2.length)<|some (.inr v2))
def oO(a0:cu)(a1:bD)(a2:Int):J ((List ByteArray)×Int):=
 (Ap n a0 a1).bind λr1=>(bif (r1.2 !=0)then some (([]:(List ByteArray)),r1.2)else(nN n (bU.mk a0.cm a0.br a0.bu a0.az a0.ct a0.b9 a0.cE a0.ca) r1.1.zones a2).bind λr2=>ck (aE 0 ([]:U ByteArray).length)<|(iter (ng n a0 r1 r2) n ((0:Int),([]:U ByteArray))).bind λw1=>(gP n r1.1 (λ (y1:aJ×Unit)=>mZ n y1.1 a0 a1)).bind λr5=>ck (aE w1.length w1.length)<|(jC n (⟨#[101,97,115,101,109,101,110,116]⟩) r5 w1).bind λr6=>ck (aE (sub r6 0 r6.length).length r6.length)<|some ((sub r6 0 r6.length),(0:Int)))
def jY(a0:cu)(a1:bD)(a2:Int):J Bool:=
 (oO n a0 a1 a2).bind λr1=>(bif (r1.2==0)then some ((r1.1.length:Int)==0)else some false)
def iM(a0:aY)(a1:kz)(a2:dw):J Bool:=
 (IJ n a2 a0).bind λr1=>(jY n (cu.mk a1.cw a1.b8 a1.b7 a1.ci a1.cx a1.cg a1.cD a1.cj a1.eW a1.da a1.d6 a1.dp a1.fc) r1 a1.day).bind λr2=>some r2
def Gd(a0:U aY)(a1:(aY×Unit)->J Bool):Stp Int (Unit⊕Int)
 |v1=>(bif decide (v1<(a0.length:Int))then(bo a0 v1).bind λx1=>(a1 (x1,())).bind λr1=>(bif r1 then(some v1).map λa=> .inr (.inr a)else some (.inl (i64.wrap (v1+1))))else some (.inr (.inl ())))
def rV(a0:U aY)(a1:(aY×Unit)->J Bool):J Int:=
 dH (iter (Gd a0 a1) n (0:Int)) λ()=>some ((-1):Int)
def iT(a0:kz)(a1:dw)(a2:U aY):J (aY×Bool):=
 (rV n a2 (λ (y1:aY×Unit)=>iM n y1.1 a0 a1)).bind λr1=>(bif decide (r1<0)then some ((aY.mk 0 0 0 0),false)else(bo a2 r1).bind λx1=>some (x1,true))
def l5(a0:kz)(a1:dw):J (bf×Bool):=
 (sK n (bU.mk a0.cw a0.b8 a0.b7 a0.ci a0.cx a0.cg a0.cD a0.cj) a1.area).bind λr1=>ck (aE (sub r1 0 r1.length).length r1.length)<|(nN n (bU.mk a0.cw a0.b8 a0.b7 a0.ci a0.cx a0.cg a0.cD a0.cj) (sub r1 0 r1.length) a0.day).bind λr2=>(bif ((r2.length:Int)==0)then some ((bf.mk 0 a1.id ([]) 0 0 0 0 0 0),true)else ck (aE (sub ([a1]:U dw) 0 1).length 1)<|(kC n (sub ([a1]:U dw) 0 1)).bind λr3=>ck (aE (sub r3 0 r3.length).length r3.length)<|(iT n a0 a1 (sub r3 0 r3.length)).bind λr4=>(bif r4.2 then some ((bf.mk 0 a1.id ([]) 0 0 0 0 0 0),false)else((bif decide (((sub r3 0 r3.length).length:Int)>0)then(bo (sub r3 0 r3.length) 0).bind λx1=>(bo (sub r3 0 r3.length) 0).bind λx2=>(IJ n a1 x2).bind λr5=>(oO n (cu.mk a0.cw a0.b8 a0.b7 a0.ci a0.cx a0.cg a0.cD a0.cj a0.eW a0.da a0.d6 a0.dp a0.fc) r5 a0.day).bind λr6=>ck (aE r6.1.length r6.1.length)<|some ((1:Int),a1.id,x1.lot,x1.use,x1.floors,x1.cP,(0:Int),(0:Int),r6.1)else ck (aE 0 ([]:U ByteArray).length)<|some ((1:Int),a1.id,(0:Int),(0:Int),(0:Int),(0:Int),(0:Int),(0:Int),([]:U ByteArray))):J (Int×Int×Int×Int×Int×Int×Int×Int×(List ByteArray))).bind λ(v1,v2,v3,v4,v5,v6,v7,v8,v9)=>ck (aE (sub v9 0 v9.length).length v9.length)<|some ((bf.mk v1 v2 (sub v9 0 v9.length) v3 v4 v5 v6 v7 v8),true)))
def ul(a0:cu)(a1:Int):Stp (Int×(List (Int×Bool))×(List bf)) (List bf)
 |(v1,v2,v3)=>(bif decide (v1<(a0.land.length:Int))then((bo a0.land v1).bind λx1=>(bif ((fG io x1.id v2).getD false)then ck (aE v3.length v3.length)<|some (v2,v3)else(l5 n (kz.mk a0.cm a0.br a0.bu a0.az a0.ct a0.b9 a0.cE a0.ca a0.land a0.co a0.windows a0.built a0.base a1) x1).bind λr2=>(bif r2.2 then ck (bP v3.length v3.length (sub ([r2.1]:U bf) 0 1).length 1 88)<|gH (v3++(sub ([r2.1]:U bf) 0 1)) λr3=>ck (aE r3.length r3.length)<|some ((nG io x1.id true v2),r3)else ck (aE v3.length v3.length)<|some ((nG io x1.id true v2),v3))):J ((List (Int×Bool))×(List bf))).bind λ(v4,v5)=>ck (aE v5.length v5.length)<|some (.inl ((i64.wrap (v1+1)),v4,v5))else ck (aE v3.length v3.length)<|some (.inr v3))
def iB(a0:cu)(a1:Int):J (List bf):=
 (fI n (kz.mk a0.cm a0.br a0.bu a0.az a0.ct a0.b9 a0.cE a0.ca a0.land a0.co a0.windows a0.built a0.base a1)).bind λr1=>ck (aE r1.length r1.length)<|(iter (ul n a0 a1) n ((0:Int),([]:(List (Int×Bool))),r1)).bind λw1=>ck (aE (sub w1 0 w1.length).length w1.length)<|some (sub w1 0 w1.length)
def vP(a0:dw)(a1:Int):J Bool:=
 some (a0.id==(a1:Int))
def KD(a0:U dw)(a1:(dw×Unit)->J Bool):Stp Int (Unit⊕Int)
 |v1=>(bif decide (v1<(a0.length:Int))then(bo a0 v1).bind λx1=>(a1 (x1,())).bind λr1=>(bif r1 then(some v1).map λa=> .inr (.inr a)else some (.inl (i64.wrap (v1+1))))else some (.inr (.inl ())))
def vw(a0:U dw)(a1:(dw×Unit)->J Bool):J Int:=
 dH (iter (KD a0 a1) n (0:Int)) λ()=>some ((-1):Int)
def jw(a0:cu)(a1:Int)(a2:Int):J (aY×Bool):=
 (vw n a0.land (λ (y1:dw×Unit)=>vP y1.1 a1)).bind λr1=>(bif decide (r1<0)then some ((aY.mk 0 0 0 0),false)else(bo a0.land r1).bind λx1=>ck (sZ r1 (i64.wrap (r1+1)) a0.land.length)<|(kC n (sub a0.land ((r1:Int).toNat) (((i64.wrap (r1+1)):Int).toNat -(r1:Int).toNat))).bind λr2=>ck (aE (sub r2 0 r2.length).length r2.length)<|(iT n (kz.mk a0.cm a0.br a0.bu a0.az a0.ct a0.b9 a0.cE a0.ca a0.land a0.co a0.windows a0.built a0.base a2) x1 (sub r2 0 r2.length)).bind λr3=>some (r3.1,r3.2))
def za(a0:Int)(a1:Int)(a2:Bool)(a3:Int):J (Bool×Int):=
 ((bif decide (a0>(a1:Int))then(bif (!a2)then some true else some (decide (a0<(a3:Int))))else some false)).bind λv1=>(bif v1 then some (true,a0)else some (a2,a3))
def WY(a0:bU)(a1:Int):Stp (Int×Int×Bool) (Int×Bool)
 |(v1,v2,v3)=>(bif decide (v1<(a0.rules.length:Int))then((bo a0.rules v1).bind λx1=>(za x1.from_ a1 v3 v2).bind λr1=>(bif (x1.jj !=0)then(za x1.jj a1 r1.1 r1.2).bind λr2=>some (r2.2,r2.1)else some (r1.2,r1.1)):J (Int×Bool)).bind λ(v4,v5)=>some (.inl ((i64.wrap (v1+1)),v4,v5))else some (.inr (v2,v3)))
def AA(a0:bU)(a1:Int):J (Int×Bool):=
 (iter (WY a0 a1) n ((0:Int),(0:Int),false)).bind λ(w1,w2)=>some (w1,w2)
def nR(a0:cu)(a2:Int):Stp (Int×Bool) (Unit⊕(Int×Bool))
 |(v1,v2)=>((bif v2 then some (decide (v1<=(a2:Int)))else some false)).bind λv3=>(bif v3 then(iB n a0 v1).bind λr1=>(bif decide ((r1.length:Int)>0)then(some (v1,true)).map λa=> .inr (.inr a)else(AA n (bU.mk a0.cm a0.br a0.bu a0.az a0.ct a0.b9 a0.cE a0.ca) v1).bind λr2=>some (.inl (r2.1,r2.2)))else some (.inr (.inl ())))
def Kj(a0:cu)(a1:Int)(a2:Int):J (Int×Bool):=
 dH (iter (nR n a0 a2) n (a1,true)) λ()=>some ((0:Int),false)
def yh(a0:U ByteArray)(a1:U ByteArray):Stp Int (Unit⊕Bool)
 |v1=>(bif decide (v1<(a0.length:Int))then(bo a0 v1).bind λx1=>(bo a1 v1).bind λx2=>(bif (!(ByteArray.toList x1==ByteArray.toList x2))then(some false).map λa=> .inr (.inr a)else some (.inl (i64.wrap (v1+1))))else some (.inr (.inl ())))
def Kk(a0:U ByteArray)(a1:U ByteArray):J Bool:=
 (bif ((a0.length:Int) !=(a1.length:Int))then some false else dH (iter (yh a0 a1) n (0:Int)) λ()=>some true)
def AB(a0:U bf)(a1:U bf):Stp Int (Unit⊕Bool)
 |v1=>(bif decide (v1<(a0.length:Int))then((bo a0 v1).bind λx1=>(bo a1 v1).bind λx2=>(bif (x1.kind !=(x2.kind:Int))then some true else(bo a0 v1).bind λx3=>(bo a1 v1).bind λx4=>(bif (x3.lot !=(x4.lot:Int))then some true else(bo a0 v1).bind λx5=>(bo a1 v1).bind λx6=>(bif (!((x5.lh==(x6.lh:Int))&&((x5.lf==(x6.lf:Int))&&((x5.il==(x6.il:Int))&&((x5.i8==(x6.i8:Int))&&true)))))then some true else(bo a0 v1).bind λx7=>(bo a1 v1).bind λx8=>(bif (!((x7.td==(x8.td:Int))&&((x7.tc==(x8.tc:Int))&&true)))then some true else(bo a0 v1).bind λx9=>(bo a1 v1).bind λx10=>(Kk n x9.names x10.names).bind λr1=>some (!r1)))))).bind λv2=>(bif v2 then(some false).map λa=> .inr (.inr a)else some (.inl (i64.wrap (v1+1))))else some (.inr (.inl ())))
def Df(a0:U bf)(a1:U bf):J Bool:=
 (bif ((a0.length:Int) !=(a1.length:Int))then some false else dH (iter (AB n a0 a1) n (0:Int)) λ()=>some true)
def Dg:J Bool:=
 (ve 6).bind λr1=>ck (aE (sub ([⟨#[99,111,114,101]⟩]:U ByteArray) 0 1).length 1)<|(yY (bK.mk (⟨#[97]⟩) (sub ([⟨#[99,111,114,101]⟩]:U ByteArray) 0 1) ([]) 0 0 0 false 0 r1.op r1.n r1.s r1.key r1.args 0 0 0 0 0 0 0)).bind λr2=>(ve 6).bind λr3=>ck (aE (sub ([⟨#[114,105,109]⟩]:U ByteArray) 0 1).length 1)<|(yY (bK.mk (⟨#[97]⟩) (sub ([⟨#[114,105,109]⟩]:U ByteArray) 0 1) ([]) 0 0 0 false 0 r3.op r3.n r3.s r3.key r3.args 0 0 0 0 0 0 0)).bind λr4=>(iB n r4 0).bind λr5=>(ve 2).bind λr6=>(yY (bK.mk (⟨#[97]⟩) ([]) ([]) 0 0 0 false 0 r6.op r6.n r6.s r6.key r6.args 0 0 0 0 0 0 0)).bind λr7=>(iB n r7 0).bind λr8=>(ve 6).bind λr9=>(yY (bK.mk (⟨#[97]⟩) ([]) ([]) 0 9 0 false 0 r9.op r9.n r9.s r9.key r9.args 0 0 0 0 0 0 0)).bind λtj=>(yY (bK.mk (⟨#[97]⟩) ([]) ([]) 0 0 0 false 0 0 1 (⟨#[]⟩) (⟨#[]⟩) ([]) 0 0 0 0 0 0 0)).bind λlP=>(jw n r2 1 0).bind λtU=>(Kj n tj 0 20).bind λrL=>((iB n r2 0).bind λHm=>(bif ((Hm.length:Int)==0)then(bif tU.2 then(bif ((tU.1.lot==1)&&((tU.1.use==0)&&((tU.1.floors==1)&&((tU.1.cP==1)&&true))))then ck (aE (sub r5 0 r5.length).length r5.length)<|ck (aE (sub ([(bf.mk 0 1 ([]) 0 0 0 0 0 0)]:U bf) 0 1).length 1)<|(Df n (sub r5 0 r5.length) (sub ([(bf.mk 0 1 ([]) 0 0 0 0 0 0)]:U bf) 0 1)).bind λsA=>(bif sA then ck (aE (sub ([⟨#[97]⟩]:U ByteArray) 0 1).length 1)<|ck (aE (sub r8 0 r8.length).length r8.length)<|ck (aE (sub ([(bf.mk 1 1 (sub ([⟨#[97]⟩]:U ByteArray) 0 1) 1 0 1 1 0 0)]:U bf) 0 1).length 1)<|(Df n (sub r8 0 r8.length) (sub ([(bf.mk 1 1 (sub ([⟨#[97]⟩]:U ByteArray) 0 1) 1 0 1 1 0 0)]:U bf) 0 1)).bind λr16=>some r16 else some false)else some false)else some false)else some false)).bind λv1=>((iB n tj 8).bind λsy=>(bif ((sy.length:Int)==0)then(iB n tj 9).bind λHk=>(bif ((Hk.length:Int)==1)then(bif (rL.1==9)then(bif rL.2 then ck (aE (sub ([(eT.mk (⟨#[120]⟩) 1 0 (⟨#[121]⟩) (⟨#[]⟩) ([])),(eT.mk (⟨#[121]⟩) 1 0 (⟨#[120]⟩) (⟨#[]⟩) ([]))]:U eT) 0 2).length 2)<|(iB n (cu.mk (sub ([(eT.mk (⟨#[120]⟩) 1 0 (⟨#[121]⟩) (⟨#[]⟩) ([])),(eT.mk (⟨#[121]⟩) 1 0 (⟨#[120]⟩) (⟨#[]⟩) ([]))]:U eT) 0 2) lP.br lP.bu lP.az lP.ct lP.b9 lP.cE lP.ca lP.land lP.co lP.windows lP.built lP.base) 0).bind λp7=>ck (aE (sub ([⟨#[120]⟩,⟨#[121]⟩]:U ByteArray) 0 2).length 2)<|ck (aE (sub p7 0 p7.length).length p7.length)<|ck (aE (sub ([(bf.mk 3 0 (sub ([⟨#[120]⟩,⟨#[121]⟩]:U ByteArray) 0 2) 0 0 0 0 0 0)]:U bf) 0 1).length 1)<|(Df n (sub p7 0 p7.length) (sub ([(bf.mk 3 0 (sub ([⟨#[120]⟩,⟨#[121]⟩]:U ByteArray) 0 2) 0 0 0 0 0 0)]:U bf) 0 1)).bind λHj=>some Hj else some false)else some false)else some false)else some false)).bind λv2=>(bif v1 then some v2 else some false)
def AJ(rc:(cK)->J Int)(a0:cK):Stp (Int×Int) Int
 |(v1,v2)=>(bif decide (v2<(a0.args.length:Int))then(bo a0.args v2).bind λx1=>(rc x1).bind λr1=>some (.inl ((i64.wrap (v1+r1)),(i64.wrap (v2+1))))else some (.inr v1))
def ER(rc:(cK)->J Int)(a0:cK):J Int:=
 (iter (AJ rc a0) n ((1:Int),(0:Int))).bind λw1=>some w1
def IU(rc:(cK)->J Int):cp xx:=⟨[.d (.st SI.Expr)],[.d (.int .i64)],λa=>rc a.1,none⟩
def vz(n:Nat):Nat->(cK)->J Int
 | 0=>λ_=>none
 |m+1=>ER n (vz n m)
def IV(a0:cK):J Int:=vz n n a0
def um(a0:bU):Stp Int (Unit⊕Bool)
 |v2=>(bif decide (v2<(a0.defs.length:Int))then(bo a0.defs v2).bind λx1=>(IV n (cK.mk x1.i9 x1.mf x1.k5 x1.iS x1.eL)).bind λr1=>(bif decide (r1>30)then(some false).map λa=> .inr (.inr a)else some (.inl (i64.wrap (v2+1))))else some (.inr (.inl ())))
def uo(a0:bU):Stp Int (Unit⊕Bool)
 |v3=>(bif decide (v3<(a0.rules.length:Int))then((bo a0.rules v3).bind λx2=>(IV n (cK.mk x2.ld x2.mS x2.mN x2.j8 x2.gb)).bind λr2=>(bif decide (r2>30)then some true else(bo a0.rules v3).bind λx3=>(bif decide ((x3.zones.length:Int)>5)then some true else(bo a0.rules v3).bind λx4=>some (decide ((x4.except.length:Int)>5))))).bind λv4=>(bif v4 then(some false).map λa=> .inr (.inr a)else some (.inl (i64.wrap (v3+1))))else some (.inr (.inl ())))
def uq(a0:bU):Stp Int (Unit⊕Bool)
 |v5=>(bif decide (v5<(a0.tables.length:Int))then(bo a0.tables v5).bind λx5=>(bif decide ((x5.rows.length:Int)>8)then(some false).map λa=> .inr (.inr a)else some (.inl (i64.wrap (v5+1))))else some (.inr (.inl ())))
def uw(a0:bU):Stp Int (Unit⊕Bool)
 |v6=>(bif decide (v6<(a0.zones.length:Int))then(bo a0.zones v6).bind λx6=>(bif decide ((x6.corners.length:Int)>12)then(some false).map λa=> .inr (.inr a)else some (.inl (i64.wrap (v6+1))))else some (.inr (.inl ())))
def uy(a0:bU):Stp Int (Unit⊕Bool)
 |v7=>(bif decide (v7<(a0.caps.length:Int))then(bo a0.caps v7).bind λx7=>(bif decide ((x7.corners.length:Int)>12)then(some false).map λa=> .inr (.inr a)else some (.inl (i64.wrap (v7+1))))else some (.inr (.inl ())))
def wO(a0:bU):J Bool:=
 ((bif decide ((a0.defs.length:Int)>5)then some true else(bif decide ((a0.rules.length:Int)>5)then some true else(bif decide ((a0.tables.length:Int)>4)then some true else(bif decide ((a0.zones.length:Int)>5)then some true else some (decide ((a0.caps.length:Int)>3))))))).bind λv1=>(bif v1 then some false else dH (iter (um n a0) n (0:Int)) λ()=>dH (iter (uo n a0) n (0:Int)) λ()=>dH (iter (uq a0) n (0:Int)) λ()=>dH (iter (uw a0) n (0:Int)) λ()=>dH (iter (uy a0) n (0:Int)) λ()=>some true)
def vQ(a0:aA):J Bool:=
 (bif decide (a0.x0>=0)then(bif decide (a0.x0<(a0.x1:Int))then(bif decide (a0.x1<=1048576)then(bif decide (a0.y0>=0)then(bif decide (a0.y0<(a0.y1:Int))then some (decide (a0.y1<=1048576))else some false)else some false)else some false)else some false)else some false)
def qR(a0:U Int)(v1:Int)(v2:U Int):Stp Int Int
 |v3=>((bif decide (v3>0)then ck (cN (i64.wrap (v3 -1)) v2.length)<|(bo v2 ((0:Nat)+(i64.wrap (v3 -1)):Int)).bind λx1=>(bo a0 v1).bind λx2=>some (decide (x1>(x2:Int)))else some false)).bind λv4=>(bif v4 then some (.inl (i64.wrap (v3 -1)))else some (.inr v3))
def qU(w1:Int)(r1:U Int):Stp (Int×(List Int)) (List Int)
 |(v6,v7)=>(bif decide (v6>(w1:Int))then ck (cN (i64.wrap (v6 -1)) r1.length)<|(bo v7 ((0:Nat)+(i64.wrap (v6 -1)):Int)).bind λx5=>ck (cN v6 r1.length)<|(bo v7 ((0:Nat)+v6:Int)).bind λx6=>some (.inl ((i64.wrap (v6 -1)),(v7.set ((0:Nat)+v6:Int).toNat x5)))else some (.inr v7))
def vR(a0:U Int):Stp (Int×(List Int)) (List Int)
 |(v1,v2)=>(bif decide (v1<(a0.length:Int))then((iter (qR a0 v1 v2) n (v2.length:Int)).bind λw1=>((bif decide (w1>0)then ck (cN (i64.wrap (w1 -1)) v2.length)<|(bo v2 ((0:Nat)+(i64.wrap (w1 -1)):Int)).bind λx3=>(bo a0 v1).bind λx4=>some (x3==(x4:Int))else some false)).bind λv5=>(bif v5 then ck (aE v2.length v2.length)<|some v2 else ck (bP v2.length v2.length (sub ([0]:U Int) 0 1).length 1 8)<|gH (v2++(sub ([0]:U Int) 0 1)) λr1=>(iter (qU w1 r1) n ((i64.wrap ((r1.length:Int) -1)),r1)).bind λw2=>(bo a0 v1).bind λx7=>ck (cN w1 r1.length)<|(bo w2 ((0:Nat)+w1:Int)).bind λx8=>ck (aE r1.length (w2.set ((0:Nat)+w1:Int).toNat x7).length)<|some (w2.set ((0:Nat)+w1:Int).toNat x7)):J ((List Int))).bind λv8=>ck (aE v8.length v8.length)<|some (.inl ((i64.wrap (v1+1)),v8))else ck (aE v2.length v2.length)<|some (.inr v2))
def ES(a0:U Int):J (List Int):=
 ck (aE 0 ([]:U Int).length)<|(iter (vR n a0) n ((0:Int),([]:U Int))).bind λw3=>ck (aE (sub w3 0 w3.length).length w3.length)<|some (sub w3 0 w3.length)
def yj(a0:U aA):Stp (Int×(List Int)) (List Int)
 |(v1,v2)=>(bif decide (v1<(a0.length:Int))then(bo a0 v1).bind λx1=>(bo a0 v1).bind λx2=>ck (bP v2.length v2.length (sub ([x1.x0,x2.x1]:U Int) 0 2).length 2 8)<|gH (v2++(sub ([x1.x0,x2.x1]:U Int) 0 2)) λr1=>ck (aE r1.length r1.length)<|some (.inl ((i64.wrap (v1+1)),r1))else ck (aE v2.length v2.length)<|some (.inr v2))
def EU(a1:U aA):Stp (Int×(List Int)) (List Int)
 |(v3,v4)=>(bif decide (v3<(a1.length:Int))then(bo a1 v3).bind λx3=>(bo a1 v3).bind λx4=>ck (bP v4.length v4.length (sub ([x3.x0,x4.x1]:U Int) 0 2).length 2 8)<|gH (v4++(sub ([x3.x0,x4.x1]:U Int) 0 2)) λr2=>ck (aE r2.length r2.length)<|some (.inl ((i64.wrap (v3+1)),r2))else ck (aE v4.length v4.length)<|some (.inr v4))
def Kl(a0:U aA)(a1:U aA):J (List Int):=
 ck (aE 0 ([]:U Int).length)<|(iter (yj a0) n ((0:Int),([]:U Int))).bind λw1=>ck (aE w1.length w1.length)<|(iter (EU a1) n ((0:Int),w1)).bind λw2=>ck (aE (sub w2 0 w2.length).length w2.length)<|(ES n (sub w2 0 w2.length)).bind λr3=>ck (aE (sub r3 0 r3.length).length r3.length)<|some (sub r3 0 r3.length)
def qV(a0:U aA)(v1:Int)(r1:U Int)(r2:U Int):Stp (Int×(List Int)×(List Int)) (Int×(List Int)×(List Int))
 |(v5,v6,v7)=>((bif decide (v5>0)then ck (cN (i64.wrap (v5 -1)) r1.length)<|(bo v6 ((0:Nat)+(i64.wrap (v5 -1)):Int)).bind λx3=>(bo a0 v1).bind λx4=>some (decide (x3>(x4.y0:Int)))else some false)).bind λv8=>(bif v8 then ck (cN (i64.wrap (v5 -1)) r1.length)<|(bo v6 ((0:Nat)+(i64.wrap (v5 -1)):Int)).bind λx5=>ck (cN v5 r1.length)<|(bo v6 ((0:Nat)+v5:Int)).bind λx6=>ck (cN (i64.wrap (v5 -1)) r2.length)<|(bo v7 ((0:Nat)+(i64.wrap (v5 -1)):Int)).bind λx7=>ck (cN v5 r2.length)<|(bo v7 ((0:Nat)+v5:Int)).bind λx8=>some (.inl ((i64.wrap (v5 -1)),(v6.set ((0:Nat)+v5:Int).toNat x5),(v7.set ((0:Nat)+v5:Int).toNat x7)))else some (.inr (v5,v6,v7)))
def qW(a0:U aA)(a1:Int):Stp (Int×(List Int)×(List Int)) ((List Int)×(List Int))
 |(v1,v2,v3)=>(bif decide (v1<(a0.length:Int))then(((bo a0 v1).bind λx1=>(bif decide (x1.x0>(a1:Int))then some true else(bo a0 v1).bind λx2=>some (decide (x2.x1<=(a1:Int))))).bind λv4=>(bif v4 then ck (aE v2.length v2.length)<|ck (aE v3.length v3.length)<|some (v2,v3)else ck (bP v2.length v2.length (sub ([0]:U Int) 0 1).length 1 8)<|gH (v2++(sub ([0]:U Int) 0 1)) λr1=>ck (bP v3.length v3.length (sub ([0]:U Int) 0 1).length 1 8)<|gH (v3++(sub ([0]:U Int) 0 1)) λr2=>(iter (qV a0 v1 r1 r2) n ((v2.length:Int),r1,r2)).bind λ(w1,w2,w3)=>(bo a0 v1).bind λx9=>ck (cN w1 r1.length)<|(bo w2 ((0:Nat)+w1:Int)).bind λx10=>(bo a0 v1).bind λx11=>ck (cN w1 r2.length)<|(bo w3 ((0:Nat)+w1:Int)).bind λx12=>ck (aE r1.length (w2.set ((0:Nat)+w1:Int).toNat x9.y0).length)<|ck (aE r2.length (w3.set ((0:Nat)+w1:Int).toNat x11.y1).length)<|some ((w2.set ((0:Nat)+w1:Int).toNat x9.y0),(w3.set ((0:Nat)+w1:Int).toNat x11.y1))):J ((List Int)×(List Int))).bind λ(v9,v10)=>ck (aE v9.length v9.length)<|ck (aE v10.length v10.length)<|some (.inl ((i64.wrap (v1+1)),v9,v10))else ck (aE v2.length v2.length)<|ck (aE v3.length v3.length)<|some (.inr (v2,v3)))
def qX(w4:U Int)(w5:U Int):Stp (Int×(List Int)) (List Int)
 |(v11,v12)=>(bif decide (v11<(w4.length:Int))then(((bif decide ((v12.length:Int)>0)then ck (cN v11 w4.length)<|(bo w4 ((0:Nat)+v11:Int)).bind λx13=>ck (cN (i64.wrap ((v12.length:Int) -1)) v12.length)<|(bo v12 ((0:Nat)+(i64.wrap ((v12.length:Int) -1)):Int)).bind λx14=>some (decide (x13<=(x14:Int)))else some false)).bind λv13=>(bif v13 then ck (cN (i64.wrap ((v12.length:Int) -1)) v12.length)<|(bo v12 ((0:Nat)+(i64.wrap ((v12.length:Int) -1)):Int)).bind λx15=>ck (cN v11 w5.length)<|(bo w5 ((0:Nat)+v11:Int)).bind λx16=>ck (cN (i64.wrap ((v12.length:Int) -1)) v12.length)<|(bo v12 ((0:Nat)+(i64.wrap ((v12.length:Int) -1)):Int)).bind λx17=>ck (aE v12.length (v12.set ((0:Nat)+(i64.wrap ((v12.length:Int) -1)):Int).toNat (max x15 x16)).length)<|some (v12.set ((0:Nat)+(i64.wrap ((v12.length:Int) -1)):Int).toNat (max x15 x16))else ck (cN v11 w4.length)<|(bo w4 ((0:Nat)+v11:Int)).bind λx18=>ck (cN v11 w5.length)<|(bo w5 ((0:Nat)+v11:Int)).bind λx19=>ck (bP v12.length v12.length (sub ([x18,x19]:U Int) 0 2).length 2 8)<|gH (v12++(sub ([x18,x19]:U Int) 0 2)) λr3=>ck (aE r3.length r3.length)<|some r3):J ((List Int))).bind λv14=>ck (aE v14.length v14.length)<|some (.inl ((i64.wrap (v11+1)),v14))else ck (aE v12.length v12.length)<|some (.inr v12))
def zb(a0:U aA)(a1:Int):J (List Int):=
 ck (aE 0 ([]:U Int).length)<|ck (aE 0 ([]:U Int).length)<|(iter (qW n a0 a1) n ((0:Int),([]:U Int),([]:U Int))).bind λ(w4,w5)=>ck (aE 0 ([]:U Int).length)<|(iter (qX w4 w5) n ((0:Int),([]:U Int))).bind λw6=>ck (aE (sub w6 0 w6.length).length w6.length)<|some (sub w6 0 w6.length)
def uz(a0:U Int)(a1:U Int)(a2:Int):Stp (Int×Int×Bool×(List Int)) (List Int)
 |(v1,v2,v3,v4)=>((bif decide (v1<(a0.length:Int))then some true else some (decide (v2<(a1.length:Int))))).bind λv5=>(bif v5 then(((bif decide (v1<(a0.length:Int))then(bif decide (v2>=(a1.length:Int))then some true else(bo a0 v1).bind λx1=>(bo a1 (min v2 (i64.wrap ((a1.length:Int) -1)))).bind λx2=>some (decide (x1<=(x2:Int))))else some false)).bind λv6=>(bif v6 then(bo a0 v1).bind λx3=>some x3 else(bo a1 v2).bind λx4=>some x4):J Int).bind λv7=>(((bif decide (v1<(a0.length:Int))then(bo a0 v1).bind λx5=>some (x5==(v7:Int))else some false)).bind λv8=>(bif v8 then some (i64.wrap (v1+1))else some v1):J Int).bind λv9=>(((bif decide (v2<(a1.length:Int))then(bo a1 v2).bind λx6=>some (x6==(v7:Int))else some false)).bind λv10=>(bif v10 then some (i64.wrap (v2+1))else some v2):J Int).bind λv11=>ck (2 !=0)<|ck (2 !=0)<|((bif ((Int.tmod v9 2)==1)then some true else some ((Int.tmod v11 2)==1))).bind λv12=>((bif (a2==1)then(bif ((Int.tmod v9 2)==1)then some ((Int.tmod v11 2)==1)else some false)else some v12)).bind λv13=>((bif (a2==2)then(bif ((Int.tmod v9 2)==1)then some (!((Int.tmod v11 2)==1))else some false)else some v13)).bind λv14=>((bif (!(v14==v3))then ck (bP v4.length v4.length (sub ([v7]:U Int) 0 1).length 1 8)<|gH (v4++(sub ([v7]:U Int) 0 1)) λr1=>ck (aE r1.length r1.length)<|some r1 else ck (aE v4.length v4.length)<|some v4):J ((List Int))).bind λv15=>ck (aE v15.length v15.length)<|some (.inl (v9,v11,v14,v15))else ck (aE v4.length v4.length)<|some (.inr v4))
def AL(a0:U Int)(a1:U Int)(a2:Int):J (List Int):=
 ck (aE 0 ([]:U Int).length)<|(iter (uz a0 a1 a2) n ((0:Int),(0:Int),false,([]:U Int))).bind λw1=>ck (aE (sub w1 0 w1.length).length w1.length)<|some (sub w1 0 w1.length)
def AO(a0:U Int)(a1:U Int):Stp Int (Unit⊕Bool)
 |v1=>(bif decide (v1<(a0.length:Int))then(bo a0 v1).bind λx1=>(bo a1 v1).bind λx2=>(bif (x1 !=(x2:Int))then(some false).map λa=> .inr (.inr a)else some (.inl (i64.wrap (v1+1))))else some (.inr (.inl ())))
def Og(a0:U Int)(a1:U Int):J Bool:=
 (bif ((a0.length:Int) !=(a1.length:Int))then some false else dH (iter (AO a0 a1) n (0:Int)) λ()=>some true)
def wP(r1:U Int)(v2:Int)(v3:U aA):Stp (Int×(List aA)) (List aA)
 |(v6,v7)=>(bif decide (v6<(v3.length:Int))then ck (cN (i64.wrap (v2+1)) r1.length)<|(bo r1 ((0:Nat)+(i64.wrap (v2+1)):Int)).bind λx3=>ck (cN v6 v3.length)<|(bo v7 ((0:Nat)+v6:Int)).bind λx4=>some (.inl ((i64.wrap (v6+1)),(v7.set ((0:Nat)+v6:Int).toNat (aA.mk x4.x0 x4.y0 x3 x4.y1))))else some (.inr v7))
def wQ(r1:U Int)(v2:Int)(r4:U Int):Stp (Int×(List aA)) (List aA)
 |(v8,v9)=>(bif decide ((i64.wrap (v8+1))<(r4.length:Int))then ck (cN v2 r1.length)<|(bo r1 ((0:Nat)+v2:Int)).bind λx5=>ck (cN v8 r4.length)<|(bo r4 ((0:Nat)+v8:Int)).bind λx6=>ck (cN (i64.wrap (v2+1)) r1.length)<|(bo r1 ((0:Nat)+(i64.wrap (v2+1)):Int)).bind λx7=>ck (cN (i64.wrap (v8+1)) r4.length)<|(bo r4 ((0:Nat)+(i64.wrap (v8+1)):Int)).bind λx8=>ck (bP v9.length v9.length (sub ([(aA.mk x5 x6 x7 x8)]:U aA) 0 1).length 1 32)<|gH (v9++(sub ([(aA.mk x5 x6 x7 x8)]:U aA) 0 1)) λr6=>ck (aE r6.length r6.length)<|some (.inl ((i64.wrap (v8+2)),r6))else ck (aE v9.length v9.length)<|some (.inr v9))
def AP(a0:U aA)(a1:U aA)(a2:Int)(r1:U Int):Stp (Int×Int×(List aA)×(List Int)) (List aA)
 |(v1,v2,v3,v4)=>(bif decide ((i64.wrap (v2+1))<(r1.length:Int))then(ck (cN v2 r1.length)<|(bo r1 ((0:Nat)+v2:Int)).bind λx1=>(zb n a0 x1).bind λr2=>ck (cN v2 r1.length)<|(bo r1 ((0:Nat)+v2:Int)).bind λx2=>(zb n a1 x2).bind λr3=>ck (aE (sub r2 0 r2.length).length r2.length)<|ck (aE (sub r3 0 r3.length).length r3.length)<|(AL n (sub r2 0 r2.length) (sub r3 0 r3.length) a2).bind λr4=>((bif decide (v2>0)then(bif decide ((r4.length:Int)>0)then ck (aE (sub r4 0 r4.length).length r4.length)<|ck (aE (sub v4 0 v4.length).length v4.length)<|(Og n (sub r4 0 r4.length) (sub v4 0 v4.length)).bind λr5=>some r5 else some false)else some false)).bind λv5=>(bif v5 then(iter (wP r1 v2 v3) n (v1,v3)).bind λw1=>ck (aE v3.length w1.length)<|ck (aE v4.length v4.length)<|some (v1,w1,v4)else ck (aE v3.length v3.length)<|(iter (wQ r1 v2 r4) n ((0:Int),v3)).bind λw2=>ck (aE w2.length w2.length)<|ck (aE r4.length r4.length)<|some ((v3.length:Int),w2,r4)):J (Int×(List aA)×(List Int))).bind λ(v10,v11,v12)=>ck (aE v11.length v11.length)<|ck (aE v12.length v12.length)<|some (.inl (v10,(i64.wrap (v2+1)),v11,v12))else ck (aE v3.length v3.length)<|some (.inr v3))
def Oh(a0:U aA)(a1:U aA)(a2:Int):J (List aA):=
 (Kl n a0 a1).bind λr1=>ck (aE 0 ([]:U aA).length)<|ck (aE 0 ([]:U Int).length)<|(iter (AP n a0 a1 a2 r1) n ((0:Int),(0:Int),([]:U aA),([]:U Int))).bind λw3=>ck (aE (sub w3 0 w3.length).length w3.length)<|some (sub w3 0 w3.length)
def Km(a0:U aA):Stp Int (Unit⊕((List aA)×Int))
 |v1=>(bif decide (v1<(a0.length:Int))then(bo a0 v1).bind λx1=>(vQ x1).bind λr1=>(bif (!r1)then(some (([]:(List aA)),(1:Int))).map λa=> .inr (.inr a)else some (.inl (i64.wrap (v1+1))))else some (.inr (.inl ())))
def PM(a0:U aA):J ((List aA)×Int):=
 dH (iter (Km a0) n (0:Int)) λ()=>(bif decide ((a0.length:Int)>400)then some (([]:(List aA)),(6:Int))else(Oh n a0 ([]) 0).bind λr2=>(bif decide ((r2.length:Int)>200)then some (([]:(List aA)),(6:Int))else ck (aE (sub r2 0 r2.length).length r2.length)<|some ((sub r2 0 r2.length),(0:Int))))
def AQ(a0:U aA)(a1:U aA):Stp Int (Unit⊕Bool)
 |v1=>(bif decide (v1<(a0.length:Int))then(bo a0 v1).bind λx1=>(bo a1 v1).bind λx2=>(bif (!((x1.x0==(x2.x0:Int))&&((x1.y0==(x2.y0:Int))&&((x1.x1==(x2.x1:Int))&&((x1.y1==(x2.y1:Int))&&true)))))then(some false).map λa=> .inr (.inr a)else some (.inl (i64.wrap (v1+1))))else some (.inr (.inl ())))
def Oi(a0:U aA)(a1:U aA):J Bool:=
 (bif ((a0.length:Int) !=(a1.length:Int))then some false else dH (iter (AQ a0 a1) n (0:Int)) λ()=>some true)
def Kn(a0:U aA):J Bool:=
 (PM n a0).bind λr1=>(bif (r1.2==0)then ck (aE (sub r1.1 0 r1.1.length).length r1.1.length)<|(Oi n (sub r1.1 0 r1.1.length) a0).bind λr2=>some r2 else some false)
def vS(a0:U aA)(x1:aA):Stp (Int×Int×Int×Int×Int) (Int×Int×Int×Int)
 |(v2,v3,v4,v5,v6)=>(bif decide (v2<(a0.length:Int))then(bo a0 v2).bind λx2=>(bo a0 v2).bind λx3=>(bo a0 v2).bind λx4=>(bo a0 v2).bind λx5=>some (.inl ((i64.wrap (v2+1)),(min v3 x2.x0),(min v4 x3.y0),(max v5 x4.x1),(max v6 x5.y1)))else some (.inr (v3,v4,v5,v6)))
def EW(a0:U aA):J (aA×Bool):=
 ((bif ((a0.length:Int)==0)then some true else(Kn n a0).bind λr1=>some (!r1))).bind λv1=>(bif v1 then some ((aA.mk 0 0 0 0),false)else(bo a0 0).bind λx1=>(iter (vS a0 x1) n ((1:Int),x1.x0,x1.y0,x1.x1,x1.y1)).bind λ(w1,w2,w3,w4)=>some ((aA.mk w1 w2 w3 w4),true))
def EX(a0:dw):J Bool:=
 (bif decide ((a0.area.length:Int)>4)then some false else(EW n a0.area).bind λr1=>(bif (!r1.2)then some true else(bif decide ((i64.wrap (r1.1.x1 -r1.1.x0))<=4)then some true else some (decide ((i64.wrap (r1.1.y1 -r1.1.y0))<=4)))))
def EY(a0:cu):Stp Int (Unit⊕Bool)
 |v2=>(bif decide (v2<(a0.land.length:Int))then(bo a0.land v2).bind λx1=>(EX n x1).bind λr2=>(bif (!r2)then(some false).map λa=> .inr (.inr a)else some (.inl (i64.wrap (v2+1))))else some (.inr (.inl ())))
def EZ(a0:cu):Stp Int (Unit⊕Bool)
 |v3=>(bif decide (v3<(a0.co.length:Int))then(bo a0.co v3).bind λx2=>(bif decide ((x2.area.length:Int)>4)then(some false).map λa=> .inr (.inr a)else some (.inl (i64.wrap (v3+1))))else some (.inr (.inl ())))
def UG(a0:cu):J Bool:=
 ((wO n (bU.mk a0.cm a0.br a0.bu a0.az a0.ct a0.b9 a0.cE a0.ca)).bind λr1=>(bif (!r1)then some true else(bif decide ((a0.land.length:Int)>2)then some true else(bif decide ((a0.co.length:Int)>3)then some true else some (decide ((a0.built.length:Int)>6)))))).bind λv1=>(bif v1 then some false else dH (iter (EY n a0) n (0:Int)) λ()=>dH (iter (EZ a0) n (0:Int)) λ()=>some true)
def oq(a0:cu)(a1:dw)(a2:aY)(a3:Int):J Bool:=
 (oL n a1 a2).bind λr1=>(bif r1.2 then(jY n a0 r1.1 a3).bind λr2=>some r2 else some false)
def wR(a0:dw)(a1:aY):J Int:=
 (oL n a0 a1).bind λr1=>((bif (!r1.2)then some true else(bif ((r1.1.phases.length:Int)==0)then some true else(bo r1.1.phases 0).bind λx1=>some ((x1.cM.length:Int)==0)))).bind λv1=>(bif v1 then some (0:Int)else(bo r1.1.phases 0).bind λx2=>(bo x2.cM 0).bind λx3=>some (i64.wrap ((i64.wrap (x3.bx -x3.bz))*(i64.wrap (x3.cz -x3.cC)))))
def IW(a0:aY)(a1:Int)(a2:aY)(a3:Int):J Bool:=
 (bif ((i64.wrap (a1*a0.floors)) !=((i64.wrap (a3*a2.floors)):Int))then some (decide ((i64.wrap (a1*a0.floors))<((i64.wrap (a3*a2.floors)):Int)))else(bif (a0.floors !=(a2.floors:Int))then some (decide (a0.floors<(a2.floors:Int)))else(bif (a0.use !=(a2.use:Int))then some (decide (a0.use<(a2.use:Int)))else some (decide (a0.cP<(a2.cP:Int))))))
def fQ(a0:cu)(a1:Int)(x1:dw)(r3:aY×Bool)(r5:U aY):Stp (Bool×Int) (Bool⊕Bool)
 |(v3,v4)=>((bif decide (v4<(r5.length:Int))then some (!v3)else some false)).bind λv5=>(bif v5 then(ck (cN v4 r5.length)<|(bo r5 ((0:Nat)+v4:Int)).bind λx2=>(bif ((x2.lot==(r3.1.lot:Int))&&((x2.use==(r3.1.use:Int))&&((x2.floors==(r3.1.floors:Int))&&((x2.cP==(r3.1.cP:Int))&&true))))then some r3.2 else some false)).bind λv6=>((bif (!v6)then ck (cN v4 r5.length)<|(bo r5 ((0:Nat)+v4:Int)).bind λx3=>(oq n a0 x1 x3 a1).bind λr6=>some r6 else some false)).bind λv7=>(bif v7 then(some false).map λa=> .inr (.inr a)else some (.inl (v6,(i64.wrap (v4+1)))))else some (.inr (.inl v3)))
def vT(a0:cu)(a1:Int)(a2:Int):J Bool:=
 (Dg n).bind λr1=>((UG n a0).bind λr2=>(bif (!r2)then some true else some ((a0.land.length:Int)==0))).bind λv1=>(bif v1 then some r1 else(bo a0.land 0).bind λx1=>(jw n a0 x1.id a1).bind λr3=>((bif r3.2 then(oq n a0 x1 r3.1 a1).bind λr4=>(bif (!r4)then some true else(bif (!r3.2)then some (!((r3.1.lot==0)&&((r3.1.use==0)&&((r3.1.floors==0)&&((r3.1.cP==0)&&true)))))else some false))else(bif (!r3.2)then some (!((r3.1.lot==0)&&((r3.1.use==0)&&((r3.1.floors==0)&&((r3.1.cP==0)&&true)))))else some false))).bind λv2=>(bif v2 then some false else ck (aE (sub ([x1]:U dw) 0 1).length 1)<|(kC n (sub ([x1]:U dw) 0 1)).bind λr5=>dH (iter (fQ n a0 a1 x1 r3 r5) n (false,(0:Int))) λw1=>(bif (!(w1==r3.2))then some false else(bif ((a0.az.length:Int)==0)then some r1 else ck ((a0.az.length:Int) !=0)<|ck (sZ 0 (Int.tmod (bits .and .i64 a2 4611686018427387903) (a0.az.length:Int)) a0.az.length)<|ck (bP ([]:U bK).length 0 (sub a0.az 0 (((Int.tmod (bits .and .i64 a2 4611686018427387903) (a0.az.length:Int)):Int).toNat)).length ((sub a0.az 0 (((Int.tmod (bits .and .i64 a2 4611686018427387903) (a0.az.length:Int)):Int).toNat)).length) 232)<|gH (([]:U bK)++(sub a0.az 0 (((Int.tmod (bits .and .i64 a2 4611686018427387903) (a0.az.length:Int)):Int).toNat))) λr7=>ck (sZ (i64.wrap ((Int.tmod (bits .and .i64 a2 4611686018427387903) (a0.az.length:Int))+1)) (a0.az.length:Int) a0.az.length)<|ck (bP r7.length r7.length (sub a0.az (((i64.wrap ((Int.tmod (bits .and .i64 a2 4611686018427387903) (a0.az.length:Int))+1)):Int).toNat) (a0.az.length -((i64.wrap ((Int.tmod (bits .and .i64 a2 4611686018427387903) (a0.az.length:Int))+1)):Int).toNat)).length ((sub a0.az (((i64.wrap ((Int.tmod (bits .and .i64 a2 4611686018427387903) (a0.az.length:Int))+1)):Int).toNat) (a0.az.length -((i64.wrap ((Int.tmod (bits .and .i64 a2 4611686018427387903) (a0.az.length:Int))+1)):Int).toNat)).length) 232)<|gH (r7++(sub a0.az (((i64.wrap ((Int.tmod (bits .and .i64 a2 4611686018427387903) (a0.az.length:Int))+1)):Int).toNat) (a0.az.length -((i64.wrap ((Int.tmod (bits .and .i64 a2 4611686018427387903) (a0.az.length:Int))+1)):Int).toNat))) λr8=>ck (aE (sub r8 0 r8.length).length r8.length)<|(jw n (cu.mk a0.cm a0.br a0.bu (sub r8 0 r8.length) a0.ct a0.b9 a0.cE a0.ca a0.land a0.co a0.windows a0.built a0.base) x1.id a1).bind λr9=>(bif r1 then(bif (!r3.2)then some true else(bif r9.2 then(wR n x1 r3.1).bind λtj=>(wR n x1 r9.1).bind λlP=>(IW r3.1 tj r9.1 lP).bind λtU=>some (!tU)else some false))else some false)))))
end
end Go.Proofs
