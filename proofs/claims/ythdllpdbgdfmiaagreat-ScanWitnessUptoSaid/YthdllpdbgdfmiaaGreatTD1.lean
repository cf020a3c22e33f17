import Derived.Test.YthdllpdbgdfmiaaGreatTBase
open Go.IntKind (i64)
namespace Go.Proofs
open Go.Gb Go.RowKit
noncomputable section
variable (n:Nat)
def vK(a0:Int):Option bP:=
 ck (aE (sub ([(bP.mk 1 0 (⟨#[104,101,105,103,104,116]⟩) (⟨#[]⟩) ([])),(bP.mk 0 a0 (⟨#[]⟩) (⟨#[]⟩) ([]))]:List bP) 0 2).length 2)<|some (bP.mk 12 0 (⟨#[]⟩) (⟨#[]⟩) (sub ([(bP.mk 1 0 (⟨#[104,101,105,103,104,116]⟩) (⟨#[]⟩) ([])),(bP.mk 0 a0 (⟨#[]⟩) (⟨#[]⟩) ([]))]:List bP) 0 2))
def zl(a0:cK):Option bR:=
 ck (aE (sub ([(bQ.mk 0 0),(bQ.mk 9 0),(bQ.mk 9 9),(bQ.mk 0 9)]:List bQ) 0 4).length 4)<|ck (aE (sub ([(ax.mk 0 0 4 4)]:List ax) 0 1).length 1)<|ck (aE (sub ([(eX.mk (⟨#[99,111,114,101]⟩) false (sub ([(bQ.mk 0 0),(bQ.mk 9 0),(bQ.mk 9 9),(bQ.mk 0 9)]:List bQ) 0 4))]:List eX) 0 1).length 1)<|ck (aE (sub ([a0]:List cK) 0 1).length 1)<|ck (aE (sub ([(bW.mk 1 0 (sub ([(ax.mk 0 0 4 4)]:List ax) 0 1) ([]))]:List bW) 0 1).length 1)<|some (bR.mk ([]) ([]) (sub ([(eX.mk (⟨#[99,111,114,101]⟩) false (sub ([(bQ.mk 0 0),(bQ.mk 9 0),(bQ.mk 9 9),(bQ.mk 0 9)]:List bQ) 0 4))]:List eX) 0 1) (sub ([a0]:List cK) 0 1) ([]) ([]) ([]) 0 (sub ([(bW.mk 1 0 (sub ([(ax.mk 0 0 4 4)]:List ax) 0 1) ([]))]:List bW) 0 1) ([]) ([]) ([]) ([]))
def xJ:Option (List ByteArray):=
 ck (aE (sub ([⟨#[97,114,101,97]⟩,⟨#[99,111,118,101,114]⟩,⟨#[102,108,111,111,114]⟩,⟨#[102,108,111,111,114,115]⟩,⟨#[104,101,105,103,104,116]⟩,⟨#[104,111,109,101,115]⟩,⟨#[114,117,110,111,102,102]⟩,⟨#[115,101,116,98,97,99,107]⟩,⟨#[116,114,97,102,102,105,99]⟩]:List ByteArray) 0 9).length 9)<|some (sub ([⟨#[97,114,101,97]⟩,⟨#[99,111,118,101,114]⟩,⟨#[102,108,111,111,114]⟩,⟨#[102,108,111,111,114,115]⟩,⟨#[104,101,105,103,104,116]⟩,⟨#[104,111,109,101,115]⟩,⟨#[114,117,110,111,102,102]⟩,⟨#[115,101,116,98,97,99,107]⟩,⟨#[116,114,97,102,102,105,99]⟩]:List ByteArray) 0 9)
mutual
def toE:bP->ET
 |⟨op,_,s,_,args⟩=>.mk op s (IY args)
def IY:List bP->List ET
 |[]=>[]
 |x::xs=>toE x::IY xs
end
def qp(a0:bP):Option (List ByteArray):=ck (Nat.ble (toE a0).wt 4000000)<|some (xr (toE a0).names)
def toD(d:fB):ByteArray×ET:=(d.name,.mk d.eW d.fW (IY d.c8))
def iZ(a0:List fB):Option ((List fB)×(List (List Int))):=ck (Nat.ble (rS (a0.map toD)) 4000000)<|some (a0,jq (a0.map toD))
def q8(a0:List Int)(a1:Int):Option (List Int):=match a0 with
 |[x]=>ck (decide (0<=a1)&&decide (a1<=1000000000000))<|some (List.replicate a1.toNat x)
 |_=>none
def TD(a0:List Int)(a1:Int):Stp Int (Unit⊕Int)
 |v1=>(bif decide (v1<a0.length)then(bj a0 v1).bind λx1=>(bif (a1==x1)then(some v1).map λa=>.inr (.inr a)else some (.inl (i64.wrap (v1+1))))else some (.inr (.inl ())))
def EQ(a0:List Int)(a1:Int):Option Int:=
 dn (iter (TD a0 a1) n 0) λ()=>some (-1)
def rP(a0:List Int)(a1:Int):Option Bool:=
 (EQ n a0 a1).bind λr1=>some (decide (r1>=0))
def gI(a0:nW)(r1:List Int)(x2:Int):Stp (Int×Int×(List Int)×(List Int)) (Int×(List Int)×(List Int))
 |(v4,v5,v6,v7)=>(bif decide (v5<a0.uses.length)then((bj a0.uses v5).bind λx3=>(ck (cM v5 r1.length)<|(bj v6 ((0:Nat)+v5:Int)).bind λx4=>(bif decide (x4<0)then(rP n x3 x2).bind λr2=>some r2 else some false)).bind λv8=>(bif v8 then ck (cM x2 r1.length)<|(bj v6 ((0:Nat)+x2:Int)).bind λx5=>ck (cM v5 r1.length)<|(bj v6 ((0:Nat)+v5:Int)).bind λx6=>ck (bH (Wl (v4.toNat) v7).length (v7.length-v4.toNat) (sub ([v5]:List Int) 0 1).length 1 8)<|iM ((Wl (v4.toNat) v7)++(sub ([v5]:List Int) 0 1)) λr3=>ck (aE (0+r3.length) r3.length)<|some ((0:Nat),(v6.set ((0:Nat)+v5:Int).toNat (i64.wrap (x5+1))),r3)else ck (aE ((v4.toNat)+(v7.length-v4.toNat)) v7.length)<|some ((v4.toNat:Nat),v6,v7)):Option (Int×(List Int)×(List Int))).bind λ(v9,v10,v11)=>ck (aE ((v9.toNat)+(v11.length-v9.toNat)) v11.length)<|some (.inl ((v9.toNat:Nat),(i64.wrap (v5+1)),v10,v11))else ck (aE ((v4.toNat)+(v7.length-v4.toNat)) v7.length)<|some (.inr ((v4.toNat:Nat),v6,v7)))
def d9(a0:nW)(r1:List Int):Stp (Int×(List Int)×(List Int)) (List Int)
 |(v1,v2,v3)=>(bif (decide ((((v3.length-(v1:Int).toNat):Nat):Int)>0))then ck (cM 0 (v3.length-v1.toNat))<|(bj v3 ((v1.toNat:Nat)+0:Int)).bind λx2=>ck (tT 1 ((v3.length-v1.toNat):Nat) (v3.length-v1.toNat))<|ck (aE ((v1.toNat+1)+((v3.length-v1.toNat)-1)) v3.length)<|(iter (gI n a0 r1 x2) n (((v1.toNat+1):Nat),0,v2,v3)).bind λ(w1,w2,w3)=>ck (aE ((w1.toNat)+(w3.length-w1.toNat)) w3.length)<|some (.inl ((w1.toNat:Nat),w2,w3))else some (.inr v2))
def jY(a0:nW)(a1:Int):Option (List Int):=
 ck (aE (sub ([(-1)]:List Int) 0 1).length 1)<|(q8 (sub ([(-1)]:List Int) 0 1) a0.defs.length).bind λr1=>ck (cM a1 r1.length)<|(bj r1 ((0:Nat)+a1:Int)).bind λx1=>ck (aE (0+1) ([a1]:List Int).length)<|(iter (d9 n a0 r1) n ((0:Nat),(r1.set ((0:Nat)+a1:Int).toNat 0),([a1]:List Int))).bind λw4=>ck (aE (sub w4 0 r1.length).length r1.length)<|some (sub w4 0 r1.length)
def cmp_isNaN_string(a0:ByteArray):Option Bool:=
 some (!(ByteArray.toList a0==ByteArray.toList a0))
def nX(a0:ByteArray)(a1:ByteArray):Option Int:=
 (cmp_isNaN_string a0).bind λr1=>(cmp_isNaN_string a1).bind λr2=>(bif r1 then(bif r2 then some 0 else some (-1))else(bif r2 then some 1 else(bif (V9 a0 a1)then some (-1)else(bif (!(V9 a0 a1 || ByteArray.toList a0==ByteArray.toList a1))then some 1 else some 0))))
def lV(a0:List ByteArray)(a1:List ByteArray):Stp Int (Unit⊕Int)
 |v1=>(bif decide (v1<a0.length)then(bj a0 v1).bind λx1=>(bif decide (v1>=a1.length)then(some 1).map λa=>.inr (.inr a)else(bj a1 v1).bind λx2=>(nX x1 x2).bind λr1=>(bif (r1 !=0)then(some r1).map λa=>.inr (.inr a)else some (.inl (i64.wrap (v1+1)))))else some (.inr (.inl ())))
def lW(a0:List ByteArray)(a1:List ByteArray):Option Int:=
 dn (iter (lV a0 a1) n 0) λ()=>(bif decide (a0.length<(a1.length:Int))then some (-1)else some 0)
def mM(a0:Int)(a1:List Bool):Option (Bool×(List Bool)):=
 ck (cM a0 a1.length)<|(bj a1 ((0:Nat)+a0:Int)).bind λx1=>ck (aE a1.length a1.length)<|some ((!x1),a1)
def jZ(a0:List Int):Stp (Int×(List Bool)) ((List Bool)⊕(Int×(List Bool)))
 |(v1,v2)=>(bif decide (v1<a0.length)then(bj a0 v1).bind λx1=>ck (aE v2.length v2.length)<|(mM x1 v2).bind λr1=>(bif r1.1 then(ck (aE r1.2.length r1.2.length)<|some (v1,r1.2)).map λa=>.inr (.inr a)else ck (aE r1.2.length r1.2.length)<|some (.inl ((i64.wrap (v1+1)),r1.2)))else ck (aE v2.length v2.length)<|some (.inr (.inl v2)))
def ni(a0:List Int)(a1:List Bool):Option (Int×(List Bool)):=
 ck (aE a1.length a1.length)<|dn (iter (jZ a0) n (0,a1)) λw1=>ck (aE w1.length w1.length)<|some ((-1),w1)
def iQ(a0:List Int)(a1:List Bool):Option (Bool×(List Bool)):=
 ck (aE a1.length a1.length)<|(ni n a0 a1).bind λr1=>ck (aE r1.2.length r1.2.length)<|some ((decide (r1.1>=0)),r1.2)
def jg(a0:nW):Stp (Int×Int×(List Bool)) (Int×(List Bool))
 |(v4,v5,v6)=>(bif decide (v5<a0.uses.length)then((bj a0.uses v5).bind λx1=>ck (aE v6.length v6.length)<|(iQ n x1 v6).bind λr1=>(ck (cM v5 r1.2.length)<|(bj r1.2 ((0:Nat)+v5:Int)).bind λx2=>(bif (!x2)then(bif (!r1.1)then(bif decide (v4<0)then some true else(bj a0.defs v5).bind λx3=>(bj a0.defs v4).bind λx4=>some (V9 x3.name x4.name))else some false)else some false)).bind λv7=>(bif v7 then ck (aE r1.2.length r1.2.length)<|some (v5,r1.2)else ck (aE r1.2.length r1.2.length)<|some (v4,r1.2)):Option (Int×(List Bool))).bind λ(v8,v9)=>ck (aE v9.length v9.length)<|some (.inl (v8,(i64.wrap (v5+1)),v9))else ck (aE v6.length v6.length)<|some (.inr (v4,v6)))
def kY(a0:nW):Stp (Int×(List Int)×(List Bool)) (List Int)
 |(v1,v2,v3)=>(bif decide (v1<a0.defs.length)then ck (aE v3.length v3.length)<|(iter (jg n a0) n ((-1),0,v3)).bind λ(w1,w2)=>ck (cM w1 w2.length)<|(bj w2 ((0:Nat)+w1:Int)).bind λx5=>ck (bH v2.length v2.length (sub ([w1]:List Int) 0 1).length 1 8)<|iM (v2++(sub ([w1]:List Int) 0 1)) λr2=>ck (aE r2.length r2.length)<|ck (aE w2.length (w2.set ((0:Nat)+w1:Int).toNat true).length)<|some (.inl ((i64.wrap (v1+1)),r2,(w2.set ((0:Nat)+w1:Int).toNat true)))else ck (aE v2.length v2.length)<|some (.inr v2))
def nY(a0:nW):Option (List Int):=
 ck (decide ((a0.defs.length:Int)<=a0.defs.length)&&(decide (0<=(a0.defs.length:Int))&&xE a0.defs.length 1))<|ck (aE 0 ([]:List Int).length)<|ck (aE ((a0.defs.length:Int).toNat) (List.replicate (a0.defs.length:Int).toNat false).length)<|(iter (kY n a0) n (0,[],(List.replicate (a0.defs.length:Int).toNat false))).bind λw3=>ck (aE (sub w3 0 w3.length).length w3.length)<|some (sub w3 0 w3.length)
def jb(r1:List Int)(x2:List Int):Stp (Int×Int) Int
 |(v3,v4)=>(bif decide (v4<x2.length)then((bj x2 v4).bind λx3=>(ck (cM x3 r1.length)<|(bj r1 ((0:Nat)+x3:Int)).bind λx4=>(bif decide (x4>=0)then(bif decide (v3<0)then some true else ck (cM x3 r1.length)<|(bj r1 ((0:Nat)+x3:Int)).bind λx5=>ck (cM v3 r1.length)<|(bj r1 ((0:Nat)+v3:Int)).bind λx6=>some (decide (x5<x6)))else some false)).bind λv5=>(bif v5 then some x3 else some v3):Option Int).bind λv6=>some (.inl (v6,(i64.wrap (v4+1))))else some (.inr v3))
def fD(a0:Int)(a1:List fB)(a2:List (List Int))(r1:List Int):Stp (Int×(List ByteArray)) (Unit⊕((List fB)×(List (List Int))×(List ByteArray)))
 |(v1,v2)=>(bj a1 v1).bind λx1=>ck (bH v2.length v2.length (sub ([x1.name]:List ByteArray) 0 1).length 1 16)<|iM (v2++(sub ([x1.name]:List ByteArray) 0 1)) λr2=>(bj a2 v1).bind λx2=>(iter (jb r1 x2) n ((-1),0)).bind λw1=>(bif decide (w1<0)then(ck (aE 0 ([]:List ByteArray).length)<|some (a1,a2,[])).map λa=>.inr (.inr a)else(bif (w1==a0)then(ck (!(r2.length==0)&&aE r2.length r2.length)<|some (a1,a2,r2)).map λa=>.inr (.inr a)else ck (aE r2.length r2.length)<|some (.inl (w1,r2))))
def gD(a0:Int)(a1:List fB)(a2:List (List Int)):Option ((List fB)×(List (List Int))×(List ByteArray)):=
 (jY n (nW.mk a1 a2) a0).bind λr1=>ck (aE 0 ([]:List ByteArray).length)<|dn (iter (fD n a0 a1 a2 r1) n (a0,[])) λ()=>none
def dD(a0:List fB):Stp (Int×(List fB)×(List (List Int))×(List ByteArray)) ((List fB)×(List (List Int))×(List ByteArray))
 |(v1,v2,v3,v4)=>(bif decide (v1<a0.length)then((gD n v1 v2 v3).bind λr1=>((bif r1.2.2.length==0 then some true else some false)).bind λv5=>(bif v5 then ck (aE v4.length v4.length)<|some (r1.1,r1.2.1,v4)else((bif v4.length==0 then some true else(bif decide ((r1.2.2.length:Nat)<(v4.length:Int))then some true else(bif ((r1.2.2.length:Nat)==(v4.length:Int))then ck (aE (sub r1.2.2 0 r1.2.2.length).length r1.2.2.length)<|ck (aE (sub v4 0 v4.length).length v4.length)<|(lW n (sub r1.2.2 0 r1.2.2.length) (sub v4 0 v4.length)).bind λr2=>some (decide (r2<0))else some false)))).bind λv6=>(bif v6 then ck (aE r1.2.2.length r1.2.2.length)<|some (r1.1,r1.2.1,r1.2.2)else ck (aE v4.length v4.length)<|some (r1.1,r1.2.1,v4))):Option ((List fB)×(List (List Int))×(List ByteArray))).bind λ(v7,v8,v9)=>ck (aE v9.length v9.length)<|some (.inl ((i64.wrap (v1+1)),v7,v8,v9))else ck (aE v4.length v4.length)<|some (.inr (v2,v3,v4)))
def fJ(a0:List fB)(a1:List (List Int)):Option ((List fB)×(List (List Int))×(List ByteArray)):=
 ck (aE 0 ([]:List ByteArray).length)<|(iter (dD n a0) n (0,a0,a1,[])).bind λ(w1,w2,w3)=>ck (aE w3.length w3.length)<|some (w1,w2,w3)
def oL(r1:List ByteArray):Stp (Int×(List (ByteArray×Bool))) (List (ByteArray×Bool))
 |(v1,v2)=>(bif decide (v1<(r1.length:Nat))then ck (cM v1 r1.length)<|(bj r1 ((0:Nat)+v1:Int)).bind λx1=>some (.inl ((i64.wrap (v1+1)),(oI gR x1 true v2)))else some (.inr v2))
def lI(a0:bn):Stp (Int×(List (ByteArray×Bool))) (Unit⊕((List Int)×(List ByteArray)×Int))
 |(v3,v4)=>(bif decide (v3<a0.defs.length)then(bj a0.defs v3).bind λx2=>(bif ((dL gR x2.name v4).getD false)then(some ([],[],5)).map λa=>.inr (.inr a)else some (.inl ((i64.wrap (v3+1)),(oI gR x2.name true v4))))else some (.inr (.inl ())))
def fQ(a0:bn):Option ((List Int)×(List ByteArray)×Int):=
 (xJ).bind λr1=>(iter (oL r1) n (0,([]:(List (ByteArray×Bool))))).bind λw1=>dn (iter (lI a0) n (0,w1)) λ()=>(iZ a0.defs).bind λr2=>(fJ n r2.1 r2.2).bind λr3=>((bif r3.2.2.length==0 then some false else some true)).bind λv5=>(bif v5 then ck (aE (sub r3.2.2 0 r3.2.2.length).length r3.2.2.length)<|some ([],(sub r3.2.2 0 r3.2.2.length),16)else(nY n (nW.mk r3.1 r3.2.1)).bind λr4=>ck (aE (sub r4 0 r4.length).length r4.length)<|some ((sub r4 0 r4.length),[],0))
def pK(a0:List bQ):Stp (Int×(List jV)) (List jV)
 |(v1,v2)=>(bif decide (v1<a0.length)then(bj a0 v1).bind λx1=>ck ((a0.length:Int) !=0)<|(bj a0 (Int.tmod (i64.wrap (v1+1)) (a0.length:Int))).bind λx2=>ck (cM v1 ((a0.length:Int).toNat))<|(bj v2 ((0:Nat)+v1:Int)).bind λx3=>some (.inl ((i64.wrap (v1+1)),(v2.set ((0:Nat)+v1:Int).toNat (jV.mk x1.x x1.y x2.x x2.y))))else some (.inr v2))
def pX(a0:List bQ):Option (List jV):=
 ck (decide ((a0.length:Int)<=a0.length)&&(decide (0<=(a0.length:Int))&&xE a0.length 32))<|(iter (pK a0) n (0,(List.replicate (a0.length:Int).toNat (jV.mk 0 0 0 0)))).bind λw1=>ck (aE (sub w1 0 ((a0.length:Int).toNat)).length ((a0.length:Int).toNat))<|some (sub w1 0 ((a0.length:Int).toNat))
def uo(a0:bQ):Option Bool:=
 (bif decide (0<=a0.x)then(bif decide (a0.x<=1048576)then(bif decide (0<=a0.y)then some (decide (a0.y<=1048576))else some false)else some false)else some false)
def iB(a0:jV):Option Bool:=
 some (a0.mj==a0.m4)
def cmp_isNaN_int(a0:Int):Option Bool:=
 some (a0 !=a0)
def cmp_Compare_int(a0:Int)(a1:Int):Option Int:=
 (cmp_isNaN_int a0).bind λr1=>(cmp_isNaN_int a1).bind λr2=>(bif r1 then(bif r2 then some 0 else some (-1))else(bif r2 then some 1 else(bif decide (a0<a1)then some (-1)else(bif decide (a0>a1)then some 1 else some 0))))
def BL(a0:List Int):Stp Int (Unit⊕Int)
 |v1=>(bif decide (v1<a0.length)then(bj a0 v1).bind λx1=>(bif (x1 !=0)then(some x1).map λa=>.inr (.inr a)else some (.inl (i64.wrap (v1+1))))else some (.inr (.inl ())))
def vL(a0:List Int):Option Int:=
 dn (iter (BL a0) n 0) λ()=>some 0
def rQ(a0:bQ)(a1:bQ):Option Int:=
 (cmp_Compare_int a0.x a1.x).bind λr1=>(cmp_Compare_int a0.y a1.y).bind λr2=>ck (aE (sub ([r1,r2]:List Int) 0 2).length 2)<|(vL n (sub ([r1,r2]:List Int) 0 2)).bind λr3=>some r3
def lX(a0:jV)(a1:jV):Option Bool:=
 (bif decide ((max (min a0.mj a0.m4) (min a1.mj a1.m4))<=(min (max a0.mj a0.m4) (max a1.mj a1.m4)))then some (decide ((max (min a0.qe a0.uC) (min a1.qe a1.uC))<=(min (max a0.qe a0.uC) (max a1.qe a1.uC))))else some false)
def qw(a0:List bQ)(r1:List jV):Stp Int (Unit⊕Bool)
 |v2=>(bif decide (v2<(r1.length:Nat))then ck (cM v2 r1.length)<|(bj r1 ((0:Nat)+v2:Int)).bind λx1=>ck ((r1.length:Int) !=0)<|ck (cM (Int.tmod (i64.wrap (v2+1)) (r1.length:Int)) r1.length)<|(bj r1 ((0:Nat)+(Int.tmod (i64.wrap (v2+1)) (r1.length:Int)):Int)).bind λx2=>((uo (bQ.mk x1.mj x1.qe)).bind λr2=>(bif (!r2)then some true else(bif ((x1.mj==x1.m4)==(x1.qe==x1.uC))then some true else(iB x1).bind λr3=>(iB x2).bind λr4=>some (r3==r4)))).bind λv3=>(bif v3 then(some false).map λa=>.inr (.inr a)else((bif decide (v2>0)then(bj a0 0).bind λx3=>(bj a0 v2).bind λx4=>(rQ n x3 x4).bind λr5=>some (decide (r5>=0))else some false)).bind λv4=>(bif v4 then(some false).map λa=>.inr (.inr a)else some (.inl (i64.wrap (v2+1)))))else some (.inr (.inl ())))
def jr(r1:List jV)(v5:Int):Stp Int (Unit⊕(Int⊕(Unit⊕Bool)))
 |v6=>(bif decide (v6<(r1.length:Nat))then((bif (decide ((i64.wrap ((i64.wrap (v5+(r1.length:Nat)))-v6))>1))then ck (cM v5 r1.length)<|(bj r1 ((0:Nat)+v5:Int)).bind λx5=>ck (cM v6 r1.length)<|(bj r1 ((0:Nat)+v6:Int)).bind λx6=>(lX x5 x6).bind λr6=>some r6 else some false)).bind λv7=>(bif v7 then((some false).map λa=>.inr (.inr a)).map λa=>.inr (.inr a)else some (.inl (i64.wrap (v6+1))))else some (.inr (.inl ())))
def qx(r1:List jV):Stp Int (Unit⊕Bool)
 |v5=>(bif decide (v5<(r1.length:Nat))then dn (iter (jr r1 v5) n (i64.wrap (v5+2))) λ()=>some (.inl (i64.wrap (v5+1)))else some (.inr (.inl ())))
def wz(a0:List bQ):Option Bool:=
 ((bif decide ((a0.length:Int)<4)then some true else some (decide ((a0.length:Int)>60)))).bind λv1=>(bif v1 then some false else(pX n a0).bind λr1=>dn (iter (qw n a0 r1) n 0) λ()=>dn (iter (qx n r1) n 0) λ()=>ck (cM 0 r1.length)<|(bj r1 ((0:Nat)+0:Int)).bind λx7=>(iB x7).bind λr7=>some (!r7))
def pY(_:Nat)(a0:List Int):Option (List Int):=N0 a0
def Og(a0:List Int)(v1:Int):Stp (Int×Int×(List Int)) (Int×(List Int))
 |(v2,v3,v4)=>(bif decide (v3<((a0.length-v1.toNat):Nat))then(ck (cM v3 (a0.length-v1.toNat))<|(bj v4 (((0+v1.toNat):Nat)+v3:Int)).bind λx3=>ck (cM (i64.wrap (v3-1)) (a0.length-v1.toNat))<|(bj v4 (((0+v1.toNat):Nat)+(i64.wrap (v3-1)):Int)).bind λx4=>(bif (x3 !=x4)then ck (cM v3 (a0.length-v1.toNat))<|(bj v4 (((0+v1.toNat):Nat)+v3:Int)).bind λx5=>ck (cM v2 a0.length)<|(bj v4 ((0:Nat)+v2:Int)).bind λx6=>some ((i64.wrap (v2+1)),(v4.set ((0:Nat)+v2:Int).toNat x5))else some (v2,v4)):Option (Int×(List Int))).bind λ(v5,v6)=>some (.inl (v5,(i64.wrap (v3+1)),v6))else some (.inr (v2,v4)))
def Oh(a0:List Int):Stp Int (Unit⊕(Unit×(List Int)))
 |v1=>(bif decide (v1<(a0.length:Nat))then ck (cM v1 a0.length)<|(bj a0 ((0:Nat)+v1:Int)).bind λx1=>ck (cM (i64.wrap (v1-1)) a0.length)<|(bj a0 ((0:Nat)+(i64.wrap (v1-1)):Int)).bind λx2=>(bif (x1==x2)then ck (tT v1 (a0.length:Nat) a0.length)<|(iter (Og a0 v1) n (v1,1,a0)).bind λ(w1,w2)=>ck (tT w1 (a0.length:Nat) a0.length)<|ck (tT 0 w1 a0.length)<|(ck (aE (w1.toNat) (w1.toNat))<|ck (aE (sub (w2.take (0+w1.toNat)) 0 (w1.toNat)).length (w1.toNat))<|some ((),(sub (w2.take (0+w1.toNat)) 0 (w1.toNat)))).map λa=>.inr (.inr a)else some (.inl (i64.wrap (v1+1))))else some (.inr (.inl ())))
def p8(a0:List Int):Option (Unit×(List Int)):=
 (bif decide ((a0.length:Int)<2)then ck (aE a0.length a0.length)<|ck (aE (sub a0 0 a0.length).length a0.length)<|some ((),(sub a0 0 a0.length))else dn (iter (Oh n a0) n 1) λ()=>ck (aE a0.length a0.length)<|ck (aE (sub a0 0 a0.length).length a0.length)<|some ((),(sub a0 0 a0.length)))
def lY(a0:List bQ):Stp (Int×(List Int)) (List Int)
 |(v1,v2)=>(bif decide (v1<a0.length)then(bj a0 v1).bind λx1=>ck (bH v2.length v2.length (sub ([x1.x]:List Int) 0 1).length 1 8)<|iM (v2++(sub ([x1.x]:List Int) 0 1)) λr2=>ck (aE r2.length r2.length)<|some (.inl ((i64.wrap (v1+1)),r2))else ck (aE v2.length v2.length)<|some (.inr v2))
def lZ(r4:Unit×(List Int))(r5:List jV)(v3:Int):Stp (Int×(List Int)) (List Int)
 |(v5,v6)=>(bif decide (v5<(r5.length:Nat))then(ck (cM v5 r5.length)<|(bj r5 ((0:Nat)+v5:Int)).bind λx2=>((iB x2).bind λr6=>(bif (!r6)then ck (cM v3 r4.2.length)<|(bj r4.2 ((0:Nat)+v3:Int)).bind λx3=>(bif decide ((min x2.mj x2.m4)<=x3)then ck (cM v3 r4.2.length)<|(bj r4.2 ((0:Nat)+v3:Int)).bind λx4=>some (decide (x4<(max x2.mj x2.m4)))else some false)else some false)).bind λv7=>(bif v7 then ck (bH v6.length v6.length (sub ([x2.qe]:List Int) 0 1).length 1 8)<|iM (v6++(sub ([x2.qe]:List Int) 0 1)) λr7=>ck (aE r7.length r7.length)<|some r7 else ck (aE v6.length v6.length)<|some v6):Option ((List Int))).bind λv8=>ck (aE v8.length v8.length)<|some (.inl ((i64.wrap (v5+1)),v8))else ck (aE v6.length v6.length)<|some (.inr v6))
def jK(r4:Unit×(List Int))(v3:Int)(w2:List Int)(r8:List Int):Stp (Int×(List ax)) (List ax)
 |(v9,v10)=>(bif decide ((i64.wrap (v9+1))<(w2.length:Nat))then ck (cM v3 r4.2.length)<|(bj r4.2 ((0:Nat)+v3:Int)).bind λx5=>ck (cM v9 w2.length)<|(bj r8 ((0:Nat)+v9:Int)).bind λx6=>ck (cM (i64.wrap (v3+1)) r4.2.length)<|(bj r4.2 ((0:Nat)+(i64.wrap (v3+1)):Int)).bind λx7=>ck (cM (i64.wrap (v9+1)) w2.length)<|(bj r8 ((0:Nat)+(i64.wrap (v9+1)):Int)).bind λx8=>ck (bH v10.length v10.length (sub ([(ax.mk x5 x6 x7 x8)]:List ax) 0 1).length 1 32)<|iM (v10++(sub ([(ax.mk x5 x6 x7 x8)]:List ax) 0 1)) λr9=>ck (aE r9.length r9.length)<|some (.inl ((i64.wrap (v9+2)),r9))else ck (aE v10.length v10.length)<|some (.inr v10))
def l5(r4:Unit×(List Int))(r5:List jV):Stp (Int×(List ax)) (List ax)
 |(v3,v4)=>(bif decide (v3<(i64.wrap ((r4.2.length:Nat)-1)))then ck (aE 0 ([]:List Int).length)<|(iter (lZ r4 r5 v3) n (0,[])).bind λw2=>ck (aE w2.length w2.length)<|(pY n w2).bind λr8=>ck (aE v4.length v4.length)<|(iter (jK r4 v3 w2 r8) n (0,v4)).bind λw3=>ck (aE w3.length w3.length)<|some (.inl ((i64.wrap (v3+1)),w3))else ck (aE v4.length v4.length)<|some (.inr v4))
def uq(a0:List bQ):Option ((List ax)×Int):=
 (wz n a0).bind λr1=>(bif (!r1)then some ([],10)else ck (aE 0 ([]:List Int).length)<|(iter (lY a0) n (0,[])).bind λw1=>ck (aE w1.length w1.length)<|(pY n w1).bind λr3=>ck (aE w1.length r3.length)<|(p8 n r3).bind λr4=>(pX n a0).bind λr5=>ck (aE 0 ([]:List ax).length)<|(iter (l5 n r4 r5) n (0,[])).bind λw4=>(bif decide ((w4.length:Int)>200)then some ([],6)else ck (aE (sub w4 0 w4.length).length w4.length)<|some ((sub w4 0 w4.length),0)))
def uw(a0:eX):Option (List ax):=
 (uq n a0.corners).bind λr1=>(bif (r1.2 !=0)then some []else ck (aE (sub r1.1 0 r1.1.length).length r1.1.length)<|some (sub r1.1 0 r1.1.length))
def nZ(a0:ax):Option Bool:=
 (bif decide (0<=a0.x0)then(bif decide (a0.x0<a0.x1)then(bif decide (a0.x1<=1048576)then(bif decide (0<=a0.y0)then(bif decide (a0.y0<a0.y1)then some (decide (a0.y1<=1048576))else some false)else some false)else some false)else some false)else some false)
def sS(a0:ax):Option (ax×Bool):=
 (nZ a0).bind λr1=>(bif r1 then some (a0,true)else some ((ax.mk 0 0 0 0),false))
def sU(a0:ax)(a1:ax):Option (ax×Bool):=
 ((nZ a0).bind λr1=>(bif (!r1)then some true else(nZ a1).bind λr2=>some (!r2))).bind λv1=>(bif v1 then some ((ax.mk 0 0 0 0),false)else(sS (ax.mk (max a0.x0 a1.x0) (max a0.y0 a1.y0) (min a0.x1 a1.x1) (min a0.y1 a1.y1))).bind λr3=>some (r3.1,r3.2))
def pG(a0:ax):Option Int:=
 (sS a0).bind λr1=>some (i64.wrap ((i64.wrap (r1.1.x1-r1.1.x0))*(i64.wrap (r1.1.y1-r1.1.y0))))
def iC(a1:List ax)(x1:ax):Stp (Int×Int×Int×Int) (Int×Int×Int)
 |(v5,v6,v7,v8)=>(bif decide (v6<a1.length)then((bj a1 v6).bind λx2=>(sU x1 x2).bind λr1=>(bif (!r1.2)then some (v5,v7,v8)else(pG r1.1).bind λr2=>(cmp_Compare_int r1.1.x0 v7).bind λr3=>(cmp_Compare_int r1.1.y0 v8).bind λr4=>ck (aE (sub ([r3,r4]:List Int) 0 2).length 2)<|(vL n (sub ([r3,r4]:List Int) 0 2)).bind λr5=>(bif decide (r5<0)then some ((i64.wrap (v5+r2)),r1.1.x0,r1.1.y0)else some ((i64.wrap (v5+r2)),v7,v8))):Option (Int×Int×Int)).bind λ(v9,v10,v11)=>some (.inl (v9,(i64.wrap (v6+1)),v10,v11))else some (.inr (v5,v7,v8)))
def jv(a0:List ax)(a1:List ax):Stp (Int×Int×Int×Int) (Int×Int×Int)
 |(v1,v2,v3,v4)=>(bif decide (v2<a0.length)then(bj a0 v2).bind λx1=>(iter (iC n a1 x1) n (v1,0,v3,v4)).bind λ(w1,w2,w3)=>some (.inl (w1,(i64.wrap (v2+1)),w2,w3))else some (.inr (v1,v3,v4)))
def mO(a0:List ax)(a1:List ax):Option (Int×bQ):=
 (iter (jv n a0 a1) n (0,0,1048576,0)).bind λ(w4,w5,w6)=>some (w4,(bQ.mk w5 w6))
def iR(a0:bn):Stp (Int×(List (List ax))) (List (List ax))
 |(v1,v2)=>(bif decide (v1<a0.zones.length)then((bj a0.zones v1).bind λx1=>(bif (!x1.overlay)then(uw n x1).bind λr1=>ck (cM v1 ((a0.zones.length:Int).toNat))<|ck (aE (sub r1 0 r1.length).length r1.length)<|(bj v2 ((0:Nat)+v1:Int)).bind λx2=>some (v2.set ((0:Nat)+v1:Int).toNat (sub r1 0 r1.length))else some v2):Option ((List (List ax)))).bind λv3=>some (.inl ((i64.wrap (v1+1)),v3))else some (.inr v2))
def eT(a0:bn)(w1:List (List ax))(v4:Int):Stp Int (Unit⊕(Int⊕(Unit⊕((List Int)×bQ×Bool))))
 |v5=>(bif decide (v5<((a0.zones.length:Int).toNat:Nat))then ck (cM v4 ((a0.zones.length:Int).toNat))<|(bj w1 ((0:Nat)+v4:Int)).bind λx3=>ck (cM v5 ((a0.zones.length:Int).toNat))<|(bj w1 ((0:Nat)+v5:Int)).bind λx4=>(mO n x3 x4).bind λr2=>(bif decide (r2.1>0)then((ck (aE (sub ([v4,v5]:List Int) 0 2).length 2)<|some ((sub ([v4,v5]:List Int) 0 2),r2.2,true)).map λa=>.inr (.inr a)).map λa=>.inr (.inr a)else some (.inl (i64.wrap (v5+1))))else some (.inr (.inl ())))
def gM(a0:bn)(w1:List (List ax)):Stp Int (Unit⊕((List Int)×bQ×Bool))
 |v4=>(bif decide (v4<((a0.zones.length:Int).toNat:Nat))then dn (iter (eT n a0 w1 v4) n (i64.wrap (v4+1))) λ()=>some (.inl (i64.wrap (v4+1)))else some (.inr (.inl ())))
def gT(a0:bn):Option ((List Int)×bQ×Bool):=
 ck (decide ((a0.zones.length:Int)<=a0.zones.length)&&(decide (0<=(a0.zones.length:Int))&&xE a0.zones.length 24))<|(iter (iR n a0) n (0,(List.replicate (a0.zones.length:Int).toNat ([])))).bind λw1=>dn (iter (gM n a0 w1) n 0) λ()=>some ([],(bQ.mk 0 0),false)
def dx(a0:kS)(r3:(List Int)×bQ×Bool):Stp (Int×Int×Int×Int×Int×Int×Int×Int×Int×(List ByteArray)) (Int×Int×Int×Int×Int×Int×Int×Int×(List ByteArray))
 |(v2,v3,v4,v5,v6,v7,v8,v9,v10,v11)=>(bif decide (v2<(r3.1.length:Nat))then ck (cM v2 r3.1.length)<|(bj r3.1 ((0:Nat)+v2:Int)).bind λx1=>(bj a0.bm x1).bind λx2=>ck (bH v11.length v11.length (sub ([x2.name]:List ByteArray) 0 1).length 1 16)<|iM (v11++(sub ([x2.name]:List ByteArray) 0 1)) λr4=>ck (aE r4.length r4.length)<|some (.inl ((i64.wrap (v2+1)),v3,v4,v5,v6,v7,v8,v9,v10,r4))else ck (aE v11.length v11.length)<|some (.inr (v3,v4,v5,v6,v7,v8,v9,v10,v11)))
def dR(a0:kS):Option (List aC):=
 ((fQ n (bn.mk a0.co a0.bx a0.bm a0.cg a0.cp a0.ca a0.cy a0.ci)).bind λr1=>(bif (r1.2.2==16)then ck (bH 0 0 (sub ([(aC.mk 3 0 r1.2.1 0 0 0 0 0 0)]:List aC) 0 1).length 1 88)<|iM ((sub ([(aC.mk 3 0 r1.2.1 0 0 0 0 0 0)]:List aC) 0 1)) λr2=>ck (aE r2.length r2.length)<|some r2 else ck (aE 0 ([]:List aC).length)<|some []):Option ((List aC))).bind λv1=>((gT n (bn.mk a0.co a0.bx a0.bm a0.cg a0.cp a0.ca a0.cy a0.ci)).bind λr3=>(bif r3.2.2 then ck (aE 0 ([]:List ByteArray).length)<|(iter (dx a0 r3) n (0,2,0,0,0,0,0,r3.2.1.x,r3.2.1.y,[])).bind λ(w1,w2,w3,w4,w5,w6,w7,w8,w9)=>ck (aE (sub w9 0 w9.length).length w9.length)<|ck (bH v1.length v1.length (sub ([(aC.mk w1 w2 (sub w9 0 w9.length) w3 w4 w5 w6 w7 w8)]:List aC) 0 1).length 1 88)<|iM (v1++(sub ([(aC.mk w1 w2 (sub w9 0 w9.length) w3 w4 w5 w6 w7 w8)]:List aC) 0 1)) λr5=>ck (aE r5.length r5.length)<|some r5 else ck (aE v1.length v1.length)<|some v1):Option ((List aC))).bind λv12=>ck (aE (sub v12 0 v12.length).length v12.length)<|some (sub v12 0 v12.length)
def Oi(a0:Unit)(a1:Int):Option (List ax):=
 (bif decide (a1<0)then none else(bif (decide ((i64.wrap (a1-(i64.wrap (0-0))))>0))then ck (xE (i64.wrap (a1-(i64.wrap (0-0)))) 32)<|ck (tT 0 0 ((i64.wrap (a1-(i64.wrap (0-0)))).toNat))<|ck (aE (sub (List.replicate (i64.wrap (a1-(i64.wrap (0-0)))).toNat (ax.mk 0 0 0 0)) 0 0).length 0)<|some (sub (List.replicate (i64.wrap (a1-(i64.wrap (0-0)))).toNat (ax.mk 0 0 0 0)) 0 0)else some []))
def Oj(a0:List (List ax)):Stp (Int×Int) Int
 |(v1,v2)=>(bif decide (v2<a0.length)then(bj a0 v2).bind λx1=>(bif decide ((i64.wrap (v1+x1.length))<0)then none else some (.inl ((i64.wrap (v1+x1.length)),(i64.wrap (v2+1)))))else some (.inr v1))
def Ol(a0:List (List ax)):Stp (Int×(List ax)) (List ax)
 |(v3,v4)=>(bif decide (v3<a0.length)then(bj a0 v3).bind λx2=>ck (bH v4.length v4.length x2.length x2.length 32)<|iM (v4++x2) λr2=>ck (aE r2.length r2.length)<|some (.inl ((i64.wrap (v3+1)),r2))else ck (aE v4.length v4.length)<|some (.inr v4))
def zm(a0:List (List ax)):Option (List ax):=
 (iter (Oj a0) n (0,0)).bind λw1=>(Oi () w1).bind λr1=>ck (aE r1.length r1.length)<|(iter (Ol a0) n (0,r1)).bind λw2=>ck (aE (sub w2 0 w2.length).length w2.length)<|some (sub w2 0 w2.length)
def vM(_:Nat)(a0:List aK)(a1:(aK×aK×Unit)->Option Int):Option (List aK):=HO a0 a1
def yu(a0:aK)(a1:aK):Option Int:=
 (cmp_Compare_int a0.from_ a1.from_).bind λr1=>some r1
def uy(a0:List ax)(a1:Int):Stp (Int×(List aK)) (List aK)
 |(v1,v2)=>(bif decide (v1<a0.length)then((bj a0 v1).bind λx1=>((bif decide (x1.x0<=a1)then some (decide (a1<x1.x1))else some false)).bind λv3=>(bif v3 then ck (bH v2.length v2.length (sub ([(aK.mk x1.y0 x1.y1)]:List aK) 0 1).length 1 16)<|iM (v2++(sub ([(aK.mk x1.y0 x1.y1)]:List aK) 0 1)) λr1=>ck (aE r1.length r1.length)<|some r1 else ck (aE v2.length v2.length)<|some v2):Option ((List aK))).bind λv4=>ck (aE v4.length v4.length)<|some (.inl ((i64.wrap (v1+1)),v4))else ck (aE v2.length v2.length)<|some (.inr v2))
def uz(w1:List aK)(r2:List aK):Stp (Int×(List aK)) (List aK)
 |(v5,v6)=>(bif decide (v5<(w1.length:Nat))then(ck (cM v5 w1.length)<|(bj r2 ((0:Nat)+v5:Int)).bind λx2=>((bif decide ((v6.length:Int)>0)then ck (cM (i64.wrap ((v6.length:Nat)-1)) v6.length)<|(bj v6 ((0:Nat)+(i64.wrap ((v6.length:Nat)-1)):Int)).bind λx3=>some (decide (x2.from_<=x3.to))else some false)).bind λv7=>(bif v7 then ck (cM (i64.wrap ((v6.length:Nat)-1)) v6.length)<|(bj v6 ((0:Nat)+(i64.wrap ((v6.length:Nat)-1)):Int)).bind λx4=>ck (cM (i64.wrap ((v6.length:Nat)-1)) v6.length)<|(bj v6 ((0:Nat)+(i64.wrap ((v6.length:Nat)-1)):Int)).bind λx5=>ck (aE v6.length (v6.set ((0:Nat)+(i64.wrap ((v6.length:Nat)-1)):Int).toNat (aK.mk x5.from_ (max x4.to x2.to))).length)<|some (v6.set ((0:Nat)+(i64.wrap ((v6.length:Nat)-1)):Int).toNat (aK.mk x5.from_ (max x4.to x2.to)))else ck (bH v6.length v6.length (sub ([x2]:List aK) 0 1).length 1 16)<|iM (v6++(sub ([x2]:List aK) 0 1)) λr3=>ck (aE r3.length r3.length)<|some r3):Option ((List aK))).bind λv8=>ck (aE v8.length v8.length)<|some (.inl ((i64.wrap (v5+1)),v8))else ck (aE v6.length v6.length)<|some (.inr v6))
def Kq(a0:List ax)(a1:Int):Option (List aK):=
 ck (aE 0 ([]:List aK).length)<|(iter (uy a0 a1) n (0,[])).bind λw1=>ck (aE w1.length w1.length)<|(vM n w1 (λ (y1:aK×aK×Unit)=>yu y1.1 y1.2.1)).bind λr2=>ck (aE 0 ([]:List aK).length)<|(iter (uz w1 r2) n (0,[])).bind λw2=>ck (aE (sub w2 0 w2.length).length w2.length)<|some (sub w2 0 w2.length)
def uD(r1:List ax):Stp (Int×(List Int)) (List Int)
 |(v1,v2)=>(bif decide (v1<(r1.length:Nat))then ck (cM v1 r1.length)<|(bj r1 ((0:Nat)+v1:Int)).bind λx1=>ck (bH v2.length v2.length (sub ([x1.x0,x1.x1]:List Int) 0 2).length 2 8)<|iM (v2++(sub ([x1.x0,x1.x1]:List Int) 0 2)) λr2=>ck (aE r2.length r2.length)<|some (.inl ((i64.wrap (v1+1)),r2))else ck (aE v2.length v2.length)<|some (.inr v2))
def uE(r1:List ax)(r4:Unit×(List Int)):Stp (Int×(List bX)) (List bX)
 |(v3,v4)=>(bif decide (v3<(r4.2.length:Nat))then ck (cM (i64.wrap (v3-1)) r4.2.length)<|(bj r4.2 ((0:Nat)+(i64.wrap (v3-1)):Int)).bind λx2=>ck (cM v3 r4.2.length)<|(bj r4.2 ((0:Nat)+v3:Int)).bind λx3=>ck (cM (i64.wrap (v3-1)) r4.2.length)<|(bj r4.2 ((0:Nat)+(i64.wrap (v3-1)):Int)).bind λx4=>ck (aE (sub r1 0 r1.length).length r1.length)<|(Kq n (sub r1 0 r1.length) x4).bind λr5=>ck (aE (sub r5 0 r5.length).length r5.length)<|ck (bH v4.length v4.length (sub ([(bX.mk x2 x3 (sub r5 0 r5.length))]:List bX) 0 1).length 1 40)<|iM (v4++(sub ([(bX.mk x2 x3 (sub r5 0 r5.length))]:List bX) 0 1)) λr6=>ck (aE r6.length r6.length)<|some (.inl ((i64.wrap (v3+1)),r6))else ck (aE v4.length v4.length)<|some (.inr v4))
def o8(a0:List (List ax)):Option (List bX):=
 (zm n a0).bind λr1=>ck (aE 0 ([]:List Int).length)<|(iter (uD r1) n (0,[])).bind λw1=>ck (aE w1.length w1.length)<|(pY n w1).bind λr3=>ck (aE w1.length r3.length)<|(p8 n r3).bind λr4=>ck (aE 0 ([]:List bX).length)<|(iter (uE n r1 r4) n (1,[])).bind λw2=>ck (aE (sub w2 0 w2.length).length w2.length)<|some (sub w2 0 w2.length)
def QC(a0:List aK)(a1:List aK):Stp Int (Unit⊕Bool)
 |v1=>(bif decide (v1<a0.length)then(bj a0 v1).bind λx1=>(bj a1 v1).bind λx2=>(bif (!((x1.from_==x2.from_)&&((x1.to==x2.to)&&true)))then(some false).map λa=>.inr (.inr a)else some (.inl (i64.wrap (v1+1))))else some (.inr (.inl ())))
def wB(a0:List aK)(a1:List aK):Option Bool:=
 (bif (a0.length !=(a1.length:Int))then some false else dn (iter (QC a0 a1) n 0) λ()=>some true)
def sV(a0:List bX)(v1:Int):Stp Int Int
 |v3=>((bif decide (v3<a0.length)then(bj a0 v3).bind λx1=>(bj a0 v1).bind λx2=>(wB n x1.column x2.column).bind λr1=>some r1 else some false)).bind λv4=>(bif v4 then some (.inl (i64.wrap (v3+1)))else some (.inr v3))
def wW(a0:List bX)(v1:Int)(w1:Int)(x3:bX):Stp (Int×(List ax)) (List ax)
 |(v5,v6)=>(bif decide (v5<x3.column.length)then(bj x3.column v5).bind λx4=>(bj a0 v1).bind λx5=>(bj a0 (i64.wrap (w1-1))).bind λx6=>ck (bH v6.length v6.length (sub ([(ax.mk x5.x0 x4.from_ x6.x1 x4.to)]:List ax) 0 1).length 1 32)<|iM (v6++(sub ([(ax.mk x5.x0 x4.from_ x6.x1 x4.to)]:List ax) 0 1)) λr2=>ck (aE r2.length r2.length)<|some (.inl ((i64.wrap (v5+1)),r2))else ck (aE v6.length v6.length)<|some (.inr v6))
def wX(a0:List bX):Stp (Int×(List ax)) (List ax)
 |(v1,v2)=>(bif decide (v1<a0.length)then(iter (sV n a0 v1) n (i64.wrap (v1+1))).bind λw1=>(bj a0 v1).bind λx3=>ck (aE v2.length v2.length)<|(iter (wW a0 v1 w1 x3) n (0,v2)).bind λw2=>ck (aE w2.length w2.length)<|some (.inl (w1,w2))else ck (aE v2.length v2.length)<|some (.inr v2))
def IZ(a0:List bX):Option (List ax):=
 ck (aE 0 ([]:List ax).length)<|(iter (wX n a0) n (0,[])).bind λw3=>ck (aE (sub w3 0 w3.length).length w3.length)<|some (sub w3 0 w3.length)
def zn(a0:List ax):Option ((List ax)×Int):=
 (bif decide ((a0.length:Int)>200)then some ([],6)else some (a0,0))
def Om(a0:List ax):Stp Int (Unit⊕((List ax)×Int))
 |v1=>(bif decide (v1<a0.length)then(bj a0 v1).bind λx1=>(nZ x1).bind λr1=>(bif (!r1)then(some ([],1)).map λa=>.inr (.inr a)else some (.inl (i64.wrap (v1+1))))else some (.inr (.inl ())))
def Se(a0:List ax):Option ((List ax)×Int):=
 dn (iter (Om a0) n 0) λ()=>(bif decide ((a0.length:Int)>400)then some ([],6)else ck (aE (sub ([a0]:List (List ax)) 0 1).length 1)<|(o8 n (sub ([a0]:List (List ax)) 0 1)).bind λr2=>ck (aE (sub r2 0 r2.length).length r2.length)<|(IZ n (sub r2 0 r2.length)).bind λr3=>ck (aE (sub r3 0 r3.length).length r3.length)<|(zn (sub r3 0 r3.length)).bind λr4=>some (r4.1,r4.2))
def QD(a0:List ax)(a1:List ax):Stp Int (Unit⊕Bool)
 |v1=>(bif decide (v1<a0.length)then(bj a0 v1).bind λx1=>(bj a1 v1).bind λx2=>(bif (!((x1.x0==x2.x0)&&((x1.y0==x2.y0)&&((x1.x1==x2.x1)&&((x1.y1==x2.y1)&&true)))))then(some false).map λa=>.inr (.inr a)else some (.inl (i64.wrap (v1+1))))else some (.inr (.inl ())))
def o9(a0:List ax)(a1:List ax):Option Bool:=
 (bif (a0.length !=(a1.length:Int))then some false else dn (iter (QD a0 a1) n 0) λ()=>some true)
def oM(a0:List ax):Option Bool:=
 (Se n a0).bind λr1=>(bif (r1.2==0)then(o9 n r1.1 a0).bind λr2=>some r2 else some false)
def qy(a0:bn)(a1:List ax):Stp (Int×(List Int)) (List Int)
 |(v1,v2)=>(bif decide (v1<a0.zones.length)then(bj a0.zones v1).bind λx1=>(uw n x1).bind λr2=>ck (aE (sub r2 0 r2.length).length r2.length)<|(mO n a1 (sub r2 0 r2.length)).bind λr3=>ck (bH v2.length v2.length (sub ([r3.1]:List Int) 0 1).length 1 8)<|iM (v2++(sub ([r3.1]:List Int) 0 1)) λr4=>ck (aE r4.length r4.length)<|some (.inl ((i64.wrap (v1+1)),r4))else ck (aE v2.length v2.length)<|some (.inr v2))
def jC(a0:bn)(a1:List ax):Option (List Int):=
 (oM n a1).bind λr1=>(bif (!r1)then some []else ck (aE 0 ([]:List Int).length)<|(iter (qy n a0 a1) n (0,[])).bind λw1=>ck (aE (sub w1 0 w1.length).length w1.length)<|some (sub w1 0 w1.length))
def qz(a0:bn)(r1:List Int):Stp (Int×Int) Int
 |(v1,v2)=>(bif decide (v2<(r1.length:Nat))then(ck (cM v2 r1.length)<|(bj r1 ((0:Nat)+v2:Int)).bind λx1=>((bj a0.zones v2).bind λx2=>(bif (!x2.overlay)then(bif decide (x1>0)then(bif decide (v1<0)then some true else ck (cM v1 r1.length)<|(bj r1 ((0:Nat)+v1:Int)).bind λx3=>some (decide (x1>x3)))else some false)else some false)).bind λv3=>(bif v3 then some v2 else some v1):Option Int).bind λv4=>some (.inl (v4,(i64.wrap (v2+1))))else some (.inr v1))
def yw(a0:bn)(r1:List Int)(w1:Int):Stp (Int×(List ByteArray)) (List ByteArray)
 |(v5,v6)=>(bif decide (v5<(r1.length:Nat))then(ck (cM v5 r1.length)<|(bj r1 ((0:Nat)+v5:Int)).bind λx4=>((bif (v5==w1)then some true else(bj a0.zones v5).bind λx5=>(bif x5.overlay then some (decide (x4>0))else some false))).bind λv7=>(bif v7 then(bj a0.zones v5).bind λx6=>ck (bH v6.length v6.length (sub ([x6.name]:List ByteArray) 0 1).length 1 16)<|iM (v6++(sub ([x6.name]:List ByteArray) 0 1)) λr2=>ck (aE r2.length r2.length)<|some r2 else ck (aE v6.length v6.length)<|some v6):Option ((List ByteArray))).bind λv8=>ck (aE v8.length v8.length)<|some (.inl ((i64.wrap (v5+1)),v8))else ck (aE v6.length v6.length)<|some (.inr v6))
def pq(a0:bn)(a1:List ax):Option (List ByteArray):=
 (jC n a0 a1).bind λr1=>(iter (qz a0 r1) n ((-1),0)).bind λw1=>ck (aE 0 ([]:List ByteArray).length)<|(iter (yw a0 r1 w1) n (0,[])).bind λw2=>ck (aE (sub w2 0 w2.length).length w2.length)<|some (sub w2 0 w2.length)
def og(a0:List ByteArray)(a1:ByteArray):Stp Int (Unit⊕Int)
 |v1=>(bif decide (v1<a0.length)then(bj a0 v1).bind λx1=>(bif (ByteArray.toList a1==ByteArray.toList x1)then(some v1).map λa=>.inr (.inr a)else some (.inl (i64.wrap (v1+1))))else some (.inr (.inl ())))
def rR(a0:List ByteArray)(a1:ByteArray):Option Int:=
 dn (iter (og a0 a1) n 0) λ()=>some (-1)
def fV(a0:List ByteArray)(a1:ByteArray):Option Bool:=
 (rR n a0 a1).bind λr1=>some (decide (r1>=0))
def kP(a0:ByteArray)(a1:List ByteArray):Option Bool:=
 (fV n a1 a0).bind λr1=>some r1
def ER(a0:List ByteArray)(a1:(ByteArray×Unit)->Option Bool):Stp Int (Unit⊕Int)
 |v1=>(bif decide (v1<a0.length)then(bj a0 v1).bind λx1=>(a1 (x1,())).bind λr1=>(bif r1 then(some v1).map λa=>.inr (.inr a)else some (.inl (i64.wrap (v1+1))))else some (.inr (.inl ())))
def qN(a0:List ByteArray)(a1:(ByteArray×Unit)->Option Bool):Option Int:=
 dn (iter (ER a0 a1) n 0) λ()=>some (-1)
def gF(a0:List ByteArray)(a1:(ByteArray×Unit)->Option Bool):Option Bool:=
 (qN n a0 a1).bind λr1=>some (decide (r1>=0))
def q9(a0:cK)(a1:List ByteArray):Option Bool:=
 (bif ((a0.zones.length:Int)==0)then(gF n a0.except (λ (y1:ByteArray×Unit)=>kP n y1.1 a1)).bind λr1=>some (!r1)else(gF n a0.zones (λ (y2:ByteArray×Unit)=>kP n y2.1 a1)).bind λr2=>(bif r2 then(gF n a0.except (λ (y3:ByteArray×Unit)=>kP n y3.1 a1)).bind λr3=>some (!r3)else some false))
def rT(a0:bn)(a1:List ByteArray)(a2:Int):Stp (Int×(List Int)) (List Int)
 |(v1,v2)=>(bif decide (v1<a0.rules.length)then((bj a0.rules v1).bind λx1=>((bif decide (x1.from_<=a2)then(bif (x1.j8==0)then(q9 n x1 a1).bind λr1=>some r1 else(bif decide (a2<x1.j8)then(q9 n x1 a1).bind λr2=>some r2 else some false))else some false)).bind λv3=>(bif v3 then ck (bH v2.length v2.length (sub ([v1]:List Int) 0 1).length 1 8)<|iM (v2++(sub ([v1]:List Int) 0 1)) λr3=>ck (aE r3.length r3.length)<|some r3 else ck (aE v2.length v2.length)<|some v2):Option ((List Int))).bind λv4=>ck (aE v4.length v4.length)<|some (.inl ((i64.wrap (v1+1)),v4))else ck (aE v2.length v2.length)<|some (.inr v2))
def j3(a0:bn)(a1:List ByteArray)(a2:Int):Option (List Int):=
 ck (aE 0 ([]:List Int).length)<|(iter (rT n a0 a1 a2) n (0,[])).bind λw1=>ck (aE (sub w1 0 w1.length).length w1.length)<|some (sub w1 0 w1.length)
def AJ(a0:List ax):Stp (Bool×Int×Int×Int×Int×Int) (Bool×Int×Int×Int×Int)
 |(v1,v2,v3,v4,v5,v6)=>(bif decide (v2<a0.length)then((bj a0 v2).bind λx1=>(nZ x1).bind λr1=>(bif (!r1)then some (v1,v3,v4,v5,v6)else(bif (!v1)then some (true,x1.x0,x1.y0,x1.x1,x1.y1)else some (v1,(min v3 x1.x0),(min v4 x1.y0),(max v5 x1.x1),(max v6 x1.y1)))):Option (Bool×Int×Int×Int×Int)).bind λ(v7,v8,v9,v10,v11)=>some (.inl (v7,(i64.wrap (v2+1)),v8,v9,v10,v11))else some (.inr (v1,v3,v4,v5,v6)))
def Oo(a0:List ax):Option (ax×Bool):=
 (iter (AJ a0) n (false,0,0,0,0,0)).bind λ(w1,w2,w3,w4,w5)=>some ((ax.mk w2 w3 w4 w5),w1)
def Dq(a0:List ax):Option (ax×Bool):=
 ((bif ((a0.length:Int)==0)then some true else(oM n a0).bind λr1=>some (!r1))).bind λv1=>(bif v1 then some ((ax.mk 0 0 0 0),false)else(Oo n a0).bind λr2=>some (r2.1,r2.2))
def I4(a0:ax)(a1:Int):Option (ax×Bool):=
 ((nZ a0).bind λr1=>(bif (!r1)then some true else some (decide (a1<0)))).bind λv1=>(bif v1 then some ((ax.mk 0 0 0 0),false)else(sS (ax.mk (i64.wrap (a0.x0+(min a1 1048576))) (i64.wrap (a0.y0+(min a1 1048576))) (i64.wrap (a0.x1-(min a1 1048576))) (i64.wrap (a0.y1-(min a1 1048576))))).bind λr2=>some (r2.1,r2.2))
def l6(a0:List bX)(a1:Int)(a2:(bX×Int×Unit)->Option Int):Stp (Int×Int) Int
 |(v1,v2)=>(bif decide (v1<v2)then ck (decide (0<=1)&&decide (1<=IntKind.u64.bits))<|(bj a0 (i64.wrap ((IntKind.u64.wrap (i64.wrap (v1+v2)))/2 ^ (1:Int).toNat))).bind λx1=>(a2 (x1,a1,())).bind λr1=>(bif decide (r1<0)then some (.inl ((i64.wrap ((i64.wrap ((IntKind.u64.wrap (i64.wrap (v1+v2)))/2 ^ (1:Int).toNat))+1)),v2))else some (.inl (v1,(i64.wrap ((IntKind.u64.wrap (i64.wrap (v1+v2)))/2 ^ (1:Int).toNat)))))else some (.inr v1))
def jD(a0:List bX)(a1:Int)(a2:(bX×Int×Unit)->Option Int):Option (Int×Bool):=
 (iter (l6 a0 a1 a2) n (0,a0.length)).bind λw1=>(bif decide (w1<a0.length)then(bj a0 w1).bind λx2=>(a2 (x2,a1,())).bind λr2=>some (w1,(r2==0))else some (w1,false))
def wY(a0:bX)(a1:Int):Option Int:=
 (bif decide (a0.x1<=a1)then some (-1)else some 1)
def XD(a0:List bX)(a1:Int):Option (List aK):=
 (jD n a0 a1 (λ (y1:bX×Int×Unit)=>wY y1.1 y1.2.1)).bind λr1=>((bif decide (r1.1<a0.length)then(bj a0 r1.1).bind λx1=>some (decide (x1.x0<=a1))else some false)).bind λv1=>(bif v1 then(bj a0 r1.1).bind λx2=>some x2.column else some [])
def Oq(a0:Unit)(a1:Int):Option (List aK):=
 (bif decide (a1<0)then none else(bif (decide ((i64.wrap (a1-(i64.wrap (0-0))))>0))then ck (xE (i64.wrap (a1-(i64.wrap (0-0)))) 16)<|ck (tT 0 0 ((i64.wrap (a1-(i64.wrap (0-0)))).toNat))<|ck (aE (sub (List.replicate (i64.wrap (a1-(i64.wrap (0-0)))).toNat (aK.mk 0 0)) 0 0).length 0)<|some (sub (List.replicate (i64.wrap (a1-(i64.wrap (0-0)))).toNat (aK.mk 0 0)) 0 0)else some []))
def Ot(a0:List (List aK)):Stp (Int×Int) Int
 |(v1,v2)=>(bif decide (v2<a0.length)then(bj a0 v2).bind λx1=>(bif decide ((i64.wrap (v1+x1.length))<0)then none else some (.inl ((i64.wrap (v1+x1.length)),(i64.wrap (v2+1)))))else some (.inr v1))
def Ou(a0:List (List aK)):Stp (Int×(List aK)) (List aK)
 |(v3,v4)=>(bif decide (v3<a0.length)then(bj a0 v3).bind λx2=>ck (bH v4.length v4.length x2.length x2.length 16)<|iM (v4++x2) λr2=>ck (aE r2.length r2.length)<|some (.inl ((i64.wrap (v3+1)),r2))else ck (aE v4.length v4.length)<|some (.inr v4))
def zo(a0:List (List aK)):Option (List aK):=
 (iter (Ot a0) n (0,0)).bind λw1=>(Oq () w1).bind λr1=>ck (aE r1.length r1.length)<|(iter (Ou a0) n (0,r1)).bind λw2=>ck (aE (sub w2 0 w2.length).length w2.length)<|some (sub w2 0 w2.length)
def mY(a0:List aK)(a1:Int)(a2:(aK×Int×Unit)->Option Int):Stp (Int×Int) Int
 |(v1,v2)=>(bif decide (v1<v2)then ck (decide (0<=1)&&decide (1<=IntKind.u64.bits))<|(bj a0 (i64.wrap ((IntKind.u64.wrap (i64.wrap (v1+v2)))/2 ^ (1:Int).toNat))).bind λx1=>(a2 (x1,a1,())).bind λr1=>(bif decide (r1<0)then some (.inl ((i64.wrap ((i64.wrap ((IntKind.u64.wrap (i64.wrap (v1+v2)))/2 ^ (1:Int).toNat))+1)),v2))else some (.inl (v1,(i64.wrap ((IntKind.u64.wrap (i64.wrap (v1+v2)))/2 ^ (1:Int).toNat)))))else some (.inr v1))
def jQ(a0:List aK)(a1:Int)(a2:(aK×Int×Unit)->Option Int):Option (Int×Bool):=
 (iter (mY a0 a1 a2) n (0,a0.length)).bind λw1=>(bif decide (w1<a0.length)then(bj a0 w1).bind λx2=>(a2 (x2,a1,())).bind λr2=>some (w1,(r2==0))else some (w1,false))
def l7(a0:aK)(a1:Int):Option Int:=
 (bif decide (a0.to<=a1)then some (-1)else some 1)
def Dr(a0:List aK)(a1:Int):Option Bool:=
 (jQ n a0 a1 (λ (y1:aK×Int×Unit)=>l7 y1.1 y1.2.1)).bind λr1=>(bif decide (r1.1<a0.length)then(bj a0 r1.1).bind λx1=>some (decide (x1.from_<=a1))else some false)
def wZ(r1:List aK):Stp (Int×(List Int)) (List Int)
 |(v1,v2)=>(bif decide (v1<(r1.length:Nat))then ck (cM v1 r1.length)<|(bj r1 ((0:Nat)+v1:Int)).bind λx1=>ck (bH v2.length v2.length (sub ([x1.from_,x1.to]:List Int) 0 2).length 2 8)<|iM (v2++(sub ([x1.from_,x1.to]:List Int) 0 2)) λr2=>ck (aE r2.length r2.length)<|some (.inl ((i64.wrap (v1+1)),r2))else ck (aE v2.length v2.length)<|some (.inr v2))
def xg(a0:List aK)(a1:List aK)(a2:(Bool×Bool×Unit)->Option Bool)(r4:Unit×(List Int)):Stp (Int×(List aK)) (List aK)
 |(v3,v4)=>(bif decide (v3<(r4.2.length:Nat))then(ck (cM (i64.wrap (v3-1)) r4.2.length)<|(bj r4.2 ((0:Nat)+(i64.wrap (v3-1)):Int)).bind λx2=>(Dr n a0 x2).bind λr5=>(Dr n a1 x2).bind λr6=>(a2 (r5,r6,())).bind λr7=>(bif (!r7)then ck (aE v4.length v4.length)<|some v4 else((bif decide ((v4.length:Int)>0)then ck (cM (i64.wrap ((v4.length:Nat)-1)) v4.length)<|(bj v4 ((0:Nat)+(i64.wrap ((v4.length:Nat)-1)):Int)).bind λx3=>some (x3.to==x2)else some false)).bind λv5=>(bif v5 then ck (cM v3 r4.2.length)<|(bj r4.2 ((0:Nat)+v3:Int)).bind λx4=>ck (cM (i64.wrap ((v4.length:Nat)-1)) v4.length)<|(bj v4 ((0:Nat)+(i64.wrap ((v4.length:Nat)-1)):Int)).bind λx5=>ck (aE v4.length (v4.set ((0:Nat)+(i64.wrap ((v4.length:Nat)-1)):Int).toNat (aK.mk x5.from_ x4)).length)<|some (v4.set ((0:Nat)+(i64.wrap ((v4.length:Nat)-1)):Int).toNat (aK.mk x5.from_ x4))else ck (cM v3 r4.2.length)<|(bj r4.2 ((0:Nat)+v3:Int)).bind λx6=>ck (bH v4.length v4.length (sub ([(aK.mk x2 x6)]:List aK) 0 1).length 1 16)<|iM (v4++(sub ([(aK.mk x2 x6)]:List aK) 0 1)) λr8=>ck (aE r8.length r8.length)<|some r8)):Option ((List aK))).bind λv6=>ck (aE v6.length v6.length)<|some (.inl ((i64.wrap (v3+1)),v6))else ck (aE v4.length v4.length)<|some (.inr v4))
def I5(a0:List aK)(a1:List aK)(a2:(Bool×Bool×Unit)->Option Bool):Option (List aK):=
 ck (aE (sub ([a0,a1]:List (List aK)) 0 2).length 2)<|(zo n (sub ([a0,a1]:List (List aK)) 0 2)).bind λr1=>ck (aE 0 ([]:List Int).length)<|(iter (wZ r1) n (0,[])).bind λw1=>ck (aE w1.length w1.length)<|(pY n w1).bind λr3=>ck (aE w1.length r3.length)<|(p8 n r3).bind λr4=>ck (aE 0 ([]:List aK).length)<|(iter (xg n a0 a1 a2 r4) n (1,[])).bind λw2=>ck (aE (sub w2 0 w2.length).length w2.length)<|some (sub w2 0 w2.length)
def rf(a2:(Bool×Bool×Unit)->Option Bool)(r3:List bX)(r4:List bX)(r5:List bX):Stp (Int×(List bX)) (List bX)
 |(v2,v3)=>(bif decide (v2<(r5.length:Nat))then ck (cM v2 r5.length)<|(bj v3 ((0:Nat)+v2:Int)).bind λx1=>(XD n (sub r3 0 r3.length) x1.x0).bind λr6=>(XD n (sub r4 0 r4.length) x1.x0).bind λr7=>(I5 n r6 r7 a2).bind λr8=>ck (cM v2 r5.length)<|ck (aE (sub r8 0 r8.length).length r8.length)<|(bj v3 ((0:Nat)+v2:Int)).bind λx2=>some (.inl ((i64.wrap (v2+1)),(v3.set ((0:Nat)+v2:Int).toNat (bX.mk x2.x0 x2.x1 (sub r8 0 r8.length)))))else some (.inr v3))
def ES(a0:List ax)(a1:List ax)(a2:(Bool×Bool×Unit)->Option Bool):Option ((List ax)×Int):=
 ((oM n a0).bind λr1=>(bif (!r1)then some true else(oM n a1).bind λr2=>some (!r2))).bind λv1=>(bif v1 then some ([],1)else ck (aE (sub ([a0]:List (List ax)) 0 1).length 1)<|(o8 n (sub ([a0]:List (List ax)) 0 1)).bind λr3=>ck (aE (sub ([a1]:List (List ax)) 0 1).length 1)<|(o8 n (sub ([a1]:List (List ax)) 0 1)).bind λr4=>ck (aE (sub r3 0 r3.length).length r3.length)<|ck (aE (sub r4 0 r4.length).length r4.length)<|ck (aE (sub ([a0,a1]:List (List ax)) 0 2).length 2)<|(o8 n (sub ([a0,a1]:List (List ax)) 0 2)).bind λr5=>(iter (rf n a2 r3 r4 r5) n (0,r5)).bind λw1=>ck (aE (sub w1 0 r5.length).length r5.length)<|(IZ n (sub w1 0 r5.length)).bind λr9=>ck (aE (sub r9 0 r9.length).length r9.length)<|(zn (sub r9 0 r9.length)).bind λwx=>some (wx.1,wx.2))
def yx(a0:Bool)(a1:Bool):Option Bool:=
 (bif a0 then some a1 else some false)
def yT(a0:List ax)(a1:List ax):Option ((List ax)×Int):=
 (ES n a0 a1 (λ (y1:Bool×Bool×Unit)=>yx y1.1 y1.2.1)).bind λr1=>some (r1.1,r1.2)
def EU(a0:List ax):Stp (Int×Int) Int
 |(v1,v2)=>(bif decide (v2<a0.length)then(bj a0 v2).bind λx1=>(pG x1).bind λr2=>some (.inl ((i64.wrap (v1+r2)),(i64.wrap (v2+1))))else some (.inr v1))
def Kr(a0:List ax):Option Int:=
 (oM n a0).bind λr1=>(bif (!r1)then some 0 else(iter (EU a0) n (0,0)).bind λw1=>some w1)
def l8(a0:bW)(a1:Int):Option (ax×Bool):=
 (Dq n a0.area).bind λr1=>((bif (!r1.2)then some true else(bif decide (a1<0)then some true else some (decide (a1>20))))).bind λv1=>(bif v1 then some ((ax.mk 0 0 0 0),false)else(I4 r1.1 a1).bind λr2=>(bif (!r2.2)then some ((ax.mk 0 0 0 0),false)else ck (aE (sub ([r2.1]:List ax) 0 1).length 1)<|(yT n a0.area (sub ([r2.1]:List ax) 0 1)).bind λr3=>(bif (r3.2==0)then(Kr n r3.1).bind λr4=>(pG r2.1).bind λr5=>some (r2.1,(r4==r5))else some (r2.1,false))))
def wy:t8 xx SI.lf SI.ff:=⟨(λ x=>x.lot),(λ x=>x.use),(λ x=>x.floors),(λ x=>x.cE),(λ x=>x.a0),(λ x=>x.a1),λ_=>rfl,λ_=>rfl⟩
def ajF(a0:List bg)(a1:List (ng×Int)):Option ((List bg)×(List (ng×Int))):=@nf xx SI.lf SI.ff (inferInstance:Inhabited bg) wy a0 a1
def l9(x1:bW)(v6:Int):Stp (Int×(List bg)) (List bg)
 |(v9,v10)=>(bif decide (v9<72)then ck (6 !=0)<|ck (6 !=0)<|ck (bH v10.length v10.length (sub ([(bg.mk x1.id (Int.tmod v9 6) (i64.wrap ((i64.wrap (Int.tdiv v9 6))+1)) v6)]:List bg) 0 1).length 1 32)<|iM (v10++(sub ([(bg.mk x1.id (Int.tmod v9 6) (i64.wrap ((i64.wrap (Int.tdiv v9 6))+1)) v6)]:List bg) 0 1)) λr3=>ck (aE r3.length r3.length)<|some (.inl ((i64.wrap (v9+1)),r3))else ck (aE v10.length v10.length)<|some (.inr v10))
def mh(x1:bW):Stp (Int×(List (ng×Int))×(List bg)) ((List (ng×Int))×(List bg))
 |(v6,v7,v8)=>(bif decide (v6<21)then((l8 n x1 v6).bind λr1=>(bif (!r1.2)then ck (aE v8.length v8.length)<|some (v7,v8)else(pG r1.1).bind λr2=>ck (aE v8.length v8.length)<|(iter (l9 x1 v6) n (0,v8)).bind λw1=>ck (aE w1.length w1.length)<|some ((oI (Ip (X:=xx) SI.ff) (ng.mk x1.id v6) r2 v7),w1)):Option ((List (ng×Int))×(List bg))).bind λ(v11,v12)=>ck (aE v12.length v12.length)<|some (.inl ((i64.wrap (v6+1)),v11,v12))else ck (aE v8.length v8.length)<|some (.inr (v7,v8)))
def mq(a0:List bW):Stp (Int×(List (ng×Int))×(List (Int×Bool))×(List bg)) ((List (ng×Int))×(List bg))
 |(v1,v2,v3,v4)=>(bif decide (v1<a0.length)then((bj a0 v1).bind λx1=>((bif ((dL ie x1.id v3).getD false)then some true else(bif decide (x1.id<0)then some true else some (decide (x1.id>1073741824))))).bind λv5=>(bif v5 then ck (aE v4.length v4.length)<|some (v2,v3,v4)else ck (aE v4.length v4.length)<|(iter (mh n x1) n (0,v2,v4)).bind λ(w2,w3)=>ck (aE w3.length w3.length)<|some (w2,(oI ie x1.id true v3),w3)):Option ((List (ng×Int))×(List (Int×Bool))×(List bg))).bind λ(v13,v14,v15)=>ck (aE v15.length v15.length)<|some (.inl ((i64.wrap (v1+1)),v13,v14,v15))else ck (aE v4.length v4.length)<|some (.inr (v2,v4)))
def kT(a0:List bW):Option (List bg):=
 ck (aE 0 ([]:List bg).length)<|(iter (mq n a0) n (0,([]:(List (ng×Int))),([]:(List (Int×Bool))),[])).bind λ(w4,w5)=>ck (aE w5.length w5.length)<|(ajF w5 w4).bind λr4=>ck (aE (sub r4.1 0 w5.length).length w5.length)<|some (sub r4.1 0 w5.length)
def mQ(a0:bW)(a1:bg):Option (bf×Bool):=
 (l8 n a0 a1.cE).bind λr1=>((bif (!r1.2)then some true else(bif (a1.lot !=a0.id)then some true else(bif decide (a1.lot<0)then some true else(bif decide (a1.lot>1073741824)then some true else(bif decide (a1.use<0)then some true else(bif decide (a1.use>=6)then some true else(bif decide (a1.floors<1)then some true else some (decide (a1.floors>12)))))))))).bind λv1=>(bif v1 then some ((bf.mk 0 ([])),false)else((bif (a1.use==0)then some (r1.1.x0,r1.1.y0,r1.1.x1,r1.1.y1,0,(i64.wrap (a1.floors*3)),a1.use,a1.floors,false)else some (r1.1.x0,r1.1.y0,r1.1.x1,r1.1.y1,0,(i64.wrap (a1.floors*3)),a1.use,0,false)):Option (Int×Int×Int×Int×Int×Int×Int×Int×Bool)).bind λ(v2,v3,v4,v5,v6,v7,v8,v9,v10)=>ck (aE (sub ([(aF.mk v2 v3 v4 v5 v6 v7 v8 v9 v10)]:List aF) 0 1).length 1)<|ck (aE (sub ([(pF.mk (sub ([(aF.mk v2 v3 v4 v5 v6 v7 v8 v9 v10)]:List aF) 0 1) ([]))]:List pF) 0 1).length 1)<|some ((bf.mk a1.lot (sub ([(pF.mk (sub ([(aF.mk v2 v3 v4 v5 v6 v7 v8 v9 v10)]:List aF) 0 1) ([]))]:List pF) 0 1)),true))
def I6(a0:bW)(a1:bg):Option bf:=
 (mQ n a0 a1).bind λr1=>some r1.1
def BN(a0:List ax):Option (List ax):=
 (bif a0.isEmpty then(both (some []) (ck (bH ([]:List ax).length 0 a0.length a0.length 32)<|iM ([]++a0) λr1=>ck (aE (sub r1 0 r1.length).length r1.length)<|some (sub r1 0 r1.length)))else ck (bH ([]:List ax).length 0 a0.length a0.length 32)<|iM ([]++a0) λr2=>ck (aE (sub r2 0 r2.length).length r2.length)<|some (sub r2 0 r2.length))
def EW(a0:List Int):Option (List Int):=
 (bif a0.isEmpty then(both (some []) (ck (bH ([]:List Int).length 0 a0.length a0.length 8)<|iM ([]++a0) λr1=>ck (aE (sub r1 0 r1.length).length r1.length)<|some (sub r1 0 r1.length)))else ck (bH ([]:List Int).length 0 a0.length a0.length 8)<|iM ([]++a0) λr2=>ck (aE (sub r2 0 r2.length).length r2.length)<|some (sub r2 0 r2.length))
def Ov(a0:bW):Option bW:=
 (BN a0.area).bind λr1=>(EW a0.from_).bind λr2=>ck (aE (sub r1 0 r1.length).length r1.length)<|ck (aE (sub r2 0 r2.length).length r2.length)<|some (bW.mk a0.id a0.owner (sub r1 0 r1.length) (sub r2 0 r2.length))
def EX(a0:List bW)(a1:Int):Stp Int (Unit⊕(bW×Bool))
 |v1=>(bif decide (v1<a0.length)then(bj a0 v1).bind λx1=>(bif (x1.id==a1)then(Ov x1).bind λr1=>(some (r1,true)).map λa=>.inr (.inr a)else some (.inl (i64.wrap (v1+1))))else some (.inr (.inl ())))
def Ow(a0:List bW)(a1:Int):Option (bW×Bool):=
 dn (iter (EX a0 a1) n 0) λ()=>some ((bW.mk 0 0 ([]) ([])),false)
def oh(a0:bf)(a1:Int)(a2:Int):Stp (Int×(List aF)) (List aF)
 |(v1,v2)=>(bif decide (v1<a0.phases.length)then((bj a0.phases v1).bind λx1=>((bif decide (v1>=a1)then some (decide (v1<a2))else some false)).bind λv3=>(bif v3 then ck (bH v2.length v2.length x1.cP.length x1.cP.length 72)<|iM (v2++x1.cP) λr1=>ck (aE r1.length r1.length)<|some r1 else ck (aE v2.length v2.length)<|some v2):Option ((List aF))).bind λv4=>ck (aE v4.length v4.length)<|some (.inl ((i64.wrap (v1+1)),v4))else ck (aE v2.length v2.length)<|some (.inr v2))
def oN(a0:bf)(a1:Int)(a2:Int):Option (List aF):=
 ck (aE 0 ([]:List aF).length)<|(iter (oh a0 a1 a2) n (0,[])).bind λw1=>ck (aE (sub w1 0 w1.length).length w1.length)<|some (sub w1 0 w1.length)
def sW(a0:bf):Option (List aF):=
 (oN n a0 0 a0.phases.length).bind λr1=>ck (aE (sub r1 0 r1.length).length r1.length)<|some (sub r1 0 r1.length)
def gJ(a0:aF):Option Bool:=
 ((nZ (ax.mk a0.bu a0.cw a0.br a0.ct)).bind λr1=>(bif (!r1)then some true else(bif decide (a0.fg<0)then some true else(bif decide (a0.fg>=a0.ek)then some true else some (decide (a0.ek>4096)))))).bind λv1=>(bif v1 then some false else((bif (a0.use !=0)then some (a0.units !=0)else some false)).bind λv2=>(bif v2 then some false else(bif decide (a0.use>=0)then(bif decide (a0.use<6)then(bif decide (a0.units>=0)then some (decide (a0.units<=1048576))else some false)else some false)else some false)))
def yA(a0:FF)(a1:FF):Option Bool:=
 (sU (ax.mk a0.pj a0.pf a0.pg a0.pd) (ax.mk a1.pj a1.pf a1.pg a1.pd)).bind λr1=>(bif r1.2 then(bif decide (a0.z0<a1.z1)then some (decide (a1.z0<a0.z1))else some false)else some false)
def oO(a0:aF)(a1:aF):Option Bool:=
 (yA (FF.mk a1.bu a1.cw a1.br a1.ct a1.fg a1.ek) (FF.mk a0.bu a0.cw a0.br a0.ct a0.fg a0.ek)).bind λr1=>some r1
def EY(a0:List aF)(a1:(aF×Unit)->Option Bool):Stp Int (Unit⊕Int)
 |v1=>(bif decide (v1<a0.length)then(bj a0 v1).bind λx1=>(a1 (x1,())).bind λr1=>(bif r1 then(some v1).map λa=>.inr (.inr a)else some (.inl (i64.wrap (v1+1))))else some (.inr (.inl ())))
def qO(a0:List aF)(a1:(aF×Unit)->Option Bool):Option Int:=
 dn (iter (EY a0 a1) n 0) λ()=>some (-1)
def gG(a0:List aF)(a1:(aF×Unit)->Option Bool):Option Bool:=
 (qO n a0 a1).bind λr1=>some (decide (r1>=0))
def EZ(a0:Int):Option Bool:=
 (bif decide (a0>=97)then some (decide (a0<=122))else some false)
def AL(a0:ByteArray)(a1:(Int×Unit)->Option Bool):Stp Int Int
 |v1=>((bif decide (v1<a0.size)then(Si a0 v1).bind λx1=>(a1 (x1,())).bind λr1=>some r1 else some false)).bind λv2=>(bif v2 then some (.inl (i64.wrap (v1+1)))else some (.inr v1))
def Ox(a0:ByteArray)(a1:(Int×Unit)->Option Bool):Option Int:=
 (iter (AL a0 a1) n 0).bind λw1=>some w1
def QE(a0:Int):Option Bool:=
 (bif decide (a0>=48)then some (decide (a0<=57))else some false)
def AO(a0:Int):Option Bool:=
 (EZ a0).bind λr1=>(bif r1 then some true else(QE a0).bind λr2=>some r2)
def Oy(a0:ByteArray):Option Bool:=
 ((bif (ByteArray.toList a0==ByteArray.toList (⟨#[]⟩))then some true else(Si a0 0).bind λx1=>(EZ x1).bind λr1=>(bif (!r1)then some true else some (decide ((a0.size:Int)>20))))).bind λv1=>(bif v1 then some false else(Ox n a0 (λ (y1:Int×Unit)=>AO y1.1)).bind λr2=>some (r2==a0.size))
def strings_Contains(a0 a1:ByteArray):Option Bool:=ck (Nat.ble a0.size 4000000)<|some (Lib.contains a0.data.toList a1.data.toList)
def xh(a0:ByteArray):Option Bool:=
 (Oy n a0).bind λr1=>(bif r1 then ck (Wh (⟨#[32]⟩) a0)<|ck (Wh ((⟨#[32]⟩)++a0) (⟨#[32]⟩))<|(strings_Contains (⟨#[32,97,110,100,32,97,112,97,114,116,32,98,97,115,101,32,99,97,112,32,100,101,102,105,110,101,32,101,108,115,101,32,101,120,99,101,112,116,32,102,114,111,109,32,103,114,97,99,101,32,104,111,117,114,115,32,105,102,32,105,110,32,108,101,97,115,116,32,110,111,116,32,111,114,32,111,118,101,114,108,97,121,32,112,108,97,110,101,32,114,117,108,101,32,115,108,111,112,101,32,115,117,110,32,116,97,98,108,101,32,116,104,101,110,32,117,110,116,105,108,32,117,115,101,115,32,118,97,114,121,32,118,105,101,119,32,122,111,110,101,32]⟩) (((⟨#[32]⟩)++a0)++(⟨#[32]⟩))).bind λr2=>some (!r2)else some false)
def gm(r1:List aF):Stp Int (Unit⊕Bool)
 |v2=>(bif decide (v2<(r1.length:Nat))then ck (cM v2 r1.length)<|(bj r1 ((0:Nat)+v2:Int)).bind λx1=>((gJ x1).bind λr2=>(bif (!r2)then some true else ck (tT 0 v2 r1.length)<|ck (aE (sub r1 0 (v2.toNat)).length (v2.toNat))<|(gG n (sub r1 0 (v2.toNat)) (λ (y1:aF×Unit)=>oO y1.1 x1)).bind λr3=>some r3)).bind λv3=>(bif v3 then(some false).map λa=>.inr (.inr a)else some (.inl (i64.wrap (v2+1))))else some (.inr (.inl ())))
def jR(x2:pF):Stp (Int×(List (ByteArray×Bool))) (Unit⊕(Int⊕(Unit⊕Bool)))
 |(v5,v6)=>(bif decide (v5<x2.gives.length)then(bj x2.gives v5).bind λx3=>((bif ((dL gR x3.name v6).getD false)then some true else(xh n x3.name).bind λr4=>(bif (!r4)then some true else(bif decide (x3.n<0)then some true else some (decide (x3.n>1073741824)))))).bind λv7=>(bif v7 then((some false).map λa=>.inr (.inr a)).map λa=>.inr (.inr a)else some (.inl ((i64.wrap (v5+1)),(oI gR x3.name true v6))))else some (.inr (.inl ())))
def gq(a0:bf):Stp Int (Unit⊕Bool)
 |v4=>(bif decide (v4<a0.phases.length)then(bj a0.phases v4).bind λx2=>dn (iter (jR n x2) n (0,([]:(List (ByteArray×Bool))))) λ()=>(bif decide ((x2.gives.length:Int)>30)then(some false).map λa=>.inr (.inr a)else some (.inl (i64.wrap (v4+1))))else some (.inr (.inl ())))
def qC(a0:bf):Option Bool:=
 (sW n a0).bind λr1=>((bif decide (a0.lot<0)then some true else(bif decide (a0.lot>1073741824)then some true else(bif decide ((a0.phases.length:Int)<1)then some true else(bif decide ((a0.phases.length:Int)>8)then some true else(bif decide ((r1.length:Int)<1)then some true else some (decide ((r1.length:Int)>40)))))))).bind λv1=>(bif v1 then some false else dn (iter (gm n r1) n 0) λ()=>dn (iter (gq n a0) n 0) λ()=>some true)
def vN(a0:jP)(a1:bS):Option Bool:=
 some (ByteArray.toList a0.name==ByteArray.toList a1.name)
def KL(a0:List jP)(a1:(jP×Unit)->Option Bool):Stp Int (Unit⊕Int)
 |v1=>(bif decide (v1<a0.length)then(bj a0 v1).bind λx1=>(a1 (x1,())).bind λr1=>(bif r1 then(some v1).map λa=>.inr (.inr a)else some (.inl (i64.wrap (v1+1))))else some (.inr (.inl ())))
def vO(a0:List jP)(a1:(jP×Unit)->Option Bool):Option Int:=
 dn (iter (KL a0 a1) n 0) λ()=>some (-1)
def nk(a0:List jP)(a1:(jP×Unit)->Option Bool):Option Bool:=
 (vO n a0 a1).bind λr1=>some (decide (r1>=0))
def fK(a1:bW)(r3:List aF):Stp Int (Unit⊕Bool)
 |v2=>(bif decide (v2<(r3.length:Nat))then ck (cM v2 r3.length)<|(bj r3 ((0:Nat)+v2:Int)).bind λx1=>ck (aE (sub ([(ax.mk x1.bu x1.cw x1.br x1.ct)]:List ax) 0 1).length 1)<|(yT n a1.area (sub ([(ax.mk x1.bu x1.cw x1.br x1.ct)]:List ax) 0 1)).bind λr4=>((bif (r4.2 !=0)then some true else(Kr n r4.1).bind λr5=>(pG (ax.mk x1.bu x1.cw x1.br x1.ct)).bind λr6=>some (decide (r5<r6)))).bind λv3=>(bif v3 then(some false).map λa=>.inr (.inr a)else some (.inl (i64.wrap (v2+1))))else some (.inr (.inl ())))
def jw(a0:bn)(x2:pF):Stp Int (Unit⊕(Int⊕(Unit⊕Bool)))
 |v5=>(bif decide (v5<x2.gives.length)then(bj x2.gives v5).bind λx3=>(nk n a0.caps (λ (y1:jP×Unit)=>vN y1.1 x3)).bind λr7=>(bif (!r7)then((some false).map λa=>.inr (.inr a)).map λa=>.inr (.inr a)else some (.inl (i64.wrap (v5+1))))else some (.inr (.inl ())))
def fM(a0:bn)(a2:bf):Stp Int (Unit⊕Bool)
 |v4=>(bif decide (v4<a2.phases.length)then(bj a2.phases v4).bind λx2=>dn (iter (jw n a0 x2) n 0) λ()=>some (.inl (i64.wrap (v4+1)))else some (.inr (.inl ())))
def kK(a0:bn)(a1:bW)(a2:bf):Option Bool:=
 ((qC n a2).bind λr1=>(bif (!r1)then some true else(bif (a1.id !=a2.lot)then some true else(oM n a1.area).bind λr2=>some (!r2)))).bind λv1=>(bif v1 then some false else(sW n a2).bind λr3=>dn (iter (fK n a1 r3) n 0) λ()=>dn (iter (fM n a0 a2) n 0) λ()=>some true)
def pM(a0:bf):Stp (Int×(List aF)) (List aF)
 |(v1,v2)=>(bif decide (v1<a0.phases.length)then(bj a0.phases v1).bind λx1=>ck (bH v2.length v2.length x1.cP.length x1.cP.length 72)<|iM (v2++x1.cP) λr1=>ck (aE r1.length r1.length)<|some (.inl ((i64.wrap (v1+1)),r1))else ck (aE v2.length v2.length)<|some (.inr v2))
def uF(a0:bf):Option (List aF):=
 ck (aE 0 ([]:List aF).length)<|(iter (pM a0) n (0,[])).bind λw1=>ck (aE (sub w1 0 w1.length).length w1.length)<|some (sub w1 0 w1.length)
def AP(a0:bR)(a1:bf):Option (mK×Int):=
 (Ow n a0.land a1.lot).bind λr1=>(bif (!r1.2)then some ((mK.mk ([]) ([]) ([]) ([]) ([]) ([]) ([]) 0 ([]) ([]) ([]) ([]) ([]) 0 0 ([]) ([]) 0 ([]) ([]) ([])),4)else(kK n (bn.mk a0.cj a0.bp a0.aw a0.az a0.cm a0.b8 a0.cD a0.b9) r1.1 a1).bind λr2=>(bif (!r2)then some ((mK.mk ([]) ([]) ([]) ([]) ([]) ([]) ([]) 0 ([]) ([]) ([]) ([]) ([]) 0 0 ([]) ([]) 0 ([]) ([]) ([])),1)else(uF n a1).bind λr3=>(pq n (bn.mk a0.cj a0.bp a0.aw a0.az a0.cm a0.b8 a0.cD a0.b9) r1.1.area).bind λr4=>ck (aE (sub r3 0 r3.length).length r3.length)<|ck (aE (sub r4 0 r4.length).length r4.length)<|some ((mK.mk a0.cj a0.bp a0.aw a0.az a0.cm a0.b8 a0.cD a0.b9 a0.land a0.cC a0.windows a0.built a0.base r1.1.id r1.1.owner r1.1.area r1.1.from_ a1.lot a1.phases (sub r3 0 r3.length) (sub r4 0 r4.length)),0)))
def vP(_:Nat)(a0:List ax)(a1:(ax×ax×Unit)->Option Int):Option (List ax):=HO a0 a1
def jh(a0:ax)(a1:ax):Option Int:=
 (cmp_Compare_int a0.y0 a1.y0).bind λr1=>some r1
def lJ(a0:aF):Option Int:=
 ((bif a0.extra then some true else(gJ a0).bind λr1=>some (!r1))).bind λv1=>(bif v1 then some 0 else ck (3 !=0)<|some (i64.wrap (Int.tdiv (i64.wrap ((i64.wrap ((i64.wrap (a0.ek-a0.fg))+3))-1)) 3)))
def pu(a0:aF):Option Int:=
 (gJ a0).bind λr1=>(bif (!r1)then some 0 else(pG (ax.mk a0.bu a0.cw a0.br a0.ct)).bind λr2=>(lJ a0).bind λr3=>some (i64.wrap (r2*r3)))
def om(a0:aF):Option Int:=
 some a0.ek
def pI(a0:aF):Option Int:=
 some a0.units
def BP(a0:ax)(a1:Int):Option (ax×Bool):=
 (nZ (ax.mk (i64.wrap (a0.x0-a1)) (i64.wrap (a0.y0-a1)) (i64.wrap (a0.x1+a1)) (i64.wrap (a0.y1+a1)))).bind λr1=>some ((ax.mk (i64.wrap (a0.x0-a1)) (i64.wrap (a0.y0-a1)) (i64.wrap (a0.x1+a1)) (i64.wrap (a0.y1+a1))),r1)
def kU(a0:bS)(a1:Ko)(a2:Int):Option Bool:=
 ck (cM a2 6)<|(bj ([a1.a0,a1.a1,a1.a2,a1.a3,a1.a4,a1.a5]:List ByteArray) a2).bind λx1=>some (ByteArray.toList a0.name==ByteArray.toList x1)
def Gj(a0:List bS)(a1:(bS×Unit)->Option Bool):Stp Int (Unit⊕Int)
 |v1=>(bif decide (v1<a0.length)then(bj a0 v1).bind λx1=>(a1 (x1,())).bind λr1=>(bif r1 then(some v1).map λa=>.inr (.inr a)else some (.inl (i64.wrap (v1+1))))else some (.inr (.inl ())))
def kV(a0:List bS)(a1:(bS×Unit)->Option Bool):Option Int:=
 dn (iter (Gj a0 a1) n 0) λ()=>some (-1)
def kW(a0:bn)(a1:Int):Stp Int (Unit⊕Int)
 |v1=>(bif decide (v1<a0.tables.length)then(bj a0.tables v1).bind λx1=>(bif (!(ByteArray.toList x1.name==ByteArray.toList (⟨#[116,114,97,102,102,105,99]⟩)))then some (.inl (i64.wrap (v1+1)))else((kV n x1.rows (λ (y1:bS×Unit)=>kU y1.1 (Ko.mk (⟨#[104,111,109,101]⟩) (⟨#[115,104,111,112]⟩) (⟨#[119,111,114,107]⟩) (⟨#[112,97,114,107]⟩) (⟨#[112,108,97,110,116]⟩) (⟨#[104,97,108,108]⟩)) a1)).bind λr1=>(bif decide (r1>=0)then(bj x1.rows r1).bind λx2=>some x2.n else some x1.sL):Option Int).bind λv2=>(some (max 0 (min v2 1048576))).map λa=>.inr (.inr a))else some (.inr (.inl ())))
def AQ(a0:bn)(a1:Int):Option Int:=
 dn (iter (kW n a0 a1) n 0) λ()=>some 0
def jS(a0:bn)(a1:aF):Option Int:=
 (AQ n a0 a1.use).bind λr1=>(pu a1).bind λr2=>((bif decide (r1>0)then ck (r1 !=0)<|some (decide (r2>(i64.wrap (Int.tdiv 109951162777600 r1))))else some false)).bind λv1=>(bif v1 then some 1099511627776 else ck (100 !=0)<|some (i64.wrap (Int.tdiv (i64.wrap ((i64.wrap ((i64.wrap (r1*r2))+100))-1)) 100)))
def nu(a0:List fB)(a1:List dJ)(a2:List eX)(a3:List cK)(a4:List jP)(a5:List iP)(a6:List dN)(a7:Int)(a8:List ax)(a9:List aF):Option (Int×iJ):=
 (Kr n a8).bind λr1=>ck (aE a9.length a9.length)<|some (r1,a0,a1,a2,a3,a4,a5,a6,a7,a8,a9)
def gU(a9:List aF):Stp (Int×(List ax)×(List Int)) ((List ax)×(List Int))
 |(v1,v2,v3)=>(bif decide (v1<(a9.length:Nat))then ck (cM v1 a9.length)<|(bj a9 ((0:Nat)+v1:Int)).bind λx1=>ck (cM v1 ((a9.length:Int).toNat))<|(bj v2 ((0:Nat)+v1:Int)).bind λx2=>ck (cM v1 ((a9.length:Int).toNat))<|(bj (v2.set ((0:Nat)+v1:Int).toNat (ax.mk x1.bu x1.cw x1.br x1.ct)) ((0:Nat)+v1:Int)).bind λx3=>ck (cM v1 ((a9.length:Int).toNat))<|(bj (v2.set ((0:Nat)+v1:Int).toNat (ax.mk x1.bu x1.cw x1.br x1.ct)) ((0:Nat)+v1:Int)).bind λx4=>ck (bH v3.length v3.length (sub ([x3.x0,x4.x1]:List Int) 0 2).length 2 8)<|iM (v3++(sub ([x3.x0,x4.x1]:List Int) 0 2)) λr1=>ck (aE r1.length r1.length)<|some (.inl ((i64.wrap (v1+1)),(v2.set ((0:Nat)+v1:Int).toNat (ax.mk x1.bu x1.cw x1.br x1.ct)),r1))else ck (aE v3.length v3.length)<|some (.inr (v2,v3)))
def gV(a9:List aF)(w2:List Int)(r2:List ax)(r3:List Int)(v5:Int):Stp (Int×Int×Int) Int
 |(v6,v7,v8)=>(bif decide (v8<(((a9.length:Int).toNat:Nat):Int))then(ck (cM v8 ((a9.length:Int).toNat))<|(bj r2 ((0:Nat)+v8:Int)).bind λx5=>(ck (cM v5 w2.length)<|(bj r3 ((0:Nat)+v5:Int)).bind λx6=>(bif decide (x5.x0<=x6)then ck (cM v5 w2.length)<|(bj r3 ((0:Nat)+v5:Int)).bind λx7=>(bif decide (x7<x5.x1)then some (decide (x5.y1>v7))else some false)else some false)).bind λv9=>(bif v9 then ck (cM (i64.wrap (v5+1)) w2.length)<|(bj r3 ((0:Nat)+(i64.wrap (v5+1)):Int)).bind λx8=>ck (cM v5 w2.length)<|(bj r3 ((0:Nat)+v5:Int)).bind λx9=>some ((i64.wrap (v6+(i64.wrap ((i64.wrap (x8-x9))*(i64.wrap (x5.y1-(max v7 x5.y0))))))),x5.y1)else some (v6,v7)):Option (Int×Int)).bind λ(v10,v11)=>some (.inl (v10,v11,(i64.wrap (v8+1))))else some (.inr v6))
def gW(a9:List aF)(w2:List Int)(r2:List ax)(r3:List Int):Stp (Int×Int) Int
 |(v4,v5)=>(bif (decide (v5<((max 0 (i64.wrap ((w2.length:Nat)-1))):Int)))then(iter (gV a9 w2 r2 r3 v5) n (v4,0,0)).bind λw3=>some (.inl (w3,(i64.wrap (v5+1))))else some (.inr v4))
def ji(a0:List fB)(a1:List dJ)(a2:List eX)(a3:List cK)(a4:List jP)(a5:List iP)(a6:List dN)(a7:Int)(a8:List ax)(a9:List aF):Option (Int×iJ):=
 ck (decide ((a9.length:Int)<=(a9.length:Nat))&&(decide (0<=(a9.length:Int))&&xE (a9.length:Nat) 32))<|ck (aE 0 ([]:List Int).length)<|(iter (gU a9) n (0,(List.replicate (a9.length:Int).toNat (ax.mk 0 0 0 0)),[])).bind λ(w1,w2)=>ck (aE ((a9.length:Int).toNat) w1.length)<|(vP n w1 (λ (y1:ax×ax×Unit)=>jh y1.1 y1.2.1)).bind λr2=>ck (aE w2.length w2.length)<|(pY n w2).bind λr3=>(iter (gW n a9 w2 r2 r3) n (0,0)).bind λw4=>ck (aE a9.length a9.length)<|some (w4,a0,a1,a2,a3,a4,a5,a6,a7,a8,a9)
def j4(a9:List aF):Stp (Int×Int) Int
 |(v1,v2)=>(bif decide (v2<(a9.length:Nat))then ck (cM v2 a9.length)<|(bj a9 ((0:Nat)+v2:Int)).bind λx1=>(pu x1).bind λr1=>some (.inl ((i64.wrap (v1+r1)),(i64.wrap (v2+1))))else some (.inr v1))
def qP(a0:List fB)(a1:List dJ)(a2:List eX)(a3:List cK)(a4:List jP)(a5:List iP)(a6:List dN)(a7:Int)(a8:List ax)(a9:List aF):Option (Int×iJ):=
 (iter (j4 a9) n (0,0)).bind λw1=>ck (aE a9.length a9.length)<|some (w1,a0,a1,a2,a3,a4,a5,a6,a7,a8,a9)
def kZ(a0:List fB)(a1:List dJ)(a2:List eX)(a3:List cK)(a4:List jP)(a5:List iP)(a6:List dN)(a7:Int)(a8:List ax)(a9:List aF):Option (Int×iJ):=
 ck (aE a9.length a9.length)<|(qP n a0 a1 a2 a3 a4 a5 a6 a7 a8 a9).bind λr1=>ck (aE r1.2.2.2.2.2.2.2.2.2.2.length r1.2.2.2.2.2.2.2.2.2.2.length)<|some (r1.1,r1.2.1,r1.2.2.1,r1.2.2.2.1,r1.2.2.2.2.1,r1.2.2.2.2.2.1,r1.2.2.2.2.2.2.1,r1.2.2.2.2.2.2.2.1,r1.2.2.2.2.2.2.2.2.1,r1.2.2.2.2.2.2.2.2.2.1,r1.2.2.2.2.2.2.2.2.2.2)
def iK(a9:List aF):Stp (Int×Int) Int
 |(v1,v2)=>(bif decide (v2<(a9.length:Nat))then ck (cM v2 a9.length)<|(bj a9 ((0:Nat)+v2:Int)).bind λx1=>(lJ x1).bind λr1=>some (.inl ((max v1 r1),(i64.wrap (v2+1))))else some (.inr v1))
def mR(a0:List fB)(a1:List dJ)(a2:List eX)(a3:List cK)(a4:List jP)(a5:List iP)(a6:List dN)(a7:Int)(a8:List ax)(a9:List aF):Option (Int×iJ):=
 (iter (iK a9) n (0,0)).bind λw1=>ck (aE a9.length a9.length)<|some (w1,a0,a1,a2,a3,a4,a5,a6,a7,a8,a9)
def j5(a0:List fB)(a1:List dJ)(a2:List eX)(a3:List cK)(a4:List jP)(a5:List iP)(a6:List dN)(a7:Int)(a8:List ax)(a9:List aF):Option (Int×iJ):=
 ck (aE a9.length a9.length)<|(mR n a0 a1 a2 a3 a4 a5 a6 a7 a8 a9).bind λr1=>ck (aE r1.2.2.2.2.2.2.2.2.2.2.length r1.2.2.2.2.2.2.2.2.2.2.length)<|some (r1.1,r1.2.1,r1.2.2.1,r1.2.2.2.1,r1.2.2.2.2.1,r1.2.2.2.2.2.1,r1.2.2.2.2.2.2.1,r1.2.2.2.2.2.2.2.1,r1.2.2.2.2.2.2.2.2.1,r1.2.2.2.2.2.2.2.2.2.1,r1.2.2.2.2.2.2.2.2.2.2)
def iL(a9:List aF):Stp (Int×Int) Int
 |(v1,v2)=>(bif decide (v2<(a9.length:Nat))then ck (cM v2 a9.length)<|(bj a9 ((0:Nat)+v2:Int)).bind λx1=>(om x1).bind λr1=>some (.inl ((max v1 r1),(i64.wrap (v2+1))))else some (.inr v1))
def mU(a0:List fB)(a1:List dJ)(a2:List eX)(a3:List cK)(a4:List jP)(a5:List iP)(a6:List dN)(a7:Int)(a8:List ax)(a9:List aF):Option (Int×iJ):=
 (iter (iL a9) n (0,0)).bind λw1=>ck (aE a9.length a9.length)<|some (w1,a0,a1,a2,a3,a4,a5,a6,a7,a8,a9)
def j6(a0:List fB)(a1:List dJ)(a2:List eX)(a3:List cK)(a4:List jP)(a5:List iP)(a6:List dN)(a7:Int)(a8:List ax)(a9:List aF):Option (Int×iJ):=
 ck (aE a9.length a9.length)<|(mU n a0 a1 a2 a3 a4 a5 a6 a7 a8 a9).bind λr1=>ck (aE r1.2.2.2.2.2.2.2.2.2.2.length r1.2.2.2.2.2.2.2.2.2.2.length)<|some (r1.1,r1.2.1,r1.2.2.1,r1.2.2.2.1,r1.2.2.2.2.1,r1.2.2.2.2.2.1,r1.2.2.2.2.2.2.1,r1.2.2.2.2.2.2.2.1,r1.2.2.2.2.2.2.2.2.1,r1.2.2.2.2.2.2.2.2.2.1,r1.2.2.2.2.2.2.2.2.2.2)
def kg(a9:List aF):Stp (Int×Int) Int
 |(v1,v2)=>(bif decide (v2<(a9.length:Nat))then ck (cM v2 a9.length)<|(bj a9 ((0:Nat)+v2:Int)).bind λx1=>(pI x1).bind λr1=>some (.inl ((i64.wrap (v1+r1)),(i64.wrap (v2+1))))else some (.inr v1))
def qQ(a0:List fB)(a1:List dJ)(a2:List eX)(a3:List cK)(a4:List jP)(a5:List iP)(a6:List dN)(a7:Int)(a8:List ax)(a9:List aF):Option (Int×iJ):=
 (iter (kg a9) n (0,0)).bind λw1=>ck (aE a9.length a9.length)<|some (w1,a0,a1,a2,a3,a4,a5,a6,a7,a8,a9)
def lg(a0:List fB)(a1:List dJ)(a2:List eX)(a3:List cK)(a4:List jP)(a5:List iP)(a6:List dN)(a7:Int)(a8:List ax)(a9:List aF):Option (Int×iJ):=
 ck (aE a9.length a9.length)<|(qQ n a0 a1 a2 a3 a4 a5 a6 a7 a8 a9).bind λr1=>ck (aE r1.2.2.2.2.2.2.2.2.2.2.length r1.2.2.2.2.2.2.2.2.2.2.length)<|some (r1.1,r1.2.1,r1.2.2.1,r1.2.2.2.1,r1.2.2.2.2.1,r1.2.2.2.2.2.1,r1.2.2.2.2.2.2.1,r1.2.2.2.2.2.2.2.1,r1.2.2.2.2.2.2.2.2.1,r1.2.2.2.2.2.2.2.2.2.1,r1.2.2.2.2.2.2.2.2.2.2)
def jc(k9:List ax)(r1:ax×Bool):Stp (Int×Int) Int
 |(v1,v2)=>(bif decide (v2<k9.length)then((bj k9 v2).bind λx1=>(sU r1.1 x1).bind λr2=>(bif r2.2 then(pG r2.1).bind λr3=>some (i64.wrap (v1+r3))else some v1):Option Int).bind λv3=>some (.inl (v3,(i64.wrap (v2+1))))else some (.inr v1))
def ko(a0:ax)(a1:Int)(a2:List fB)(a3:List dJ)(a4:List eX)(a5:List cK)(a6:List jP)(a7:List iP)(a8:List dN)(a9:Int)(k9:List ax)(tA:List aF):Option (Bool×iJ):=
 (BP a0 a1).bind λr1=>(bif (!r1.2)then ck (aE tA.length tA.length)<|some (false,a2,a3,a4,a5,a6,a7,a8,a9,k9,tA)else(iter (jc k9 r1) n (0,0)).bind λw1=>(pG r1.1).bind λr4=>ck (aE tA.length tA.length)<|some ((w1==r4),a2,a3,a4,a5,a6,a7,a8,a9,k9,tA))
def fu(x1:aF):Stp (Int×Int×iJ) (Int×iJ)
 |(v13,v14,v15,v16,v17,v18,v19,v20,v21,v22,v23,v24)=>(bif decide (v13<v14)then ck (2 !=0)<|ck (aE v24.length v24.length)<|(ko n (ax.mk x1.bu x1.cw x1.br x1.ct) (i64.wrap (Int.tdiv (i64.wrap ((i64.wrap (v13+v14))+1)) 2)) v15 v16 v17 v18 v19 v20 v21 v22 v23 v24).bind λr1=>(bif r1.1 then ck (aE r1.2.2.2.2.2.2.2.2.2.2.length r1.2.2.2.2.2.2.2.2.2.2.length)<|some (.inl ((i64.wrap (Int.tdiv (i64.wrap ((i64.wrap (v13+v14))+1)) 2)),v14,r1.2.1,r1.2.2.1,r1.2.2.2.1,r1.2.2.2.2.1,r1.2.2.2.2.2.1,r1.2.2.2.2.2.2.1,r1.2.2.2.2.2.2.2.1,r1.2.2.2.2.2.2.2.2.1,r1.2.2.2.2.2.2.2.2.2.1,r1.2.2.2.2.2.2.2.2.2.2))else ck (aE r1.2.2.2.2.2.2.2.2.2.2.length r1.2.2.2.2.2.2.2.2.2.2.length)<|some (.inl (v13,(i64.wrap ((i64.wrap (Int.tdiv (i64.wrap ((i64.wrap (v13+v14))+1)) 2))-1)),r1.2.1,r1.2.2.1,r1.2.2.2.1,r1.2.2.2.2.1,r1.2.2.2.2.2.1,r1.2.2.2.2.2.2.1,r1.2.2.2.2.2.2.2.1,r1.2.2.2.2.2.2.2.2.1,r1.2.2.2.2.2.2.2.2.2.1,r1.2.2.2.2.2.2.2.2.2.2)))else ck (aE v24.length v24.length)<|some (.inr (v13,v15,v16,v17,v18,v19,v20,v21,v22,v23,v24)))
def iT(a9:List aF):Stp (Int×Int×iJ) (Int×iJ)
 |(v1,v2,v3,v4,v5,v6,v7,v8,v9,v10,v11,v12)=>(bif decide (v2<(a9.length:Nat))then ck (cM v2 a9.length)<|(bj v12 ((0:Nat)+v2:Int)).bind λx1=>ck (aE v12.length v12.length)<|(iter (fu n x1) n (0,v1,v3,v4,v5,v6,v7,v8,v9,v10,v11,v12)).bind λ(w1,w2,w3,w4,w5,w6,w7,w8,w9,BC,By)=>ck (aE By.length By.length)<|some (.inl (w1,(i64.wrap (v2+1)),w2,w3,w4,w5,w6,w7,w8,w9,BC,By))else ck (aE v12.length v12.length)<|some (.inr (v1,v3,v4,v5,v6,v7,v8,v9,v10,v11,v12)))
def jL(a0:List fB)(a1:List dJ)(a2:List eX)(a3:List cK)(a4:List jP)(a5:List iP)(a6:List dN)(a7:Int)(a8:List ax)(a9:List aF):Option (Int×iJ):=
 ck (aE a9.length a9.length)<|(iter (iT n a9) n (1048576,0,a0,a1,a2,a3,a4,a5,a6,a7,a8,a9)).bind λ(w12,w13,w14,w15,w16,w17,w18,w19,w20,w21,Tr)=>ck (aE Tr.length Tr.length)<|some (w12,w13,w14,w15,w16,w17,w18,w19,w20,w21,Tr)
def kX(a0:aF)(a1:List fB)(a2:List dJ)(a3:List eX)(a4:List cK)(a5:List jP)(a6:List iP)(a7:List dN)(a8:Int)(a9:List ax)(k9:List aF):Option (Int×iJ):=
 (jS n (bn.mk a1 a2 a3 a4 a5 a6 a7 a8) a0).bind λr1=>ck (aE k9.length k9.length)<|some (r1,a1,a2,a3,a4,a5,a6,a7,a8,a9,k9)
def kr(a9:List aF):Stp (Int×Int×iJ) (Int×iJ)
 |(v1,v2,v3,v4,v5,v6,v7,v8,v9,v10,v11,v12)=>(bif decide (v2<(a9.length:Nat))then ck (cM v2 a9.length)<|(bj v12 ((0:Nat)+v2:Int)).bind λx1=>ck (aE v12.length v12.length)<|(kX n x1 v3 v4 v5 v6 v7 v8 v9 v10 v11 v12).bind λr1=>ck (aE r1.2.2.2.2.2.2.2.2.2.2.length r1.2.2.2.2.2.2.2.2.2.2.length)<|some (.inl ((i64.wrap (v1+r1.1)),(i64.wrap (v2+1)),r1.2.1,r1.2.2.1,r1.2.2.2.1,r1.2.2.2.2.1,r1.2.2.2.2.2.1,r1.2.2.2.2.2.2.1,r1.2.2.2.2.2.2.2.1,r1.2.2.2.2.2.2.2.2.1,r1.2.2.2.2.2.2.2.2.2.1,r1.2.2.2.2.2.2.2.2.2.2))else ck (aE v12.length v12.length)<|some (.inr (v1,v3,v4,v5,v6,v7,v8,v9,v10,v11,v12)))
def qR(a0:List fB)(a1:List dJ)(a2:List eX)(a3:List cK)(a4:List jP)(a5:List iP)(a6:List dN)(a7:Int)(a8:List ax)(a9:List aF):Option (Int×iJ):=
 ck (aE a9.length a9.length)<|(iter (kr n a9) n (0,0,a0,a1,a2,a3,a4,a5,a6,a7,a8,a9)).bind λ(w1,w2,w3,w4,w5,w6,w7,w8,w9,BC,By)=>ck (aE By.length By.length)<|some (w1,w2,w3,w4,w5,w6,w7,w8,w9,BC,By)
def jM(a0:List fB)(a1:List dJ)(a2:List eX)(a3:List cK)(a4:List jP)(a5:List iP)(a6:List dN)(a7:Int)(a8:List ax)(a9:List aF):Option (Int×iJ):=
 ck (aE a9.length a9.length)<|(qR n a0 a1 a2 a3 a4 a5 a6 a7 a8 a9).bind λr1=>ck (aE r1.2.2.2.2.2.2.2.2.2.2.length r1.2.2.2.2.2.2.2.2.2.2.length)<|some (r1.1,r1.2.1,r1.2.2.1,r1.2.2.2.1,r1.2.2.2.2.1,r1.2.2.2.2.2.1,r1.2.2.2.2.2.2.1,r1.2.2.2.2.2.2.2.1,r1.2.2.2.2.2.2.2.2.1,r1.2.2.2.2.2.2.2.2.2.1,r1.2.2.2.2.2.2.2.2.2.2)
def rq(r2:List aF):Stp (Int×iJ) (iJ)
 |(v10,v11,v12,v13,v14,v15,v16,v17,v18,v19,v20)=>(bif decide (v10<(r2.length:Nat))then(ck (cM v10 r2.length)<|(bj r2 ((0:Nat)+v10:Int)).bind λx1=>((bif decide (v10<40)then(gJ x1).bind λr3=>some r3 else some false)).bind λv21=>(bif v21 then ck (bH v20.length v20.length (sub ([x1]:List aF) 0 1).length 1 72)<|iM (v20++(sub ([x1]:List aF) 0 1)) λr4=>ck (aE r4.length r4.length)<|some (v11,v12,v13,v14,v15,v16,v17,v18,v19,r4)else ck (aE v20.length v20.length)<|some (v11,v12,v13,v14,v15,v16,v17,v18,v19,v20)):Option (iJ)).bind λ(v22,v23,v24,v25,v26,v27,v28,v29,v30,v31)=>ck (aE v31.length v31.length)<|some (.inl ((i64.wrap (v10+1)),v22,v23,v24,v25,v26,v27,v28,v29,v30,v31))else ck (aE v20.length v20.length)<|some (.inr (v11,v12,v13,v14,v15,v16,v17,v18,v19,v20)))
def jT(a0:bn)(a1:bW)(a2:bf):Option (List bS):=
 ((oM n a1.area).bind λr1=>(bif r1 then some (a0.defs,a0.tables,a0.zones,a0.rules,a0.caps,a0.views,a0.vh,a0.hours,a1.area)else some (a0.defs,a0.tables,a0.zones,a0.rules,a0.caps,a0.views,a0.vh,a0.hours,[])):Option ((List fB)×(List dJ)×(List eX)×(List cK)×(List jP)×(List iP)×(List dN)×Int×(List ax))).bind λ(v1,v2,v3,v4,v5,v6,v7,v8,v9)=>(oN n a2 0 a2.phases.length).bind λr2=>ck (aE 0 ([]:List aF).length)<|(iter (rq r2) n (0,v1,v2,v3,v4,v5,v6,v7,v8,v9,[])).bind λ(w1,w2,w3,w4,w5,w6,w7,w8,w9,BC)=>ck (aE BC.length BC.length)<|(nu n w1 w2 w3 w4 w5 w6 w7 w8 w9 BC).bind λr5=>ck (bH 0 0 (sub ([(bS.mk (⟨#[97,114,101,97]⟩) r5.1)]:List bS) 0 1).length 1 24)<|iM ((sub ([(bS.mk (⟨#[97,114,101,97]⟩) r5.1)]:List bS) 0 1)) λr6=>ck (aE r5.2.2.2.2.2.2.2.2.2.2.length r5.2.2.2.2.2.2.2.2.2.2.length)<|(ji n r5.2.1 r5.2.2.1 r5.2.2.2.1 r5.2.2.2.2.1 r5.2.2.2.2.2.1 r5.2.2.2.2.2.2.1 r5.2.2.2.2.2.2.2.1 r5.2.2.2.2.2.2.2.2.1 r5.2.2.2.2.2.2.2.2.2.1 r5.2.2.2.2.2.2.2.2.2.2).bind λr7=>ck (bH r6.length r6.length (sub ([(bS.mk (⟨#[99,111,118,101,114]⟩) r7.1)]:List bS) 0 1).length 1 24)<|iM (r6++(sub ([(bS.mk (⟨#[99,111,118,101,114]⟩) r7.1)]:List bS) 0 1)) λr8=>ck (aE r7.2.2.2.2.2.2.2.2.2.2.length r7.2.2.2.2.2.2.2.2.2.2.length)<|(kZ n r7.2.1 r7.2.2.1 r7.2.2.2.1 r7.2.2.2.2.1 r7.2.2.2.2.2.1 r7.2.2.2.2.2.2.1 r7.2.2.2.2.2.2.2.1 r7.2.2.2.2.2.2.2.2.1 r7.2.2.2.2.2.2.2.2.2.1 r7.2.2.2.2.2.2.2.2.2.2).bind λr9=>ck (bH r8.length r8.length (sub ([(bS.mk (⟨#[102,108,111,111,114]⟩) r9.1)]:List bS) 0 1).length 1 24)<|iM (r8++(sub ([(bS.mk (⟨#[102,108,111,111,114]⟩) r9.1)]:List bS) 0 1)) λwx=>ck (aE r9.2.2.2.2.2.2.2.2.2.2.length r9.2.2.2.2.2.2.2.2.2.2.length)<|(j5 n r9.2.1 r9.2.2.1 r9.2.2.2.1 r9.2.2.2.2.1 r9.2.2.2.2.2.1 r9.2.2.2.2.2.2.1 r9.2.2.2.2.2.2.2.1 r9.2.2.2.2.2.2.2.2.1 r9.2.2.2.2.2.2.2.2.2.1 r9.2.2.2.2.2.2.2.2.2.2).bind λm9=>ck (bH wx.length wx.length (sub ([(bS.mk (⟨#[102,108,111,111,114,115]⟩) m9.1)]:List bS) 0 1).length 1 24)<|iM (wx++(sub ([(bS.mk (⟨#[102,108,111,111,114,115]⟩) m9.1)]:List bS) 0 1)) λxn=>ck (aE m9.2.2.2.2.2.2.2.2.2.2.length m9.2.2.2.2.2.2.2.2.2.2.length)<|(j6 n m9.2.1 m9.2.2.1 m9.2.2.2.1 m9.2.2.2.2.1 m9.2.2.2.2.2.1 m9.2.2.2.2.2.2.1 m9.2.2.2.2.2.2.2.1 m9.2.2.2.2.2.2.2.2.1 m9.2.2.2.2.2.2.2.2.2.1 m9.2.2.2.2.2.2.2.2.2.2).bind λsq=>ck (bH xn.length xn.length (sub ([(bS.mk (⟨#[104,101,105,103,104,116]⟩) sq.1)]:List bS) 0 1).length 1 24)<|iM (xn++(sub ([(bS.mk (⟨#[104,101,105,103,104,116]⟩) sq.1)]:List bS) 0 1)) λIf=>ck (aE sq.2.2.2.2.2.2.2.2.2.2.length sq.2.2.2.2.2.2.2.2.2.2.length)<|(lg n sq.2.1 sq.2.2.1 sq.2.2.2.1 sq.2.2.2.2.1 sq.2.2.2.2.2.1 sq.2.2.2.2.2.2.1 sq.2.2.2.2.2.2.2.1 sq.2.2.2.2.2.2.2.2.1 sq.2.2.2.2.2.2.2.2.2.1 sq.2.2.2.2.2.2.2.2.2.2).bind λs8=>ck (bH If.length If.length (sub ([(bS.mk (⟨#[104,111,109,101,115]⟩) s8.1)]:List bS) 0 1).length 1 24)<|iM (If++(sub ([(bS.mk (⟨#[104,111,109,101,115]⟩) s8.1)]:List bS) 0 1)) λr16=>ck (aE s8.2.2.2.2.2.2.2.2.2.2.length s8.2.2.2.2.2.2.2.2.2.2.length)<|(ji n s8.2.1 s8.2.2.1 s8.2.2.2.1 s8.2.2.2.2.1 s8.2.2.2.2.2.1 s8.2.2.2.2.2.2.1 s8.2.2.2.2.2.2.2.1 s8.2.2.2.2.2.2.2.2.1 s8.2.2.2.2.2.2.2.2.2.1 s8.2.2.2.2.2.2.2.2.2.2).bind λs7=>ck (bH r16.length r16.length (sub ([(bS.mk (⟨#[114,117,110,111,102,102]⟩) s7.1)]:List bS) 0 1).length 1 24)<|iM (r16++(sub ([(bS.mk (⟨#[114,117,110,111,102,102]⟩) s7.1)]:List bS) 0 1)) λH5=>ck (aE s7.2.2.2.2.2.2.2.2.2.2.length s7.2.2.2.2.2.2.2.2.2.2.length)<|(jL n s7.2.1 s7.2.2.1 s7.2.2.2.1 s7.2.2.2.2.1 s7.2.2.2.2.2.1 s7.2.2.2.2.2.2.1 s7.2.2.2.2.2.2.2.1 s7.2.2.2.2.2.2.2.2.1 s7.2.2.2.2.2.2.2.2.2.1 s7.2.2.2.2.2.2.2.2.2.2).bind λqv=>ck (bH H5.length H5.length (sub ([(bS.mk (⟨#[115,101,116,98,97,99,107]⟩) qv.1)]:List bS) 0 1).length 1 24)<|iM (H5++(sub ([(bS.mk (⟨#[115,101,116,98,97,99,107]⟩) qv.1)]:List bS) 0 1)) λH4=>ck (aE qv.2.2.2.2.2.2.2.2.2.2.length qv.2.2.2.2.2.2.2.2.2.2.length)<|(jM n qv.2.1 qv.2.2.1 qv.2.2.2.1 qv.2.2.2.2.1 qv.2.2.2.2.2.1 qv.2.2.2.2.2.2.1 qv.2.2.2.2.2.2.2.1 qv.2.2.2.2.2.2.2.2.1 qv.2.2.2.2.2.2.2.2.2.1 qv.2.2.2.2.2.2.2.2.2.2).bind λr21=>ck (bH H4.length H4.length (sub ([(bS.mk (⟨#[116,114,97,102,102,105,99]⟩) r21.1)]:List bS) 0 1).length 1 24)<|iM (H4++(sub ([(bS.mk (⟨#[116,114,97,102,102,105,99]⟩) r21.1)]:List bS) 0 1)) λH3=>ck (aE (sub H3 0 H3.length).length H3.length)<|some (sub H3 0 H3.length)
def zq(a0:Int):Option (Int×Bool):=
 ((bif (a0==0)then some (a0==0)else(bif (a0==1)then some (a0==1)else(bif (a0==2)then some (a0==2)else some (a0==3))))).bind λv1=>(bif v1 then some (0,true)else((bif (a0==9)then some (a0==9)else some (a0==15))).bind λv2=>(bif v2 then some (1,true)else(bif (a0==16)then some (3,true)else(bif decide (a0>=0)then some (2,(decide (a0<17)))else some (2,false)))))
def yB(n:Nat)(rc:(bP)->(Int)->Option Int)(a0:bP)(a1:Int):Stp (Int×Int) Int
 |(v2,v3)=>(bif decide (v3<a0.args.length)then(bj a0.args v3).bind λx1=>(rc (bP.mk x1.op x1.n x1.s x1.key x1.args) (i64.wrap (a1+1))).bind λr2=>some (.inl ((max v2 r2),(i64.wrap (v3+1))))else some (.inr v2))
def AR(rc:(bP)->(Int)->Option Int)(a0:bP)(a1:Int):Option Int:=
 (zq a0.op).bind λr1=>((bif (!r1.2)then some true else(bif (r1.1 !=a0.args.length)then some true else some (decide (a1>=12))))).bind λv1=>(bif v1 then some 13 else(iter (yB n rc a0 a1) n (0,0)).bind λw1=>some (i64.wrap (w1+1)))
def E5(rc:(bP)->(Int)->Option Int):cx xx:=⟨[.d (.st SI.Expr),.d (.int .i64)],[.d (.int .i64)],λa=>rc a.1 a.2.1,none⟩
def sZ(n:Nat):Nat->(bP)->(Int)->Option Int
 | 0=>λ_ _=>none
 |m+1=>AR n (sZ n m)
def QF(a0:bP)(a1:Int):Option Int:=sZ n n a0 a1
def I7(a0:bP):Option Bool:=
 (QF n (bP.mk a0.op a0.n a0.s a0.key a0.args) 0).bind λr1=>some (decide (r1<=12))
def AU(a0:dJ)(a1:bP):Option Bool:=
 some (ByteArray.toList a0.name==ByteArray.toList a1.s)
def Gl(a0:List dJ)(a1:(dJ×Unit)->Option Bool):Stp Int (Unit⊕Int)
 |v1=>(bif decide (v1<a0.length)then(bj a0 v1).bind λx1=>(a1 (x1,())).bind λr1=>(bif r1 then(some v1).map λa=>.inr (.inr a)else some (.inl (i64.wrap (v1+1))))else some (.inr (.inl ())))
def sF(a0:List dJ)(a1:(dJ×Unit)->Option Bool):Option Int:=
 dn (iter (Gl a0 a1) n 0) λ()=>some (-1)
def AX(a0:bS)(a1:bP):Option Bool:=
 some (ByteArray.toList a0.name==ByteArray.toList a1.key)
def zu(a0:Bool):Option Int:=
 (bif a0 then some 1 else some 0)
def xk(a0:Int)(a1:Int):Option Int:=
 (bif (a1==0)then some 0 else ck (a1 !=0)<|(ck (a1 !=0)<|((bif ((Int.tmod a0 a1) !=0)then some (!((decide ((Int.tmod a0 a1)<0))==(decide (a1<0))))else some false)).bind λv1=>(bif v1 then some (i64.wrap ((i64.wrap (Int.tdiv a0 a1))-1))else some (i64.wrap (Int.tdiv a0 a1))):Option Int).bind λv2=>some v2)
def Kt(a0:Int)(a1:Int)(a2:Int):Option Int:=
 (bif (a0==4)then some (i64.wrap (a1+a2))else(bif (a0==5)then some (i64.wrap (a1-a2))else(bif (a0==6)then some (i64.wrap (a1*a2))else(bif (a0==7)then(xk a1 a2).bind λr1=>some r1 else(bif (a0==8)then(bif (a2==0)then some 0 else(xk a1 a2).bind λr2=>some (i64.wrap (a1-(i64.wrap (r2*a2)))))else(bif (a0==10)then(zu (a1==a2)).bind λr3=>some r3 else(bif (a0==11)then(zu (decide (a1<a2))).bind λr4=>some r4 else(bif (a0==12)then(zu (decide (a1<=a2))).bind λr5=>some r5 else(bif (a0==13)then(bif (a1 !=0)then(zu (a2 !=0)).bind λr6=>some r6 else(zu false).bind λr7=>some r7)else(bif (a1 !=0)then(zu true).bind λr8=>some r8 else(zu (a2 !=0)).bind λr9=>some r9))))))))))
def jN(a0:List fB)(a1:List dJ)(a2:List eX)(a3:List cK)(a4:List jP)(a5:List iP)(a6:List dN)(a7:Int)(a8:List ByteArray)(a9:bP)(k9:List (ByteArray×Int)):Option (Int×(List (ByteArray×Int))):=
 (sF n a1 (λ (y1:dJ×Unit)=>AU y1.1 (bP.mk a9.op a9.n a9.s a9.key a9.args))).bind λr1=>(bif decide (r1<0)then some (0,k9)else(bj a1 r1).bind λx1=>(kV n x1.rows (λ (y2:bS×Unit)=>AX y2.1 (bP.mk a9.op a9.n a9.s a9.key a9.args))).bind λr2=>(bif decide (r2>=0)then(bj x1.rows r2).bind λx2=>some (x2.n,k9)else some (x1.sL,k9)))
def fG(n:Nat)(rc:((List fB))->((List dJ))->((List eX))->((List cK))->((List jP))->((List iP))->((List dN))->(Int)->((List ByteArray))->(bP)->((List (ByteArray×Int)))->Option (Int×(List (ByteArray×Int))))(a0:List fB)(a1:List dJ)(a2:List eX)(a3:List cK)(a4:List jP)(a5:List iP)(a6:List dN)(a7:Int)(a8:List ByteArray)(a9:bP):Stp (Int×(List (ByteArray×Int))×(List Int)) ((List (ByteArray×Int))×(List Int))
 |(v1,v2,v3)=>(bif decide (v1<a9.args.length)then((bj a9.args v1).bind λx1=>((bif (a9.op==16)then(bif decide (v1>0)then ck (cM 0 v3.length)<|(bj v3 ((0:Nat)+0:Int)).bind λx2=>some (!((x2 !=0)==(v1==1)))else some false)else some false)).bind λv4=>(bif v4 then ck (bH v3.length v3.length (sub ([0]:List Int) 0 1).length 1 8)<|iM (v3++(sub ([0]:List Int) 0 1)) λr1=>ck (aE r1.length r1.length)<|some (v2,r1)else(rc a0 a1 a2 a3 a4 a5 a6 a7 a8 (bP.mk x1.op x1.n x1.s x1.key x1.args) v2).bind λr2=>ck (bH v3.length v3.length (sub ([r2.1]:List Int) 0 1).length 1 8)<|iM (v3++(sub ([r2.1]:List Int) 0 1)) λr3=>ck (aE r3.length r3.length)<|some (r2.2,r3)):Option ((List (ByteArray×Int))×(List Int))).bind λ(v5,v6)=>ck (aE v6.length v6.length)<|some (.inl ((i64.wrap (v1+1)),v5,v6))else ck (aE v3.length v3.length)<|some (.inr (v2,v3)))
def fO(rc:((List fB))->((List dJ))->((List eX))->((List cK))->((List jP))->((List iP))->((List dN))->(Int)->((List ByteArray))->(bP)->((List (ByteArray×Int)))->Option (Int×(List (ByteArray×Int))))(a0:List fB)(a1:List dJ)(a2:List eX)(a3:List cK)(a4:List jP)(a5:List iP)(a6:List dN)(a7:Int)(a8:List ByteArray)(a9:bP)(k9:List (ByteArray×Int)):Option (Int×(List (ByteArray×Int))):=
 ck (aE 0 ([]:List Int).length)<|(iter (fG n rc a0 a1 a2 a3 a4 a5 a6 a7 a8 a9) n (0,k9,[])).bind λ(w1,w2)=>(bif (a9.op==0)then some (a9.n,w1)else(bif (a9.op==1)then some (((dL gR a9.s w1).getD 0),w1)else(bif (a9.op==2)then(jN n a0 a1 a2 a3 a4 a5 a6 a7 a8 (bP.mk a9.op a9.n a9.s a9.key a9.args) w1).bind λr4=>some (r4.1,r4.2)else(bif (a9.op==3)then(fV n a8 a9.s).bind λr5=>(zu r5).bind λr6=>some (r6,w1)else(bif (a9.op==9)then ck (cM 0 w2.length)<|(bj w2 ((0:Nat)+0:Int)).bind λx3=>some ((i64.wrap (0-x3)),w1)else(bif (a9.op==15)then ck (cM 0 w2.length)<|(bj w2 ((0:Nat)+0:Int)).bind λx4=>(zu (x4==0)).bind λr7=>some (r7,w1)else(bif (a9.op==16)then ck (cM 0 w2.length)<|(bj w2 ((0:Nat)+0:Int)).bind λx5=>(bif (x5 !=0)then ck (cM 1 w2.length)<|(bj w2 ((0:Nat)+1:Int)).bind λx6=>some (x6,w1)else ck (cM 2 w2.length)<|(bj w2 ((0:Nat)+2:Int)).bind λx7=>some (x7,w1))else ck (cM 0 w2.length)<|(bj w2 ((0:Nat)+0:Int)).bind λx8=>ck (cM 1 w2.length)<|(bj w2 ((0:Nat)+1:Int)).bind λx9=>(Kt a9.op x8 x9).bind λr8=>some (r8,w1))))))))
def E8(rc:((List fB))->((List dJ))->((List eX))->((List cK))->((List jP))->((List iP))->((List dN))->(Int)->((List ByteArray))->(bP)->((List (ByteArray×Int)))->Option (Int×(List (ByteArray×Int)))):dp xx:=⟨[(.a [(.v (.sl (.st SI.Def))),(.v (.sl (.st SI.Table))),(.v (.sl (.st SI.Zone))),(.v (.sl (.st SI.Rule))),(.v (.sl (.st SI.Cap))),(.v (.sl (.st SI.View))),(.v (.sl (.st SI.hZ))),(.v (.int .i64)),(.mp 0),(.v (.sl .str))]),(.v (.st SI.Expr))],[(0,.m .str (.int .i64))],[(.v (.int .i64))],[(0,.m .str (.int .i64))],λv=>rc (v.1) (v.2.1) (v.2.2.1) (v.2.2.2.1) (v.2.2.2.2.1) (v.2.2.2.2.2.1) (v.2.2.2.2.2.2.1) (v.2.2.2.2.2.2.2.1) (v.2.2.2.2.2.2.2.2.1) (v.2.2.2.2.2.2.2.2.2.1) (v.2.2.2.2.2.2.2.2.2.2)⟩
def ku(rc:((List fB))->((List dJ))->((List eX))->((List cK))->((List jP))->((List iP))->((List dN))->(Int)->((List ByteArray))->(bP)->((List (ByteArray×Int)))->Option (Int×(List (ByteArray×Int)))):cx xx:=⟨[],[.d .bool],λ_=>none,some (E8 rc)⟩
def bZ(n:Nat):Nat->((List fB))->((List dJ))->((List eX))->((List cK))->((List jP))->((List iP))->((List dN))->(Int)->((List ByteArray))->(bP)->((List (ByteArray×Int)))->Option (Int×(List (ByteArray×Int)))
 | 0=>λ_ _ _ _ _ _ _ _ _ _ _=>none
 |m+1=>fO n (bZ n m)
def gK(a0:List fB)(a1:List dJ)(a2:List eX)(a3:List cK)(a4:List jP)(a5:List iP)(a6:List dN)(a7:Int)(a8:List ByteArray)(a9:bP)(k9:List (ByteArray×Int)):Option (Int×(List (ByteArray×Int))):=bZ n n a0 a1 a2 a3 a4 a5 a6 a7 a8 a9 k9
def jy(n:Nat)(a1:List bS):Stp (Int×(List (ByteArray×Int))×(List (ByteArray×Bool))) ((List (ByteArray×Int))×(List (ByteArray×Bool)))
 |(v1,v2,v3)=>(bif decide (v1<a1.length)then((bj a1 v1).bind λx1=>(bif (!((dL gR x1.name v3).getD false))then some ((oI gR x1.name x1.n v2),(oI gR x1.name true v3))else some (v2,v3)):Option ((List (ByteArray×Int))×(List (ByteArray×Bool)))).bind λ(v4,v5)=>some (.inl ((i64.wrap (v1+1)),v4,v5))else some (.inr (v2,v3)))
def iD(a0:bn)(a2:List ByteArray)(w2:List (ByteArray×Bool))(r1:(List Int)×(List ByteArray)×Int):Stp (Int×(List (ByteArray×Int))×(List Int)) ((List (ByteArray×Int))×(List Int))
 |(v6,v7,v8)=>(bif decide (v6<(r1.1.length:Nat))then(ck (cM v6 r1.1.length)<|(bj r1.1 ((0:Nat)+v6:Int)).bind λx2=>(bj a0.defs x2).bind λx3=>((I7 n (bP.mk x3.eW x3.gp x3.fW x3.ep x3.c8)).bind λr2=>(bif r2 then(gK n a0.defs a0.tables a0.zones a0.rules a0.caps a0.views a0.vh a0.hours a2 (bP.mk x3.eW x3.gp x3.fW x3.ep x3.c8) v7).bind λr3=>ck (cM x2 ((a0.defs.length:Int).toNat))<|(bj v8 ((0:Nat)+x2:Int)).bind λx4=>some (r3.2,(v8.set ((0:Nat)+x2:Int).toNat r3.1))else some (v7,v8)):Option ((List (ByteArray×Int))×(List Int))).bind λ(v9,v10)=>(bif (!((dL gR x3.name w2).getD false))then ck (cM x2 ((a0.defs.length:Int).toNat))<|(bj v10 ((0:Nat)+x2:Int)).bind λx5=>some ((oI gR x3.name x5 v9),v10)else some (v9,v10)):Option ((List (ByteArray×Int))×(List Int))).bind λ(v11,v12)=>some (.inl ((i64.wrap (v6+1)),v11,v12))else some (.inr (v7,v8)))
def mV(a0:bn)(a1:List bS)(a2:List ByteArray):Option ((List fB)×(List dJ)×(List eX)×(List cK)×(List jP)×(List iP)×(List dN)×Int×(List ByteArray)×(List (ByteArray×Int))×(List Int)):=
 (iter (jy n a1) n (0,([]:(List (ByteArray×Int))),([]:(List (ByteArray×Bool))))).bind λ(w1,w2)=>ck (decide ((a0.defs.length:Int)<=a0.defs.length)&&(decide (0<=(a0.defs.length:Int))&&xE a0.defs.length 8))<|(fQ n a0).bind λr1=>(bif (r1.2.2 !=0)then ck (aE ((a0.defs.length:Int).toNat) (List.replicate (a0.defs.length:Int).toNat (0:Int)).length)<|some (a0.defs,a0.tables,a0.zones,a0.rules,a0.caps,a0.views,a0.vh,a0.hours,a2,w1,(List.replicate (a0.defs.length:Int).toNat 0))else(iter (iD n a0 a2 w2 r1) n (0,w1,(List.replicate (a0.defs.length:Int).toNat 0))).bind λ(w3,w4)=>ck (aE ((a0.defs.length:Int).toNat) w4.length)<|some (a0.defs,a0.tables,a0.zones,a0.rules,a0.caps,a0.views,a0.vh,a0.hours,a2,w3,w4))
def yC(a0:bn)(a1:List bS)(a2:List ByteArray)(a3:bP):Option Int:=
 (I7 n (bP.mk a3.op a3.n a3.s a3.key a3.args)).bind λr1=>(bif (!r1)then some 0 else(mV n a0 a1 a2).bind λr2=>(gK n r2.1 r2.2.1 r2.2.2.1 r2.2.2.2.1 r2.2.2.2.2.1 r2.2.2.2.2.2.1 r2.2.2.2.2.2.2.1 r2.2.2.2.2.2.2.2.1 r2.2.2.2.2.2.2.2.2.1 (bP.mk a3.op a3.n a3.s a3.key a3.args) r2.2.2.2.2.2.2.2.2.2.1).bind λr3=>some r3.1)
def yD(a0:aF):Option (List gQ):=
 ck (aE (sub ([(ax.mk a0.bu a0.cw a0.br a0.ct)]:List ax) 0 1).length 1)<|ck (aE (sub ([(gQ.mk a0.fg a0.ek (sub ([(ax.mk a0.bu a0.cw a0.br a0.ct)]:List ax) 0 1))]:List gQ) 0 1).length 1)<|some (sub ([(gQ.mk a0.fg a0.ek (sub ([(ax.mk a0.bu a0.cw a0.br a0.ct)]:List ax) 0 1))]:List gQ) 0 1)
def Gm(a0:List eH)(a1:(eH×Unit)->Option Bool):Stp Int (Unit⊕Int)
 |v1=>(bif decide (v1<a0.length)then(bj a0 v1).bind λx1=>(a1 (x1,())).bind λr1=>(bif r1 then(some v1).map λa=>.inr (.inr a)else some (.inl (i64.wrap (v1+1))))else some (.inr (.inl ())))
def sG(a0:List eH)(a1:(eH×Unit)->Option Bool):Option Int:=
 dn (iter (Gm a0 a1) n 0) λ()=>some (-1)
def lq(a0:List eH)(a1:(eH×Unit)->Option Bool):Option Bool:=
 (sG n a0 a1).bind λr1=>some (decide (r1>=0))
def oo(a0:Int)(a1:Int)(a2:Int):Option Bool:=
 (bif decide (a1<=a0)then some (decide (a0<=a2))else some false)
def AY(a0:eH):Option Bool:=
 (oo a0.side 0 3).bind λr1=>(bif r1 then(oo a0.base 0 4096).bind λr2=>(bif r2 then(oo a0.num 0 4096).bind λr3=>(bif r3 then(oo a0.den 1 4096).bind λr4=>some r4 else some false)else some false)else some false)
def uG(a0:eH):Option Bool:=
 (AY a0).bind λr1=>some (!r1)
def AZ(a0:ax)(a1:List eH):Option Bool:=
 (nZ a0).bind λr1=>(bif r1 then(lq n a1 (λ (y1:eH×Unit)=>uG y1.1)).bind λr2=>some (!r2)else some false)
def U5(a0:List ax)(a1:List ax):Option Bool:=
 (o9 n a0 a1).bind λr1=>some r1
def A7(a0:List gQ):Stp Int (Unit⊕Bool)
 |v1=>(bif decide (v1<a0.length)then dn ((bj a0 v1).bind λx1=>((bif decide (x1.z0<0)then some true else(bif decide (x1.z0>=x1.z1)then some true else(bif decide (x1.z1>4096)then some true else(bif ((x1.area.length:Int)==0)then some true else(oM n x1.area).bind λr1=>some (!r1)))))).bind λv2=>(bif v2 then((some false).map λa=>.inr (.inr a)).map .inr else(bif (v1==0)then some (.inl ())else(bj a0 (i64.wrap (v1-1))).bind λx2=>((bif decide (x2.z1>x1.z0)then some true else(bif (x2.z1==x1.z0)then(U5 n x2.area x1.area).bind λr2=>some r2 else some false))).bind λv3=>(bif v3 then((some false).map λa=>.inr (.inr a)).map .inr else some (.inl ())))):Option ((Unit)⊕_)) λ()=>some (.inl (i64.wrap (v1+1)))else some (.inr (.inl ())))
def I8(a0:List gQ):Option Bool:=
 (bif decide ((a0.length:Int)>80)then some false else dn (iter (A7 n a0) n 0) λ()=>some true)
def xK(a0:ax)(a1:Int)(a2:Int):Option Oe:=
 some (Oe.mk (i64.wrap (a1-a0.x0)) (i64.wrap ((i64.wrap (a0.x1-1))-a1)) (i64.wrap (a2-a0.y0)) (i64.wrap ((i64.wrap (a0.y1-1))-a2)))
def uH(a0:Int)(a1:Int):Option Int:=
 ck (a1 !=0)<|(ck (a1 !=0)<|(bif decide ((Int.tmod a0 a1)<0)then some (i64.wrap ((i64.wrap (Int.tdiv a0 a1))-1))else some (i64.wrap (Int.tdiv a0 a1))):Option Int).bind λv1=>some v1
def yE(a0:ax)(a1:List eH)(a2:Int)(a3:Int)(r1:Oe):Stp (Int×Int) Int
 |(v1,v2)=>(bif decide (v2<a1.length)then(bj a1 v2).bind λx1=>ck (cM x1.side 4)<|(bj ([r1.a0,r1.a1,r1.a2,r1.a3]:List Int) x1.side).bind λx2=>(uH (i64.wrap (x1.num*x2)) x1.den).bind λr2=>some (.inl ((min v1 (i64.wrap (x1.base+r2))),(i64.wrap (v2+1))))else some (.inr v1))
def Ku(a0:ax)(a1:List eH)(a2:Int)(a3:Int):Option Int:=
 (xK a0 a2 a3).bind λr1=>(iter (yE a0 a1 a2 a3 r1) n (4096,0)).bind λw1=>some w1
def oP(a0:ax)(a1:List eH)(x1:ax)(x2:Int):Stp (Int×Int) Int
 |(v5,v6)=>(bif decide (v6<(2:Nat))then ck (cM v6 2)<|(bj ([x1.y0,(i64.wrap (x1.y1-1))]:List Int) ((0:Nat)+v6:Int)).bind λx3=>(Ku n a0 a1 x2 x3).bind λr1=>some (.inl ((min v5 r1),(i64.wrap (v6+1))))else some (.inr v5))
def oQ(a0:ax)(a1:List eH)(x1:ax):Stp (Int×Int) Int
 |(v3,v4)=>(bif decide (v4<(2:Nat))then ck (cM v4 2)<|(bj ([x1.x0,(i64.wrap (x1.x1-1))]:List Int) ((0:Nat)+v4:Int)).bind λx2=>(iter (oP n a0 a1 x1 x2) n (v3,0)).bind λw1=>some (.inl (w1,(i64.wrap (v4+1))))else some (.inr v3))
def rU(a0:ax)(a1:List eH)(a2:List ax):Stp (Int×Int) Int
 |(v1,v2)=>(bif decide (v2<a2.length)then(bj a2 v2).bind λx1=>(iter (oQ n a0 a1 x1) n (v1,0)).bind λw2=>some (.inl (w2,(i64.wrap (v2+1))))else some (.inr v1))
def yF(a0:ax)(a1:List eH)(a2:List ax):Option Int:=
 (iter (rU n a0 a1 a2) n (4096,0)).bind λw3=>some w3
def rV(a0:gQ)(a1:ax)(a2:List eH):Option Bool:=
 (yF n a1 a2 a0.area).bind λr1=>some (decide (r1<a0.z1))
def mD(a0:List gQ)(a1:(gQ×Unit)->Option Bool):Stp Int (Unit⊕Int)
 |v1=>(bif decide (v1<a0.length)then(bj a0 v1).bind λx1=>(a1 (x1,())).bind λr1=>(bif r1 then(some v1).map λa=>.inr (.inr a)else some (.inl (i64.wrap (v1+1))))else some (.inr (.inl ())))
def uI(a0:List gQ)(a1:(gQ×Unit)->Option Bool):Option Int:=
 dn (iter (mD a0 a1) n 0) λ()=>some (-1)
def jE(a0:List gQ)(a1:(gQ×Unit)->Option Bool):Option Bool:=
 (uI n a0 a1).bind λr1=>some (decide (r1>=0))
def yG(a0:ax)(a1:List eH)(a2:List gQ):Option Bool:=
 ((AZ n a0 a1).bind λr1=>(bif (!r1)then some true else(I8 n a2).bind λr2=>some (!r2))).bind λv1=>(bif v1 then some false else(jE n a2 (λ (y1:gQ×Unit)=>rV n y1.1 a0 a1)).bind λr3=>some (!r3))
def kz(a0:aF)(a1:ax)(a2:cK):Option Bool:=
 (yD a0).bind λr1=>ck (aE (sub ([(eH.mk a2.jn a2.jp a2.kA a2.kB)]:List eH) 0 1).length 1)<|ck (aE (sub r1 0 r1.length).length r1.length)<|(yG n a1 (sub ([(eH.mk a2.jn a2.jp a2.kA a2.kB)]:List eH) 0 1) (sub r1 0 r1.length)).bind λr2=>some (!r2)
def iE(a0:mK)(a1:(aF×Unit)->Option Bool):Option Bool:=
 (gG n a0.cP a1).bind λr1=>some r1
def kC(a0:aF)(a1:cK):Option Bool:=
 ck (decide (0<=a0.use)&&decide (a0.use<=i64.bits))<|some ((bits .and .i64 a1.uses (i64.wrap (1*2 ^ a0.use.toNat)))==0)
def am9(a0:ax)(a1:ax):Option (Int×Int):=
 some ((i64.wrap ((max a0.x0 a1.x0)-(min a0.x1 a1.x1))),(i64.wrap ((max a0.y0 a1.y0)-(min a0.y1 a1.y1))))
def Sa(a0:ax)(a1:ax):Option Int:=
 ((nZ a0).bind λr1=>(bif (!r1)then some true else(nZ a1).bind λr2=>some (!r2))).bind λv1=>(bif v1 then some (-1)else(am9 a0 a1).bind λr3=>some (max (max 0 r3.1) r3.2))
def dV(a0:jJ)(a1:mK)(a2:aF)(a3:cK):Option Bool:=
 ((bif (a0.lot==a1.eo)then some true else(nZ (ax.mk a0.eS a0.eQ a0.eR a0.eM)).bind λr1=>(bif (!r1)then some true else(bif decide (a0.fS<0)then some true else some (decide (a0.fS>=6)))))).bind λv1=>(bif v1 then some false else((bif (a2.use==a3.uses)then(bif (a0.fS==a3.other)then some true else(bif (a2.use==a3.other)then some (a0.fS==a3.uses)else some false))else(bif (a2.use==a3.other)then some (a0.fS==a3.uses)else some false))).bind λv2=>(bif v2 then(Sa (ax.mk a2.bu a2.cw a2.br a2.ct) (ax.mk a0.eS a0.eQ a0.eR a0.eM)).bind λr2=>some (decide (r2<a3.n))else some false))
def E9(a0:List jJ)(a1:(jJ×Unit)->Option Bool):Stp Int (Unit⊕Int)
 |v1=>(bif decide (v1<a0.length)then(bj a0 v1).bind λx1=>(a1 (x1,())).bind λr1=>(bif r1 then(some v1).map λa=>.inr (.inr a)else some (.inl (i64.wrap (v1+1))))else some (.inr (.inl ())))
def qU(a0:List jJ)(a1:(jJ×Unit)->Option Bool):Option Int:=
 dn (iter (E9 a0 a1) n 0) λ()=>some (-1)
def kD(a0:List jJ)(a1:(jJ×Unit)->Option Bool):Option Bool:=
 (qU n a0 a1).bind λr1=>some (decide (r1>=0))
def sH(a0:mK)(a1:cK)(a2:aF):Option Bool:=
 (kD n a0.du (λ (y1:jJ×Unit)=>dV y1.1 a0 a2 a1)).bind λr1=>some r1
def kE(a0:aF)(a1:mK)(a2:cK):Option Bool:=
 (sH n a1 a2 a0).bind λr1=>some r1
def ny(a0:mK)(a1:cK):Option Bool:=
 (bif (a1.kind==0)then(jT n (bn.mk a0.co a0.bx a0.bm a0.cg a0.cp a0.ca a0.cy a0.ci) (bW.mk a0.tj a0.nh a0.lp a0.px) (bf.mk a0.eo a0.jt)).bind λr1=>ck (aE (sub r1 0 r1.length).length r1.length)<|(yC n (bn.mk a0.co a0.bx a0.bm a0.cg a0.cp a0.ca a0.cy a0.ci) (sub r1 0 r1.length) a0.zones (bP.mk a1.lw a1.m8 a1.m7 a1.ky a1.gO)).bind λr2=>some (r2==0)else(bif (a1.kind==1)then(Dq n a0.lp).bind λr3=>(iE n a0 (λ (y1:aF×Unit)=>kz n y1.1 r3.1 a1)).bind λr4=>some r4 else(bif (a1.kind==2)then(iE n a0 (λ (y2:aF×Unit)=>kC y2.1 a1)).bind λr5=>some r5 else(bif (a1.kind==3)then(iE n a0 (λ (y3:aF×Unit)=>kE n y3.1 a0 a1)).bind λr6=>some r6 else some false))))
def wC(a0:ax)(a1:ax):Option Bool:=
 (bif decide ((max a1.x0 a0.x0)<(min a1.x1 a0.x1))then some (decide ((max a1.y0 a0.y0)<(min a1.y1 a0.y1)))else some false)
def I9(a0:List ax)(a1:(ax×Unit)->Option Bool):Stp Int (Unit⊕Int)
 |v1=>(bif decide (v1<a0.length)then(bj a0 v1).bind λx1=>(a1 (x1,())).bind λr1=>(bif r1 then(some v1).map λa=>.inr (.inr a)else some (.inl (i64.wrap (v1+1))))else some (.inr (.inl ())))
def uJ(a0:List ax)(a1:(ax×Unit)->Option Bool):Option Int:=
 dn (iter (I9 a0 a1) n 0) λ()=>some (-1)
def jF(a0:List ax)(a1:(ax×Unit)->Option Bool):Option Bool:=
 (uJ n a0 a1).bind λr1=>some (decide (r1>=0))
def Fa(a0:ax)(a1:List ax):Option Bool:=
 (jF n a1 (λ (y1:ax×Unit)=>wC y1.1 a0)).bind λr1=>some r1
def U6(a0:List ax)(a1:List ax):Option Bool:=
 (jF n a0 (λ (y1:ax×Unit)=>Fa n y1.1 a1)).bind λr1=>some r1
def ru(a0:gQ)(a1:nG):Option Bool:=
 (bif decide (a0.z1>a1.top)then(U6 n a0.area a1.area).bind λr1=>some r1 else some false)
def wD(a0:List nG)(a1:Int)(a2:List gQ):Stp Int (Unit⊕Bool)
 |v1=>(bif decide (v1<a0.length)then dn ((bj a0 v1).bind λx1=>((bif (x1.lot !=a1)then some true else(oM n x1.area).bind λr2=>some (!r2))).bind λv2=>(bif v2 then some (.inl ())else(jE n a2 (λ (y1:gQ×Unit)=>ru n y1.1 x1)).bind λr3=>(bif r3 then((some false).map λa=>.inr (.inr a)).map .inr else some (.inl ()))):Option ((Unit)⊕_)) λ()=>some (.inl (i64.wrap (v1+1)))else some (.inr (.inl ())))
def Fb(a0:List nG)(a1:Int)(a2:List gQ):Option Bool:=
 (I8 n a2).bind λr1=>(bif (!r1)then some false else dn (iter (wD n a0 a1 a2) n 0) λ()=>some true)
def nH(a0:aF)(a1:bR)(a2:bf):Option Bool:=
 (yD a0).bind λr1=>ck (aE (sub r1 0 r1.length).length r1.length)<|(Fb n a1.cC a2.lot (sub r1 0 r1.length)).bind λr2=>some (!r2)
def jW(a0:ByteArray)(a1:Bool)(a2:List ByteArray):Option (List ByteArray):=
 ((bif a1 then ck (aE (sub a2 0 a2.length).length a2.length)<|(fV n (sub a2 0 a2.length) a0).bind λr1=>some (!r1)else some false)).bind λv1=>(bif v1 then ck (bH a2.length a2.length (sub ([a0]:List ByteArray) 0 1).length 1 16)<|iM (a2++(sub ([a0]:List ByteArray) 0 1)) λr2=>ck (aE r2.length r2.length)<|some r2 else ck (aE a2.length a2.length)<|some a2)
def nI(a0:bR)(r1:mK×Int)(r2:List Int):Stp (Int×(List ByteArray)) (List ByteArray)
 |(v1,v2)=>(bif decide (v1<(r2.length:Nat))then ck (cM v1 r2.length)<|(bj r2 ((0:Nat)+v1:Int)).bind λx1=>(bj a0.az x1).bind λx2=>(bj a0.az x1).bind λx3=>(ny n r1.1 x3).bind λr3=>ck (aE v2.length v2.length)<|(jW n x2.name r3 v2).bind λr4=>ck (aE r4.length r4.length)<|some (.inl ((i64.wrap (v1+1)),r4))else ck (aE v2.length v2.length)<|some (.inr v2))
def mW(a0:bR)(a1:bf)(a2:Int):Option ((List ByteArray)×Int):=
 (AP n a0 a1).bind λr1=>(bif (r1.2 !=0)then some ([],r1.2)else(j3 n (bn.mk a0.cj a0.bp a0.aw a0.az a0.cm a0.b8 a0.cD a0.b9) r1.1.zones a2).bind λr2=>ck (aE 0 ([]:List ByteArray).length)<|(iter (nI n a0 r1 r2) n (0,[])).bind λw1=>(iE n r1.1 (λ (y1:aF×Unit)=>nH n y1.1 a0 a1)).bind λr5=>ck (aE w1.length w1.length)<|(jW n (⟨#[101,97,115,101,109,101,110,116]⟩) r5 w1).bind λr6=>ck (aE (sub r6 0 r6.length).length r6.length)<|some ((sub r6 0 r6.length),0))
def kL(a0:bR)(a1:bf)(a2:Int):Option Bool:=
 (mW n a0 a1 a2).bind λr1=>(bif (r1.2==0)then some ((r1.1.length:Int)==0)else some false)
def jk(a0:bg)(a1:kS)(a2:bW):Option Bool:=
 (I6 n a2 a0).bind λr1=>(kL n (bR.mk a1.co a1.bx a1.bm a1.cg a1.cp a1.ca a1.cy a1.ci a1.fm a1.dc a1.eb a1.du a1.fp) r1 a1.day).bind λr2=>some r2
def Gn(a0:List bg)(a1:(bg×Unit)->Option Bool):Stp Int (Unit⊕Int)
 |v1=>(bif decide (v1<a0.length)then(bj a0 v1).bind λx1=>(a1 (x1,())).bind λr1=>(bif r1 then(some v1).map λa=>.inr (.inr a)else some (.inl (i64.wrap (v1+1))))else some (.inr (.inl ())))
def sI(a0:List bg)(a1:(bg×Unit)->Option Bool):Option Int:=
 dn (iter (Gn a0 a1) n 0) λ()=>some (-1)
def jA(a0:kS)(a1:bW)(a2:List bg):Option (bg×Bool):=
 (sI n a2 (λ (y1:bg×Unit)=>jk n y1.1 a0 a1)).bind λr1=>(bif decide (r1<0)then some ((bg.mk 0 0 0 0),false)else(bj a2 r1).bind λx1=>some (x1,true))
def mE(a0:kS)(a1:bW):Option (aC×Bool):=
 (pq n (bn.mk a0.co a0.bx a0.bm a0.cg a0.cp a0.ca a0.cy a0.ci) a1.area).bind λr1=>ck (aE (sub r1 0 r1.length).length r1.length)<|(j3 n (bn.mk a0.co a0.bx a0.bm a0.cg a0.cp a0.ca a0.cy a0.ci) (sub r1 0 r1.length) a0.day).bind λr2=>(bif ((r2.length:Int)==0)then some ((aC.mk 0 a1.id ([]) 0 0 0 0 0 0),true)else ck (aE (sub ([a1]:List bW) 0 1).length 1)<|(kT n (sub ([a1]:List bW) 0 1)).bind λr3=>ck (aE (sub r3 0 r3.length).length r3.length)<|(jA n a0 a1 (sub r3 0 r3.length)).bind λr4=>(bif r4.2 then some ((aC.mk 0 a1.id ([]) 0 0 0 0 0 0),false)else((bif decide (((sub r3 0 r3.length).length:Int)>0)then(bj (sub r3 0 r3.length) 0).bind λx1=>(bj (sub r3 0 r3.length) 0).bind λx2=>(I6 n a1 x2).bind λr5=>(mW n (bR.mk a0.co a0.bx a0.bm a0.cg a0.cp a0.ca a0.cy a0.ci a0.fm a0.dc a0.eb a0.du a0.fp) r5 a0.day).bind λr6=>ck (aE r6.1.length r6.1.length)<|some (1,a1.id,x1.lot,x1.use,x1.floors,x1.cE,0,0,r6.1)else ck (aE 0 ([]:List ByteArray).length)<|some (1,a1.id,0,0,0,0,0,0,[])):Option (Int×Int×Int×Int×Int×Int×Int×Int×(List ByteArray))).bind λ(v1,v2,v3,v4,v5,v6,v7,v8,v9)=>ck (aE (sub v9 0 v9.length).length v9.length)<|some ((aC.mk v1 v2 (sub v9 0 v9.length) v3 v4 v5 v6 v7 v8),true)))
def uK(a0:bR)(a1:Int):Stp (Int×(List (Int×Bool))×(List aC)) (List aC)
 |(v1,v2,v3)=>(bif decide (v1<a0.land.length)then((bj a0.land v1).bind λx1=>(bif ((dL ie x1.id v2).getD false)then ck (aE v3.length v3.length)<|some (v2,v3)else(mE n (kS.mk a0.cj a0.bp a0.aw a0.az a0.cm a0.b8 a0.cD a0.b9 a0.land a0.cC a0.windows a0.built a0.base a1) x1).bind λr2=>(bif r2.2 then ck (bH v3.length v3.length (sub ([r2.1]:List aC) 0 1).length 1 88)<|iM (v3++(sub ([r2.1]:List aC) 0 1)) λr3=>ck (aE r3.length r3.length)<|some ((oI ie x1.id true v2),r3)else ck (aE v3.length v3.length)<|some ((oI ie x1.id true v2),v3))):Option ((List (Int×Bool))×(List aC))).bind λ(v4,v5)=>ck (aE v5.length v5.length)<|some (.inl ((i64.wrap (v1+1)),v4,v5))else ck (aE v3.length v3.length)<|some (.inr v3))
def gP(a0:bR)(a1:Int):Option (List aC):=
 (dR n (kS.mk a0.cj a0.bp a0.aw a0.az a0.cm a0.b8 a0.cD a0.b9 a0.land a0.cC a0.windows a0.built a0.base a1)).bind λr1=>ck (aE r1.length r1.length)<|(iter (uK n a0 a1) n (0,([]:(List (Int×Bool))),r1)).bind λw1=>ck (aE (sub w1 0 w1.length).length w1.length)<|some (sub w1 0 w1.length)
def wE(a0:bW)(a1:Int):Option Bool:=
 some (a0.id==a1)
def KM(a0:List bW)(a1:(bW×Unit)->Option Bool):Stp Int (Unit⊕Int)
 |v1=>(bif decide (v1<a0.length)then(bj a0 v1).bind λx1=>(a1 (x1,())).bind λr1=>(bif r1 then(some v1).map λa=>.inr (.inr a)else some (.inl (i64.wrap (v1+1))))else some (.inr (.inl ())))
def vQ(a0:List bW)(a1:(bW×Unit)->Option Bool):Option Int:=
 dn (iter (KM a0 a1) n 0) λ()=>some (-1)
def zw(a0:bR)(a1:Int)(a2:Int):Option (bg×Bool):=
 (vQ n a0.land (λ (y1:bW×Unit)=>wE y1.1 a1)).bind λr1=>(bif decide (r1<0)then some ((bg.mk 0 0 0 0),false)else(bj a0.land r1).bind λx1=>ck (tT r1 (i64.wrap (r1+1)) a0.land.length)<|(kT n (sub a0.land (r1.toNat) ((i64.wrap (r1+1)).toNat-r1.toNat))).bind λr2=>ck (aE (sub r2 0 r2.length).length r2.length)<|(jA n (kS.mk a0.cj a0.bp a0.aw a0.az a0.cm a0.b8 a0.cD a0.b9 a0.land a0.cC a0.windows a0.built a0.base a2) x1 (sub r2 0 r2.length)).bind λr3=>some (r3.1,r3.2))
def zx(a0:Int)(a1:Int)(a2:Bool)(a3:Int):Option (Bool×Int):=
 ((bif decide (a0>a1)then(bif (!a2)then some true else some (decide (a0<a3)))else some false)).bind λv1=>(bif v1 then some (true,a0)else some (a2,a3))
def XE(a0:bn)(a1:Int):Stp (Int×Int×Bool) (Int×Bool)
 |(v1,v2,v3)=>(bif decide (v1<a0.rules.length)then((bj a0.rules v1).bind λx1=>(zx x1.from_ a1 v3 v2).bind λr1=>(bif (x1.j8 !=0)then(zx x1.j8 a1 r1.1 r1.2).bind λr2=>some (r2.2,r2.1)else some (r1.2,r1.1)):Option (Int×Bool)).bind λ(v4,v5)=>some (.inl ((i64.wrap (v1+1)),v4,v5))else some (.inr (v2,v3)))
def A8(a0:bn)(a1:Int):Option (Int×Bool):=
 (iter (XE a0 a1) n (0,0,false)).bind λ(w1,w2)=>some (w1,w2)
def oq(a0:bR)(a2:Int):Stp (Int×Bool) (Unit⊕(Int×Bool))
 |(v1,v2)=>((bif v2 then some (decide (v1<=a2))else some false)).bind λv3=>(bif v3 then(gP n a0 v1).bind λr1=>(bif decide ((r1.length:Int)>0)then(some (v1,true)).map λa=>.inr (.inr a)else(A8 n (bn.mk a0.cj a0.bp a0.aw a0.az a0.cm a0.b8 a0.cD a0.b9) v1).bind λr2=>some (.inl (r2.1,r2.2)))else some (.inr (.inl ())))
def Kv(a0:bR)(a1:Int)(a2:Int):Option (Int×Bool):=
 dn (iter (oq n a0 a2) n (a1,true)) λ()=>some (0,false)
def yH(a0:List ByteArray)(a1:List ByteArray):Stp Int (Unit⊕Bool)
 |v1=>(bif decide (v1<a0.length)then(bj a0 v1).bind λx1=>(bj a1 v1).bind λx2=>(bif (!(ByteArray.toList x1==ByteArray.toList x2))then(some false).map λa=>.inr (.inr a)else some (.inl (i64.wrap (v1+1))))else some (.inr (.inl ())))
def Kw(a0:List ByteArray)(a1:List ByteArray):Option Bool:=
 (bif (a0.length !=(a1.length:Int))then some false else dn (iter (yH a0 a1) n 0) λ()=>some true)
def A9(a0:List aC)(a1:List aC):Stp Int (Unit⊕Bool)
 |v1=>(bif decide (v1<a0.length)then((bj a0 v1).bind λx1=>(bj a1 v1).bind λx2=>(bif (x1.kind !=x2.kind)then some true else(bj a0 v1).bind λx3=>(bj a1 v1).bind λx4=>(bif (x3.lot !=x4.lot)then some true else(bj a0 v1).bind λx5=>(bj a1 v1).bind λx6=>(bif (!((x5.i8==x6.i8)&&((x5.i7==x6.i7)&&((x5.ft==x6.ft)&&((x5.fY==x6.fY)&&true)))))then some true else(bj a0 v1).bind λx7=>(bj a1 v1).bind λx8=>(bif (!((x7.k8==x8.k8)&&((x7.k7==x8.k7)&&true)))then some true else(bj a0 v1).bind λx9=>(bj a1 v1).bind λx10=>(Kw n x9.names x10.names).bind λr1=>some (!r1)))))).bind λv2=>(bif v2 then(some false).map λa=>.inr (.inr a)else some (.inl (i64.wrap (v1+1))))else some (.inr (.inl ())))
def Dt(a0:List aC)(a1:List aC):Option Bool:=
 (bif (a0.length !=(a1.length:Int))then some false else dn (iter (A9 n a0 a1) n 0) λ()=>some true)
def Du:Option Bool:=
 (vK 6).bind λr1=>ck (aE (sub ([⟨#[99,111,114,101]⟩]:List ByteArray) 0 1).length 1)<|(zl (cK.mk (⟨#[97]⟩) (sub ([⟨#[99,111,114,101]⟩]:List ByteArray) 0 1) ([]) 0 0 0 false 0 r1.op r1.n r1.s r1.key r1.args 0 0 0 0 0 0 0)).bind λr2=>(vK 6).bind λr3=>ck (aE (sub ([⟨#[114,105,109]⟩]:List ByteArray) 0 1).length 1)<|(zl (cK.mk (⟨#[97]⟩) (sub ([⟨#[114,105,109]⟩]:List ByteArray) 0 1) ([]) 0 0 0 false 0 r3.op r3.n r3.s r3.key r3.args 0 0 0 0 0 0 0)).bind λr4=>(gP n r4 0).bind λr5=>(vK 2).bind λr6=>(zl (cK.mk (⟨#[97]⟩) ([]) ([]) 0 0 0 false 0 r6.op r6.n r6.s r6.key r6.args 0 0 0 0 0 0 0)).bind λr7=>(gP n r7 0).bind λr8=>(vK 6).bind λr9=>(zl (cK.mk (⟨#[97]⟩) ([]) ([]) 0 9 0 false 0 r9.op r9.n r9.s r9.key r9.args 0 0 0 0 0 0 0)).bind λwx=>(zl (cK.mk (⟨#[97]⟩) ([]) ([]) 0 0 0 false 0 0 1 (⟨#[]⟩) (⟨#[]⟩) ([]) 0 0 0 0 0 0 0)).bind λm9=>(zw n r2 1 0).bind λxn=>(Kv n wx 0 20).bind λsq=>((gP n r2 0).bind λIf=>(bif ((If.length:Int)==0)then(bif xn.2 then(bif ((xn.1.lot==1)&&((xn.1.use==0)&&((xn.1.floors==1)&&((xn.1.cE==1)&&true))))then ck (aE (sub r5 0 r5.length).length r5.length)<|ck (aE (sub ([(aC.mk 0 1 ([]) 0 0 0 0 0 0)]:List aC) 0 1).length 1)<|(Dt n (sub r5 0 r5.length) (sub ([(aC.mk 0 1 ([]) 0 0 0 0 0 0)]:List aC) 0 1)).bind λs8=>(bif s8 then ck (aE (sub ([⟨#[97]⟩]:List ByteArray) 0 1).length 1)<|ck (aE (sub r8 0 r8.length).length r8.length)<|ck (aE (sub ([(aC.mk 1 1 (sub ([⟨#[97]⟩]:List ByteArray) 0 1) 1 0 1 1 0 0)]:List aC) 0 1).length 1)<|(Dt n (sub r8 0 r8.length) (sub ([(aC.mk 1 1 (sub ([⟨#[97]⟩]:List ByteArray) 0 1) 1 0 1 1 0 0)]:List aC) 0 1)).bind λr16=>some r16 else some false)else some false)else some false)else some false)).bind λv1=>((gP n wx 8).bind λs7=>(bif ((s7.length:Int)==0)then(gP n wx 9).bind λH5=>(bif ((H5.length:Int)==1)then(bif (sq.1==9)then(bif sq.2 then ck (aE (sub ([(fB.mk (⟨#[120]⟩) 1 0 (⟨#[121]⟩) (⟨#[]⟩) ([])),(fB.mk (⟨#[121]⟩) 1 0 (⟨#[120]⟩) (⟨#[]⟩) ([]))]:List fB) 0 2).length 2)<|(gP n (bR.mk (sub ([(fB.mk (⟨#[120]⟩) 1 0 (⟨#[121]⟩) (⟨#[]⟩) ([])),(fB.mk (⟨#[121]⟩) 1 0 (⟨#[120]⟩) (⟨#[]⟩) ([]))]:List fB) 0 2) m9.bp m9.aw m9.az m9.cm m9.b8 m9.cD m9.b9 m9.land m9.cC m9.windows m9.built m9.base) 0).bind λqv=>ck (aE (sub ([⟨#[120]⟩,⟨#[121]⟩]:List ByteArray) 0 2).length 2)<|ck (aE (sub qv 0 qv.length).length qv.length)<|ck (aE (sub ([(aC.mk 3 0 (sub ([⟨#[120]⟩,⟨#[121]⟩]:List ByteArray) 0 2) 0 0 0 0 0 0)]:List aC) 0 1).length 1)<|(Dt n (sub qv 0 qv.length) (sub ([(aC.mk 3 0 (sub ([⟨#[120]⟩,⟨#[121]⟩]:List ByteArray) 0 2) 0 0 0 0 0 0)]:List aC) 0 1)).bind λH4=>some H4 else some false)else some false)else some false)else some false)).bind λv2=>(bif v1 then some v2 else some false)
def Ba(rc:(bP)->Option Int)(a0:bP):Stp (Int×Int) Int
 |(v1,v2)=>(bif decide (v2<a0.args.length)then(bj a0.args v2).bind λx1=>(rc x1).bind λr1=>some (.inl ((i64.wrap (v1+r1)),(i64.wrap (v2+1))))else some (.inr v1))
def Fe(rc:(bP)->Option Int)(a0:bP):Option Int:=
 (iter (Ba rc a0) n (1,0)).bind λw1=>some w1
def Ja(rc:(bP)->Option Int):cx xx:=⟨[.d (.st SI.Expr)],[.d (.int .i64)],λa=>rc a.1,none⟩
def vR(n:Nat):Nat->(bP)->Option Int
 | 0=>λ_=>none
 |m+1=>Fe n (vR n m)
def Jb(a0:bP):Option Int:=vR n n a0
def uL(a0:bn):Stp Int (Unit⊕Bool)
 |v2=>(bif decide (v2<a0.defs.length)then(bj a0.defs v2).bind λx1=>(Jb n (bP.mk x1.eW x1.gp x1.fW x1.ep x1.c8)).bind λr1=>(bif decide (r1>30)then(some false).map λa=>.inr (.inr a)else some (.inl (i64.wrap (v2+1))))else some (.inr (.inl ())))
def uM(a0:bn):Stp Int (Unit⊕Bool)
 |v3=>(bif decide (v3<a0.rules.length)then((bj a0.rules v3).bind λx2=>(Jb n (bP.mk x2.lw x2.m8 x2.m7 x2.ky x2.gO)).bind λr2=>(bif decide (r2>30)then some true else(bj a0.rules v3).bind λx3=>(bif decide ((x3.zones.length:Int)>5)then some true else(bj a0.rules v3).bind λx4=>some (decide ((x4.except.length:Int)>5))))).bind λv4=>(bif v4 then(some false).map λa=>.inr (.inr a)else some (.inl (i64.wrap (v3+1))))else some (.inr (.inl ())))
def uN(a0:bn):Stp Int (Unit⊕Bool)
 |v5=>(bif decide (v5<a0.tables.length)then(bj a0.tables v5).bind λx5=>(bif decide ((x5.rows.length:Int)>8)then(some false).map λa=>.inr (.inr a)else some (.inl (i64.wrap (v5+1))))else some (.inr (.inl ())))
def uO(a0:bn):Stp Int (Unit⊕Bool)
 |v6=>(bif decide (v6<a0.zones.length)then(bj a0.zones v6).bind λx6=>(bif decide ((x6.corners.length:Int)>12)then(some false).map λa=>.inr (.inr a)else some (.inl (i64.wrap (v6+1))))else some (.inr (.inl ())))
def uP(a0:bn):Stp Int (Unit⊕Bool)
 |v7=>(bif decide (v7<a0.caps.length)then(bj a0.caps v7).bind λx7=>(bif decide ((x7.corners.length:Int)>12)then(some false).map λa=>.inr (.inr a)else some (.inl (i64.wrap (v7+1))))else some (.inr (.inl ())))
def xq(a0:bn):Option Bool:=
 ((bif decide ((a0.defs.length:Int)>5)then some true else(bif decide ((a0.rules.length:Int)>5)then some true else(bif decide ((a0.tables.length:Int)>4)then some true else(bif decide ((a0.zones.length:Int)>5)then some true else some (decide ((a0.caps.length:Int)>3))))))).bind λv1=>(bif v1 then some false else dn (iter (uL n a0) n 0) λ()=>dn (iter (uM n a0) n 0) λ()=>dn (iter (uN a0) n 0) λ()=>dn (iter (uO a0) n 0) λ()=>dn (iter (uP a0) n 0) λ()=>some true)
def wF(a0:ax):Option Bool:=
 (bif decide (a0.x0>=0)then(bif decide (a0.x0<a0.x1)then(bif decide (a0.x1<=1048576)then(bif decide (a0.y0>=0)then(bif decide (a0.y0<a0.y1)then some (decide (a0.y1<=1048576))else some false)else some false)else some false)else some false)else some false)
def rz(a0:List Int)(v1:Int)(v2:List Int):Stp Int Int
 |v3=>((bif decide (v3>0)then ck (cM (i64.wrap (v3-1)) v2.length)<|(bj v2 ((0:Nat)+(i64.wrap (v3-1)):Int)).bind λx1=>(bj a0 v1).bind λx2=>some (decide (x1>x2))else some false)).bind λv4=>(bif v4 then some (.inl (i64.wrap (v3-1)))else some (.inr v3))
def rC(w1:Int)(r1:List Int):Stp (Int×(List Int)) (List Int)
 |(v6,v7)=>(bif decide (v6>w1)then ck (cM (i64.wrap (v6-1)) r1.length)<|(bj v7 ((0:Nat)+(i64.wrap (v6-1)):Int)).bind λx5=>ck (cM v6 r1.length)<|(bj v7 ((0:Nat)+v6:Int)).bind λx6=>some (.inl ((i64.wrap (v6-1)),(v7.set ((0:Nat)+v6:Int).toNat x5)))else some (.inr v7))
def wG(a0:List Int):Stp (Int×(List Int)) (List Int)
 |(v1,v2)=>(bif decide (v1<a0.length)then((iter (rz a0 v1 v2) n (v2.length:Nat)).bind λw1=>((bif decide (w1>0)then ck (cM (i64.wrap (w1-1)) v2.length)<|(bj v2 ((0:Nat)+(i64.wrap (w1-1)):Int)).bind λx3=>(bj a0 v1).bind λx4=>some (x3==x4)else some false)).bind λv5=>(bif v5 then ck (aE v2.length v2.length)<|some v2 else ck (bH v2.length v2.length (sub ([0]:List Int) 0 1).length 1 8)<|iM (v2++(sub ([0]:List Int) 0 1)) λr1=>(iter (rC w1 r1) n ((i64.wrap ((r1.length:Nat)-1)),r1)).bind λw2=>(bj a0 v1).bind λx7=>ck (cM w1 r1.length)<|(bj w2 ((0:Nat)+w1:Int)).bind λx8=>ck (aE r1.length (w2.set ((0:Nat)+w1:Int).toNat x7).length)<|some (w2.set ((0:Nat)+w1:Int).toNat x7)):Option ((List Int))).bind λv8=>ck (aE v8.length v8.length)<|some (.inl ((i64.wrap (v1+1)),v8))else ck (aE v2.length v2.length)<|some (.inr v2))
def Ff(a0:List Int):Option (List Int):=
 ck (aE 0 ([]:List Int).length)<|(iter (wG n a0) n (0,[])).bind λw3=>ck (aE (sub w3 0 w3.length).length w3.length)<|some (sub w3 0 w3.length)
def yI(a0:List ax):Stp (Int×(List Int)) (List Int)
 |(v1,v2)=>(bif decide (v1<a0.length)then(bj a0 v1).bind λx1=>(bj a0 v1).bind λx2=>ck (bH v2.length v2.length (sub ([x1.x0,x2.x1]:List Int) 0 2).length 2 8)<|iM (v2++(sub ([x1.x0,x2.x1]:List Int) 0 2)) λr1=>ck (aE r1.length r1.length)<|some (.inl ((i64.wrap (v1+1)),r1))else ck (aE v2.length v2.length)<|some (.inr v2))
def Fg(a1:List ax):Stp (Int×(List Int)) (List Int)
 |(v3,v4)=>(bif decide (v3<a1.length)then(bj a1 v3).bind λx3=>(bj a1 v3).bind λx4=>ck (bH v4.length v4.length (sub ([x3.x0,x4.x1]:List Int) 0 2).length 2 8)<|iM (v4++(sub ([x3.x0,x4.x1]:List Int) 0 2)) λr2=>ck (aE r2.length r2.length)<|some (.inl ((i64.wrap (v3+1)),r2))else ck (aE v4.length v4.length)<|some (.inr v4))
def Ky(a0:List ax)(a1:List ax):Option (List Int):=
 ck (aE 0 ([]:List Int).length)<|(iter (yI a0) n (0,[])).bind λw1=>ck (aE w1.length w1.length)<|(iter (Fg a1) n (0,w1)).bind λw2=>ck (aE (sub w2 0 w2.length).length w2.length)<|(Ff n (sub w2 0 w2.length)).bind λr3=>ck (aE (sub r3 0 r3.length).length r3.length)<|some (sub r3 0 r3.length)
def rD(a0:List ax)(v1:Int)(r1:List Int)(r2:List Int):Stp (Int×(List Int)×(List Int)) (Int×(List Int)×(List Int))
 |(v5,v6,v7)=>((bif decide (v5>0)then ck (cM (i64.wrap (v5-1)) r1.length)<|(bj v6 ((0:Nat)+(i64.wrap (v5-1)):Int)).bind λx3=>(bj a0 v1).bind λx4=>some (decide (x3>x4.y0))else some false)).bind λv8=>(bif v8 then ck (cM (i64.wrap (v5-1)) r1.length)<|(bj v6 ((0:Nat)+(i64.wrap (v5-1)):Int)).bind λx5=>ck (cM v5 r1.length)<|(bj v6 ((0:Nat)+v5:Int)).bind λx6=>ck (cM (i64.wrap (v5-1)) r2.length)<|(bj v7 ((0:Nat)+(i64.wrap (v5-1)):Int)).bind λx7=>ck (cM v5 r2.length)<|(bj v7 ((0:Nat)+v5:Int)).bind λx8=>some (.inl ((i64.wrap (v5-1)),(v6.set ((0:Nat)+v5:Int).toNat x5),(v7.set ((0:Nat)+v5:Int).toNat x7)))else some (.inr (v5,v6,v7)))
def rE(a0:List ax)(a1:Int):Stp (Int×(List Int)×(List Int)) ((List Int)×(List Int))
 |(v1,v2,v3)=>(bif decide (v1<a0.length)then(((bj a0 v1).bind λx1=>(bif decide (x1.x0>a1)then some true else(bj a0 v1).bind λx2=>some (decide (x2.x1<=a1)))).bind λv4=>(bif v4 then ck (aE v2.length v2.length)<|ck (aE v3.length v3.length)<|some (v2,v3)else ck (bH v2.length v2.length (sub ([0]:List Int) 0 1).length 1 8)<|iM (v2++(sub ([0]:List Int) 0 1)) λr1=>ck (bH v3.length v3.length (sub ([0]:List Int) 0 1).length 1 8)<|iM (v3++(sub ([0]:List Int) 0 1)) λr2=>(iter (rD a0 v1 r1 r2) n ((v2.length:Nat),r1,r2)).bind λ(w1,w2,w3)=>(bj a0 v1).bind λx9=>ck (cM w1 r1.length)<|(bj w2 ((0:Nat)+w1:Int)).bind λx10=>(bj a0 v1).bind λGT=>ck (cM w1 r2.length)<|(bj w3 ((0:Nat)+w1:Int)).bind λBs=>ck (aE r1.length (w2.set ((0:Nat)+w1:Int).toNat x9.y0).length)<|ck (aE r2.length (w3.set ((0:Nat)+w1:Int).toNat GT.y1).length)<|some ((w2.set ((0:Nat)+w1:Int).toNat x9.y0),(w3.set ((0:Nat)+w1:Int).toNat GT.y1))):Option ((List Int)×(List Int))).bind λ(v9,v10)=>ck (aE v9.length v9.length)<|ck (aE v10.length v10.length)<|some (.inl ((i64.wrap (v1+1)),v9,v10))else ck (aE v2.length v2.length)<|ck (aE v3.length v3.length)<|some (.inr (v2,v3)))
def rF(w4:List Int)(w5:List Int):Stp (Int×(List Int)) (List Int)
 |(v11,v12)=>(bif decide (v11<(w4.length:Nat))then(((bif decide ((v12.length:Int)>0)then ck (cM v11 w4.length)<|(bj w4 ((0:Nat)+v11:Int)).bind λzg=>ck (cM (i64.wrap ((v12.length:Nat)-1)) v12.length)<|(bj v12 ((0:Nat)+(i64.wrap ((v12.length:Nat)-1)):Int)).bind λTo=>some (decide (zg<=To))else some false)).bind λv13=>(bif v13 then ck (cM (i64.wrap ((v12.length:Nat)-1)) v12.length)<|(bj v12 ((0:Nat)+(i64.wrap ((v12.length:Nat)-1)):Int)).bind λOk=>ck (cM v11 w5.length)<|(bj w5 ((0:Nat)+v11:Int)).bind λOf=>ck (cM (i64.wrap ((v12.length:Nat)-1)) v12.length)<|(bj v12 ((0:Nat)+(i64.wrap ((v12.length:Nat)-1)):Int)).bind λx17=>ck (aE v12.length (v12.set ((0:Nat)+(i64.wrap ((v12.length:Nat)-1)):Int).toNat (max Ok Of)).length)<|some (v12.set ((0:Nat)+(i64.wrap ((v12.length:Nat)-1)):Int).toNat (max Ok Of))else ck (cM v11 w4.length)<|(bj w4 ((0:Nat)+v11:Int)).bind λx18=>ck (cM v11 w5.length)<|(bj w5 ((0:Nat)+v11:Int)).bind λx19=>ck (bH v12.length v12.length (sub ([x18,x19]:List Int) 0 2).length 2 8)<|iM (v12++(sub ([x18,x19]:List Int) 0 2)) λr3=>ck (aE r3.length r3.length)<|some r3):Option ((List Int))).bind λv14=>ck (aE v14.length v14.length)<|some (.inl ((i64.wrap (v11+1)),v14))else ck (aE v12.length v12.length)<|some (.inr v12))
def zy(a0:List ax)(a1:Int):Option (List Int):=
 ck (aE 0 ([]:List Int).length)<|ck (aE 0 ([]:List Int).length)<|(iter (rE n a0 a1) n (0,[],[])).bind λ(w4,w5)=>ck (aE 0 ([]:List Int).length)<|(iter (rF w4 w5) n (0,[])).bind λw6=>ck (aE (sub w6 0 w6.length).length w6.length)<|some (sub w6 0 w6.length)
def uQ(a0:List Int)(a1:List Int)(a2:Int):Stp (Int×Int×Bool×(List Int)) (List Int)
 |(v1,v2,v3,v4)=>((bif decide (v1<a0.length)then some true else some (decide (v2<a1.length)))).bind λv5=>(bif v5 then(((bif decide (v1<a0.length)then(bif decide (v2>=a1.length)then some true else(bj a0 v1).bind λx1=>(bj a1 (min v2 (i64.wrap (a1.length-1)))).bind λx2=>some (decide (x1<=x2)))else some false)).bind λv6=>(bif v6 then(bj a0 v1).bind λx3=>some x3 else(bj a1 v2).bind λx4=>some x4):Option Int).bind λv7=>(((bif decide (v1<a0.length)then(bj a0 v1).bind λx5=>some (x5==v7)else some false)).bind λv8=>(bif v8 then some (i64.wrap (v1+1))else some v1):Option Int).bind λv9=>(((bif decide (v2<a1.length)then(bj a1 v2).bind λx6=>some (x6==v7)else some false)).bind λv10=>(bif v10 then some (i64.wrap (v2+1))else some v2):Option Int).bind λv11=>ck (2 !=0)<|ck (2 !=0)<|((bif ((Int.tmod v9 2)==1)then some true else some ((Int.tmod v11 2)==1))).bind λv12=>((bif (a2==1)then(bif ((Int.tmod v9 2)==1)then some ((Int.tmod v11 2)==1)else some false)else some v12)).bind λv13=>((bif (a2==2)then(bif ((Int.tmod v9 2)==1)then some (!((Int.tmod v11 2)==1))else some false)else some v13)).bind λv14=>((bif (!(v14==v3))then ck (bH v4.length v4.length (sub ([v7]:List Int) 0 1).length 1 8)<|iM (v4++(sub ([v7]:List Int) 0 1)) λr1=>ck (aE r1.length r1.length)<|some r1 else ck (aE v4.length v4.length)<|some v4):Option ((List Int))).bind λv15=>ck (aE v15.length v15.length)<|some (.inl (v9,v11,v14,v15))else ck (aE v4.length v4.length)<|some (.inr v4))
def Bb(a0:List Int)(a1:List Int)(a2:Int):Option (List Int):=
 ck (aE 0 ([]:List Int).length)<|(iter (uQ a0 a1 a2) n (0,0,false,[])).bind λw1=>ck (aE (sub w1 0 w1.length).length w1.length)<|some (sub w1 0 w1.length)
def Bc(a0:List Int)(a1:List Int):Stp Int (Unit⊕Bool)
 |v1=>(bif decide (v1<a0.length)then(bj a0 v1).bind λx1=>(bj a1 v1).bind λx2=>(bif (x1 !=x2)then(some false).map λa=>.inr (.inr a)else some (.inl (i64.wrap (v1+1))))else some (.inr (.inl ())))
def Oz(a0:List Int)(a1:List Int):Option Bool:=
 (bif (a0.length !=(a1.length:Int))then some false else dn (iter (Bc a0 a1) n 0) λ()=>some true)
def xu(r1:List Int)(v2:Int)(v3:List ax):Stp (Int×(List ax)) (List ax)
 |(v6,v7)=>(bif decide (v6<(v3.length:Nat))then ck (cM (i64.wrap (v2+1)) r1.length)<|(bj r1 ((0:Nat)+(i64.wrap (v2+1)):Int)).bind λx3=>ck (cM v6 v3.length)<|(bj v7 ((0:Nat)+v6:Int)).bind λx4=>some (.inl ((i64.wrap (v6+1)),(v7.set ((0:Nat)+v6:Int).toNat (ax.mk x4.x0 x4.y0 x3 x4.y1))))else some (.inr v7))
def xw(r1:List Int)(v2:Int)(r4:List Int):Stp (Int×(List ax)) (List ax)
 |(v8,v9)=>(bif decide ((i64.wrap (v8+1))<(r4.length:Nat))then ck (cM v2 r1.length)<|(bj r1 ((0:Nat)+v2:Int)).bind λx5=>ck (cM v8 r4.length)<|(bj r4 ((0:Nat)+v8:Int)).bind λx6=>ck (cM (i64.wrap (v2+1)) r1.length)<|(bj r1 ((0:Nat)+(i64.wrap (v2+1)):Int)).bind λx7=>ck (cM (i64.wrap (v8+1)) r4.length)<|(bj r4 ((0:Nat)+(i64.wrap (v8+1)):Int)).bind λx8=>ck (bH v9.length v9.length (sub ([(ax.mk x5 x6 x7 x8)]:List ax) 0 1).length 1 32)<|iM (v9++(sub ([(ax.mk x5 x6 x7 x8)]:List ax) 0 1)) λr6=>ck (aE r6.length r6.length)<|some (.inl ((i64.wrap (v8+2)),r6))else ck (aE v9.length v9.length)<|some (.inr v9))
def Bd(a0:List ax)(a1:List ax)(a2:Int)(r1:List Int):Stp (Int×Int×(List ax)×(List Int)) (List ax)
 |(v1,v2,v3,v4)=>(bif decide ((i64.wrap (v2+1))<(r1.length:Nat))then(ck (cM v2 r1.length)<|(bj r1 ((0:Nat)+v2:Int)).bind λx1=>(zy n a0 x1).bind λr2=>ck (cM v2 r1.length)<|(bj r1 ((0:Nat)+v2:Int)).bind λx2=>(zy n a1 x2).bind λr3=>ck (aE (sub r2 0 r2.length).length r2.length)<|ck (aE (sub r3 0 r3.length).length r3.length)<|(Bb n (sub r2 0 r2.length) (sub r3 0 r3.length) a2).bind λr4=>((bif decide (v2>0)then(bif decide ((r4.length:Int)>0)then ck (aE (sub r4 0 r4.length).length r4.length)<|ck (aE (sub v4 0 v4.length).length v4.length)<|(Oz n (sub r4 0 r4.length) (sub v4 0 v4.length)).bind λr5=>some r5 else some false)else some false)).bind λv5=>(bif v5 then(iter (xu r1 v2 v3) n (v1,v3)).bind λw1=>ck (aE v3.length w1.length)<|ck (aE v4.length v4.length)<|some (v1,w1,v4)else ck (aE v3.length v3.length)<|(iter (xw r1 v2 r4) n (0,v3)).bind λw2=>ck (aE w2.length w2.length)<|ck (aE r4.length r4.length)<|some ((v3.length:Nat),w2,r4)):Option (Int×(List ax)×(List Int))).bind λ(v10,v11,v12)=>ck (aE v11.length v11.length)<|ck (aE v12.length v12.length)<|some (.inl (v10,(i64.wrap (v2+1)),v11,v12))else ck (aE v3.length v3.length)<|some (.inr v3))
def OA(a0:List ax)(a1:List ax)(a2:Int):Option (List ax):=
 (Ky n a0 a1).bind λr1=>ck (aE 0 ([]:List ax).length)<|ck (aE 0 ([]:List Int).length)<|(iter (Bd n a0 a1 a2 r1) n (0,0,[],[])).bind λw3=>ck (aE (sub w3 0 w3.length).length w3.length)<|some (sub w3 0 w3.length)
def Kz(a0:List ax):Stp Int (Unit⊕((List ax)×Int))
 |v1=>(bif decide (v1<a0.length)then(bj a0 v1).bind λx1=>(wF x1).bind λr1=>(bif (!r1)then(some ([],1)).map λa=>.inr (.inr a)else some (.inl (i64.wrap (v1+1))))else some (.inr (.inl ())))
def S4(a0:List ax):Option ((List ax)×Int):=
 dn (iter (Kz a0) n 0) λ()=>(bif decide ((a0.length:Int)>400)then some ([],6)else(OA n a0 ([]) 0).bind λr2=>(bif decide ((r2.length:Int)>200)then some ([],6)else ck (aE (sub r2 0 r2.length).length r2.length)<|some ((sub r2 0 r2.length),0)))
def Be(a0:List ax)(a1:List ax):Stp Int (Unit⊕Bool)
 |v1=>(bif decide (v1<a0.length)then(bj a0 v1).bind λx1=>(bj a1 v1).bind λx2=>(bif (!((x1.x0==x2.x0)&&((x1.y0==x2.y0)&&((x1.x1==x2.x1)&&((x1.y1==x2.y1)&&true)))))then(some false).map λa=>.inr (.inr a)else some (.inl (i64.wrap (v1+1))))else some (.inr (.inl ())))
def OC(a0:List ax)(a1:List ax):Option Bool:=
 (bif (a0.length !=(a1.length:Int))then some false else dn (iter (Be a0 a1) n 0) λ()=>some true)
def KA(a0:List ax):Option Bool:=
 (S4 n a0).bind λr1=>(bif (r1.2==0)then ck (aE (sub r1.1 0 r1.1.length).length r1.1.length)<|(OC n (sub r1.1 0 r1.1.length) a0).bind λr2=>some r2 else some false)
def wH(a0:List ax)(x1:ax):Stp (Int×Int×Int×Int×Int) (Int×Int×Int×Int)
 |(v2,v3,v4,v5,v6)=>(bif decide (v2<a0.length)then(bj a0 v2).bind λx2=>(bj a0 v2).bind λx3=>(bj a0 v2).bind λx4=>(bj a0 v2).bind λx5=>some (.inl ((i64.wrap (v2+1)),(min v3 x2.x0),(min v4 x3.y0),(max v5 x4.x1),(max v6 x5.y1)))else some (.inr (v3,v4,v5,v6)))
def Fh(a0:List ax):Option (ax×Bool):=
 ((bif ((a0.length:Int)==0)then some true else(KA n a0).bind λr1=>some (!r1))).bind λv1=>(bif v1 then some ((ax.mk 0 0 0 0),false)else(bj a0 0).bind λx1=>(iter (wH a0 x1) n (1,x1.x0,x1.y0,x1.x1,x1.y1)).bind λ(w1,w2,w3,w4)=>some ((ax.mk w1 w2 w3 w4),true))
def Fj(a0:bW):Option Bool:=
 (bif decide ((a0.area.length:Int)>4)then some false else(Fh n a0.area).bind λr1=>(bif (!r1.2)then some true else(bif decide ((i64.wrap (r1.1.x1-r1.1.x0))<=4)then some true else some (decide ((i64.wrap (r1.1.y1-r1.1.y0))<=4)))))
def Fp(a0:bR):Stp Int (Unit⊕Bool)
 |v2=>(bif decide (v2<a0.land.length)then(bj a0.land v2).bind λx1=>(Fj n x1).bind λr2=>(bif (!r2)then(some false).map λa=>.inr (.inr a)else some (.inl (i64.wrap (v2+1))))else some (.inr (.inl ())))
def Fq(a0:bR):Stp Int (Unit⊕Bool)
 |v3=>(bif decide (v3<a0.cC.length)then(bj a0.cC v3).bind λx2=>(bif decide ((x2.area.length:Int)>4)then(some false).map λa=>.inr (.inr a)else some (.inl (i64.wrap (v3+1))))else some (.inr (.inl ())))
def U7(a0:bR):Option Bool:=
 ((xq n (bn.mk a0.cj a0.bp a0.aw a0.az a0.cm a0.b8 a0.cD a0.b9)).bind λr1=>(bif (!r1)then some true else(bif decide ((a0.land.length:Int)>2)then some true else(bif decide ((a0.cC.length:Int)>3)then some true else some (decide ((a0.built.length:Int)>6)))))).bind λv1=>(bif v1 then some false else dn (iter (Fp n a0) n 0) λ()=>dn (iter (Fq a0) n 0) λ()=>some true)
def tq(a2:ByteArray)(r1:List ByteArray):Stp Int (Unit⊕(Unit⊕(Int⊕(Unit⊕Bool))))
 |v2=>(bif decide (v2<(r1.length:Nat))then ck (cM v2 r1.length)<|(bj r1 ((0:Nat)+v2:Int)).bind λx3=>(bif (ByteArray.toList x3==ByteArray.toList a2)then(((some true).map λa=>.inr (.inr a)).map .inr).map λa=>.inr (.inr a)else some (.inl (i64.wrap (v2+1))))else some (.inr (.inl ())))
def Bf(a0:bn)(a1:ByteArray)(a2:ByteArray):Stp Int (Unit⊕Bool)
 |v1=>(bif decide (v1<a0.defs.length)then dn ((bj a0.defs v1).bind λx1=>(bif (!(ByteArray.toList x1.name==ByteArray.toList a1))then some (.inl ())else(bj a0.defs v1).bind λx2=>(qp (bP.mk x2.eW x2.gp x2.fW x2.ep x2.c8)).bind λr1=>dn (iter (tq a2 r1) n 0) λ()=>some (.inl ())):Option ((Unit)⊕_)) λ()=>some (.inl (i64.wrap (v1+1)))else some (.inr (.inl ())))
def OD(a0:bn)(a1:ByteArray)(a2:ByteArray):Option Bool:=
 dn (iter (Bf n a0 a1 a2) n 0) λ()=>some false
def p9(a0:bn)(x3:aC):Stp Int (Unit⊕(Int⊕(Int×Bool)))
 |v2=>(bif decide (v2<x3.names.length)then(bj x3.names v2).bind λx4=>ck ((x3.names.length:Int) !=0)<|(bj x3.names (Int.tmod (i64.wrap (v2+1)) (x3.names.length:Int))).bind λx5=>(OD n a0 x4 x5).bind λr2=>(bif (!r2)then((some (0,false)).map .inr).map λa=>.inr (.inr a)else some (.inl (i64.wrap (v2+1))))else some (.inr (.inl ())))
def nJ(a0:bn)(a1:List aC)(v3:Int)(r4:List Int):Stp (Int×Int) Int
 |(v5,v6)=>((bif decide (v6<a0.zones.length)then some ((r4.length:Nat)==(a0.zones.length:Int))else some false)).bind λv7=>(bif v7 then((ck (cM v6 r4.length)<|(bj r4 ((0:Nat)+v6:Int)).bind λx9=>(bif (x9==1)then(bj a0.zones v6).bind λx10=>(bif (!x10.overlay)then(bj a0.zones v6).bind λGT=>(bj a1 v3).bind λBs=>(bj Bs.names 0).bind λzg=>(bif (ByteArray.toList GT.name==ByteArray.toList zg)then some true else(bj a0.zones v6).bind λTo=>(bj a1 v3).bind λOk=>(bj Ok.names 1).bind λOf=>some (ByteArray.toList To.name==ByteArray.toList Of))else some false)else some false)).bind λv8=>(bif v8 then some (i64.wrap (v5+1))else some v5):Option Int).bind λv9=>some (.inl (v9,(i64.wrap (v6+1))))else some (.inr v5))
def tu(a0:bn)(a1:List aC):Option (Int×Bool):=
 (fQ n a0).bind λr1=>dn ((bif (r1.2.2==16)then((bif ((a1.length:Int)==0)then some true else(bj a1 0).bind λx1=>(bif (x1.kind !=3)then some true else(bj a1 0).bind λx2=>(bif (x2.names.length !=(r1.2.1.length:Int))then some true else some ((r1.2.1.length:Int)==0))))).bind λv1=>(bif v1 then(some (0,false)).map .inr else(bj a1 0).bind λx3=>dn (iter (p9 n a0 x3) n 0) λ()=>some (.inl (i64.wrap (0+1))))else some (.inl 0))) λv3=>(gT n a0).bind λr3=>dn ((bif r3.2.2 then((bif decide (a1.length<=v3)then some true else(bj a1 v3).bind λx6=>(bif (x6.kind !=2)then some true else(bj a1 v3).bind λx7=>(bif ((x7.names.length:Int) !=2)then some true else some ((r3.1.length:Int) !=2))))).bind λv4=>(bif v4 then(some (0,false)).map .inr else(bj a1 v3).bind λx8=>ck (aE (sub ([(ax.mk x8.k8 x8.k7 (i64.wrap (x8.k8+1)) (i64.wrap (x8.k7+1)))]:List ax) 0 1).length 1)<|(jC n a0 (sub ([(ax.mk x8.k8 x8.k7 (i64.wrap (x8.k8+1)) (i64.wrap (x8.k7+1)))]:List ax) 0 1)).bind λr4=>(iter (nJ a0 a1 v3 r4) n (0,0)).bind λw1=>(bif decide (w1<2)then(some (0,false)).map .inr else some (.inl (i64.wrap (v3+1)))))else some (.inl v3))) λv10=>some (v10,true)
def oU(a0:bR)(a1:bW)(a2:bg)(a3:Int):Option Bool:=
 (mQ n a1 a2).bind λr1=>(bif r1.2 then(kL n a0 r1.1 a3).bind λr2=>some r2 else some false)
def qa(a0:bR)(a1:bW)(a3:Int)(r4:List bg):Stp (Bool×Int) Bool
 |(v1,v2)=>((bif decide (v2<((sub r4 0 r4.length).length:Int))then some (!v1)else some false)).bind λv3=>(bif v3 then(bj (sub r4 0 r4.length) v2).bind λx3=>(oU n a0 a1 x3 a3).bind λr5=>some (.inl (r5,(i64.wrap (v2+1))))else some (.inr v1))
def zA(r1:List aC)(r7:(List ByteArray)×Int):Stp (Bool×Int) Bool
 |(v6,v7)=>((bif decide (v7<(r7.1.length:Nat))then some v6 else some false)).bind λv8=>(bif v8 then ck (cM v7 r7.1.length)<|(bj r7.1 ((0:Nat)+v7:Int)).bind λx9=>ck (cM 0 r1.length)<|(bj r1 ((0:Nat)+0:Int)).bind λx10=>(bj x10.names v7).bind λGT=>some (.inl ((ByteArray.toList x9==ByteArray.toList GT),(i64.wrap (v7+1))))else some (.inr v6))
def U8(a0:bR)(a1:bW)(a2:List aC)(a3:Int):Option Bool:=
 ck (bH ([]:List aC).length 0 a2.length a2.length 88)<|iM ([]++a2) λr1=>(pq n (bn.mk a0.cj a0.bp a0.aw a0.az a0.cm a0.b8 a0.cD a0.b9) a1.area).bind λr2=>ck (aE (sub r2 0 r2.length).length r2.length)<|(j3 n (bn.mk a0.cj a0.bp a0.aw a0.az a0.cm a0.b8 a0.cD a0.b9) (sub r2 0 r2.length) a3).bind λr3=>(bif ((r3.length:Int)==0)then(bif ((r1.length:Int)==1)then ck (cM 0 r1.length)<|(bj r1 ((0:Nat)+0:Int)).bind λx1=>(bif (x1.kind==0)then ck (cM 0 r1.length)<|(bj r1 ((0:Nat)+0:Int)).bind λx2=>some ((x2.names.length:Int)==0)else some false)else some false)else ck (aE (sub ([a1]:List bW) 0 1).length 1)<|(kT n (sub ([a1]:List bW) 0 1)).bind λr4=>ck (aE (sub r4 0 r4.length).length r4.length)<|(iter (qa n a0 a1 a3 r4) n (false,0)).bind λw1=>(bif w1 then some ((r1.length:Int)==0)else((bif ((r1.length:Int) !=1)then some true else ck (cM 0 r1.length)<|(bj r1 ((0:Nat)+0:Int)).bind λx4=>(bif (x4.kind !=1)then some true else(bif (((sub r4 0 r4.length).length:Int)==0)then ck (cM 0 r1.length)<|(bj r1 ((0:Nat)+0:Int)).bind λx5=>(bif (!((x5.i8==0)&&((x5.i7==0)&&((x5.ft==0)&&((x5.fY==0)&&true)))))then some true else ck (cM 0 r1.length)<|(bj r1 ((0:Nat)+0:Int)).bind λx6=>some (decide ((x6.names.length:Int)>0)))else some false)))).bind λv4=>(bif v4 then some false else(bif (((sub r4 0 r4.length).length:Int)==0)then some true else(bj (sub r4 0 r4.length) 0).bind λx7=>(mQ n a1 x7).bind λr6=>(mW n a0 r6.1 a3).bind λr7=>(ck (cM 0 r1.length)<|(bj r1 ((0:Nat)+0:Int)).bind λx8=>(bif ((r7.1.length:Nat)==(x8.names.length:Int))then some (decide ((r7.1.length:Int)>0))else some false)).bind λv5=>(iter (zA r1 r7) n (v5,0)).bind λw2=>(bif r6.2 then(bif (r7.2==0)then(bif w2 then ck (cM 0 r1.length)<|(bj r1 ((0:Nat)+0:Int)).bind λBs=>(bj (sub r4 0 r4.length) 0).bind λzg=>some ((Bs.i8==zg.lot)&&((Bs.i7==zg.use)&&((Bs.ft==zg.floors)&&((Bs.fY==zg.cE)&&true))))else some false)else some false)else some false)))))
def dG(a0:bR)(a1:Int)(r3:List aC):Stp (Int×Int) (Int⊕Bool)
 |(v2,v3)=>(bif decide (v3<a0.land.length)then ck (tT v2 v2 (sub r3 0 r3.length).length)<|(((bif decide (v2<((sub r3 0 r3.length).length:Int))then(bj (sub r3 0 r3.length) v2).bind λx3=>(bj a0.land v3).bind λx4=>(bif (x3.lot==x4.id)then(bj (sub r3 0 r3.length) v2).bind λx5=>(bif (x5.kind==0)then some true else(bj (sub r3 0 r3.length) v2).bind λx6=>some (x6.kind==1))else some false)else some false)).bind λv4=>(bif v4 then ck (tT v2 (i64.wrap (v2+1)) (sub r3 0 r3.length).length)<|some ((i64.wrap (v2+1)),(sub (sub r3 0 r3.length) (v2.toNat) ((i64.wrap (v2+1)).toNat-v2.toNat)))else some (v2,(sub (sub r3 0 r3.length) (v2.toNat) (v2.toNat-v2.toNat)))):Option (Int×(List aC))).bind λ(v5,v6)=>(bj a0.land v3).bind λx7=>(U8 n a0 x7 v6 a1).bind λr5=>(bif (!r5)then(some false).map λa=>.inr (.inr a)else some (.inl (v5,(i64.wrap (v3+1)))))else some (.inr (.inl v2)))
def rW(a0:bR)(a1:Int):Option Bool:=
 (Du n).bind λr1=>((U7 n a0).bind λr2=>(bif (!r2)then some true else(bif ((a0.land.length:Int)==2)then(bj a0.land 0).bind λx1=>(bj a0.land 1).bind λx2=>some (x1.id==x2.id)else some false))).bind λv1=>(bif v1 then some r1 else(gP n a0 a1).bind λr3=>ck (aE (sub r3 0 r3.length).length r3.length)<|(tu n (bn.mk a0.cj a0.bp a0.aw a0.az a0.cm a0.b8 a0.cD a0.b9) (sub r3 0 r3.length)).bind λr4=>(bif (!r4.2)then some false else dn (iter (dG n a0 a1 r3) n (r4.1,0)) λw1=>(bif r1 then some (w1==((sub r3 0 r3.length).length:Int))else some false)))
end
end Go.Proofs
