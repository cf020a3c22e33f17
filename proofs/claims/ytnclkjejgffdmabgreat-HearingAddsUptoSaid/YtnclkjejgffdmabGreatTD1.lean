import Derived.Test.YtnclkjejgffdmabGreatTBase
open Go.IntKind (i64)
namespace Go.Proofs
open Go.Gb Go.RowKit
noncomputable section
variable (n:Nat)
def tC(a0:Int)(a1:Int):Option aG:=
 ck (az (sub ([(bg.mk (⟨#[100,97,121,115]⟩) 5)]:List bg) 0 1).length 1)<|ck (az (sub ([(ax.mk 0 0 9 9)]:List ax) 0 1).length 1)<|ck (az (sub ([(ax.mk 9 0 12 9)]:List ax) 0 1).length 1)<|ck (az (sub ([(aF.mk 2 2 4 4 0 9 2 0 false)]:List aF) 0 1).length 1)<|ck (az (sub ([0]:List Int) 0 1).length 1)<|ck (az (sub ([(bQ.mk (⟨#[110,111,116,105,99,101]⟩) (sub ([(bg.mk (⟨#[100,97,121,115]⟩) 5)]:List bg) 0 1) 0)]:List bQ) 0 1).length 1)<|ck (az (sub ([(fE.mk 1 7 (sub ([(ax.mk 0 0 9 9)]:List ax) 0 1) ([])),(fE.mk 2 8 (sub ([(ax.mk 9 0 12 9)]:List ax) 0 1) ([]))]:List fE) 0 2).length 2)<|ck (az (sub ([(lu.mk (sub ([(aF.mk 2 2 4 4 0 9 2 0 false)]:List aF) 0 1) ([]))]:List lu) 0 1).length 1)<|ck (az (sub ([(aJ.mk 7 10 ([]) 0 (⟨#[]⟩) 0),(aJ.mk 8 a1 (sub ([0]:List Int) 0 1) 1 (⟨#[104,101,105,103,104,116]⟩) a0)]:List aJ) 0 2).length 2)<|some (aG.mk ([]) (sub ([(bQ.mk (⟨#[110,111,116,105,99,101]⟩) (sub ([(bg.mk (⟨#[100,97,121,115]⟩) 5)]:List bg) 0 1) 0)]:List bQ) 0 1) ([]) ([]) ([]) ([]) ([]) 0 (sub ([(fE.mk 1 7 (sub ([(ax.mk 0 0 9 9)]:List ax) 0 1) ([])),(fE.mk 2 8 (sub ([(ax.mk 9 0 12 9)]:List ax) 0 1) ([]))]:List fE) 0 2) ([]) ([]) ([]) ([]) 1 (sub ([(lu.mk (sub ([(aF.mk 2 2 4 4 0 9 2 0 false)]:List aF) 0 1) ([]))]:List lu) 0 1) 0 7 10 ([]) ([]) ([]) (sub ([(aJ.mk 7 10 ([]) 0 (⟨#[]⟩) 0),(aJ.mk 8 a1 (sub ([0]:List Int) 0 1) 1 (⟨#[104,101,105,103,104,116]⟩) a0)]:List aJ) 0 2))
def Gt(a0:List bQ)(a1:(bQ×Unit)->Option Bool):Stp Int (Unit⊕Int)
 |v1=>(bif decide (v1<a0.length)then(bj a0 v1).bind λx1=>(a1 (x1,())).bind λr1=>(bif r1 then(some v1).map λa=> .inr (.inr a)else some (.inl (i64.wrap (v1+1))))else some (.inr (.inl ())))
def og(a0:List bQ)(a1:(bQ×Unit)->Option Bool):Option Int:=
 dJ (iter (Gt a0 a1) n 0) λ()=>some (-1)
def abN(a0:bQ):Option Bool:=
 some (ByteArray.toList a0.name==ByteArray.toList (⟨#[110,111,116,105,99,101]⟩))
def abO(a0:bg)(a1:ByteArray):Option Bool:=
 some (ByteArray.toList a0.name==ByteArray.toList a1)
def Gu(a0:List bg)(a1:(bg×Unit)->Option Bool):Stp Int (Unit⊕Int)
 |v1=>(bif decide (v1<a0.length)then(bj a0 v1).bind λx1=>(a1 (x1,())).bind λr1=>(bif r1 then(some v1).map λa=> .inr (.inr a)else some (.inl (i64.wrap (v1+1))))else some (.inr (.inl ())))
def iX(a0:List bg)(a1:(bg×Unit)->Option Bool):Option Int:=
 dJ (iter (Gu a0 a1) n 0) λ()=>some (-1)
def QW(a0:bO)(a1:ByteArray):Option Int:=
 (og n a0.tables (λ (y1:bQ×Unit)=>abN y1.1)).bind λr1=>(bif decide (r1<0)then some (0:Int)else(bj a0.tables r1).bind λx1=>(iX n x1.rows (λ (y2:bg×Unit)=>abO y2.1 a1)).bind λr2=>(bif decide (r2<0)then some x1.rK else(bj x1.rows r2).bind λx2=>some x2.n))
def OA(a0:bO):Option Int:=
 (QW n a0 (⟨#[100,97,121,115]⟩)).bind λr1=>some (max (0:Int) r1)
def BM(a0:List dK):Option (List dK):=
 (bif a0.isEmpty then(both (some ([]:(List dK))) (ck (bJ ([]:List dK).length 0 a0.length a0.length 16)<|iH (([]:List dK)++a0) λr1=>ck (az (sub r1 0 r1.length).length r1.length)<|some (sub r1 0 r1.length)))else ck (bJ ([]:List dK).length 0 a0.length a0.length 16)<|iH (([]:List dK)++a0) λr2=>ck (az (sub r2 0 r2.length).length r2.length)<|some (sub r2 0 r2.length))
def vX(_:Nat)(a0:List dK)(a1:(dK×dK×Unit)->Option Int):Option (List dK):=Ov a0 a1
def nO(a0:dK)(a1:dK):Option Int:=
 some (i64.wrap (a0.from_ -a1.from_))
def qK(a0:List dK):Stp Int (Unit⊕((List dK)×Bool))
 |v1=>(bif decide (v1<(a0.length:Int))then(bj a0 v1).bind λx1=>((bif decide (x1.from_<0)then some true else(bif decide (x1.from_>(x1.to:Int))then some true else some (decide (x1.to>1073741824))))).bind λv2=>(bif v2 then(some (([]:(List dK)),false)).map λa=> .inr (.inr a)else some (.inl (i64.wrap (v1+1))))else some (.inr (.inl ())))
def qL(r1:List dK)(r2:List dK):Stp (Int×(List dK)) (List dK)
 |(v3,v4)=>(bif decide (v3<(r1.length:Int))then(ck (cP v3 r1.length)<|(bj r2 ((0:Nat)+v3:Int)).bind λx2=>((bif decide ((i64.wrap ((v4.length:Int) -1))>=0)then ck (cP (i64.wrap ((v4.length:Int) -1)) v4.length)<|(bj v4 ((0:Nat)+(i64.wrap ((v4.length:Int) -1)):Int)).bind λx3=>some (decide (x2.from_<=(x3.to:Int)))else some false)).bind λv5=>(bif v5 then ck (cP (i64.wrap ((v4.length:Int) -1)) v4.length)<|(bj v4 ((0:Nat)+(i64.wrap ((v4.length:Int) -1)):Int)).bind λx4=>ck (cP (i64.wrap ((v4.length:Int) -1)) v4.length)<|(bj v4 ((0:Nat)+(i64.wrap ((v4.length:Int) -1)):Int)).bind λx5=>ck (az v4.length (v4.set ((0:Nat)+(i64.wrap ((v4.length:Int) -1)):Int).toNat (dK.mk x5.from_ (max x4.to x2.to))).length)<|some (v4.set ((0:Nat)+(i64.wrap ((v4.length:Int) -1)):Int).toNat (dK.mk x5.from_ (max x4.to x2.to)))else ck (bJ v4.length v4.length (sub ([x2]:List dK) 0 1).length 1 16)<|iH (v4++(sub ([x2]:List dK) 0 1)) λr3=>ck (az r3.length r3.length)<|some r3):Option ((List dK))).bind λv6=>ck (az v6.length v6.length)<|some (.inl ((i64.wrap (v3+1)),v6))else ck (az v4.length v4.length)<|some (.inr v4))
def wK(a0:List dK):Option ((List dK)×Bool):=
 (bif decide ((a0.length:Int)>100)then some (([]:(List dK)),false)else(BM a0).bind λr1=>ck (az r1.length r1.length)<|(vX n r1 (λ (y1:dK×dK×Unit)=>nO y1.1 y1.2.1)).bind λr2=>dJ (iter (qK a0) n (0:Int)) λ()=>ck (az 0 ([]:List dK).length)<|(iter (qL r1 r2) n ((0:Int),([]:List dK))).bind λw1=>ck (az (sub w1 0 w1.length).length w1.length)<|some ((sub w1 0 w1.length),true))
def nP(a0:Int):Option Bool:=
 (bif decide (0<=(a0:Int))then some (decide (a0<=1073741824))else some false)
def lW(a0:List Int):Stp Int (Unit⊕Bool)
 |v1=>(bif decide (v1<(a0.length:Int))then(bj a0 v1).bind λx1=>((nP x1).bind λr1=>(bif (!r1)then some true else(bif decide (v1>0)then(bj a0 (i64.wrap (v1 -1))).bind λx2=>some (decide (x1<=(x2:Int)))else some false))).bind λv2=>(bif v2 then(some false).map λa=> .inr (.inr a)else some (.inl (i64.wrap (v1+1))))else some (.inr (.inl ())))
def uw(a0:List Int):Option Bool:=
 (bif decide ((a0.length:Int)>1000)then some false else dJ (iter (lW a0) n (0:Int)) λ()=>some true)
def qM(a0:List Int)(a1:Int):Stp (Int×Int) Int
 |(v1,v2)=>(bif decide (v2<(a0.length:Int))then((bj a0 v2).bind λx1=>((bif decide (x1<(a1:Int))then ck (7 !=0)<|some (decide ((Int.tmod x1 7)<5))else some false)).bind λv3=>(bif v3 then some (i64.wrap (v1 -1))else some v1):Option Int).bind λv4=>some (.inl (v4,(i64.wrap (v2+1))))else some (.inr v1))
def ku(a0:List Int)(a1:Int):Option Int:=
 ck (7 !=0)<|ck (7 !=0)<|(iter (qM a0 a1) n ((i64.wrap ((i64.wrap ((i64.wrap (Int.tdiv a1 7))*5))+(min (Int.tmod a1 7) (5:Int)))),(0:Int))).bind λw1=>some w1
def pW(a0:List Int)(a1:List dK)(a2:Int)(a3:Int):Stp (Int×Int) Int
 |(v1,v2)=>(bif decide (v2<(a1.length:Int))then((bj a1 v2).bind λx1=>(bif decide ((max x1.from_ (i64.wrap (a2+1)))<=((min x1.to a3):Int))then(ku n a0 (i64.wrap ((min x1.to a3)+1))).bind λr3=>(ku n a0 (max x1.from_ (i64.wrap (a2+1)))).bind λr4=>some (i64.wrap (v1 -(i64.wrap (r3 -r4))))else some v1):Option Int).bind λv3=>some (.inl (v3,(i64.wrap (v2+1))))else some (.inr v1))
def uy(a0:List Int)(a1:List dK)(a2:Int)(a3:Int):Option Int:=
 (ku n a0 (i64.wrap (a3+1))).bind λr1=>(ku n a0 (i64.wrap (a2+1))).bind λr2=>(iter (pW n a0 a1 a2 a3) n ((i64.wrap (r1 -r2)),(0:Int))).bind λw1=>some w1
def jd(a0:Int)(a1:List Int)(a2:List dK)(a3:Int)(a4:Int):Option Bool:=
 (uy n a1 a2 a3 (i64.wrap ((i64.wrap (a3+1))+a0))).bind λr1=>some (decide (r1>=(a4:Int)))
def je(a1:(Int×Unit)->Option Bool):Stp (Int×Int) Int
 |(v1,v2)=>(bif decide (v1<(v2:Int))then ck (decide (0<=1)&&decide (1<=IntKind.u64.bits))<|(a1 ((i64.wrap ((IntKind.u64.wrap (i64.wrap (v1+v2)))/2 ^ (1:Int).toNat)),())).bind λr1=>(bif (!r1)then some (.inl ((i64.wrap ((i64.wrap ((IntKind.u64.wrap (i64.wrap (v1+v2)))/2 ^ (1:Int).toNat))+1)),v2))else some (.inl (v1,(i64.wrap ((IntKind.u64.wrap (i64.wrap (v1+v2)))/2 ^ (1:Int).toNat)))))else some (.inr v1))
def sort_Search(a0:Int)(a1:(Int×Unit)->Option Bool):Option Int:=
 (iter (je a1) n ((0:Int),a0)).bind λw1=>some w1
def gm(a0:List Int)(a1:List dK)(a2:Int)(a3:Int):Option (Int×Int):=
 (wK n a1).bind λr1=>ck (az (sub r1.1 0 r1.1.length).length r1.1.length)<|((bif (!r1.2)then some true else(uw n a0).bind λr2=>(bif (!r2)then some true else(nP a2).bind λr3=>(bif (!r3)then some true else(nP a3).bind λr4=>some (!r4))))).bind λv1=>(bif v1 then some ((0:Int),(1:Int))else(bif (a3==0)then some (a2,(0:Int))else(sort_Search n (i64.wrap (1073741824 -a2)) (λ (y1:Int×Unit)=>jd n y1.1 a0 (sub r1.1 0 r1.1.length) a2 a3)).bind λr5=>(bif (r5==((i64.wrap (1073741824 -a2)):Int))then some ((0:Int),(20:Int))else some ((i64.wrap ((i64.wrap (a2+1))+r5)),(0:Int)))))
def fu(a0:aG):Option (Int×Int):=
 (OA n (bO.mk a0.cj a0.aw a0.bp a0.aE a0.bk a0.br a0.cx a0.bu)).bind λr1=>(gm n a0.eL a0.stays a0.eC r1).bind λr2=>some (r2.1,r2.2)
def jf(a0:aG):Option Bool:=
 (bif decide (1<=(a0.claims.length:Int))then some (decide ((a0.claims.length:Int)<=300))else some false)
def qj(a0:aG)(a1:Int):Option Bool:=
 (fu n a0).bind λr1=>(bif (r1.2==0)then(bif decide (a0.eC<=(a1:Int))then some (decide (a1<=(r1.1:Int)))else some false)else some false)
def BN(a0:List ax):Option (List ax):=
 (bif a0.isEmpty then(both (some []) (ck (bJ ([]:List ax).length 0 a0.length a0.length 32)<|iH ([]++a0) λr1=>ck (az (sub r1 0 r1.length).length r1.length)<|some (sub r1 0 r1.length)))else ck (bJ ([]:List ax).length 0 a0.length a0.length 32)<|iH ([]++a0) λr2=>ck (az (sub r2 0 r2.length).length r2.length)<|some (sub r2 0 r2.length))
def yA(a0:List Int):Option (List Int):=
 (bif a0.isEmpty then(both (some []) (ck (bJ ([]:List Int).length 0 a0.length a0.length 8)<|iH ([]++a0) λr1=>ck (az (sub r1 0 r1.length).length r1.length)<|some (sub r1 0 r1.length)))else ck (bJ ([]:List Int).length 0 a0.length a0.length 8)<|iH ([]++a0) λr2=>ck (az (sub r2 0 r2.length).length r2.length)<|some (sub r2 0 r2.length))
def Dr(a0:fE):Option fE:=
 (BN a0.area).bind λr1=>(yA a0.from_).bind λr2=>ck (az (sub r1 0 r1.length).length r1.length)<|ck (az (sub r2 0 r2.length).length r2.length)<|some (fE.mk a0.id a0.owner (sub r1 0 r1.length) (sub r2 0 r2.length))
def sO(a0:List fE)(a1:Int):Stp Int (Unit⊕(fE×Bool))
 |v1=>(bif decide (v1<a0.length)then(bj a0 v1).bind λx1=>(bif (x1.id==a1)then(Dr x1).bind λr1=>(some (r1,true)).map λa=> .inr (.inr a)else some (.inl (i64.wrap (v1+1))))else some (.inr (.inl ())))
def qN(a0:List fE)(a1:Int):Option (fE×Bool):=
 dJ (iter (sO a0 a1) n 0) λ()=>some ((fE.mk 0 0 ([]) ([])),false)
def ql(a0:bO)(x1:lu):Stp (Int×Int) Int
 |(v3,v4)=>(bif decide (v4<(x1.bx.length:Int))then((bj x1.bx v4).bind λx2=>((bif decide (x2.use>=0)then some (decide (x2.use<6))else some false)).bind λv5=>(bif v5 then ck (cP x2.use 6)<|(bj ([⟨#[104,111,109,101]⟩,⟨#[115,104,111,112]⟩,⟨#[119,111,114,107]⟩,⟨#[112,97,114,107]⟩,⟨#[112,108,97,110,116]⟩,⟨#[104,97,108,108]⟩]:List ByteArray) x2.use).bind λx3=>(QW n a0 x3).bind λr1=>some (max v3 r1)else some v3):Option Int).bind λv6=>some (.inl (v6,(i64.wrap (v4+1))))else some (.inr v3))
def uz(a0:bO)(a1:aO):Stp (Int×Int) Int
 |(v1,v2)=>(bif decide (v2<(a1.phases.length:Int))then(bj a1.phases v2).bind λx1=>(iter (ql n a0 x1) n (v1,(0:Int))).bind λw1=>some (.inl (w1,(i64.wrap (v2+1))))else some (.inr v1))
def xw(a0:bO)(a1:aO):Option Int:=
 (iter (uz n a0 a1) n ((0:Int),(0:Int))).bind λw2=>some w2
def pX(a0:ax):Option Bool:=
 (bif decide (0<=a0.x0)then(bif decide (a0.x0<a0.x1)then(bif decide (a0.x1<=1048576)then(bif decide (0<=a0.y0)then(bif decide (a0.y0<a0.y1)then some (decide (a0.y1<=1048576))else some false)else some false)else some false)else some false)else some false)
def OC(a0:Unit)(a1:Int):Option (List ax):=
 (bif decide (a1<0)then none else(bif (decide ((i64.wrap (a1 -(i64.wrap (0 -0))))>0))then ck (qH (i64.wrap (a1 -(i64.wrap (0 -0)))) 32)<|ck (y9 0 0 ((i64.wrap (a1 -(i64.wrap (0 -0)))).toNat))<|ck (az (sub (List.replicate (i64.wrap (a1 -(i64.wrap (0 -0)))).toNat (ax.mk 0 0 0 0)) 0 0).length 0)<|some (sub (List.replicate (i64.wrap (a1 -(i64.wrap (0 -0)))).toNat (ax.mk 0 0 0 0)) 0 0)else some []))
def OD(a0:List (List ax)):Stp (Int×Int) Int
 |(v1,v2)=>(bif decide (v2<a0.length)then(bj a0 v2).bind λx1=>(bif decide ((i64.wrap (v1+x1.length))<0)then none else some (.inl ((i64.wrap (v1+x1.length)),(i64.wrap (v2+1)))))else some (.inr v1))
def OE(a0:List (List ax)):Stp (Int×(List ax)) (List ax)
 |(v3,v4)=>(bif decide (v3<a0.length)then(bj a0 v3).bind λx2=>ck (bJ v4.length v4.length x2.length x2.length 32)<|iH (v4++x2) λr2=>ck (az r2.length r2.length)<|some (.inl ((i64.wrap (v3+1)),r2))else ck (az v4.length v4.length)<|some (.inr v4))
def zu(a0:List (List ax)):Option (List ax):=
 (iter (OD a0) n (0,0)).bind λw1=>(OC () w1).bind λr1=>ck (az r1.length r1.length)<|(iter (OE a0) n (0,r1)).bind λw2=>ck (az (sub w2 0 w2.length).length w2.length)<|some (sub w2 0 w2.length)
def lX(_:Nat)(a0:List Int):Option (List Int):=OK a0
def OG(a0:List Int)(v1:Int):Stp (Int×Int×(List Int)) (Int×(List Int))
 |(v2,v3,v4)=>(bif decide (v3<((a0.length -v1.toNat):Nat))then(ck (cP v3 (a0.length -v1.toNat))<|(bj v4 (((0+v1.toNat):Nat)+v3:Int)).bind λx3=>ck (cP (i64.wrap (v3 -1)) (a0.length -v1.toNat))<|(bj v4 (((0+v1.toNat):Nat)+(i64.wrap (v3 -1)):Int)).bind λx4=>(bif (x3 !=x4)then ck (cP v3 (a0.length -v1.toNat))<|(bj v4 (((0+v1.toNat):Nat)+v3:Int)).bind λx5=>ck (cP v2 a0.length)<|(bj v4 ((0:Nat)+v2:Int)).bind λx6=>some ((i64.wrap (v2+1)),(v4.set ((0:Nat)+v2:Int).toNat x5))else some (v2,v4)):Option (Int×(List Int))).bind λ(v5,v6)=>some (.inl (v5,(i64.wrap (v3+1)),v6))else some (.inr (v2,v4)))
def OH(a0:List Int):Stp Int (Unit⊕(Unit×(List Int)))
 |v1=>(bif decide (v1<(a0.length:Nat))then ck (cP v1 a0.length)<|(bj a0 ((0:Nat)+v1:Int)).bind λx1=>ck (cP (i64.wrap (v1 -1)) a0.length)<|(bj a0 ((0:Nat)+(i64.wrap (v1 -1)):Int)).bind λx2=>(bif (x1==x2)then ck (y9 v1 (a0.length:Nat) a0.length)<|(iter (OG a0 v1) n (v1,1,a0)).bind λ(w1,w2)=>ck (y9 w1 (a0.length:Nat) a0.length)<|ck (y9 0 w1 a0.length)<|(ck (az (w1.toNat) (w1.toNat))<|ck (az (sub (w2.take (0+w1.toNat)) 0 (w1.toNat)).length (w1.toNat))<|some ((),(sub (w2.take (0+w1.toNat)) 0 (w1.toNat)))).map λa=> .inr (.inr a)else some (.inl (i64.wrap (v1+1))))else some (.inr (.inl ())))
def kH(a0:List Int):Option (Unit×(List Int)):=
 (bif decide ((a0.length:Int)<2)then ck (az a0.length a0.length)<|ck (az (sub a0 0 a0.length).length a0.length)<|some ((),(sub a0 0 a0.length))else dJ (iter (OH n a0) n 1) λ()=>ck (az a0.length a0.length)<|ck (az (sub a0 0 a0.length).length a0.length)<|some ((),(sub a0 0 a0.length)))
def vY(_:Nat)(a0:List aR)(a1:(aR×aR×Unit)->Option Int):Option (List aR):=Ov a0 a1
def cmp_isNaN_int(a0:Int):Option Bool:=
 some (a0 !=a0)
def cmp_Compare_int(a0:Int)(a1:Int):Option Int:=
 (cmp_isNaN_int a0).bind λr1=>(cmp_isNaN_int a1).bind λr2=>(bif r1 then(bif r2 then some 0 else some (-1))else(bif r2 then some 1 else(bif decide (a0<a1)then some (-1)else(bif decide (a0>a1)then some 1 else some 0))))
def yB(a0:aR)(a1:aR):Option Int:=
 (cmp_Compare_int a0.from_ a1.from_).bind λr1=>some r1
def uD(a0:List ax)(a1:Int):Stp (Int×(List aR)) (List aR)
 |(v1,v2)=>(bif decide (v1<a0.length)then((bj a0 v1).bind λx1=>((bif decide (x1.x0<=a1)then some (decide (a1<x1.x1))else some false)).bind λv3=>(bif v3 then ck (bJ v2.length v2.length (sub ([(aR.mk x1.y0 x1.y1)]:List aR) 0 1).length 1 16)<|iH (v2++(sub ([(aR.mk x1.y0 x1.y1)]:List aR) 0 1)) λr1=>ck (az r1.length r1.length)<|some r1 else ck (az v2.length v2.length)<|some v2):Option ((List aR))).bind λv4=>ck (az v4.length v4.length)<|some (.inl ((i64.wrap (v1+1)),v4))else ck (az v2.length v2.length)<|some (.inr v2))
def uE(w1:List aR)(r2:List aR):Stp (Int×(List aR)) (List aR)
 |(v5,v6)=>(bif decide (v5<(w1.length:Nat))then(ck (cP v5 w1.length)<|(bj r2 ((0:Nat)+v5:Int)).bind λx2=>((bif decide ((v6.length:Int)>0)then ck (cP (i64.wrap ((v6.length:Nat) -1)) v6.length)<|(bj v6 ((0:Nat)+(i64.wrap ((v6.length:Nat) -1)):Int)).bind λx3=>some (decide (x2.from_<=x3.to))else some false)).bind λv7=>(bif v7 then ck (cP (i64.wrap ((v6.length:Nat) -1)) v6.length)<|(bj v6 ((0:Nat)+(i64.wrap ((v6.length:Nat) -1)):Int)).bind λx4=>ck (cP (i64.wrap ((v6.length:Nat) -1)) v6.length)<|(bj v6 ((0:Nat)+(i64.wrap ((v6.length:Nat) -1)):Int)).bind λx5=>ck (az v6.length (v6.set ((0:Nat)+(i64.wrap ((v6.length:Nat) -1)):Int).toNat (aR.mk x5.from_ (max x4.to x2.to))).length)<|some (v6.set ((0:Nat)+(i64.wrap ((v6.length:Nat) -1)):Int).toNat (aR.mk x5.from_ (max x4.to x2.to)))else ck (bJ v6.length v6.length (sub ([x2]:List aR) 0 1).length 1 16)<|iH (v6++(sub ([x2]:List aR) 0 1)) λr3=>ck (az r3.length r3.length)<|some r3):Option ((List aR))).bind λv8=>ck (az v8.length v8.length)<|some (.inl ((i64.wrap (v5+1)),v8))else ck (az v6.length v6.length)<|some (.inr v6))
def Kr(a0:List ax)(a1:Int):Option (List aR):=
 ck (az 0 ([]:List aR).length)<|(iter (uD a0 a1) n (0,[])).bind λw1=>ck (az w1.length w1.length)<|(vY n w1 (λ (y1:aR×aR×Unit)=>yB y1.1 y1.2.1)).bind λr2=>ck (az 0 ([]:List aR).length)<|(iter (uE w1 r2) n (0,[])).bind λw2=>ck (az (sub w2 0 w2.length).length w2.length)<|some (sub w2 0 w2.length)
def uF(r1:List ax):Stp (Int×(List Int)) (List Int)
 |(v1,v2)=>(bif decide (v1<(r1.length:Nat))then ck (cP v1 r1.length)<|(bj r1 ((0:Nat)+v1:Int)).bind λx1=>ck (bJ v2.length v2.length (sub ([x1.x0,x1.x1]:List Int) 0 2).length 2 8)<|iH (v2++(sub ([x1.x0,x1.x1]:List Int) 0 2)) λr2=>ck (az r2.length r2.length)<|some (.inl ((i64.wrap (v1+1)),r2))else ck (az v2.length v2.length)<|some (.inr v2))
def uG(r1:List ax)(r4:Unit×(List Int)):Stp (Int×(List bR)) (List bR)
 |(v3,v4)=>(bif decide (v3<(r4.2.length:Nat))then ck (cP (i64.wrap (v3 -1)) r4.2.length)<|(bj r4.2 ((0:Nat)+(i64.wrap (v3 -1)):Int)).bind λx2=>ck (cP v3 r4.2.length)<|(bj r4.2 ((0:Nat)+v3:Int)).bind λx3=>ck (cP (i64.wrap (v3 -1)) r4.2.length)<|(bj r4.2 ((0:Nat)+(i64.wrap (v3 -1)):Int)).bind λx4=>ck (az (sub r1 0 r1.length).length r1.length)<|(Kr n (sub r1 0 r1.length) x4).bind λr5=>ck (az (sub r5 0 r5.length).length r5.length)<|ck (bJ v4.length v4.length (sub ([(bR.mk x2 x3 (sub r5 0 r5.length))]:List bR) 0 1).length 1 40)<|iH (v4++(sub ([(bR.mk x2 x3 (sub r5 0 r5.length))]:List bR) 0 1)) λr6=>ck (az r6.length r6.length)<|some (.inl ((i64.wrap (v3+1)),r6))else ck (az v4.length v4.length)<|some (.inr v4))
def pG(a0:List (List ax)):Option (List bR):=
 (zu n a0).bind λr1=>ck (az 0 ([]:List Int).length)<|(iter (uF r1) n (0,[])).bind λw1=>ck (az w1.length w1.length)<|(lX n w1).bind λr3=>ck (az w1.length r3.length)<|(kH n r3).bind λr4=>ck (az 0 ([]:List bR).length)<|(iter (uG n r1 r4) n (1,[])).bind λw2=>ck (az (sub w2 0 w2.length).length w2.length)<|some (sub w2 0 w2.length)
def QX(a0:List aR)(a1:List aR):Stp Int (Unit⊕Bool)
 |v1=>(bif decide (v1<a0.length)then(bj a0 v1).bind λx1=>(bj a1 v1).bind λx2=>(bif (!((x1.from_==x2.from_)&&((x1.to==x2.to)&&true)))then(some false).map λa=> .inr (.inr a)else some (.inl (i64.wrap (v1+1))))else some (.inr (.inl ())))
def wL(a0:List aR)(a1:List aR):Option Bool:=
 (bif (a0.length !=(a1.length:Int))then some false else dJ (iter (QX a0 a1) n 0) λ()=>some true)
def tF(a0:List bR)(v1:Int):Stp Int Int
 |v3=>((bif decide (v3<a0.length)then(bj a0 v3).bind λx1=>(bj a0 v1).bind λx2=>(wL n x1.column x2.column).bind λr1=>some r1 else some false)).bind λv4=>(bif v4 then some (.inl (i64.wrap (v3+1)))else some (.inr v3))
def xA(a0:List bR)(v1:Int)(w1:Int)(x3:bR):Stp (Int×(List ax)) (List ax)
 |(v5,v6)=>(bif decide (v5<x3.column.length)then(bj x3.column v5).bind λx4=>(bj a0 v1).bind λx5=>(bj a0 (i64.wrap (w1 -1))).bind λx6=>ck (bJ v6.length v6.length (sub ([(ax.mk x5.x0 x4.from_ x6.x1 x4.to)]:List ax) 0 1).length 1 32)<|iH (v6++(sub ([(ax.mk x5.x0 x4.from_ x6.x1 x4.to)]:List ax) 0 1)) λr2=>ck (az r2.length r2.length)<|some (.inl ((i64.wrap (v5+1)),r2))else ck (az v6.length v6.length)<|some (.inr v6))
def xB(a0:List bR):Stp (Int×(List ax)) (List ax)
 |(v1,v2)=>(bif decide (v1<a0.length)then(iter (tF n a0 v1) n (i64.wrap (v1+1))).bind λw1=>(bj a0 v1).bind λx3=>ck (az v2.length v2.length)<|(iter (xA a0 v1 w1 x3) n (0,v2)).bind λw2=>ck (az w2.length w2.length)<|some (.inl (w1,w2))else ck (az v2.length v2.length)<|some (.inr v2))
def Jb(a0:List bR):Option (List ax):=
 ck (az 0 ([]:List ax).length)<|(iter (xB n a0) n (0,[])).bind λw3=>ck (az (sub w3 0 w3.length).length w3.length)<|some (sub w3 0 w3.length)
def zw(a0:List ax):Option ((List ax)×Int):=
 (bif decide ((a0.length:Int)>200)then some ([],6)else some (a0,0))
def OI(a0:List ax):Stp Int (Unit⊕((List ax)×Int))
 |v1=>(bif decide (v1<a0.length)then(bj a0 v1).bind λx1=>(pX x1).bind λr1=>(bif (!r1)then(some ([],1)).map λa=> .inr (.inr a)else some (.inl (i64.wrap (v1+1))))else some (.inr (.inl ())))
def Th(a0:List ax):Option ((List ax)×Int):=
 dJ (iter (OI a0) n 0) λ()=>(bif decide ((a0.length:Int)>400)then some ([],6)else ck (az (sub ([a0]:List (List ax)) 0 1).length 1)<|(pG n (sub ([a0]:List (List ax)) 0 1)).bind λr2=>ck (az (sub r2 0 r2.length).length r2.length)<|(Jb n (sub r2 0 r2.length)).bind λr3=>ck (az (sub r3 0 r3.length).length r3.length)<|(zw (sub r3 0 r3.length)).bind λr4=>some (r4.1,r4.2))
def QY(a0:List ax)(a1:List ax):Stp Int (Unit⊕Bool)
 |v1=>(bif decide (v1<a0.length)then(bj a0 v1).bind λx1=>(bj a1 v1).bind λx2=>(bif (!((x1.x0==x2.x0)&&((x1.y0==x2.y0)&&((x1.x1==x2.x1)&&((x1.y1==x2.y1)&&true)))))then(some false).map λa=> .inr (.inr a)else some (.inl (i64.wrap (v1+1))))else some (.inr (.inl ())))
def pI(a0:List ax)(a1:List ax):Option Bool:=
 (bif (a0.length !=(a1.length:Int))then some false else dJ (iter (QY a0 a1) n 0) λ()=>some true)
def lY(a0:List ax):Option Bool:=
 (Th n a0).bind λr1=>(bif (r1.2==0)then(pI n r1.1 a0).bind λr2=>some r2 else some false)
def anh(a0:ax)(a1:ax):Option (Int×Int):=
 some ((i64.wrap ((max a0.x0 a1.x0) -(min a0.x1 a1.x1))),(i64.wrap ((max a0.y0 a1.y0) -(min a0.y1 a1.y1))))
def OF(a0:ax)(a1:ax):Option Int:=
 ((pX a0).bind λr1=>(bif (!r1)then some true else(pX a1).bind λr2=>some (!r2))).bind λv1=>(bif v1 then some (-1)else(anh a0 a1).bind λr3=>some (max (max 0 r3.1) r3.2))
def Dt(a1:List ax)(x1:ax):Stp (Int×Int) Int
 |(v4,v5)=>(bif decide (v5<(a1.length:Int))then(bj a1 v5).bind λx2=>(OF x1 x2).bind λr3=>some (.inl ((min v4 r3),(i64.wrap (v5+1))))else some (.inr v4))
def Du(a0:List ax)(a1:List ax):Stp (Int×Int) Int
 |(v2,v3)=>(bif decide (v3<(a0.length:Int))then(bj a0 v3).bind λx1=>(iter (Dt a1 x1) n (v2,(0:Int))).bind λw1=>some (.inl (w1,(i64.wrap (v3+1))))else some (.inr v2))
def XQ(a0:List ax)(a1:List ax):Option (Int×Bool):=
 ((bif ((a0.length:Int)==0)then some true else(bif ((a1.length:Int)==0)then some true else(lY n a0).bind λr1=>(bif (!r1)then some true else(lY n a1).bind λr2=>some (!r2))))).bind λv1=>(bif v1 then some ((0:Int),false)else(iter (Du n a0 a1) n ((1048576:Int),(0:Int))).bind λw2=>some (w2,true))
def zx(a0:List fE):Stp (Int×(List (List ax))) (List (List ax))
 |(v1,v2)=>(bif decide (v1<(a0.length:Int))then(bj a0 v1).bind λx1=>ck (bJ v2.length v2.length (sub ([x1.area]:List (List ax)) 0 1).length 1 24)<|iH (v2++(sub ([x1.area]:List (List ax)) 0 1)) λr2=>ck (az r2.length r2.length)<|some (.inl ((i64.wrap (v1+1)),r2))else ck (az v2.length v2.length)<|some (.inr v2))
def zy(a0:List fE)(a1:Int)(a2:Int)(r1:fE×Bool)(w1:List (List ax)):Stp (Int×(List Int)) (List Int)
 |(v3,v4)=>(bif decide (v3<(w1.length:Int))then(ck (cP v3 w1.length)<|(bj w1 ((0:Nat)+v3:Int)).bind λx2=>(XQ n r1.1.area x2).bind λr3=>((bif r3.2 then(bif decide (r3.1<=(a2:Int))then(bj a0 v3).bind λx3=>some (x3.id !=(a1:Int))else some false)else some false)).bind λv5=>(bif v5 then(bj a0 v3).bind λx4=>ck (bJ v4.length v4.length (sub ([x4.id]:List Int) 0 1).length 1 8)<|iH (v4++(sub ([x4.id]:List Int) 0 1)) λr4=>ck (az r4.length r4.length)<|some r4 else ck (az v4.length v4.length)<|some v4):Option ((List Int))).bind λv6=>ck (az v6.length v6.length)<|some (.inl ((i64.wrap (v3+1)),v6))else ck (az v4.length v4.length)<|some (.inr v4))
def OJ(a0:List fE)(a1:Int)(a2:Int):Option (List Int):=
 (qN n a0 a1).bind λr1=>(bif (!r1.2)then some ([]:(List Int))else ck (az 0 ([]:List (List ax)).length)<|(iter (zx a0) n ((0:Int),([]:List (List ax)))).bind λw1=>ck (az 0 ([]:List Int).length)<|(iter (zy n a0 a1 a2 r1 w1) n ((0:Int),([]:List Int))).bind λw2=>ck (az w2.length w2.length)<|(lX n w2).bind λr5=>ck (az w2.length r5.length)<|(kH n r5).bind λr6=>ck (az (sub r6.2 0 r6.2.length).length r6.2.length)<|some (sub r6.2 0 r6.2.length))
def Vr(a0:eH)(a1:aO):Option (List Int):=
 (xw n (bO.mk a0.cH a0.ct a0.cz a0.aq a0.cQ a0.cV a0.d5 a0.cW) a1).bind λr1=>(OJ n a0.land a1.lot r1).bind λr2=>ck (az (sub r2 0 r2.length).length r2.length)<|some (sub r2 0 r2.length)
def uH(a0:eH)(r1:List Int):Stp (Int×(List Int)) (List Int)
 |(v1,v2)=>(bif decide (v1<(r1.length:Int))then ck (cP v1 r1.length)<|(bj r1 ((0:Nat)+v1:Int)).bind λx1=>(qN n a0.land x1).bind λr2=>ck (bJ v2.length v2.length (sub ([r2.1.owner]:List Int) 0 1).length 1 8)<|iH (v2++(sub ([r2.1.owner]:List Int) 0 1)) λr3=>ck (az r3.length r3.length)<|some (.inl ((i64.wrap (v1+1)),r3))else ck (az v2.length v2.length)<|some (.inr v2))
def Kt(a0:eH)(a1:aO):Option (List Int):=
 (Vr n a0 a1).bind λr1=>ck (az 0 ([]:List Int).length)<|(iter (uH n a0 r1) n ((0:Int),([]:List Int))).bind λw1=>ck (az w1.length w1.length)<|(lX n w1).bind λr4=>ck (az w1.length r4.length)<|(kH n r4).bind λr5=>ck (az (sub r5.2 0 r5.2.length).length r5.2.length)<|some (sub r5.2 0 r5.2.length)
def Ub(a0:List Int)(a1:Int):Stp Int (Unit⊕Int)
 |v1=>(bif decide (v1<a0.length)then(bj a0 v1).bind λx1=>(bif (a1==x1)then(some v1).map λa=> .inr (.inr a)else some (.inl (i64.wrap (v1+1))))else some (.inr (.inl ())))
def E9(a0:List Int)(a1:Int):Option Int:=
 dJ (iter (Ub a0 a1) n 0) λ()=>some (-1)
def oW(a0:List Int)(a1:Int):Option Bool:=
 (E9 n a0 a1).bind λr1=>some (decide (r1>=0))
def Mx(a0:eH)(a1:aO)(a2:Int):Option Bool:=
 (qN n a0.land a1.lot).bind λr1=>(Kt n a0 a1).bind λr2=>ck (az (sub r2 0 r2.length).length r2.length)<|(oW n (sub r2 0 r2.length) a2).bind λr3=>(bif r3 then(bif r1.2 then some (r1.1.owner !=(a2:Int))else some false)else some false)
def rM(a0:aG)(a1:Int):Option Bool:=
 (bif (a1==(a0.el:Int))then some true else(Mx n (eH.mk a0.cj a0.aw a0.bp a0.aE a0.bk a0.br a0.cx a0.bu a0.c8 a0.cL a0.cR a0.cT a0.ec) (aO.mk a0.co a0.b8) a1).bind λr1=>some r1)
def oh(a0:List Int)(a1:Int):Stp (Int×Int) (Unit⊕Bool)
 |(v1,v2)=>(bif decide (v2<(a0.length:Int))then(bj a0 v2).bind λx1=>((bif decide (x1<=(v1:Int))then some true else some (decide (x1>=(a1:Int))))).bind λv3=>(bif v3 then(some false).map λa=> .inr (.inr a)else some (.inl (x1,(i64.wrap (v2+1)))))else some (.inr (.inl ())))
def fM(a0:List Int)(a1:Int):Option Bool:=
 dJ (iter (oh a0 a1) n (((-1):Int),(0:Int))) λ()=>some true
def qm(a0:aJ):Option Bool:=
 some true
def oZ:Option (List ByteArray):=
 ck (az (sub ([⟨#[97,114,101,97]⟩,⟨#[99,111,118,101,114]⟩,⟨#[102,108,111,111,114]⟩,⟨#[102,108,111,111,114,115]⟩,⟨#[104,101,105,103,104,116]⟩,⟨#[104,111,109,101,115]⟩,⟨#[114,117,110,111,102,102]⟩,⟨#[115,101,116,98,97,99,107]⟩,⟨#[116,114,97,102,102,105,99]⟩]:List ByteArray) 0 9).length 9)<|some (sub ([⟨#[97,114,101,97]⟩,⟨#[99,111,118,101,114]⟩,⟨#[102,108,111,111,114]⟩,⟨#[102,108,111,111,114,115]⟩,⟨#[104,101,105,103,104,116]⟩,⟨#[104,111,109,101,115]⟩,⟨#[114,117,110,111,102,102]⟩,⟨#[115,101,116,98,97,99,107]⟩,⟨#[116,114,97,102,102,105,99]⟩]:List ByteArray) 0 9)
def oo(a0:List ByteArray)(a1:ByteArray):Stp Int (Unit⊕Int)
 |v1=>(bif decide (v1<a0.length)then(bj a0 v1).bind λx1=>(bif (ByteArray.toList a1==ByteArray.toList x1)then(some v1).map λa=> .inr (.inr a)else some (.inl (i64.wrap (v1+1))))else some (.inr (.inl ())))
def sw(a0:List ByteArray)(a1:ByteArray):Option Int:=
 dJ (iter (oo a0 a1) n 0) λ()=>some (-1)
def dZ(a0:List ByteArray)(a1:ByteArray):Option Bool:=
 (sw n a0 a1).bind λr1=>some (decide (r1>=0))
def lZ(a0:aJ):Option Bool:=
 (oZ).bind λr1=>ck (az (sub r1 0 r1.length).length r1.length)<|(dZ n (sub r1 0 r1.length) a0.name).bind λr2=>some r2
def jw(a0:cK)(a1:aJ):Option Bool:=
 some (ByteArray.toList a0.name==ByteArray.toList a1.name)
def Jc(a0:List cK)(a1:(cK×Unit)->Option Bool):Stp Int (Unit⊕Int)
 |v1=>(bif decide (v1<(a0.length:Int))then(bj a0 v1).bind λx1=>(a1 (x1,())).bind λr1=>(bif r1 then(some v1).map λa=> .inr (.inr a)else some (.inl (i64.wrap (v1+1))))else some (.inr (.inl ())))
def uI(a0:List cK)(a1:(cK×Unit)->Option Bool):Option Int:=
 dJ (iter (Jc a0 a1) n (0:Int)) λ()=>some ((-1):Int)
def qo(a0:List cK)(a1:(cK×Unit)->Option Bool):Option Bool:=
 (uI n a0 a1).bind λr1=>some (decide (r1>=0))
def l5(a0:aJ)(a1:aG):Option Bool:=
 (qo n a1.aE (λ (y1:cK×Unit)=>jw y1.1 a0)).bind λr1=>some r1
def l6(a0:aJ):Option Bool:=
 (bif (ByteArray.toList a0.name==ByteArray.toList (⟨#[103,114,97,110,116,101,100]⟩))then some true else some (ByteArray.toList a0.name==ByteArray.toList (⟨#[114,101,102,117,115,101,100]⟩)))
noncomputable def kI(n:Nat)(h:aG)(c:aJ):Option Bool:=
 bif c.ee==0 then(fM n c.attacks (h.claims.length:Int)).bind λa=>bif a then qm c else some false
 else bif c.ee==1 then(fM n c.attacks (h.claims.length:Int)).bind λa=>bif a then lZ n c else some false
 else bif c.ee==2 then(fM n c.attacks (h.claims.length:Int)).bind λa=>bif a then l5 n c h else some false
 else bif c.ee==3 then(fM n c.attacks (h.claims.length:Int)).bind λa=>bif a then l6 c else some false
 else some false
def oq(a0:aO)(a1:Int)(a2:Int):Stp (Int×(List aF)) (List aF)
 |(v1,v2)=>(bif decide (v1<a0.phases.length)then((bj a0.phases v1).bind λx1=>((bif decide (v1>=a1)then some (decide (v1<a2))else some false)).bind λv3=>(bif v3 then ck (bJ v2.length v2.length x1.bx.length x1.bx.length 72)<|iH (v2++x1.bx) λr1=>ck (az r1.length r1.length)<|some r1 else ck (az v2.length v2.length)<|some v2):Option ((List aF))).bind λv4=>ck (az v4.length v4.length)<|some (.inl ((i64.wrap (v1+1)),v4))else ck (az v2.length v2.length)<|some (.inr v2))
def o6(a0:aO)(a1:Int)(a2:Int):Option (List aF):=
 ck (az 0 ([]:List aF).length)<|(iter (oq a0 a1 a2) n (0,[])).bind λw1=>ck (az (sub w1 0 w1.length).length w1.length)<|some (sub w1 0 w1.length)
def fU(a0:aF):Option Bool:=
 ((pX (ax.mk a0.ci a0.cE a0.cd a0.cD)).bind λr1=>(bif (!r1)then some true else(bif decide (a0.fm<0)then some true else(bif decide (a0.fm>=a0.ez)then some true else some (decide (a0.ez>4096)))))).bind λv1=>(bif v1 then some false else((bif (a0.use !=0)then some (a0.units !=0)else some false)).bind λv2=>(bif v2 then some false else(bif decide (a0.use>=0)then(bif decide (a0.use<6)then(bif decide (a0.units>=0)then some (decide (a0.units<=1048576))else some false)else some false)else some false)))
def yV(a0:ax):Option (ax×Bool):=
 (pX a0).bind λr1=>(bif r1 then some (a0,true)else some ((ax.mk 0 0 0 0),false))
def zA(a0:ax):Option Int:=
 (yV a0).bind λr1=>some (i64.wrap ((i64.wrap (r1.1.x1 -r1.1.x0))*(i64.wrap (r1.1.y1 -r1.1.y0))))
def Fa(a0:List ax):Stp (Int×Int) Int
 |(v1,v2)=>(bif decide (v2<a0.length)then(bj a0 v2).bind λx1=>(zA x1).bind λr2=>some (.inl ((i64.wrap (v1+r2)),(i64.wrap (v2+1))))else some (.inr v1))
def OL(a0:List ax):Option Int:=
 (lY n a0).bind λr1=>(bif (!r1)then some 0 else(iter (Fa a0) n (0,0)).bind λw1=>some w1)
def vZ(_:Nat)(a0:List ax)(a1:(ax×ax×Unit)->Option Int):Option (List ax):=Ov a0 a1
def iO(a0:ax)(a1:ax):Option Int:=
 (cmp_Compare_int a0.y0 a1.y0).bind λr1=>some r1
def lH(a0:aF):Option Int:=
 ((bif a0.extra then some true else(fU a0).bind λr1=>some (!r1))).bind λv1=>(bif v1 then some 0 else ck (3 !=0)<|some (i64.wrap (Int.tdiv (i64.wrap ((i64.wrap ((i64.wrap (a0.ez -a0.fm))+3)) -1)) 3)))
def pJ(a0:aF):Option Int:=
 (fU a0).bind λr1=>(bif (!r1)then some 0 else(zA (ax.mk a0.ci a0.cE a0.cd a0.cD)).bind λr2=>(lH a0).bind λr3=>some (i64.wrap (r2*r3)))
def ow(a0:aF):Option Int:=
 some a0.ez
def pV(a0:aF):Option Int:=
 some a0.units
def BP(a0:ax)(a1:Int):Option (ax×Bool):=
 (pX (ax.mk (i64.wrap (a0.x0 -a1)) (i64.wrap (a0.y0 -a1)) (i64.wrap (a0.x1+a1)) (i64.wrap (a0.y1+a1)))).bind λr1=>some ((ax.mk (i64.wrap (a0.x0 -a1)) (i64.wrap (a0.y0 -a1)) (i64.wrap (a0.x1+a1)) (i64.wrap (a0.y1+a1))),r1)
def tH(a0:ax)(a1:ax):Option (ax×Bool):=
 ((pX a0).bind λr1=>(bif (!r1)then some true else(pX a1).bind λr2=>some (!r2))).bind λv1=>(bif v1 then some ((ax.mk 0 0 0 0),false)else(yV (ax.mk (max a0.x0 a1.x0) (max a0.y0 a1.y0) (min a0.x1 a1.x1) (min a0.y1 a1.y1))).bind λr3=>some (r3.1,r3.2))
def kJ(a0:bg)(a1:Kq)(a2:Int):Option Bool:=
 ck (cP a2 6)<|(bj ([a1.a0,a1.a1,a1.a2,a1.a3,a1.a4,a1.a5]:List ByteArray) a2).bind λx1=>some (ByteArray.toList a0.name==ByteArray.toList x1)
def kK(a0:bO)(a1:Int):Stp Int (Unit⊕Int)
 |v1=>(bif decide (v1<a0.tables.length)then(bj a0.tables v1).bind λx1=>(bif (!(ByteArray.toList x1.name==ByteArray.toList (⟨#[116,114,97,102,102,105,99]⟩)))then some (.inl (i64.wrap (v1+1)))else((iX n x1.rows (λ (y1:bg×Unit)=>kJ y1.1 (Kq.mk (⟨#[104,111,109,101]⟩) (⟨#[115,104,111,112]⟩) (⟨#[119,111,114,107]⟩) (⟨#[112,97,114,107]⟩) (⟨#[112,108,97,110,116]⟩) (⟨#[104,97,108,108]⟩)) a1)).bind λr1=>(bif decide (r1>=0)then(bj x1.rows r1).bind λx2=>some x2.n else some x1.rK):Option Int).bind λv2=>(some (max 0 (min v2 1048576))).map λa=> .inr (.inr a))else some (.inr (.inl ())))
def AU(a0:bO)(a1:Int):Option Int:=
 dJ (iter (kK n a0 a1) n 0) λ()=>some 0
def jG(a0:bO)(a1:aF):Option Int:=
 (AU n a0 a1.use).bind λr1=>(pJ a1).bind λr2=>((bif decide (r1>0)then ck (r1 !=0)<|some (decide (r2>(i64.wrap (Int.tdiv 109951162777600 r1))))else some false)).bind λv1=>(bif v1 then some 1099511627776 else ck (100 !=0)<|some (i64.wrap (Int.tdiv (i64.wrap ((i64.wrap ((i64.wrap (r1*r2))+100)) -1)) 100)))
def nI(a0:List gK)(a1:List bQ)(a2:List fG)(a3:List cK)(a4:List jE)(a5:List iw)(a6:List dH)(a7:Int)(a8:List ax)(a9:List aF):Option (Int×gU):=
 (OL n a8).bind λr1=>ck (az a9.length a9.length)<|some (r1,a0,a1,a2,a3,a4,a5,a6,a7,a8,a9)
def gD(a9:List aF):Stp (Int×(List ax)×(List Int)) ((List ax)×(List Int))
 |(v1,v2,v3)=>(bif decide (v1<(a9.length:Nat))then ck (cP v1 a9.length)<|(bj a9 ((0:Nat)+v1:Int)).bind λx1=>ck (cP v1 ((a9.length:Int).toNat))<|(bj v2 ((0:Nat)+v1:Int)).bind λx2=>ck (cP v1 ((a9.length:Int).toNat))<|(bj (v2.set ((0:Nat)+v1:Int).toNat (ax.mk x1.ci x1.cE x1.cd x1.cD)) ((0:Nat)+v1:Int)).bind λx3=>ck (cP v1 ((a9.length:Int).toNat))<|(bj (v2.set ((0:Nat)+v1:Int).toNat (ax.mk x1.ci x1.cE x1.cd x1.cD)) ((0:Nat)+v1:Int)).bind λx4=>ck (bJ v3.length v3.length (sub ([x3.x0,x4.x1]:List Int) 0 2).length 2 8)<|iH (v3++(sub ([x3.x0,x4.x1]:List Int) 0 2)) λr1=>ck (az r1.length r1.length)<|some (.inl ((i64.wrap (v1+1)),(v2.set ((0:Nat)+v1:Int).toNat (ax.mk x1.ci x1.cE x1.cd x1.cD)),r1))else ck (az v3.length v3.length)<|some (.inr (v2,v3)))
def gF(a9:List aF)(w2:List Int)(r2:List ax)(r3:List Int)(v5:Int):Stp (Int×Int×Int) Int
 |(v6,v7,v8)=>(bif decide (v8<(((a9.length:Int).toNat:Nat):Int))then(ck (cP v8 ((a9.length:Int).toNat))<|(bj r2 ((0:Nat)+v8:Int)).bind λx5=>(ck (cP v5 w2.length)<|(bj r3 ((0:Nat)+v5:Int)).bind λx6=>(bif decide (x5.x0<=x6)then ck (cP v5 w2.length)<|(bj r3 ((0:Nat)+v5:Int)).bind λx7=>(bif decide (x7<x5.x1)then some (decide (x5.y1>v7))else some false)else some false)).bind λv9=>(bif v9 then ck (cP (i64.wrap (v5+1)) w2.length)<|(bj r3 ((0:Nat)+(i64.wrap (v5+1)):Int)).bind λx8=>ck (cP v5 w2.length)<|(bj r3 ((0:Nat)+v5:Int)).bind λx9=>some ((i64.wrap (v6+(i64.wrap ((i64.wrap (x8 -x9))*(i64.wrap (x5.y1 -(max v7 x5.y0))))))),x5.y1)else some (v6,v7)):Option (Int×Int)).bind λ(v10,v11)=>some (.inl (v10,v11,(i64.wrap (v8+1))))else some (.inr v6))
def gG(a9:List aF)(w2:List Int)(r2:List ax)(r3:List Int):Stp (Int×Int) Int
 |(v4,v5)=>(bif (decide (v5<((max 0 (i64.wrap ((w2.length:Nat) -1))):Int)))then(iter (gF a9 w2 r2 r3 v5) n (v4,0,0)).bind λw3=>some (.inl (w3,(i64.wrap (v5+1))))else some (.inr v4))
def iP(a0:List gK)(a1:List bQ)(a2:List fG)(a3:List cK)(a4:List jE)(a5:List iw)(a6:List dH)(a7:Int)(a8:List ax)(a9:List aF):Option (Int×gU):=
 ck (decide ((a9.length:Int)<=(a9.length:Nat))&&(decide (0<=(a9.length:Int))&&qH (a9.length:Nat) 32))<|ck (az 0 ([]:List Int).length)<|(iter (gD a9) n (0,(List.replicate (a9.length:Int).toNat (ax.mk 0 0 0 0)),[])).bind λ(w1,w2)=>ck (az ((a9.length:Int).toNat) w1.length)<|(vZ n w1 (λ (y1:ax×ax×Unit)=>iO y1.1 y1.2.1)).bind λr2=>ck (az w2.length w2.length)<|(lX n w2).bind λr3=>(iter (gG n a9 w2 r2 r3) n (0,0)).bind λw4=>ck (az a9.length a9.length)<|some (w4,a0,a1,a2,a3,a4,a5,a6,a7,a8,a9)
def jQ(a9:List aF):Stp (Int×Int) Int
 |(v1,v2)=>(bif decide (v2<(a9.length:Nat))then ck (cP v2 a9.length)<|(bj a9 ((0:Nat)+v2:Int)).bind λx1=>(pJ x1).bind λr1=>some (.inl ((i64.wrap (v1+r1)),(i64.wrap (v2+1))))else some (.inr v1))
def rq(a0:List gK)(a1:List bQ)(a2:List fG)(a3:List cK)(a4:List jE)(a5:List iw)(a6:List dH)(a7:Int)(a8:List ax)(a9:List aF):Option (Int×gU):=
 (iter (jQ a9) n (0,0)).bind λw1=>ck (az a9.length a9.length)<|some (w1,a0,a1,a2,a3,a4,a5,a6,a7,a8,a9)
def kT(a0:List gK)(a1:List bQ)(a2:List fG)(a3:List cK)(a4:List jE)(a5:List iw)(a6:List dH)(a7:Int)(a8:List ax)(a9:List aF):Option (Int×gU):=
 ck (az a9.length a9.length)<|(rq n a0 a1 a2 a3 a4 a5 a6 a7 a8 a9).bind λr1=>ck (az r1.2.2.2.2.2.2.2.2.2.2.length r1.2.2.2.2.2.2.2.2.2.2.length)<|some (r1.1,r1.2.1,r1.2.2.1,r1.2.2.2.1,r1.2.2.2.2.1,r1.2.2.2.2.2.1,r1.2.2.2.2.2.2.1,r1.2.2.2.2.2.2.2.1,r1.2.2.2.2.2.2.2.2.1,r1.2.2.2.2.2.2.2.2.2.1,r1.2.2.2.2.2.2.2.2.2.2)
def gV(a9:List aF):Stp (Int×Int) Int
 |(v1,v2)=>(bif decide (v2<(a9.length:Nat))then ck (cP v2 a9.length)<|(bj a9 ((0:Nat)+v2:Int)).bind λx1=>(lH x1).bind λr1=>some (.inl ((max v1 r1),(i64.wrap (v2+1))))else some (.inr v1))
def nk(a0:List gK)(a1:List bQ)(a2:List fG)(a3:List cK)(a4:List jE)(a5:List iw)(a6:List dH)(a7:Int)(a8:List ax)(a9:List aF):Option (Int×gU):=
 (iter (gV a9) n (0,0)).bind λw1=>ck (az a9.length a9.length)<|some (w1,a0,a1,a2,a3,a4,a5,a6,a7,a8,a9)
def jR(a0:List gK)(a1:List bQ)(a2:List fG)(a3:List cK)(a4:List jE)(a5:List iw)(a6:List dH)(a7:Int)(a8:List ax)(a9:List aF):Option (Int×gU):=
 ck (az a9.length a9.length)<|(nk n a0 a1 a2 a3 a4 a5 a6 a7 a8 a9).bind λr1=>ck (az r1.2.2.2.2.2.2.2.2.2.2.length r1.2.2.2.2.2.2.2.2.2.2.length)<|some (r1.1,r1.2.1,r1.2.2.1,r1.2.2.2.1,r1.2.2.2.2.1,r1.2.2.2.2.2.1,r1.2.2.2.2.2.2.1,r1.2.2.2.2.2.2.2.1,r1.2.2.2.2.2.2.2.2.1,r1.2.2.2.2.2.2.2.2.2.1,r1.2.2.2.2.2.2.2.2.2.2)
def gW(a9:List aF):Stp (Int×Int) Int
 |(v1,v2)=>(bif decide (v2<(a9.length:Nat))then ck (cP v2 a9.length)<|(bj a9 ((0:Nat)+v2:Int)).bind λx1=>(ow x1).bind λr1=>some (.inl ((max v1 r1),(i64.wrap (v2+1))))else some (.inr v1))
def nu(a0:List gK)(a1:List bQ)(a2:List fG)(a3:List cK)(a4:List jE)(a5:List iw)(a6:List dH)(a7:Int)(a8:List ax)(a9:List aF):Option (Int×gU):=
 (iter (gW a9) n (0,0)).bind λw1=>ck (az a9.length a9.length)<|some (w1,a0,a1,a2,a3,a4,a5,a6,a7,a8,a9)
def jS(a0:List gK)(a1:List bQ)(a2:List fG)(a3:List cK)(a4:List jE)(a5:List iw)(a6:List dH)(a7:Int)(a8:List ax)(a9:List aF):Option (Int×gU):=
 ck (az a9.length a9.length)<|(nu n a0 a1 a2 a3 a4 a5 a6 a7 a8 a9).bind λr1=>ck (az r1.2.2.2.2.2.2.2.2.2.2.length r1.2.2.2.2.2.2.2.2.2.2.length)<|some (r1.1,r1.2.1,r1.2.2.1,r1.2.2.2.1,r1.2.2.2.2.1,r1.2.2.2.2.2.1,r1.2.2.2.2.2.2.1,r1.2.2.2.2.2.2.2.1,r1.2.2.2.2.2.2.2.2.1,r1.2.2.2.2.2.2.2.2.2.1,r1.2.2.2.2.2.2.2.2.2.2)
def jT(a9:List aF):Stp (Int×Int) Int
 |(v1,v2)=>(bif decide (v2<(a9.length:Nat))then ck (cP v2 a9.length)<|(bj a9 ((0:Nat)+v2:Int)).bind λx1=>(pV x1).bind λr1=>some (.inl ((i64.wrap (v1+r1)),(i64.wrap (v2+1))))else some (.inr v1))
def ru(a0:List gK)(a1:List bQ)(a2:List fG)(a3:List cK)(a4:List jE)(a5:List iw)(a6:List dH)(a7:Int)(a8:List ax)(a9:List aF):Option (Int×gU):=
 (iter (jT a9) n (0,0)).bind λw1=>ck (az a9.length a9.length)<|some (w1,a0,a1,a2,a3,a4,a5,a6,a7,a8,a9)
def kU(a0:List gK)(a1:List bQ)(a2:List fG)(a3:List cK)(a4:List jE)(a5:List iw)(a6:List dH)(a7:Int)(a8:List ax)(a9:List aF):Option (Int×gU):=
 ck (az a9.length a9.length)<|(ru n a0 a1 a2 a3 a4 a5 a6 a7 a8 a9).bind λr1=>ck (az r1.2.2.2.2.2.2.2.2.2.2.length r1.2.2.2.2.2.2.2.2.2.2.length)<|some (r1.1,r1.2.1,r1.2.2.1,r1.2.2.2.1,r1.2.2.2.2.1,r1.2.2.2.2.2.1,r1.2.2.2.2.2.2.1,r1.2.2.2.2.2.2.2.1,r1.2.2.2.2.2.2.2.2.1,r1.2.2.2.2.2.2.2.2.2.1,r1.2.2.2.2.2.2.2.2.2.2)
def iK(k9:List ax)(r1:ax×Bool):Stp (Int×Int) Int
 |(v1,v2)=>(bif decide (v2<k9.length)then((bj k9 v2).bind λx1=>(tH r1.1 x1).bind λr2=>(bif r2.2 then(zA r2.1).bind λr3=>some (i64.wrap (v1+r3))else some v1):Option Int).bind λv3=>some (.inl (v3,(i64.wrap (v2+1))))else some (.inr v1))
def jU(a0:ax)(a1:Int)(a2:List gK)(a3:List bQ)(a4:List fG)(a5:List cK)(a6:List jE)(a7:List iw)(a8:List dH)(a9:Int)(k9:List ax)(ud:List aF):Option (Bool×gU):=
 (BP a0 a1).bind λr1=>(bif (!r1.2)then ck (az ud.length ud.length)<|some (false,a2,a3,a4,a5,a6,a7,a8,a9,k9,ud)else(iter (iK k9 r1) n (0,0)).bind λw1=>(zA r1.1).bind λr4=>ck (az ud.length ud.length)<|some ((w1==r4),a2,a3,a4,a5,a6,a7,a8,a9,k9,ud))
def eO(x1:aF):Stp (Int×Int×gU) (Int×gU)
 |(v13,v14,v15,v16,v17,v18,v19,v20,v21,v22,v23,v24)=>(bif decide (v13<v14)then ck (2 !=0)<|ck (az v24.length v24.length)<|(jU n (ax.mk x1.ci x1.cE x1.cd x1.cD) (i64.wrap (Int.tdiv (i64.wrap ((i64.wrap (v13+v14))+1)) 2)) v15 v16 v17 v18 v19 v20 v21 v22 v23 v24).bind λr1=>(bif r1.1 then ck (az r1.2.2.2.2.2.2.2.2.2.2.length r1.2.2.2.2.2.2.2.2.2.2.length)<|some (.inl ((i64.wrap (Int.tdiv (i64.wrap ((i64.wrap (v13+v14))+1)) 2)),v14,r1.2.1,r1.2.2.1,r1.2.2.2.1,r1.2.2.2.2.1,r1.2.2.2.2.2.1,r1.2.2.2.2.2.2.1,r1.2.2.2.2.2.2.2.1,r1.2.2.2.2.2.2.2.2.1,r1.2.2.2.2.2.2.2.2.2.1,r1.2.2.2.2.2.2.2.2.2.2))else ck (az r1.2.2.2.2.2.2.2.2.2.2.length r1.2.2.2.2.2.2.2.2.2.2.length)<|some (.inl (v13,(i64.wrap ((i64.wrap (Int.tdiv (i64.wrap ((i64.wrap (v13+v14))+1)) 2)) -1)),r1.2.1,r1.2.2.1,r1.2.2.2.1,r1.2.2.2.2.1,r1.2.2.2.2.2.1,r1.2.2.2.2.2.2.1,r1.2.2.2.2.2.2.2.1,r1.2.2.2.2.2.2.2.2.1,r1.2.2.2.2.2.2.2.2.2.1,r1.2.2.2.2.2.2.2.2.2.2)))else ck (az v24.length v24.length)<|some (.inr (v13,v15,v16,v17,v18,v19,v20,v21,v22,v23,v24)))
def iy(a9:List aF):Stp (Int×Int×gU) (Int×gU)
 |(v1,v2,v3,v4,v5,v6,v7,v8,v9,v10,v11,v12)=>(bif decide (v2<(a9.length:Nat))then ck (cP v2 a9.length)<|(bj v12 ((0:Nat)+v2:Int)).bind λx1=>ck (az v12.length v12.length)<|(iter (eO n x1) n (0,v1,v3,v4,v5,v6,v7,v8,v9,v10,v11,v12)).bind λ(w1,w2,w3,w4,w5,w6,w7,w8,w9,vm,yy)=>ck (az yy.length yy.length)<|some (.inl (w1,(i64.wrap (v2+1)),w2,w3,w4,w5,w6,w7,w8,w9,vm,yy))else ck (az v12.length v12.length)<|some (.inr (v1,v3,v4,v5,v6,v7,v8,v9,v10,v11,v12)))
def jy(a0:List gK)(a1:List bQ)(a2:List fG)(a3:List cK)(a4:List jE)(a5:List iw)(a6:List dH)(a7:Int)(a8:List ax)(a9:List aF):Option (Int×gU):=
 ck (az a9.length a9.length)<|(iter (iy n a9) n (1048576,0,a0,a1,a2,a3,a4,a5,a6,a7,a8,a9)).bind λ(Ix,UT,Iv,PH,w16,w17,w18,w19,w20,w21,US)=>ck (az US.length US.length)<|some (Ix,UT,Iv,PH,w16,w17,w18,w19,w20,w21,US)
def kL(a0:aF)(a1:List gK)(a2:List bQ)(a3:List fG)(a4:List cK)(a5:List jE)(a6:List iw)(a7:List dH)(a8:Int)(a9:List ax)(k9:List aF):Option (Int×gU):=
 (jG n (bO.mk a1 a2 a3 a4 a5 a6 a7 a8) a0).bind λr1=>ck (az k9.length k9.length)<|some (r1,a1,a2,a3,a4,a5,a6,a7,a8,a9,k9)
def jV(a9:List aF):Stp (Int×Int×gU) (Int×gU)
 |(v1,v2,v3,v4,v5,v6,v7,v8,v9,v10,v11,v12)=>(bif decide (v2<(a9.length:Nat))then ck (cP v2 a9.length)<|(bj v12 ((0:Nat)+v2:Int)).bind λx1=>ck (az v12.length v12.length)<|(kL n x1 v3 v4 v5 v6 v7 v8 v9 v10 v11 v12).bind λr1=>ck (az r1.2.2.2.2.2.2.2.2.2.2.length r1.2.2.2.2.2.2.2.2.2.2.length)<|some (.inl ((i64.wrap (v1+r1.1)),(i64.wrap (v2+1)),r1.2.1,r1.2.2.1,r1.2.2.2.1,r1.2.2.2.2.1,r1.2.2.2.2.2.1,r1.2.2.2.2.2.2.1,r1.2.2.2.2.2.2.2.1,r1.2.2.2.2.2.2.2.2.1,r1.2.2.2.2.2.2.2.2.2.1,r1.2.2.2.2.2.2.2.2.2.2))else ck (az v12.length v12.length)<|some (.inr (v1,v3,v4,v5,v6,v7,v8,v9,v10,v11,v12)))
def rz(a0:List gK)(a1:List bQ)(a2:List fG)(a3:List cK)(a4:List jE)(a5:List iw)(a6:List dH)(a7:Int)(a8:List ax)(a9:List aF):Option (Int×gU):=
 ck (az a9.length a9.length)<|(iter (jV n a9) n (0,0,a0,a1,a2,a3,a4,a5,a6,a7,a8,a9)).bind λ(w1,w2,w3,w4,w5,w6,w7,w8,w9,vm,yy)=>ck (az yy.length yy.length)<|some (w1,w2,w3,w4,w5,w6,w7,w8,w9,vm,yy)
def jA(a0:List gK)(a1:List bQ)(a2:List fG)(a3:List cK)(a4:List jE)(a5:List iw)(a6:List dH)(a7:Int)(a8:List ax)(a9:List aF):Option (Int×gU):=
 ck (az a9.length a9.length)<|(rz n a0 a1 a2 a3 a4 a5 a6 a7 a8 a9).bind λr1=>ck (az r1.2.2.2.2.2.2.2.2.2.2.length r1.2.2.2.2.2.2.2.2.2.2.length)<|some (r1.1,r1.2.1,r1.2.2.1,r1.2.2.2.1,r1.2.2.2.2.1,r1.2.2.2.2.2.1,r1.2.2.2.2.2.2.1,r1.2.2.2.2.2.2.2.1,r1.2.2.2.2.2.2.2.2.1,r1.2.2.2.2.2.2.2.2.2.1,r1.2.2.2.2.2.2.2.2.2.2)
def rO(r2:List aF):Stp (Int×gU) (gU)
 |(v10,v11,v12,v13,v14,v15,v16,v17,v18,v19,v20)=>(bif decide (v10<(r2.length:Nat))then(ck (cP v10 r2.length)<|(bj r2 ((0:Nat)+v10:Int)).bind λx1=>((bif decide (v10<40)then(fU x1).bind λr3=>some r3 else some false)).bind λv21=>(bif v21 then ck (bJ v20.length v20.length (sub ([x1]:List aF) 0 1).length 1 72)<|iH (v20++(sub ([x1]:List aF) 0 1)) λr4=>ck (az r4.length r4.length)<|some (v11,v12,v13,v14,v15,v16,v17,v18,v19,r4)else ck (az v20.length v20.length)<|some (v11,v12,v13,v14,v15,v16,v17,v18,v19,v20)):Option (gU)).bind λ(v22,v23,v24,v25,v26,v27,v28,v29,v30,v31)=>ck (az v31.length v31.length)<|some (.inl ((i64.wrap (v10+1)),v22,v23,v24,v25,v26,v27,v28,v29,v30,v31))else ck (az v20.length v20.length)<|some (.inr (v11,v12,v13,v14,v15,v16,v17,v18,v19,v20)))
def kM(a0:bO)(a1:fE)(a2:aO):Option (List bg):=
 ((lY n a1.area).bind λr1=>(bif r1 then some (a0.defs,a0.tables,a0.zones,a0.rules,a0.caps,a0.views,a0.wA,a0.hours,a1.area)else some (a0.defs,a0.tables,a0.zones,a0.rules,a0.caps,a0.views,a0.wA,a0.hours,[])):Option ((List gK)×(List bQ)×(List fG)×(List cK)×(List jE)×(List iw)×(List dH)×Int×(List ax))).bind λ(v1,v2,v3,v4,v5,v6,v7,v8,v9)=>(o6 n a2 0 a2.phases.length).bind λr2=>ck (az 0 ([]:List aF).length)<|(iter (rO r2) n (0,v1,v2,v3,v4,v5,v6,v7,v8,v9,[])).bind λ(w1,w2,w3,w4,w5,w6,w7,w8,w9,vm)=>ck (az vm.length vm.length)<|(nI n w1 w2 w3 w4 w5 w6 w7 w8 w9 vm).bind λr5=>ck (bJ 0 0 (sub ([(bg.mk (⟨#[97,114,101,97]⟩) r5.1)]:List bg) 0 1).length 1 24)<|iH ((sub ([(bg.mk (⟨#[97,114,101,97]⟩) r5.1)]:List bg) 0 1)) λr6=>ck (az r5.2.2.2.2.2.2.2.2.2.2.length r5.2.2.2.2.2.2.2.2.2.2.length)<|(iP n r5.2.1 r5.2.2.1 r5.2.2.2.1 r5.2.2.2.2.1 r5.2.2.2.2.2.1 r5.2.2.2.2.2.2.1 r5.2.2.2.2.2.2.2.1 r5.2.2.2.2.2.2.2.2.1 r5.2.2.2.2.2.2.2.2.2.1 r5.2.2.2.2.2.2.2.2.2.2).bind λr7=>ck (bJ r6.length r6.length (sub ([(bg.mk (⟨#[99,111,118,101,114]⟩) r7.1)]:List bg) 0 1).length 1 24)<|iH (r6++(sub ([(bg.mk (⟨#[99,111,118,101,114]⟩) r7.1)]:List bg) 0 1)) λr8=>ck (az r7.2.2.2.2.2.2.2.2.2.2.length r7.2.2.2.2.2.2.2.2.2.2.length)<|(kT n r7.2.1 r7.2.2.1 r7.2.2.2.1 r7.2.2.2.2.1 r7.2.2.2.2.2.1 r7.2.2.2.2.2.2.1 r7.2.2.2.2.2.2.2.1 r7.2.2.2.2.2.2.2.2.1 r7.2.2.2.2.2.2.2.2.2.1 r7.2.2.2.2.2.2.2.2.2.2).bind λr9=>ck (bJ r8.length r8.length (sub ([(bg.mk (⟨#[102,108,111,111,114]⟩) r9.1)]:List bg) 0 1).length 1 24)<|iH (r8++(sub ([(bg.mk (⟨#[102,108,111,111,114]⟩) r9.1)]:List bg) 0 1)) λxz=>ck (az r9.2.2.2.2.2.2.2.2.2.2.length r9.2.2.2.2.2.2.2.2.2.2.length)<|(jR n r9.2.1 r9.2.2.1 r9.2.2.2.1 r9.2.2.2.2.1 r9.2.2.2.2.2.1 r9.2.2.2.2.2.2.1 r9.2.2.2.2.2.2.2.1 r9.2.2.2.2.2.2.2.2.1 r9.2.2.2.2.2.2.2.2.2.1 r9.2.2.2.2.2.2.2.2.2.2).bind λsX=>ck (bJ xz.length xz.length (sub ([(bg.mk (⟨#[102,108,111,111,114,115]⟩) sX.1)]:List bg) 0 1).length 1 24)<|iH (xz++(sub ([(bg.mk (⟨#[102,108,111,111,114,115]⟩) sX.1)]:List bg) 0 1)) λCE=>ck (az sX.2.2.2.2.2.2.2.2.2.2.length sX.2.2.2.2.2.2.2.2.2.2.length)<|(jS n sX.2.1 sX.2.2.1 sX.2.2.2.1 sX.2.2.2.2.1 sX.2.2.2.2.2.1 sX.2.2.2.2.2.2.1 sX.2.2.2.2.2.2.2.1 sX.2.2.2.2.2.2.2.2.1 sX.2.2.2.2.2.2.2.2.2.1 sX.2.2.2.2.2.2.2.2.2.2).bind λtA=>ck (bJ CE.length CE.length (sub ([(bg.mk (⟨#[104,101,105,103,104,116]⟩) tA.1)]:List bg) 0 1).length 1 24)<|iH (CE++(sub ([(bg.mk (⟨#[104,101,105,103,104,116]⟩) tA.1)]:List bg) 0 1)) λIM=>ck (az tA.2.2.2.2.2.2.2.2.2.2.length tA.2.2.2.2.2.2.2.2.2.2.length)<|(kU n tA.2.1 tA.2.2.1 tA.2.2.2.1 tA.2.2.2.2.1 tA.2.2.2.2.2.1 tA.2.2.2.2.2.2.1 tA.2.2.2.2.2.2.2.1 tA.2.2.2.2.2.2.2.2.1 tA.2.2.2.2.2.2.2.2.2.1 tA.2.2.2.2.2.2.2.2.2.2).bind λtz=>ck (bJ IM.length IM.length (sub ([(bg.mk (⟨#[104,111,109,101,115]⟩) tz.1)]:List bg) 0 1).length 1 24)<|iH (IM++(sub ([(bg.mk (⟨#[104,111,109,101,115]⟩) tz.1)]:List bg) 0 1)) λr16=>ck (az tz.2.2.2.2.2.2.2.2.2.2.length tz.2.2.2.2.2.2.2.2.2.2.length)<|(iP n tz.2.1 tz.2.2.1 tz.2.2.2.1 tz.2.2.2.2.1 tz.2.2.2.2.2.1 tz.2.2.2.2.2.2.1 tz.2.2.2.2.2.2.2.1 tz.2.2.2.2.2.2.2.2.1 tz.2.2.2.2.2.2.2.2.2.1 tz.2.2.2.2.2.2.2.2.2.2).bind λuu=>ck (bJ r16.length r16.length (sub ([(bg.mk (⟨#[114,117,110,111,102,102]⟩) uu.1)]:List bg) 0 1).length 1 24)<|iH (r16++(sub ([(bg.mk (⟨#[114,117,110,111,102,102]⟩) uu.1)]:List bg) 0 1)) λV0=>ck (az uu.2.2.2.2.2.2.2.2.2.2.length uu.2.2.2.2.2.2.2.2.2.2.length)<|(jy n uu.2.1 uu.2.2.1 uu.2.2.2.1 uu.2.2.2.2.1 uu.2.2.2.2.2.1 uu.2.2.2.2.2.2.1 uu.2.2.2.2.2.2.2.1 uu.2.2.2.2.2.2.2.2.1 uu.2.2.2.2.2.2.2.2.2.1 uu.2.2.2.2.2.2.2.2.2.2).bind λut=>ck (bJ V0.length V0.length (sub ([(bg.mk (⟨#[115,101,116,98,97,99,107]⟩) ut.1)]:List bg) 0 1).length 1 24)<|iH (V0++(sub ([(bg.mk (⟨#[115,101,116,98,97,99,107]⟩) ut.1)]:List bg) 0 1)) λVV=>ck (az ut.2.2.2.2.2.2.2.2.2.2.length ut.2.2.2.2.2.2.2.2.2.2.length)<|(jA n ut.2.1 ut.2.2.1 ut.2.2.2.1 ut.2.2.2.2.1 ut.2.2.2.2.2.1 ut.2.2.2.2.2.2.1 ut.2.2.2.2.2.2.2.1 ut.2.2.2.2.2.2.2.2.1 ut.2.2.2.2.2.2.2.2.2.1 ut.2.2.2.2.2.2.2.2.2.2).bind λr21=>ck (bJ VV.length VV.length (sub ([(bg.mk (⟨#[116,114,97,102,102,105,99]⟩) r21.1)]:List bg) 0 1).length 1 24)<|iH (VV++(sub ([(bg.mk (⟨#[116,114,97,102,102,105,99]⟩) r21.1)]:List bg) 0 1)) λIH=>ck (az (sub IH 0 IH.length).length IH.length)<|some (sub IH 0 IH.length)
def OM(n:Nat)(a0:List bg)(a1:bg):Stp Int (Unit⊕Int)
 |v1=>(bif decide (v1<(a0.length:Int))then(bj a0 v1).bind λx1=>(bif ((ByteArray.toList a1.name==ByteArray.toList x1.name)&&((a1.n==(x1.n:Int))&&true))then(some v1).map λa=> .inr (.inr a)else some (.inl (i64.wrap (v1+1))))else some (.inr (.inl ())))
def zB(a0:List bg)(a1:bg):Option Int:=
 dJ (iter (OM n a0 a1) n (0:Int)) λ()=>some ((-1):Int)
def uJ(a0:List bg)(a1:bg):Option Bool:=
 (zB n a0 a1).bind λr1=>some (decide (r1>=0))
def l7(a0:aJ)(a1:aG):Option Bool:=
 (qN n a1.c8 a1.co).bind λr1=>(bif r1.2 then(kM n (bO.mk a1.cj a1.aw a1.bp a1.aE a1.bk a1.br a1.cx a1.bu) r1.1 (aO.mk a1.co a1.b8)).bind λr2=>ck (az (sub r2 0 r2.length).length r2.length)<|(uJ n (sub r2 0 r2.length) (bg.mk a0.name a0.n)).bind λr3=>some r3 else some false)
def xC(a0:aO):Option (List aF):=
 (o6 n a0 0 a0.phases.length).bind λr1=>ck (az (sub r1 0 r1.length).length r1.length)<|some (sub r1 0 r1.length)
def yC(a0:Ha)(a1:Ha):Option Bool:=
 (tH (ax.mk a0.pP a0.pL a0.pN a0.pH) (ax.mk a1.pP a1.pL a1.pN a1.pH)).bind λr1=>(bif r1.2 then(bif decide (a0.z0<a1.z1)then some (decide (a1.z0<a0.z1))else some false)else some false)
def sD(a0:aF)(a1:aF):Option Bool:=
 (yC (Ha.mk a1.ci a1.cE a1.cd a1.cD a1.fm a1.ez) (Ha.mk a0.ci a0.cE a0.cd a0.cD a0.fm a0.ez)).bind λr1=>some r1
def Fb(a0:List aF)(a1:(aF×Unit)->Option Bool):Stp Int (Unit⊕Int)
 |v1=>(bif decide (v1<a0.length)then(bj a0 v1).bind λx1=>(a1 (x1,())).bind λr1=>(bif r1 then(some v1).map λa=> .inr (.inr a)else some (.inl (i64.wrap (v1+1))))else some (.inr (.inl ())))
def rC(a0:List aF)(a1:(aF×Unit)->Option Bool):Option Int:=
 dJ (iter (Fb a0 a1) n 0) λ()=>some (-1)
def fO(a0:List aF)(a1:(aF×Unit)->Option Bool):Option Bool:=
 (rC n a0 a1).bind λr1=>some (decide (r1>=0))
def Fe(a0:Int):Option Bool:=
 (bif decide (a0>=97)then some (decide (a0<=122))else some false)
def AX(a0:ByteArray)(a1:(Int×Unit)->Option Bool):Stp Int Int
 |v1=>((bif decide (v1<a0.size)then(SV a0 v1).bind λx1=>(a1 (x1,())).bind λr1=>some r1 else some false)).bind λv2=>(bif v2 then some (.inl (i64.wrap (v1+1)))else some (.inr v1))
def OO(a0:ByteArray)(a1:(Int×Unit)->Option Bool):Option Int:=
 (iter (AX a0 a1) n 0).bind λw1=>some w1
def QZ(a0:Int):Option Bool:=
 (bif decide (a0>=48)then some (decide (a0<=57))else some false)
def AY(a0:Int):Option Bool:=
 (Fe a0).bind λr1=>(bif r1 then some true else(QZ a0).bind λr2=>some r2)
def OQ(a0:ByteArray):Option Bool:=
 ((bif (ByteArray.toList a0==ByteArray.toList (⟨#[]⟩))then some true else(SV a0 0).bind λx1=>(Fe x1).bind λr1=>(bif (!r1)then some true else some (decide ((a0.size:Int)>20))))).bind λv1=>(bif v1 then some false else(OO n a0 (λ (y1:Int×Unit)=>AY y1.1)).bind λr2=>some (r2==a0.size))
def strings_Contains(a0 a1:ByteArray):Option Bool:=ck (Nat.ble a0.size 4000000)<|some (Lib.contains a0.data.toList a1.data.toList)
def xD(a0:ByteArray):Option Bool:=
 (OQ n a0).bind λr1=>(bif r1 then ck (WC (⟨#[32]⟩) a0)<|ck (WC ((⟨#[32]⟩)++a0) (⟨#[32]⟩))<|(strings_Contains (⟨#[32,97,110,100,32,97,112,97,114,116,32,98,97,115,101,32,99,97,112,32,100,101,102,105,110,101,32,101,108,115,101,32,101,120,99,101,112,116,32,102,114,111,109,32,103,114,97,99,101,32,104,111,117,114,115,32,105,102,32,105,110,32,108,101,97,115,116,32,110,111,116,32,111,114,32,111,118,101,114,108,97,121,32,112,108,97,110,101,32,114,117,108,101,32,115,108,111,112,101,32,115,117,110,32,116,97,98,108,101,32,116,104,101,110,32,117,110,116,105,108,32,117,115,101,115,32,118,97,114,121,32,118,105,101,119,32,122,111,110,101,32]⟩) (((⟨#[32]⟩)++a0)++(⟨#[32]⟩))).bind λr2=>some (!r2)else some false)
def lI(r1:List aF):Stp Int (Unit⊕Bool)
 |v2=>(bif decide (v2<(r1.length:Nat))then ck (cP v2 r1.length)<|(bj r1 ((0:Nat)+v2:Int)).bind λx1=>((fU x1).bind λr2=>(bif (!r2)then some true else ck (y9 0 v2 r1.length)<|ck (az (sub r1 0 (v2.toNat)).length (v2.toNat))<|(fO n (sub r1 0 (v2.toNat)) (λ (y1:aF×Unit)=>sD y1.1 x1)).bind λr3=>some r3)).bind λv3=>(bif v3 then(some false).map λa=> .inr (.inr a)else some (.inl (i64.wrap (v2+1))))else some (.inr (.inl ())))
def lJ(x2:lu):Stp (Int×(List (ByteArray×Bool))) (Unit⊕(Int⊕(Unit⊕Bool)))
 |(v5,v6)=>(bif decide (v5<x2.gives.length)then(bj x2.gives v5).bind λx3=>((bif ((gH fi x3.name v6).getD false)then some true else(xD n x3.name).bind λr4=>(bif (!r4)then some true else(bif decide (x3.n<0)then some true else some (decide (x3.n>1073741824)))))).bind λv7=>(bif v7 then((some false).map λa=> .inr (.inr a)).map λa=> .inr (.inr a)else some (.inl ((i64.wrap (v5+1)),(Gr fi x3.name true v6))))else some (.inr (.inl ())))
def lK(a0:aO):Stp Int (Unit⊕Bool)
 |v4=>(bif decide (v4<a0.phases.length)then(bj a0.phases v4).bind λx2=>dJ (iter (lJ n x2) n (0,([]:(List (ByteArray×Bool))))) λ()=>(bif decide ((x2.gives.length:Int)>30)then(some false).map λa=> .inr (.inr a)else some (.inl (i64.wrap (v4+1))))else some (.inr (.inl ())))
def yD(a0:aO):Option Bool:=
 (xC n a0).bind λr1=>((bif decide (a0.lot<0)then some true else(bif decide (a0.lot>1073741824)then some true else(bif decide ((a0.phases.length:Int)<1)then some true else(bif decide ((a0.phases.length:Int)>8)then some true else(bif decide ((r1.length:Int)<1)then some true else some (decide ((r1.length:Int)>40)))))))).bind λv1=>(bif v1 then some false else dJ (iter (lI n r1) n 0) λ()=>dJ (iter (lK n a0) n 0) λ()=>some true)
def l8(a0:List bR)(a1:Int)(a2:(bR×Int×Unit)->Option Int):Stp (Int×Int) Int
 |(v1,v2)=>(bif decide (v1<v2)then ck (decide (0<=1)&&decide (1<=IntKind.u64.bits))<|(bj a0 (i64.wrap ((IntKind.u64.wrap (i64.wrap (v1+v2)))/2 ^ (1:Int).toNat))).bind λx1=>(a2 (x1,a1,())).bind λr1=>(bif decide (r1<0)then some (.inl ((i64.wrap ((i64.wrap ((IntKind.u64.wrap (i64.wrap (v1+v2)))/2 ^ (1:Int).toNat))+1)),v2))else some (.inl (v1,(i64.wrap ((IntKind.u64.wrap (i64.wrap (v1+v2)))/2 ^ (1:Int).toNat)))))else some (.inr v1))
def jg(a0:List bR)(a1:Int)(a2:(bR×Int×Unit)->Option Int):Option (Int×Bool):=
 (iter (l8 a0 a1 a2) n (0,a0.length)).bind λw1=>(bif decide (w1<a0.length)then(bj a0 w1).bind λx2=>(a2 (x2,a1,())).bind λr2=>some (w1,(r2==0))else some (w1,false))
def xE(a0:bR)(a1:Int):Option Int:=
 (bif decide (a0.x1<=a1)then some (-1)else some 1)
def XR(a0:List bR)(a1:Int):Option (List aR):=
 (jg n a0 a1 (λ (y1:bR×Int×Unit)=>xE y1.1 y1.2.1)).bind λr1=>((bif decide (r1.1<a0.length)then(bj a0 r1.1).bind λx1=>some (decide (x1.x0<=a1))else some false)).bind λv1=>(bif v1 then(bj a0 r1.1).bind λx2=>some x2.column else some [])
def OT(a0:Unit)(a1:Int):Option (List aR):=
 (bif decide (a1<0)then none else(bif (decide ((i64.wrap (a1 -(i64.wrap (0 -0))))>0))then ck (qH (i64.wrap (a1 -(i64.wrap (0 -0)))) 16)<|ck (y9 0 0 ((i64.wrap (a1 -(i64.wrap (0 -0)))).toNat))<|ck (az (sub (List.replicate (i64.wrap (a1 -(i64.wrap (0 -0)))).toNat (aR.mk 0 0)) 0 0).length 0)<|some (sub (List.replicate (i64.wrap (a1 -(i64.wrap (0 -0)))).toNat (aR.mk 0 0)) 0 0)else some []))
def OU(a0:List (List aR)):Stp (Int×Int) Int
 |(v1,v2)=>(bif decide (v2<a0.length)then(bj a0 v2).bind λx1=>(bif decide ((i64.wrap (v1+x1.length))<0)then none else some (.inl ((i64.wrap (v1+x1.length)),(i64.wrap (v2+1)))))else some (.inr v1))
def OV(a0:List (List aR)):Stp (Int×(List aR)) (List aR)
 |(v3,v4)=>(bif decide (v3<a0.length)then(bj a0 v3).bind λx2=>ck (bJ v4.length v4.length x2.length x2.length 16)<|iH (v4++x2) λr2=>ck (az r2.length r2.length)<|some (.inl ((i64.wrap (v3+1)),r2))else ck (az v4.length v4.length)<|some (.inr v4))
def zC(a0:List (List aR)):Option (List aR):=
 (iter (OU a0) n (0,0)).bind λw1=>(OT () w1).bind λr1=>ck (az r1.length r1.length)<|(iter (OV a0) n (0,r1)).bind λw2=>ck (az (sub w2 0 w2.length).length w2.length)<|some (sub w2 0 w2.length)
def nH(a0:List aR)(a1:Int)(a2:(aR×Int×Unit)->Option Int):Stp (Int×Int) Int
 |(v1,v2)=>(bif decide (v1<v2)then ck (decide (0<=1)&&decide (1<=IntKind.u64.bits))<|(bj a0 (i64.wrap ((IntKind.u64.wrap (i64.wrap (v1+v2)))/2 ^ (1:Int).toNat))).bind λx1=>(a2 (x1,a1,())).bind λr1=>(bif decide (r1<0)then some (.inl ((i64.wrap ((i64.wrap ((IntKind.u64.wrap (i64.wrap (v1+v2)))/2 ^ (1:Int).toNat))+1)),v2))else some (.inl (v1,(i64.wrap ((IntKind.u64.wrap (i64.wrap (v1+v2)))/2 ^ (1:Int).toNat)))))else some (.inr v1))
def jH(a0:List aR)(a1:Int)(a2:(aR×Int×Unit)->Option Int):Option (Int×Bool):=
 (iter (nH a0 a1 a2) n (0,a0.length)).bind λw1=>(bif decide (w1<a0.length)then(bj a0 w1).bind λx2=>(a2 (x2,a1,())).bind λr2=>some (w1,(r2==0))else some (w1,false))
def l9(a0:aR)(a1:Int):Option Int:=
 (bif decide (a0.to<=a1)then some (-1)else some 1)
def Dv(a0:List aR)(a1:Int):Option Bool:=
 (jH n a0 a1 (λ (y1:aR×Int×Unit)=>l9 y1.1 y1.2.1)).bind λr1=>(bif decide (r1.1<a0.length)then(bj a0 r1.1).bind λx1=>some (decide (x1.from_<=a1))else some false)
def xG(r1:List aR):Stp (Int×(List Int)) (List Int)
 |(v1,v2)=>(bif decide (v1<(r1.length:Nat))then ck (cP v1 r1.length)<|(bj r1 ((0:Nat)+v1:Int)).bind λx1=>ck (bJ v2.length v2.length (sub ([x1.from_,x1.to]:List Int) 0 2).length 2 8)<|iH (v2++(sub ([x1.from_,x1.to]:List Int) 0 2)) λr2=>ck (az r2.length r2.length)<|some (.inl ((i64.wrap (v1+1)),r2))else ck (az v2.length v2.length)<|some (.inr v2))
def xH(a0:List aR)(a1:List aR)(a2:(Bool×Bool×Unit)->Option Bool)(r4:Unit×(List Int)):Stp (Int×(List aR)) (List aR)
 |(v3,v4)=>(bif decide (v3<(r4.2.length:Nat))then(ck (cP (i64.wrap (v3 -1)) r4.2.length)<|(bj r4.2 ((0:Nat)+(i64.wrap (v3 -1)):Int)).bind λx2=>(Dv n a0 x2).bind λr5=>(Dv n a1 x2).bind λr6=>(a2 (r5,r6,())).bind λr7=>(bif (!r7)then ck (az v4.length v4.length)<|some v4 else((bif decide ((v4.length:Int)>0)then ck (cP (i64.wrap ((v4.length:Nat) -1)) v4.length)<|(bj v4 ((0:Nat)+(i64.wrap ((v4.length:Nat) -1)):Int)).bind λx3=>some (x3.to==x2)else some false)).bind λv5=>(bif v5 then ck (cP v3 r4.2.length)<|(bj r4.2 ((0:Nat)+v3:Int)).bind λx4=>ck (cP (i64.wrap ((v4.length:Nat) -1)) v4.length)<|(bj v4 ((0:Nat)+(i64.wrap ((v4.length:Nat) -1)):Int)).bind λx5=>ck (az v4.length (v4.set ((0:Nat)+(i64.wrap ((v4.length:Nat) -1)):Int).toNat (aR.mk x5.from_ x4)).length)<|some (v4.set ((0:Nat)+(i64.wrap ((v4.length:Nat) -1)):Int).toNat (aR.mk x5.from_ x4))else ck (cP v3 r4.2.length)<|(bj r4.2 ((0:Nat)+v3:Int)).bind λx6=>ck (bJ v4.length v4.length (sub ([(aR.mk x2 x6)]:List aR) 0 1).length 1 16)<|iH (v4++(sub ([(aR.mk x2 x6)]:List aR) 0 1)) λr8=>ck (az r8.length r8.length)<|some r8)):Option ((List aR))).bind λv6=>ck (az v6.length v6.length)<|some (.inl ((i64.wrap (v3+1)),v6))else ck (az v4.length v4.length)<|some (.inr v4))
def Jd(a0:List aR)(a1:List aR)(a2:(Bool×Bool×Unit)->Option Bool):Option (List aR):=
 ck (az (sub ([a0,a1]:List (List aR)) 0 2).length 2)<|(zC n (sub ([a0,a1]:List (List aR)) 0 2)).bind λr1=>ck (az 0 ([]:List Int).length)<|(iter (xG r1) n (0,[])).bind λw1=>ck (az w1.length w1.length)<|(lX n w1).bind λr3=>ck (az w1.length r3.length)<|(kH n r3).bind λr4=>ck (az 0 ([]:List aR).length)<|(iter (xH n a0 a1 a2 r4) n (1,[])).bind λw2=>ck (az (sub w2 0 w2.length).length w2.length)<|some (sub w2 0 w2.length)
def rP(a2:(Bool×Bool×Unit)->Option Bool)(r3:List bR)(r4:List bR)(r5:List bR):Stp (Int×(List bR)) (List bR)
 |(v2,v3)=>(bif decide (v2<(r5.length:Nat))then ck (cP v2 r5.length)<|(bj v3 ((0:Nat)+v2:Int)).bind λx1=>(XR n (sub r3 0 r3.length) x1.x0).bind λr6=>(XR n (sub r4 0 r4.length) x1.x0).bind λr7=>(Jd n r6 r7 a2).bind λr8=>ck (cP v2 r5.length)<|ck (az (sub r8 0 r8.length).length r8.length)<|(bj v3 ((0:Nat)+v2:Int)).bind λx2=>some (.inl ((i64.wrap (v2+1)),(v3.set ((0:Nat)+v2:Int).toNat (bR.mk x2.x0 x2.x1 (sub r8 0 r8.length)))))else some (.inr v3))
def Ff(a0:List ax)(a1:List ax)(a2:(Bool×Bool×Unit)->Option Bool):Option ((List ax)×Int):=
 ((lY n a0).bind λr1=>(bif (!r1)then some true else(lY n a1).bind λr2=>some (!r2))).bind λv1=>(bif v1 then some ([],1)else ck (az (sub ([a0]:List (List ax)) 0 1).length 1)<|(pG n (sub ([a0]:List (List ax)) 0 1)).bind λr3=>ck (az (sub ([a1]:List (List ax)) 0 1).length 1)<|(pG n (sub ([a1]:List (List ax)) 0 1)).bind λr4=>ck (az (sub r3 0 r3.length).length r3.length)<|ck (az (sub r4 0 r4.length).length r4.length)<|ck (az (sub ([a0,a1]:List (List ax)) 0 2).length 2)<|(pG n (sub ([a0,a1]:List (List ax)) 0 2)).bind λr5=>(iter (rP n a2 r3 r4 r5) n (0,r5)).bind λw1=>ck (az (sub w1 0 r5.length).length r5.length)<|(Jb n (sub w1 0 r5.length)).bind λr9=>ck (az (sub r9 0 r9.length).length r9.length)<|(zw (sub r9 0 r9.length)).bind λxz=>some (xz.1,xz.2))
def yE(a0:Bool)(a1:Bool):Option Bool:=
 (bif a0 then some a1 else some false)
def Ku(a0:List ax)(a1:List ax):Option ((List ax)×Int):=
 (Ff n a0 a1 (λ (y1:Bool×Bool×Unit)=>yE y1.1 y1.2.1)).bind λr1=>some (r1.1,r1.2)
def wh(a0:jE)(a1:bg):Option Bool:=
 some (ByteArray.toList a0.name==ByteArray.toList a1.name)
def KL(a0:List jE)(a1:(jE×Unit)->Option Bool):Stp Int (Unit⊕Int)
 |v1=>(bif decide (v1<a0.length)then(bj a0 v1).bind λx1=>(a1 (x1,())).bind λr1=>(bif r1 then(some v1).map λa=> .inr (.inr a)else some (.inl (i64.wrap (v1+1))))else some (.inr (.inl ())))
def wm(a0:List jE)(a1:(jE×Unit)->Option Bool):Option Int:=
 dJ (iter (KL a0 a1) n 0) λ()=>some (-1)
def nJ(a0:List jE)(a1:(jE×Unit)->Option Bool):Option Bool:=
 (wm n a0 a1).bind λr1=>some (decide (r1>=0))
def kC(a1:fE)(r3:List aF):Stp Int (Unit⊕Bool)
 |v2=>(bif decide (v2<(r3.length:Nat))then ck (cP v2 r3.length)<|(bj r3 ((0:Nat)+v2:Int)).bind λx1=>ck (az (sub ([(ax.mk x1.ci x1.cE x1.cd x1.cD)]:List ax) 0 1).length 1)<|(Ku n a1.area (sub ([(ax.mk x1.ci x1.cE x1.cd x1.cD)]:List ax) 0 1)).bind λr4=>((bif (r4.2 !=0)then some true else(OL n r4.1).bind λr5=>(zA (ax.mk x1.ci x1.cE x1.cd x1.cD)).bind λr6=>some (decide (r5<r6)))).bind λv3=>(bif v3 then(some false).map λa=> .inr (.inr a)else some (.inl (i64.wrap (v2+1))))else some (.inr (.inl ())))
def kD(a0:bO)(x2:lu):Stp Int (Unit⊕(Int⊕(Unit⊕Bool)))
 |v5=>(bif decide (v5<x2.gives.length)then(bj x2.gives v5).bind λx3=>(nJ n a0.caps (λ (y1:jE×Unit)=>wh y1.1 x3)).bind λr7=>(bif (!r7)then((some false).map λa=> .inr (.inr a)).map λa=> .inr (.inr a)else some (.inl (i64.wrap (v5+1))))else some (.inr (.inl ())))
def kE(a0:bO)(a2:aO):Stp Int (Unit⊕Bool)
 |v4=>(bif decide (v4<a2.phases.length)then(bj a2.phases v4).bind λx2=>dJ (iter (kD n a0 x2) n 0) λ()=>some (.inl (i64.wrap (v4+1)))else some (.inr (.inl ())))
def pK(a0:bO)(a1:fE)(a2:aO):Option Bool:=
 ((yD n a2).bind λr1=>(bif (!r1)then some true else(bif (a1.id !=a2.lot)then some true else(lY n a1.area).bind λr2=>some (!r2)))).bind λv1=>(bif v1 then some false else(xC n a2).bind λr3=>dJ (iter (kC n a1 r3) n 0) λ()=>dJ (iter (kE n a0 a2) n 0) λ()=>some true)
def pY(a0:aO):Stp (Int×(List aF)) (List aF)
 |(v1,v2)=>(bif decide (v1<a0.phases.length)then(bj a0.phases v1).bind λx1=>ck (bJ v2.length v2.length x1.bx.length x1.bx.length 72)<|iH (v2++x1.bx) λr1=>ck (az r1.length r1.length)<|some (.inl ((i64.wrap (v1+1)),r1))else ck (az v2.length v2.length)<|some (.inr v2))
def uK(a0:aO):Option (List aF):=
 ck (az 0 ([]:List aF).length)<|(iter (pY a0) n (0,[])).bind λw1=>ck (az (sub w1 0 w1.length).length w1.length)<|some (sub w1 0 w1.length)
def p8(a0:List dY):Stp (Int×(List jM)) (List jM)
 |(v1,v2)=>(bif decide (v1<a0.length)then(bj a0 v1).bind λx1=>ck ((a0.length:Int) !=0)<|(bj a0 (Int.tmod (i64.wrap (v1+1)) (a0.length:Int))).bind λx2=>ck (cP v1 ((a0.length:Int).toNat))<|(bj v2 ((0:Nat)+v1:Int)).bind λx3=>some (.inl ((i64.wrap (v1+1)),(v2.set ((0:Nat)+v1:Int).toNat (jM.mk x1.x x1.y x2.x x2.y))))else some (.inr v2))
def qp(a0:List dY):Option (List jM):=
 ck (decide ((a0.length:Int)<=a0.length)&&(decide (0<=(a0.length:Int))&&qH a0.length 32))<|(iter (p8 a0) n (0,(List.replicate (a0.length:Int).toNat (jM.mk 0 0 0 0)))).bind λw1=>ck (az (sub w1 0 ((a0.length:Int).toNat)).length ((a0.length:Int).toNat))<|some (sub w1 0 ((a0.length:Int).toNat))
def uL(a0:dY):Option Bool:=
 (bif decide (0<=a0.x)then(bif decide (a0.x<=1048576)then(bif decide (0<=a0.y)then some (decide (a0.y<=1048576))else some false)else some false)else some false)
def gM(a0:jM):Option Bool:=
 some (a0.mL==a0.nb)
def BQ(a0:List Int):Stp Int (Unit⊕Int)
 |v1=>(bif decide (v1<a0.length)then(bj a0 v1).bind λx1=>(bif (x1 !=0)then(some x1).map λa=> .inr (.inr a)else some (.inl (i64.wrap (v1+1))))else some (.inr (.inl ())))
def wu(a0:List Int):Option Int:=
 dJ (iter (BQ a0) n 0) λ()=>some 0
def sF(a0:dY)(a1:dY):Option Int:=
 (cmp_Compare_int a0.x a1.x).bind λr1=>(cmp_Compare_int a0.y a1.y).bind λr2=>ck (az (sub ([r1,r2]:List Int) 0 2).length 2)<|(wu n (sub ([r1,r2]:List Int) 0 2)).bind λr3=>some r3
def mh(a0:jM)(a1:jM):Option Bool:=
 (bif decide ((max (min a0.mL a0.nb) (min a1.mL a1.nb))<=(min (max a0.mL a0.nb) (max a1.mL a1.nb)))then some (decide ((max (min a0.q7 a0.wd) (min a1.q7 a1.wd))<=(min (max a0.q7 a0.wd) (max a1.q7 a1.wd))))else some false)
def qO(a0:List dY)(r1:List jM):Stp Int (Unit⊕Bool)
 |v2=>(bif decide (v2<(r1.length:Nat))then ck (cP v2 r1.length)<|(bj r1 ((0:Nat)+v2:Int)).bind λx1=>ck ((r1.length:Int) !=0)<|ck (cP (Int.tmod (i64.wrap (v2+1)) (r1.length:Int)) r1.length)<|(bj r1 ((0:Nat)+(Int.tmod (i64.wrap (v2+1)) (r1.length:Int)):Int)).bind λx2=>((uL (dY.mk x1.mL x1.q7)).bind λr2=>(bif (!r2)then some true else(bif ((x1.mL==x1.nb)==(x1.q7==x1.wd))then some true else(gM x1).bind λr3=>(gM x2).bind λr4=>some (r3==r4)))).bind λv3=>(bif v3 then(some false).map λa=> .inr (.inr a)else((bif decide (v2>0)then(bj a0 0).bind λx3=>(bj a0 v2).bind λx4=>(sF n x3 x4).bind λr5=>some (decide (r5>=0))else some false)).bind λv4=>(bif v4 then(some false).map λa=> .inr (.inr a)else some (.inl (i64.wrap (v2+1)))))else some (.inr (.inl ())))
def iY(r1:List jM)(v5:Int):Stp Int (Unit⊕(Int⊕(Unit⊕Bool)))
 |v6=>(bif decide (v6<(r1.length:Nat))then((bif (decide ((i64.wrap ((i64.wrap (v5+(r1.length:Nat))) -v6))>1))then ck (cP v5 r1.length)<|(bj r1 ((0:Nat)+v5:Int)).bind λx5=>ck (cP v6 r1.length)<|(bj r1 ((0:Nat)+v6:Int)).bind λx6=>(mh x5 x6).bind λr6=>some r6 else some false)).bind λv7=>(bif v7 then((some false).map λa=> .inr (.inr a)).map λa=> .inr (.inr a)else some (.inl (i64.wrap (v6+1))))else some (.inr (.inl ())))
def qP(r1:List jM):Stp Int (Unit⊕Bool)
 |v5=>(bif decide (v5<(r1.length:Nat))then dJ (iter (iY r1 v5) n (i64.wrap (v5+2))) λ()=>some (.inl (i64.wrap (v5+1)))else some (.inr (.inl ())))
def wM(a0:List dY):Option Bool:=
 ((bif decide ((a0.length:Int)<4)then some true else some (decide ((a0.length:Int)>60)))).bind λv1=>(bif v1 then some false else(qp n a0).bind λr1=>dJ (iter (qO n a0 r1) n 0) λ()=>dJ (iter (qP n r1) n 0) λ()=>ck (cP 0 r1.length)<|(bj r1 ((0:Nat)+0:Int)).bind λx7=>(gM x7).bind λr7=>some (!r7))
def mq(a0:List dY):Stp (Int×(List Int)) (List Int)
 |(v1,v2)=>(bif decide (v1<a0.length)then(bj a0 v1).bind λx1=>ck (bJ v2.length v2.length (sub ([x1.x]:List Int) 0 1).length 1 8)<|iH (v2++(sub ([x1.x]:List Int) 0 1)) λr2=>ck (az r2.length r2.length)<|some (.inl ((i64.wrap (v1+1)),r2))else ck (az v2.length v2.length)<|some (.inr v2))
def mD(r4:Unit×(List Int))(r5:List jM)(v3:Int):Stp (Int×(List Int)) (List Int)
 |(v5,v6)=>(bif decide (v5<(r5.length:Nat))then(ck (cP v5 r5.length)<|(bj r5 ((0:Nat)+v5:Int)).bind λx2=>((gM x2).bind λr6=>(bif (!r6)then ck (cP v3 r4.2.length)<|(bj r4.2 ((0:Nat)+v3:Int)).bind λx3=>(bif decide ((min x2.mL x2.nb)<=x3)then ck (cP v3 r4.2.length)<|(bj r4.2 ((0:Nat)+v3:Int)).bind λx4=>some (decide (x4<(max x2.mL x2.nb)))else some false)else some false)).bind λv7=>(bif v7 then ck (bJ v6.length v6.length (sub ([x2.q7]:List Int) 0 1).length 1 8)<|iH (v6++(sub ([x2.q7]:List Int) 0 1)) λr7=>ck (az r7.length r7.length)<|some r7 else ck (az v6.length v6.length)<|some v6):Option ((List Int))).bind λv8=>ck (az v8.length v8.length)<|some (.inl ((i64.wrap (v5+1)),v8))else ck (az v6.length v6.length)<|some (.inr v6))
def jB(r4:Unit×(List Int))(v3:Int)(w2:List Int)(r8:List Int):Stp (Int×(List ax)) (List ax)
 |(v9,v10)=>(bif decide ((i64.wrap (v9+1))<(w2.length:Nat))then ck (cP v3 r4.2.length)<|(bj r4.2 ((0:Nat)+v3:Int)).bind λx5=>ck (cP v9 w2.length)<|(bj r8 ((0:Nat)+v9:Int)).bind λx6=>ck (cP (i64.wrap (v3+1)) r4.2.length)<|(bj r4.2 ((0:Nat)+(i64.wrap (v3+1)):Int)).bind λx7=>ck (cP (i64.wrap (v9+1)) w2.length)<|(bj r8 ((0:Nat)+(i64.wrap (v9+1)):Int)).bind λx8=>ck (bJ v10.length v10.length (sub ([(ax.mk x5 x6 x7 x8)]:List ax) 0 1).length 1 32)<|iH (v10++(sub ([(ax.mk x5 x6 x7 x8)]:List ax) 0 1)) λr9=>ck (az r9.length r9.length)<|some (.inl ((i64.wrap (v9+2)),r9))else ck (az v10.length v10.length)<|some (.inr v10))
def mE(r4:Unit×(List Int))(r5:List jM):Stp (Int×(List ax)) (List ax)
 |(v3,v4)=>(bif decide (v3<(i64.wrap ((r4.2.length:Nat) -1)))then ck (az 0 ([]:List Int).length)<|(iter (mD r4 r5 v3) n (0,[])).bind λw2=>ck (az w2.length w2.length)<|(lX n w2).bind λr8=>ck (az v4.length v4.length)<|(iter (jB r4 v3 w2 r8) n (0,v4)).bind λw3=>ck (az w3.length w3.length)<|some (.inl ((i64.wrap (v3+1)),w3))else ck (az v4.length v4.length)<|some (.inr v4))
def uM(a0:List dY):Option ((List ax)×Int):=
 (wM n a0).bind λr1=>(bif (!r1)then some ([],10)else ck (az 0 ([]:List Int).length)<|(iter (mq a0) n (0,[])).bind λw1=>ck (az w1.length w1.length)<|(lX n w1).bind λr3=>ck (az w1.length r3.length)<|(kH n r3).bind λr4=>(qp n a0).bind λr5=>ck (az 0 ([]:List ax).length)<|(iter (mE n r4 r5) n (0,[])).bind λw4=>(bif decide ((w4.length:Int)>200)then some ([],6)else ck (az (sub w4 0 w4.length).length w4.length)<|some ((sub w4 0 w4.length),0)))
def yF(a0:fG):Option (List ax):=
 (uM n a0.corners).bind λr1=>(bif (r1.2 !=0)then some []else ck (az (sub r1.1 0 r1.1.length).length r1.1.length)<|some (sub r1.1 0 r1.1.length))
def qQ(a1:List ax)(x1:ax):Stp (Int×Int×Int×Int) (Int×Int×Int)
 |(v5,v6,v7,v8)=>(bif decide (v6<a1.length)then((bj a1 v6).bind λx2=>(tH x1 x2).bind λr1=>(bif (!r1.2)then some (v5,v7,v8)else(zA r1.1).bind λr2=>(cmp_Compare_int r1.1.x0 v7).bind λr3=>(cmp_Compare_int r1.1.y0 v8).bind λr4=>ck (az (sub ([r3,r4]:List Int) 0 2).length 2)<|(wu n (sub ([r3,r4]:List Int) 0 2)).bind λr5=>(bif decide (r5<0)then some ((i64.wrap (v5+r2)),r1.1.x0,r1.1.y0)else some ((i64.wrap (v5+r2)),v7,v8))):Option (Int×Int×Int)).bind λ(v9,v10,v11)=>some (.inl (v9,(i64.wrap (v6+1)),v10,v11))else some (.inr (v5,v7,v8)))
def qR(a0:List ax)(a1:List ax):Stp (Int×Int×Int×Int) (Int×Int×Int)
 |(v1,v2,v3,v4)=>(bif decide (v2<a0.length)then(bj a0 v2).bind λx1=>(iter (qQ n a1 x1) n (v1,0,v3,v4)).bind λ(w1,w2,w3)=>some (.inl (w1,(i64.wrap (v2+1)),w2,w3))else some (.inr (v1,v3,v4)))
def wO(a0:List ax)(a1:List ax):Option (Int×dY):=
 (iter (qR n a0 a1) n (0,0,1048576,0)).bind λ(w4,w5,w6)=>some (w4,(dY.mk w5 w6))
def qU(a0:bO)(a1:List ax):Stp (Int×(List Int)) (List Int)
 |(v1,v2)=>(bif decide (v1<a0.zones.length)then(bj a0.zones v1).bind λx1=>(yF n x1).bind λr2=>ck (az (sub r2 0 r2.length).length r2.length)<|(wO n a1 (sub r2 0 r2.length)).bind λr3=>ck (bJ v2.length v2.length (sub ([r3.1]:List Int) 0 1).length 1 8)<|iH (v2++(sub ([r3.1]:List Int) 0 1)) λr4=>ck (az r4.length r4.length)<|some (.inl ((i64.wrap (v1+1)),r4))else ck (az v2.length v2.length)<|some (.inr v2))
def wP(a0:bO)(a1:List ax):Option (List Int):=
 (lY n a1).bind λr1=>(bif (!r1)then some []else ck (az 0 ([]:List Int).length)<|(iter (qU n a0 a1) n (0,[])).bind λw1=>ck (az (sub w1 0 w1.length).length w1.length)<|some (sub w1 0 w1.length))
def qV(a0:bO)(r1:List Int):Stp (Int×Int) Int
 |(v1,v2)=>(bif decide (v2<(r1.length:Nat))then(ck (cP v2 r1.length)<|(bj r1 ((0:Nat)+v2:Int)).bind λx1=>((bj a0.zones v2).bind λx2=>(bif (!x2.overlay)then(bif decide (x1>0)then(bif decide (v1<0)then some true else ck (cP v1 r1.length)<|(bj r1 ((0:Nat)+v1:Int)).bind λx3=>some (decide (x1>x3)))else some false)else some false)).bind λv3=>(bif v3 then some v2 else some v1):Option Int).bind λv4=>some (.inl (v4,(i64.wrap (v2+1))))else some (.inr v1))
def yG(a0:bO)(r1:List Int)(w1:Int):Stp (Int×(List ByteArray)) (List ByteArray)
 |(v5,v6)=>(bif decide (v5<(r1.length:Nat))then(ck (cP v5 r1.length)<|(bj r1 ((0:Nat)+v5:Int)).bind λx4=>((bif (v5==w1)then some true else(bj a0.zones v5).bind λx5=>(bif x5.overlay then some (decide (x4>0))else some false))).bind λv7=>(bif v7 then(bj a0.zones v5).bind λx6=>ck (bJ v6.length v6.length (sub ([x6.name]:List ByteArray) 0 1).length 1 16)<|iH (v6++(sub ([x6.name]:List ByteArray) 0 1)) λr2=>ck (az r2.length r2.length)<|some r2 else ck (az v6.length v6.length)<|some v6):Option ((List ByteArray))).bind λv8=>ck (az v8.length v8.length)<|some (.inl ((i64.wrap (v5+1)),v8))else ck (az v6.length v6.length)<|some (.inr v6))
def Dw(a0:bO)(a1:List ax):Option (List ByteArray):=
 (wP n a0 a1).bind λr1=>(iter (qV a0 r1) n ((-1),0)).bind λw1=>ck (az 0 ([]:List ByteArray).length)<|(iter (yG a0 r1 w1) n (0,[])).bind λw2=>ck (az (sub w2 0 w2.length).length w2.length)<|some (sub w2 0 w2.length)
def AZ(a0:eH)(a1:aO):Option (ni×Int):=
 (qN n a0.land a1.lot).bind λr1=>(bif (!r1.2)then some ((ni.mk ([]) ([]) ([]) ([]) ([]) ([]) ([]) 0 ([]) ([]) ([]) ([]) ([]) 0 0 ([]) ([]) 0 ([]) ([]) ([])),4)else(pK n (bO.mk a0.cH a0.ct a0.cz a0.aq a0.cQ a0.cV a0.d5 a0.cW) r1.1 a1).bind λr2=>(bif (!r2)then some ((ni.mk ([]) ([]) ([]) ([]) ([]) ([]) ([]) 0 ([]) ([]) ([]) ([]) ([]) 0 0 ([]) ([]) 0 ([]) ([]) ([])),1)else(uK n a1).bind λr3=>(Dw n (bO.mk a0.cH a0.ct a0.cz a0.aq a0.cQ a0.cV a0.d5 a0.cW) r1.1.area).bind λr4=>ck (az (sub r3 0 r3.length).length r3.length)<|ck (az (sub r4 0 r4.length).length r4.length)<|some ((ni.mk a0.cH a0.ct a0.cz a0.aq a0.cQ a0.cV a0.d5 a0.cW a0.land a0.cJ a0.windows a0.built a0.base r1.1.id r1.1.owner r1.1.area r1.1.from_ a1.lot a1.phases (sub r3 0 r3.length) (sub r4 0 r4.length)),0)))
def kF(a0:ByteArray)(a1:List ByteArray):Option Bool:=
 (dZ n a1 a0).bind λr1=>some r1
def Fg(a0:List ByteArray)(a1:(ByteArray×Unit)->Option Bool):Stp Int (Unit⊕Int)
 |v1=>(bif decide (v1<a0.length)then(bj a0 v1).bind λx1=>(a1 (x1,())).bind λr1=>(bif r1 then(some v1).map λa=> .inr (.inr a)else some (.inl (i64.wrap (v1+1))))else some (.inr (.inl ())))
def rD(a0:List ByteArray)(a1:(ByteArray×Unit)->Option Bool):Option Int:=
 dJ (iter (Fg a0 a1) n 0) λ()=>some (-1)
def fP(a0:List ByteArray)(a1:(ByteArray×Unit)->Option Bool):Option Bool:=
 (rD n a0 a1).bind λr1=>some (decide (r1>=0))
def rQ(a0:cK)(a1:List ByteArray):Option Bool:=
 (bif ((a0.zones.length:Int)==0)then(fP n a0.except (λ (y1:ByteArray×Unit)=>kF n y1.1 a1)).bind λr1=>some (!r1)else(fP n a0.zones (λ (y2:ByteArray×Unit)=>kF n y2.1 a1)).bind λr2=>(bif r2 then(fP n a0.except (λ (y3:ByteArray×Unit)=>kF n y3.1 a1)).bind λr3=>some (!r3)else some false))
def sG(a0:bO)(a1:List ByteArray)(a2:Int):Stp (Int×(List Int)) (List Int)
 |(v1,v2)=>(bif decide (v1<a0.rules.length)then((bj a0.rules v1).bind λx1=>((bif decide (x1.from_<=a2)then(bif (x1.lh==0)then(rQ n x1 a1).bind λr1=>some r1 else(bif decide (a2<x1.lh)then(rQ n x1 a1).bind λr2=>some r2 else some false))else some false)).bind λv3=>(bif v3 then ck (bJ v2.length v2.length (sub ([v1]:List Int) 0 1).length 1 8)<|iH (v2++(sub ([v1]:List Int) 0 1)) λr3=>ck (az r3.length r3.length)<|some r3 else ck (az v2.length v2.length)<|some v2):Option ((List Int))).bind λv4=>ck (az v4.length v4.length)<|some (.inl ((i64.wrap (v1+1)),v4))else ck (az v2.length v2.length)<|some (.inr v2))
def uN(a0:bO)(a1:List ByteArray)(a2:Int):Option (List Int):=
 ck (az 0 ([]:List Int).length)<|(iter (sG n a0 a1 a2) n (0,[])).bind λw1=>ck (az (sub w1 0 w1.length).length w1.length)<|some (sub w1 0 w1.length)
def zD(a0:Int):Option (Int×Bool):=
 ((bif (a0==0)then some (a0==0)else(bif (a0==1)then some (a0==1)else(bif (a0==2)then some (a0==2)else some (a0==3))))).bind λv1=>(bif v1 then some (0,true)else((bif (a0==9)then some (a0==9)else some (a0==15))).bind λv2=>(bif v2 then some (1,true)else(bif (a0==16)then some (3,true)else(bif decide (a0>=0)then some (2,(decide (a0<17)))else some (2,false)))))
def yH(n:Nat)(rc:(dh)->(Int)->Option Int)(a0:dh)(a1:Int):Stp (Int×Int) Int
 |(v2,v3)=>(bif decide (v3<a0.args.length)then(bj a0.args v3).bind λx1=>(rc (dh.mk x1.op x1.n x1.s x1.key x1.args) (i64.wrap (a1+1))).bind λr2=>some (.inl ((max v2 r2),(i64.wrap (v3+1))))else some (.inr v2))
def A7(rc:(dh)->(Int)->Option Int)(a0:dh)(a1:Int):Option Int:=
 (zD a0.op).bind λr1=>((bif (!r1.2)then some true else(bif (r1.1 !=a0.args.length)then some true else some (decide (a1>=12))))).bind λv1=>(bif v1 then some 13 else(iter (yH n rc a0 a1) n (0,0)).bind λw1=>some (i64.wrap (w1+1)))
def Fh(rc:(dh)->(Int)->Option Int):cw xx:=⟨[.d (.st SI.Expr),.d (.int .i64)],[.d (.int .i64)],λa=>rc a.1 a.2.1,none⟩
def tJ(n:Nat):Nat->(dh)->(Int)->Option Int
 | 0=>λ_ _=>none
 |m+1=>A7 n (tJ n m)
def Q0(a0:dh)(a1:Int):Option Int:=tJ n n a0 a1
def Je(a0:dh):Option Bool:=
 (Q0 n (dh.mk a0.op a0.n a0.s a0.key a0.args) 0).bind λr1=>some (decide (r1<=12))
mutual
def toE:dh->ET
 |⟨op,_,s,_,args⟩=> .mk op s (Jf args)
def Jf:List dh->List ET
 |[]=>[]
 |x::xs=>toE x::Jf xs
end
def toD(d:gK):ByteArray×ET:=(d.name,.mk d.j7 d.lz (Jf d.fj))
def lM(a0:List gK):Option ((List gK)×(List (List Int))):=ck (Nat.ble (s9 (a0.map toD)) 4000000)<|some (a0,pU (a0.map toD))
def rR(a0:List Int)(a1:Int):Option (List Int):=match a0 with
 |[x]=>ck (decide (0<=a1)&&decide (a1<=1000000000000))<|some (List.replicate a1.toNat x)
 |_=>none
def fQ(a0:qi)(r1:List Int)(x2:Int):Stp (Int×Int×(List Int)×(List Int)) (Int×(List Int)×(List Int))
 |(v4,v5,v6,v7)=>(bif decide (v5<a0.uses.length)then((bj a0.uses v5).bind λx3=>(ck (cP v5 r1.length)<|(bj v6 ((0:Nat)+v5:Int)).bind λx4=>(bif decide (x4<0)then(oW n x3 x2).bind λr2=>some r2 else some false)).bind λv8=>(bif v8 then ck (cP x2 r1.length)<|(bj v6 ((0:Nat)+x2:Int)).bind λx5=>ck (cP v5 r1.length)<|(bj v6 ((0:Nat)+v5:Int)).bind λx6=>ck (bJ (WH (v4.toNat) v7).length (v7.length -v4.toNat) (sub ([v5]:List Int) 0 1).length 1 8)<|iH ((WH (v4.toNat) v7)++(sub ([v5]:List Int) 0 1)) λr3=>ck (az (0+r3.length) r3.length)<|some ((0:Nat),(v6.set ((0:Nat)+v5:Int).toNat (i64.wrap (x5+1))),r3)else ck (az ((v4.toNat)+(v7.length -v4.toNat)) v7.length)<|some ((v4.toNat:Nat),v6,v7)):Option (Int×(List Int)×(List Int))).bind λ(v9,v10,v11)=>ck (az ((v9.toNat)+(v11.length -v9.toNat)) v11.length)<|some (.inl ((v9.toNat:Nat),(i64.wrap (v5+1)),v10,v11))else ck (az ((v4.toNat)+(v7.length -v4.toNat)) v7.length)<|some (.inr ((v4.toNat:Nat),v6,v7)))
def dU(a0:qi)(r1:List Int):Stp (Int×(List Int)×(List Int)) (List Int)
 |(v1,v2,v3)=>(bif (decide ((((v3.length -(v1:Int).toNat):Nat):Int)>0))then ck (cP 0 (v3.length -v1.toNat))<|(bj v3 ((v1.toNat:Nat)+0:Int)).bind λx2=>ck (y9 1 ((v3.length -v1.toNat):Nat) (v3.length -v1.toNat))<|ck (az ((v1.toNat+1)+((v3.length -v1.toNat) -1)) v3.length)<|(iter (fQ n a0 r1 x2) n (((v1.toNat+1):Nat),0,v2,v3)).bind λ(w1,w2,w3)=>ck (az ((w1.toNat)+(w3.length -w1.toNat)) w3.length)<|some (.inl ((w1.toNat:Nat),w2,w3))else some (.inr v2))
def jW(a0:qi)(a1:Int):Option (List Int):=
 ck (az (sub ([(-1)]:List Int) 0 1).length 1)<|(rR (sub ([(-1)]:List Int) 0 1) a0.defs.length).bind λr1=>ck (cP a1 r1.length)<|(bj r1 ((0:Nat)+a1:Int)).bind λx1=>ck (az (0+1) ([a1]:List Int).length)<|(iter (dU n a0 r1) n ((0:Nat),(r1.set ((0:Nat)+a1:Int).toNat 0),([a1]:List Int))).bind λw4=>ck (az (sub w4 0 r1.length).length r1.length)<|some (sub w4 0 r1.length)
def cmp_isNaN_string(a0:ByteArray):Option Bool:=
 some (!(ByteArray.toList a0==ByteArray.toList a0))
def oC(a0:ByteArray)(a1:ByteArray):Option Int:=
 (cmp_isNaN_string a0).bind λr1=>(cmp_isNaN_string a1).bind λr2=>(bif r1 then(bif r2 then some 0 else some (-1))else(bif r2 then some 1 else(bif (WB a0 a1)then some (-1)else(bif (!(WB a0 a1 || ByteArray.toList a0==ByteArray.toList a1))then some 1 else some 0))))
def mF(a0:List ByteArray)(a1:List ByteArray):Stp Int (Unit⊕Int)
 |v1=>(bif decide (v1<a0.length)then(bj a0 v1).bind λx1=>(bif decide (v1>=a1.length)then(some 1).map λa=> .inr (.inr a)else(bj a1 v1).bind λx2=>(oC x1 x2).bind λr1=>(bif (r1 !=0)then(some r1).map λa=> .inr (.inr a)else some (.inl (i64.wrap (v1+1)))))else some (.inr (.inl ())))
def mG(a0:List ByteArray)(a1:List ByteArray):Option Int:=
 dJ (iter (mF a0 a1) n 0) λ()=>(bif decide (a0.length<(a1.length:Int))then some (-1)else some 0)
def ny(a0:Int)(a1:List Bool):Option (Bool×(List Bool)):=
 ck (cP a0 a1.length)<|(bj a1 ((0:Nat)+a0:Int)).bind λx1=>ck (az a1.length a1.length)<|some ((!x1),a1)
def jX(a0:List Int):Stp (Int×(List Bool)) ((List Bool)⊕(Int×(List Bool)))
 |(v1,v2)=>(bif decide (v1<a0.length)then(bj a0 v1).bind λx1=>ck (az v2.length v2.length)<|(ny x1 v2).bind λr1=>(bif r1.1 then(ck (az r1.2.length r1.2.length)<|some (v1,r1.2)).map λa=> .inr (.inr a)else ck (az r1.2.length r1.2.length)<|some (.inl ((i64.wrap (v1+1)),r1.2)))else ck (az v2.length v2.length)<|some (.inr (.inl v2)))
def nK(a0:List Int)(a1:List Bool):Option (Int×(List Bool)):=
 ck (az a1.length a1.length)<|dJ (iter (jX a0) n (0,a1)) λw1=>ck (az w1.length w1.length)<|some ((-1),w1)
def iA(a0:List Int)(a1:List Bool):Option (Bool×(List Bool)):=
 ck (az a1.length a1.length)<|(nK n a0 a1).bind λr1=>ck (az r1.2.length r1.2.length)<|some ((decide (r1.1>=0)),r1.2)
def iQ(a0:qi):Stp (Int×Int×(List Bool)) (Int×(List Bool))
 |(v4,v5,v6)=>(bif decide (v5<a0.uses.length)then((bj a0.uses v5).bind λx1=>ck (az v6.length v6.length)<|(iA n x1 v6).bind λr1=>(ck (cP v5 r1.2.length)<|(bj r1.2 ((0:Nat)+v5:Int)).bind λx2=>(bif (!x2)then(bif (!r1.1)then(bif decide (v4<0)then some true else(bj a0.defs v5).bind λx3=>(bj a0.defs v4).bind λx4=>some (WB x3.name x4.name))else some false)else some false)).bind λv7=>(bif v7 then ck (az r1.2.length r1.2.length)<|some (v5,r1.2)else ck (az r1.2.length r1.2.length)<|some (v4,r1.2)):Option (Int×(List Bool))).bind λ(v8,v9)=>ck (az v9.length v9.length)<|some (.inl (v8,(i64.wrap (v5+1)),v9))else ck (az v6.length v6.length)<|some (.inr (v4,v6)))
def kV(a0:qi):Stp (Int×(List Int)×(List Bool)) (List Int)
 |(v1,v2,v3)=>(bif decide (v1<a0.defs.length)then ck (az v3.length v3.length)<|(iter (iQ n a0) n ((-1),0,v3)).bind λ(w1,w2)=>ck (cP w1 w2.length)<|(bj w2 ((0:Nat)+w1:Int)).bind λx5=>ck (bJ v2.length v2.length (sub ([w1]:List Int) 0 1).length 1 8)<|iH (v2++(sub ([w1]:List Int) 0 1)) λr2=>ck (az r2.length r2.length)<|ck (az w2.length (w2.set ((0:Nat)+w1:Int).toNat true).length)<|some (.inl ((i64.wrap (v1+1)),r2,(w2.set ((0:Nat)+w1:Int).toNat true)))else ck (az v2.length v2.length)<|some (.inr v2))
def oD(a0:qi):Option (List Int):=
 ck (decide ((a0.defs.length:Int)<=a0.defs.length)&&(decide (0<=(a0.defs.length:Int))&&qH a0.defs.length 1))<|ck (az 0 ([]:List Int).length)<|ck (az ((a0.defs.length:Int).toNat) (List.replicate (a0.defs.length:Int).toNat false).length)<|(iter (kV n a0) n (0,[],(List.replicate (a0.defs.length:Int).toNat false))).bind λw3=>ck (az (sub w3 0 w3.length).length w3.length)<|some (sub w3 0 w3.length)
def iL(r1:List Int)(x2:List Int):Stp (Int×Int) Int
 |(v3,v4)=>(bif decide (v4<x2.length)then((bj x2 v4).bind λx3=>(ck (cP x3 r1.length)<|(bj r1 ((0:Nat)+x3:Int)).bind λx4=>(bif decide (x4>=0)then(bif decide (v3<0)then some true else ck (cP x3 r1.length)<|(bj r1 ((0:Nat)+x3:Int)).bind λx5=>ck (cP v3 r1.length)<|(bj r1 ((0:Nat)+v3:Int)).bind λx6=>some (decide (x5<x6)))else some false)).bind λv5=>(bif v5 then some x3 else some v3):Option Int).bind λv6=>some (.inl (v6,(i64.wrap (v4+1))))else some (.inr v3))
def lC(a0:Int)(a1:List gK)(a2:List (List Int))(r1:List Int):Stp (Int×(List ByteArray)) (Unit⊕((List gK)×(List (List Int))×(List ByteArray)))
 |(v1,v2)=>(bj a1 v1).bind λx1=>ck (bJ v2.length v2.length (sub ([x1.name]:List ByteArray) 0 1).length 1 16)<|iH (v2++(sub ([x1.name]:List ByteArray) 0 1)) λr2=>(bj a2 v1).bind λx2=>(iter (iL r1 x2) n ((-1),0)).bind λw1=>(bif decide (w1<0)then(ck (az 0 ([]:List ByteArray).length)<|some (a1,a2,[])).map λa=> .inr (.inr a)else(bif (w1==a0)then(ck (!(r2.length==0)&&az r2.length r2.length)<|some (a1,a2,r2)).map λa=> .inr (.inr a)else ck (az r2.length r2.length)<|some (.inl (w1,r2))))
def jY(a0:Int)(a1:List gK)(a2:List (List Int)):Option ((List gK)×(List (List Int))×(List ByteArray)):=
 (jW n (qi.mk a1 a2) a0).bind λr1=>ck (az 0 ([]:List ByteArray).length)<|dJ (iter (lC n a0 a1 a2 r1) n (a0,[])) λ()=>none
def gX(a0:List gK):Stp (Int×(List gK)×(List (List Int))×(List ByteArray)) ((List gK)×(List (List Int))×(List ByteArray))
 |(v1,v2,v3,v4)=>(bif decide (v1<a0.length)then((jY n v1 v2 v3).bind λr1=>((bif r1.2.2.length==0 then some true else some false)).bind λv5=>(bif v5 then ck (az v4.length v4.length)<|some (r1.1,r1.2.1,v4)else((bif v4.length==0 then some true else(bif decide ((r1.2.2.length:Nat)<(v4.length:Int))then some true else(bif ((r1.2.2.length:Nat)==(v4.length:Int))then ck (az (sub r1.2.2 0 r1.2.2.length).length r1.2.2.length)<|ck (az (sub v4 0 v4.length).length v4.length)<|(mG n (sub r1.2.2 0 r1.2.2.length) (sub v4 0 v4.length)).bind λr2=>some (decide (r2<0))else some false)))).bind λv6=>(bif v6 then ck (az r1.2.2.length r1.2.2.length)<|some (r1.1,r1.2.1,r1.2.2)else ck (az v4.length v4.length)<|some (r1.1,r1.2.1,v4))):Option ((List gK)×(List (List Int))×(List ByteArray))).bind λ(v7,v8,v9)=>ck (az v9.length v9.length)<|some (.inl ((i64.wrap (v1+1)),v7,v8,v9))else ck (az v4.length v4.length)<|some (.inr (v2,v3,v4)))
def jc(a0:List gK)(a1:List (List Int)):Option ((List gK)×(List (List Int))×(List ByteArray)):=
 ck (az 0 ([]:List ByteArray).length)<|(iter (gX n a0) n (0,a0,a1,[])).bind λ(w1,w2,w3)=>ck (az w3.length w3.length)<|some (w1,w2,w3)
def o7(r1:List ByteArray):Stp (Int×(List (ByteArray×Bool))) (List (ByteArray×Bool))
 |(v1,v2)=>(bif decide (v1<(r1.length:Nat))then ck (cP v1 r1.length)<|(bj r1 ((0:Nat)+v1:Int)).bind λx1=>some (.inl ((i64.wrap (v1+1)),(Gr fi x1 true v2)))else some (.inr v2))
def lN(a0:bO):Stp (Int×(List (ByteArray×Bool))) (Unit⊕((List Int)×(List ByteArray)×Int))
 |(v3,v4)=>(bif decide (v3<a0.defs.length)then(bj a0.defs v3).bind λx2=>(bif ((gH fi x2.name v4).getD false)then(some ([],[],5)).map λa=> .inr (.inr a)else some (.inl ((i64.wrap (v3+1)),(Gr fi x2.name true v4))))else some (.inr (.inl ())))
def oF(a0:bO):Option ((List Int)×(List ByteArray)×Int):=
 (oZ).bind λr1=>(iter (o7 r1) n (0,([]:(List (ByteArray×Bool))))).bind λw1=>dJ (iter (lN a0) n (0,w1)) λ()=>(lM a0.defs).bind λr2=>(jc n r2.1 r2.2).bind λr3=>((bif r3.2.2.length==0 then some false else some true)).bind λv5=>(bif v5 then ck (az (sub r3.2.2 0 r3.2.2.length).length r3.2.2.length)<|some ([],(sub r3.2.2 0 r3.2.2.length),16)else(oD n (qi.mk r3.1 r3.2.1)).bind λr4=>ck (az (sub r4 0 r4.length).length r4.length)<|some ((sub r4 0 r4.length),[],0))
def A8(a0:bQ)(a1:dh):Option Bool:=
 some (ByteArray.toList a0.name==ByteArray.toList a1.s)
def A9(a0:bg)(a1:dh):Option Bool:=
 some (ByteArray.toList a0.name==ByteArray.toList a1.key)
def zF(a0:Bool):Option Int:=
 (bif a0 then some 1 else some 0)
def xI(a0:Int)(a1:Int):Option Int:=
 (bif (a1==0)then some 0 else ck (a1 !=0)<|(ck (a1 !=0)<|((bif ((Int.tmod a0 a1) !=0)then some (!((decide ((Int.tmod a0 a1)<0))==(decide (a1<0))))else some false)).bind λv1=>(bif v1 then some (i64.wrap ((i64.wrap (Int.tdiv a0 a1)) -1))else some (i64.wrap (Int.tdiv a0 a1))):Option Int).bind λv2=>some v2)
def Kv(a0:Int)(a1:Int)(a2:Int):Option Int:=
 (bif (a0==4)then some (i64.wrap (a1+a2))else(bif (a0==5)then some (i64.wrap (a1 -a2))else(bif (a0==6)then some (i64.wrap (a1*a2))else(bif (a0==7)then(xI a1 a2).bind λr1=>some r1 else(bif (a0==8)then(bif (a2==0)then some 0 else(xI a1 a2).bind λr2=>some (i64.wrap (a1 -(i64.wrap (r2*a2)))))else(bif (a0==10)then(zF (a1==a2)).bind λr3=>some r3 else(bif (a0==11)then(zF (decide (a1<a2))).bind λr4=>some r4 else(bif (a0==12)then(zF (decide (a1<=a2))).bind λr5=>some r5 else(bif (a0==13)then(bif (a1 !=0)then(zF (a2 !=0)).bind λr6=>some r6 else(zF false).bind λr7=>some r7)else(bif (a1 !=0)then(zF true).bind λr8=>some r8 else(zF (a2 !=0)).bind λr9=>some r9))))))))))
def jC(a0:List gK)(a1:List bQ)(a2:List fG)(a3:List cK)(a4:List jE)(a5:List iw)(a6:List dH)(a7:Int)(a8:List ByteArray)(a9:dh)(k9:List (ByteArray×Int)):Option (Int×(List (ByteArray×Int))):=
 (og n a1 (λ (y1:bQ×Unit)=>A8 y1.1 (dh.mk a9.op a9.n a9.s a9.key a9.args))).bind λr1=>(bif decide (r1<0)then some (0,k9)else(bj a1 r1).bind λx1=>(iX n x1.rows (λ (y2:bg×Unit)=>A9 y2.1 (dh.mk a9.op a9.n a9.s a9.key a9.args))).bind λr2=>(bif decide (r2>=0)then(bj x1.rows r2).bind λx2=>some (x2.n,k9)else some (x1.rK,k9)))
def eZ(n:Nat)(rc:((List gK))->((List bQ))->((List fG))->((List cK))->((List jE))->((List iw))->((List dH))->(Int)->((List ByteArray))->(dh)->((List (ByteArray×Int)))->Option (Int×(List (ByteArray×Int))))(a0:List gK)(a1:List bQ)(a2:List fG)(a3:List cK)(a4:List jE)(a5:List iw)(a6:List dH)(a7:Int)(a8:List ByteArray)(a9:dh):Stp (Int×(List (ByteArray×Int))×(List Int)) ((List (ByteArray×Int))×(List Int))
 |(v1,v2,v3)=>(bif decide (v1<a9.args.length)then((bj a9.args v1).bind λx1=>((bif (a9.op==16)then(bif decide (v1>0)then ck (cP 0 v3.length)<|(bj v3 ((0:Nat)+0:Int)).bind λx2=>some (!((x2 !=0)==(v1==1)))else some false)else some false)).bind λv4=>(bif v4 then ck (bJ v3.length v3.length (sub ([0]:List Int) 0 1).length 1 8)<|iH (v3++(sub ([0]:List Int) 0 1)) λr1=>ck (az r1.length r1.length)<|some (v2,r1)else(rc a0 a1 a2 a3 a4 a5 a6 a7 a8 (dh.mk x1.op x1.n x1.s x1.key x1.args) v2).bind λr2=>ck (bJ v3.length v3.length (sub ([r2.1]:List Int) 0 1).length 1 8)<|iH (v3++(sub ([r2.1]:List Int) 0 1)) λr3=>ck (az r3.length r3.length)<|some (r2.2,r3)):Option ((List (ByteArray×Int))×(List Int))).bind λ(v5,v6)=>ck (az v6.length v6.length)<|some (.inl ((i64.wrap (v1+1)),v5,v6))else ck (az v3.length v3.length)<|some (.inr (v2,v3)))
def fA(rc:((List gK))->((List bQ))->((List fG))->((List cK))->((List jE))->((List iw))->((List dH))->(Int)->((List ByteArray))->(dh)->((List (ByteArray×Int)))->Option (Int×(List (ByteArray×Int))))(a0:List gK)(a1:List bQ)(a2:List fG)(a3:List cK)(a4:List jE)(a5:List iw)(a6:List dH)(a7:Int)(a8:List ByteArray)(a9:dh)(k9:List (ByteArray×Int)):Option (Int×(List (ByteArray×Int))):=
 ck (az 0 ([]:List Int).length)<|(iter (eZ n rc a0 a1 a2 a3 a4 a5 a6 a7 a8 a9) n (0,k9,[])).bind λ(w1,w2)=>(bif (a9.op==0)then some (a9.n,w1)else(bif (a9.op==1)then some (((gH fi a9.s w1).getD 0),w1)else(bif (a9.op==2)then(jC n a0 a1 a2 a3 a4 a5 a6 a7 a8 (dh.mk a9.op a9.n a9.s a9.key a9.args) w1).bind λr4=>some (r4.1,r4.2)else(bif (a9.op==3)then(dZ n a8 a9.s).bind λr5=>(zF r5).bind λr6=>some (r6,w1)else(bif (a9.op==9)then ck (cP 0 w2.length)<|(bj w2 ((0:Nat)+0:Int)).bind λx3=>some ((i64.wrap (0 -x3)),w1)else(bif (a9.op==15)then ck (cP 0 w2.length)<|(bj w2 ((0:Nat)+0:Int)).bind λx4=>(zF (x4==0)).bind λr7=>some (r7,w1)else(bif (a9.op==16)then ck (cP 0 w2.length)<|(bj w2 ((0:Nat)+0:Int)).bind λx5=>(bif (x5 !=0)then ck (cP 1 w2.length)<|(bj w2 ((0:Nat)+1:Int)).bind λx6=>some (x6,w1)else ck (cP 2 w2.length)<|(bj w2 ((0:Nat)+2:Int)).bind λx7=>some (x7,w1))else ck (cP 0 w2.length)<|(bj w2 ((0:Nat)+0:Int)).bind λx8=>ck (cP 1 w2.length)<|(bj w2 ((0:Nat)+1:Int)).bind λx9=>(Kv a9.op x8 x9).bind λr8=>some (r8,w1))))))))
def Fj(rc:((List gK))->((List bQ))->((List fG))->((List cK))->((List jE))->((List iw))->((List dH))->(Int)->((List ByteArray))->(dh)->((List (ByteArray×Int)))->Option (Int×(List (ByteArray×Int)))):ea xx:=⟨[(.a [(.v (.sl (.st SI.Def))),(.v (.sl (.st SI.Table))),(.v (.sl (.st SI.Zone))),(.v (.sl (.st SI.Rule))),(.v (.sl (.st SI.Cap))),(.v (.sl (.st SI.View))),(.v (.sl (.st SI.ia))),(.v (.int .i64)),(.mp 0),(.v (.sl .str))]),(.v (.st SI.Expr))],[(0,.m .str (.int .i64))],[(.v (.int .i64))],[(0,.m .str (.int .i64))],λv=>rc (v.1) (v.2.1) (v.2.2.1) (v.2.2.2.1) (v.2.2.2.2.1) (v.2.2.2.2.2.1) (v.2.2.2.2.2.2.1) (v.2.2.2.2.2.2.2.1) (v.2.2.2.2.2.2.2.2.1) (v.2.2.2.2.2.2.2.2.2.1) (v.2.2.2.2.2.2.2.2.2.2)⟩
def jZ(rc:((List gK))->((List bQ))->((List fG))->((List cK))->((List jE))->((List iw))->((List dH))->(Int)->((List ByteArray))->(dh)->((List (ByteArray×Int)))->Option (Int×(List (ByteArray×Int)))):cw xx:=⟨[],[.d .bool],λ_=>none,some (Fj rc)⟩
def bS(n:Nat):Nat->((List gK))->((List bQ))->((List fG))->((List cK))->((List jE))->((List iw))->((List dH))->(Int)->((List ByteArray))->(dh)->((List (ByteArray×Int)))->Option (Int×(List (ByteArray×Int)))
 | 0=>λ_ _ _ _ _ _ _ _ _ _ _=>none
 |m+1=>fA n (bS n m)
def fV(a0:List gK)(a1:List bQ)(a2:List fG)(a3:List cK)(a4:List jE)(a5:List iw)(a6:List dH)(a7:Int)(a8:List ByteArray)(a9:dh)(k9:List (ByteArray×Int)):Option (Int×(List (ByteArray×Int))):=bS n n a0 a1 a2 a3 a4 a5 a6 a7 a8 a9 k9
def iZ(n:Nat)(a1:List bg):Stp (Int×(List (ByteArray×Int))×(List (ByteArray×Bool))) ((List (ByteArray×Int))×(List (ByteArray×Bool)))
 |(v1,v2,v3)=>(bif decide (v1<a1.length)then((bj a1 v1).bind λx1=>(bif (!((gH fi x1.name v3).getD false))then some ((Gr fi x1.name x1.n v2),(Gr fi x1.name true v3))else some (v2,v3)):Option ((List (ByteArray×Int))×(List (ByteArray×Bool)))).bind λ(v4,v5)=>some (.inl ((i64.wrap (v1+1)),v4,v5))else some (.inr (v2,v3)))
def gP(a0:bO)(a2:List ByteArray)(w2:List (ByteArray×Bool))(r1:(List Int)×(List ByteArray)×Int):Stp (Int×(List (ByteArray×Int))×(List Int)) ((List (ByteArray×Int))×(List Int))
 |(v6,v7,v8)=>(bif decide (v6<(r1.1.length:Nat))then(ck (cP v6 r1.1.length)<|(bj r1.1 ((0:Nat)+v6:Int)).bind λx2=>(bj a0.defs x2).bind λx3=>((Je n (dh.mk x3.j7 x3.mC x3.lz x3.ju x3.fj)).bind λr2=>(bif r2 then(fV n a0.defs a0.tables a0.zones a0.rules a0.caps a0.views a0.wA a0.hours a2 (dh.mk x3.j7 x3.mC x3.lz x3.ju x3.fj) v7).bind λr3=>ck (cP x2 ((a0.defs.length:Int).toNat))<|(bj v8 ((0:Nat)+x2:Int)).bind λx4=>some (r3.2,(v8.set ((0:Nat)+x2:Int).toNat r3.1))else some (v7,v8)):Option ((List (ByteArray×Int))×(List Int))).bind λ(v9,v10)=>(bif (!((gH fi x3.name w2).getD false))then ck (cP x2 ((a0.defs.length:Int).toNat))<|(bj v10 ((0:Nat)+x2:Int)).bind λx5=>some ((Gr fi x3.name x5 v9),v10)else some (v9,v10)):Option ((List (ByteArray×Int))×(List Int))).bind λ(v11,v12)=>some (.inl ((i64.wrap (v6+1)),v11,v12))else some (.inr (v7,v8)))
def nC(a0:bO)(a1:List bg)(a2:List ByteArray):Option ((List gK)×(List bQ)×(List fG)×(List cK)×(List jE)×(List iw)×(List dH)×Int×(List ByteArray)×(List (ByteArray×Int))×(List Int)):=
 (iter (iZ n a1) n (0,([]:(List (ByteArray×Int))),([]:(List (ByteArray×Bool))))).bind λ(w1,w2)=>ck (decide ((a0.defs.length:Int)<=a0.defs.length)&&(decide (0<=(a0.defs.length:Int))&&qH a0.defs.length 8))<|(oF n a0).bind λr1=>(bif (r1.2.2 !=0)then ck (az ((a0.defs.length:Int).toNat) (List.replicate (a0.defs.length:Int).toNat (0:Int)).length)<|some (a0.defs,a0.tables,a0.zones,a0.rules,a0.caps,a0.views,a0.wA,a0.hours,a2,w1,(List.replicate (a0.defs.length:Int).toNat 0))else(iter (gP n a0 a2 w2 r1) n (0,w1,(List.replicate (a0.defs.length:Int).toNat 0))).bind λ(w3,w4)=>ck (az ((a0.defs.length:Int).toNat) w4.length)<|some (a0.defs,a0.tables,a0.zones,a0.rules,a0.caps,a0.views,a0.wA,a0.hours,a2,w3,w4))
def Ba(a0:bO)(a1:List bg)(a2:List ByteArray)(a3:dh):Option Int:=
 (Je n (dh.mk a3.op a3.n a3.s a3.key a3.args)).bind λr1=>(bif (!r1)then some 0 else(nC n a0 a1 a2).bind λr2=>(fV n r2.1 r2.2.1 r2.2.2.1 r2.2.2.2.1 r2.2.2.2.2.1 r2.2.2.2.2.2.1 r2.2.2.2.2.2.2.1 r2.2.2.2.2.2.2.2.1 r2.2.2.2.2.2.2.2.2.1 (dh.mk a3.op a3.n a3.s a3.key a3.args) r2.2.2.2.2.2.2.2.2.2.1).bind λr3=>some r3.1)
def Bb(a0:List ax):Stp (Bool×Int×Int×Int×Int×Int) (Bool×Int×Int×Int×Int)
 |(v1,v2,v3,v4,v5,v6)=>(bif decide (v2<a0.length)then((bj a0 v2).bind λx1=>(pX x1).bind λr1=>(bif (!r1)then some (v1,v3,v4,v5,v6)else(bif (!v1)then some (true,x1.x0,x1.y0,x1.x1,x1.y1)else some (v1,(min v3 x1.x0),(min v4 x1.y0),(max v5 x1.x1),(max v6 x1.y1)))):Option (Bool×Int×Int×Int×Int)).bind λ(v7,v8,v9,v10,v11)=>some (.inl (v7,(i64.wrap (v2+1)),v8,v9,v10,v11))else some (.inr (v1,v3,v4,v5,v6)))
def OW(a0:List ax):Option (ax×Bool):=
 (iter (Bb a0) n (false,0,0,0,0,0)).bind λ(w1,w2,w3,w4,w5)=>some ((ax.mk w2 w3 w4 w5),w1)
def Kw(a0:List ax):Option (ax×Bool):=
 ((bif ((a0.length:Int)==0)then some true else(lY n a0).bind λr1=>some (!r1))).bind λv1=>(bif v1 then some ((ax.mk 0 0 0 0),false)else(OW n a0).bind λr2=>some (r2.1,r2.2))
def yI(a0:aF):Option (List gB):=
 ck (az (sub ([(ax.mk a0.ci a0.cE a0.cd a0.cD)]:List ax) 0 1).length 1)<|ck (az (sub ([(gB.mk a0.fm a0.ez (sub ([(ax.mk a0.ci a0.cE a0.cd a0.cD)]:List ax) 0 1))]:List gB) 0 1).length 1)<|some (sub ([(gB.mk a0.fm a0.ez (sub ([(ax.mk a0.ci a0.cE a0.cd a0.cD)]:List ax) 0 1))]:List gB) 0 1)
def Gv(a0:List dX)(a1:(dX×Unit)->Option Bool):Stp Int (Unit⊕Int)
 |v1=>(bif decide (v1<a0.length)then(bj a0 v1).bind λx1=>(a1 (x1,())).bind λr1=>(bif r1 then(some v1).map λa=> .inr (.inr a)else some (.inl (i64.wrap (v1+1))))else some (.inr (.inl ())))
def sP(a0:List dX)(a1:(dX×Unit)->Option Bool):Option Int:=
 dJ (iter (Gv a0 a1) n 0) λ()=>some (-1)
def kW(a0:List dX)(a1:(dX×Unit)->Option Bool):Option Bool:=
 (sP n a0 a1).bind λr1=>some (decide (r1>=0))
def oG(a0:Int)(a1:Int)(a2:Int):Option Bool:=
 (bif decide (a1<=a0)then some (decide (a0<=a2))else some false)
def Bc(a0:dX):Option Bool:=
 (oG a0.side 0 3).bind λr1=>(bif r1 then(oG a0.base 0 4096).bind λr2=>(bif r2 then(oG a0.num 0 4096).bind λr3=>(bif r3 then(oG a0.den 1 4096).bind λr4=>some r4 else some false)else some false)else some false)
def uO(a0:dX):Option Bool:=
 (Bc a0).bind λr1=>some (!r1)
def Bd(a0:ax)(a1:List dX):Option Bool:=
 (pX a0).bind λr1=>(bif r1 then(kW n a1 (λ (y1:dX×Unit)=>uO y1.1)).bind λr2=>some (!r2)else some false)
def Vs(a0:List ax)(a1:List ax):Option Bool:=
 (pI n a0 a1).bind λr1=>some r1
def Be(a0:List gB):Stp Int (Unit⊕Bool)
 |v1=>(bif decide (v1<a0.length)then dJ ((bj a0 v1).bind λx1=>((bif decide (x1.z0<0)then some true else(bif decide (x1.z0>=x1.z1)then some true else(bif decide (x1.z1>4096)then some true else(bif ((x1.area.length:Int)==0)then some true else(lY n x1.area).bind λr1=>some (!r1)))))).bind λv2=>(bif v2 then((some false).map λa=> .inr (.inr a)).map .inr else(bif (v1==0)then some (.inl ())else(bj a0 (i64.wrap (v1 -1))).bind λx2=>((bif decide (x2.z1>x1.z0)then some true else(bif (x2.z1==x1.z0)then(Vs n x2.area x1.area).bind λr2=>some r2 else some false))).bind λv3=>(bif v3 then((some false).map λa=> .inr (.inr a)).map .inr else some (.inl ())))):Option ((Unit)⊕_)) λ()=>some (.inl (i64.wrap (v1+1)))else some (.inr (.inl ())))
def Jg(a0:List gB):Option Bool:=
 (bif decide ((a0.length:Int)>80)then some false else dJ (iter (Be n a0) n 0) λ()=>some true)
def xS(a0:ax)(a1:Int)(a2:Int):Option Oz:=
 some (Oz.mk (i64.wrap (a1 -a0.x0)) (i64.wrap ((i64.wrap (a0.x1 -1)) -a1)) (i64.wrap (a2 -a0.y0)) (i64.wrap ((i64.wrap (a0.y1 -1)) -a2)))
def uP(a0:Int)(a1:Int):Option Int:=
 ck (a1 !=0)<|(ck (a1 !=0)<|(bif decide ((Int.tmod a0 a1)<0)then some (i64.wrap ((i64.wrap (Int.tdiv a0 a1)) -1))else some (i64.wrap (Int.tdiv a0 a1))):Option Int).bind λv1=>some v1
def yJ(a0:ax)(a1:List dX)(a2:Int)(a3:Int)(r1:Oz):Stp (Int×Int) Int
 |(v1,v2)=>(bif decide (v2<a1.length)then(bj a1 v2).bind λx1=>ck (cP x1.side 4)<|(bj ([r1.a0,r1.a1,r1.a2,r1.a3]:List Int) x1.side).bind λx2=>(uP (i64.wrap (x1.num*x2)) x1.den).bind λr2=>some (.inl ((min v1 (i64.wrap (x1.base+r2))),(i64.wrap (v2+1))))else some (.inr v1))
def Ky(a0:ax)(a1:List dX)(a2:Int)(a3:Int):Option Int:=
 (xS a0 a2 a3).bind λr1=>(iter (yJ a0 a1 a2 a3 r1) n (4096,0)).bind λw1=>some w1
def o8(a0:ax)(a1:List dX)(x1:ax)(x2:Int):Stp (Int×Int) Int
 |(v5,v6)=>(bif decide (v6<(2:Nat))then ck (cP v6 2)<|(bj ([x1.y0,(i64.wrap (x1.y1 -1))]:List Int) ((0:Nat)+v6:Int)).bind λx3=>(Ky n a0 a1 x2 x3).bind λr1=>some (.inl ((min v5 r1),(i64.wrap (v6+1))))else some (.inr v5))
def o9(a0:ax)(a1:List dX)(x1:ax):Stp (Int×Int) Int
 |(v3,v4)=>(bif decide (v4<(2:Nat))then ck (cP v4 2)<|(bj ([x1.x0,(i64.wrap (x1.x1 -1))]:List Int) ((0:Nat)+v4:Int)).bind λx2=>(iter (o8 n a0 a1 x1 x2) n (v3,0)).bind λw1=>some (.inl (w1,(i64.wrap (v4+1))))else some (.inr v3))
def sH(a0:ax)(a1:List dX)(a2:List ax):Stp (Int×Int) Int
 |(v1,v2)=>(bif decide (v2<a2.length)then(bj a2 v2).bind λx1=>(iter (o9 n a0 a1 x1) n (v1,0)).bind λw2=>some (.inl (w2,(i64.wrap (v2+1))))else some (.inr v1))
def yK(a0:ax)(a1:List dX)(a2:List ax):Option Int:=
 (iter (sH n a0 a1 a2) n (4096,0)).bind λw3=>some w3
def sI(a0:gB)(a1:ax)(a2:List dX):Option Bool:=
 (yK n a1 a2 a0.area).bind λr1=>some (decide (r1<a0.z1))
def mH(a0:List gB)(a1:(gB×Unit)->Option Bool):Stp Int (Unit⊕Int)
 |v1=>(bif decide (v1<a0.length)then(bj a0 v1).bind λx1=>(a1 (x1,())).bind λr1=>(bif r1 then(some v1).map λa=> .inr (.inr a)else some (.inl (i64.wrap (v1+1))))else some (.inr (.inl ())))
def uQ(a0:List gB)(a1:(gB×Unit)->Option Bool):Option Int:=
 dJ (iter (mH a0 a1) n 0) λ()=>some (-1)
def jh(a0:List gB)(a1:(gB×Unit)->Option Bool):Option Bool:=
 (uQ n a0 a1).bind λr1=>some (decide (r1>=0))
def yL(a0:ax)(a1:List dX)(a2:List gB):Option Bool:=
 ((Bd n a0 a1).bind λr1=>(bif (!r1)then some true else(Jg n a2).bind λr2=>some (!r2))).bind λv1=>(bif v1 then some false else(jh n a2 (λ (y1:gB×Unit)=>sI n y1.1 a0 a1)).bind λr3=>some (!r3))
def j3(a0:aF)(a1:ax)(a2:cK):Option Bool:=
 (yI a0).bind λr1=>ck (az (sub ([(dX.mk a2.jn a2.jp a2.ky a2.kA)]:List dX) 0 1).length 1)<|ck (az (sub r1 0 r1.length).length r1.length)<|(yL n a1 (sub ([(dX.mk a2.jn a2.jp a2.ky a2.kA)]:List dX) 0 1) (sub r1 0 r1.length)).bind λr2=>some (!r2)
def gQ(a0:ni)(a1:(aF×Unit)->Option Bool):Option Bool:=
 (fO n a0.bx a1).bind λr1=>some r1
def j4(a0:aF)(a1:cK):Option Bool:=
 ck (decide (0<=a0.use)&&decide (a0.use<=i64.bits))<|some ((bits .and .i64 a1.uses (i64.wrap (1*2 ^ a0.use.toNat)))==0)
def dP(a0:jv)(a1:ni)(a2:aF)(a3:cK):Option Bool:=
 ((bif (a0.lot==a1.co)then some true else(pX (ax.mk a0.fc a0.eV a0.eW a0.eS)).bind λr1=>(bif (!r1)then some true else(bif decide (a0.ga<0)then some true else some (decide (a0.ga>=6)))))).bind λv1=>(bif v1 then some false else((bif (a2.use==a3.uses)then(bif (a0.ga==a3.other)then some true else(bif (a2.use==a3.other)then some (a0.ga==a3.uses)else some false))else(bif (a2.use==a3.other)then some (a0.ga==a3.uses)else some false))).bind λv2=>(bif v2 then(OF (ax.mk a2.ci a2.cE a2.cd a2.cD) (ax.mk a0.fc a0.eV a0.eW a0.eS)).bind λr2=>some (decide (r2<a3.n))else some false))
def Fp(a0:List jv)(a1:(jv×Unit)->Option Bool):Stp Int (Unit⊕Int)
 |v1=>(bif decide (v1<a0.length)then(bj a0 v1).bind λx1=>(a1 (x1,())).bind λr1=>(bif r1 then(some v1).map λa=> .inr (.inr a)else some (.inl (i64.wrap (v1+1))))else some (.inr (.inl ())))
def rE(a0:List jv)(a1:(jv×Unit)->Option Bool):Option Int:=
 dJ (iter (Fp a0 a1) n 0) λ()=>some (-1)
def j5(a0:List jv)(a1:(jv×Unit)->Option Bool):Option Bool:=
 (rE n a0 a1).bind λr1=>some (decide (r1>=0))
def sQ(a0:ni)(a1:cK)(a2:aF):Option Bool:=
 (j5 n a0.cT (λ (y1:jv×Unit)=>dP y1.1 a0 a2 a1)).bind λr1=>some r1
def j6(a0:aF)(a1:ni)(a2:cK):Option Bool:=
 (sQ n a1 a2 a0).bind λr1=>some r1
def nL(a0:ni)(a1:cK):Option Bool:=
 (bif (a1.kind==0)then(kM n (bO.mk a0.cj a0.aw a0.bp a0.aE a0.bk a0.br a0.cx a0.bu) (fE.mk a0.t6 a0.oe a0.lr a0.p6) (aO.mk a0.co a0.b8)).bind λr1=>ck (az (sub r1 0 r1.length).length r1.length)<|(Ba n (bO.mk a0.cj a0.aw a0.bp a0.aE a0.bk a0.br a0.cx a0.bu) (sub r1 0 r1.length) a0.zones (dh.mk a1.lP a1.oa a1.nF a1.kx a1.gS)).bind λr2=>some (r2==0)else(bif (a1.kind==1)then(Kw n a0.lr).bind λr3=>(gQ n a0 (λ (y1:aF×Unit)=>j3 n y1.1 r3.1 a1)).bind λr4=>some r4 else(bif (a1.kind==2)then(gQ n a0 (λ (y2:aF×Unit)=>j4 y2.1 a1)).bind λr5=>some r5 else(bif (a1.kind==3)then(gQ n a0 (λ (y3:aF×Unit)=>j6 n y3.1 a0 a1)).bind λr6=>some r6 else some false))))
def wQ(a0:ax)(a1:ax):Option Bool:=
 (bif decide ((max a1.x0 a0.x0)<(min a1.x1 a0.x1))then some (decide ((max a1.y0 a0.y0)<(min a1.y1 a0.y1)))else some false)
def Jh(a0:List ax)(a1:(ax×Unit)->Option Bool):Stp Int (Unit⊕Int)
 |v1=>(bif decide (v1<a0.length)then(bj a0 v1).bind λx1=>(a1 (x1,())).bind λr1=>(bif r1 then(some v1).map λa=> .inr (.inr a)else some (.inl (i64.wrap (v1+1))))else some (.inr (.inl ())))
def uR(a0:List ax)(a1:(ax×Unit)->Option Bool):Option Int:=
 dJ (iter (Jh a0 a1) n 0) λ()=>some (-1)
def ji(a0:List ax)(a1:(ax×Unit)->Option Bool):Option Bool:=
 (uR n a0 a1).bind λr1=>some (decide (r1>=0))
def Fq(a0:ax)(a1:List ax):Option Bool:=
 (ji n a1 (λ (y1:ax×Unit)=>wQ y1.1 a0)).bind λr1=>some r1
def Vt(a0:List ax)(a1:List ax):Option Bool:=
 (ji n a0 (λ (y1:ax×Unit)=>Fq n y1.1 a1)).bind λr1=>some r1
def rT(a0:gB)(a1:lG):Option Bool:=
 (bif decide (a0.z1>a1.top)then(Vt n a0.area a1.area).bind λr1=>some r1 else some false)
def wR(a0:List lG)(a1:Int)(a2:List gB):Stp Int (Unit⊕Bool)
 |v1=>(bif decide (v1<a0.length)then dJ ((bj a0 v1).bind λx1=>((bif (x1.lot !=a1)then some true else(lY n x1.area).bind λr2=>some (!r2))).bind λv2=>(bif v2 then some (.inl ())else(jh n a2 (λ (y1:gB×Unit)=>rT n y1.1 x1)).bind λr3=>(bif r3 then((some false).map λa=> .inr (.inr a)).map .inr else some (.inl ()))):Option ((Unit)⊕_)) λ()=>some (.inl (i64.wrap (v1+1)))else some (.inr (.inl ())))
def Fs(a0:List lG)(a1:Int)(a2:List gB):Option Bool:=
 (Jg n a2).bind λr1=>(bif (!r1)then some false else dJ (iter (wR n a0 a1 a2) n 0) λ()=>some true)
def nQ(a0:aF)(a1:eH)(a2:aO):Option Bool:=
 (yI a0).bind λr1=>ck (az (sub r1 0 r1.length).length r1.length)<|(Fs n a1.cJ a2.lot (sub r1 0 r1.length)).bind λr2=>some (!r2)
def jN(a0:ByteArray)(a1:Bool)(a2:List ByteArray):Option (List ByteArray):=
 ((bif a1 then ck (az (sub a2 0 a2.length).length a2.length)<|(dZ n (sub a2 0 a2.length) a0).bind λr1=>some (!r1)else some false)).bind λv1=>(bif v1 then ck (bJ a2.length a2.length (sub ([a0]:List ByteArray) 0 1).length 1 16)<|iH (a2++(sub ([a0]:List ByteArray) 0 1)) λr2=>ck (az r2.length r2.length)<|some r2 else ck (az a2.length a2.length)<|some a2)
def nR(a0:eH)(r1:ni×Int)(r2:List Int):Stp (Int×(List ByteArray)) (List ByteArray)
 |(v1,v2)=>(bif decide (v1<(r2.length:Nat))then ck (cP v1 r2.length)<|(bj r2 ((0:Nat)+v1:Int)).bind λx1=>(bj a0.aq x1).bind λx2=>(bj a0.aq x1).bind λx3=>(nL n r1.1 x3).bind λr3=>ck (az v2.length v2.length)<|(jN n x2.name r3 v2).bind λr4=>ck (az r4.length r4.length)<|some (.inl ((i64.wrap (v1+1)),r4))else ck (az v2.length v2.length)<|some (.inr v2))
def wS(a0:eH)(a1:aO)(a2:Int):Option ((List ByteArray)×Int):=
 (AZ n a0 a1).bind λr1=>(bif (r1.2 !=0)then some ([],r1.2)else(uN n (bO.mk a0.cH a0.ct a0.cz a0.aq a0.cQ a0.cV a0.d5 a0.cW) r1.1.zones a2).bind λr2=>ck (az 0 ([]:List ByteArray).length)<|(iter (nR n a0 r1 r2) n (0,[])).bind λw1=>(gQ n r1.1 (λ (y1:aF×Unit)=>nQ n y1.1 a0 a1)).bind λr5=>ck (az w1.length w1.length)<|(jN n (⟨#[101,97,115,101,109,101,110,116]⟩) r5 w1).bind λr6=>ck (az (sub r6 0 r6.length).length r6.length)<|some ((sub r6 0 r6.length),0))
def mI(a0:aJ)(a1:aG):Option Bool:=
 (wS n (eH.mk a1.cj a1.aw a1.bp a1.aE a1.bk a1.br a1.cx a1.bu a1.c8 a1.cL a1.cR a1.cT a1.ec) (aO.mk a1.co a1.b8) a1.rule).bind λr1=>(bif (r1.2==0)then ck (az (sub r1.1 0 r1.1.length).length r1.1.length)<|(dZ n (sub r1.1 0 r1.1.length) a0.name).bind λr2=>some r2 else some false)
def jD(a0:Oy)(a1:aJ):Option Bool:=
 some (a0.id==(a1.n:Int))
def Ji(a0:List Oy)(a1:(Oy×Unit)->Option Bool):Stp Int (Unit⊕Int)
 |v1=>(bif decide (v1<(a0.length:Int))then(bj a0 v1).bind λx1=>(a1 (x1,())).bind λr1=>(bif r1 then(some v1).map λa=> .inr (.inr a)else some (.inl (i64.wrap (v1+1))))else some (.inr (.inl ())))
def uS(a0:List Oy)(a1:(Oy×Unit)->Option Bool):Option Int:=
 dJ (iter (Ji a0 a1) n (0:Int)) λ()=>some ((-1):Int)
def mJ(a0:aJ)(a1:aG):Option Bool:=
 (uS n a1.cases (λ (y1:Oy×Unit)=>jD y1.1 a0)).bind λr1=>(bif decide (r1>=0)then(bif (ByteArray.toList a0.name==ByteArray.toList (⟨#[103,114,97,110,116,101,100]⟩))then(bj a1.cases r1).bind λx1=>(bif x1.grant then some true else(bif (ByteArray.toList a0.name==ByteArray.toList (⟨#[114,101,102,117,115,101,100]⟩))then(bj a1.cases r1).bind λx2=>some (!x2.grant)else some false))else(bif (ByteArray.toList a0.name==ByteArray.toList (⟨#[114,101,102,117,115,101,100]⟩))then(bj a1.cases r1).bind λx3=>some (!x3.grant)else some false))else some false)
noncomputable def iB(n:Nat)(h:aG)(c:aJ):Option Bool:=
 bif c.ee==0 then qm c else bif c.ee==1 then l7 n c h else bif c.ee==2 then mI n c h else bif c.ee==3 then mJ n c h else some false
def p9(a0:aG):Stp (Int×(List Bool)) (List Bool)
 |(v1,v2)=>(bif decide (v1<(a0.claims.length:Int))then((bj a0.claims v1).bind λx1=>(bif (v1==0)then ck (cP v1 ((a0.claims.length:Int).toNat))<|(bj v2 ((0:Nat)+v1:Int)).bind λx2=>some (v2.set ((0:Nat)+v1:Int).toNat true)else(qj n a0 x1.day).bind λr2=>(bif r2 then(rM n a0 x1.eh).bind λr3=>(bif r3 then(kI n a0 x1).bind λr4=>(bif r4 then(iB n a0 x1).bind λr5=>ck (cP v1 ((a0.claims.length:Int).toNat))<|(bj v2 ((0:Nat)+v1:Int)).bind λx3=>some (v2.set ((0:Nat)+v1:Int).toNat r5)else ck (cP v1 ((a0.claims.length:Int).toNat))<|(bj v2 ((0:Nat)+v1:Int)).bind λx4=>some (v2.set ((0:Nat)+v1:Int).toNat false))else ck (cP v1 ((a0.claims.length:Int).toNat))<|(bj v2 ((0:Nat)+v1:Int)).bind λx5=>some (v2.set ((0:Nat)+v1:Int).toNat false))else ck (cP v1 ((a0.claims.length:Int).toNat))<|(bj v2 ((0:Nat)+v1:Int)).bind λx6=>some (v2.set ((0:Nat)+v1:Int).toNat false))):Option ((List Bool))).bind λv3=>some (.inl ((i64.wrap (v1+1)),v3))else some (.inr v2))
def qw(a0:aG):Option (List Bool):=
 (jf a0).bind λr1=>(bif (!r1)then some ([]:(List Bool))else ck (decide ((a0.claims.length:Int)<=(a0.claims.length:Int))&&(decide (0<=(a0.claims.length:Int))&&qH (a0.claims.length:Int) 1))<|(iter (p9 n a0) n ((0:Int),(List.replicate (a0.claims.length:Int).toNat false))).bind λw1=>ck (az (sub w1 0 ((a0.claims.length:Int).toNat)).length ((a0.claims.length:Int).toNat))<|some (sub w1 0 ((a0.claims.length:Int).toNat)))
def qx(a0:List aJ)(x1:aJ):Stp (Int×Int) (Unit⊕(Int⊕(Unit⊕Bool)))
 |(v2,v3)=>(bif decide (v3<(x1.attacks.length:Int))then(bj x1.attacks v3).bind λx2=>((bif decide (x2<=(v2:Int))then some true else some (decide (x2>=(a0.length:Int))))).bind λv4=>(bif v4 then((some false).map λa=> .inr (.inr a)).map λa=> .inr (.inr a)else some (.inl (x2,(i64.wrap (v3+1)))))else some (.inr (.inl ())))
def uT(a0:List aJ):Stp Int (Unit⊕Bool)
 |v1=>(bif decide (v1<(a0.length:Int))then(bj a0 v1).bind λx1=>dJ (iter (qx a0 x1) n (((-1):Int),(0:Int))) λ()=>some (.inl (i64.wrap (v1+1)))else some (.inr (.inl ())))
def xJ(a0:List aJ):Option Bool:=
 dJ (iter (uT n a0) n (0:Int)) λ()=>some (decide ((a0.length:Int)<=300))
noncomputable def pM(a0:List aJ):Option (List (List Int)):=ck (decide (a0.length<=1000000)&&(a0.all λc=>decide (c.attacks.length<=1000000)&&c.attacks.all λk=>decide (0<=k)&&decide (k<(a0.length:Int))))<|some (m8 (a0.map (·.attacks)) a0.length)
def mK(a0:List aJ)(r2:List (List Int)):Stp (Int×(List Int)×(List Int)) ((List Int)×(List Int))
 |(v1,v2,v3)=>(bif decide (v1<(a0.length:Int))then((bj r2 v1).bind λx1=>ck (cP v1 ((a0.length:Int).toNat))<|(bj v2 ((0:Nat)+v1:Int)).bind λx2=>ck (cP v1 ((a0.length:Int).toNat))<|(bj (v2.set ((0:Nat)+v1:Int).toNat (x1.length:Int)) ((0:Nat)+v1:Int)).bind λx3=>(bif (x3==0)then ck (bJ v3.length v3.length (sub ([v1]:List Int) 0 1).length 1 8)<|iH (v3++(sub ([v1]:List Int) 0 1)) λr3=>ck (az r3.length r3.length)<|some ((v2.set ((0:Nat)+v1:Int).toNat (x1.length:Int)),r3)else ck (az v3.length v3.length)<|some ((v2.set ((0:Nat)+v1:Int).toNat (x1.length:Int)),v3)):Option ((List Int)×(List Int))).bind λ(v4,v5)=>ck (az v5.length v5.length)<|some (.inl ((i64.wrap (v1+1)),v4,v5))else ck (az v3.length v3.length)<|some (.inr (v2,v3)))
def mM(a0:List aJ)(v6:Int)(v10:List Int):Stp (Int×(List Int)×(List Int)) ((List Int)×(List Int))
 |(v11,v12,v13)=>(bif decide (v11<(v10.length:Int))then ck (cP v11 v10.length)<|(bj v10 ((0:Nat)+v11:Int)).bind λx4=>ck (cP x4 ((a0.length:Int).toNat))<|(bj v12 ((0:Nat)+x4:Int)).bind λx5=>ck (cP x4 ((a0.length:Int).toNat))<|(bj v13 ((0:Nat)+x4:Int)).bind λx6=>some (.inl ((i64.wrap (v11+1)),(v12.set ((0:Nat)+x4:Int).toNat 1),(v13.set ((0:Nat)+x4:Int).toNat v6)))else some (.inr (v12,v13)))
def mO(a0:List aJ)(v6:Int)(x8:aJ):Stp (Int×(List Int)×(List Int)×(List Int)) ((List Int)×(List Int)×(List Int))
 |(v18,v19,v20,v21)=>(bif decide (v18<(x8.attacks.length:Int))then((bj x8.attacks v18).bind λx9=>ck (cP x9 ((a0.length:Int).toNat))<|(bj v19 ((0:Nat)+x9:Int)).bind λx10=>(bif (x10==0)then ck (cP x9 ((a0.length:Int).toNat))<|(bj v19 ((0:Nat)+x9:Int)).bind λx11=>ck (cP x9 ((a0.length:Int).toNat))<|(bj v20 ((0:Nat)+x9:Int)).bind λx12=>ck (bJ v21.length v21.length (sub ([x9]:List Int) 0 1).length 1 8)<|iH (v21++(sub ([x9]:List Int) 0 1)) λr4=>ck (az r4.length r4.length)<|some ((v19.set ((0:Nat)+x9:Int).toNat 2),(v20.set ((0:Nat)+x9:Int).toNat (i64.wrap (v6+1))),r4)else ck (az v21.length v21.length)<|some (v19,v20,v21)):Option ((List Int)×(List Int)×(List Int))).bind λ(v22,v23,v24)=>ck (az v24.length v24.length)<|some (.inl ((i64.wrap (v18+1)),v22,v23,v24))else ck (az v21.length v21.length)<|some (.inr (v19,v20,v21)))
def mQ(a0:List aJ)(v6:Int)(v10:List Int):Stp (Int×(List Int)×(List Int)×(List Int)) ((List Int)×(List Int)×(List Int))
 |(v14,v15,v16,v17)=>(bif decide (v14<(v10.length:Int))then ck (cP v14 v10.length)<|(bj v10 ((0:Nat)+v14:Int)).bind λx7=>(bj a0 x7).bind λx8=>ck (az v17.length v17.length)<|(iter (mO a0 v6 x8) n ((0:Int),v15,v16,v17)).bind λ(w5,w6,w7)=>ck (az w7.length w7.length)<|some (.inl ((i64.wrap (v14+1)),w5,w6,w7))else ck (az v17.length v17.length)<|some (.inr (v15,v16,v17)))
def mR(a0:List aJ)(w8:List Int)(PC:aJ):Stp (Int×(List Int)×(List Int)) ((List Int)×(List Int))
 |(v28,v29,v30)=>(bif decide (v28<(PC.attacks.length:Int))then((bj PC.attacks v28).bind λvl=>ck (cP vl ((a0.length:Int).toNat))<|(bj v29 ((0:Nat)+vl:Int)).bind λUP=>ck (cP vl ((a0.length:Int).toNat))<|(bj v29 ((0:Nat)+vl:Int)).bind λx17=>(ck (cP vl ((a0.length:Int).toNat))<|(bj (v29.set ((0:Nat)+vl:Int).toNat (i64.wrap (UP -1))) ((0:Nat)+vl:Int)).bind λx18=>(bif (x18==0)then ck (cP vl ((a0.length:Int).toNat))<|(bj w8 ((0:Nat)+vl:Int)).bind λx19=>some (x19==0)else some false)).bind λv31=>(bif v31 then ck (bJ v30.length v30.length (sub ([vl]:List Int) 0 1).length 1 8)<|iH (v30++(sub ([vl]:List Int) 0 1)) λr5=>ck (az r5.length r5.length)<|some ((v29.set ((0:Nat)+vl:Int).toNat (i64.wrap (UP -1))),r5)else ck (az v30.length v30.length)<|some ((v29.set ((0:Nat)+vl:Int).toNat (i64.wrap (UP -1))),v30)):Option ((List Int)×(List Int))).bind λ(v32,v33)=>ck (az v33.length v33.length)<|some (.inl ((i64.wrap (v28+1)),v32,v33))else ck (az v30.length v30.length)<|some (.inr (v29,v30)))
def mU(a0:List aJ)(w8:List Int)(vm:List Int):Stp (Int×(List Int)×(List Int)) ((List Int)×(List Int))
 |(v25,v26,v27)=>(bif decide (v25<(vm.length:Int))then ck (cP v25 vm.length)<|(bj vm ((0:Nat)+v25:Int)).bind λx13=>(bj a0 x13).bind λPC=>ck (az v27.length v27.length)<|(iter (mR a0 w8 PC) n ((0:Int),v26,v27)).bind λ(yy,Ix)=>ck (az Ix.length Ix.length)<|some (.inl ((i64.wrap (v25+1)),yy,Ix))else ck (az v27.length v27.length)<|some (.inr (v26,v27)))
def qa(a0:List aJ):Stp (Int×(List Int)×(List Int)×(List Int)×(List Int)) ((List Int)×(List Int))
 |(v6,v7,v8,v9,v10)=>(bif decide ((v10.length:Int)>0)then(iter (mM a0 v6 v10) n ((0:Int),v7,v8)).bind λ(w3,w4)=>ck (az 0 ([]:List Int).length)<|(iter (mQ n a0 v6 v10) n ((0:Int),w3,w4,([]:List Int))).bind λ(w8,w9,vm)=>ck (az 0 ([]:List Int).length)<|(iter (mU n a0 w8 vm) n ((0:Int),v9,([]:List Int))).bind λ(UT,Iv)=>ck (az Iv.length Iv.length)<|some (.inl ((i64.wrap (v6+2)),w8,w9,UT,Iv))else some (.inr (v7,v8)))
def qy(a0:List aJ):Option ((List Int)×(List Int)×Int):=
 (xJ n a0).bind λr1=>(bif (!r1)then some (([]:(List Int)),([]:(List Int)),(1:Int))else(pM a0).bind λr2=>ck (decide ((a0.length:Int)<=(a0.length:Int))&&(decide (0<=(a0.length:Int))&&qH (a0.length:Int) 8))<|ck (decide ((a0.length:Int)<=(a0.length:Int))&&(decide (0<=(a0.length:Int))&&qH (a0.length:Int) 8))<|ck (decide ((a0.length:Int)<=(a0.length:Int))&&(decide (0<=(a0.length:Int))&&qH (a0.length:Int) 8))<|ck (az 0 ([]:List Int).length)<|(iter (mK a0 r2) n ((0:Int),(List.replicate (a0.length:Int).toNat (0:Int)),([]:List Int))).bind λ(w1,w2)=>ck (az w2.length w2.length)<|(iter (qa n a0) n ((1:Int),(List.replicate (a0.length:Int).toNat (0:Int)),(List.replicate (a0.length:Int).toNat (0:Int)),w1,w2)).bind λ(PH,w16)=>ck (az (sub PH 0 ((a0.length:Int).toNat)).length ((a0.length:Int).toNat))<|ck (az (sub w16 0 ((a0.length:Int).toNat)).length ((a0.length:Int).toNat))<|some ((sub PH 0 ((a0.length:Int).toNat)),(sub w16 0 ((a0.length:Int).toNat)),(0:Int)))
def kN(a0:aG)(r2:List Bool):Stp (Int×(List aJ)) (List aJ)
 |(v1,v2)=>(bif decide (v1<(a0.claims.length:Int))then((bj a0.claims v1).bind λx1=>(ck (cP v1 r2.length)<|(bj r2 ((0:Nat)+v1:Int)).bind λx2=>(bif x2 then(fM n x1.attacks (((r2.length:Int).toNat:Nat):Int)).bind λr3=>some r3 else some false)).bind λv3=>(bif v3 then ck (cP v1 ((r2.length:Int).toNat))<|(bj v2 ((0:Nat)+v1:Int)).bind λx3=>some (v2.set ((0:Nat)+v1:Int).toNat (aJ.mk x3.eh x3.day x1.attacks x3.ee x3.name x3.n))else some v2):Option ((List aJ))).bind λv4=>some (.inl ((i64.wrap (v1+1)),v4))else some (.inr v2))
def kP(r2:List Bool)(r4:(List Int)×(List Int)×Int):Stp (Int×(List Int)) (List Int)
 |(v5,v6)=>(bif decide (v5<(r2.length:Int))then(ck (cP v5 r2.length)<|(bj r2 ((0:Nat)+v5:Int)).bind λx4=>(bif (!x4)then ck (cP v5 r4.1.length)<|(bj v6 ((0:Nat)+v5:Int)).bind λx5=>some (v6.set ((0:Nat)+v5:Int).toNat 2)else some v6):Option ((List Int))).bind λv7=>some (.inl ((i64.wrap (v5+1)),v7))else some (.inr v6))
def iG(a0:aG):Option ((List Int)×Bool):=
 (jf a0).bind λr1=>(bif (!r1)then some (([]:(List Int)),false)else(qw n a0).bind λr2=>ck (decide ((r2.length:Int)<=(r2.length:Int))&&(decide (0<=(r2.length:Int))&&qH (r2.length:Int) 72))<|(iter (kN n a0 r2) n ((0:Int),(List.replicate (r2.length:Int).toNat (aJ.mk 0 0 ([]) 0 (⟨#[]⟩) 0)))).bind λw1=>ck (az (sub w1 0 ((r2.length:Int).toNat)).length ((r2.length:Int).toNat))<|(qy n (sub w1 0 ((r2.length:Int).toNat))).bind λr4=>(iter (kP r2 r4) n ((0:Int),r4.1)).bind λw2=>ck (cP 0 r4.1.length)<|(bj w2 ((0:Nat)+0:Int)).bind λx6=>ck (az (sub w2 0 r4.1.length).length r4.1.length)<|some ((sub w2 0 r4.1.length),(x6==1)))
def Uc(a0:List Int)(a1:List Int):Stp Int (Unit⊕Bool)
 |v1=>(bif decide (v1<(a0.length:Int))then(bj a0 v1).bind λx1=>(bj a1 v1).bind λx2=>(bif (x1 !=(x2:Int))then(some false).map λa=> .inr (.inr a)else some (.inl (i64.wrap (v1+1))))else some (.inr (.inl ())))
def qW(a0:List Int)(a1:List Int):Option Bool:=
 (bif ((a0.length:Int) !=(a1.length:Int))then some false else dJ (iter (Uc a0 a1) n (0:Int)) λ()=>some true)
def uU(a0:aG)(a1:List Int)(a2:Bool):Option Bool:=
 (iG n a0).bind λr1=>ck (az (sub r1.1 0 r1.1.length).length r1.1.length)<|(qW n (sub r1.1 0 r1.1.length) a1).bind λr2=>(bif r2 then some (r1.2==a2)else some false)
def Kz:Option Bool:=
 (tC 9 12).bind λr1=>ck (bJ ([]:List aJ).length 0 r1.claims.length r1.claims.length 72)<|iH (([]:List aJ)++r1.claims) λr2=>ck (az (sub ([1]:List Int) 0 1).length 1)<|ck (bJ r2.length r2.length (sub ([(aJ.mk 7 12 (sub ([1]:List Int) 0 1) 0 (⟨#[]⟩) 0)]:List aJ) 0 1).length 1 72)<|iH (r2++(sub ([(aJ.mk 7 12 (sub ([1]:List Int) 0 1) 0 (⟨#[]⟩) 0)]:List aJ) 0 1)) λr3=>(fu n r1).bind λr4=>(ck (az (sub ([2,1]:List Int) 0 2).length 2)<|(uU n r1 (sub ([2,1]:List Int) 0 2) false).bind λr5=>(bif r5 then(tC 8 12).bind λr6=>ck (az (sub ([1,2]:List Int) 0 2).length 2)<|(uU n r6 (sub ([1,2]:List Int) 0 2) true).bind λr7=>(bif r7 then(tC 9 18).bind λr8=>ck (az (sub ([1,2]:List Int) 0 2).length 2)<|(uU n r8 (sub ([1,2]:List Int) 0 2) true).bind λr9=>some r9 else some false)else some false)).bind λv1=>(bif v1 then(bif (r4.1==17)then(bif (r4.2==0)then ck (az (sub r3 0 r3.length).length r3.length)<|ck (az (sub ([1,2,1]:List Int) 0 3).length 3)<|(uU n (aG.mk r1.cj r1.aw r1.bp r1.aE r1.bk r1.br r1.cx r1.bu r1.c8 r1.cL r1.cR r1.cT r1.ec r1.co r1.b8 r1.rule r1.el r1.eC r1.eL r1.stays r1.cases (sub r3 0 r3.length)) (sub ([1,2,1]:List Int) 0 3) true).bind λxz=>(bif xz then(tC 9 17).bind λsX=>ck (az (sub ([2,1]:List Int) 0 2).length 2)<|(uU n sX (sub ([2,1]:List Int) 0 2) false).bind λCE=>some CE else some false)else some false)else some false)else some false)
def MB(a0:eH):Stp Int (Unit⊕Bool)
 |v2=>(bif decide (v2<a0.aq.length)then((bj a0.aq v2).bind λx1=>(bif decide ((x1.zones.length:Int)>5)then some true else(bj a0.aq v2).bind λx2=>some (decide ((x2.except.length:Int)>5)))).bind λv3=>(bif v3 then(some false).map λa=> .inr (.inr a)else some (.inl (i64.wrap (v2+1))))else some (.inr (.inl ())))
def MC(a0:eH):Stp Int (Unit⊕Bool)
 |v4=>(bif decide (v4<a0.land.length)then(bj a0.land v4).bind λx3=>(bif decide ((x3.area.length:Int)>10)then(some false).map λa=> .inr (.inr a)else some (.inl (i64.wrap (v4+1))))else some (.inr (.inl ())))
def ME(a0:eH):Stp Int (Unit⊕Bool)
 |v5=>(bif decide (v5<a0.cJ.length)then(bj a0.cJ v5).bind λx4=>(bif decide ((x4.area.length:Int)>10)then(some false).map λa=> .inr (.inr a)else some (.inl (i64.wrap (v5+1))))else some (.inr (.inl ())))
def Vu(a0:eH):Option Bool:=
 ((bif decide ((a0.aq.length:Int)>10)then some true else(bif decide ((a0.cz.length:Int)>6)then some true else(bif decide ((a0.cH.length:Int)>20)then some true else(bif decide ((a0.ct.length:Int)>20)then some true else(bif decide ((a0.land.length:Int)>5)then some true else(bif decide ((a0.cJ.length:Int)>5)then some true else some (decide ((a0.built.length:Int)>6))))))))).bind λv1=>(bif v1 then some false else dJ (iter (MB a0) n 0) λ()=>dJ (iter (MC a0) n 0) λ()=>dJ (iter (ME a0) n 0) λ()=>some true)
def oH(a0:List aO)(v1:Int):Stp Int (Unit⊕(Int⊕(Unit⊕Bool)))
 |v2=>(bj a0 v1).bind λx1=>(bif decide (v2<(x1.phases.length:Int))then((bj a0 v1).bind λx2=>(bj x2.phases v2).bind λx3=>(bif decide ((x3.bx.length:Int)>12)then some true else(bj a0 v1).bind λx4=>(bj x4.phases v2).bind λx5=>some (decide ((x5.gives.length:Int)>6)))).bind λv3=>(bif v3 then((some false).map λa=> .inr (.inr a)).map λa=> .inr (.inr a)else some (.inl (i64.wrap (v2+1))))else some (.inr (.inl ())))
def kQ(a0:List aO):Stp Int (Unit⊕Bool)
 |v1=>(bif decide (v1<(a0.length:Int))then dJ (iter (oH a0 v1) n (0:Int)) λ()=>(bj a0 v1).bind λx6=>(bif decide ((x6.phases.length:Int)>9)then(some false).map λa=> .inr (.inr a)else some (.inl (i64.wrap (v1+1))))else some (.inr (.inl ())))
def pq(a0:List aO):Option Bool:=
 dJ (iter (kQ n a0) n (0:Int)) λ()=>some (decide ((a0.length:Int)<=9))
def XT(a2:List RR):Stp Int (Unit⊕Bool)
 |v1=>(bif decide (v1<(a2.length:Int))then(bj a2 v1).bind λx1=>(pq n x1.jt).bind λr1=>(bif (!r1)then(some false).map λa=> .inr (.inr a)else some (.inl (i64.wrap (v1+1))))else some (.inr (.inl ())))
def Vv(a0:bO)(a1:Ja)(a2:List RR):Option Bool:=
 dJ (iter (XT n a2) n (0:Int)) λ()=>(bif decide ((a0.rules.length:Int)<=20)then(bif decide ((a2.length:Int)<=14)then(pq n a1.jt).bind λr2=>some r2 else some false)else some false)
def Bf(rc:(dh)->Option Int)(a0:dh):Stp (Int×Int) Int
 |(v1,v2)=>(bif decide (v2<a0.args.length)then(bj a0.args v2).bind λx1=>(rc x1).bind λr1=>some (.inl ((i64.wrap (v1+r1)),(i64.wrap (v2+1))))else some (.inr v1))
def MF(rc:(dh)->Option Int)(a0:dh):Option Int:=
 (iter (Bf rc a0) n (1,0)).bind λw1=>some w1
def Jj(rc:(dh)->Option Int):cw xx:=⟨[.d (.st SI.Expr)],[.d (.int .i64)],λa=>rc a.1,none⟩
def wz(n:Nat):Nat->(dh)->Option Int
 | 0=>λ_=>none
 |m+1=>MF n (wz n m)
def Jk(a0:dh):Option Int:=wz n n a0
def Fu(a0:bO):Stp Int (Unit⊕Bool)
 |v2=>(bif decide (v2<(a0.defs.length:Int))then((bj a0.defs v2).bind λx1=>(Jk n (dh.mk x1.j7 x1.mC x1.lz x1.ju x1.fj)).bind λr1=>(bif decide (r1>60)then some true else(bj a0.defs v2).bind λx2=>some (decide ((x2.name.size:Int)>100)))).bind λv3=>(bif v3 then(some false).map λa=> .inr (.inr a)else some (.inl (i64.wrap (v2+1))))else some (.inr (.inl ())))
def Fv(a0:bO):Stp Int (Unit⊕Bool)
 |v4=>(bif decide (v4<(a0.rules.length:Int))then(bj a0.rules v4).bind λx3=>(Jk n (dh.mk x3.lP x3.oa x3.nF x3.kx x3.gS)).bind λr2=>(bif decide (r2>60)then(some false).map λa=> .inr (.inr a)else some (.inl (i64.wrap (v4+1))))else some (.inr (.inl ())))
def Vw(a0:bO):Option Bool:=
 ((bif decide ((a0.defs.length:Int)>20)then some true else some (decide ((a0.rules.length:Int)>20)))).bind λv1=>(bif v1 then some false else dJ (iter (Fu n a0) n (0:Int)) λ()=>dJ (iter (Fv n a0) n (0:Int)) λ()=>some true)
def Fw(a0:aG):Stp Int (Unit⊕Bool)
 |v2=>(bif decide (v2<(a0.claims.length:Int))then(bj a0.claims v2).bind λx1=>(bif decide ((x1.attacks.length:Int)>14)then(some false).map λa=> .inr (.inr a)else some (.inl (i64.wrap (v2+1))))else some (.inr (.inl ())))
def Fx(a0:aG):Stp Int (Unit⊕Bool)
 |v3=>(bif decide (v3<(a0.aw.length:Int))then(bj a0.aw v3).bind λx2=>(bif decide ((x2.rows.length:Int)>10)then(some false).map λa=> .inr (.inr a)else some (.inl (i64.wrap (v3+1))))else some (.inr (.inl ())))
def Vx(a0:aG):Option Bool:=
 ((Vu n (eH.mk a0.cj a0.aw a0.bp a0.aE a0.bk a0.br a0.cx a0.bu a0.c8 a0.cL a0.cR a0.cT a0.ec)).bind λr1=>(bif (!r1)then some true else ck (az (sub ([(aO.mk a0.co a0.b8)]:List aO) 0 1).length 1)<|(Vv n (bO.mk ([]) ([]) ([]) ([]) ([]) ([]) ([]) 0) (Ja.mk 0 0 0 0 0 (sub ([(aO.mk a0.co a0.b8)]:List aO) 0 1) 0 0) ([])).bind λr2=>(bif (!r2)then some true else(bif decide ((a0.eL.length:Int)>20)then some true else(bif decide ((a0.stays.length:Int)>8)then some true else(bif decide ((a0.cases.length:Int)>12)then some true else(bif decide ((a0.claims.length:Int)>14)then some true else(Vw n (bO.mk a0.cj a0.aw a0.bp a0.aE a0.bk a0.br a0.cx a0.bu)).bind λr3=>some (!r3)))))))).bind λv1=>(bif v1 then some false else dJ (iter (Fw a0) n (0:Int)) λ()=>dJ (iter (Fx a0) n (0:Int)) λ()=>some true)
def wT(a0:List aJ)(v1:Int):Stp Int (Unit⊕(Int⊕(Unit⊕Bool)))
 |v2=>(bj a0 v1).bind λx1=>(bif decide (v2<(x1.attacks.length:Int))then(bj a0 v1).bind λx2=>(bj x2.attacks v2).bind λx3=>(bif decide (x3>=(a0.length:Int))then((some false).map λa=> .inr (.inr a)).map λa=> .inr (.inr a)else some (.inl (i64.wrap (v2+1))))else some (.inr (.inl ())))
def wU(a0:List aJ):Stp Int (Unit⊕Bool)
 |v1=>(bif decide (v1<(a0.length:Int))then dJ (iter (wT a0 v1) n (0:Int)) λ()=>some (.inl (i64.wrap (v1+1)))else some (.inr (.inl ())))
def Fy(a0:List aJ):Option Bool:=
 dJ (iter (wU n a0) n (0:Int)) λ()=>some true
def OX(a0:aG)(a1:aJ):Option aG:=
 ck (bJ ([]:List aJ).length 0 a0.claims.length a0.claims.length 72)<|iH (([]:List aJ)++a0.claims) λr1=>ck (bJ r1.length r1.length (sub ([a1]:List aJ) 0 1).length 1 72)<|iH (r1++(sub ([a1]:List aJ) 0 1)) λr2=>ck (az (sub r2 0 r2.length).length r2.length)<|some (aG.mk a0.cj a0.aw a0.bp a0.aE a0.bk a0.br a0.cx a0.bu a0.c8 a0.cL a0.cR a0.cT a0.ec a0.co a0.b8 a0.rule a0.el a0.eC a0.eL a0.stays a0.cases (sub r2 0 r2.length))
def Bg(a0:aG)(a1:aJ):Option Int:=
 (kI n a0 a1).bind λr1=>(bif (!r1)then some (1:Int)else(bif decide ((a0.claims.length:Int)>=300)then some (6:Int)else(fu n a0).bind λr2=>(bif (r2.2 !=0)then some r2.2 else((qj n a0 a1.day).bind λr3=>(bif (!r3)then some (!r3)else(bif decide ((a0.claims.length:Int)>0)then(bj a0.claims (i64.wrap ((a0.claims.length:Int) -1))).bind λx1=>some (decide (a1.day<(x1.day:Int)))else some false))).bind λv1=>(bif v1 then some (20:Int)else(rM n a0 a1.eh).bind λr4=>(bif (!r4)then some (24:Int)else some (0:Int))))))
def sJ(a0:aG)(a1:aJ):Option Bool:=
 (Kz n).bind λr1=>((Vx n a0).bind λr2=>(bif (!r2)then some true else(bif decide ((a1.attacks.length:Int)>14)then some true else(bif ((a0.claims.length:Int)==0)then some true else(Fy n a0.claims).bind λr3=>some (!r3))))).bind λv1=>(bif v1 then some r1 else(iG n a0).bind λr4=>(OX a0 a1).bind λr5=>(iG n r5).bind λr6=>(qw n r5).bind λr7=>((bif ((r4.1.length:Int) !=(a0.claims.length:Int))then some true else(bif ((r6.1.length:Int) !=((i64.wrap ((a0.claims.length:Int)+1)):Int))then some true else some ((r7.length:Int) !=((i64.wrap ((a0.claims.length:Int)+1)):Int))))).bind λv2=>(bif v2 then some false else(Bg n a0 a1).bind λr8=>(fu n a0).bind λr9=>((bif (a1.eh !=(a0.el:Int))then(Mx n (eH.mk a0.cj a0.aw a0.bp a0.aE a0.bk a0.br a0.cx a0.bu a0.c8 a0.cL a0.cR a0.cT a0.ec) (aO.mk a0.co a0.b8) a1.eh).bind λxz=>some (!xz)else some false)).bind λv3=>((bif (r9.2 !=0)then some true else(bif decide (a1.day<(a0.eC:Int))then some true else some (decide (a1.day>(r9.1:Int)))))).bind λv4=>((bif v4 then ck (cP (a0.claims.length:Int) r7.length)<|(bj r7 ((0:Nat)+(a0.claims.length:Int):Int)).bind λx1=>(bif x1 then some true else(bif (r8==0)then(bif v4 then some true else(bif v3 then some true else ck (cP (a0.claims.length:Int) r7.length)<|(bj r7 ((0:Nat)+(a0.claims.length:Int):Int)).bind λx2=>(iB n a0 a1).bind λsX=>(bif (!(x2==sX))then some true else(bif (r8==24)then some (!v3)else some false))))else(bif (r8==24)then some (!v3)else some false)))else(bif v3 then ck (cP (a0.claims.length:Int) r7.length)<|(bj r7 ((0:Nat)+(a0.claims.length:Int):Int)).bind λx3=>(bif x3 then some true else(bif (r8==0)then(bif v4 then some true else(bif v3 then some true else ck (cP (a0.claims.length:Int) r7.length)<|(bj r7 ((0:Nat)+(a0.claims.length:Int):Int)).bind λx4=>(iB n a0 a1).bind λCE=>(bif (!(x4==CE))then some true else(bif (r8==24)then some (!v3)else some false))))else(bif (r8==24)then some (!v3)else some false)))else(iB n a0 a1).bind λtA=>(bif (!tA)then ck (cP (a0.claims.length:Int) r7.length)<|(bj r7 ((0:Nat)+(a0.claims.length:Int):Int)).bind λx5=>(bif x5 then some true else(bif (r8==0)then(bif v4 then some true else(bif v3 then some true else ck (cP (a0.claims.length:Int) r7.length)<|(bj r7 ((0:Nat)+(a0.claims.length:Int):Int)).bind λx6=>(iB n a0 a1).bind λIM=>(bif (!(x6==IM))then some true else(bif (r8==24)then some (!v3)else some false))))else(bif (r8==24)then some (!v3)else some false)))else(bif (r8==0)then(bif v4 then some true else(bif v3 then some true else ck (cP (a0.claims.length:Int) r7.length)<|(bj r7 ((0:Nat)+(a0.claims.length:Int):Int)).bind λx7=>(iB n a0 a1).bind λtz=>(bif (!(x7==tz))then some true else(bif (r8==24)then some (!v3)else some false))))else(bif (r8==24)then some (!v3)else some false)))))).bind λv5=>(bif v5 then some false else ck (cP (a0.claims.length:Int) r7.length)<|(bj r7 ((0:Nat)+(a0.claims.length:Int):Int)).bind λx8=>(bif (!x8)then(bif r1 then ck (y9 0 (a0.claims.length:Int) r6.1.length)<|ck (az (sub r6.1 0 ((a0.claims.length:Int).toNat)).length ((a0.claims.length:Int).toNat))<|ck (az (sub r4.1 0 r4.1.length).length r4.1.length)<|(qW n (sub r6.1 0 ((a0.claims.length:Int).toNat)) (sub r4.1 0 r4.1.length)).bind λr16=>(bif r16 then ck (cP (a0.claims.length:Int) r6.1.length)<|(bj r6.1 ((0:Nat)+(a0.claims.length:Int):Int)).bind λx9=>(bif (x9==2)then some (r6.2==r4.2)else some false)else some false)else some false)else some r1))))
end
end Go.Proofs
