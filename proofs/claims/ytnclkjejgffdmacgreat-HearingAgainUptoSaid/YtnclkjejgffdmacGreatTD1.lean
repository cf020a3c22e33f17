import Derived.Test.YtnclkjejgffdmacGreatTBase
open Go.IntKind (i64)
namespace Go.Proofs
open Go.Gb Go.RowKit
noncomputable section
variable (n:Nat)
def ug(a0 a1:Int):J aC:=
 ck (aE (sub ([bg.mk (⟨#[100,97,121,115]⟩) 5]:Y bg) 0 1).length 1)<|ck (aE (sub ([ax.mk 0 0 9 9]:Y ax) 0 1).length 1)<|ck (aE (sub ([ax.mk 9 0 12 9]:Y ax) 0 1).length 1)<|ck (aE (sub ([aG.mk 2 2 4 4 0 9 2 0 false]:Y aG) 0 1).length 1)<|ck (aE (sub ([0]:Y Int) 0 1).length 1)<|ck (aE (sub ([bQ.mk (⟨#[110,111,116,105,99,101]⟩) (sub ([bg.mk (⟨#[100,97,121,115]⟩) 5]:Y bg) 0 1) 0]:Y bQ) 0 1).length 1)<|ck (aE (sub ([fM.mk 1 7 (sub ([ax.mk 0 0 9 9]:Y ax) 0 1) ([]),fM.mk 2 8 (sub ([ax.mk 9 0 12 9]:Y ax) 0 1) ([])]:Y fM) 0 2).length 2)<|ck (aE (sub ([lI.mk (sub ([aG.mk 2 2 4 4 0 9 2 0 false]:Y aG) 0 1) ([])]:Y lI) 0 1).length 1)<|ck (aE (sub ([aK.mk 7 10 ([]) 0 (⟨#[]⟩) 0,aK.mk 8 a1 (sub ([0]:Y Int) 0 1) 1 (⟨#[104,101,105,103,104,116]⟩) a0]:Y aK) 0 2).length 2)<|some (aC.mk ([]) (sub ([bQ.mk (⟨#[110,111,116,105,99,101]⟩) (sub ([bg.mk (⟨#[100,97,121,115]⟩) 5]:Y bg) 0 1) 0]:Y bQ) 0 1) ([]) ([]) ([]) ([]) ([]) 0 (sub ([fM.mk 1 7 (sub ([ax.mk 0 0 9 9]:Y ax) 0 1) ([]),fM.mk 2 8 (sub ([ax.mk 9 0 12 9]:Y ax) 0 1) ([])]:Y fM) 0 2) ([]) ([]) ([]) ([]) 1 (sub ([lI.mk (sub ([aG.mk 2 2 4 4 0 9 2 0 false]:Y aG) 0 1) ([])]:Y lI) 0 1) 0 7 10 ([]) ([]) ([]) (sub ([aK.mk 7 10 ([]) 0 (⟨#[]⟩) 0,aK.mk 8 a1 (sub ([0]:Y Int) 0 1) 1 (⟨#[104,101,105,103,104,116]⟩) a0]:Y aK) 0 2))
def GQ(a0:Y bQ)(a1:(bQ×Unit)->J Bool):Stp Int (Unit⊕Int)
 |v1=>bif decide (v1<a0.length)then(bx a0 v1).bind λx1=>(a1 (x1,())).bind λr1=>(bif r1 then(some v1).map λa=>.inr (.inr a)else some (.inl (i64.wrap (v1+1))))else some (.inr (.inl ()))
def oK(a0:Y bQ)(a1:(bQ×Unit)->J Bool):J Int:=
 dO (iter (GQ a0 a1) n 0) λ()=>some (-1)
def aci(a0:bQ):J Bool:=
 some (ByteArray.toList a0.name==ByteArray.toList (⟨#[110,111,116,105,99,101]⟩))
def acj(a0:bg)(a1:ByteArray):J Bool:=
 some (ByteArray.toList a0.name==ByteArray.toList a1)
def GR(a0:Y bg)(a1:(bg×Unit)->J Bool):Stp Int (Unit⊕Int)
 |v1=>bif decide (v1<a0.length)then(bx a0 v1).bind λx1=>(a1 (x1,())).bind λr1=>(bif r1 then(some v1).map λa=>.inr (.inr a)else some (.inl (i64.wrap (v1+1))))else some (.inr (.inl ()))
def jd(a0:Y bg)(a1:(bg×Unit)->J Bool):J Int:=
 dO (iter (GR a0 a1) n 0) λ()=>some (-1)
def Rj(a0:bO)(a1:ByteArray):J Int:=
 (oK n a0.tables (λ (y1:bQ×Unit)=>aci y1.1)).bind λr1=>(bif decide (r1<0)then some (0:Int)else(bx a0.tables r1).bind λx1=>(jd n x1.rows (λ (y2:bg×Unit)=>acj y2.1 a1)).bind λr2=>(bif decide (r2<0)then some x1.sk else(bx x1.rows r2).bind λx2=>some x2.n))
def Fx(a0:bO):J Int:=
 (Rj n a0 (⟨#[100,97,121,115]⟩)).bind λr1=>some (max (0:Int) r1)
def sF(a0:Y bM):J (List bM):=
 bif a0.isEmpty then(both (some ([]:(List bM))) (ck (bF ([]:Y bM).length 0 a0.length a0.length 16)<|gU (([]:Y bM)++a0) λr1=>ck (aE (sub r1 0 r1.length).length r1.length)<|some (sub r1 0 r1.length)))else ck (bF ([]:Y bM).length 0 a0.length a0.length 16)<|gU (([]:Y bM)++a0) λr2=>ck (aE (sub r2 0 r2.length).length r2.length)<|some (sub r2 0 r2.length)
def wK(_:Nat)(a0:Y bM)(a1:(bM×bM×Unit)->J Int):J (List bM):=OT a0 a1
def nX(a0 a1:bM):J Int:=
 some (i64.wrap (a0.from_-a1.from_))
def qY(a0:Y bM):Stp Int (Unit⊕((List bM)×Bool))
 |v1=>bif decide (v1<(a0.length:Int))then(bx a0 v1).bind λx1=>((bif decide (x1.from_<0)then some true else bif decide (x1.from_>(x1.to:Int))then some true else some (decide (x1.to>1073741824)))).bind λv2=>(bif v2 then(some (([]:(List bM)),false)).map λa=>.inr (.inr a)else some (.inl (i64.wrap (v1+1))))else some (.inr (.inl ()))
def qZ(r1 r2:Y bM):Stp (Int×(List bM)) (List bM)
 |(v3,v4)=>bif decide (v3<(r1.length:Int))then(ck (cV v3 r1.length)<|(bx r2 ((0:Nat)+v3:Int)).bind λx2=>((bif decide ((i64.wrap ((v4.length:Int)-1))>=0)then ck (cV (i64.wrap ((v4.length:Int)-1)) v4.length)<|(bx v4 ((0:Nat)+(i64.wrap ((v4.length:Int)-1)):Int)).bind λx3=>some (decide (x2.from_<=(x3.to:Int)))else some false)).bind λv5=>(bif v5 then ck (cV (i64.wrap ((v4.length:Int)-1)) v4.length)<|(bx v4 ((0:Nat)+(i64.wrap ((v4.length:Int)-1)):Int)).bind λx4=>ck (cV (i64.wrap ((v4.length:Int)-1)) v4.length)<|(bx v4 ((0:Nat)+(i64.wrap ((v4.length:Int)-1)):Int)).bind λx5=>ck (aE v4.length (v4.set ((0:Nat)+(i64.wrap ((v4.length:Int)-1)):Int).toNat (bM.mk x5.from_ (max x4.to x2.to))).length)<|some (v4.set ((0:Nat)+(i64.wrap ((v4.length:Int)-1)):Int).toNat (bM.mk x5.from_ (max x4.to x2.to)))else ck (bF v4.length v4.length (sub ([x2]:Y bM) 0 1).length 1 16)<|gU (v4++(sub ([x2]:Y bM) 0 1)) λr3=>ck (aE r3.length r3.length)<|some r3):J ((List bM))).bind λv6=>ck (aE v6.length v6.length)<|some (.inl (i64.wrap (v3+1),v6))else ck (aE v4.length v4.length)<|some (.inr v4)
def xh(a0:Y bM):J ((List bM)×Bool):=
 bif decide ((a0.length:Int)>100)then some (([]:(List bM)),false)else(sF a0).bind λr1=>ck (aE r1.length r1.length)<|(wK n r1 (λ (y1:bM×bM×Unit)=>nX y1.1 y1.2.1)).bind λr2=>dO (iter (qY a0) n (0:Int)) λ()=>ck (aE 0 ([]:Y bM).length)<|(iter (qZ r1 r2) n ((0:Int),([]:Y bM))).bind λw1=>ck (aE (sub w1 0 w1.length).length w1.length)<|some (sub w1 0 w1.length,true)
def nY(a0:Int):J Bool:=
 bif decide (0<=(a0:Int))then some (decide (a0<=1073741824))else some false
def l7(a0:Y Int):Stp Int (Unit⊕Bool)
 |v1=>bif decide (v1<(a0.length:Int))then(bx a0 v1).bind λx1=>((nY x1).bind λr1=>(bif (!r1)then some true else bif decide (v1>0)then(bx a0 (i64.wrap (v1-1))).bind λx2=>some (decide (x1<=(x2:Int)))else some false)).bind λv2=>(bif v2 then(some false).map λa=>.inr (.inr a)else some (.inl (i64.wrap (v1+1))))else some (.inr (.inl ()))
def uO(a0:Y Int):J Bool:=
 bif decide ((a0.length:Int)>1000)then some false else dO (iter (l7 a0) n (0:Int)) λ()=>some true
def q8(a0:Y Int)(a1:Int):Stp (Int×Int) Int
 |(v1,v2)=>bif decide (v2<(a0.length:Int))then((bx a0 v2).bind λx1=>((bif decide (x1<(a1:Int))then ck (7 !=0)<|some (decide ((Int.tmod x1 7)<5))else some false)).bind λv3=>(bif v3 then some (i64.wrap (v1-1))else some v1):J Int).bind λv4=>some (.inl (v4,i64.wrap (v2+1)))else some (.inr v1)
def kH(a0:Y Int)(a1:Int):J Int:=
 ck (7 !=0)<|ck (7 !=0)<|(iter (q8 a0 a1) n (i64.wrap ((i64.wrap ((i64.wrap (Int.tdiv a1 7))*5))+(min (Int.tmod a1 7) (5:Int))),(0:Int))).bind λw1=>some w1
def ql(a0:Y Int)(a1:Y bM)(a2 a3:Int):Stp (Int×Int) Int
 |(v1,v2)=>bif decide (v2<(a1.length:Int))then((bx a1 v2).bind λx1=>(bif decide ((max x1.from_ (i64.wrap (a2+1)))<=((min x1.to a3):Int))then(kH n a0 (i64.wrap ((min x1.to a3)+1))).bind λr3=>(kH n a0 (max x1.from_ (i64.wrap (a2+1)))).bind λr4=>some (i64.wrap (v1-(i64.wrap (r3-r4))))else some v1):J Int).bind λv3=>some (.inl (v3,i64.wrap (v2+1)))else some (.inr v1)
def uP(a0:Y Int)(a1:Y bM)(a2 a3:Int):J Int:=
 (kH n a0 (i64.wrap (a3+1))).bind λr1=>(kH n a0 (i64.wrap (a2+1))).bind λr2=>(iter (ql n a0 a1 a2 a3) n (i64.wrap (r1-r2),(0:Int))).bind λw1=>some w1
def jk(a0:Int)(a1:Y Int)(a2:Y bM)(a3 a4:Int):J Bool:=
 (uP n a1 a2 a3 (i64.wrap ((i64.wrap (a3+1))+a0))).bind λr1=>some (decide (r1>=(a4:Int)))
def jl(a1:(Int×Unit)->J Bool):Stp (Int×Int) Int
 |(v1,v2)=>bif decide (v1<(v2:Int))then ck (decide (0<=1)&&decide (1<=IntKind.u64.bits))<|(a1 (i64.wrap ((IntKind.u64.wrap (i64.wrap (v1+v2)))/2 ^ (1:Int).toNat),())).bind λr1=>(bif (!r1)then some (.inl (i64.wrap ((i64.wrap ((IntKind.u64.wrap (i64.wrap (v1+v2)))/2 ^ (1:Int).toNat))+1),v2))else some (.inl (v1,i64.wrap ((IntKind.u64.wrap (i64.wrap (v1+v2)))/2 ^ (1:Int).toNat))))else some (.inr v1)
def sort_Search(a0:Int)(a1:(Int×Unit)->J Bool):J Int:=
 (iter (jl a1) n ((0:Int),a0)).bind λw1=>some w1
def eY(a0:Y Int)(a1:Y bM)(a2 a3:Int):J (Int×Int):=
 (xh n a1).bind λr1=>ck (aE (sub r1.1 0 r1.1.length).length r1.1.length)<|((bif (!r1.2)then some true else(uO n a0).bind λr2=>(bif (!r2)then some true else(nY a2).bind λr3=>(bif (!r3)then some true else(nY a3).bind λr4=>some (!r4))))).bind λv1=>(bif v1 then some ((0:Int),(1:Int))else bif (a3==0)then some (a2,(0:Int))else(sort_Search n (i64.wrap (1073741824-a2)) (λ (y1:Int×Unit)=>jk n y1.1 a0 (sub r1.1 0 r1.1.length) a2 a3)).bind λr5=>(bif (r5==((i64.wrap (1073741824-a2)):Int))then some ((0:Int),(20:Int))else some (i64.wrap ((i64.wrap (a2+1))+r5),(0:Int))))
def dS(a0:aC):J (Int×Int):=
 (Fx n (bO.mk a0.bp a0.aq a0.bj a0.aw a0.be a0.bk a0.b7 a0.bm)).bind λr1=>(eY n a0.c7 a0.stays a0.eo r1).bind λr2=>some (r2.1,r2.2)
def fQ(a0:aC):J Bool:=
 bif decide (1<=(a0.claims.length:Int))then some (decide ((a0.claims.length:Int)<=300))else some false
def uQ(a0:aC)(a1:Int):J Bool:=
 (dS n a0).bind λr1=>(bif (r1.2==0)then(bif decide (a0.eo<=(a1:Int))then some (decide (a1<=(r1.1:Int)))else some false)else some false)
def Cj(a0:Y ax):J (List ax):=
 bif a0.isEmpty then(both (some []) (ck (bF ([]:Y ax).length 0 a0.length a0.length 32)<|gU ([]++a0) λr1=>ck (aE (sub r1 0 r1.length).length r1.length)<|some (sub r1 0 r1.length)))else ck (bF ([]:Y ax).length 0 a0.length a0.length 32)<|gU ([]++a0) λr2=>ck (aE (sub r2 0 r2.length).length r2.length)<|some (sub r2 0 r2.length)
def q9(a0:Y Int):J (List Int):=
 bif a0.isEmpty then(both (some []) (ck (bF ([]:Y Int).length 0 a0.length a0.length 8)<|gU ([]++a0) λr1=>ck (aE (sub r1 0 r1.length).length r1.length)<|some (sub r1 0 r1.length)))else ck (bF ([]:Y Int).length 0 a0.length a0.length 8)<|gU ([]++a0) λr2=>ck (aE (sub r2 0 r2.length).length r2.length)<|some (sub r2 0 r2.length)
def DZ(a0:fM):J fM:=
 (Cj a0.area).bind λr1=>(q9 a0.from_).bind λr2=>ck (aE (sub r1 0 r1.length).length r1.length)<|ck (aE (sub r2 0 r2.length).length r2.length)<|some (fM.mk a0.id a0.owner (sub r1 0 r1.length) (sub r2 0 r2.length))
def tL(a0:Y fM)(a1:Int):Stp Int (Unit⊕(fM×Bool))
 |v1=>bif decide (v1<a0.length)then(bx a0 v1).bind λx1=>(bif (x1.id==a1)then(DZ x1).bind λr1=>(some (r1,true)).map λa=>.inr (.inr a)else some (.inl (i64.wrap (v1+1))))else some (.inr (.inl ()))
def rf(a0:Y fM)(a1:Int):J (fM×Bool):=
 dO (iter (tL a0 a1) n 0) λ()=>some (fM.mk 0 0 ([]) ([]),false)
def qJ(a0:bO)(x1:lI):Stp (Int×Int) Int
 |(v3,v4)=>bif decide (v4<(x1.b9.length:Int))then((bx x1.b9 v4).bind λx2=>((bif decide (x2.use>=0)then some (decide (x2.use<6))else some false)).bind λv5=>(bif v5 then ck (cV x2.use 6)<|(bx ([⟨#[104,111,109,101]⟩,⟨#[115,104,111,112]⟩,⟨#[119,111,114,107]⟩,⟨#[112,97,114,107]⟩,⟨#[112,108,97,110,116]⟩,⟨#[104,97,108,108]⟩]:Y ByteArray) x2.use).bind λx3=>(Rj n a0 x3).bind λr1=>some (max v3 r1)else some v3):J Int).bind λv6=>some (.inl (v6,i64.wrap (v4+1)))else some (.inr v3)
def uR(a0:bO)(a1:aQ):Stp (Int×Int) Int
 |(v1,v2)=>bif decide (v2<(a1.phases.length:Int))then(bx a1.phases v2).bind λx1=>(iter (qJ n a0 x1) n (v1,(0:Int))).bind λw1=>some (.inl (w1,i64.wrap (v2+1)))else some (.inr v1)
def xR(a0:bO)(a1:aQ):J Int:=
 (iter (uR n a0 a1) n ((0:Int),(0:Int))).bind λw2=>some w2
def qm(a0:ax):J Bool:=
 bif decide (0<=a0.x0)then(bif decide (a0.x0<a0.x1)then(bif decide (a0.x1<=1048576)then(bif decide (0<=a0.y0)then(bif decide (a0.y0<a0.y1)then some (decide (a0.y1<=1048576))else some false)else some false)else some false)else some false)else some false
def OX(a0:Unit)(a1:Int):J (List ax):=
 bif decide (a1<0)then none else bif (decide ((i64.wrap (a1-(i64.wrap (0-0))))>0))then ck (qg (i64.wrap (a1-(i64.wrap (0-0)))) 32)<|ck (Cc 0 0 ((i64.wrap (a1-(i64.wrap (0-0)))).toNat))<|ck (aE (sub (List.replicate (i64.wrap (a1-(i64.wrap (0-0)))).toNat (ax.mk 0 0 0 0)) 0 0).length 0)<|some (sub (List.replicate (i64.wrap (a1-(i64.wrap (0-0)))).toNat (ax.mk 0 0 0 0)) 0 0)else some []
def OY(a0:Y (List ax)):Stp (Int×Int) Int
 |(v1,v2)=>bif decide (v2<a0.length)then(bx a0 v2).bind λx1=>(bif decide ((i64.wrap (v1+x1.length))<0)then none else some (.inl (i64.wrap (v1+x1.length),i64.wrap (v2+1))))else some (.inr v1)
def OZ(a0:Y (List ax)):Stp (Int×(List ax)) (List ax)
 |(v3,v4)=>bif decide (v3<a0.length)then(bx a0 v3).bind λx2=>ck (bF v4.length v4.length x2.length x2.length 32)<|gU (v4++x2) λr2=>ck (aE r2.length r2.length)<|some (.inl (i64.wrap (v3+1),r2))else ck (aE v4.length v4.length)<|some (.inr v4)
def zP(a0:Y (List ax)):J (List ax):=
 (iter (OY a0) n (0,0)).bind λw1=>(OX () w1).bind λr1=>ck (aE r1.length r1.length)<|(iter (OZ a0) n (0,r1)).bind λw2=>ck (aE (sub w2 0 w2.length).length w2.length)<|some (sub w2 0 w2.length)
def l8(_:Nat)(a0:Y Int):J (List Int):=P1 a0
def O1(a0:Y Int)(v1:Int):Stp (Int×Int×(List Int)) (Int×(List Int))
 |(v2,v3,v4)=>bif decide (v3<((a0.length-v1.toNat):Nat))then(ck (cV v3 (a0.length-v1.toNat))<|(bx v4 (((0+v1.toNat):Nat)+v3:Int)).bind λx3=>ck (cV (i64.wrap (v3-1)) (a0.length-v1.toNat))<|(bx v4 (((0+v1.toNat):Nat)+(i64.wrap (v3-1)):Int)).bind λx4=>(bif (x3 !=x4)then ck (cV v3 (a0.length-v1.toNat))<|(bx v4 (((0+v1.toNat):Nat)+v3:Int)).bind λx5=>ck (cV v2 a0.length)<|(bx v4 ((0:Nat)+v2:Int)).bind λx6=>some (i64.wrap (v2+1),v4.set ((0:Nat)+v2:Int).toNat x5)else some (v2,v4)):J (Int×(List Int))).bind λ(v5,v6)=>some (.inl (v5,i64.wrap (v3+1),v6))else some (.inr (v2,v4))
def O3(a0:Y Int):Stp Int (Unit⊕(Unit×(List Int)))
 |v1=>bif decide (v1<(a0.length:Nat))then ck (cV v1 a0.length)<|(bx a0 ((0:Nat)+v1:Int)).bind λx1=>ck (cV (i64.wrap (v1-1)) a0.length)<|(bx a0 ((0:Nat)+(i64.wrap (v1-1)):Int)).bind λx2=>(bif (x1==x2)then ck (Cc v1 (a0.length:Nat) a0.length)<|(iter (O1 a0 v1) n (v1,1,a0)).bind λ(w1,w2)=>ck (Cc w1 (a0.length:Nat) a0.length)<|ck (Cc 0 w1 a0.length)<|(ck (aE (w1.toNat) (w1.toNat))<|ck (aE (sub (w2.take (0+w1.toNat)) 0 (w1.toNat)).length (w1.toNat))<|some ((),sub (w2.take (0+w1.toNat)) 0 (w1.toNat))).map λa=>.inr (.inr a)else some (.inl (i64.wrap (v1+1))))else some (.inr (.inl ()))
def kP(a0:Y Int):J (Unit×(List Int)):=
 bif decide ((a0.length:Int)<2)then ck (aE a0.length a0.length)<|ck (aE (sub a0 0 a0.length).length a0.length)<|some ((),sub a0 0 a0.length)else dO (iter (O3 n a0) n 1) λ()=>ck (aE a0.length a0.length)<|ck (aE (sub a0 0 a0.length).length a0.length)<|some ((),sub a0 0 a0.length)
def wL(_:Nat)(a0:Y aR)(a1:(aR×aR×Unit)->J Int):J (List aR):=OT a0 a1
def cmp_isNaN_int(a0:Int):J Bool:=
 some (a0 !=a0)
def cmp_Compare_int(a0 a1:Int):J Int:=
 (cmp_isNaN_int a0).bind λr1=>(cmp_isNaN_int a1).bind λr2=>(bif r1 then(bif r2 then some 0 else some (-1))else bif r2 then some 1 else bif decide (a0<a1)then some (-1)else bif decide (a0>a1)then some 1 else some 0)
def yS(a0 a1:aR):J Int:=
 (cmp_Compare_int a0.from_ a1.from_).bind λr1=>some r1
def uS(a0:Y ax)(a1:Int):Stp (Int×(List aR)) (List aR)
 |(v1,v2)=>bif decide (v1<a0.length)then((bx a0 v1).bind λx1=>((bif decide (x1.x0<=a1)then some (decide (a1<x1.x1))else some false)).bind λv3=>(bif v3 then ck (bF v2.length v2.length (sub ([aR.mk x1.y0 x1.y1]:Y aR) 0 1).length 1 16)<|gU (v2++(sub ([aR.mk x1.y0 x1.y1]:Y aR) 0 1)) λr1=>ck (aE r1.length r1.length)<|some r1 else ck (aE v2.length v2.length)<|some v2):J ((List aR))).bind λv4=>ck (aE v4.length v4.length)<|some (.inl (i64.wrap (v1+1),v4))else ck (aE v2.length v2.length)<|some (.inr v2)
def uT(w1 r2:Y aR):Stp (Int×(List aR)) (List aR)
 |(v5,v6)=>bif decide (v5<(w1.length:Nat))then(ck (cV v5 w1.length)<|(bx r2 ((0:Nat)+v5:Int)).bind λx2=>((bif decide ((v6.length:Int)>0)then ck (cV (i64.wrap ((v6.length:Nat)-1)) v6.length)<|(bx v6 ((0:Nat)+(i64.wrap ((v6.length:Nat)-1)):Int)).bind λx3=>some (decide (x2.from_<=x3.to))else some false)).bind λv7=>(bif v7 then ck (cV (i64.wrap ((v6.length:Nat)-1)) v6.length)<|(bx v6 ((0:Nat)+(i64.wrap ((v6.length:Nat)-1)):Int)).bind λx4=>ck (cV (i64.wrap ((v6.length:Nat)-1)) v6.length)<|(bx v6 ((0:Nat)+(i64.wrap ((v6.length:Nat)-1)):Int)).bind λx5=>ck (aE v6.length (v6.set ((0:Nat)+(i64.wrap ((v6.length:Nat)-1)):Int).toNat (aR.mk x5.from_ (max x4.to x2.to))).length)<|some (v6.set ((0:Nat)+(i64.wrap ((v6.length:Nat)-1)):Int).toNat (aR.mk x5.from_ (max x4.to x2.to)))else ck (bF v6.length v6.length (sub ([x2]:Y aR) 0 1).length 1 16)<|gU (v6++(sub ([x2]:Y aR) 0 1)) λr3=>ck (aE r3.length r3.length)<|some r3):J ((List aR))).bind λv8=>ck (aE v8.length v8.length)<|some (.inl (i64.wrap (v5+1),v8))else ck (aE v6.length v6.length)<|some (.inr v6)
def KG(a0:Y ax)(a1:Int):J (List aR):=
 ck (aE 0 ([]:Y aR).length)<|(iter (uS a0 a1) n (0,[])).bind λw1=>ck (aE w1.length w1.length)<|(wL n w1 (λ (y1:aR×aR×Unit)=>yS y1.1 y1.2.1)).bind λr2=>ck (aE 0 ([]:Y aR).length)<|(iter (uT w1 r2) n (0,[])).bind λw2=>ck (aE (sub w2 0 w2.length).length w2.length)<|some (sub w2 0 w2.length)
def uU(r1:Y ax):Stp (Int×(List Int)) (List Int)
 |(v1,v2)=>bif decide (v1<(r1.length:Nat))then ck (cV v1 r1.length)<|(bx r1 ((0:Nat)+v1:Int)).bind λx1=>ck (bF v2.length v2.length (sub ([x1.x0,x1.x1]:Y Int) 0 2).length 2 8)<|gU (v2++(sub ([x1.x0,x1.x1]:Y Int) 0 2)) λr2=>ck (aE r2.length r2.length)<|some (.inl (i64.wrap (v1+1),r2))else ck (aE v2.length v2.length)<|some (.inr v2)
def uV(r1:Y ax)(r4:Unit×(List Int)):Stp (Int×(List bR)) (List bR)
 |(v3,v4)=>bif decide (v3<(r4.2.length:Nat))then ck (cV (i64.wrap (v3-1)) r4.2.length)<|(bx r4.2 ((0:Nat)+(i64.wrap (v3-1)):Int)).bind λx2=>ck (cV v3 r4.2.length)<|(bx r4.2 ((0:Nat)+v3:Int)).bind λx3=>ck (cV (i64.wrap (v3-1)) r4.2.length)<|(bx r4.2 ((0:Nat)+(i64.wrap (v3-1)):Int)).bind λx4=>ck (aE (sub r1 0 r1.length).length r1.length)<|(KG n (sub r1 0 r1.length) x4).bind λr5=>ck (aE (sub r5 0 r5.length).length r5.length)<|ck (bF v4.length v4.length (sub ([bR.mk x2 x3 (sub r5 0 r5.length)]:Y bR) 0 1).length 1 40)<|gU (v4++(sub ([bR.mk x2 x3 (sub r5 0 r5.length)]:Y bR) 0 1)) λr6=>ck (aE r6.length r6.length)<|some (.inl (i64.wrap (v3+1),r6))else ck (aE v4.length v4.length)<|some (.inr v4)
def pY(a0:Y (List ax)):J (List bR):=
 (zP n a0).bind λr1=>ck (aE 0 ([]:Y Int).length)<|(iter (uU r1) n (0,[])).bind λw1=>ck (aE w1.length w1.length)<|(l8 n w1).bind λr3=>ck (aE w1.length r3.length)<|(kP n r3).bind λr4=>ck (aE 0 ([]:Y bR).length)<|(iter (uV n r1 r4) n (1,[])).bind λw2=>ck (aE (sub w2 0 w2.length).length w2.length)<|some (sub w2 0 w2.length)
def Rk(a0 a1:Y aR):Stp Int (Unit⊕Bool)
 |v1=>bif decide (v1<a0.length)then(bx a0 v1).bind λx1=>(bx a1 v1).bind λx2=>(bif (!((x1.from_==x2.from_)&&((x1.to==x2.to)&&true)))then(some false).map λa=>.inr (.inr a)else some (.inl (i64.wrap (v1+1))))else some (.inr (.inl ()))
def xk(a0 a1:Y aR):J Bool:=
 bif (a0.length !=(a1.length:Int))then some false else dO (iter (Rk a0 a1) n 0) λ()=>some true
def uh(a0:Y bR)(v1:Int):Stp Int Int
 |v3=>((bif decide (v3<a0.length)then(bx a0 v3).bind λx1=>(bx a0 v1).bind λx2=>(xk n x1.column x2.column).bind λr1=>some r1 else some false)).bind λv4=>bif v4 then some (.inl (i64.wrap (v3+1)))else some (.inr v3)
def xS(a0:Y bR)(v1 w1:Int)(x3:bR):Stp (Int×(List ax)) (List ax)
 |(v5,v6)=>bif decide (v5<x3.column.length)then(bx x3.column v5).bind λx4=>(bx a0 v1).bind λx5=>(bx a0 (i64.wrap (w1-1))).bind λx6=>ck (bF v6.length v6.length (sub ([ax.mk x5.x0 x4.from_ x6.x1 x4.to]:Y ax) 0 1).length 1 32)<|gU (v6++(sub ([ax.mk x5.x0 x4.from_ x6.x1 x4.to]:Y ax) 0 1)) λr2=>ck (aE r2.length r2.length)<|some (.inl (i64.wrap (v5+1),r2))else ck (aE v6.length v6.length)<|some (.inr v6)
def xU(a0:Y bR):Stp (Int×(List ax)) (List ax)
 |(v1,v2)=>bif decide (v1<a0.length)then(iter (uh n a0 v1) n (i64.wrap (v1+1))).bind λw1=>(bx a0 v1).bind λx3=>ck (aE v2.length v2.length)<|(iter (xS a0 v1 w1 x3) n (0,v2)).bind λw2=>ck (aE w2.length w2.length)<|some (.inl (w1,w2))else ck (aE v2.length v2.length)<|some (.inr v2)
def Jp(a0:Y bR):J (List ax):=
 ck (aE 0 ([]:Y ax).length)<|(iter (xU n a0) n (0,[])).bind λw3=>ck (aE (sub w3 0 w3.length).length w3.length)<|some (sub w3 0 w3.length)
def zQ(a0:Y ax):J ((List ax)×Int):=
 bif decide ((a0.length:Int)>200)then some ([],6)else some (a0,0)
def O4(a0:Y ax):Stp Int (Unit⊕((List ax)×Int))
 |v1=>bif decide (v1<a0.length)then(bx a0 v1).bind λx1=>(qm x1).bind λr1=>(bif (!r1)then(some ([],1)).map λa=>.inr (.inr a)else some (.inl (i64.wrap (v1+1))))else some (.inr (.inl ()))
def Tu(a0:Y ax):J ((List ax)×Int):=
 dO (iter (O4 a0) n 0) λ()=>(bif decide ((a0.length:Int)>400)then some ([],6)else ck (aE (sub ([a0]:Y (List ax)) 0 1).length 1)<|(pY n (sub ([a0]:Y (List ax)) 0 1)).bind λr2=>ck (aE (sub r2 0 r2.length).length r2.length)<|(Jp n (sub r2 0 r2.length)).bind λr3=>ck (aE (sub r3 0 r3.length).length r3.length)<|(zQ (sub r3 0 r3.length)).bind λr4=>some (r4.1,r4.2))
def Rl(a0 a1:Y ax):Stp Int (Unit⊕Bool)
 |v1=>bif decide (v1<a0.length)then(bx a0 v1).bind λx1=>(bx a1 v1).bind λx2=>(bif (!((x1.x0==x2.x0)&&((x1.y0==x2.y0)&&((x1.x1==x2.x1)&&((x1.y1==x2.y1)&&true)))))then(some false).map λa=>.inr (.inr a)else some (.inl (i64.wrap (v1+1))))else some (.inr (.inl ()))
def p8(a0 a1:Y ax):J Bool:=
 bif (a0.length !=(a1.length:Int))then some false else dO (iter (Rl a0 a1) n 0) λ()=>some true
def l9(a0:Y ax):J Bool:=
 (Tu n a0).bind λr1=>(bif (r1.2==0)then(p8 n r1.1 a0).bind λr2=>some r2 else some false)
def anQ(a0 a1:ax):J (Int×Int):=
 some (i64.wrap ((max a0.x0 a1.x0)-(min a0.x1 a1.x1)),i64.wrap ((max a0.y0 a1.y0)-(min a0.y1 a1.y1)))
def P0(a0 a1:ax):J Int:=
 ((qm a0).bind λr1=>(bif (!r1)then some true else(qm a1).bind λr2=>some (!r2))).bind λv1=>(bif v1 then some (-1)else(anQ a0 a1).bind λr3=>some (max (max 0 r3.1) r3.2))
def D5(a1:Y ax)(x1:ax):Stp (Int×Int) Int
 |(v4,v5)=>bif decide (v5<(a1.length:Int))then(bx a1 v5).bind λx2=>(P0 x1 x2).bind λr3=>some (.inl (min v4 r3,i64.wrap (v5+1)))else some (.inr v4)
def D6(a0 a1:Y ax):Stp (Int×Int) Int
 |(v2,v3)=>bif decide (v3<(a0.length:Int))then(bx a0 v3).bind λx1=>(iter (D5 a1 x1) n (v2,(0:Int))).bind λw1=>some (.inl (w1,i64.wrap (v3+1)))else some (.inr v2)
def Yl(a0 a1:Y ax):J (Int×Bool):=
 ((bif ((a0.length:Int)==0)then some true else bif ((a1.length:Int)==0)then some true else(l9 n a0).bind λr1=>(bif (!r1)then some true else(l9 n a1).bind λr2=>some (!r2)))).bind λv1=>(bif v1 then some ((0:Int),false)else(iter (D6 n a0 a1) n ((1048576:Int),(0:Int))).bind λw2=>some (w2,true))
def zR(a0:Y fM):Stp (Int×(List (List ax))) (List (List ax))
 |(v1,v2)=>bif decide (v1<(a0.length:Int))then(bx a0 v1).bind λx1=>ck (bF v2.length v2.length (sub ([x1.area]:Y (List ax)) 0 1).length 1 24)<|gU (v2++(sub ([x1.area]:Y (List ax)) 0 1)) λr2=>ck (aE r2.length r2.length)<|some (.inl (i64.wrap (v1+1),r2))else ck (aE v2.length v2.length)<|some (.inr v2)
def zS(a0:Y fM)(a1 a2:Int)(r1:fM×Bool)(w1:Y (List ax)):Stp (Int×(List Int)) (List Int)
 |(v3,v4)=>bif decide (v3<(w1.length:Int))then(ck (cV v3 w1.length)<|(bx w1 ((0:Nat)+v3:Int)).bind λx2=>(Yl n r1.1.area x2).bind λr3=>((bif r3.2 then(bif decide (r3.1<=(a2:Int))then(bx a0 v3).bind λx3=>some (x3.id !=(a1:Int))else some false)else some false)).bind λv5=>(bif v5 then(bx a0 v3).bind λx4=>ck (bF v4.length v4.length (sub ([x4.id]:Y Int) 0 1).length 1 8)<|gU (v4++(sub ([x4.id]:Y Int) 0 1)) λr4=>ck (aE r4.length r4.length)<|some r4 else ck (aE v4.length v4.length)<|some v4):J ((List Int))).bind λv6=>ck (aE v6.length v6.length)<|some (.inl (i64.wrap (v3+1),v6))else ck (aE v4.length v4.length)<|some (.inr v4)
def O5(a0:Y fM)(a1 a2:Int):J (List Int):=
 (rf n a0 a1).bind λr1=>(bif (!r1.2)then some ([]:(List Int))else ck (aE 0 ([]:Y (List ax)).length)<|(iter (zR a0) n ((0:Int),([]:Y (List ax)))).bind λw1=>ck (aE 0 ([]:Y Int).length)<|(iter (zS n a0 a1 a2 r1 w1) n ((0:Int),([]:Y Int))).bind λw2=>ck (aE w2.length w2.length)<|(l8 n w2).bind λr5=>ck (aE w2.length r5.length)<|(kP n r5).bind λr6=>ck (aE (sub r6.2 0 r6.2.length).length r6.2.length)<|some (sub r6.2 0 r6.2.length))
def VW(a0:fq)(a1:aQ):J (List Int):=
 (xR n (bO.mk a0.cL a0.cw a0.cz a0.az a0.cT a0.cW a0.d6 a0.cX) a1).bind λr1=>(O5 n a0.land a1.lot r1).bind λr2=>ck (aE (sub r2 0 r2.length).length r2.length)<|some (sub r2 0 r2.length)
def uW(a0:fq)(r1:Y Int):Stp (Int×(List Int)) (List Int)
 |(v1,v2)=>bif decide (v1<(r1.length:Int))then ck (cV v1 r1.length)<|(bx r1 ((0:Nat)+v1:Int)).bind λx1=>(rf n a0.land x1).bind λr2=>ck (bF v2.length v2.length (sub ([r2.1.owner]:Y Int) 0 1).length 1 8)<|gU (v2++(sub ([r2.1.owner]:Y Int) 0 1)) λr3=>ck (aE r3.length r3.length)<|some (.inl (i64.wrap (v1+1),r3))else ck (aE v2.length v2.length)<|some (.inr v2)
def KH(a0:fq)(a1:aQ):J (List Int):=
 (VW n a0 a1).bind λr1=>ck (aE 0 ([]:Y Int).length)<|(iter (uW n a0 r1) n ((0:Int),([]:Y Int))).bind λw1=>ck (aE w1.length w1.length)<|(l8 n w1).bind λr4=>ck (aE w1.length r4.length)<|(kP n r4).bind λr5=>ck (aE (sub r5.2 0 r5.2.length).length r5.2.length)<|some (sub r5.2 0 r5.2.length)
def Uv(a0:Y Int)(a1:Int):Stp Int (Unit⊕Int)
 |v1=>bif decide (v1<a0.length)then(bx a0 v1).bind λx1=>(bif (a1==x1)then(some v1).map λa=>.inr (.inr a)else some (.inl (i64.wrap (v1+1))))else some (.inr (.inl ()))
def Fy(a0:Y Int)(a1:Int):J Int:=
 dO (iter (Uv a0 a1) n 0) λ()=>some (-1)
def pI(a0:Y Int)(a1:Int):J Bool:=
 (Fy n a0 a1).bind λr1=>some (decide (r1>=0))
def Ym(a0:fq)(a1:aQ)(a2:Int):J Bool:=
 (rf n a0.land a1.lot).bind λr1=>(KH n a0 a1).bind λr2=>ck (aE (sub r2 0 r2.length).length r2.length)<|(pI n (sub r2 0 r2.length) a2).bind λr3=>(bif r3 then(bif r1.2 then some (r1.1.owner !=(a2:Int))else some false)else some false)
def xq(a0:aC)(a1:Int):J Bool:=
 bif (a1==(a0.ed:Int))then some true else(Ym n (fq.mk a0.bp a0.aq a0.bj a0.aw a0.be a0.bk a0.b7 a0.bm a0.cQ a0.cC a0.cJ a0.cN a0.c8) (aQ.mk a0.b8 a0.bu) a1).bind λr1=>some r1
def oL(a0:Y Int)(a1:Int):Stp (Int×Int) (Unit⊕Bool)
 |(v1,v2)=>bif decide (v2<(a0.length:Int))then(bx a0 v2).bind λx1=>((bif decide (x1<=(v1:Int))then some true else some (decide (x1>=(a1:Int))))).bind λv3=>(bif v3 then(some false).map λa=>.inr (.inr a)else some (.inl (x1,i64.wrap (v2+1))))else some (.inr (.inl ()))
def fD(a0:Y Int)(a1:Int):J Bool:=
 dO (iter (oL a0 a1) n (((-1):Int),(0:Int))) λ()=>some true
def qK(a0:aK):J Bool:=
 some true
def pJ:J (List ByteArray):=
 ck (aE (sub ([⟨#[97,114,101,97]⟩,⟨#[99,111,118,101,114]⟩,⟨#[102,108,111,111,114]⟩,⟨#[102,108,111,111,114,115]⟩,⟨#[104,101,105,103,104,116]⟩,⟨#[104,111,109,101,115]⟩,⟨#[114,117,110,111,102,102]⟩,⟨#[115,101,116,98,97,99,107]⟩,⟨#[116,114,97,102,102,105,99]⟩]:Y ByteArray) 0 9).length 9)<|some (sub ([⟨#[97,114,101,97]⟩,⟨#[99,111,118,101,114]⟩,⟨#[102,108,111,111,114]⟩,⟨#[102,108,111,111,114,115]⟩,⟨#[104,101,105,103,104,116]⟩,⟨#[104,111,109,101,115]⟩,⟨#[114,117,110,111,102,102]⟩,⟨#[115,101,116,98,97,99,107]⟩,⟨#[116,114,97,102,102,105,99]⟩]:Y ByteArray) 0 9)
def oM(a0:Y ByteArray)(a1:ByteArray):Stp Int (Unit⊕Int)
 |v1=>bif decide (v1<a0.length)then(bx a0 v1).bind λx1=>(bif (ByteArray.toList a1==ByteArray.toList x1)then(some v1).map λa=>.inr (.inr a)else some (.inl (i64.wrap (v1+1))))else some (.inr (.inl ()))
def sW(a0:Y ByteArray)(a1:ByteArray):J Int:=
 dO (iter (oM a0 a1) n 0) λ()=>some (-1)
def eF(a0:Y ByteArray)(a1:ByteArray):J Bool:=
 (sW n a0 a1).bind λr1=>some (decide (r1>=0))
def mh(a0:aK):J Bool:=
 (pJ).bind λr1=>ck (aE (sub r1 0 r1.length).length r1.length)<|(eF n (sub r1 0 r1.length) a0.name).bind λr2=>some r2
def jC(a0:dw)(a1:aK):J Bool:=
 some (ByteArray.toList a0.name==ByteArray.toList a1.name)
def Jq(a0:Y dw)(a1:(dw×Unit)->J Bool):Stp Int (Unit⊕Int)
 |v1=>bif decide (v1<(a0.length:Int))then(bx a0 v1).bind λx1=>(a1 (x1,())).bind λr1=>(bif r1 then(some v1).map λa=>.inr (.inr a)else some (.inl (i64.wrap (v1+1))))else some (.inr (.inl ()))
def uX(a0:Y dw)(a1:(dw×Unit)->J Bool):J Int:=
 dO (iter (Jq a0 a1) n (0:Int)) λ()=>some ((-1):Int)
def qL(a0:Y dw)(a1:(dw×Unit)->J Bool):J Bool:=
 (uX n a0 a1).bind λr1=>some (decide (r1>=0))
def mq(a0:aK)(a1:aC):J Bool:=
 (qL n a1.aw (λ (y1:dw×Unit)=>jC y1.1 a0)).bind λr1=>some r1
def mD(a0:aK):J Bool:=
 bif (ByteArray.toList a0.name==ByteArray.toList (⟨#[103,114,97,110,116,101,100]⟩))then some true else some (ByteArray.toList a0.name==ByteArray.toList (⟨#[114,101,102,117,115,101,100]⟩))
noncomputable def nZ(n:Nat)(h:aC)(c:aK):J Bool:=
 bif c.ec==0 then(fD n c.attacks (h.claims.length:Int)).bind λa=>bif a then qK c else some false
 else bif c.ec==1 then(fD n c.attacks (h.claims.length:Int)).bind λa=>bif a then mh n c else some false
 else bif c.ec==2 then(fD n c.attacks (h.claims.length:Int)).bind λa=>bif a then mq n c h else some false
 else bif c.ec==3 then(fD n c.attacks (h.claims.length:Int)).bind λa=>bif a then mD c else some false
 else some false
def oN(a0:aQ)(a1 a2:Int):Stp (Int×(List aG)) (List aG)
 |(v1,v2)=>bif decide (v1<a0.phases.length)then((bx a0.phases v1).bind λx1=>((bif decide (v1>=a1)then some (decide (v1<a2))else some false)).bind λv3=>(bif v3 then ck (bF v2.length v2.length x1.b9.length x1.b9.length 72)<|gU (v2++x1.b9) λr1=>ck (aE r1.length r1.length)<|some r1 else ck (aE v2.length v2.length)<|some v2):J ((List aG))).bind λv4=>ck (aE v4.length v4.length)<|some (.inl (i64.wrap (v1+1),v4))else ck (aE v2.length v2.length)<|some (.inr v2)
def pK(a0:aQ)(a1 a2:Int):J (List aG):=
 ck (aE 0 ([]:Y aG).length)<|(iter (oN a0 a1 a2) n (0,[])).bind λw1=>ck (aE (sub w1 0 w1.length).length w1.length)<|some (sub w1 0 w1.length)
def gB(a0:aG):J Bool:=
 ((qm (ax.mk a0.ct a0.cH a0.co a0.cE)).bind λr1=>(bif (!r1)then some true else bif decide (a0.fi<0)then some true else bif decide (a0.fi>=a0.ez)then some true else some (decide (a0.ez>4096)))).bind λv1=>(bif v1 then some false else((bif (a0.use !=0)then some (a0.units !=0)else some false)).bind λv2=>(bif v2 then some false else bif decide (a0.use>=0)then(bif decide (a0.use<6)then(bif decide (a0.units>=0)then some (decide (a0.units<=1048576))else some false)else some false)else some false))
def zq(a0:ax):J (ax×Bool):=
 (qm a0).bind λr1=>(bif r1 then some (a0,true)else some (ax.mk 0 0 0 0,false))
def zT(a0:ax):J Int:=
 (zq a0).bind λr1=>some (i64.wrap ((i64.wrap (r1.1.x1-r1.1.x0))*(i64.wrap (r1.1.y1-r1.1.y0))))
def Fz(a0:Y ax):Stp (Int×Int) Int
 |(v1,v2)=>bif decide (v2<a0.length)then(bx a0 v2).bind λx1=>(zT x1).bind λr2=>some (.inl (i64.wrap (v1+r2),i64.wrap (v2+1)))else some (.inr v1)
def O6(a0:Y ax):J Int:=
 (l9 n a0).bind λr1=>(bif (!r1)then some 0 else(iter (Fz a0) n (0,0)).bind λw1=>some w1)
def wM(_:Nat)(a0:Y ax)(a1:(ax×ax×Unit)->J Int):J (List ax):=OT a0 a1
def iV(a0 a1:ax):J Int:=
 (cmp_Compare_int a0.y0 a1.y0).bind λr1=>some r1
def lQ(a0:aG):J Int:=
 ((bif a0.extra then some true else(gB a0).bind λr1=>some (!r1))).bind λv1=>(bif v1 then some 0 else ck (3 !=0)<|some (i64.wrap (Int.tdiv (i64.wrap ((i64.wrap ((i64.wrap (a0.ez-a0.fi))+3))-1)) 3)))
def p9(a0:aG):J Int:=
 (gB a0).bind λr1=>(bif (!r1)then some 0 else(zT (ax.mk a0.ct a0.cH a0.co a0.cE)).bind λr2=>(lQ a0).bind λr3=>some (i64.wrap (r2*r3)))
def oO(a0:aG):J Int:=
 some a0.ez
def qi(a0:aG):J Int:=
 some a0.units
def Ck(a0:ax)(a1:Int):J (ax×Bool):=
 (qm (ax.mk (i64.wrap (a0.x0-a1)) (i64.wrap (a0.y0-a1)) (i64.wrap (a0.x1+a1)) (i64.wrap (a0.y1+a1)))).bind λr1=>some (ax.mk (i64.wrap (a0.x0-a1)) (i64.wrap (a0.y0-a1)) (i64.wrap (a0.x1+a1)) (i64.wrap (a0.y1+a1)),r1)
def uj(a0 a1:ax):J (ax×Bool):=
 ((qm a0).bind λr1=>(bif (!r1)then some true else(qm a1).bind λr2=>some (!r2))).bind λv1=>(bif v1 then some (ax.mk 0 0 0 0,false)else(zq (ax.mk (max a0.x0 a1.x0) (max a0.y0 a1.y0) (min a0.x1 a1.x1) (min a0.y1 a1.y1))).bind λr3=>some (r3.1,r3.2))
def kQ(a0:bg)(a1:KF)(a2:Int):J Bool:=
 ck (cV a2 6)<|(bx ([a1.a0,a1.a1,a1.a2,a1.a3,a1.a4,a1.a5]:Y ByteArray) a2).bind λx1=>some (ByteArray.toList a0.name==ByteArray.toList x1)
def kR(a0:bO)(a1:Int):Stp Int (Unit⊕Int)
 |v1=>bif decide (v1<a0.tables.length)then(bx a0.tables v1).bind λx1=>(bif (!(ByteArray.toList x1.name==ByteArray.toList (⟨#[116,114,97,102,102,105,99]⟩)))then some (.inl (i64.wrap (v1+1)))else((jd n x1.rows (λ (y1:bg×Unit)=>kQ y1.1 (KF.mk (⟨#[104,111,109,101]⟩) (⟨#[115,104,111,112]⟩) (⟨#[119,111,114,107]⟩) (⟨#[112,97,114,107]⟩) (⟨#[112,108,97,110,116]⟩) (⟨#[104,97,108,108]⟩)) a1)).bind λr1=>(bif decide (r1>=0)then(bx x1.rows r1).bind λx2=>some x2.n else some x1.sk):J Int).bind λv2=>(some (max 0 (min v2 1048576))).map λa=>.inr (.inr a))else some (.inr (.inl ()))
def Bo(a0:bO)(a1:Int):J Int:=
 dO (iter (kR n a0 a1) n 0) λ()=>some 0
def jK(a0:bO)(a1:aG):J Int:=
 (Bo n a0 a1.use).bind λr1=>(p9 a1).bind λr2=>((bif decide (r1>0)then ck (r1 !=0)<|some (decide (r2>(i64.wrap (Int.tdiv 109951162777600 r1))))else some false)).bind λv1=>(bif v1 then some 1099511627776 else ck (100 !=0)<|some (i64.wrap (Int.tdiv (i64.wrap ((i64.wrap ((i64.wrap (r1*r2))+100))-1)) 100)))
def nP(a0:Y gW)(a1:Y bQ)(a2:Y fO)(a3:Y dw)(a4:Y jI)(a5:Y iG)(a6:Y dM)(a7:Int)(a8:Y ax)(a9:Y aG):J (Int×iq):=
 (O6 n a8).bind λr1=>ck (aE a9.length a9.length)<|some (r1,a0,a1,a2,a3,a4,a5,a6,a7,a8,a9)
def gK(a9:Y aG):Stp (Int×(List ax)×(List Int)) ((List ax)×(List Int))
 |(v1,v2,v3)=>bif decide (v1<(a9.length:Nat))then ck (cV v1 a9.length)<|(bx a9 ((0:Nat)+v1:Int)).bind λx1=>ck (cV v1 ((a9.length:Int).toNat))<|(bx v2 ((0:Nat)+v1:Int)).bind λx2=>ck (cV v1 ((a9.length:Int).toNat))<|(bx (v2.set ((0:Nat)+v1:Int).toNat (ax.mk x1.ct x1.cH x1.co x1.cE)) ((0:Nat)+v1:Int)).bind λx3=>ck (cV v1 ((a9.length:Int).toNat))<|(bx (v2.set ((0:Nat)+v1:Int).toNat (ax.mk x1.ct x1.cH x1.co x1.cE)) ((0:Nat)+v1:Int)).bind λx4=>ck (bF v3.length v3.length (sub ([x3.x0,x4.x1]:Y Int) 0 2).length 2 8)<|gU (v3++(sub ([x3.x0,x4.x1]:Y Int) 0 2)) λr1=>ck (aE r1.length r1.length)<|some (.inl (i64.wrap (v1+1),v2.set ((0:Nat)+v1:Int).toNat (ax.mk x1.ct x1.cH x1.co x1.cE),r1))else ck (aE v3.length v3.length)<|some (.inr (v2,v3))
def gL(a9:Y aG)(w2:Y Int)(r2:Y ax)(r3:Y Int)(v5:Int):Stp (Int×Int×Int) Int
 |(v6,v7,v8)=>bif decide (v8<(((a9.length:Int).toNat:Nat):Int))then(ck (cV v8 ((a9.length:Int).toNat))<|(bx r2 ((0:Nat)+v8:Int)).bind λx5=>(ck (cV v5 w2.length)<|(bx r3 ((0:Nat)+v5:Int)).bind λx6=>(bif decide (x5.x0<=x6)then ck (cV v5 w2.length)<|(bx r3 ((0:Nat)+v5:Int)).bind λx7=>(bif decide (x7<x5.x1)then some (decide (x5.y1>v7))else some false)else some false)).bind λv9=>(bif v9 then ck (cV (i64.wrap (v5+1)) w2.length)<|(bx r3 ((0:Nat)+(i64.wrap (v5+1)):Int)).bind λx8=>ck (cV v5 w2.length)<|(bx r3 ((0:Nat)+v5:Int)).bind λx9=>some (i64.wrap (v6+(i64.wrap ((i64.wrap (x8-x9))*(i64.wrap (x5.y1-(max v7 x5.y0)))))),x5.y1)else some (v6,v7)):J (Int×Int)).bind λ(v10,v11)=>some (.inl (v10,v11,i64.wrap (v8+1)))else some (.inr v6)
def gM(a9:Y aG)(w2:Y Int)(r2:Y ax)(r3:Y Int):Stp (Int×Int) Int
 |(v4,v5)=>bif (decide (v5<((max 0 (i64.wrap ((w2.length:Nat)-1))):Int)))then(iter (gL a9 w2 r2 r3 v5) n (v4,0,0)).bind λw3=>some (.inl (w3,i64.wrap (v5+1)))else some (.inr v4)
def iW(a0:Y gW)(a1:Y bQ)(a2:Y fO)(a3:Y dw)(a4:Y jI)(a5:Y iG)(a6:Y dM)(a7:Int)(a8:Y ax)(a9:Y aG):J (Int×iq):=
 ck (decide ((a9.length:Int)<=(a9.length:Nat))&&(decide (0<=(a9.length:Int))&&qg (a9.length:Nat) 32))<|ck (aE 0 ([]:Y Int).length)<|(iter (gK a9) n (0,List.replicate (a9.length:Int).toNat (ax.mk 0 0 0 0),[])).bind λ(w1,w2)=>ck (aE ((a9.length:Int).toNat) w1.length)<|(wM n w1 (λ (y1:ax×ax×Unit)=>iV y1.1 y1.2.1)).bind λr2=>ck (aE w2.length w2.length)<|(l8 n w2).bind λr3=>(iter (gM n a9 w2 r2 r3) n (0,0)).bind λw4=>ck (aE a9.length a9.length)<|some (w4,a0,a1,a2,a3,a4,a5,a6,a7,a8,a9)
def jX(a9:Y aG):Stp (Int×Int) Int
 |(v1,v2)=>bif decide (v2<(a9.length:Nat))then ck (cV v2 a9.length)<|(bx a9 ((0:Nat)+v2:Int)).bind λx1=>(p9 x1).bind λr1=>some (.inl (i64.wrap (v1+r1),i64.wrap (v2+1)))else some (.inr v1)
def rT(a0:Y gW)(a1:Y bQ)(a2:Y fO)(a3:Y dw)(a4:Y jI)(a5:Y iG)(a6:Y dM)(a7:Int)(a8:Y ax)(a9:Y aG):J (Int×iq):=
 (iter (jX a9) n (0,0)).bind λw1=>ck (aE a9.length a9.length)<|some (w1,a0,a1,a2,a3,a4,a5,a6,a7,a8,a9)
def kZ(a0:Y gW)(a1:Y bQ)(a2:Y fO)(a3:Y dw)(a4:Y jI)(a5:Y iG)(a6:Y dM)(a7:Int)(a8:Y ax)(a9:Y aG):J (Int×iq):=
 ck (aE a9.length a9.length)<|(rT n a0 a1 a2 a3 a4 a5 a6 a7 a8 a9).bind λr1=>ck (aE r1.2.2.2.2.2.2.2.2.2.2.length r1.2.2.2.2.2.2.2.2.2.2.length)<|some (r1.1,r1.2.1,r1.2.2.1,r1.2.2.2.1,r1.2.2.2.2.1,r1.2.2.2.2.2.1,r1.2.2.2.2.2.2.1,r1.2.2.2.2.2.2.2.1,r1.2.2.2.2.2.2.2.2.1,r1.2.2.2.2.2.2.2.2.2.1,r1.2.2.2.2.2.2.2.2.2.2)
def iw(a9:Y aG):Stp (Int×Int) Int
 |(v1,v2)=>bif decide (v2<(a9.length:Nat))then ck (cV v2 a9.length)<|(bx a9 ((0:Nat)+v2:Int)).bind λx1=>(lQ x1).bind λr1=>some (.inl (max v1 r1,i64.wrap (v2+1)))else some (.inr v1)
def nH(a0:Y gW)(a1:Y bQ)(a2:Y fO)(a3:Y dw)(a4:Y jI)(a5:Y iG)(a6:Y dM)(a7:Int)(a8:Y ax)(a9:Y aG):J (Int×iq):=
 (iter (iw a9) n (0,0)).bind λw1=>ck (aE a9.length a9.length)<|some (w1,a0,a1,a2,a3,a4,a5,a6,a7,a8,a9)
def jY(a0:Y gW)(a1:Y bQ)(a2:Y fO)(a3:Y dw)(a4:Y jI)(a5:Y iG)(a6:Y dM)(a7:Int)(a8:Y ax)(a9:Y aG):J (Int×iq):=
 ck (aE a9.length a9.length)<|(nH n a0 a1 a2 a3 a4 a5 a6 a7 a8 a9).bind λr1=>ck (aE r1.2.2.2.2.2.2.2.2.2.2.length r1.2.2.2.2.2.2.2.2.2.2.length)<|some (r1.1,r1.2.1,r1.2.2.1,r1.2.2.2.1,r1.2.2.2.2.1,r1.2.2.2.2.2.1,r1.2.2.2.2.2.2.1,r1.2.2.2.2.2.2.2.1,r1.2.2.2.2.2.2.2.2.1,r1.2.2.2.2.2.2.2.2.2.1,r1.2.2.2.2.2.2.2.2.2.2)
def iy(a9:Y aG):Stp (Int×Int) Int
 |(v1,v2)=>bif decide (v2<(a9.length:Nat))then ck (cV v2 a9.length)<|(bx a9 ((0:Nat)+v2:Int)).bind λx1=>(oO x1).bind λr1=>some (.inl (max v1 r1,i64.wrap (v2+1)))else some (.inr v1)
def nI(a0:Y gW)(a1:Y bQ)(a2:Y fO)(a3:Y dw)(a4:Y jI)(a5:Y iG)(a6:Y dM)(a7:Int)(a8:Y ax)(a9:Y aG):J (Int×iq):=
 (iter (iy a9) n (0,0)).bind λw1=>ck (aE a9.length a9.length)<|some (w1,a0,a1,a2,a3,a4,a5,a6,a7,a8,a9)
def jZ(a0:Y gW)(a1:Y bQ)(a2:Y fO)(a3:Y dw)(a4:Y jI)(a5:Y iG)(a6:Y dM)(a7:Int)(a8:Y ax)(a9:Y aG):J (Int×iq):=
 ck (aE a9.length a9.length)<|(nI n a0 a1 a2 a3 a4 a5 a6 a7 a8 a9).bind λr1=>ck (aE r1.2.2.2.2.2.2.2.2.2.2.length r1.2.2.2.2.2.2.2.2.2.2.length)<|some (r1.1,r1.2.1,r1.2.2.1,r1.2.2.2.1,r1.2.2.2.2.1,r1.2.2.2.2.2.1,r1.2.2.2.2.2.2.1,r1.2.2.2.2.2.2.2.1,r1.2.2.2.2.2.2.2.2.1,r1.2.2.2.2.2.2.2.2.2.1,r1.2.2.2.2.2.2.2.2.2.2)
def j3(a9:Y aG):Stp (Int×Int) Int
 |(v1,v2)=>bif decide (v2<(a9.length:Nat))then ck (cV v2 a9.length)<|(bx a9 ((0:Nat)+v2:Int)).bind λx1=>(qi x1).bind λr1=>some (.inl (i64.wrap (v1+r1),i64.wrap (v2+1)))else some (.inr v1)
def rU(a0:Y gW)(a1:Y bQ)(a2:Y fO)(a3:Y dw)(a4:Y jI)(a5:Y iG)(a6:Y dM)(a7:Int)(a8:Y ax)(a9:Y aG):J (Int×iq):=
 (iter (j3 a9) n (0,0)).bind λw1=>ck (aE a9.length a9.length)<|some (w1,a0,a1,a2,a3,a4,a5,a6,a7,a8,a9)
def lg(a0:Y gW)(a1:Y bQ)(a2:Y fO)(a3:Y dw)(a4:Y jI)(a5:Y iG)(a6:Y dM)(a7:Int)(a8:Y ax)(a9:Y aG):J (Int×iq):=
 ck (aE a9.length a9.length)<|(rU n a0 a1 a2 a3 a4 a5 a6 a7 a8 a9).bind λr1=>ck (aE r1.2.2.2.2.2.2.2.2.2.2.length r1.2.2.2.2.2.2.2.2.2.2.length)<|some (r1.1,r1.2.1,r1.2.2.1,r1.2.2.2.1,r1.2.2.2.2.1,r1.2.2.2.2.2.1,r1.2.2.2.2.2.2.1,r1.2.2.2.2.2.2.2.1,r1.2.2.2.2.2.2.2.2.1,r1.2.2.2.2.2.2.2.2.2.1,r1.2.2.2.2.2.2.2.2.2.2)
def iR(lj:Y ax)(r1:ax×Bool):Stp (Int×Int) Int
 |(v1,v2)=>bif decide (v2<lj.length)then((bx lj v2).bind λx1=>(uj r1.1 x1).bind λr2=>(bif r2.2 then(zT r2.1).bind λr3=>some (i64.wrap (v1+r3))else some v1):J Int).bind λv3=>some (.inl (v3,i64.wrap (v2+1)))else some (.inr v1)
def j4(a0:ax)(a1:Int)(a2:Y gW)(a3:Y bQ)(a4:Y fO)(a5:Y dw)(a6:Y jI)(a7:Y iG)(a8:Y dM)(a9:Int)(lj:Y ax)(ux:Y aG):J (Bool×iq):=
 (Ck a0 a1).bind λr1=>(bif (!r1.2)then ck (aE ux.length ux.length)<|some (false,a2,a3,a4,a5,a6,a7,a8,a9,lj,ux)else(iter (iR lj r1) n (0,0)).bind λw1=>(zT r1.1).bind λr4=>ck (aE ux.length ux.length)<|some (w1==r4,a2,a3,a4,a5,a6,a7,a8,a9,lj,ux))
def eT(x1:aG):Stp (Int×Int×iq) (Int×iq)
 |(v13,v14,v15,v16,v17,v18,v19,v20,v21,v22,v23,v24)=>bif decide (v13<v14)then ck (2 !=0)<|ck (aE v24.length v24.length)<|(j4 n (ax.mk x1.ct x1.cH x1.co x1.cE) (i64.wrap (Int.tdiv (i64.wrap ((i64.wrap (v13+v14))+1)) 2)) v15 v16 v17 v18 v19 v20 v21 v22 v23 v24).bind λr1=>(bif r1.1 then ck (aE r1.2.2.2.2.2.2.2.2.2.2.length r1.2.2.2.2.2.2.2.2.2.2.length)<|some (.inl (i64.wrap (Int.tdiv (i64.wrap ((i64.wrap (v13+v14))+1)) 2),v14,r1.2.1,r1.2.2.1,r1.2.2.2.1,r1.2.2.2.2.1,r1.2.2.2.2.2.1,r1.2.2.2.2.2.2.1,r1.2.2.2.2.2.2.2.1,r1.2.2.2.2.2.2.2.2.1,r1.2.2.2.2.2.2.2.2.2.1,r1.2.2.2.2.2.2.2.2.2.2))else ck (aE r1.2.2.2.2.2.2.2.2.2.2.length r1.2.2.2.2.2.2.2.2.2.2.length)<|some (.inl (v13,i64.wrap ((i64.wrap (Int.tdiv (i64.wrap ((i64.wrap (v13+v14))+1)) 2))-1),r1.2.1,r1.2.2.1,r1.2.2.2.1,r1.2.2.2.2.1,r1.2.2.2.2.2.1,r1.2.2.2.2.2.2.1,r1.2.2.2.2.2.2.2.1,r1.2.2.2.2.2.2.2.2.1,r1.2.2.2.2.2.2.2.2.2.1,r1.2.2.2.2.2.2.2.2.2.2)))else ck (aE v24.length v24.length)<|some (.inr (v13,v15,v16,v17,v18,v19,v20,v21,v22,v23,v24))
def iH(a9:Y aG):Stp (Int×Int×iq) (Int×iq)
 |(v1,v2,v3,v4,v5,v6,v7,v8,v9,v10,v11,v12)=>bif decide (v2<(a9.length:Nat))then ck (cV v2 a9.length)<|(bx v12 ((0:Nat)+v2:Int)).bind λx1=>ck (aE v12.length v12.length)<|(iter (eT n x1) n (0,v1,v3,v4,v5,v6,v7,v8,v9,v10,v11,v12)).bind λ(w1,w2,w3,w4,w5,w6,w7,w8,w9,wc,z6)=>ck (aE z6.length z6.length)<|some (.inl (w1,i64.wrap (v2+1),w2,w3,w4,w5,w6,w7,w8,w9,wc,z6))else ck (aE v12.length v12.length)<|some (.inr (v1,v3,v4,v5,v6,v7,v8,v9,v10,v11,v12))
def jD(a0:Y gW)(a1:Y bQ)(a2:Y fO)(a3:Y dw)(a4:Y jI)(a5:Y iG)(a6:Y dM)(a7:Int)(a8:Y ax)(a9:Y aG):J (Int×iq):=
 ck (aE a9.length a9.length)<|(iter (iH n a9) n (1048576,0,a0,a1,a2,a3,a4,a5,a6,a7,a8,a9)).bind λ(J0,W0,JT,Q2,w16,w17,w18,w19,w20,w21,WP)=>ck (aE WP.length WP.length)<|some (J0,W0,JT,Q2,w16,w17,w18,w19,w20,w21,WP)
def kS(a0:aG)(a1:Y gW)(a2:Y bQ)(a3:Y fO)(a4:Y dw)(a5:Y jI)(a6:Y iG)(a7:Y dM)(a8:Int)(a9:Y ax)(lj:Y aG):J (Int×iq):=
 (jK n (bO.mk a1 a2 a3 a4 a5 a6 a7 a8) a0).bind λr1=>ck (aE lj.length lj.length)<|some (r1,a1,a2,a3,a4,a5,a6,a7,a8,a9,lj)
def j5(a9:Y aG):Stp (Int×Int×iq) (Int×iq)
 |(v1,v2,v3,v4,v5,v6,v7,v8,v9,v10,v11,v12)=>bif decide (v2<(a9.length:Nat))then ck (cV v2 a9.length)<|(bx v12 ((0:Nat)+v2:Int)).bind λx1=>ck (aE v12.length v12.length)<|(kS n x1 v3 v4 v5 v6 v7 v8 v9 v10 v11 v12).bind λr1=>ck (aE r1.2.2.2.2.2.2.2.2.2.2.length r1.2.2.2.2.2.2.2.2.2.2.length)<|some (.inl (i64.wrap (v1+r1.1),i64.wrap (v2+1),r1.2.1,r1.2.2.1,r1.2.2.2.1,r1.2.2.2.2.1,r1.2.2.2.2.2.1,r1.2.2.2.2.2.2.1,r1.2.2.2.2.2.2.2.1,r1.2.2.2.2.2.2.2.2.1,r1.2.2.2.2.2.2.2.2.2.1,r1.2.2.2.2.2.2.2.2.2.2))else ck (aE v12.length v12.length)<|some (.inr (v1,v3,v4,v5,v6,v7,v8,v9,v10,v11,v12))
def rV(a0:Y gW)(a1:Y bQ)(a2:Y fO)(a3:Y dw)(a4:Y jI)(a5:Y iG)(a6:Y dM)(a7:Int)(a8:Y ax)(a9:Y aG):J (Int×iq):=
 ck (aE a9.length a9.length)<|(iter (j5 n a9) n (0,0,a0,a1,a2,a3,a4,a5,a6,a7,a8,a9)).bind λ(w1,w2,w3,w4,w5,w6,w7,w8,w9,wc,z6)=>ck (aE z6.length z6.length)<|some (w1,w2,w3,w4,w5,w6,w7,w8,w9,wc,z6)
def jE(a0:Y gW)(a1:Y bQ)(a2:Y fO)(a3:Y dw)(a4:Y jI)(a5:Y iG)(a6:Y dM)(a7:Int)(a8:Y ax)(a9:Y aG):J (Int×iq):=
 ck (aE a9.length a9.length)<|(rV n a0 a1 a2 a3 a4 a5 a6 a7 a8 a9).bind λr1=>ck (aE r1.2.2.2.2.2.2.2.2.2.2.length r1.2.2.2.2.2.2.2.2.2.2.length)<|some (r1.1,r1.2.1,r1.2.2.1,r1.2.2.2.1,r1.2.2.2.2.1,r1.2.2.2.2.2.1,r1.2.2.2.2.2.2.1,r1.2.2.2.2.2.2.2.1,r1.2.2.2.2.2.2.2.2.1,r1.2.2.2.2.2.2.2.2.2.1,r1.2.2.2.2.2.2.2.2.2.2)
def sG(r2:Y aG):Stp (Int×iq) (iq)
 |(v10,v11,v12,v13,v14,v15,v16,v17,v18,v19,v20)=>bif decide (v10<(r2.length:Nat))then(ck (cV v10 r2.length)<|(bx r2 ((0:Nat)+v10:Int)).bind λx1=>((bif decide (v10<40)then(gB x1).bind λr3=>some r3 else some false)).bind λv21=>(bif v21 then ck (bF v20.length v20.length (sub ([x1]:Y aG) 0 1).length 1 72)<|gU (v20++(sub ([x1]:Y aG) 0 1)) λr4=>ck (aE r4.length r4.length)<|some (v11,v12,v13,v14,v15,v16,v17,v18,v19,r4)else ck (aE v20.length v20.length)<|some (v11,v12,v13,v14,v15,v16,v17,v18,v19,v20)):J (iq)).bind λ(v22,v23,v24,v25,v26,v27,v28,v29,v30,v31)=>ck (aE v31.length v31.length)<|some (.inl (i64.wrap (v10+1),v22,v23,v24,v25,v26,v27,v28,v29,v30,v31))else ck (aE v20.length v20.length)<|some (.inr (v11,v12,v13,v14,v15,v16,v17,v18,v19,v20))
def kT(a0:bO)(a1:fM)(a2:aQ):J (List bg):=
 ((l9 n a1.area).bind λr1=>(bif r1 then some (a0.defs,a0.tables,a0.zones,a0.rules,a0.caps,a0.views,a0.xp,a0.hours,a1.area)else some (a0.defs,a0.tables,a0.zones,a0.rules,a0.caps,a0.views,a0.xp,a0.hours,[])):J ((List gW)×(List bQ)×(List fO)×(List dw)×(List jI)×(List iG)×(List dM)×Int×(List ax))).bind λ(v1,v2,v3,v4,v5,v6,v7,v8,v9)=>(pK n a2 0 a2.phases.length).bind λr2=>ck (aE 0 ([]:Y aG).length)<|(iter (sG r2) n (0,v1,v2,v3,v4,v5,v6,v7,v8,v9,[])).bind λ(w1,w2,w3,w4,w5,w6,w7,w8,w9,wc)=>ck (aE wc.length wc.length)<|(nP n w1 w2 w3 w4 w5 w6 w7 w8 w9 wc).bind λr5=>ck (bF 0 0 (sub ([bg.mk (⟨#[97,114,101,97]⟩) r5.1]:Y bg) 0 1).length 1 24)<|gU ((sub ([bg.mk (⟨#[97,114,101,97]⟩) r5.1]:Y bg) 0 1)) λr6=>ck (aE r5.2.2.2.2.2.2.2.2.2.2.length r5.2.2.2.2.2.2.2.2.2.2.length)<|(iW n r5.2.1 r5.2.2.1 r5.2.2.2.1 r5.2.2.2.2.1 r5.2.2.2.2.2.1 r5.2.2.2.2.2.2.1 r5.2.2.2.2.2.2.2.1 r5.2.2.2.2.2.2.2.2.1 r5.2.2.2.2.2.2.2.2.2.1 r5.2.2.2.2.2.2.2.2.2.2).bind λr7=>ck (bF r6.length r6.length (sub ([bg.mk (⟨#[99,111,118,101,114]⟩) r7.1]:Y bg) 0 1).length 1 24)<|gU (r6++(sub ([bg.mk (⟨#[99,111,118,101,114]⟩) r7.1]:Y bg) 0 1)) λr8=>ck (aE r7.2.2.2.2.2.2.2.2.2.2.length r7.2.2.2.2.2.2.2.2.2.2.length)<|(kZ n r7.2.1 r7.2.2.1 r7.2.2.2.1 r7.2.2.2.2.1 r7.2.2.2.2.2.1 r7.2.2.2.2.2.2.1 r7.2.2.2.2.2.2.2.1 r7.2.2.2.2.2.2.2.2.1 r7.2.2.2.2.2.2.2.2.2.1 r7.2.2.2.2.2.2.2.2.2.2).bind λr9=>ck (bF r8.length r8.length (sub ([bg.mk (⟨#[102,108,111,111,114]⟩) r9.1]:Y bg) 0 1).length 1 24)<|gU (r8++(sub ([bg.mk (⟨#[102,108,111,111,114]⟩) r9.1]:Y bg) 0 1)) λsA=>ck (aE r9.2.2.2.2.2.2.2.2.2.2.length r9.2.2.2.2.2.2.2.2.2.2.length)<|(jY n r9.2.1 r9.2.2.1 r9.2.2.2.1 r9.2.2.2.2.1 r9.2.2.2.2.2.1 r9.2.2.2.2.2.2.1 r9.2.2.2.2.2.2.2.1 r9.2.2.2.2.2.2.2.2.1 r9.2.2.2.2.2.2.2.2.2.1 r9.2.2.2.2.2.2.2.2.2.2).bind λtd=>ck (bF sA.length sA.length (sub ([bg.mk (⟨#[102,108,111,111,114,115]⟩) td.1]:Y bg) 0 1).length 1 24)<|gU (sA++(sub ([bg.mk (⟨#[102,108,111,111,114,115]⟩) td.1]:Y bg) 0 1)) λAC=>ck (aE td.2.2.2.2.2.2.2.2.2.2.length td.2.2.2.2.2.2.2.2.2.2.length)<|(jZ n td.2.1 td.2.2.1 td.2.2.2.1 td.2.2.2.2.1 td.2.2.2.2.2.1 td.2.2.2.2.2.2.1 td.2.2.2.2.2.2.2.1 td.2.2.2.2.2.2.2.2.1 td.2.2.2.2.2.2.2.2.2.1 td.2.2.2.2.2.2.2.2.2.2).bind λrI=>ck (bF AC.length AC.length (sub ([bg.mk (⟨#[104,101,105,103,104,116]⟩) rI.1]:Y bg) 0 1).length 1 24)<|gU (AC++(sub ([bg.mk (⟨#[104,101,105,103,104,116]⟩) rI.1]:Y bg) 0 1)) λym=>ck (aE rI.2.2.2.2.2.2.2.2.2.2.length rI.2.2.2.2.2.2.2.2.2.2.length)<|(lg n rI.2.1 rI.2.2.1 rI.2.2.2.1 rI.2.2.2.2.1 rI.2.2.2.2.2.1 rI.2.2.2.2.2.2.1 rI.2.2.2.2.2.2.2.1 rI.2.2.2.2.2.2.2.2.1 rI.2.2.2.2.2.2.2.2.2.1 rI.2.2.2.2.2.2.2.2.2.2).bind λtR=>ck (bF ym.length ym.length (sub ([bg.mk (⟨#[104,111,109,101,115]⟩) tR.1]:Y bg) 0 1).length 1 24)<|gU (ym++(sub ([bg.mk (⟨#[104,111,109,101,115]⟩) tR.1]:Y bg) 0 1)) λr16=>ck (aE tR.2.2.2.2.2.2.2.2.2.2.length tR.2.2.2.2.2.2.2.2.2.2.length)<|(iW n tR.2.1 tR.2.2.1 tR.2.2.2.1 tR.2.2.2.2.1 tR.2.2.2.2.2.1 tR.2.2.2.2.2.2.1 tR.2.2.2.2.2.2.2.1 tR.2.2.2.2.2.2.2.2.1 tR.2.2.2.2.2.2.2.2.2.1 tR.2.2.2.2.2.2.2.2.2.2).bind λvh=>ck (bF r16.length r16.length (sub ([bg.mk (⟨#[114,117,110,111,102,102]⟩) vh.1]:Y bg) 0 1).length 1 24)<|gU (r16++(sub ([bg.mk (⟨#[114,117,110,111,102,102]⟩) vh.1]:Y bg) 0 1)) λXs=>ck (aE vh.2.2.2.2.2.2.2.2.2.2.length vh.2.2.2.2.2.2.2.2.2.2.length)<|(jD n vh.2.1 vh.2.2.1 vh.2.2.2.1 vh.2.2.2.2.1 vh.2.2.2.2.2.1 vh.2.2.2.2.2.2.1 vh.2.2.2.2.2.2.2.1 vh.2.2.2.2.2.2.2.2.1 vh.2.2.2.2.2.2.2.2.2.1 vh.2.2.2.2.2.2.2.2.2.2).bind λvf=>ck (bF Xs.length Xs.length (sub ([bg.mk (⟨#[115,101,116,98,97,99,107]⟩) vf.1]:Y bg) 0 1).length 1 24)<|gU (Xs++(sub ([bg.mk (⟨#[115,101,116,98,97,99,107]⟩) vf.1]:Y bg) 0 1)) λW8=>ck (aE vf.2.2.2.2.2.2.2.2.2.2.length vf.2.2.2.2.2.2.2.2.2.2.length)<|(jE n vf.2.1 vf.2.2.1 vf.2.2.2.1 vf.2.2.2.2.1 vf.2.2.2.2.2.1 vf.2.2.2.2.2.2.1 vf.2.2.2.2.2.2.2.1 vf.2.2.2.2.2.2.2.2.1 vf.2.2.2.2.2.2.2.2.2.1 vf.2.2.2.2.2.2.2.2.2.2).bind λr21=>ck (bF W8.length W8.length (sub ([bg.mk (⟨#[116,114,97,102,102,105,99]⟩) r21.1]:Y bg) 0 1).length 1 24)<|gU (W8++(sub ([bg.mk (⟨#[116,114,97,102,102,105,99]⟩) r21.1]:Y bg) 0 1)) λKs=>ck (aE (sub Ks 0 Ks.length).length Ks.length)<|some (sub Ks 0 Ks.length)
def O7(n:Nat)(a0:Y bg)(a1:bg):Stp Int (Unit⊕Int)
 |v1=>bif decide (v1<(a0.length:Int))then(bx a0 v1).bind λx1=>(bif ((ByteArray.toList a1.name==ByteArray.toList x1.name)&&((a1.n==(x1.n:Int))&&true))then(some v1).map λa=>.inr (.inr a)else some (.inl (i64.wrap (v1+1))))else some (.inr (.inl ()))
def zU(a0:Y bg)(a1:bg):J Int:=
 dO (iter (O7 n a0 a1) n (0:Int)) λ()=>some ((-1):Int)
def uY(a0:Y bg)(a1:bg):J Bool:=
 (zU n a0 a1).bind λr1=>some (decide (r1>=0))
def mE(a0:aK)(a1:aC):J Bool:=
 (rf n a1.cQ a1.b8).bind λr1=>(bif r1.2 then(kT n (bO.mk a1.bp a1.aq a1.bj a1.aw a1.be a1.bk a1.b7 a1.bm) r1.1 (aQ.mk a1.b8 a1.bu)).bind λr2=>ck (aE (sub r2 0 r2.length).length r2.length)<|(uY n (sub r2 0 r2.length) (bg.mk a0.name a0.n)).bind λr3=>some r3 else some false)
def xV(a0:aQ):J (List aG):=
 (pK n a0 0 a0.phases.length).bind λr1=>ck (aE (sub r1 0 r1.length).length r1.length)<|some (sub r1 0 r1.length)
def yT(a0 a1:Hm):J Bool:=
 (uj (ax.mk a0.p5 a0.pZ a0.p4 a0.pT) (ax.mk a1.p5 a1.pZ a1.p4 a1.pT)).bind λr1=>(bif r1.2 then(bif decide (a0.z0<a1.z1)then some (decide (a1.z0<a0.z1))else some false)else some false)
def sZ(a0 a1:aG):J Bool:=
 (yT (Hm.mk a1.ct a1.cH a1.co a1.cE a1.fi a1.ez) (Hm.mk a0.ct a0.cH a0.co a0.cE a0.fi a0.ez)).bind λr1=>some r1
def FB(a0:Y aG)(a1:(aG×Unit)->J Bool):Stp Int (Unit⊕Int)
 |v1=>bif decide (v1<a0.length)then(bx a0 v1).bind λx1=>(a1 (x1,())).bind λr1=>(bif r1 then(some v1).map λa=>.inr (.inr a)else some (.inl (i64.wrap (v1+1))))else some (.inr (.inl ()))
def rW(a0:Y aG)(a1:(aG×Unit)->J Bool):J Int:=
 dO (iter (FB a0 a1) n 0) λ()=>some (-1)
def fZ(a0:Y aG)(a1:(aG×Unit)->J Bool):J Bool:=
 (rW n a0 a1).bind λr1=>some (decide (r1>=0))
def FC(a0:Int):J Bool:=
 bif decide (a0>=97)then some (decide (a0<=122))else some false
def Bp(a0:ByteArray)(a1:(Int×Unit)->J Bool):Stp Int Int
 |v1=>((bif decide (v1<a0.size)then(Tz a0 v1).bind λx1=>(a1 (x1,())).bind λr1=>some r1 else some false)).bind λv2=>bif v2 then some (.inl (i64.wrap (v1+1)))else some (.inr v1)
def O8(a0:ByteArray)(a1:(Int×Unit)->J Bool):J Int:=
 (iter (Bp a0 a1) n 0).bind λw1=>some w1
def Rm(a0:Int):J Bool:=
 bif decide (a0>=48)then some (decide (a0<=57))else some false
def Bq(a0:Int):J Bool:=
 (FC a0).bind λr1=>(bif r1 then some true else(Rm a0).bind λr2=>some r2)
def O9(a0:ByteArray):J Bool:=
 ((bif (ByteArray.toList a0==ByteArray.toList (⟨#[]⟩))then some true else(Tz a0 0).bind λx1=>(FC x1).bind λr1=>(bif (!r1)then some true else some (decide ((a0.size:Int)>20))))).bind λv1=>(bif v1 then some false else(O8 n a0 (λ (y1:Int×Unit)=>Bq y1.1)).bind λr2=>some (r2==a0.size))
def strings_Contains(a0 a1:ByteArray):J Bool:=ck (Nat.ble a0.size 4000000)<|some (Lib.contains a0.data.toList a1.data.toList)
def xW(a0:ByteArray):J Bool:=
 (O9 n a0).bind λr1=>(bif r1 then ck (Xf (⟨#[32]⟩) a0)<|ck (Xf ((⟨#[32]⟩)++a0) (⟨#[32]⟩))<|(strings_Contains (⟨#[32,97,110,100,32,97,112,97,114,116,32,98,97,115,101,32,99,97,112,32,100,101,102,105,110,101,32,101,108,115,101,32,101,120,99,101,112,116,32,102,114,111,109,32,103,114,97,99,101,32,104,111,117,114,115,32,105,102,32,105,110,32,108,101,97,115,116,32,110,111,116,32,111,114,32,111,118,101,114,108,97,121,32,112,108,97,110,101,32,114,117,108,101,32,115,108,111,112,101,32,115,117,110,32,116,97,98,108,101,32,116,104,101,110,32,117,110,116,105,108,32,117,115,101,115,32,118,97,114,121,32,118,105,101,119,32,122,111,110,101,32]⟩) (((⟨#[32]⟩)++a0)++(⟨#[32]⟩))).bind λr2=>some (!r2)else some false)
def lT(r1:Y aG):Stp Int (Unit⊕Bool)
 |v2=>bif decide (v2<(r1.length:Nat))then ck (cV v2 r1.length)<|(bx r1 ((0:Nat)+v2:Int)).bind λx1=>((gB x1).bind λr2=>(bif (!r2)then some true else ck (Cc 0 v2 r1.length)<|ck (aE (sub r1 0 (v2.toNat)).length (v2.toNat))<|(fZ n (sub r1 0 (v2.toNat)) (λ (y1:aG×Unit)=>sZ y1.1 x1)).bind λr3=>some r3)).bind λv3=>(bif v3 then(some false).map λa=>.inr (.inr a)else some (.inl (i64.wrap (v2+1))))else some (.inr (.inl ()))
def lU(x2:lI):Stp (Int×(List (ByteArray×Bool))) (Unit⊕(Int⊕(Unit⊕Bool)))
 |(v5,v6)=>bif decide (v5<x2.gives.length)then(bx x2.gives v5).bind λx3=>((bif ((gQ fg x3.name v6).getD false)then some true else(xW n x3.name).bind λr4=>(bif (!r4)then some true else bif decide (x3.n<0)then some true else some (decide (x3.n>1073741824))))).bind λv7=>(bif v7 then((some false).map λa=>.inr (.inr a)).map λa=>.inr (.inr a)else some (.inl (i64.wrap (v5+1),GL fg x3.name true v6)))else some (.inr (.inl ()))
def lV(a0:aQ):Stp Int (Unit⊕Bool)
 |v4=>bif decide (v4<a0.phases.length)then(bx a0.phases v4).bind λx2=>dO (iter (lU n x2) n (0,([]:(List (ByteArray×Bool))))) λ()=>(bif decide ((x2.gives.length:Int)>30)then(some false).map λa=>.inr (.inr a)else some (.inl (i64.wrap (v4+1))))else some (.inr (.inl ()))
def yU(a0:aQ):J Bool:=
 (xV n a0).bind λr1=>((bif decide (a0.lot<0)then some true else bif decide (a0.lot>1073741824)then some true else bif decide ((a0.phases.length:Int)<1)then some true else bif decide ((a0.phases.length:Int)>8)then some true else bif decide ((r1.length:Int)<1)then some true else some (decide ((r1.length:Int)>40)))).bind λv1=>(bif v1 then some false else dO (iter (lT n r1) n 0) λ()=>dO (iter (lV n a0) n 0) λ()=>some true)
def mF(a0:Y bR)(a1:Int)(a2:(bR×Int×Unit)->J Int):Stp (Int×Int) Int
 |(v1,v2)=>bif decide (v1<v2)then ck (decide (0<=1)&&decide (1<=IntKind.u64.bits))<|(bx a0 (i64.wrap ((IntKind.u64.wrap (i64.wrap (v1+v2)))/2 ^ (1:Int).toNat))).bind λx1=>(a2 (x1,a1,())).bind λr1=>(bif decide (r1<0)then some (.inl (i64.wrap ((i64.wrap ((IntKind.u64.wrap (i64.wrap (v1+v2)))/2 ^ (1:Int).toNat))+1),v2))else some (.inl (v1,i64.wrap ((IntKind.u64.wrap (i64.wrap (v1+v2)))/2 ^ (1:Int).toNat))))else some (.inr v1)
def jm(a0:Y bR)(a1:Int)(a2:(bR×Int×Unit)->J Int):J (Int×Bool):=
 (iter (mF a0 a1 a2) n (0,a0.length)).bind λw1=>(bif decide (w1<a0.length)then(bx a0 w1).bind λx2=>(a2 (x2,a1,())).bind λr2=>some (w1,r2==0)else some (w1,false))
def xX(a0:bR)(a1:Int):J Int:=
 bif decide (a0.x1<=a1)then some (-1)else some 1
def Yn(a0:Y bR)(a1:Int):J (List aR):=
 (jm n a0 a1 (λ (y1:bR×Int×Unit)=>xX y1.1 y1.2.1)).bind λr1=>((bif decide (r1.1<a0.length)then(bx a0 r1.1).bind λx1=>some (decide (x1.x0<=a1))else some false)).bind λv1=>(bif v1 then(bx a0 r1.1).bind λx2=>some x2.column else some [])
def Pb(a0:Unit)(a1:Int):J (List aR):=
 bif decide (a1<0)then none else bif (decide ((i64.wrap (a1-(i64.wrap (0-0))))>0))then ck (qg (i64.wrap (a1-(i64.wrap (0-0)))) 16)<|ck (Cc 0 0 ((i64.wrap (a1-(i64.wrap (0-0)))).toNat))<|ck (aE (sub (List.replicate (i64.wrap (a1-(i64.wrap (0-0)))).toNat (aR.mk 0 0)) 0 0).length 0)<|some (sub (List.replicate (i64.wrap (a1-(i64.wrap (0-0)))).toNat (aR.mk 0 0)) 0 0)else some []
def Pd(a0:Y (List aR)):Stp (Int×Int) Int
 |(v1,v2)=>bif decide (v2<a0.length)then(bx a0 v2).bind λx1=>(bif decide ((i64.wrap (v1+x1.length))<0)then none else some (.inl (i64.wrap (v1+x1.length),i64.wrap (v2+1))))else some (.inr v1)
def Pe(a0:Y (List aR)):Stp (Int×(List aR)) (List aR)
 |(v3,v4)=>bif decide (v3<a0.length)then(bx a0 v3).bind λx2=>ck (bF v4.length v4.length x2.length x2.length 16)<|gU (v4++x2) λr2=>ck (aE r2.length r2.length)<|some (.inl (i64.wrap (v3+1),r2))else ck (aE v4.length v4.length)<|some (.inr v4)
def zV(a0:Y (List aR)):J (List aR):=
 (iter (Pd a0) n (0,0)).bind λw1=>(Pb () w1).bind λr1=>ck (aE r1.length r1.length)<|(iter (Pe a0) n (0,r1)).bind λw2=>ck (aE (sub w2 0 w2.length).length w2.length)<|some (sub w2 0 w2.length)
def nO(a0:Y aR)(a1:Int)(a2:(aR×Int×Unit)->J Int):Stp (Int×Int) Int
 |(v1,v2)=>bif decide (v1<v2)then ck (decide (0<=1)&&decide (1<=IntKind.u64.bits))<|(bx a0 (i64.wrap ((IntKind.u64.wrap (i64.wrap (v1+v2)))/2 ^ (1:Int).toNat))).bind λx1=>(a2 (x1,a1,())).bind λr1=>(bif decide (r1<0)then some (.inl (i64.wrap ((i64.wrap ((IntKind.u64.wrap (i64.wrap (v1+v2)))/2 ^ (1:Int).toNat))+1),v2))else some (.inl (v1,i64.wrap ((IntKind.u64.wrap (i64.wrap (v1+v2)))/2 ^ (1:Int).toNat))))else some (.inr v1)
def jL(a0:Y aR)(a1:Int)(a2:(aR×Int×Unit)->J Int):J (Int×Bool):=
 (iter (nO a0 a1 a2) n (0,a0.length)).bind λw1=>(bif decide (w1<a0.length)then(bx a0 w1).bind λx2=>(a2 (x2,a1,())).bind λr2=>some (w1,r2==0)else some (w1,false))
def mG(a0:aR)(a1:Int):J Int:=
 bif decide (a0.to<=a1)then some (-1)else some 1
def D7(a0:Y aR)(a1:Int):J Bool:=
 (jL n a0 a1 (λ (y1:aR×Int×Unit)=>mG y1.1 y1.2.1)).bind λr1=>(bif decide (r1.1<a0.length)then(bx a0 r1.1).bind λx1=>some (decide (x1.from_<=a1))else some false)
def xY(r1:Y aR):Stp (Int×(List Int)) (List Int)
 |(v1,v2)=>bif decide (v1<(r1.length:Nat))then ck (cV v1 r1.length)<|(bx r1 ((0:Nat)+v1:Int)).bind λx1=>ck (bF v2.length v2.length (sub ([x1.from_,x1.to]:Y Int) 0 2).length 2 8)<|gU (v2++(sub ([x1.from_,x1.to]:Y Int) 0 2)) λr2=>ck (aE r2.length r2.length)<|some (.inl (i64.wrap (v1+1),r2))else ck (aE v2.length v2.length)<|some (.inr v2)
def xZ(a0 a1:Y aR)(a2:(Bool×Bool×Unit)->J Bool)(r4:Unit×(List Int)):Stp (Int×(List aR)) (List aR)
 |(v3,v4)=>bif decide (v3<(r4.2.length:Nat))then(ck (cV (i64.wrap (v3-1)) r4.2.length)<|(bx r4.2 ((0:Nat)+(i64.wrap (v3-1)):Int)).bind λx2=>(D7 n a0 x2).bind λr5=>(D7 n a1 x2).bind λr6=>(a2 (r5,r6,())).bind λr7=>(bif (!r7)then ck (aE v4.length v4.length)<|some v4 else((bif decide ((v4.length:Int)>0)then ck (cV (i64.wrap ((v4.length:Nat)-1)) v4.length)<|(bx v4 ((0:Nat)+(i64.wrap ((v4.length:Nat)-1)):Int)).bind λx3=>some (x3.to==x2)else some false)).bind λv5=>(bif v5 then ck (cV v3 r4.2.length)<|(bx r4.2 ((0:Nat)+v3:Int)).bind λx4=>ck (cV (i64.wrap ((v4.length:Nat)-1)) v4.length)<|(bx v4 ((0:Nat)+(i64.wrap ((v4.length:Nat)-1)):Int)).bind λx5=>ck (aE v4.length (v4.set ((0:Nat)+(i64.wrap ((v4.length:Nat)-1)):Int).toNat (aR.mk x5.from_ x4)).length)<|some (v4.set ((0:Nat)+(i64.wrap ((v4.length:Nat)-1)):Int).toNat (aR.mk x5.from_ x4))else ck (cV v3 r4.2.length)<|(bx r4.2 ((0:Nat)+v3:Int)).bind λx6=>ck (bF v4.length v4.length (sub ([aR.mk x2 x6]:Y aR) 0 1).length 1 16)<|gU (v4++(sub ([aR.mk x2 x6]:Y aR) 0 1)) λr8=>ck (aE r8.length r8.length)<|some r8)):J ((List aR))).bind λv6=>ck (aE v6.length v6.length)<|some (.inl (i64.wrap (v3+1),v6))else ck (aE v4.length v4.length)<|some (.inr v4)
def Jr(a0 a1:Y aR)(a2:(Bool×Bool×Unit)->J Bool):J (List aR):=
 ck (aE (sub ([a0,a1]:Y (List aR)) 0 2).length 2)<|(zV n (sub ([a0,a1]:Y (List aR)) 0 2)).bind λr1=>ck (aE 0 ([]:Y Int).length)<|(iter (xY r1) n (0,[])).bind λw1=>ck (aE w1.length w1.length)<|(l8 n w1).bind λr3=>ck (aE w1.length r3.length)<|(kP n r3).bind λr4=>ck (aE 0 ([]:Y aR).length)<|(iter (xZ n a0 a1 a2 r4) n (1,[])).bind λw2=>ck (aE (sub w2 0 w2.length).length w2.length)<|some (sub w2 0 w2.length)
def sH(a2:(Bool×Bool×Unit)->J Bool)(r3 r4 r5:Y bR):Stp (Int×(List bR)) (List bR)
 |(v2,v3)=>bif decide (v2<(r5.length:Nat))then ck (cV v2 r5.length)<|(bx v3 ((0:Nat)+v2:Int)).bind λx1=>(Yn n (sub r3 0 r3.length) x1.x0).bind λr6=>(Yn n (sub r4 0 r4.length) x1.x0).bind λr7=>(Jr n r6 r7 a2).bind λr8=>ck (cV v2 r5.length)<|ck (aE (sub r8 0 r8.length).length r8.length)<|(bx v3 ((0:Nat)+v2:Int)).bind λx2=>some (.inl (i64.wrap (v2+1),v3.set ((0:Nat)+v2:Int).toNat (bR.mk x2.x0 x2.x1 (sub r8 0 r8.length))))else some (.inr v3)
def FD(a0 a1:Y ax)(a2:(Bool×Bool×Unit)->J Bool):J ((List ax)×Int):=
 ((l9 n a0).bind λr1=>(bif (!r1)then some true else(l9 n a1).bind λr2=>some (!r2))).bind λv1=>(bif v1 then some ([],1)else ck (aE (sub ([a0]:Y (List ax)) 0 1).length 1)<|(pY n (sub ([a0]:Y (List ax)) 0 1)).bind λr3=>ck (aE (sub ([a1]:Y (List ax)) 0 1).length 1)<|(pY n (sub ([a1]:Y (List ax)) 0 1)).bind λr4=>ck (aE (sub r3 0 r3.length).length r3.length)<|ck (aE (sub r4 0 r4.length).length r4.length)<|ck (aE (sub ([a0,a1]:Y (List ax)) 0 2).length 2)<|(pY n (sub ([a0,a1]:Y (List ax)) 0 2)).bind λr5=>(iter (sH n a2 r3 r4 r5) n (0,r5)).bind λw1=>ck (aE (sub w1 0 r5.length).length r5.length)<|(Jp n (sub w1 0 r5.length)).bind λr9=>ck (aE (sub r9 0 r9.length).length r9.length)<|(zQ (sub r9 0 r9.length)).bind λsA=>some (sA.1,sA.2))
def yV(a0 a1:Bool):J Bool:=
 bif a0 then some a1 else some false
def KI(a0 a1:Y ax):J ((List ax)×Int):=
 (FD n a0 a1 (λ (y1:Bool×Bool×Unit)=>yV y1.1 y1.2.1)).bind λr1=>some (r1.1,r1.2)
def wN(a0:jI)(a1:bg):J Bool:=
 some (ByteArray.toList a0.name==ByteArray.toList a1.name)
def KY(a0:Y jI)(a1:(jI×Unit)->J Bool):Stp Int (Unit⊕Int)
 |v1=>bif decide (v1<a0.length)then(bx a0 v1).bind λx1=>(a1 (x1,())).bind λr1=>(bif r1 then(some v1).map λa=>.inr (.inr a)else some (.inl (i64.wrap (v1+1))))else some (.inr (.inl ()))
def wO(a0:Y jI)(a1:(jI×Unit)->J Bool):J Int:=
 dO (iter (KY a0 a1) n 0) λ()=>some (-1)
def nQ(a0:Y jI)(a1:(jI×Unit)->J Bool):J Bool:=
 (wO n a0 a1).bind λr1=>some (decide (r1>=0))
def kJ(a1:fM)(r3:Y aG):Stp Int (Unit⊕Bool)
 |v2=>bif decide (v2<(r3.length:Nat))then ck (cV v2 r3.length)<|(bx r3 ((0:Nat)+v2:Int)).bind λx1=>ck (aE (sub ([ax.mk x1.ct x1.cH x1.co x1.cE]:Y ax) 0 1).length 1)<|(KI n a1.area (sub ([ax.mk x1.ct x1.cH x1.co x1.cE]:Y ax) 0 1)).bind λr4=>((bif (r4.2 !=0)then some true else(O6 n r4.1).bind λr5=>(zT (ax.mk x1.ct x1.cH x1.co x1.cE)).bind λr6=>some (decide (r5<r6)))).bind λv3=>(bif v3 then(some false).map λa=>.inr (.inr a)else some (.inl (i64.wrap (v2+1))))else some (.inr (.inl ()))
def kK(a0:bO)(x2:lI):Stp Int (Unit⊕(Int⊕(Unit⊕Bool)))
 |v5=>bif decide (v5<x2.gives.length)then(bx x2.gives v5).bind λx3=>(nQ n a0.caps (λ (y1:jI×Unit)=>wN y1.1 x3)).bind λr7=>(bif (!r7)then((some false).map λa=>.inr (.inr a)).map λa=>.inr (.inr a)else some (.inl (i64.wrap (v5+1))))else some (.inr (.inl ()))
def kL(a0:bO)(a2:aQ):Stp Int (Unit⊕Bool)
 |v4=>bif decide (v4<a2.phases.length)then(bx a2.phases v4).bind λx2=>dO (iter (kK n a0 x2) n 0) λ()=>some (.inl (i64.wrap (v4+1)))else some (.inr (.inl ()))
def qa(a0:bO)(a1:fM)(a2:aQ):J Bool:=
 ((yU n a2).bind λr1=>(bif (!r1)then some true else bif (a1.id !=a2.lot)then some true else(l9 n a1.area).bind λr2=>some (!r2))).bind λv1=>(bif v1 then some false else(xV n a2).bind λr3=>dO (iter (kJ n a1 r3) n 0) λ()=>dO (iter (kL n a0 a2) n 0) λ()=>some true)
def qo(a0:aQ):Stp (Int×(List aG)) (List aG)
 |(v1,v2)=>bif decide (v1<a0.phases.length)then(bx a0.phases v1).bind λx1=>ck (bF v2.length v2.length x1.b9.length x1.b9.length 72)<|gU (v2++x1.b9) λr1=>ck (aE r1.length r1.length)<|some (.inl (i64.wrap (v1+1),r1))else ck (aE v2.length v2.length)<|some (.inr v2)
def uZ(a0:aQ):J (List aG):=
 ck (aE 0 ([]:Y aG).length)<|(iter (qo a0) n (0,[])).bind λw1=>ck (aE (sub w1 0 w1.length).length w1.length)<|some (sub w1 0 w1.length)
def qp(a0:Y eD):Stp (Int×(List jQ)) (List jQ)
 |(v1,v2)=>bif decide (v1<a0.length)then(bx a0 v1).bind λx1=>ck ((a0.length:Int) !=0)<|(bx a0 (Int.tmod (i64.wrap (v1+1)) (a0.length:Int))).bind λx2=>ck (cV v1 ((a0.length:Int).toNat))<|(bx v2 ((0:Nat)+v1:Int)).bind λx3=>some (.inl (i64.wrap (v1+1),v2.set ((0:Nat)+v1:Int).toNat (jQ.mk x1.x x1.y x2.x x2.y)))else some (.inr v2)
def qM(a0:Y eD):J (List jQ):=
 ck (decide ((a0.length:Int)<=a0.length)&&(decide (0<=(a0.length:Int))&&qg a0.length 32))<|(iter (qp a0) n (0,List.replicate (a0.length:Int).toNat (jQ.mk 0 0 0 0))).bind λw1=>ck (aE (sub w1 0 ((a0.length:Int).toNat)).length ((a0.length:Int).toNat))<|some (sub w1 0 ((a0.length:Int).toNat))
def u6(a0:eD):J Bool:=
 bif decide (0<=a0.x)then(bif decide (a0.x<=1048576)then(bif decide (0<=a0.y)then some (decide (a0.y<=1048576))else some false)else some false)else some false
def gY(a0:jQ):J Bool:=
 some (a0.mT==a0.np)
def Cm(a0:Y Int):Stp Int (Unit⊕Int)
 |v1=>bif decide (v1<a0.length)then(bx a0 v1).bind λx1=>(bif (x1 !=0)then(some x1).map λa=>.inr (.inr a)else some (.inl (i64.wrap (v1+1))))else some (.inr (.inl ()))
def wP(a0:Y Int):J Int:=
 dO (iter (Cm a0) n 0) λ()=>some 0
def tq(a0 a1:eD):J Int:=
 (cmp_Compare_int a0.x a1.x).bind λr1=>(cmp_Compare_int a0.y a1.y).bind λr2=>ck (aE (sub ([r1,r2]:Y Int) 0 2).length 2)<|(wP n (sub ([r1,r2]:Y Int) 0 2)).bind λr3=>some r3
def mH(a0 a1:jQ):J Bool:=
 bif decide ((max (min a0.mT a0.np) (min a1.mT a1.np))<=(min (max a0.mT a0.np) (max a1.mT a1.np)))then some (decide ((max (min a0.rj a0.xc) (min a1.rj a1.xc))<=(min (max a0.rj a0.xc) (max a1.rj a1.xc))))else some false
def rq(a0:Y eD)(r1:Y jQ):Stp Int (Unit⊕Bool)
 |v2=>bif decide (v2<(r1.length:Nat))then ck (cV v2 r1.length)<|(bx r1 ((0:Nat)+v2:Int)).bind λx1=>ck ((r1.length:Int) !=0)<|ck (cV (Int.tmod (i64.wrap (v2+1)) (r1.length:Int)) r1.length)<|(bx r1 ((0:Nat)+(Int.tmod (i64.wrap (v2+1)) (r1.length:Int)):Int)).bind λx2=>((u6 (eD.mk x1.mT x1.rj)).bind λr2=>(bif (!r2)then some true else bif ((x1.mT==x1.np)==(x1.rj==x1.xc))then some true else(gY x1).bind λr3=>(gY x2).bind λr4=>some (r3==r4))).bind λv3=>(bif v3 then(some false).map λa=>.inr (.inr a)else((bif decide (v2>0)then(bx a0 0).bind λx3=>(bx a0 v2).bind λx4=>(tq n x3 x4).bind λr5=>some (decide (r5>=0))else some false)).bind λv4=>(bif v4 then(some false).map λa=>.inr (.inr a)else some (.inl (i64.wrap (v2+1)))))else some (.inr (.inl ()))
def je(r1:Y jQ)(v5:Int):Stp Int (Unit⊕(Int⊕(Unit⊕Bool)))
 |v6=>bif decide (v6<(r1.length:Nat))then((bif (decide ((i64.wrap ((i64.wrap (v5+(r1.length:Nat)))-v6))>1))then ck (cV v5 r1.length)<|(bx r1 ((0:Nat)+v5:Int)).bind λx5=>ck (cV v6 r1.length)<|(bx r1 ((0:Nat)+v6:Int)).bind λx6=>(mH x5 x6).bind λr6=>some r6 else some false)).bind λv7=>(bif v7 then((some false).map λa=>.inr (.inr a)).map λa=>.inr (.inr a)else some (.inl (i64.wrap (v6+1))))else some (.inr (.inl ()))
def ru(r1:Y jQ):Stp Int (Unit⊕Bool)
 |v5=>bif decide (v5<(r1.length:Nat))then dO (iter (je r1 v5) n (i64.wrap (v5+2))) λ()=>some (.inl (i64.wrap (v5+1)))else some (.inr (.inl ()))
def xu(a0:Y eD):J Bool:=
 ((bif decide ((a0.length:Int)<4)then some true else some (decide ((a0.length:Int)>60)))).bind λv1=>(bif v1 then some false else(qM n a0).bind λr1=>dO (iter (rq n a0 r1) n 0) λ()=>dO (iter (ru n r1) n 0) λ()=>ck (cV 0 r1.length)<|(bx r1 ((0:Nat)+0:Int)).bind λx7=>(gY x7).bind λr7=>some (!r7))
def mI(a0:Y eD):Stp (Int×(List Int)) (List Int)
 |(v1,v2)=>bif decide (v1<a0.length)then(bx a0 v1).bind λx1=>ck (bF v2.length v2.length (sub ([x1.x]:Y Int) 0 1).length 1 8)<|gU (v2++(sub ([x1.x]:Y Int) 0 1)) λr2=>ck (aE r2.length r2.length)<|some (.inl (i64.wrap (v1+1),r2))else ck (aE v2.length v2.length)<|some (.inr v2)
def mJ(r4:Unit×(List Int))(r5:Y jQ)(v3:Int):Stp (Int×(List Int)) (List Int)
 |(v5,v6)=>bif decide (v5<(r5.length:Nat))then(ck (cV v5 r5.length)<|(bx r5 ((0:Nat)+v5:Int)).bind λx2=>((gY x2).bind λr6=>(bif (!r6)then ck (cV v3 r4.2.length)<|(bx r4.2 ((0:Nat)+v3:Int)).bind λx3=>(bif decide ((min x2.mT x2.np)<=x3)then ck (cV v3 r4.2.length)<|(bx r4.2 ((0:Nat)+v3:Int)).bind λx4=>some (decide (x4<(max x2.mT x2.np)))else some false)else some false)).bind λv7=>(bif v7 then ck (bF v6.length v6.length (sub ([x2.rj]:Y Int) 0 1).length 1 8)<|gU (v6++(sub ([x2.rj]:Y Int) 0 1)) λr7=>ck (aE r7.length r7.length)<|some r7 else ck (aE v6.length v6.length)<|some v6):J ((List Int))).bind λv8=>ck (aE v8.length v8.length)<|some (.inl (i64.wrap (v5+1),v8))else ck (aE v6.length v6.length)<|some (.inr v6)
def jF(r4:Unit×(List Int))(v3:Int)(w2 r8:Y Int):Stp (Int×(List ax)) (List ax)
 |(v9,v10)=>bif decide ((i64.wrap (v9+1))<(w2.length:Nat))then ck (cV v3 r4.2.length)<|(bx r4.2 ((0:Nat)+v3:Int)).bind λx5=>ck (cV v9 w2.length)<|(bx r8 ((0:Nat)+v9:Int)).bind λx6=>ck (cV (i64.wrap (v3+1)) r4.2.length)<|(bx r4.2 ((0:Nat)+(i64.wrap (v3+1)):Int)).bind λx7=>ck (cV (i64.wrap (v9+1)) w2.length)<|(bx r8 ((0:Nat)+(i64.wrap (v9+1)):Int)).bind λx8=>ck (bF v10.length v10.length (sub ([ax.mk x5 x6 x7 x8]:Y ax) 0 1).length 1 32)<|gU (v10++(sub ([ax.mk x5 x6 x7 x8]:Y ax) 0 1)) λr9=>ck (aE r9.length r9.length)<|some (.inl (i64.wrap (v9+2),r9))else ck (aE v10.length v10.length)<|some (.inr v10)
def mK(r4:Unit×(List Int))(r5:Y jQ):Stp (Int×(List ax)) (List ax)
 |(v3,v4)=>bif decide (v3<(i64.wrap ((r4.2.length:Nat)-1)))then ck (aE 0 ([]:Y Int).length)<|(iter (mJ r4 r5 v3) n (0,[])).bind λw2=>ck (aE w2.length w2.length)<|(l8 n w2).bind λr8=>ck (aE v4.length v4.length)<|(iter (jF r4 v3 w2 r8) n (0,v4)).bind λw3=>ck (aE w3.length w3.length)<|some (.inl (i64.wrap (v3+1),w3))else ck (aE v4.length v4.length)<|some (.inr v4)
def u7(a0:Y eD):J ((List ax)×Int):=
 (xu n a0).bind λr1=>(bif (!r1)then some ([],10)else ck (aE 0 ([]:Y Int).length)<|(iter (mI a0) n (0,[])).bind λw1=>ck (aE w1.length w1.length)<|(l8 n w1).bind λr3=>ck (aE w1.length r3.length)<|(kP n r3).bind λr4=>(qM n a0).bind λr5=>ck (aE 0 ([]:Y ax).length)<|(iter (mK n r4 r5) n (0,[])).bind λw4=>(bif decide ((w4.length:Int)>200)then some ([],6)else ck (aE (sub w4 0 w4.length).length w4.length)<|some (sub w4 0 w4.length,0)))
def yX(a0:fO):J (List ax):=
 (u7 n a0.corners).bind λr1=>(bif (r1.2 !=0)then some []else ck (aE (sub r1.1 0 r1.1.length).length r1.1.length)<|some (sub r1.1 0 r1.1.length))
def rz(a1:Y ax)(x1:ax):Stp (Int×Int×Int×Int) (Int×Int×Int)
 |(v5,v6,v7,v8)=>bif decide (v6<a1.length)then((bx a1 v6).bind λx2=>(uj x1 x2).bind λr1=>(bif (!r1.2)then some (v5,v7,v8)else(zT r1.1).bind λr2=>(cmp_Compare_int r1.1.x0 v7).bind λr3=>(cmp_Compare_int r1.1.y0 v8).bind λr4=>ck (aE (sub ([r3,r4]:Y Int) 0 2).length 2)<|(wP n (sub ([r3,r4]:Y Int) 0 2)).bind λr5=>(bif decide (r5<0)then some (i64.wrap (v5+r2),r1.1.x0,r1.1.y0)else some (i64.wrap (v5+r2),v7,v8))):J (Int×Int×Int)).bind λ(v9,v10,v11)=>some (.inl (v9,i64.wrap (v6+1),v10,v11))else some (.inr (v5,v7,v8))
def rC(a0 a1:Y ax):Stp (Int×Int×Int×Int) (Int×Int×Int)
 |(v1,v2,v3,v4)=>bif decide (v2<a0.length)then(bx a0 v2).bind λx1=>(iter (rz n a1 x1) n (v1,0,v3,v4)).bind λ(w1,w2,w3)=>some (.inl (w1,i64.wrap (v2+1),w2,w3))else some (.inr (v1,v3,v4))
def xw(a0 a1:Y ax):J (Int×eD):=
 (iter (rC n a0 a1) n (0,0,1048576,0)).bind λ(w4,w5,w6)=>some (w4,eD.mk w5 w6)
def rD(a0:bO)(a1:Y ax):Stp (Int×(List Int)) (List Int)
 |(v1,v2)=>bif decide (v1<a0.zones.length)then(bx a0.zones v1).bind λx1=>(yX n x1).bind λr2=>ck (aE (sub r2 0 r2.length).length r2.length)<|(xw n a1 (sub r2 0 r2.length)).bind λr3=>ck (bF v2.length v2.length (sub ([r3.1]:Y Int) 0 1).length 1 8)<|gU (v2++(sub ([r3.1]:Y Int) 0 1)) λr4=>ck (aE r4.length r4.length)<|some (.inl (i64.wrap (v1+1),r4))else ck (aE v2.length v2.length)<|some (.inr v2)
def xA(a0:bO)(a1:Y ax):J (List Int):=
 (l9 n a1).bind λr1=>(bif (!r1)then some []else ck (aE 0 ([]:Y Int).length)<|(iter (rD n a0 a1) n (0,[])).bind λw1=>ck (aE (sub w1 0 w1.length).length w1.length)<|some (sub w1 0 w1.length))
def rE(a0:bO)(r1:Y Int):Stp (Int×Int) Int
 |(v1,v2)=>bif decide (v2<(r1.length:Nat))then(ck (cV v2 r1.length)<|(bx r1 ((0:Nat)+v2:Int)).bind λx1=>((bx a0.zones v2).bind λx2=>(bif (!x2.overlay)then(bif decide (x1>0)then(bif decide (v1<0)then some true else ck (cV v1 r1.length)<|(bx r1 ((0:Nat)+v1:Int)).bind λx3=>some (decide (x1>x3)))else some false)else some false)).bind λv3=>(bif v3 then some v2 else some v1):J Int).bind λv4=>some (.inl (v4,i64.wrap (v2+1)))else some (.inr v1)
def yY(a0:bO)(r1:Y Int)(w1:Int):Stp (Int×(List ByteArray)) (List ByteArray)
 |(v5,v6)=>bif decide (v5<(r1.length:Nat))then(ck (cV v5 r1.length)<|(bx r1 ((0:Nat)+v5:Int)).bind λx4=>((bif (v5==w1)then some true else(bx a0.zones v5).bind λx5=>(bif x5.overlay then some (decide (x4>0))else some false))).bind λv7=>(bif v7 then(bx a0.zones v5).bind λx6=>ck (bF v6.length v6.length (sub ([x6.name]:Y ByteArray) 0 1).length 1 16)<|gU (v6++(sub ([x6.name]:Y ByteArray) 0 1)) λr2=>ck (aE r2.length r2.length)<|some r2 else ck (aE v6.length v6.length)<|some v6):J ((List ByteArray))).bind λv8=>ck (aE v8.length v8.length)<|some (.inl (i64.wrap (v5+1),v8))else ck (aE v6.length v6.length)<|some (.inr v6)
def D8(a0:bO)(a1:Y ax):J (List ByteArray):=
 (xA n a0 a1).bind λr1=>(iter (rE a0 r1) n ((-1),0)).bind λw1=>ck (aE 0 ([]:Y ByteArray).length)<|(iter (yY a0 r1 w1) n (0,[])).bind λw2=>ck (aE (sub w2 0 w2.length).length w2.length)<|some (sub w2 0 w2.length)
def Br(a0:fq)(a1:aQ):J (nG×Int):=
 (rf n a0.land a1.lot).bind λr1=>(bif (!r1.2)then some (nG.mk ([]) ([]) ([]) ([]) ([]) ([]) ([]) 0 ([]) ([]) ([]) ([]) ([]) 0 0 ([]) ([]) 0 ([]) ([]) ([]),4)else(qa n (bO.mk a0.cL a0.cw a0.cz a0.az a0.cT a0.cW a0.d6 a0.cX) r1.1 a1).bind λr2=>(bif (!r2)then some (nG.mk ([]) ([]) ([]) ([]) ([]) ([]) ([]) 0 ([]) ([]) ([]) ([]) ([]) 0 0 ([]) ([]) 0 ([]) ([]) ([]),1)else(uZ n a1).bind λr3=>(D8 n (bO.mk a0.cL a0.cw a0.cz a0.az a0.cT a0.cW a0.d6 a0.cX) r1.1.area).bind λr4=>ck (aE (sub r3 0 r3.length).length r3.length)<|ck (aE (sub r4 0 r4.length).length r4.length)<|some (nG.mk a0.cL a0.cw a0.cz a0.az a0.cT a0.cW a0.d6 a0.cX a0.land a0.cM a0.windows a0.built a0.base r1.1.id r1.1.owner r1.1.area r1.1.from_ a1.lot a1.phases (sub r3 0 r3.length) (sub r4 0 r4.length),0)))
def kM(a0:ByteArray)(a1:Y ByteArray):J Bool:=
 (eF n a1 a0).bind λr1=>some r1
def FE(a0:Y ByteArray)(a1:(ByteArray×Unit)->J Bool):Stp Int (Unit⊕Int)
 |v1=>bif decide (v1<a0.length)then(bx a0 v1).bind λx1=>(a1 (x1,())).bind λr1=>(bif r1 then(some v1).map λa=>.inr (.inr a)else some (.inl (i64.wrap (v1+1))))else some (.inr (.inl ()))
def rX(a0:Y ByteArray)(a1:(ByteArray×Unit)->J Bool):J Int:=
 dO (iter (FE a0 a1) n 0) λ()=>some (-1)
def gm(a0:Y ByteArray)(a1:(ByteArray×Unit)->J Bool):J Bool:=
 (rX n a0 a1).bind λr1=>some (decide (r1>=0))
def sI(a0:dw)(a1:Y ByteArray):J Bool:=
 bif ((a0.zones.length:Int)==0)then(gm n a0.except (λ (y1:ByteArray×Unit)=>kM n y1.1 a1)).bind λr1=>some (!r1)else(gm n a0.zones (λ (y2:ByteArray×Unit)=>kM n y2.1 a1)).bind λr2=>(bif r2 then(gm n a0.except (λ (y3:ByteArray×Unit)=>kM n y3.1 a1)).bind λr3=>some (!r3)else some false)
def tu(a0:bO)(a1:Y ByteArray)(a2:Int):Stp (Int×(List Int)) (List Int)
 |(v1,v2)=>bif decide (v1<a0.rules.length)then((bx a0.rules v1).bind λx1=>((bif decide (x1.from_<=a2)then(bif (x1.lr==0)then(sI n x1 a1).bind λr1=>some r1 else bif decide (a2<x1.lr)then(sI n x1 a1).bind λr2=>some r2 else some false)else some false)).bind λv3=>(bif v3 then ck (bF v2.length v2.length (sub ([v1]:Y Int) 0 1).length 1 8)<|gU (v2++(sub ([v1]:Y Int) 0 1)) λr3=>ck (aE r3.length r3.length)<|some r3 else ck (aE v2.length v2.length)<|some v2):J ((List Int))).bind λv4=>ck (aE v4.length v4.length)<|some (.inl (i64.wrap (v1+1),v4))else ck (aE v2.length v2.length)<|some (.inr v2)
def ve(a0:bO)(a1:Y ByteArray)(a2:Int):J (List Int):=
 ck (aE 0 ([]:Y Int).length)<|(iter (tu n a0 a1 a2) n (0,[])).bind λw1=>ck (aE (sub w1 0 w1.length).length w1.length)<|some (sub w1 0 w1.length)
def zW(a0:Int):J (Int×Bool):=
 ((bif (a0==0)then some (a0==0)else bif (a0==1)then some (a0==1)else bif (a0==2)then some (a0==2)else some (a0==3))).bind λv1=>(bif v1 then some (0,true)else((bif (a0==9)then some (a0==9)else some (a0==15))).bind λv2=>(bif v2 then some (1,true)else bif (a0==16)then some (3,true)else bif decide (a0>=0)then some (2,decide (a0<17))else some (2,false)))
def yZ(n:Nat)(rc:(dD)->(Int)->J Int)(a0:dD)(a1:Int):Stp (Int×Int) Int
 |(v2,v3)=>bif decide (v3<a0.args.length)then(bx a0.args v3).bind λx1=>(rc (dD.mk x1.op x1.n x1.s x1.key x1.args) (i64.wrap (a1+1))).bind λr2=>some (.inl (max v2 r2,i64.wrap (v3+1)))else some (.inr v2)
def Bt(rc:(dD)->(Int)->J Int)(a0:dD)(a1:Int):J Int:=
 (zW a0.op).bind λr1=>((bif (!r1.2)then some true else bif (r1.1 !=a0.args.length)then some true else some (decide (a1>=12)))).bind λv1=>(bif v1 then some 13 else(iter (yZ n rc a0 a1) n (0,0)).bind λw1=>some (i64.wrap (w1+1)))
def FH(rc:(dD)->(Int)->J Int):cy xx:=⟨[.d (.st SI.Expr),.d (.int .i64)],[.d (.int .i64)],λa=>rc a.1 a.2.1,none⟩
def ul(n:Nat):Nat->(dD)->(Int)->J Int
 | 0=>λ_ _=>none
 |m+1=>Bt n (ul n m)
def Rn(a0:dD)(a1:Int):J Int:=ul n n a0 a1
def Js(a0:dD):J Bool:=
 (Rn n (dD.mk a0.op a0.n a0.s a0.key a0.args) 0).bind λr1=>some (decide (r1<=12))
mutual
def toE:dD->ET
 |⟨op,_,s,_,args⟩=>.mk op s (Jt args)
def Jt:List dD->List ET
 |[]=>[]
 |x::xs=>toE x::Jt xs
end
def toD(d:gW):ByteArray×ET:=(d.name,.mk d.j8 d.lL (Jt d.fh))
def lW(a0:Y gW):J ((List gW)×(List (List Int))):=ck (Nat.ble (tm (a0.map toD)) 4000000)<|some (a0,qh (a0.map toD))
def sJ(a0:Y Int)(a1:Int):J (List Int):=match a0 with
 |[x]=>ck (decide (0<=a1)&&decide (a1<=1000000000000))<|some (List.replicate a1.toNat x)
 |_=>none
def gq(a0:qI)(r1:Y Int)(x2:Int):Stp (Int×Int×(List Int)×(List Int)) (Int×(List Int)×(List Int))
 |(v4,v5,v6,v7)=>bif decide (v5<a0.uses.length)then((bx a0.uses v5).bind λx3=>(ck (cV v5 r1.length)<|(bx v6 ((0:Nat)+v5:Int)).bind λx4=>(bif decide (x4<0)then(pI n x3 x2).bind λr2=>some r2 else some false)).bind λv8=>(bif v8 then ck (cV x2 r1.length)<|(bx v6 ((0:Nat)+x2:Int)).bind λx5=>ck (cV v5 r1.length)<|(bx v6 ((0:Nat)+v5:Int)).bind λx6=>ck (bF (Xi (v4.toNat) v7).length (v7.length-v4.toNat) (sub ([v5]:Y Int) 0 1).length 1 8)<|gU ((Xi (v4.toNat) v7)++(sub ([v5]:Y Int) 0 1)) λr3=>ck (aE (0+r3.length) r3.length)<|some ((0:Nat),v6.set ((0:Nat)+v5:Int).toNat (i64.wrap (x5+1)),r3)else ck (aE ((v4.toNat)+(v7.length-v4.toNat)) v7.length)<|some ((v4.toNat:Nat),v6,v7)):J (Int×(List Int)×(List Int))).bind λ(v9,v10,v11)=>ck (aE ((v9.toNat)+(v11.length-v9.toNat)) v11.length)<|some (.inl ((v9.toNat:Nat),i64.wrap (v5+1),v10,v11))else ck (aE ((v4.toNat)+(v7.length-v4.toNat)) v7.length)<|some (.inr ((v4.toNat:Nat),v6,v7))
def dX(a0:qI)(r1:Y Int):Stp (Int×(List Int)×(List Int)) (List Int)
 |(v1,v2,v3)=>bif (decide ((((v3.length-(v1:Int).toNat):Nat):Int)>0))then ck (cV 0 (v3.length-v1.toNat))<|(bx v3 ((v1.toNat:Nat)+0:Int)).bind λx2=>ck (Cc 1 ((v3.length-v1.toNat):Nat) (v3.length-v1.toNat))<|ck (aE ((v1.toNat+1)+((v3.length-v1.toNat)-1)) v3.length)<|(iter (gq n a0 r1 x2) n (((v1.toNat+1):Nat),0,v2,v3)).bind λ(w1,w2,w3)=>ck (aE ((w1.toNat)+(w3.length-w1.toNat)) w3.length)<|some (.inl ((w1.toNat:Nat),w2,w3))else some (.inr v2)
def j6(a0:qI)(a1:Int):J (List Int):=
 ck (aE (sub ([(-1)]:Y Int) 0 1).length 1)<|(sJ (sub ([(-1)]:Y Int) 0 1) a0.defs.length).bind λr1=>ck (cV a1 r1.length)<|(bx r1 ((0:Nat)+a1:Int)).bind λx1=>ck (aE (0+1) ([a1]:Y Int).length)<|(iter (dX n a0 r1) n ((0:Nat),r1.set ((0:Nat)+a1:Int).toNat 0,([a1]:Y Int))).bind λw4=>ck (aE (sub w4 0 r1.length).length r1.length)<|some (sub w4 0 r1.length)
def cmp_isNaN_string(a0:ByteArray):J Bool:=
 some (!(ByteArray.toList a0==ByteArray.toList a0))
def oP(a0 a1:ByteArray):J Int:=
 (cmp_isNaN_string a0).bind λr1=>(cmp_isNaN_string a1).bind λr2=>(bif r1 then(bif r2 then some 0 else some (-1))else bif r2 then some 1 else bif (Xe a0 a1)then some (-1)else bif (!(Xe a0 a1 || ByteArray.toList a0==ByteArray.toList a1))then some 1 else some 0)
def mM(a0 a1:Y ByteArray):Stp Int (Unit⊕Int)
 |v1=>bif decide (v1<a0.length)then(bx a0 v1).bind λx1=>(bif decide (v1>=a1.length)then(some 1).map λa=>.inr (.inr a)else(bx a1 v1).bind λx2=>(oP x1 x2).bind λr1=>(bif (r1 !=0)then(some r1).map λa=>.inr (.inr a)else some (.inl (i64.wrap (v1+1)))))else some (.inr (.inl ()))
def mO(a0 a1:Y ByteArray):J Int:=
 dO (iter (mM a0 a1) n 0) λ()=>(bif decide (a0.length<(a1.length:Int))then some (-1)else some 0)
def nJ(a0:Int)(a1:Y Bool):J (Bool×(List Bool)):=
 ck (cV a0 a1.length)<|(bx a1 ((0:Nat)+a0:Int)).bind λx1=>ck (aE a1.length a1.length)<|some ((!x1),a1)
def kg(a0:Y Int):Stp (Int×(List Bool)) ((List Bool)⊕(Int×(List Bool)))
 |(v1,v2)=>bif decide (v1<a0.length)then(bx a0 v1).bind λx1=>ck (aE v2.length v2.length)<|(nJ x1 v2).bind λr1=>(bif r1.1 then(ck (aE r1.2.length r1.2.length)<|some (v1,r1.2)).map λa=>.inr (.inr a)else ck (aE r1.2.length r1.2.length)<|some (.inl (i64.wrap (v1+1),r1.2)))else ck (aE v2.length v2.length)<|some (.inr (.inl v2))
def nR(a0:Y Int)(a1:Y Bool):J (Int×(List Bool)):=
 ck (aE a1.length a1.length)<|dO (iter (kg a0) n (0,a1)) λw1=>ck (aE w1.length w1.length)<|some ((-1),w1)
def iJ(a0:Y Int)(a1:Y Bool):J (Bool×(List Bool)):=
 ck (aE a1.length a1.length)<|(nR n a0 a1).bind λr1=>ck (aE r1.2.length r1.2.length)<|some (decide (r1.1>=0),r1.2)
def iX(a0:qI):Stp (Int×Int×(List Bool)) (Int×(List Bool))
 |(v4,v5,v6)=>bif decide (v5<a0.uses.length)then((bx a0.uses v5).bind λx1=>ck (aE v6.length v6.length)<|(iJ n x1 v6).bind λr1=>(ck (cV v5 r1.2.length)<|(bx r1.2 ((0:Nat)+v5:Int)).bind λx2=>(bif (!x2)then(bif (!r1.1)then(bif decide (v4<0)then some true else(bx a0.defs v5).bind λx3=>(bx a0.defs v4).bind λx4=>some (Xe x3.name x4.name))else some false)else some false)).bind λv7=>(bif v7 then ck (aE r1.2.length r1.2.length)<|some (v5,r1.2)else ck (aE r1.2.length r1.2.length)<|some (v4,r1.2)):J (Int×(List Bool))).bind λ(v8,v9)=>ck (aE v9.length v9.length)<|some (.inl (v8,i64.wrap (v5+1),v9))else ck (aE v6.length v6.length)<|some (.inr (v4,v6))
def lq(a0:qI):Stp (Int×(List Int)×(List Bool)) (List Int)
 |(v1,v2,v3)=>bif decide (v1<a0.defs.length)then ck (aE v3.length v3.length)<|(iter (iX n a0) n ((-1),0,v3)).bind λ(w1,w2)=>ck (cV w1 w2.length)<|(bx w2 ((0:Nat)+w1:Int)).bind λx5=>ck (bF v2.length v2.length (sub ([w1]:Y Int) 0 1).length 1 8)<|gU (v2++(sub ([w1]:Y Int) 0 1)) λr2=>ck (aE r2.length r2.length)<|ck (aE w2.length (w2.set ((0:Nat)+w1:Int).toNat true).length)<|some (.inl (i64.wrap (v1+1),r2,w2.set ((0:Nat)+w1:Int).toNat true))else ck (aE v2.length v2.length)<|some (.inr v2)
def oQ(a0:qI):J (List Int):=
 ck (decide ((a0.defs.length:Int)<=a0.defs.length)&&(decide (0<=(a0.defs.length:Int))&&qg a0.defs.length 1))<|ck (aE 0 ([]:Y Int).length)<|ck (aE ((a0.defs.length:Int).toNat) (List.replicate (a0.defs.length:Int).toNat false).length)<|(iter (lq n a0) n (0,[],List.replicate (a0.defs.length:Int).toNat false)).bind λw3=>ck (aE (sub w3 0 w3.length).length w3.length)<|some (sub w3 0 w3.length)
def iT(r1 x2:Y Int):Stp (Int×Int) Int
 |(v3,v4)=>bif decide (v4<x2.length)then((bx x2 v4).bind λx3=>(ck (cV x3 r1.length)<|(bx r1 ((0:Nat)+x3:Int)).bind λx4=>(bif decide (x4>=0)then(bif decide (v3<0)then some true else ck (cV x3 r1.length)<|(bx r1 ((0:Nat)+x3:Int)).bind λx5=>ck (cV v3 r1.length)<|(bx r1 ((0:Nat)+v3:Int)).bind λx6=>some (decide (x5<x6)))else some false)).bind λv5=>(bif v5 then some x3 else some v3):J Int).bind λv6=>some (.inl (v6,i64.wrap (v4+1)))else some (.inr v3)
def lJ(a0:Int)(a1:Y gW)(a2:Y (List Int))(r1:Y Int):Stp (Int×(List ByteArray)) (Unit⊕((List gW)×(List (List Int))×(List ByteArray)))
 |(v1,v2)=>(bx a1 v1).bind λx1=>ck (bF v2.length v2.length (sub ([x1.name]:Y ByteArray) 0 1).length 1 16)<|gU (v2++(sub ([x1.name]:Y ByteArray) 0 1)) λr2=>(bx a2 v1).bind λx2=>(iter (iT r1 x2) n ((-1),0)).bind λw1=>(bif decide (w1<0)then(ck (aE 0 ([]:Y ByteArray).length)<|some (a1,a2,[])).map λa=>.inr (.inr a)else bif (w1==a0)then(ck (!(r2.length==0)&&aE r2.length r2.length)<|some (a1,a2,r2)).map λa=>.inr (.inr a)else ck (aE r2.length r2.length)<|some (.inl (w1,r2)))
def ko(a0:Int)(a1:Y gW)(a2:Y (List Int)):J ((List gW)×(List (List Int))×(List ByteArray)):=
 (j6 n (qI.mk a1 a2) a0).bind λr1=>ck (aE 0 ([]:Y ByteArray).length)<|dO (iter (lJ n a0 a1 a2 r1) n (a0,[])) λ()=>none
def iA(a0:Y gW):Stp (Int×(List gW)×(List (List Int))×(List ByteArray)) ((List gW)×(List (List Int))×(List ByteArray))
 |(v1,v2,v3,v4)=>bif decide (v1<a0.length)then((ko n v1 v2 v3).bind λr1=>((bif r1.2.2.length==0 then some true else some false)).bind λv5=>(bif v5 then ck (aE v4.length v4.length)<|some (r1.1,r1.2.1,v4)else((bif v4.length==0 then some true else bif decide ((r1.2.2.length:Nat)<(v4.length:Int))then some true else bif ((r1.2.2.length:Nat)==(v4.length:Int))then ck (aE (sub r1.2.2 0 r1.2.2.length).length r1.2.2.length)<|ck (aE (sub v4 0 v4.length).length v4.length)<|(mO n (sub r1.2.2 0 r1.2.2.length) (sub v4 0 v4.length)).bind λr2=>some (decide (r2<0))else some false)).bind λv6=>(bif v6 then ck (aE r1.2.2.length r1.2.2.length)<|some (r1.1,r1.2.1,r1.2.2)else ck (aE v4.length v4.length)<|some (r1.1,r1.2.1,v4))):J ((List gW)×(List (List Int))×(List ByteArray))).bind λ(v7,v8,v9)=>ck (aE v9.length v9.length)<|some (.inl (i64.wrap (v1+1),v7,v8,v9))else ck (aE v4.length v4.length)<|some (.inr (v2,v3,v4))
def ji(a0:Y gW)(a1:Y (List Int)):J ((List gW)×(List (List Int))×(List ByteArray)):=
 ck (aE 0 ([]:Y ByteArray).length)<|(iter (iA n a0) n (0,a0,a1,[])).bind λ(w1,w2,w3)=>ck (aE w3.length w3.length)<|some (w1,w2,w3)
def pM(r1:Y ByteArray):Stp (Int×(List (ByteArray×Bool))) (List (ByteArray×Bool))
 |(v1,v2)=>bif decide (v1<(r1.length:Nat))then ck (cV v1 r1.length)<|(bx r1 ((0:Nat)+v1:Int)).bind λx1=>some (.inl (i64.wrap (v1+1),GL fg x1 true v2))else some (.inr v2)
def lX(a0:bO):Stp (Int×(List (ByteArray×Bool))) (Unit⊕((List Int)×(List ByteArray)×Int))
 |(v3,v4)=>bif decide (v3<a0.defs.length)then(bx a0.defs v3).bind λx2=>(bif ((gQ fg x2.name v4).getD false)then(some ([],[],5)).map λa=>.inr (.inr a)else some (.inl (i64.wrap (v3+1),GL fg x2.name true v4)))else some (.inr (.inl ()))
def oU(a0:bO):J ((List Int)×(List ByteArray)×Int):=
 (pJ).bind λr1=>(iter (pM r1) n (0,([]:(List (ByteArray×Bool))))).bind λw1=>dO (iter (lX a0) n (0,w1)) λ()=>(lW a0.defs).bind λr2=>(ji n r2.1 r2.2).bind λr3=>((bif r3.2.2.length==0 then some false else some true)).bind λv5=>(bif v5 then ck (aE (sub r3.2.2 0 r3.2.2.length).length r3.2.2.length)<|some ([],sub r3.2.2 0 r3.2.2.length,16)else(oQ n (qI.mk r3.1 r3.2.1)).bind λr4=>ck (aE (sub r4 0 r4.length).length r4.length)<|some (sub r4 0 r4.length,[],0))
def Bu(a0:bQ)(a1:dD):J Bool:=
 some (ByteArray.toList a0.name==ByteArray.toList a1.s)
def Bv(a0:bg)(a1:dD):J Bool:=
 some (ByteArray.toList a0.name==ByteArray.toList a1.key)
def zX(a0:Bool):J Int:=
 bif a0 then some 1 else some 0
def yc(a0 a1:Int):J Int:=
 bif (a1==0)then some 0 else ck (a1 !=0)<|(ck (a1 !=0)<|((bif ((Int.tmod a0 a1) !=0)then some (!((decide ((Int.tmod a0 a1)<0))==(decide (a1<0))))else some false)).bind λv1=>(bif v1 then some (i64.wrap ((i64.wrap (Int.tdiv a0 a1))-1))else some (i64.wrap (Int.tdiv a0 a1))):J Int).bind λv2=>some v2
def KJ(a0 a1 a2:Int):J Int:=
 bif (a0==4)then some (i64.wrap (a1+a2))else bif (a0==5)then some (i64.wrap (a1-a2))else bif (a0==6)then some (i64.wrap (a1*a2))else bif (a0==7)then(yc a1 a2).bind λr1=>some r1 else bif (a0==8)then(bif (a2==0)then some 0 else(yc a1 a2).bind λr2=>some (i64.wrap (a1-(i64.wrap (r2*a2)))))else bif (a0==10)then(zX (a1==a2)).bind λr3=>some r3 else bif (a0==11)then(zX (decide (a1<a2))).bind λr4=>some r4 else bif (a0==12)then(zX (decide (a1<=a2))).bind λr5=>some r5 else bif (a0==13)then(bif (a1 !=0)then(zX (a2 !=0)).bind λr6=>some r6 else(zX false).bind λr7=>some r7)else bif (a1 !=0)then(zX true).bind λr8=>some r8 else(zX (a2 !=0)).bind λr9=>some r9
def jG(a0:Y gW)(a1:Y bQ)(a2:Y fO)(a3:Y dw)(a4:Y jI)(a5:Y iG)(a6:Y dM)(a7:Int)(a8:Y ByteArray)(a9:dD)(lj:Y (ByteArray×Int)):J (Int×(List (ByteArray×Int))):=
 (oK n a1 (λ (y1:bQ×Unit)=>Bu y1.1 (dD.mk a9.op a9.n a9.s a9.key a9.args))).bind λr1=>(bif decide (r1<0)then some (0,lj)else(bx a1 r1).bind λx1=>(jd n x1.rows (λ (y2:bg×Unit)=>Bv y2.1 (dD.mk a9.op a9.n a9.s a9.key a9.args))).bind λr2=>(bif decide (r2>=0)then(bx x1.rows r2).bind λx2=>some (x2.n,lj)else some (x1.sk,lj)))
def fB(n:Nat)(rc:((List gW))->((List bQ))->((List fO))->((List dw))->((List jI))->((List iG))->((List dM))->(Int)->((List ByteArray))->(dD)->((List (ByteArray×Int)))->J (Int×(List (ByteArray×Int))))(a0:Y gW)(a1:Y bQ)(a2:Y fO)(a3:Y dw)(a4:Y jI)(a5:Y iG)(a6:Y dM)(a7:Int)(a8:Y ByteArray)(a9:dD):Stp (Int×(List (ByteArray×Int))×(List Int)) ((List (ByteArray×Int))×(List Int))
 |(v1,v2,v3)=>bif decide (v1<a9.args.length)then((bx a9.args v1).bind λx1=>((bif (a9.op==16)then(bif decide (v1>0)then ck (cV 0 v3.length)<|(bx v3 ((0:Nat)+0:Int)).bind λx2=>some (!((x2 !=0)==(v1==1)))else some false)else some false)).bind λv4=>(bif v4 then ck (bF v3.length v3.length (sub ([0]:Y Int) 0 1).length 1 8)<|gU (v3++(sub ([0]:Y Int) 0 1)) λr1=>ck (aE r1.length r1.length)<|some (v2,r1)else(rc a0 a1 a2 a3 a4 a5 a6 a7 a8 (dD.mk x1.op x1.n x1.s x1.key x1.args) v2).bind λr2=>ck (bF v3.length v3.length (sub ([r2.1]:Y Int) 0 1).length 1 8)<|gU (v3++(sub ([r2.1]:Y Int) 0 1)) λr3=>ck (aE r3.length r3.length)<|some (r2.2,r3)):J ((List (ByteArray×Int))×(List Int))).bind λ(v5,v6)=>ck (aE v6.length v6.length)<|some (.inl (i64.wrap (v1+1),v5,v6))else ck (aE v3.length v3.length)<|some (.inr (v2,v3))
def fH(rc:((List gW))->((List bQ))->((List fO))->((List dw))->((List jI))->((List iG))->((List dM))->(Int)->((List ByteArray))->(dD)->((List (ByteArray×Int)))->J (Int×(List (ByteArray×Int))))(a0:Y gW)(a1:Y bQ)(a2:Y fO)(a3:Y dw)(a4:Y jI)(a5:Y iG)(a6:Y dM)(a7:Int)(a8:Y ByteArray)(a9:dD)(lj:Y (ByteArray×Int)):J (Int×(List (ByteArray×Int))):=
 ck (aE 0 ([]:Y Int).length)<|(iter (fB n rc a0 a1 a2 a3 a4 a5 a6 a7 a8 a9) n (0,lj,[])).bind λ(w1,w2)=>(bif (a9.op==0)then some (a9.n,w1)else bif (a9.op==1)then some ((gQ fg a9.s w1).getD 0,w1)else bif (a9.op==2)then(jG n a0 a1 a2 a3 a4 a5 a6 a7 a8 (dD.mk a9.op a9.n a9.s a9.key a9.args) w1).bind λr4=>some (r4.1,r4.2)else bif (a9.op==3)then(eF n a8 a9.s).bind λr5=>(zX r5).bind λr6=>some (r6,w1)else bif (a9.op==9)then ck (cV 0 w2.length)<|(bx w2 ((0:Nat)+0:Int)).bind λx3=>some (i64.wrap (0-x3),w1)else bif (a9.op==15)then ck (cV 0 w2.length)<|(bx w2 ((0:Nat)+0:Int)).bind λx4=>(zX (x4==0)).bind λr7=>some (r7,w1)else bif (a9.op==16)then ck (cV 0 w2.length)<|(bx w2 ((0:Nat)+0:Int)).bind λx5=>(bif (x5 !=0)then ck (cV 1 w2.length)<|(bx w2 ((0:Nat)+1:Int)).bind λx6=>some (x6,w1)else ck (cV 2 w2.length)<|(bx w2 ((0:Nat)+2:Int)).bind λx7=>some (x7,w1))else ck (cV 0 w2.length)<|(bx w2 ((0:Nat)+0:Int)).bind λx8=>ck (cV 1 w2.length)<|(bx w2 ((0:Nat)+1:Int)).bind λx9=>(KJ a9.op x8 x9).bind λr8=>some (r8,w1))
def FI(rc:((List gW))->((List bQ))->((List fO))->((List dw))->((List jI))->((List iG))->((List dM))->(Int)->((List ByteArray))->(dD)->((List (ByteArray×Int)))->J (Int×(List (ByteArray×Int)))):ea xx:=⟨[.a [.v (.sl (.st SI.Def)),.v (.sl (.st SI.Table)),.v (.sl (.st SI.Zone)),.v (.sl (.st SI.Rule)),.v (.sl (.st SI.Cap)),.v (.sl (.st SI.View)),.v (.sl (.st SI.hZ)),.v (.int .i64),.mp 0,.v (.sl .str)],.v (.st SI.Expr)],[(0,.m .str (.int .i64))],[.v (.int .i64)],[(0,.m .str (.int .i64))],λv=>rc (v.1) (v.2.1) (v.2.2.1) (v.2.2.2.1) (v.2.2.2.2.1) (v.2.2.2.2.2.1) (v.2.2.2.2.2.2.1) (v.2.2.2.2.2.2.2.1) (v.2.2.2.2.2.2.2.2.1) (v.2.2.2.2.2.2.2.2.2.1) (v.2.2.2.2.2.2.2.2.2.2)⟩
def kr(rc:((List gW))->((List bQ))->((List fO))->((List dw))->((List jI))->((List iG))->((List dM))->(Int)->((List ByteArray))->(dD)->((List (ByteArray×Int)))->J (Int×(List (ByteArray×Int)))):cy xx:=⟨[],[.d .bool],λ_=>none,some (FI rc)⟩
def bS(n:Nat):Nat->((List gW))->((List bQ))->((List fO))->((List dw))->((List jI))->((List iG))->((List dM))->(Int)->((List ByteArray))->(dD)->((List (ByteArray×Int)))->J (Int×(List (ByteArray×Int)))
 | 0=>λ_ _ _ _ _ _ _ _ _ _ _=>none
 |m+1=>fH n (bS n m)
def gD(a0:Y gW)(a1:Y bQ)(a2:Y fO)(a3:Y dw)(a4:Y jI)(a5:Y iG)(a6:Y dM)(a7:Int)(a8:Y ByteArray)(a9:dD)(lj:Y (ByteArray×Int)):J (Int×(List (ByteArray×Int))):=bS n n a0 a1 a2 a3 a4 a5 a6 a7 a8 a9 lj
def jf(n:Nat)(a1:Y bg):Stp (Int×(List (ByteArray×Int))×(List (ByteArray×Bool))) ((List (ByteArray×Int))×(List (ByteArray×Bool)))
 |(v1,v2,v3)=>bif decide (v1<a1.length)then((bx a1 v1).bind λx1=>(bif (!((gQ fg x1.name v3).getD false))then some (GL fg x1.name x1.n v2,GL fg x1.name true v3)else some (v2,v3)):J ((List (ByteArray×Int))×(List (ByteArray×Bool)))).bind λ(v4,v5)=>some (.inl (i64.wrap (v1+1),v4,v5))else some (.inr (v2,v3))
def gZ(a0:bO)(a2:Y ByteArray)(w2:Y (ByteArray×Bool))(r1:(List Int)×(List ByteArray)×Int):Stp (Int×(List (ByteArray×Int))×(List Int)) ((List (ByteArray×Int))×(List Int))
 |(v6,v7,v8)=>bif decide (v6<(r1.1.length:Nat))then(ck (cV v6 r1.1.length)<|(bx r1.1 ((0:Nat)+v6:Int)).bind λx2=>(bx a0.defs x2).bind λx3=>((Js n (dD.mk x3.j8 x3.mS x3.lL x3.ju x3.fh)).bind λr2=>(bif r2 then(gD n a0.defs a0.tables a0.zones a0.rules a0.caps a0.views a0.xp a0.hours a2 (dD.mk x3.j8 x3.mS x3.lL x3.ju x3.fh) v7).bind λr3=>ck (cV x2 ((a0.defs.length:Int).toNat))<|(bx v8 ((0:Nat)+x2:Int)).bind λx4=>some (r3.2,v8.set ((0:Nat)+x2:Int).toNat r3.1)else some (v7,v8)):J ((List (ByteArray×Int))×(List Int))).bind λ(v9,v10)=>(bif (!((gQ fg x3.name w2).getD false))then ck (cV x2 ((a0.defs.length:Int).toNat))<|(bx v10 ((0:Nat)+x2:Int)).bind λx5=>some (GL fg x3.name x5 v9,v10)else some (v9,v10)):J ((List (ByteArray×Int))×(List Int))).bind λ(v11,v12)=>some (.inl (i64.wrap (v6+1),v11,v12))else some (.inr (v7,v8))
def nK(a0:bO)(a1:Y bg)(a2:Y ByteArray):J ((List gW)×(List bQ)×(List fO)×(List dw)×(List jI)×(List iG)×(List dM)×Int×(List ByteArray)×(List (ByteArray×Int))×(List Int)):=
 (iter (jf n a1) n (0,([]:(List (ByteArray×Int))),([]:(List (ByteArray×Bool))))).bind λ(w1,w2)=>ck (decide ((a0.defs.length:Int)<=a0.defs.length)&&(decide (0<=(a0.defs.length:Int))&&qg a0.defs.length 8))<|(oU n a0).bind λr1=>(bif (r1.2.2 !=0)then ck (aE ((a0.defs.length:Int).toNat) (List.replicate (a0.defs.length:Int).toNat (0:Int)).length)<|some (a0.defs,a0.tables,a0.zones,a0.rules,a0.caps,a0.views,a0.xp,a0.hours,a2,w1,List.replicate (a0.defs.length:Int).toNat 0)else(iter (gZ n a0 a2 w2 r1) n (0,w1,List.replicate (a0.defs.length:Int).toNat 0)).bind λ(w3,w4)=>ck (aE ((a0.defs.length:Int).toNat) w4.length)<|some (a0.defs,a0.tables,a0.zones,a0.rules,a0.caps,a0.views,a0.xp,a0.hours,a2,w3,w4))
def Bw(a0:bO)(a1:Y bg)(a2:Y ByteArray)(a3:dD):J Int:=
 (Js n (dD.mk a3.op a3.n a3.s a3.key a3.args)).bind λr1=>(bif (!r1)then some 0 else(nK n a0 a1 a2).bind λr2=>(gD n r2.1 r2.2.1 r2.2.2.1 r2.2.2.2.1 r2.2.2.2.2.1 r2.2.2.2.2.2.1 r2.2.2.2.2.2.2.1 r2.2.2.2.2.2.2.2.1 r2.2.2.2.2.2.2.2.2.1 (dD.mk a3.op a3.n a3.s a3.key a3.args) r2.2.2.2.2.2.2.2.2.2.1).bind λr3=>some r3.1)
def Bz(a0:Y ax):Stp (Bool×Int×Int×Int×Int×Int) (Bool×Int×Int×Int×Int)
 |(v1,v2,v3,v4,v5,v6)=>bif decide (v2<a0.length)then((bx a0 v2).bind λx1=>(qm x1).bind λr1=>(bif (!r1)then some (v1,v3,v4,v5,v6)else bif (!v1)then some (true,x1.x0,x1.y0,x1.x1,x1.y1)else some (v1,min v3 x1.x0,min v4 x1.y0,max v5 x1.x1,max v6 x1.y1)):J (Bool×Int×Int×Int×Int)).bind λ(v7,v8,v9,v10,v11)=>some (.inl (v7,i64.wrap (v2+1),v8,v9,v10,v11))else some (.inr (v1,v3,v4,v5,v6))
def Pf(a0:Y ax):J (ax×Bool):=
 (iter (Bz a0) n (false,0,0,0,0,0)).bind λ(w1,w2,w3,w4,w5)=>some (ax.mk w2 w3 w4 w5,w1)
def KL(a0:Y ax):J (ax×Bool):=
 ((bif ((a0.length:Int)==0)then some true else(l9 n a0).bind λr1=>some (!r1))).bind λv1=>(bif v1 then some (ax.mk 0 0 0 0,false)else(Pf n a0).bind λr2=>some (r2.1,r2.2))
def y5(a0:aG):J (List gJ):=
 ck (aE (sub ([ax.mk a0.ct a0.cH a0.co a0.cE]:Y ax) 0 1).length 1)<|ck (aE (sub ([gJ.mk a0.fi a0.ez (sub ([ax.mk a0.ct a0.cH a0.co a0.cE]:Y ax) 0 1)]:Y gJ) 0 1).length 1)<|some (sub ([gJ.mk a0.fi a0.ez (sub ([ax.mk a0.ct a0.cH a0.co a0.cE]:Y ax) 0 1)]:Y gJ) 0 1)
def GU(a0:Y eu)(a1:(eu×Unit)->J Bool):Stp Int (Unit⊕Int)
 |v1=>bif decide (v1<a0.length)then(bx a0 v1).bind λx1=>(a1 (x1,())).bind λr1=>(bif r1 then(some v1).map λa=>.inr (.inr a)else some (.inl (i64.wrap (v1+1))))else some (.inr (.inl ()))
def tN(a0:Y eu)(a1:(eu×Unit)->J Bool):J Int:=
 dO (iter (GU a0 a1) n 0) λ()=>some (-1)
def lu(a0:Y eu)(a1:(eu×Unit)->J Bool):J Bool:=
 (tN n a0 a1).bind λr1=>some (decide (r1>=0))
def oV(a0 a1 a2:Int):J Bool:=
 bif decide (a1<=a0)then some (decide (a0<=a2))else some false
def BA(a0:eu):J Bool:=
 (oV a0.side 0 3).bind λr1=>(bif r1 then(oV a0.base 0 4096).bind λr2=>(bif r2 then(oV a0.num 0 4096).bind λr3=>(bif r3 then(oV a0.den 1 4096).bind λr4=>some r4 else some false)else some false)else some false)
def vg(a0:eu):J Bool:=
 (BA a0).bind λr1=>some (!r1)
def BB(a0:ax)(a1:Y eu):J Bool:=
 (qm a0).bind λr1=>(bif r1 then(lu n a1 (λ (y1:eu×Unit)=>vg y1.1)).bind λr2=>some (!r2)else some false)
def VX(a0 a1:Y ax):J Bool:=
 (p8 n a0 a1).bind λr1=>some r1
def BD(a0:Y gJ):Stp Int (Unit⊕Bool)
 |v1=>bif decide (v1<a0.length)then dO ((bx a0 v1).bind λx1=>((bif decide (x1.z0<0)then some true else bif decide (x1.z0>=x1.z1)then some true else bif decide (x1.z1>4096)then some true else bif ((x1.area.length:Int)==0)then some true else(l9 n x1.area).bind λr1=>some (!r1))).bind λv2=>(bif v2 then((some false).map λa=>.inr (.inr a)).map .inr else bif (v1==0)then some (.inl ())else(bx a0 (i64.wrap (v1-1))).bind λx2=>((bif decide (x2.z1>x1.z0)then some true else bif (x2.z1==x1.z0)then(VX n x2.area x1.area).bind λr2=>some r2 else some false)).bind λv3=>(bif v3 then((some false).map λa=>.inr (.inr a)).map .inr else some (.inl ()))):J ((Unit)⊕_)) λ()=>some (.inl (i64.wrap (v1+1)))else some (.inr (.inl ()))
def Ju(a0:Y gJ):J Bool:=
 bif decide ((a0.length:Int)>80)then some false else dO (iter (BD n a0) n 0) λ()=>some true
def yC(a0:ax)(a1 a2:Int):J OW:=
 some (OW.mk (i64.wrap (a1-a0.x0)) (i64.wrap ((i64.wrap (a0.x1-1))-a1)) (i64.wrap (a2-a0.y0)) (i64.wrap ((i64.wrap (a0.y1-1))-a2)))
def vk(a0 a1:Int):J Int:=
 ck (a1 !=0)<|(ck (a1 !=0)<|(bif decide ((Int.tmod a0 a1)<0)then some (i64.wrap ((i64.wrap (Int.tdiv a0 a1))-1))else some (i64.wrap (Int.tdiv a0 a1))):J Int).bind λv1=>some v1
def y7(a0:ax)(a1:Y eu)(a2 a3:Int)(r1:OW):Stp (Int×Int) Int
 |(v1,v2)=>bif decide (v2<a1.length)then(bx a1 v2).bind λx1=>ck (cV x1.side 4)<|(bx ([r1.a0,r1.a1,r1.a2,r1.a3]:Y Int) x1.side).bind λx2=>(vk (i64.wrap (x1.num*x2)) x1.den).bind λr2=>some (.inl (min v1 (i64.wrap (x1.base+r2)),i64.wrap (v2+1)))else some (.inr v1)
def KM(a0:ax)(a1:Y eu)(a2 a3:Int):J Int:=
 (yC a0 a2 a3).bind λr1=>(iter (y7 a0 a1 a2 a3 r1) n (4096,0)).bind λw1=>some w1
def pO(a0:ax)(a1:Y eu)(x1:ax)(x2:Int):Stp (Int×Int) Int
 |(v5,v6)=>bif decide (v6<(2:Nat))then ck (cV v6 2)<|(bx ([x1.y0,i64.wrap (x1.y1-1)]:Y Int) ((0:Nat)+v6:Int)).bind λx3=>(KM n a0 a1 x2 x3).bind λr1=>some (.inl (min v5 r1,i64.wrap (v6+1)))else some (.inr v5)
def pQ(a0:ax)(a1:Y eu)(x1:ax):Stp (Int×Int) Int
 |(v3,v4)=>bif decide (v4<(2:Nat))then ck (cV v4 2)<|(bx ([x1.x0,i64.wrap (x1.x1-1)]:Y Int) ((0:Nat)+v4:Int)).bind λx2=>(iter (pO n a0 a1 x1 x2) n (v3,0)).bind λw1=>some (.inl (w1,i64.wrap (v4+1)))else some (.inr v3)
def tC(a0:ax)(a1:Y eu)(a2:Y ax):Stp (Int×Int) Int
 |(v1,v2)=>bif decide (v2<a2.length)then(bx a2 v2).bind λx1=>(iter (pQ n a0 a1 x1) n (v1,0)).bind λw2=>some (.inl (w2,i64.wrap (v2+1)))else some (.inr v1)
def y8(a0:ax)(a1:Y eu)(a2:Y ax):J Int:=
 (iter (tC n a0 a1 a2) n (4096,0)).bind λw3=>some w3
def tF(a0:gJ)(a1:ax)(a2:Y eu):J Bool:=
 (y8 n a1 a2 a0.area).bind λr1=>some (decide (r1<a0.z1))
def mQ(a0:Y gJ)(a1:(gJ×Unit)->J Bool):Stp Int (Unit⊕Int)
 |v1=>bif decide (v1<a0.length)then(bx a0 v1).bind λx1=>(a1 (x1,())).bind λr1=>(bif r1 then(some v1).map λa=>.inr (.inr a)else some (.inl (i64.wrap (v1+1))))else some (.inr (.inl ()))
def vo(a0:Y gJ)(a1:(gJ×Unit)->J Bool):J Int:=
 dO (iter (mQ a0 a1) n 0) λ()=>some (-1)
def jo(a0:Y gJ)(a1:(gJ×Unit)->J Bool):J Bool:=
 (vo n a0 a1).bind λr1=>some (decide (r1>=0))
def y9(a0:ax)(a1:Y eu)(a2:Y gJ):J Bool:=
 ((BB n a0 a1).bind λr1=>(bif (!r1)then some true else(Ju n a2).bind λr2=>some (!r2))).bind λv1=>(bif v1 then some false else(jo n a2 (λ (y1:gJ×Unit)=>tF n y1.1 a0 a1)).bind λr3=>some (!r3))
def ku(a0:aG)(a1:ax)(a2:dw):J Bool:=
 (y5 a0).bind λr1=>ck (aE (sub ([eu.mk a2.jj a2.jn a2.kB a2.kO]:Y eu) 0 1).length 1)<|ck (aE (sub r1 0 r1.length).length r1.length)<|(y9 n a1 (sub ([eu.mk a2.jj a2.jn a2.kB a2.kO]:Y eu) 0 1) (sub r1 0 r1.length)).bind λr2=>some (!r2)
def ic(a0:nG)(a1:(aG×Unit)->J Bool):J Bool:=
 (fZ n a0.b9 a1).bind λr1=>some r1
def kz(a0:aG)(a1:dw):J Bool:=
 ck (decide (0<=a0.use)&&decide (a0.use<=i64.bits))<|some ((bits .and .i64 a1.uses (i64.wrap (1*2 ^ a0.use.toNat)))==0)
def dU(a0:jB)(a1:nG)(a2:aG)(a3:dw):J Bool:=
 ((bif (a0.lot==a1.b8)then some true else(qm (ax.mk a0.eV a0.eR a0.eS a0.eQ)).bind λr1=>(bif (!r1)then some true else bif decide (a0.fY<0)then some true else some (decide (a0.fY>=6))))).bind λv1=>(bif v1 then some false else((bif (a2.use==a3.uses)then(bif (a0.fY==a3.other)then some true else bif (a2.use==a3.other)then some (a0.fY==a3.uses)else some false)else bif (a2.use==a3.other)then some (a0.fY==a3.uses)else some false)).bind λv2=>(bif v2 then(P0 (ax.mk a2.ct a2.cH a2.co a2.cE) (ax.mk a0.eV a0.eR a0.eS a0.eQ)).bind λr2=>some (decide (r2<a3.n))else some false))
def FJ(a0:Y jB)(a1:(jB×Unit)->J Bool):Stp Int (Unit⊕Int)
 |v1=>bif decide (v1<a0.length)then(bx a0 v1).bind λx1=>(a1 (x1,())).bind λr1=>(bif r1 then(some v1).map λa=>.inr (.inr a)else some (.inl (i64.wrap (v1+1))))else some (.inr (.inl ()))
def rY(a0:Y jB)(a1:(jB×Unit)->J Bool):J Int:=
 dO (iter (FJ a0 a1) n 0) λ()=>some (-1)
def kC(a0:Y jB)(a1:(jB×Unit)->J Bool):J Bool:=
 (rY n a0 a1).bind λr1=>some (decide (r1>=0))
def tO(a0:nG)(a1:dw)(a2:aG):J Bool:=
 (kC n a0.cN (λ (y1:jB×Unit)=>dU y1.1 a0 a2 a1)).bind λr1=>some r1
def kD(a0:aG)(a1:nG)(a2:dw):J Bool:=
 (tO n a1 a2 a0).bind λr1=>some r1
def nS(a0:nG)(a1:dw):J Bool:=
 bif (a1.kind==0)then(kT n (bO.mk a0.bp a0.aq a0.bj a0.aw a0.be a0.bk a0.b7 a0.bm) (fM.mk a0.ue a0.oA a0.ly a0.qq) (aQ.mk a0.b8 a0.bu)).bind λr1=>ck (aE (sub r1 0 r1.length).length r1.length)<|(Bw n (bO.mk a0.bp a0.aq a0.bj a0.aw a0.be a0.bk a0.b7 a0.bm) (sub r1 0 r1.length) a0.zones (dD.mk a1.l4 a1.ov a1.ot a1.kA a1.gO)).bind λr2=>some (r2==0)else bif (a1.kind==1)then(KL n a0.ly).bind λr3=>(ic n a0 (λ (y1:aG×Unit)=>ku n y1.1 r3.1 a1)).bind λr4=>some r4 else bif (a1.kind==2)then(ic n a0 (λ (y2:aG×Unit)=>kz y2.1 a1)).bind λr5=>some r5 else bif (a1.kind==3)then(ic n a0 (λ (y3:aG×Unit)=>kD n y3.1 a0 a1)).bind λr6=>some r6 else some false
def xB(a0 a1:ax):J Bool:=
 bif decide ((max a1.x0 a0.x0)<(min a1.x1 a0.x1))then some (decide ((max a1.y0 a0.y0)<(min a1.y1 a0.y1)))else some false
def Jv(a0:Y ax)(a1:(ax×Unit)->J Bool):Stp Int (Unit⊕Int)
 |v1=>bif decide (v1<a0.length)then(bx a0 v1).bind λx1=>(a1 (x1,())).bind λr1=>(bif r1 then(some v1).map λa=>.inr (.inr a)else some (.inl (i64.wrap (v1+1))))else some (.inr (.inl ()))
def vv(a0:Y ax)(a1:(ax×Unit)->J Bool):J Int:=
 dO (iter (Jv a0 a1) n 0) λ()=>some (-1)
def jq(a0:Y ax)(a1:(ax×Unit)->J Bool):J Bool:=
 (vv n a0 a1).bind λr1=>some (decide (r1>=0))
def FK(a0:ax)(a1:Y ax):J Bool:=
 (jq n a1 (λ (y1:ax×Unit)=>xB y1.1 a0)).bind λr1=>some r1
def VY(a0 a1:Y ax):J Bool:=
 (jq n a0 (λ (y1:ax×Unit)=>FK n y1.1 a1)).bind λr1=>some r1
def sK(a0:gJ)(a1:lN):J Bool:=
 bif decide (a0.z1>a1.top)then(VY n a0.area a1.area).bind λr1=>some r1 else some false
def xC(a0:Y lN)(a1:Int)(a2:Y gJ):Stp Int (Unit⊕Bool)
 |v1=>bif decide (v1<a0.length)then dO ((bx a0 v1).bind λx1=>((bif (x1.lot !=a1)then some true else(l9 n x1.area).bind λr2=>some (!r2))).bind λv2=>(bif v2 then some (.inl ())else(jo n a2 (λ (y1:gJ×Unit)=>sK n y1.1 x1)).bind λr3=>(bif r3 then((some false).map λa=>.inr (.inr a)).map .inr else some (.inl ()))):J ((Unit)⊕_)) λ()=>some (.inl (i64.wrap (v1+1)))else some (.inr (.inl ()))
def FL(a0:Y lN)(a1:Int)(a2:Y gJ):J Bool:=
 (Ju n a2).bind λr1=>(bif (!r1)then some false else dO (iter (xC n a0 a1 a2) n 0) λ()=>some true)
def og(a0:aG)(a1:fq)(a2:aQ):J Bool:=
 (y5 a0).bind λr1=>ck (aE (sub r1 0 r1.length).length r1.length)<|(FL n a1.cM a2.lot (sub r1 0 r1.length)).bind λr2=>some (!r2)
def jR(a0:ByteArray)(a1:Bool)(a2:Y ByteArray):J (List ByteArray):=
 ((bif a1 then ck (aE (sub a2 0 a2.length).length a2.length)<|(eF n (sub a2 0 a2.length) a0).bind λr1=>some (!r1)else some false)).bind λv1=>(bif v1 then ck (bF a2.length a2.length (sub ([a0]:Y ByteArray) 0 1).length 1 16)<|gU (a2++(sub ([a0]:Y ByteArray) 0 1)) λr2=>ck (aE r2.length r2.length)<|some r2 else ck (aE a2.length a2.length)<|some a2)
def oh(a0:fq)(r1:nG×Int)(r2:Y Int):Stp (Int×(List ByteArray)) (List ByteArray)
 |(v1,v2)=>bif decide (v1<(r2.length:Nat))then ck (cV v1 r2.length)<|(bx r2 ((0:Nat)+v1:Int)).bind λx1=>(bx a0.az x1).bind λx2=>(bx a0.az x1).bind λx3=>(nS n r1.1 x3).bind λr3=>ck (aE v2.length v2.length)<|(jR n x2.name r3 v2).bind λr4=>ck (aE r4.length r4.length)<|some (.inl (i64.wrap (v1+1),r4))else ck (aE v2.length v2.length)<|some (.inr v2)
def xD(a0:fq)(a1:aQ)(a2:Int):J ((List ByteArray)×Int):=
 (Br n a0 a1).bind λr1=>(bif (r1.2 !=0)then some ([],r1.2)else(ve n (bO.mk a0.cL a0.cw a0.cz a0.az a0.cT a0.cW a0.d6 a0.cX) r1.1.zones a2).bind λr2=>ck (aE 0 ([]:Y ByteArray).length)<|(iter (oh n a0 r1 r2) n (0,[])).bind λw1=>(ic n r1.1 (λ (y1:aG×Unit)=>og n y1.1 a0 a1)).bind λr5=>ck (aE w1.length w1.length)<|(jR n (⟨#[101,97,115,101,109,101,110,116]⟩) r5 w1).bind λr6=>ck (aE (sub r6 0 r6.length).length r6.length)<|some (sub r6 0 r6.length,0))
def mR(a0:aK)(a1:aC):J Bool:=
 (xD n (fq.mk a1.bp a1.aq a1.bj a1.aw a1.be a1.bk a1.b7 a1.bm a1.cQ a1.cC a1.cJ a1.cN a1.c8) (aQ.mk a1.b8 a1.bu) a1.rule).bind λr1=>(bif (r1.2==0)then ck (aE (sub r1.1 0 r1.1.length).length r1.1.length)<|(eF n (sub r1.1 0 r1.1.length) a0.name).bind λr2=>some r2 else some false)
def jH(a0:yK)(a1:aK):J Bool:=
 some (a0.id==(a1.n:Int))
def Jw(a0:Y yK)(a1:(yK×Unit)->J Bool):Stp Int (Unit⊕Int)
 |v1=>bif decide (v1<(a0.length:Int))then(bx a0 v1).bind λx1=>(a1 (x1,())).bind λr1=>(bif r1 then(some v1).map λa=>.inr (.inr a)else some (.inl (i64.wrap (v1+1))))else some (.inr (.inl ()))
def vw(a0:Y yK)(a1:(yK×Unit)->J Bool):J Int:=
 dO (iter (Jw a0 a1) n (0:Int)) λ()=>some ((-1):Int)
def mU(a0:aK)(a1:aC):J Bool:=
 (vw n a1.cases (λ (y1:yK×Unit)=>jH y1.1 a0)).bind λr1=>(bif decide (r1>=0)then(bif (ByteArray.toList a0.name==ByteArray.toList (⟨#[103,114,97,110,116,101,100]⟩))then(bx a1.cases r1).bind λx1=>(bif x1.grant then some true else bif (ByteArray.toList a0.name==ByteArray.toList (⟨#[114,101,102,117,115,101,100]⟩))then(bx a1.cases r1).bind λx2=>some (!x2.grant)else some false)else bif (ByteArray.toList a0.name==ByteArray.toList (⟨#[114,101,102,117,115,101,100]⟩))then(bx a1.cases r1).bind λx3=>some (!x3.grant)else some false)else some false)
noncomputable def rF(n:Nat)(h:aC)(c:aK):J Bool:=
 bif c.ec==0 then qK c else bif c.ec==1 then mE n c h else bif c.ec==2 then mR n c h else bif c.ec==3 then mU n c h else some false
def qw(a0:aC):Stp (Int×(List Bool)) (List Bool)
 |(v1,v2)=>bif decide (v1<(a0.claims.length:Int))then((bx a0.claims v1).bind λx1=>(bif (v1==0)then ck (cV v1 ((a0.claims.length:Int).toNat))<|(bx v2 ((0:Nat)+v1:Int)).bind λx2=>some (v2.set ((0:Nat)+v1:Int).toNat true)else(uQ n a0 x1.day).bind λr2=>(bif r2 then(xq n a0 x1.gz).bind λr3=>(bif r3 then(nZ n a0 x1).bind λr4=>(bif r4 then(rF n a0 x1).bind λr5=>ck (cV v1 ((a0.claims.length:Int).toNat))<|(bx v2 ((0:Nat)+v1:Int)).bind λx3=>some (v2.set ((0:Nat)+v1:Int).toNat r5)else ck (cV v1 ((a0.claims.length:Int).toNat))<|(bx v2 ((0:Nat)+v1:Int)).bind λx4=>some (v2.set ((0:Nat)+v1:Int).toNat false))else ck (cV v1 ((a0.claims.length:Int).toNat))<|(bx v2 ((0:Nat)+v1:Int)).bind λx5=>some (v2.set ((0:Nat)+v1:Int).toNat false))else ck (cV v1 ((a0.claims.length:Int).toNat))<|(bx v2 ((0:Nat)+v1:Int)).bind λx6=>some (v2.set ((0:Nat)+v1:Int).toNat false))):J ((List Bool))).bind λv3=>some (.inl (i64.wrap (v1+1),v3))else some (.inr v2)
def iK(a0:aC):J (List Bool):=
 (fQ a0).bind λr1=>(bif (!r1)then some ([]:(List Bool))else ck (decide ((a0.claims.length:Int)<=(a0.claims.length:Int))&&(decide (0<=(a0.claims.length:Int))&&qg (a0.claims.length:Int) 1))<|(iter (qw n a0) n ((0:Int),List.replicate (a0.claims.length:Int).toNat false)).bind λw1=>ck (aE (sub w1 0 ((a0.claims.length:Int).toNat)).length ((a0.claims.length:Int).toNat))<|some (sub w1 0 ((a0.claims.length:Int).toNat)))
def qN(a0:Y aK)(x1:aK):Stp (Int×Int) (Unit⊕(Int⊕(Unit⊕Bool)))
 |(v2,v3)=>bif decide (v3<(x1.attacks.length:Int))then(bx x1.attacks v3).bind λx2=>((bif decide (x2<=(v2:Int))then some true else some (decide (x2>=(a0.length:Int))))).bind λv4=>(bif v4 then((some false).map λa=>.inr (.inr a)).map λa=>.inr (.inr a)else some (.inl (x2,i64.wrap (v3+1))))else some (.inr (.inl ()))
def vz(a0:Y aK):Stp Int (Unit⊕Bool)
 |v1=>bif decide (v1<(a0.length:Int))then(bx a0 v1).bind λx1=>dO (iter (qN a0 x1) n (((-1):Int),(0:Int))) λ()=>some (.inl (i64.wrap (v1+1)))else some (.inr (.inl ()))
def yg(a0:Y aK):J Bool:=
 dO (iter (vz n a0) n (0:Int)) λ()=>some (decide ((a0.length:Int)<=300))
noncomputable def qb(a0:Y aK):J (List (List Int)):=ck (decide (a0.length<=1000000)&&(a0.all λc=>decide (c.attacks.length<=1000000)&&c.attacks.all λk=>decide (0<=k)&&decide (k<(a0.length:Int))))<|some (nh (a0.map (·.attacks)) a0.length)
def mV(a0:Y aK)(r2:Y (List Int)):Stp (Int×(List Int)×(List Int)) ((List Int)×(List Int))
 |(v1,v2,v3)=>bif decide (v1<(a0.length:Int))then((bx r2 v1).bind λx1=>ck (cV v1 ((a0.length:Int).toNat))<|(bx v2 ((0:Nat)+v1:Int)).bind λx2=>ck (cV v1 ((a0.length:Int).toNat))<|(bx (v2.set ((0:Nat)+v1:Int).toNat (x1.length:Int)) ((0:Nat)+v1:Int)).bind λx3=>(bif (x3==0)then ck (bF v3.length v3.length (sub ([v1]:Y Int) 0 1).length 1 8)<|gU (v3++(sub ([v1]:Y Int) 0 1)) λr3=>ck (aE r3.length r3.length)<|some (v2.set ((0:Nat)+v1:Int).toNat (x1.length:Int),r3)else ck (aE v3.length v3.length)<|some (v2.set ((0:Nat)+v1:Int).toNat (x1.length:Int),v3)):J ((List Int)×(List Int))).bind λ(v4,v5)=>ck (aE v5.length v5.length)<|some (.inl (i64.wrap (v1+1),v4,v5))else ck (aE v3.length v3.length)<|some (.inr (v2,v3))
def mW(a0:Y aK)(v6:Int)(v10:Y Int):Stp (Int×(List Int)×(List Int)) ((List Int)×(List Int))
 |(v11,v12,v13)=>bif decide (v11<(v10.length:Int))then ck (cV v11 v10.length)<|(bx v10 ((0:Nat)+v11:Int)).bind λx4=>ck (cV x4 ((a0.length:Int).toNat))<|(bx v12 ((0:Nat)+x4:Int)).bind λx5=>ck (cV x4 ((a0.length:Int).toNat))<|(bx v13 ((0:Nat)+x4:Int)).bind λx6=>some (.inl (i64.wrap (v11+1),v12.set ((0:Nat)+x4:Int).toNat 1,v13.set ((0:Nat)+x4:Int).toNat v6))else some (.inr (v12,v13))
def mX(a0:Y aK)(v6:Int)(x8:aK):Stp (Int×(List Int)×(List Int)×(List Int)) ((List Int)×(List Int)×(List Int))
 |(v18,v19,v20,v21)=>bif decide (v18<(x8.attacks.length:Int))then((bx x8.attacks v18).bind λx9=>ck (cV x9 ((a0.length:Int).toNat))<|(bx v19 ((0:Nat)+x9:Int)).bind λx10=>(bif (x10==0)then ck (cV x9 ((a0.length:Int).toNat))<|(bx v19 ((0:Nat)+x9:Int)).bind λx11=>ck (cV x9 ((a0.length:Int).toNat))<|(bx v20 ((0:Nat)+x9:Int)).bind λx12=>ck (bF v21.length v21.length (sub ([x9]:Y Int) 0 1).length 1 8)<|gU (v21++(sub ([x9]:Y Int) 0 1)) λr4=>ck (aE r4.length r4.length)<|some (v19.set ((0:Nat)+x9:Int).toNat 2,v20.set ((0:Nat)+x9:Int).toNat (i64.wrap (v6+1)),r4)else ck (aE v21.length v21.length)<|some (v19,v20,v21)):J ((List Int)×(List Int)×(List Int))).bind λ(v22,v23,v24)=>ck (aE v24.length v24.length)<|some (.inl (i64.wrap (v18+1),v22,v23,v24))else ck (aE v21.length v21.length)<|some (.inr (v19,v20,v21))
def mY(a0:Y aK)(v6:Int)(v10:Y Int):Stp (Int×(List Int)×(List Int)×(List Int)) ((List Int)×(List Int)×(List Int))
 |(v14,v15,v16,v17)=>bif decide (v14<(v10.length:Int))then ck (cV v14 v10.length)<|(bx v10 ((0:Nat)+v14:Int)).bind λx7=>(bx a0 x7).bind λx8=>ck (aE v17.length v17.length)<|(iter (mX a0 v6 x8) n ((0:Int),v15,v16,v17)).bind λ(w5,w6,w7)=>ck (aE w7.length w7.length)<|some (.inl (i64.wrap (v14+1),w5,w6,w7))else ck (aE v17.length v17.length)<|some (.inr (v15,v16,v17))
def mZ(a0:Y aK)(w8:Y Int)(QQ:aK):Stp (Int×(List Int)×(List Int)) ((List Int)×(List Int))
 |(v28,v29,v30)=>bif decide (v28<(QQ.attacks.length:Int))then((bx QQ.attacks v28).bind λwa=>ck (cV wa ((a0.length:Int).toNat))<|(bx v29 ((0:Nat)+wa:Int)).bind λWF=>ck (cV wa ((a0.length:Int).toNat))<|(bx v29 ((0:Nat)+wa:Int)).bind λx17=>(ck (cV wa ((a0.length:Int).toNat))<|(bx (v29.set ((0:Nat)+wa:Int).toNat (i64.wrap (WF-1))) ((0:Nat)+wa:Int)).bind λx18=>(bif (x18==0)then ck (cV wa ((a0.length:Int).toNat))<|(bx w8 ((0:Nat)+wa:Int)).bind λx19=>some (x19==0)else some false)).bind λv31=>(bif v31 then ck (bF v30.length v30.length (sub ([wa]:Y Int) 0 1).length 1 8)<|gU (v30++(sub ([wa]:Y Int) 0 1)) λr5=>ck (aE r5.length r5.length)<|some (v29.set ((0:Nat)+wa:Int).toNat (i64.wrap (WF-1)),r5)else ck (aE v30.length v30.length)<|some (v29.set ((0:Nat)+wa:Int).toNat (i64.wrap (WF-1)),v30)):J ((List Int)×(List Int))).bind λ(v32,v33)=>ck (aE v33.length v33.length)<|some (.inl (i64.wrap (v28+1),v32,v33))else ck (aE v30.length v30.length)<|some (.inr (v29,v30))
def ng(a0:Y aK)(w8 wc:Y Int):Stp (Int×(List Int)×(List Int)) ((List Int)×(List Int))
 |(v25,v26,v27)=>bif decide (v25<(wc.length:Int))then ck (cV v25 wc.length)<|(bx wc ((0:Nat)+v25:Int)).bind λx13=>(bx a0 x13).bind λQQ=>ck (aE v27.length v27.length)<|(iter (mZ a0 w8 QQ) n ((0:Int),v26,v27)).bind λ(z6,J0)=>ck (aE J0.length J0.length)<|some (.inl (i64.wrap (v25+1),z6,J0))else ck (aE v27.length v27.length)<|some (.inr (v26,v27))
def qx(a0:Y aK):Stp (Int×(List Int)×(List Int)×(List Int)×(List Int)) ((List Int)×(List Int))
 |(v6,v7,v8,v9,v10)=>bif decide ((v10.length:Int)>0)then(iter (mW a0 v6 v10) n ((0:Int),v7,v8)).bind λ(w3,w4)=>ck (aE 0 ([]:Y Int).length)<|(iter (mY n a0 v6 v10) n ((0:Int),w3,w4,([]:Y Int))).bind λ(w8,w9,wc)=>ck (aE 0 ([]:Y Int).length)<|(iter (ng n a0 w8 wc) n ((0:Int),v9,([]:Y Int))).bind λ(W0,JT)=>ck (aE JT.length JT.length)<|some (.inl (i64.wrap (v6+2),w8,w9,W0,JT))else some (.inr (v7,v8))
def qO(a0:Y aK):J ((List Int)×(List Int)×Int):=
 (yg n a0).bind λr1=>(bif (!r1)then some (([]:(List Int)),([]:(List Int)),(1:Int))else(qb a0).bind λr2=>ck (decide ((a0.length:Int)<=(a0.length:Int))&&(decide (0<=(a0.length:Int))&&qg (a0.length:Int) 8))<|ck (decide ((a0.length:Int)<=(a0.length:Int))&&(decide (0<=(a0.length:Int))&&qg (a0.length:Int) 8))<|ck (decide ((a0.length:Int)<=(a0.length:Int))&&(decide (0<=(a0.length:Int))&&qg (a0.length:Int) 8))<|ck (aE 0 ([]:Y Int).length)<|(iter (mV a0 r2) n ((0:Int),List.replicate (a0.length:Int).toNat (0:Int),([]:Y Int))).bind λ(w1,w2)=>ck (aE w2.length w2.length)<|(iter (qx n a0) n ((1:Int),List.replicate (a0.length:Int).toNat (0:Int),List.replicate (a0.length:Int).toNat (0:Int),w1,w2)).bind λ(Q2,w16)=>ck (aE (sub Q2 0 ((a0.length:Int).toNat)).length ((a0.length:Int).toNat))<|ck (aE (sub w16 0 ((a0.length:Int).toNat)).length ((a0.length:Int).toNat))<|some (sub Q2 0 ((a0.length:Int).toNat),sub w16 0 ((a0.length:Int).toNat),(0:Int)))
def kU(a0:aC)(r2:Y Bool):Stp (Int×(List aK)) (List aK)
 |(v1,v2)=>bif decide (v1<(a0.claims.length:Int))then((bx a0.claims v1).bind λx1=>(ck (cV v1 r2.length)<|(bx r2 ((0:Nat)+v1:Int)).bind λx2=>(bif x2 then(fD n x1.attacks (((r2.length:Int).toNat:Nat):Int)).bind λr3=>some r3 else some false)).bind λv3=>(bif v3 then ck (cV v1 ((r2.length:Int).toNat))<|(bx v2 ((0:Nat)+v1:Int)).bind λx3=>some (v2.set ((0:Nat)+v1:Int).toNat (aK.mk x3.gz x3.day x1.attacks x3.ec x3.name x3.n))else some v2):J ((List aK))).bind λv4=>some (.inl (i64.wrap (v1+1),v4))else some (.inr v2)
def kV(r2:Y Bool)(r4:(List Int)×(List Int)×Int):Stp (Int×(List Int)) (List Int)
 |(v5,v6)=>bif decide (v5<(r2.length:Int))then(ck (cV v5 r2.length)<|(bx r2 ((0:Nat)+v5:Int)).bind λx4=>(bif (!x4)then ck (cV v5 r4.1.length)<|(bx v6 ((0:Nat)+v5:Int)).bind λx5=>some (v6.set ((0:Nat)+v5:Int).toNat 2)else some v6):J ((List Int))).bind λv7=>some (.inl (i64.wrap (v5+1),v7))else some (.inr v6)
def iQ(a0:aC):J ((List Int)×Bool):=
 (fQ a0).bind λr1=>(bif (!r1)then some (([]:(List Int)),false)else(iK n a0).bind λr2=>ck (decide ((r2.length:Int)<=(r2.length:Int))&&(decide (0<=(r2.length:Int))&&qg (r2.length:Int) 72))<|(iter (kU n a0 r2) n ((0:Int),List.replicate (r2.length:Int).toNat (aK.mk 0 0 ([]) 0 (⟨#[]⟩) 0))).bind λw1=>ck (aE (sub w1 0 ((r2.length:Int).toNat)).length ((r2.length:Int).toNat))<|(qO n (sub w1 0 ((r2.length:Int).toNat))).bind λr4=>(iter (kV r2 r4) n ((0:Int),r4.1)).bind λw2=>ck (cV 0 r4.1.length)<|(bx w2 ((0:Nat)+0:Int)).bind λx6=>ck (aE (sub w2 0 r4.1.length).length r4.1.length)<|some (sub w2 0 r4.1.length,x6==1))
def Uw(a0 a1:Y Int):Stp Int (Unit⊕Bool)
 |v1=>bif decide (v1<(a0.length:Int))then(bx a0 v1).bind λx1=>(bx a1 v1).bind λx2=>(bif (x1 !=(x2:Int))then(some false).map λa=>.inr (.inr a)else some (.inl (i64.wrap (v1+1))))else some (.inr (.inl ()))
def vB(a0 a1:Y Int):J Bool:=
 bif ((a0.length:Int) !=(a1.length:Int))then some false else dO (iter (Uw a0 a1) n (0:Int)) λ()=>some true
def vC(a0:aC)(a1:Y Int)(a2:Bool):J Bool:=
 (iQ n a0).bind λr1=>ck (aE (sub r1.1 0 r1.1.length).length r1.1.length)<|(vB n (sub r1.1 0 r1.1.length) a1).bind λr2=>(bif r2 then some (r1.2==a2)else some false)
def KN:J Bool:=
 (ug 9 12).bind λr1=>ck (bF ([]:Y aK).length 0 r1.claims.length r1.claims.length 72)<|gU (([]:Y aK)++r1.claims) λr2=>ck (aE (sub ([1]:Y Int) 0 1).length 1)<|ck (bF r2.length r2.length (sub ([aK.mk 7 12 (sub ([1]:Y Int) 0 1) 0 (⟨#[]⟩) 0]:Y aK) 0 1).length 1 72)<|gU (r2++(sub ([aK.mk 7 12 (sub ([1]:Y Int) 0 1) 0 (⟨#[]⟩) 0]:Y aK) 0 1)) λr3=>(dS n r1).bind λr4=>(ck (aE (sub ([2,1]:Y Int) 0 2).length 2)<|(vC n r1 (sub ([2,1]:Y Int) 0 2) false).bind λr5=>(bif r5 then(ug 8 12).bind λr6=>ck (aE (sub ([1,2]:Y Int) 0 2).length 2)<|(vC n r6 (sub ([1,2]:Y Int) 0 2) true).bind λr7=>(bif r7 then(ug 9 18).bind λr8=>ck (aE (sub ([1,2]:Y Int) 0 2).length 2)<|(vC n r8 (sub ([1,2]:Y Int) 0 2) true).bind λr9=>some r9 else some false)else some false)).bind λv1=>(bif v1 then(bif (r4.1==17)then(bif (r4.2==0)then ck (aE (sub r3 0 r3.length).length r3.length)<|ck (aE (sub ([1,2,1]:Y Int) 0 3).length 3)<|(vC n (aC.mk r1.bp r1.aq r1.bj r1.aw r1.be r1.bk r1.b7 r1.bm r1.cQ r1.cC r1.cJ r1.cN r1.c8 r1.b8 r1.bu r1.rule r1.ed r1.eo r1.c7 r1.stays r1.cases (sub r3 0 r3.length)) (sub ([1,2,1]:Y Int) 0 3) true).bind λsA=>(bif sA then(ug 9 17).bind λtd=>ck (aE (sub ([2,1]:Y Int) 0 2).length 2)<|(vC n td (sub ([2,1]:Y Int) 0 2) false).bind λAC=>some AC else some false)else some false)else some false)else some false)
def MS(a0:fq):Stp Int (Unit⊕Bool)
 |v2=>bif decide (v2<a0.az.length)then((bx a0.az v2).bind λx1=>(bif decide ((x1.zones.length:Int)>5)then some true else(bx a0.az v2).bind λx2=>some (decide ((x2.except.length:Int)>5)))).bind λv3=>(bif v3 then(some false).map λa=>.inr (.inr a)else some (.inl (i64.wrap (v2+1))))else some (.inr (.inl ()))
def MU(a0:fq):Stp Int (Unit⊕Bool)
 |v4=>bif decide (v4<a0.land.length)then(bx a0.land v4).bind λx3=>(bif decide ((x3.area.length:Int)>10)then(some false).map λa=>.inr (.inr a)else some (.inl (i64.wrap (v4+1))))else some (.inr (.inl ()))
def MV(a0:fq):Stp Int (Unit⊕Bool)
 |v5=>bif decide (v5<a0.cM.length)then(bx a0.cM v5).bind λx4=>(bif decide ((x4.area.length:Int)>10)then(some false).map λa=>.inr (.inr a)else some (.inl (i64.wrap (v5+1))))else some (.inr (.inl ()))
def VZ(a0:fq):J Bool:=
 ((bif decide ((a0.az.length:Int)>10)then some true else bif decide ((a0.cz.length:Int)>6)then some true else bif decide ((a0.cL.length:Int)>20)then some true else bif decide ((a0.cw.length:Int)>20)then some true else bif decide ((a0.land.length:Int)>5)then some true else bif decide ((a0.cM.length:Int)>5)then some true else some (decide ((a0.built.length:Int)>6)))).bind λv1=>(bif v1 then some false else dO (iter (MS a0) n 0) λ()=>dO (iter (MU a0) n 0) λ()=>dO (iter (MV a0) n 0) λ()=>some true)
def oW(a0:Y aQ)(v1:Int):Stp Int (Unit⊕(Int⊕(Unit⊕Bool)))
 |v2=>(bx a0 v1).bind λx1=>bif decide (v2<(x1.phases.length:Int))then((bx a0 v1).bind λx2=>(bx x2.phases v2).bind λx3=>(bif decide ((x3.b9.length:Int)>12)then some true else(bx a0 v1).bind λx4=>(bx x4.phases v2).bind λx5=>some (decide ((x5.gives.length:Int)>6)))).bind λv3=>(bif v3 then((some false).map λa=>.inr (.inr a)).map λa=>.inr (.inr a)else some (.inl (i64.wrap (v2+1))))else some (.inr (.inl ()))
def kW(a0:Y aQ):Stp Int (Unit⊕Bool)
 |v1=>bif decide (v1<(a0.length:Int))then dO (iter (oW a0 v1) n (0:Int)) λ()=>(bx a0 v1).bind λx6=>(bif decide ((x6.phases.length:Int)>9)then(some false).map λa=>.inr (.inr a)else some (.inl (i64.wrap (v1+1))))else some (.inr (.inl ()))
def pR(a0:Y aQ):J Bool:=
 dO (iter (kW n a0) n (0:Int)) λ()=>some (decide ((a0.length:Int)<=9))
def Yo(a2:Y So):Stp Int (Unit⊕Bool)
 |v1=>bif decide (v1<(a2.length:Int))then(bx a2 v1).bind λx1=>(pR n x1.jt).bind λr1=>(bif (!r1)then(some false).map λa=>.inr (.inr a)else some (.inl (i64.wrap (v1+1))))else some (.inr (.inl ()))
def V3(a0:bO)(a1:Jo)(a2:Y So):J Bool:=
 dO (iter (Yo n a2) n (0:Int)) λ()=>(bif decide ((a0.rules.length:Int)<=20)then(bif decide ((a2.length:Int)<=14)then(pR n a1.jt).bind λr2=>some r2 else some false)else some false)
def BF(rc:(dD)->J Int)(a0:dD):Stp (Int×Int) Int
 |(v1,v2)=>bif decide (v2<a0.args.length)then(bx a0.args v2).bind λx1=>(rc x1).bind λr1=>some (.inl (i64.wrap (v1+r1),i64.wrap (v2+1)))else some (.inr v1)
def MW(rc:(dD)->J Int)(a0:dD):J Int:=
 (iter (BF rc a0) n (1,0)).bind λw1=>some w1
def Jy(rc:(dD)->J Int):cy xx:=⟨[.d (.st SI.Expr)],[.d (.int .i64)],λa=>rc a.1,none⟩
def wQ(n:Nat):Nat->(dD)->J Int
 | 0=>λ_=>none
 |m+1=>MW n (wQ n m)
def Jz(a0:dD):J Int:=wQ n n a0
def FM(a0:bO):Stp Int (Unit⊕Bool)
 |v2=>bif decide (v2<(a0.defs.length:Int))then((bx a0.defs v2).bind λx1=>(Jz n (dD.mk x1.j8 x1.mS x1.lL x1.ju x1.fh)).bind λr1=>(bif decide (r1>60)then some true else(bx a0.defs v2).bind λx2=>some (decide ((x2.name.size:Int)>100)))).bind λv3=>(bif v3 then(some false).map λa=>.inr (.inr a)else some (.inl (i64.wrap (v2+1))))else some (.inr (.inl ()))
def FN(a0:bO):Stp Int (Unit⊕Bool)
 |v4=>bif decide (v4<(a0.rules.length:Int))then(bx a0.rules v4).bind λx3=>(Jz n (dD.mk x3.l4 x3.ov x3.ot x3.kA x3.gO)).bind λr2=>(bif decide (r2>60)then(some false).map λa=>.inr (.inr a)else some (.inl (i64.wrap (v4+1))))else some (.inr (.inl ()))
def V4(a0:bO):J Bool:=
 ((bif decide ((a0.defs.length:Int)>20)then some true else some (decide ((a0.rules.length:Int)>20)))).bind λv1=>(bif v1 then some false else dO (iter (FM n a0) n (0:Int)) λ()=>dO (iter (FN n a0) n (0:Int)) λ()=>some true)
def FO(a0:aC):Stp Int (Unit⊕Bool)
 |v2=>bif decide (v2<(a0.claims.length:Int))then(bx a0.claims v2).bind λx1=>(bif decide ((x1.attacks.length:Int)>14)then(some false).map λa=>.inr (.inr a)else some (.inl (i64.wrap (v2+1))))else some (.inr (.inl ()))
def FP(a0:aC):Stp Int (Unit⊕Bool)
 |v3=>bif decide (v3<(a0.aq.length:Int))then(bx a0.aq v3).bind λx2=>(bif decide ((x2.rows.length:Int)>10)then(some false).map λa=>.inr (.inr a)else some (.inl (i64.wrap (v3+1))))else some (.inr (.inl ()))
def V5(a0:aC):J Bool:=
 ((VZ n (fq.mk a0.bp a0.aq a0.bj a0.aw a0.be a0.bk a0.b7 a0.bm a0.cQ a0.cC a0.cJ a0.cN a0.c8)).bind λr1=>(bif (!r1)then some true else ck (aE (sub ([aQ.mk a0.b8 a0.bu]:Y aQ) 0 1).length 1)<|(V3 n (bO.mk ([]) ([]) ([]) ([]) ([]) ([]) ([]) 0) (Jo.mk 0 0 0 0 0 (sub ([aQ.mk a0.b8 a0.bu]:Y aQ) 0 1) 0 0) ([])).bind λr2=>(bif (!r2)then some true else bif decide ((a0.c7.length:Int)>20)then some true else bif decide ((a0.stays.length:Int)>8)then some true else bif decide ((a0.cases.length:Int)>12)then some true else bif decide ((a0.claims.length:Int)>14)then some true else(V4 n (bO.mk a0.bp a0.aq a0.bj a0.aw a0.be a0.bk a0.b7 a0.bm)).bind λr3=>some (!r3)))).bind λv1=>(bif v1 then some false else dO (iter (FO a0) n (0:Int)) λ()=>dO (iter (FP a0) n (0:Int)) λ()=>some true)
def Cn(a0:Y yK):J (List yK):=
 bif a0.isEmpty then(both (some ([]:(List yK))) (ck (bF ([]:Y yK).length 0 a0.length a0.length 40)<|gU (([]:Y yK)++a0) λr1=>ck (aE (sub r1 0 r1.length).length r1.length)<|some (sub r1 0 r1.length)))else ck (bF ([]:Y yK).length 0 a0.length a0.length 40)<|gU (([]:Y yK)++a0) λr2=>ck (aE (sub r2 0 r2.length).length r2.length)<|some (sub r2 0 r2.length)
def oo(a1:Y Bool):Stp (Int×Int×(List Int)) (List Int)
 |(v1,v2,v3)=>bif decide (v2<(a1.length:Int))then((bx a1 v2).bind λx1=>ck (cV v2 ((a1.length:Int).toNat))<|(bx v3 ((0:Nat)+v2:Int)).bind λx2=>(bif x1 then some (i64.wrap (v1+1),v3.set ((0:Nat)+v2:Int).toNat v1)else some (v1,v3.set ((0:Nat)+v2:Int).toNat v1)):J (Int×(List Int))).bind λ(v4,v5)=>some (.inl (v4,i64.wrap (v2+1),v5))else some (.inr v3)
def oq(a1:Y Bool)(w1 v8:Y Int):Stp (Int×Int×Int×Int×ByteArray×Int×(List Int)) (Int×Int×Int×ByteArray×Int×(List Int))
 |(v9,v10,v11,v12,v13,v14,v15)=>bif decide (v9<(v8.length:Int))then((bx v8 v9).bind λx5=>(bx a1 x5).bind λx6=>(bif x6 then ck (cV x5 ((a1.length:Int).toNat))<|(bx w1 ((0:Nat)+x5:Int)).bind λx7=>ck (bF v15.length v15.length (sub ([x7]:Y Int) 0 1).length 1 8)<|gU (v15++(sub ([x7]:Y Int) 0 1)) λr2=>ck (aE r2.length r2.length)<|some (v10,v11,v12,v13,v14,r2)else ck (aE v15.length v15.length)<|some (v10,v11,v12,v13,v14,v15)):J (Int×Int×Int×ByteArray×Int×(List Int))).bind λ(v16,v17,v18,v19,v20,v21)=>ck (aE v21.length v21.length)<|some (.inl (i64.wrap (v9+1),v16,v17,v18,v19,v20,v21))else ck (aE v15.length v15.length)<|some (.inr (v10,v11,v12,v13,v14,v15))
def rG(a0:aC)(a1:Y Bool)(a2:Int)(w1:Y Int):Stp (Int×(List aK)) (List aK)
 |(v6,v7)=>bif decide (v6<(a0.claims.length:Int))then((bx a0.claims v6).bind λx3=>(bx a1 v6).bind λx4=>(bif (!x4)then ck (aE v7.length v7.length)<|some v7 else((fD n x3.attacks (a0.claims.length:Int)).bind λr1=>(bif (!r1)then some ([]:(List Int))else some x3.attacks):J ((List Int))).bind λv8=>ck (aE 0 ([]:Y Int).length)<|(iter (oq a1 w1 v8) n ((0:Int),x3.gz,a2,x3.ec,x3.name,x3.n,([]:Y Int))).bind λ(w2,w3,w4,w5,w6,w7)=>ck (aE (sub w7 0 w7.length).length w7.length)<|ck (bF v7.length v7.length (sub ([aK.mk w2 w3 (sub w7 0 w7.length) w4 w5 w6]:Y aK) 0 1).length 1 72)<|gU (v7++(sub ([aK.mk w2 w3 (sub w7 0 w7.length) w4 w5 w6]:Y aK) 0 1)) λr3=>ck (aE r3.length r3.length)<|some r3):J ((List aK))).bind λv22=>ck (aE v22.length v22.length)<|some (.inl (i64.wrap (v6+1),v22))else ck (aE v7.length v7.length)<|some (.inr v7)
def xE(a0:aC)(a1:Y Bool)(a2:Int):J (List aK):=
 ck (decide ((a1.length:Int)<=(a1.length:Int))&&(decide (0<=(a1.length:Int))&&qg (a1.length:Int) 8))<|(iter (oo a1) n ((0:Int),(0:Int),List.replicate (a1.length:Int).toNat (0:Int))).bind λw1=>ck (aE 0 ([]:Y aK).length)<|(iter (rG n a0 a1 a2 w1) n ((0:Int),([]:Y aK))).bind λw8=>ck (aE (sub w8 0 w8.length).length w8.length)<|some (sub w8 0 w8.length)
def xG(a0:aC)(a1:Int):J (aC×Int):=
 (fQ a0).bind λr1=>(bif (!r1)then some (aC.mk ([]) ([]) ([]) ([]) ([]) ([]) ([]) 0 ([]) ([]) ([]) ([]) ([]) 0 ([]) 0 0 0 ([]) ([]) ([]) ([]),(1:Int))else(dS n a0).bind λr2=>(bif (r2.2 !=0)then some (aC.mk ([]) ([]) ([]) ([]) ([]) ([]) ([]) 0 ([]) ([]) ([]) ([]) ([]) 0 ([]) 0 0 0 ([]) ([]) ([]) ([]),r2.2)else bif decide (a1<=(r2.1:Int))then some (aC.mk ([]) ([]) ([]) ([]) ([]) ([]) ([]) 0 ([]) ([]) ([]) ([]) ([]) 0 ([]) 0 0 0 ([]) ([]) ([]) ([]),(20:Int))else(dS n (aC.mk a0.bp a0.aq a0.bj a0.aw a0.be a0.bk a0.b7 a0.bm a0.cQ a0.cC a0.cJ a0.cN a0.c8 a0.b8 a0.bu a0.rule a0.ed a1 a0.c7 a0.stays a0.cases a0.claims)).bind λr3=>(bif (r3.2 !=0)then some (aC.mk ([]) ([]) ([]) ([]) ([]) ([]) ([]) 0 ([]) ([]) ([]) ([]) ([]) 0 ([]) 0 0 0 ([]) ([]) ([]) ([]),r3.2)else(q9 a0.c7).bind λr4=>(sF a0.stays).bind λr5=>(Cn a0.cases).bind λr6=>(iK n a0).bind λr7=>ck (aE (sub r7 0 r7.length).length r7.length)<|(xE n a0 (sub r7 0 r7.length) a1).bind λr8=>ck (aE (sub r4 0 r4.length).length r4.length)<|ck (aE (sub r5 0 r5.length).length r5.length)<|ck (aE (sub r6 0 r6.length).length r6.length)<|ck (aE (sub r8 0 r8.length).length r8.length)<|some (aC.mk a0.bp a0.aq a0.bj a0.aw a0.be a0.bk a0.b7 a0.bm a0.cQ a0.cC a0.cJ a0.cN a0.c8 a0.b8 a0.bu a0.rule a0.ed a1 (sub r4 0 r4.length) (sub r5 0 r5.length) (sub r6 0 r6.length) (sub r8 0 r8.length),(0:Int)))))
def qy(a0:aC)(a1:Int):J Bool:=
 (Fx n (bO.mk a0.bp a0.aq a0.bj a0.aw a0.be a0.bk a0.b7 a0.bm)).bind λr1=>(eY n a0.c7 a0.stays a1 r1).bind λr2=>some (r2.2 !=0)
def jS(r3:Y Bool)(r7:Int×Int)(r9:Y Bool):Stp Int (Unit⊕Bool)
 |v4=>bif decide (v4<(r3.length:Int))then(ck (cV v4 r3.length)<|(bx r3 ((0:Nat)+v4:Int)).bind λx1=>(bif x1 then ck (cV v4 r9.length)<|(bx r9 ((0:Nat)+v4:Int)).bind λx2=>(bif (!x2)then some (r7.2==0)else some false)else some false)).bind λv5=>(bif v5 then(some false).map λa=>.inr (.inr a)else some (.inl (i64.wrap (v4+1))))else some (.inr (.inl ()))
def jT(r3:Y Bool)(r4:(List Int)×Bool):Stp (Int×(List Int)) (List Int)
 |(v7,v8)=>bif decide (v7<(r3.length:Int))then(ck (cV v7 r3.length)<|(bx r3 ((0:Nat)+v7:Int)).bind λx3=>(bif x3 then ck (cV v7 r4.1.length)<|(bx r4.1 ((0:Nat)+v7:Int)).bind λx4=>ck (bF v8.length v8.length (sub ([x4]:Y Int) 0 1).length 1 8)<|gU (v8++(sub ([x4]:Y Int) 0 1)) λAC=>ck (aE AC.length AC.length)<|some AC else ck (aE v8.length v8.length)<|some v8):J ((List Int))).bind λv9=>ck (aE v9.length v9.length)<|some (.inl (i64.wrap (v7+1),v9))else ck (aE v8.length v8.length)<|some (.inr v8)
def jU(a1:Int)(sA:aC×Int)(ym:Y Bool):Stp Int (Unit⊕Bool)
 |v10=>bif decide (v10<(ym.length:Int))then(ck (cV v10 ym.length)<|(bx ym ((0:Nat)+v10:Int)).bind λx5=>(bif (!x5)then some true else(bx sA.1.claims (min v10 (max (i64.wrap ((sA.1.claims.length:Int)-1)) (0:Int)))).bind λx6=>some (x6.day !=(a1:Int)))).bind λv11=>(bif v11 then(some false).map λa=>.inr (.inr a)else some (.inl (i64.wrap (v10+1))))else some (.inr (.inl ()))
def rH(a0:aC)(a1:Int)(a2:bM):J Bool:=
 (KN n).bind λr1=>((V5 n a0).bind λr2=>(bif (!r2)then some true else some ((a0.claims.length:Int)==0))).bind λv1=>(bif v1 then some r1 else(iK n a0).bind λr3=>(iQ n a0).bind λr4=>((bif ((r3.length:Int) !=(a0.claims.length:Int))then some true else some ((r4.1.length:Int) !=(a0.claims.length:Int)))).bind λv2=>(bif v2 then some false else ck (bF ([]:Y bM).length 0 a0.stays.length a0.stays.length 16)<|gU (([]:Y bM)++a0.stays) λr5=>ck (bF r5.length r5.length (sub ([a2]:Y bM) 0 1).length 1 16)<|gU (r5++(sub ([a2]:Y bM) 0 1)) λr6=>ck (aE (sub r6 0 r6.length).length r6.length)<|(dS n (aC.mk a0.bp a0.aq a0.bj a0.aw a0.be a0.bk a0.b7 a0.bm a0.cQ a0.cC a0.cJ a0.cN a0.c8 a0.b8 a0.bu a0.rule a0.ed a0.eo a0.c7 (sub r6 0 r6.length) a0.cases a0.claims)).bind λr7=>(dS n a0).bind λr8=>ck (aE (sub r6 0 r6.length).length r6.length)<|(iK n (aC.mk a0.bp a0.aq a0.bj a0.aw a0.be a0.bk a0.b7 a0.bm a0.cQ a0.cC a0.cJ a0.cN a0.c8 a0.b8 a0.bu a0.rule a0.ed a0.eo a0.c7 (sub r6 0 r6.length) a0.cases a0.claims)).bind λr9=>((bif ((r9.length:Int) !=(r3.length:Int))then some true else bif (r7.2==0)then(bif (r8.2==0)then some (decide (r7.1<(r8.1:Int)))else some false)else some false)).bind λv3=>(bif v3 then some false else dO (iter (jS r3 r7 r9) n (0:Int)) λ()=>(xG n a0 a1).bind λsA=>(bif (sA.2 !=0)then(bif r1 then(bif ((sA.1.claims.length:Int)==0)then(bif (r8.2 !=0)then some true else bif decide (a1<=(r8.1:Int))then some true else bif decide (a1>1073741824)then some true else(qy n a0 a1).bind λtd=>some td)else some false)else some false)else((bif decide (a1<=(r8.1:Int))then some true else some (sA.1.eo !=(a1:Int)))).bind λv6=>(bif v6 then some false else ck (aE 0 ([]:Y Int).length)<|(iter (jT r3 r4) n ((0:Int),([]:Y Int))).bind λw1=>(iQ n sA.1).bind λrI=>(iK n sA.1).bind λym=>dO (iter (jU a1 sA ym) n (0:Int)) λ()=>(bif r1 then(bif ((ym.length:Int)==(w1.length:Int))then(bif ((sA.1.claims.length:Int)==(w1.length:Int))then ck (aE (sub rI.1 0 rI.1.length).length rI.1.length)<|ck (aE (sub w1 0 w1.length).length w1.length)<|(vB n (sub rI.1 0 rI.1.length) (sub w1 0 w1.length)).bind λtR=>(bif tR then some (rI.2==r4.2)else some false)else some false)else some false)else some false))))))
end
end Go.Proofs
