import Derived.Test.YtnclkjejgffdmaaGreatTBase
open Go.IntKind (i64)
namespace Go.Proofs
open Go.Gb Go.RowKit
noncomputable section
variable (n:Nat)
def sH(a0:Int)(a1:Int):Option aG:=
 ck (az (sub ([(aZ.mk (⟨#[100,97,121,115]⟩) 5)]:List aZ) 0 1).length 1)<|ck (az (sub ([(ax.mk 0 0 9 9)]:List ax) 0 1).length 1)<|ck (az (sub ([(ax.mk 9 0 12 9)]:List ax) 0 1).length 1)<|ck (az (sub ([(aF.mk 2 2 4 4 0 9 2 0 false)]:List aF) 0 1).length 1)<|ck (az (sub ([0]:List Int) 0 1).length 1)<|ck (az (sub ([(bO.mk (⟨#[110,111,116,105,99,101]⟩) (sub ([(aZ.mk (⟨#[100,97,121,115]⟩) 5)]:List aZ) 0 1) 0)]:List bO) 0 1).length 1)<|ck (az (sub ([(fw.mk 1 7 (sub ([(ax.mk 0 0 9 9)]:List ax) 0 1) ([])),(fw.mk 2 8 (sub ([(ax.mk 9 0 12 9)]:List ax) 0 1) ([]))]:List fw) 0 2).length 2)<|ck (az (sub ([(kW.mk (sub ([(aF.mk 2 2 4 4 0 9 2 0 false)]:List aF) 0 1) ([]))]:List kW) 0 1).length 1)<|ck (az (sub ([(aL.mk 7 10 ([]) 0 (⟨#[]⟩) 0),(aL.mk 8 a1 (sub ([0]:List Int) 0 1) 1 (⟨#[104,101,105,103,104,116]⟩) a0)]:List aL) 0 2).length 2)<|some (aG.mk ([]) (sub ([(bO.mk (⟨#[110,111,116,105,99,101]⟩) (sub ([(aZ.mk (⟨#[100,97,121,115]⟩) 5)]:List aZ) 0 1) 0)]:List bO) 0 1) ([]) ([]) ([]) ([]) ([]) 0 (sub ([(fw.mk 1 7 (sub ([(ax.mk 0 0 9 9)]:List ax) 0 1) ([])),(fw.mk 2 8 (sub ([(ax.mk 9 0 12 9)]:List ax) 0 1) ([]))]:List fw) 0 2) ([]) ([]) ([]) ([]) 1 (sub ([(kW.mk (sub ([(aF.mk 2 2 4 4 0 9 2 0 false)]:List aF) 0 1) ([]))]:List kW) 0 1) 0 7 10 ([]) ([]) ([]) (sub ([(aL.mk 7 10 ([]) 0 (⟨#[]⟩) 0),(aL.mk 8 a1 (sub ([0]:List Int) 0 1) 1 (⟨#[104,101,105,103,104,116]⟩) a0)]:List aL) 0 2))
def FX(a0:List bO)(a1:(bO×Unit)->Option Bool):Stp Int (Unit⊕Int)
 |v1=>(bif decide (v1<a0.length)then(bj a0 v1).bind λx1=>(a1 (x1,())).bind λr1=>(bif r1 then(some v1).map λa=> .inr (.inr a)else some (.inl (i64.wrap (v1+1))))else some (.inr (.inl ())))
def nQ(a0:List bO)(a1:(bO×Unit)->Option Bool):Option Int:=
 dG (iter (FX a0 a1) n 0) λ()=>some (-1)
def abk(a0:bO):Option Bool:=
 some (ByteArray.toList a0.name==ByteArray.toList (⟨#[110,111,116,105,99,101]⟩))
def abl(a0:aZ)(a1:ByteArray):Option Bool:=
 some (ByteArray.toList a0.name==ByteArray.toList a1)
def FY(a0:List aZ)(a1:(aZ×Unit)->Option Bool):Stp Int (Unit⊕Int)
 |v1=>(bif decide (v1<a0.length)then(bj a0 v1).bind λx1=>(a1 (x1,())).bind λr1=>(bif r1 then(some v1).map λa=> .inr (.inr a)else some (.inl (i64.wrap (v1+1))))else some (.inr (.inl ())))
def iT(a0:List aZ)(a1:(aZ×Unit)->Option Bool):Option Int:=
 dG (iter (FY a0 a1) n 0) λ()=>some (-1)
def Qs(a0:bL)(a1:ByteArray):Option Int:=
 (nQ n a0.tables (λ (y1:bO×Unit)=>abk y1.1)).bind λr1=>(bif decide (r1<0)then some (0:Int)else(bj a0.tables r1).bind λx1=>(iT n x1.rows (λ (y2:aZ×Unit)=>abl y2.1 a1)).bind λr2=>(bif decide (r2<0)then some x1.rk else(bj x1.rows r2).bind λx2=>some x2.n))
def NS(a0:bL):Option Int:=
 (Qs n a0 (⟨#[100,97,121,115]⟩)).bind λr1=>some (max (0:Int) r1)
def Bp(a0:List dH):Option (List dH):=
 (bif a0.isEmpty then(both (some ([]:(List dH))) (ck (bK ([]:List dH).length 0 a0.length a0.length 16)<|iP (([]:List dH)++a0) λr1=>ck (az (sub r1 0 r1.length).length r1.length)<|some (sub r1 0 r1.length)))else ck (bK ([]:List dH).length 0 a0.length a0.length 16)<|iP (([]:List dH)++a0) λr2=>ck (az (sub r2 0 r2.length).length r2.length)<|some (sub r2 0 r2.length))
def vH(_:Nat)(a0:List dH)(a1:(dH×dH×Unit)->Option Int):Option (List dH):=NN a0 a1
def nC(a0:dH)(a1:dH):Option Int:=
 some (i64.wrap (a0.from_ -a1.from_))
def ql(a0:List dH):Stp Int (Unit⊕((List dH)×Bool))
 |v1=>(bif decide (v1<(a0.length:Int))then(bj a0 v1).bind λx1=>((bif decide (x1.from_<0)then some true else(bif decide (x1.from_>(x1.to:Int))then some true else some (decide (x1.to>1073741824))))).bind λv2=>(bif v2 then(some (([]:(List dH)),false)).map λa=> .inr (.inr a)else some (.inl (i64.wrap (v1+1))))else some (.inr (.inl ())))
def qm(r1:List dH)(r2:List dH):Stp (Int×(List dH)) (List dH)
 |(v3,v4)=>(bif decide (v3<(r1.length:Int))then(ck (cN v3 r1.length)<|(bj r2 ((0:Nat)+v3:Int)).bind λx2=>((bif decide ((i64.wrap ((v4.length:Int) -1))>=0)then ck (cN (i64.wrap ((v4.length:Int) -1)) v4.length)<|(bj v4 ((0:Nat)+(i64.wrap ((v4.length:Int) -1)):Int)).bind λx3=>some (decide (x2.from_<=(x3.to:Int)))else some false)).bind λv5=>(bif v5 then ck (cN (i64.wrap ((v4.length:Int) -1)) v4.length)<|(bj v4 ((0:Nat)+(i64.wrap ((v4.length:Int) -1)):Int)).bind λx4=>ck (cN (i64.wrap ((v4.length:Int) -1)) v4.length)<|(bj v4 ((0:Nat)+(i64.wrap ((v4.length:Int) -1)):Int)).bind λx5=>ck (az v4.length (v4.set ((0:Nat)+(i64.wrap ((v4.length:Int) -1)):Int).toNat (dH.mk x5.from_ (max x4.to x2.to))).length)<|some (v4.set ((0:Nat)+(i64.wrap ((v4.length:Int) -1)):Int).toNat (dH.mk x5.from_ (max x4.to x2.to)))else ck (bK v4.length v4.length (sub ([x2]:List dH) 0 1).length 1 16)<|iP (v4++(sub ([x2]:List dH) 0 1)) λr3=>ck (az r3.length r3.length)<|some r3):Option ((List dH))).bind λv6=>ck (az v6.length v6.length)<|some (.inl ((i64.wrap (v3+1)),v6))else ck (az v4.length v4.length)<|some (.inr v4))
def vW(a0:List dH):Option ((List dH)×Bool):=
 (bif decide ((a0.length:Int)>100)then some (([]:(List dH)),false)else(Bp a0).bind λr1=>ck (az r1.length r1.length)<|(vH n r1 (λ (y1:dH×dH×Unit)=>nC y1.1 y1.2.1)).bind λr2=>dG (iter (ql a0) n (0:Int)) λ()=>ck (az 0 ([]:List dH).length)<|(iter (qm r1 r2) n ((0:Int),([]:List dH))).bind λw1=>ck (az (sub w1 0 w1.length).length w1.length)<|some ((sub w1 0 w1.length),true))
def nD(a0:Int):Option Bool:=
 (bif decide (0<=(a0:Int))then some (decide (a0<=1073741824))else some false)
def lM(a0:List Int):Stp Int (Unit⊕Bool)
 |v1=>(bif decide (v1<(a0.length:Int))then(bj a0 v1).bind λx1=>((nD x1).bind λr1=>(bif (!r1)then some true else(bif decide (v1>0)then(bj a0 (i64.wrap (v1 -1))).bind λx2=>some (decide (x1<=(x2:Int)))else some false))).bind λv2=>(bif v2 then(some false).map λa=> .inr (.inr a)else some (.inl (i64.wrap (v1+1))))else some (.inr (.inl ())))
def tN(a0:List Int):Option Bool:=
 (bif decide ((a0.length:Int)>1000)then some false else dG (iter (lM a0) n (0:Int)) λ()=>some true)
def qo(a0:List Int)(a1:Int):Stp (Int×Int) Int
 |(v1,v2)=>(bif decide (v2<(a0.length:Int))then((bj a0 v2).bind λx1=>((bif decide (x1<(a1:Int))then ck (7 !=0)<|some (decide ((Int.tmod x1 7)<5))else some false)).bind λv3=>(bif v3 then some (i64.wrap (v1 -1))else some v1):Option Int).bind λv4=>some (.inl (v4,(i64.wrap (v2+1))))else some (.inr v1))
def kr(a0:List Int)(a1:Int):Option Int:=
 ck (7 !=0)<|ck (7 !=0)<|(iter (qo a0 a1) n ((i64.wrap ((i64.wrap ((i64.wrap (Int.tdiv a1 7))*5))+(min (Int.tmod a1 7) (5:Int)))),(0:Int))).bind λw1=>some w1
def pF(a0:List Int)(a1:List dH)(a2:Int)(a3:Int):Stp (Int×Int) Int
 |(v1,v2)=>(bif decide (v2<(a1.length:Int))then((bj a1 v2).bind λx1=>(bif decide ((max x1.from_ (i64.wrap (a2+1)))<=((min x1.to a3):Int))then(kr n a0 (i64.wrap ((min x1.to a3)+1))).bind λr3=>(kr n a0 (max x1.from_ (i64.wrap (a2+1)))).bind λr4=>some (i64.wrap (v1 -(i64.wrap (r3 -r4))))else some v1):Option Int).bind λv3=>some (.inl (v3,(i64.wrap (v2+1))))else some (.inr v1))
def tO(a0:List Int)(a1:List dH)(a2:Int)(a3:Int):Option Int:=
 (kr n a0 (i64.wrap (a3+1))).bind λr1=>(kr n a0 (i64.wrap (a2+1))).bind λr2=>(iter (pF n a0 a1 a2 a3) n ((i64.wrap (r1 -r2)),(0:Int))).bind λw1=>some w1
def ja(a0:Int)(a1:List Int)(a2:List dH)(a3:Int)(a4:Int):Option Bool:=
 (tO n a1 a2 a3 (i64.wrap ((i64.wrap (a3+1))+a0))).bind λr1=>some (decide (r1>=(a4:Int)))
def jb(a1:(Int×Unit)->Option Bool):Stp (Int×Int) Int
 |(v1,v2)=>(bif decide (v1<(v2:Int))then ck (decide (0<=1)&&decide (1<=IntKind.u64.bits))<|(a1 ((i64.wrap ((IntKind.u64.wrap (i64.wrap (v1+v2)))/2 ^ (1:Int).toNat)),())).bind λr1=>(bif (!r1)then some (.inl ((i64.wrap ((i64.wrap ((IntKind.u64.wrap (i64.wrap (v1+v2)))/2 ^ (1:Int).toNat))+1)),v2))else some (.inl (v1,(i64.wrap ((IntKind.u64.wrap (i64.wrap (v1+v2)))/2 ^ (1:Int).toNat)))))else some (.inr v1))
def sort_Search(a0:Int)(a1:(Int×Unit)->Option Bool):Option Int:=
 (iter (jb a1) n ((0:Int),a0)).bind λw1=>some w1
def fU(a0:List Int)(a1:List dH)(a2:Int)(a3:Int):Option (Int×Int):=
 (vW n a1).bind λr1=>ck (az (sub r1.1 0 r1.1.length).length r1.1.length)<|((bif (!r1.2)then some true else(tN n a0).bind λr2=>(bif (!r2)then some true else(nD a2).bind λr3=>(bif (!r3)then some true else(nD a3).bind λr4=>some (!r4))))).bind λv1=>(bif v1 then some ((0:Int),(1:Int))else(bif (a3==0)then some (a2,(0:Int))else(sort_Search n (i64.wrap (1073741824 -a2)) (λ (y1:Int×Unit)=>ja n y1.1 a0 (sub r1.1 0 r1.1.length) a2 a3)).bind λr5=>(bif (r5==((i64.wrap (1073741824 -a2)):Int))then some ((0:Int),(20:Int))else some ((i64.wrap ((i64.wrap (a2+1))+r5)),(0:Int)))))
def gJ(a0:aG):Option (Int×Int):=
 (NS n (bL.mk a0.cj a0.aw a0.b7 a0.aE a0.br a0.b8 a0.cw a0.b9)).bind λr1=>(fU n a0.eV a0.stays a0.gz r1).bind λr2=>some (r2.1,r2.2)
def nE(a0:aG):Option Bool:=
 (bif decide (1<=(a0.claims.length:Int))then some (decide ((a0.claims.length:Int)<=300))else some false)
def tQ(a0:aG)(a1:Int):Option Bool:=
 (gJ n a0).bind λr1=>(bif (r1.2==0)then(bif decide (a0.gz<=(a1:Int))then some (decide (a1<=(r1.1:Int)))else some false)else some false)
def Bq(a0:List ax):Option (List ax):=
 (bif a0.isEmpty then(both (some []) (ck (bK ([]:List ax).length 0 a0.length a0.length 32)<|iP ([]++a0) λr1=>ck (az (sub r1 0 r1.length).length r1.length)<|some (sub r1 0 r1.length)))else ck (bK ([]:List ax).length 0 a0.length a0.length 32)<|iP ([]++a0) λr2=>ck (az (sub r2 0 r2.length).length r2.length)<|some (sub r2 0 r2.length))
def xJ(a0:List Int):Option (List Int):=
 (bif a0.isEmpty then(both (some []) (ck (bK ([]:List Int).length 0 a0.length a0.length 8)<|iP ([]++a0) λr1=>ck (az (sub r1 0 r1.length).length r1.length)<|some (sub r1 0 r1.length)))else ck (bK ([]:List Int).length 0 a0.length a0.length 8)<|iP ([]++a0) λr2=>ck (az (sub r2 0 r2.length).length r2.length)<|some (sub r2 0 r2.length))
def C8(a0:fw):Option fw:=
 (Bq a0.area).bind λr1=>(xJ a0.from_).bind λr2=>ck (az (sub r1 0 r1.length).length r1.length)<|ck (az (sub r2 0 r2.length).length r2.length)<|some (fw.mk a0.id a0.owner (sub r1 0 r1.length) (sub r2 0 r2.length))
def rV(a0:List fw)(a1:Int):Stp Int (Unit⊕(fw×Bool))
 |v1=>(bif decide (v1<a0.length)then(bj a0 v1).bind λx1=>(bif (x1.id==a1)then(C8 x1).bind λr1=>(some (r1,true)).map λa=> .inr (.inr a)else some (.inl (i64.wrap (v1+1))))else some (.inr (.inl ())))
def pG(a0:List fw)(a1:Int):Option (fw×Bool):=
 dG (iter (rV a0 a1) n 0) λ()=>some ((fw.mk 0 0 ([]) ([])),false)
def pY(a0:bL)(x1:kW):Stp (Int×Int) Int
 |(v3,v4)=>(bif decide (v4<(x1.bk.length:Int))then((bj x1.bk v4).bind λx2=>((bif decide (x2.use>=0)then some (decide (x2.use<6))else some false)).bind λv5=>(bif v5 then ck (cN x2.use 6)<|(bj ([⟨#[104,111,109,101]⟩,⟨#[115,104,111,112]⟩,⟨#[119,111,114,107]⟩,⟨#[112,97,114,107]⟩,⟨#[112,108,97,110,116]⟩,⟨#[104,97,108,108]⟩]:List ByteArray) x2.use).bind λx3=>(Qs n a0 x3).bind λr1=>some (max v3 r1)else some v3):Option Int).bind λv6=>some (.inl (v6,(i64.wrap (v4+1))))else some (.inr v3))
def tT(a0:bL)(a1:aM):Stp (Int×Int) Int
 |(v1,v2)=>(bif decide (v2<(a1.phases.length:Int))then(bj a1.phases v2).bind λx1=>(iter (pY n a0 x1) n (v1,(0:Int))).bind λw1=>some (.inl (w1,(i64.wrap (v2+1))))else some (.inr v1))
def wM(a0:bL)(a1:aM):Option Int:=
 (iter (tT n a0 a1) n ((0:Int),(0:Int))).bind λw2=>some w2
def pI(a0:ax):Option Bool:=
 (bif decide (0<=a0.x0)then(bif decide (a0.x0<a0.x1)then(bif decide (a0.x1<=1048576)then(bif decide (0<=a0.y0)then(bif decide (a0.y0<a0.y1)then some (decide (a0.y1<=1048576))else some false)else some false)else some false)else some false)else some false)
def NT(a0:Unit)(a1:Int):Option (List ax):=
 (bif decide (a1<0)then none else(bif (decide ((i64.wrap (a1 -(i64.wrap (0 -0))))>0))then ck (sQ (i64.wrap (a1 -(i64.wrap (0 -0)))) 32)<|ck (Bg 0 0 ((i64.wrap (a1 -(i64.wrap (0 -0)))).toNat))<|ck (az (sub (List.replicate (i64.wrap (a1 -(i64.wrap (0 -0)))).toNat (ax.mk 0 0 0 0)) 0 0).length 0)<|some (sub (List.replicate (i64.wrap (a1 -(i64.wrap (0 -0)))).toNat (ax.mk 0 0 0 0)) 0 0)else some []))
def NU(a0:List (List ax)):Stp (Int×Int) Int
 |(v1,v2)=>(bif decide (v2<a0.length)then(bj a0 v2).bind λx1=>(bif decide ((i64.wrap (v1+x1.length))<0)then none else some (.inl ((i64.wrap (v1+x1.length)),(i64.wrap (v2+1)))))else some (.inr v1))
def NV(a0:List (List ax)):Stp (Int×(List ax)) (List ax)
 |(v3,v4)=>(bif decide (v3<a0.length)then(bj a0 v3).bind λx2=>ck (bK v4.length v4.length x2.length x2.length 32)<|iP (v4++x2) λr2=>ck (az r2.length r2.length)<|some (.inl ((i64.wrap (v3+1)),r2))else ck (az v4.length v4.length)<|some (.inr v4))
def yU(a0:List (List ax)):Option (List ax):=
 (iter (NU a0) n (0,0)).bind λw1=>(NT () w1).bind λr1=>ck (az r1.length r1.length)<|(iter (NV a0) n (0,r1)).bind λw2=>ck (az (sub w2 0 w2.length).length w2.length)<|some (sub w2 0 w2.length)
def lN(_:Nat)(a0:List Int):Option (List Int):=N1 a0
def NW(a0:List Int)(v1:Int):Stp (Int×Int×(List Int)) (Int×(List Int))
 |(v2,v3,v4)=>(bif decide (v3<((a0.length -v1.toNat):Nat))then(ck (cN v3 (a0.length -v1.toNat))<|(bj v4 (((0+v1.toNat):Nat)+v3:Int)).bind λx3=>ck (cN (i64.wrap (v3 -1)) (a0.length -v1.toNat))<|(bj v4 (((0+v1.toNat):Nat)+(i64.wrap (v3 -1)):Int)).bind λx4=>(bif (x3 !=x4)then ck (cN v3 (a0.length -v1.toNat))<|(bj v4 (((0+v1.toNat):Nat)+v3:Int)).bind λx5=>ck (cN v2 a0.length)<|(bj v4 ((0:Nat)+v2:Int)).bind λx6=>some ((i64.wrap (v2+1)),(v4.set ((0:Nat)+v2:Int).toNat x5))else some (v2,v4)):Option (Int×(List Int))).bind λ(v5,v6)=>some (.inl (v5,(i64.wrap (v3+1)),v6))else some (.inr (v2,v4)))
def NY(a0:List Int):Stp Int (Unit⊕(Unit×(List Int)))
 |v1=>(bif decide (v1<(a0.length:Nat))then ck (cN v1 a0.length)<|(bj a0 ((0:Nat)+v1:Int)).bind λx1=>ck (cN (i64.wrap (v1 -1)) a0.length)<|(bj a0 ((0:Nat)+(i64.wrap (v1 -1)):Int)).bind λx2=>(bif (x1==x2)then ck (Bg v1 (a0.length:Nat) a0.length)<|(iter (NW a0 v1) n (v1,1,a0)).bind λ(w1,w2)=>ck (Bg w1 (a0.length:Nat) a0.length)<|ck (Bg 0 w1 a0.length)<|(ck (az (w1.toNat) (w1.toNat))<|ck (az (sub (w2.take (0+w1.toNat)) 0 (w1.toNat)).length (w1.toNat))<|some ((),(sub (w2.take (0+w1.toNat)) 0 (w1.toNat)))).map λa=> .inr (.inr a)else some (.inl (i64.wrap (v1+1))))else some (.inr (.inl ())))
def kF(a0:List Int):Option (Unit×(List Int)):=
 (bif decide ((a0.length:Int)<2)then ck (az a0.length a0.length)<|ck (az (sub a0 0 a0.length).length a0.length)<|some ((),(sub a0 0 a0.length))else dG (iter (NY n a0) n 1) λ()=>ck (az a0.length a0.length)<|ck (az (sub a0 0 a0.length).length a0.length)<|some ((),(sub a0 0 a0.length)))
def vI(_:Nat)(a0:List aN)(a1:(aN×aN×Unit)->Option Int):Option (List aN):=NN a0 a1
def cmp_isNaN_int(a0:Int):Option Bool:=
 some (a0 !=a0)
def cmp_Compare_int(a0:Int)(a1:Int):Option Int:=
 (cmp_isNaN_int a0).bind λr1=>(cmp_isNaN_int a1).bind λr2=>(bif r1 then(bif r2 then some 0 else some (-1))else(bif r2 then some 1 else(bif decide (a0<a1)then some (-1)else(bif decide (a0>a1)then some 1 else some 0))))
def xK(a0:aN)(a1:aN):Option Int:=
 (cmp_Compare_int a0.from_ a1.from_).bind λr1=>some r1
def tV(a0:List ax)(a1:Int):Stp (Int×(List aN)) (List aN)
 |(v1,v2)=>(bif decide (v1<a0.length)then((bj a0 v1).bind λx1=>((bif decide (x1.x0<=a1)then some (decide (a1<x1.x1))else some false)).bind λv3=>(bif v3 then ck (bK v2.length v2.length (sub ([(aN.mk x1.y0 x1.y1)]:List aN) 0 1).length 1 16)<|iP (v2++(sub ([(aN.mk x1.y0 x1.y1)]:List aN) 0 1)) λr1=>ck (az r1.length r1.length)<|some r1 else ck (az v2.length v2.length)<|some v2):Option ((List aN))).bind λv4=>ck (az v4.length v4.length)<|some (.inl ((i64.wrap (v1+1)),v4))else ck (az v2.length v2.length)<|some (.inr v2))
def tX(w1:List aN)(r2:List aN):Stp (Int×(List aN)) (List aN)
 |(v5,v6)=>(bif decide (v5<(w1.length:Nat))then(ck (cN v5 w1.length)<|(bj r2 ((0:Nat)+v5:Int)).bind λx2=>((bif decide ((v6.length:Int)>0)then ck (cN (i64.wrap ((v6.length:Nat) -1)) v6.length)<|(bj v6 ((0:Nat)+(i64.wrap ((v6.length:Nat) -1)):Int)).bind λx3=>some (decide (x2.from_<=x3.to))else some false)).bind λv7=>(bif v7 then ck (cN (i64.wrap ((v6.length:Nat) -1)) v6.length)<|(bj v6 ((0:Nat)+(i64.wrap ((v6.length:Nat) -1)):Int)).bind λx4=>ck (cN (i64.wrap ((v6.length:Nat) -1)) v6.length)<|(bj v6 ((0:Nat)+(i64.wrap ((v6.length:Nat) -1)):Int)).bind λx5=>ck (az v6.length (v6.set ((0:Nat)+(i64.wrap ((v6.length:Nat) -1)):Int).toNat (aN.mk x5.from_ (max x4.to x2.to))).length)<|some (v6.set ((0:Nat)+(i64.wrap ((v6.length:Nat) -1)):Int).toNat (aN.mk x5.from_ (max x4.to x2.to)))else ck (bK v6.length v6.length (sub ([x2]:List aN) 0 1).length 1 16)<|iP (v6++(sub ([x2]:List aN) 0 1)) λr3=>ck (az r3.length r3.length)<|some r3):Option ((List aN))).bind λv8=>ck (az v8.length v8.length)<|some (.inl ((i64.wrap (v5+1)),v8))else ck (az v6.length v6.length)<|some (.inr v6))
def JW(a0:List ax)(a1:Int):Option (List aN):=
 ck (az 0 ([]:List aN).length)<|(iter (tV a0 a1) n (0,[])).bind λw1=>ck (az w1.length w1.length)<|(vI n w1 (λ (y1:aN×aN×Unit)=>xK y1.1 y1.2.1)).bind λr2=>ck (az 0 ([]:List aN).length)<|(iter (tX w1 r2) n (0,[])).bind λw2=>ck (az (sub w2 0 w2.length).length w2.length)<|some (sub w2 0 w2.length)
def tY(r1:List ax):Stp (Int×(List Int)) (List Int)
 |(v1,v2)=>(bif decide (v1<(r1.length:Nat))then ck (cN v1 r1.length)<|(bj r1 ((0:Nat)+v1:Int)).bind λx1=>ck (bK v2.length v2.length (sub ([x1.x0,x1.x1]:List Int) 0 2).length 2 8)<|iP (v2++(sub ([x1.x0,x1.x1]:List Int) 0 2)) λr2=>ck (az r2.length r2.length)<|some (.inl ((i64.wrap (v1+1)),r2))else ck (az v2.length v2.length)<|some (.inr v2))
def tZ(r1:List ax)(r4:Unit×(List Int)):Stp (Int×(List bP)) (List bP)
 |(v3,v4)=>(bif decide (v3<(r4.2.length:Nat))then ck (cN (i64.wrap (v3 -1)) r4.2.length)<|(bj r4.2 ((0:Nat)+(i64.wrap (v3 -1)):Int)).bind λx2=>ck (cN v3 r4.2.length)<|(bj r4.2 ((0:Nat)+v3:Int)).bind λx3=>ck (cN (i64.wrap (v3 -1)) r4.2.length)<|(bj r4.2 ((0:Nat)+(i64.wrap (v3 -1)):Int)).bind λx4=>ck (az (sub r1 0 r1.length).length r1.length)<|(JW n (sub r1 0 r1.length) x4).bind λr5=>ck (az (sub r5 0 r5.length).length r5.length)<|ck (bK v4.length v4.length (sub ([(bP.mk x2 x3 (sub r5 0 r5.length))]:List bP) 0 1).length 1 40)<|iP (v4++(sub ([(bP.mk x2 x3 (sub r5 0 r5.length))]:List bP) 0 1)) λr6=>ck (az r6.length r6.length)<|some (.inl ((i64.wrap (v3+1)),r6))else ck (az v4.length v4.length)<|some (.inr v4))
def oW(a0:List (List ax)):Option (List bP):=
 (yU n a0).bind λr1=>ck (az 0 ([]:List Int).length)<|(iter (tY r1) n (0,[])).bind λw1=>ck (az w1.length w1.length)<|(lN n w1).bind λr3=>ck (az w1.length r3.length)<|(kF n r3).bind λr4=>ck (az 0 ([]:List bP).length)<|(iter (tZ n r1 r4) n (1,[])).bind λw2=>ck (az (sub w2 0 w2.length).length w2.length)<|some (sub w2 0 w2.length)
def Qt(a0:List aN)(a1:List aN):Stp Int (Unit⊕Bool)
 |v1=>(bif decide (v1<a0.length)then(bj a0 v1).bind λx1=>(bj a1 v1).bind λx2=>(bif (!((x1.from_==x2.from_)&&((x1.to==x2.to)&&true)))then(some false).map λa=> .inr (.inr a)else some (.inl (i64.wrap (v1+1))))else some (.inr (.inl ())))
def vX(a0:List aN)(a1:List aN):Option Bool:=
 (bif (a0.length !=(a1.length:Int))then some false else dG (iter (Qt a0 a1) n 0) λ()=>some true)
def sI(a0:List bP)(v1:Int):Stp Int Int
 |v3=>((bif decide (v3<a0.length)then(bj a0 v3).bind λx1=>(bj a0 v1).bind λx2=>(vX n x1.column x2.column).bind λr1=>some r1 else some false)).bind λv4=>(bif v4 then some (.inl (i64.wrap (v3+1)))else some (.inr v3))
def wN(a0:List bP)(v1:Int)(w1:Int)(x3:bP):Stp (Int×(List ax)) (List ax)
 |(v5,v6)=>(bif decide (v5<x3.column.length)then(bj x3.column v5).bind λx4=>(bj a0 v1).bind λx5=>(bj a0 (i64.wrap (w1 -1))).bind λx6=>ck (bK v6.length v6.length (sub ([(ax.mk x5.x0 x4.from_ x6.x1 x4.to)]:List ax) 0 1).length 1 32)<|iP (v6++(sub ([(ax.mk x5.x0 x4.from_ x6.x1 x4.to)]:List ax) 0 1)) λr2=>ck (az r2.length r2.length)<|some (.inl ((i64.wrap (v5+1)),r2))else ck (az v6.length v6.length)<|some (.inr v6))
def wO(a0:List bP):Stp (Int×(List ax)) (List ax)
 |(v1,v2)=>(bif decide (v1<a0.length)then(iter (sI n a0 v1) n (i64.wrap (v1+1))).bind λw1=>(bj a0 v1).bind λx3=>ck (az v2.length v2.length)<|(iter (wN a0 v1 w1 x3) n (0,v2)).bind λw2=>ck (az w2.length w2.length)<|some (.inl (w1,w2))else ck (az v2.length v2.length)<|some (.inr v2))
def Iw(a0:List bP):Option (List ax):=
 ck (az 0 ([]:List ax).length)<|(iter (wO n a0) n (0,[])).bind λw3=>ck (az (sub w3 0 w3.length).length w3.length)<|some (sub w3 0 w3.length)
def yV(a0:List ax):Option ((List ax)×Int):=
 (bif decide ((a0.length:Int)>200)then some ([],6)else some (a0,0))
def NZ(a0:List ax):Stp Int (Unit⊕((List ax)×Int))
 |v1=>(bif decide (v1<a0.length)then(bj a0 v1).bind λx1=>(pI x1).bind λr1=>(bif (!r1)then(some ([],1)).map λa=> .inr (.inr a)else some (.inl (i64.wrap (v1+1))))else some (.inr (.inl ())))
def SO(a0:List ax):Option ((List ax)×Int):=
 dG (iter (NZ a0) n 0) λ()=>(bif decide ((a0.length:Int)>400)then some ([],6)else ck (az (sub ([a0]:List (List ax)) 0 1).length 1)<|(oW n (sub ([a0]:List (List ax)) 0 1)).bind λr2=>ck (az (sub r2 0 r2.length).length r2.length)<|(Iw n (sub r2 0 r2.length)).bind λr3=>ck (az (sub r3 0 r3.length).length r3.length)<|(yV (sub r3 0 r3.length)).bind λr4=>some (r4.1,r4.2))
def Qu(a0:List ax)(a1:List ax):Stp Int (Unit⊕Bool)
 |v1=>(bif decide (v1<a0.length)then(bj a0 v1).bind λx1=>(bj a1 v1).bind λx2=>(bif (!((x1.x0==x2.x0)&&((x1.y0==x2.y0)&&((x1.x1==x2.x1)&&((x1.y1==x2.y1)&&true)))))then(some false).map λa=> .inr (.inr a)else some (.inl (i64.wrap (v1+1))))else some (.inr (.inl ())))
def oZ(a0:List ax)(a1:List ax):Option Bool:=
 (bif (a0.length !=(a1.length:Int))then some false else dG (iter (Qu a0 a1) n 0) λ()=>some true)
def lQ(a0:List ax):Option Bool:=
 (SO n a0).bind λr1=>(bif (r1.2==0)then(oZ n r1.1 a0).bind λr2=>some r2 else some false)
def amv(a0:ax)(a1:ax):Option (Int×Int):=
 some ((i64.wrap ((max a0.x0 a1.x0) -(min a0.x1 a1.x1))),(i64.wrap ((max a0.y0 a1.y0) -(min a0.y1 a1.y1))))
def N0(a0:ax)(a1:ax):Option Int:=
 ((pI a0).bind λr1=>(bif (!r1)then some true else(pI a1).bind λr2=>some (!r2))).bind λv1=>(bif v1 then some (-1)else(amv a0 a1).bind λr3=>some (max (max 0 r3.1) r3.2))
def C9(a1:List ax)(x1:ax):Stp (Int×Int) Int
 |(v4,v5)=>(bif decide (v5<(a1.length:Int))then(bj a1 v5).bind λx2=>(N0 x1 x2).bind λr3=>some (.inl ((min v4 r3),(i64.wrap (v5+1))))else some (.inr v4))
def Da(a0:List ax)(a1:List ax):Stp (Int×Int) Int
 |(v2,v3)=>(bif decide (v3<(a0.length:Int))then(bj a0 v3).bind λx1=>(iter (C9 a1 x1) n (v2,(0:Int))).bind λw1=>some (.inl (w1,(i64.wrap (v3+1))))else some (.inr v2))
def Xt(a0:List ax)(a1:List ax):Option (Int×Bool):=
 ((bif ((a0.length:Int)==0)then some true else(bif ((a1.length:Int)==0)then some true else(lQ n a0).bind λr1=>(bif (!r1)then some true else(lQ n a1).bind λr2=>some (!r2))))).bind λv1=>(bif v1 then some ((0:Int),false)else(iter (Da n a0 a1) n ((1048576:Int),(0:Int))).bind λw2=>some (w2,true))
def yX(a0:List fw):Stp (Int×(List (List ax))) (List (List ax))
 |(v1,v2)=>(bif decide (v1<(a0.length:Int))then(bj a0 v1).bind λx1=>ck (bK v2.length v2.length (sub ([x1.area]:List (List ax)) 0 1).length 1 24)<|iP (v2++(sub ([x1.area]:List (List ax)) 0 1)) λr2=>ck (az r2.length r2.length)<|some (.inl ((i64.wrap (v1+1)),r2))else ck (az v2.length v2.length)<|some (.inr v2))
def yY(a0:List fw)(a1:Int)(a2:Int)(r1:fw×Bool)(w1:List (List ax)):Stp (Int×(List Int)) (List Int)
 |(v3,v4)=>(bif decide (v3<(w1.length:Int))then(ck (cN v3 w1.length)<|(bj w1 ((0:Nat)+v3:Int)).bind λx2=>(Xt n r1.1.area x2).bind λr3=>((bif r3.2 then(bif decide (r3.1<=(a2:Int))then(bj a0 v3).bind λx3=>some (x3.id !=(a1:Int))else some false)else some false)).bind λv5=>(bif v5 then(bj a0 v3).bind λx4=>ck (bK v4.length v4.length (sub ([x4.id]:List Int) 0 1).length 1 8)<|iP (v4++(sub ([x4.id]:List Int) 0 1)) λr4=>ck (az r4.length r4.length)<|some r4 else ck (az v4.length v4.length)<|some v4):Option ((List Int))).bind λv6=>ck (az v6.length v6.length)<|some (.inl ((i64.wrap (v3+1)),v6))else ck (az v4.length v4.length)<|some (.inr v4))
def N7(a0:List fw)(a1:Int)(a2:Int):Option (List Int):=
 (pG n a0 a1).bind λr1=>(bif (!r1.2)then some ([]:(List Int))else ck (az 0 ([]:List (List ax)).length)<|(iter (yX a0) n ((0:Int),([]:List (List ax)))).bind λw1=>ck (az 0 ([]:List Int).length)<|(iter (yY n a0 a1 a2 r1 w1) n ((0:Int),([]:List Int))).bind λw2=>ck (az w2.length w2.length)<|(lN n w2).bind λr5=>ck (az w2.length r5.length)<|(kF n r5).bind λr6=>ck (az (sub r6.2 0 r6.2.length).length r6.2.length)<|some (sub r6.2 0 r6.2.length))
def U0(a0:dX)(a1:aM):Option (List Int):=
 (wM n (bL.mk a0.cC a0.ci a0.ct a0.aq a0.cM a0.cP a0.dt a0.cQ) a1).bind λr1=>(N7 n a0.land a1.lot r1).bind λr2=>ck (az (sub r2 0 r2.length).length r2.length)<|some (sub r2 0 r2.length)
def uf(a0:dX)(r1:List Int):Stp (Int×(List Int)) (List Int)
 |(v1,v2)=>(bif decide (v1<(r1.length:Int))then ck (cN v1 r1.length)<|(bj r1 ((0:Nat)+v1:Int)).bind λx1=>(pG n a0.land x1).bind λr2=>ck (bK v2.length v2.length (sub ([r2.1.owner]:List Int) 0 1).length 1 8)<|iP (v2++(sub ([r2.1.owner]:List Int) 0 1)) λr3=>ck (az r3.length r3.length)<|some (.inl ((i64.wrap (v1+1)),r3))else ck (az v2.length v2.length)<|some (.inr v2))
def JX(a0:dX)(a1:aM):Option (List Int):=
 (U0 n a0 a1).bind λr1=>ck (az 0 ([]:List Int).length)<|(iter (uf n a0 r1) n ((0:Int),([]:List Int))).bind λw1=>ck (az w1.length w1.length)<|(lN n w1).bind λr4=>ck (az w1.length r4.length)<|(kF n r4).bind λr5=>ck (az (sub r5.2 0 r5.2.length).length r5.2.length)<|some (sub r5.2 0 r5.2.length)
def Tp(a0:List Int)(a1:Int):Stp Int (Unit⊕Int)
 |v1=>(bif decide (v1<a0.length)then(bj a0 v1).bind λx1=>(bif (a1==x1)then(some v1).map λa=> .inr (.inr a)else some (.inl (i64.wrap (v1+1))))else some (.inr (.inl ())))
def EC(a0:List Int)(a1:Int):Option Int:=
 dG (iter (Tp a0 a1) n 0) λ()=>some (-1)
def oI(a0:List Int)(a1:Int):Option Bool:=
 (EC n a0 a1).bind λr1=>some (decide (r1>=0))
def Xu(a0:dX)(a1:aM)(a2:Int):Option Bool:=
 (pG n a0.land a1.lot).bind λr1=>(JX n a0 a1).bind λr2=>ck (az (sub r2 0 r2.length).length r2.length)<|(oI n (sub r2 0 r2.length) a2).bind λr3=>(bif r3 then(bif r1.2 then some (r1.1.owner !=(a2:Int))else some false)else some false)
def vY(a0:aG)(a1:Int):Option Bool:=
 (bif (a1==(a0.ix:Int))then some true else(Xu n (dX.mk a0.cj a0.aw a0.b7 a0.aE a0.br a0.b8 a0.cw a0.b9 a0.df a0.cR a0.c8 a0.cX a0.ek) (aM.mk a0.cd a0.cg) a1).bind λr1=>some r1)
def nR(a0:List Int)(a1:Int):Stp (Int×Int) (Unit⊕Bool)
 |(v1,v2)=>(bif decide (v2<(a0.length:Int))then(bj a0 v2).bind λx1=>((bif decide (x1<=(v1:Int))then some true else some (decide (x1>=(a1:Int))))).bind λv3=>(bif v3 then(some false).map λa=> .inr (.inr a)else some (.inl (x1,(i64.wrap (v2+1)))))else some (.inr (.inl ())))
def fG(a0:List Int)(a1:Int):Option Bool:=
 dG (iter (nR a0 a1) n (((-1):Int),(0:Int))) λ()=>some true
def p8(a0:aL):Option Bool:=
 some true
def oJ:Option (List ByteArray):=
 ck (az (sub ([⟨#[97,114,101,97]⟩,⟨#[99,111,118,101,114]⟩,⟨#[102,108,111,111,114]⟩,⟨#[102,108,111,111,114,115]⟩,⟨#[104,101,105,103,104,116]⟩,⟨#[104,111,109,101,115]⟩,⟨#[114,117,110,111,102,102]⟩,⟨#[115,101,116,98,97,99,107]⟩,⟨#[116,114,97,102,102,105,99]⟩]:List ByteArray) 0 9).length 9)<|some (sub ([⟨#[97,114,101,97]⟩,⟨#[99,111,118,101,114]⟩,⟨#[102,108,111,111,114]⟩,⟨#[102,108,111,111,114,115]⟩,⟨#[104,101,105,103,104,116]⟩,⟨#[104,111,109,101,115]⟩,⟨#[114,117,110,111,102,102]⟩,⟨#[115,101,116,98,97,99,107]⟩,⟨#[116,114,97,102,102,105,99]⟩]:List ByteArray) 0 9)
def nS(a0:List ByteArray)(a1:ByteArray):Stp Int (Unit⊕Int)
 |v1=>(bif decide (v1<a0.length)then(bj a0 v1).bind λx1=>(bif (ByteArray.toList a1==ByteArray.toList x1)then(some v1).map λa=> .inr (.inr a)else some (.inl (i64.wrap (v1+1))))else some (.inr (.inl ())))
def rG(a0:List ByteArray)(a1:ByteArray):Option Int:=
 dG (iter (nS a0 a1) n 0) λ()=>some (-1)
def dQ(a0:List ByteArray)(a1:ByteArray):Option Bool:=
 (rG n a0 a1).bind λr1=>some (decide (r1>=0))
def lT(a0:aL):Option Bool:=
 (oJ).bind λr1=>ck (az (sub r1 0 r1.length).length r1.length)<|(dQ n (sub r1 0 r1.length) a0.name).bind λr2=>some r2
def jo(a0:bX)(a1:aL):Option Bool:=
 some (ByteArray.toList a0.name==ByteArray.toList a1.name)
def Iy(a0:List bX)(a1:(bX×Unit)->Option Bool):Stp Int (Unit⊕Int)
 |v1=>(bif decide (v1<(a0.length:Int))then(bj a0 v1).bind λx1=>(a1 (x1,())).bind λr1=>(bif r1 then(some v1).map λa=> .inr (.inr a)else some (.inl (i64.wrap (v1+1))))else some (.inr (.inl ())))
def ug(a0:List bX)(a1:(bX×Unit)->Option Bool):Option Int:=
 dG (iter (Iy a0 a1) n (0:Int)) λ()=>some ((-1):Int)
def p9(a0:List bX)(a1:(bX×Unit)->Option Bool):Option Bool:=
 (ug n a0 a1).bind λr1=>some (decide (r1>=0))
def lU(a0:aL)(a1:aG):Option Bool:=
 (p9 n a1.aE (λ (y1:bX×Unit)=>jo y1.1 a0)).bind λr1=>some r1
def lV(a0:aL):Option Bool:=
 (bif (ByteArray.toList a0.name==ByteArray.toList (⟨#[103,114,97,110,116,101,100]⟩))then some true else some (ByteArray.toList a0.name==ByteArray.toList (⟨#[114,101,102,117,115,101,100]⟩)))
noncomputable def nG(n:Nat)(h:aG)(c:aL):Option Bool:=
 bif c.d6==0 then(fG n c.attacks (h.claims.length:Int)).bind λa=>bif a then p8 c else some false
 else bif c.d6==1 then(fG n c.attacks (h.claims.length:Int)).bind λa=>bif a then lT n c else some false
 else bif c.d6==2 then(fG n c.attacks (h.claims.length:Int)).bind λa=>bif a then lU n c h else some false
 else bif c.d6==3 then(fG n c.attacks (h.claims.length:Int)).bind λa=>bif a then lV c else some false
 else some false
def nT(a0:aM)(a1:Int)(a2:Int):Stp (Int×(List aF)) (List aF)
 |(v1,v2)=>(bif decide (v1<a0.phases.length)then((bj a0.phases v1).bind λx1=>((bif decide (v1>=a1)then some (decide (v1<a2))else some false)).bind λv3=>(bif v3 then ck (bK v2.length v2.length x1.bk.length x1.bk.length 72)<|iP (v2++x1.bk) λr1=>ck (az r1.length r1.length)<|some r1 else ck (az v2.length v2.length)<|some v2):Option ((List aF))).bind λv4=>ck (az v4.length v4.length)<|some (.inl ((i64.wrap (v1+1)),v4))else ck (az v2.length v2.length)<|some (.inr v2))
def oK(a0:aM)(a1:Int)(a2:Int):Option (List aF):=
 ck (az 0 ([]:List aF).length)<|(iter (nT a0 a1 a2) n (0,[])).bind λw1=>ck (az (sub w1 0 w1.length).length w1.length)<|some (sub w1 0 w1.length)
def fP(a0:aF):Option Bool:=
 ((pI (ax.mk a0.bz a0.cz a0.bx a0.cy)).bind λr1=>(bif (!r1)then some true else(bif decide (a0.eR<0)then some true else(bif decide (a0.eR>=a0.ej)then some true else some (decide (a0.ej>4096)))))).bind λv1=>(bif v1 then some false else((bif (a0.use !=0)then some (a0.units !=0)else some false)).bind λv2=>(bif v2 then some false else(bif decide (a0.use>=0)then(bif decide (a0.use<6)then(bif decide (a0.units>=0)then some (decide (a0.units<=1048576))else some false)else some false)else some false)))
def yA(a0:ax):Option (ax×Bool):=
 (pI a0).bind λr1=>(bif r1 then some (a0,true)else some ((ax.mk 0 0 0 0),false))
def yZ(a0:ax):Option Int:=
 (yA a0).bind λr1=>some (i64.wrap ((i64.wrap (r1.1.x1 -r1.1.x0))*(i64.wrap (r1.1.y1 -r1.1.y0))))
def ED(a0:List ax):Stp (Int×Int) Int
 |(v1,v2)=>(bif decide (v2<a0.length)then(bj a0 v2).bind λx1=>(yZ x1).bind λr2=>some (.inl ((i64.wrap (v1+r2)),(i64.wrap (v2+1))))else some (.inr v1))
def N8(a0:List ax):Option Int:=
 (lQ n a0).bind λr1=>(bif (!r1)then some 0 else(iter (ED a0) n (0,0)).bind λw1=>some w1)
def vJ(_:Nat)(a0:List ax)(a1:(ax×ax×Unit)->Option Int):Option (List ax):=NN a0 a1
def iH(a0:ax)(a1:ax):Option Int:=
 (cmp_Compare_int a0.y0 a1.y0).bind λr1=>some r1
def lq(a0:aF):Option Int:=
 ((bif a0.extra then some true else(fP a0).bind λr1=>some (!r1))).bind λv1=>(bif v1 then some 0 else ck (3 !=0)<|some (i64.wrap (Int.tdiv (i64.wrap ((i64.wrap ((i64.wrap (a0.ej -a0.eR))+3)) -1)) 3)))
def o6(a0:aF):Option Int:=
 (fP a0).bind λr1=>(bif (!r1)then some 0 else(yZ (ax.mk a0.bz a0.cz a0.bx a0.cy)).bind λr2=>(lq a0).bind λr3=>some (i64.wrap (r2*r3)))
def nU(a0:aF):Option Int:=
 some a0.ej
def pz(a0:aF):Option Int:=
 some a0.units
def Br(a0:ax)(a1:Int):Option (ax×Bool):=
 (pI (ax.mk (i64.wrap (a0.x0 -a1)) (i64.wrap (a0.y0 -a1)) (i64.wrap (a0.x1+a1)) (i64.wrap (a0.y1+a1)))).bind λr1=>some ((ax.mk (i64.wrap (a0.x0 -a1)) (i64.wrap (a0.y0 -a1)) (i64.wrap (a0.x1+a1)) (i64.wrap (a0.y1+a1))),r1)
def sJ(a0:ax)(a1:ax):Option (ax×Bool):=
 ((pI a0).bind λr1=>(bif (!r1)then some true else(pI a1).bind λr2=>some (!r2))).bind λv1=>(bif v1 then some ((ax.mk 0 0 0 0),false)else(yA (ax.mk (max a0.x0 a1.x0) (max a0.y0 a1.y0) (min a0.x1 a1.x1) (min a0.y1 a1.y1))).bind λr3=>some (r3.1,r3.2))
def kG(a0:aZ)(a1:JV)(a2:Int):Option Bool:=
 ck (cN a2 6)<|(bj ([a1.a0,a1.a1,a1.a2,a1.a3,a1.a4,a1.a5]:List ByteArray) a2).bind λx1=>some (ByteArray.toList a0.name==ByteArray.toList x1)
def kH(a0:bL)(a1:Int):Stp Int (Unit⊕Int)
 |v1=>(bif decide (v1<a0.tables.length)then(bj a0.tables v1).bind λx1=>(bif (!(ByteArray.toList x1.name==ByteArray.toList (⟨#[116,114,97,102,102,105,99]⟩)))then some (.inl (i64.wrap (v1+1)))else((iT n x1.rows (λ (y1:aZ×Unit)=>kG y1.1 (JV.mk (⟨#[104,111,109,101]⟩) (⟨#[115,104,111,112]⟩) (⟨#[119,111,114,107]⟩) (⟨#[112,97,114,107]⟩) (⟨#[112,108,97,110,116]⟩) (⟨#[104,97,108,108]⟩)) a1)).bind λr1=>(bif decide (r1>=0)then(bj x1.rows r1).bind λx2=>some x2.n else some x1.rk):Option Int).bind λv2=>(some (max 0 (min v2 1048576))).map λa=> .inr (.inr a))else some (.inr (.inl ())))
def Ao(a0:bL)(a1:Int):Option Int:=
 dG (iter (kH n a0 a1) n 0) λ()=>some 0
def jC(a0:bL)(a1:aF):Option Int:=
 (Ao n a0 a1.use).bind λr1=>(o6 a1).bind λr2=>((bif decide (r1>0)then ck (r1 !=0)<|some (decide (r2>(i64.wrap (Int.tdiv 109951162777600 r1))))else some false)).bind λv1=>(bif v1 then some 1099511627776 else ck (100 !=0)<|some (i64.wrap (Int.tdiv (i64.wrap ((i64.wrap ((i64.wrap (r1*r2))+100)) -1)) 100)))
def mY(a0:List gH)(a1:List bO)(a2:List fC)(a3:List bX)(a4:List jA)(a5:List ig)(a6:List dD)(a7:Int)(a8:List ax)(a9:List aF):Option (Int×gQ):=
 (N8 n a8).bind λr1=>ck (az a9.length a9.length)<|some (r1,a0,a1,a2,a3,a4,a5,a6,a7,a8,a9)
def gq(a9:List aF):Stp (Int×(List ax)×(List Int)) ((List ax)×(List Int))
 |(v1,v2,v3)=>(bif decide (v1<(a9.length:Nat))then ck (cN v1 a9.length)<|(bj a9 ((0:Nat)+v1:Int)).bind λx1=>ck (cN v1 ((a9.length:Int).toNat))<|(bj v2 ((0:Nat)+v1:Int)).bind λx2=>ck (cN v1 ((a9.length:Int).toNat))<|(bj (v2.set ((0:Nat)+v1:Int).toNat (ax.mk x1.bz x1.cz x1.bx x1.cy)) ((0:Nat)+v1:Int)).bind λx3=>ck (cN v1 ((a9.length:Int).toNat))<|(bj (v2.set ((0:Nat)+v1:Int).toNat (ax.mk x1.bz x1.cz x1.bx x1.cy)) ((0:Nat)+v1:Int)).bind λx4=>ck (bK v3.length v3.length (sub ([x3.x0,x4.x1]:List Int) 0 2).length 2 8)<|iP (v3++(sub ([x3.x0,x4.x1]:List Int) 0 2)) λr1=>ck (az r1.length r1.length)<|some (.inl ((i64.wrap (v1+1)),(v2.set ((0:Nat)+v1:Int).toNat (ax.mk x1.bz x1.cz x1.bx x1.cy)),r1))else ck (az v3.length v3.length)<|some (.inr (v2,v3)))
def gu(a9:List aF)(w2:List Int)(r2:List ax)(r3:List Int)(v5:Int):Stp (Int×Int×Int) Int
 |(v6,v7,v8)=>(bif decide (v8<(((a9.length:Int).toNat:Nat):Int))then(ck (cN v8 ((a9.length:Int).toNat))<|(bj r2 ((0:Nat)+v8:Int)).bind λx5=>(ck (cN v5 w2.length)<|(bj r3 ((0:Nat)+v5:Int)).bind λx6=>(bif decide (x5.x0<=x6)then ck (cN v5 w2.length)<|(bj r3 ((0:Nat)+v5:Int)).bind λx7=>(bif decide (x7<x5.x1)then some (decide (x5.y1>v7))else some false)else some false)).bind λv9=>(bif v9 then ck (cN (i64.wrap (v5+1)) w2.length)<|(bj r3 ((0:Nat)+(i64.wrap (v5+1)):Int)).bind λx8=>ck (cN v5 w2.length)<|(bj r3 ((0:Nat)+v5:Int)).bind λx9=>some ((i64.wrap (v6+(i64.wrap ((i64.wrap (x8 -x9))*(i64.wrap (x5.y1 -(max v7 x5.y0))))))),x5.y1)else some (v6,v7)):Option (Int×Int)).bind λ(v10,v11)=>some (.inl (v10,v11,(i64.wrap (v8+1))))else some (.inr v6))
def gB(a9:List aF)(w2:List Int)(r2:List ax)(r3:List Int):Stp (Int×Int) Int
 |(v4,v5)=>(bif (decide (v5<((max 0 (i64.wrap ((w2.length:Nat) -1))):Int)))then(iter (gu a9 w2 r2 r3 v5) n (v4,0,0)).bind λw3=>some (.inl (w3,(i64.wrap (v5+1))))else some (.inr v4))
def iJ(a0:List gH)(a1:List bO)(a2:List fC)(a3:List bX)(a4:List jA)(a5:List ig)(a6:List dD)(a7:Int)(a8:List ax)(a9:List aF):Option (Int×gQ):=
 ck (decide ((a9.length:Int)<=(a9.length:Nat))&&(decide (0<=(a9.length:Int))&&sQ (a9.length:Nat) 32))<|ck (az 0 ([]:List Int).length)<|(iter (gq a9) n (0,(List.replicate (a9.length:Int).toNat (ax.mk 0 0 0 0)),[])).bind λ(w1,w2)=>ck (az ((a9.length:Int).toNat) w1.length)<|(vJ n w1 (λ (y1:ax×ax×Unit)=>iH y1.1 y1.2.1)).bind λr2=>ck (az w2.length w2.length)<|(lN n w2).bind λr3=>(iter (gB n a9 w2 r2 r3) n (0,0)).bind λw4=>ck (az a9.length a9.length)<|some (w4,a0,a1,a2,a3,a4,a5,a6,a7,a8,a9)
def jP(a9:List aF):Stp (Int×Int) Int
 |(v1,v2)=>(bif decide (v2<(a9.length:Nat))then ck (cN v2 a9.length)<|(bj a9 ((0:Nat)+v2:Int)).bind λx1=>(o6 x1).bind λr1=>some (.inl ((i64.wrap (v1+r1)),(i64.wrap (v2+1))))else some (.inr v1))
def qK(a0:List gH)(a1:List bO)(a2:List fC)(a3:List bX)(a4:List jA)(a5:List ig)(a6:List dD)(a7:Int)(a8:List ax)(a9:List aF):Option (Int×gQ):=
 (iter (jP a9) n (0,0)).bind λw1=>ck (az a9.length a9.length)<|some (w1,a0,a1,a2,a3,a4,a5,a6,a7,a8,a9)
def kM(a0:List gH)(a1:List bO)(a2:List fC)(a3:List bX)(a4:List jA)(a5:List ig)(a6:List dD)(a7:Int)(a8:List ax)(a9:List aF):Option (Int×gQ):=
 ck (az a9.length a9.length)<|(qK n a0 a1 a2 a3 a4 a5 a6 a7 a8 a9).bind λr1=>ck (az r1.2.2.2.2.2.2.2.2.2.2.length r1.2.2.2.2.2.2.2.2.2.2.length)<|some (r1.1,r1.2.1,r1.2.2.1,r1.2.2.2.1,r1.2.2.2.2.1,r1.2.2.2.2.2.1,r1.2.2.2.2.2.2.1,r1.2.2.2.2.2.2.2.1,r1.2.2.2.2.2.2.2.2.1,r1.2.2.2.2.2.2.2.2.2.1,r1.2.2.2.2.2.2.2.2.2.2)
def gT(a9:List aF):Stp (Int×Int) Int
 |(v1,v2)=>(bif decide (v2<(a9.length:Nat))then ck (cN v2 a9.length)<|(bj a9 ((0:Nat)+v2:Int)).bind λx1=>(lq x1).bind λr1=>some (.inl ((max v1 r1),(i64.wrap (v2+1))))else some (.inr v1))
def mM(a0:List gH)(a1:List bO)(a2:List fC)(a3:List bX)(a4:List jA)(a5:List ig)(a6:List dD)(a7:Int)(a8:List ax)(a9:List aF):Option (Int×gQ):=
 (iter (gT a9) n (0,0)).bind λw1=>ck (az a9.length a9.length)<|some (w1,a0,a1,a2,a3,a4,a5,a6,a7,a8,a9)
def jQ(a0:List gH)(a1:List bO)(a2:List fC)(a3:List bX)(a4:List jA)(a5:List ig)(a6:List dD)(a7:Int)(a8:List ax)(a9:List aF):Option (Int×gQ):=
 ck (az a9.length a9.length)<|(mM n a0 a1 a2 a3 a4 a5 a6 a7 a8 a9).bind λr1=>ck (az r1.2.2.2.2.2.2.2.2.2.2.length r1.2.2.2.2.2.2.2.2.2.2.length)<|some (r1.1,r1.2.1,r1.2.2.1,r1.2.2.2.1,r1.2.2.2.2.1,r1.2.2.2.2.2.1,r1.2.2.2.2.2.2.1,r1.2.2.2.2.2.2.2.1,r1.2.2.2.2.2.2.2.2.1,r1.2.2.2.2.2.2.2.2.2.1,r1.2.2.2.2.2.2.2.2.2.2)
def gU(a9:List aF):Stp (Int×Int) Int
 |(v1,v2)=>(bif decide (v2<(a9.length:Nat))then ck (cN v2 a9.length)<|(bj a9 ((0:Nat)+v2:Int)).bind λx1=>(nU x1).bind λr1=>some (.inl ((max v1 r1),(i64.wrap (v2+1))))else some (.inr v1))
def mO(a0:List gH)(a1:List bO)(a2:List fC)(a3:List bX)(a4:List jA)(a5:List ig)(a6:List dD)(a7:Int)(a8:List ax)(a9:List aF):Option (Int×gQ):=
 (iter (gU a9) n (0,0)).bind λw1=>ck (az a9.length a9.length)<|some (w1,a0,a1,a2,a3,a4,a5,a6,a7,a8,a9)
def jR(a0:List gH)(a1:List bO)(a2:List fC)(a3:List bX)(a4:List jA)(a5:List ig)(a6:List dD)(a7:Int)(a8:List ax)(a9:List aF):Option (Int×gQ):=
 ck (az a9.length a9.length)<|(mO n a0 a1 a2 a3 a4 a5 a6 a7 a8 a9).bind λr1=>ck (az r1.2.2.2.2.2.2.2.2.2.2.length r1.2.2.2.2.2.2.2.2.2.2.length)<|some (r1.1,r1.2.1,r1.2.2.1,r1.2.2.2.1,r1.2.2.2.2.1,r1.2.2.2.2.2.1,r1.2.2.2.2.2.2.1,r1.2.2.2.2.2.2.2.1,r1.2.2.2.2.2.2.2.2.1,r1.2.2.2.2.2.2.2.2.2.1,r1.2.2.2.2.2.2.2.2.2.2)
def jS(a9:List aF):Stp (Int×Int) Int
 |(v1,v2)=>(bif decide (v2<(a9.length:Nat))then ck (cN v2 a9.length)<|(bj a9 ((0:Nat)+v2:Int)).bind λx1=>(pz x1).bind λr1=>some (.inl ((i64.wrap (v1+r1)),(i64.wrap (v2+1))))else some (.inr v1))
def qL(a0:List gH)(a1:List bO)(a2:List fC)(a3:List bX)(a4:List jA)(a5:List ig)(a6:List dD)(a7:Int)(a8:List ax)(a9:List aF):Option (Int×gQ):=
 (iter (jS a9) n (0,0)).bind λw1=>ck (az a9.length a9.length)<|some (w1,a0,a1,a2,a3,a4,a5,a6,a7,a8,a9)
def kN(a0:List gH)(a1:List bO)(a2:List fC)(a3:List bX)(a4:List jA)(a5:List ig)(a6:List dD)(a7:Int)(a8:List ax)(a9:List aF):Option (Int×gQ):=
 ck (az a9.length a9.length)<|(qL n a0 a1 a2 a3 a4 a5 a6 a7 a8 a9).bind λr1=>ck (az r1.2.2.2.2.2.2.2.2.2.2.length r1.2.2.2.2.2.2.2.2.2.2.length)<|some (r1.1,r1.2.1,r1.2.2.1,r1.2.2.2.1,r1.2.2.2.2.1,r1.2.2.2.2.2.1,r1.2.2.2.2.2.2.1,r1.2.2.2.2.2.2.2.1,r1.2.2.2.2.2.2.2.2.1,r1.2.2.2.2.2.2.2.2.2.1,r1.2.2.2.2.2.2.2.2.2.2)
def iE(ky:List ax)(r1:ax×Bool):Stp (Int×Int) Int
 |(v1,v2)=>(bif decide (v2<ky.length)then((bj ky v2).bind λx1=>(sJ r1.1 x1).bind λr2=>(bif r2.2 then(yZ r2.1).bind λr3=>some (i64.wrap (v1+r3))else some v1):Option Int).bind λv3=>some (.inl (v3,(i64.wrap (v2+1))))else some (.inr v1))
def jT(a0:ax)(a1:Int)(a2:List gH)(a3:List bO)(a4:List fC)(a5:List bX)(a6:List jA)(a7:List ig)(a8:List dD)(a9:Int)(ky:List ax)(tG:List aF):Option (Bool×gQ):=
 (Br a0 a1).bind λr1=>(bif (!r1.2)then ck (az tG.length tG.length)<|some (false,a2,a3,a4,a5,a6,a7,a8,a9,ky,tG)else(iter (iE ky r1) n (0,0)).bind λw1=>(yZ r1.1).bind λr4=>ck (az tG.length tG.length)<|some ((w1==r4),a2,a3,a4,a5,a6,a7,a8,a9,ky,tG))
def dW(x1:aF):Stp (Int×Int×gQ) (Int×gQ)
 |(v13,v14,v15,v16,v17,v18,v19,v20,v21,v22,v23,v24)=>(bif decide (v13<v14)then ck (2 !=0)<|ck (az v24.length v24.length)<|(jT n (ax.mk x1.bz x1.cz x1.bx x1.cy) (i64.wrap (Int.tdiv (i64.wrap ((i64.wrap (v13+v14))+1)) 2)) v15 v16 v17 v18 v19 v20 v21 v22 v23 v24).bind λr1=>(bif r1.1 then ck (az r1.2.2.2.2.2.2.2.2.2.2.length r1.2.2.2.2.2.2.2.2.2.2.length)<|some (.inl ((i64.wrap (Int.tdiv (i64.wrap ((i64.wrap (v13+v14))+1)) 2)),v14,r1.2.1,r1.2.2.1,r1.2.2.2.1,r1.2.2.2.2.1,r1.2.2.2.2.2.1,r1.2.2.2.2.2.2.1,r1.2.2.2.2.2.2.2.1,r1.2.2.2.2.2.2.2.2.1,r1.2.2.2.2.2.2.2.2.2.1,r1.2.2.2.2.2.2.2.2.2.2))else ck (az r1.2.2.2.2.2.2.2.2.2.2.length r1.2.2.2.2.2.2.2.2.2.2.length)<|some (.inl (v13,(i64.wrap ((i64.wrap (Int.tdiv (i64.wrap ((i64.wrap (v13+v14))+1)) 2)) -1)),r1.2.1,r1.2.2.1,r1.2.2.2.1,r1.2.2.2.2.1,r1.2.2.2.2.2.1,r1.2.2.2.2.2.2.1,r1.2.2.2.2.2.2.2.1,r1.2.2.2.2.2.2.2.2.1,r1.2.2.2.2.2.2.2.2.2.1,r1.2.2.2.2.2.2.2.2.2.2)))else ck (az v24.length v24.length)<|some (.inr (v13,v15,v16,v17,v18,v19,v20,v21,v22,v23,v24)))
def iq(a9:List aF):Stp (Int×Int×gQ) (Int×gQ)
 |(v1,v2,v3,v4,v5,v6,v7,v8,v9,v10,v11,v12)=>(bif decide (v2<(a9.length:Nat))then ck (cN v2 a9.length)<|(bj v12 ((0:Nat)+v2:Int)).bind λx1=>ck (az v12.length v12.length)<|(iter (dW n x1) n (0,v1,v3,v4,v5,v6,v7,v8,v9,v10,v11,v12)).bind λ(w1,w2,w3,w4,w5,w6,w7,w8,w9,ut,xF)=>ck (az xF.length xF.length)<|some (.inl (w1,(i64.wrap (v2+1)),w2,w3,w4,w5,w6,w7,w8,w9,ut,xF))else ck (az v12.length v12.length)<|some (.inr (v1,v3,v4,v5,v6,v7,v8,v9,v10,v11,v12)))
def jq(a0:List gH)(a1:List bO)(a2:List fC)(a3:List bX)(a4:List jA)(a5:List ig)(a6:List dD)(a7:Int)(a8:List ax)(a9:List aF):Option (Int×gQ):=
 ck (az a9.length a9.length)<|(iter (iq n a9) n (1048576,0,a0,a1,a2,a3,a4,a5,a6,a7,a8,a9)).bind λ(HT,TO,HS,On,w16,w17,w18,w19,w20,w21,TE)=>ck (az TE.length TE.length)<|some (HT,TO,HS,On,w16,w17,w18,w19,w20,w21,TE)
def kI(a0:aF)(a1:List gH)(a2:List bO)(a3:List fC)(a4:List bX)(a5:List jA)(a6:List ig)(a7:List dD)(a8:Int)(a9:List ax)(ky:List aF):Option (Int×gQ):=
 (jC n (bL.mk a1 a2 a3 a4 a5 a6 a7 a8) a0).bind λr1=>ck (az ky.length ky.length)<|some (r1,a1,a2,a3,a4,a5,a6,a7,a8,a9,ky)
def jU(a9:List aF):Stp (Int×Int×gQ) (Int×gQ)
 |(v1,v2,v3,v4,v5,v6,v7,v8,v9,v10,v11,v12)=>(bif decide (v2<(a9.length:Nat))then ck (cN v2 a9.length)<|(bj v12 ((0:Nat)+v2:Int)).bind λx1=>ck (az v12.length v12.length)<|(kI n x1 v3 v4 v5 v6 v7 v8 v9 v10 v11 v12).bind λr1=>ck (az r1.2.2.2.2.2.2.2.2.2.2.length r1.2.2.2.2.2.2.2.2.2.2.length)<|some (.inl ((i64.wrap (v1+r1.1)),(i64.wrap (v2+1)),r1.2.1,r1.2.2.1,r1.2.2.2.1,r1.2.2.2.2.1,r1.2.2.2.2.2.1,r1.2.2.2.2.2.2.1,r1.2.2.2.2.2.2.2.1,r1.2.2.2.2.2.2.2.2.1,r1.2.2.2.2.2.2.2.2.2.1,r1.2.2.2.2.2.2.2.2.2.2))else ck (az v12.length v12.length)<|some (.inr (v1,v3,v4,v5,v6,v7,v8,v9,v10,v11,v12)))
def qM(a0:List gH)(a1:List bO)(a2:List fC)(a3:List bX)(a4:List jA)(a5:List ig)(a6:List dD)(a7:Int)(a8:List ax)(a9:List aF):Option (Int×gQ):=
 ck (az a9.length a9.length)<|(iter (jU n a9) n (0,0,a0,a1,a2,a3,a4,a5,a6,a7,a8,a9)).bind λ(w1,w2,w3,w4,w5,w6,w7,w8,w9,ut,xF)=>ck (az xF.length xF.length)<|some (w1,w2,w3,w4,w5,w6,w7,w8,w9,ut,xF)
def jr(a0:List gH)(a1:List bO)(a2:List fC)(a3:List bX)(a4:List jA)(a5:List ig)(a6:List dD)(a7:Int)(a8:List ax)(a9:List aF):Option (Int×gQ):=
 ck (az a9.length a9.length)<|(qM n a0 a1 a2 a3 a4 a5 a6 a7 a8 a9).bind λr1=>ck (az r1.2.2.2.2.2.2.2.2.2.2.length r1.2.2.2.2.2.2.2.2.2.2.length)<|some (r1.1,r1.2.1,r1.2.2.1,r1.2.2.2.1,r1.2.2.2.2.1,r1.2.2.2.2.2.1,r1.2.2.2.2.2.2.1,r1.2.2.2.2.2.2.2.1,r1.2.2.2.2.2.2.2.2.1,r1.2.2.2.2.2.2.2.2.2.1,r1.2.2.2.2.2.2.2.2.2.2)
def qX(r2:List aF):Stp (Int×gQ) (gQ)
 |(v10,v11,v12,v13,v14,v15,v16,v17,v18,v19,v20)=>(bif decide (v10<(r2.length:Nat))then(ck (cN v10 r2.length)<|(bj r2 ((0:Nat)+v10:Int)).bind λx1=>((bif decide (v10<40)then(fP x1).bind λr3=>some r3 else some false)).bind λv21=>(bif v21 then ck (bK v20.length v20.length (sub ([x1]:List aF) 0 1).length 1 72)<|iP (v20++(sub ([x1]:List aF) 0 1)) λr4=>ck (az r4.length r4.length)<|some (v11,v12,v13,v14,v15,v16,v17,v18,v19,r4)else ck (az v20.length v20.length)<|some (v11,v12,v13,v14,v15,v16,v17,v18,v19,v20)):Option (gQ)).bind λ(v22,v23,v24,v25,v26,v27,v28,v29,v30,v31)=>ck (az v31.length v31.length)<|some (.inl ((i64.wrap (v10+1)),v22,v23,v24,v25,v26,v27,v28,v29,v30,v31))else ck (az v20.length v20.length)<|some (.inr (v11,v12,v13,v14,v15,v16,v17,v18,v19,v20)))
def jD(a0:bL)(a1:fw)(a2:aM):Option (List aZ):=
 ((lQ n a1.area).bind λr1=>(bif r1 then some (a0.defs,a0.tables,a0.zones,a0.rules,a0.caps,a0.views,a0.wc,a0.hours,a1.area)else some (a0.defs,a0.tables,a0.zones,a0.rules,a0.caps,a0.views,a0.wc,a0.hours,[])):Option ((List gH)×(List bO)×(List fC)×(List bX)×(List jA)×(List ig)×(List dD)×Int×(List ax))).bind λ(v1,v2,v3,v4,v5,v6,v7,v8,v9)=>(oK n a2 0 a2.phases.length).bind λr2=>ck (az 0 ([]:List aF).length)<|(iter (qX r2) n (0,v1,v2,v3,v4,v5,v6,v7,v8,v9,[])).bind λ(w1,w2,w3,w4,w5,w6,w7,w8,w9,ut)=>ck (az ut.length ut.length)<|(mY n w1 w2 w3 w4 w5 w6 w7 w8 w9 ut).bind λr5=>ck (bK 0 0 (sub ([(aZ.mk (⟨#[97,114,101,97]⟩) r5.1)]:List aZ) 0 1).length 1 24)<|iP ((sub ([(aZ.mk (⟨#[97,114,101,97]⟩) r5.1)]:List aZ) 0 1)) λr6=>ck (az r5.2.2.2.2.2.2.2.2.2.2.length r5.2.2.2.2.2.2.2.2.2.2.length)<|(iJ n r5.2.1 r5.2.2.1 r5.2.2.2.1 r5.2.2.2.2.1 r5.2.2.2.2.2.1 r5.2.2.2.2.2.2.1 r5.2.2.2.2.2.2.2.1 r5.2.2.2.2.2.2.2.2.1 r5.2.2.2.2.2.2.2.2.2.1 r5.2.2.2.2.2.2.2.2.2.2).bind λr7=>ck (bK r6.length r6.length (sub ([(aZ.mk (⟨#[99,111,118,101,114]⟩) r7.1)]:List aZ) 0 1).length 1 24)<|iP (r6++(sub ([(aZ.mk (⟨#[99,111,118,101,114]⟩) r7.1)]:List aZ) 0 1)) λr8=>ck (az r7.2.2.2.2.2.2.2.2.2.2.length r7.2.2.2.2.2.2.2.2.2.2.length)<|(kM n r7.2.1 r7.2.2.1 r7.2.2.2.1 r7.2.2.2.2.1 r7.2.2.2.2.2.1 r7.2.2.2.2.2.2.1 r7.2.2.2.2.2.2.2.1 r7.2.2.2.2.2.2.2.2.1 r7.2.2.2.2.2.2.2.2.2.1 r7.2.2.2.2.2.2.2.2.2.2).bind λr9=>ck (bK r8.length r8.length (sub ([(aZ.mk (⟨#[102,108,111,111,114]⟩) r9.1)]:List aZ) 0 1).length 1 24)<|iP (r8++(sub ([(aZ.mk (⟨#[102,108,111,111,114]⟩) r9.1)]:List aZ) 0 1)) λvu=>ck (az r9.2.2.2.2.2.2.2.2.2.2.length r9.2.2.2.2.2.2.2.2.2.2.length)<|(jQ n r9.2.1 r9.2.2.1 r9.2.2.2.1 r9.2.2.2.2.1 r9.2.2.2.2.2.1 r9.2.2.2.2.2.2.1 r9.2.2.2.2.2.2.2.1 r9.2.2.2.2.2.2.2.2.1 r9.2.2.2.2.2.2.2.2.2.1 r9.2.2.2.2.2.2.2.2.2.2).bind λso=>ck (bK vu.length vu.length (sub ([(aZ.mk (⟨#[102,108,111,111,114,115]⟩) so.1)]:List aZ) 0 1).length 1 24)<|iP (vu++(sub ([(aZ.mk (⟨#[102,108,111,111,114,115]⟩) so.1)]:List aZ) 0 1)) λB3=>ck (az so.2.2.2.2.2.2.2.2.2.2.length so.2.2.2.2.2.2.2.2.2.2.length)<|(jR n so.2.1 so.2.2.1 so.2.2.2.1 so.2.2.2.2.1 so.2.2.2.2.2.1 so.2.2.2.2.2.2.1 so.2.2.2.2.2.2.2.1 so.2.2.2.2.2.2.2.2.1 so.2.2.2.2.2.2.2.2.2.1 so.2.2.2.2.2.2.2.2.2.2).bind λtd=>ck (bK B3.length B3.length (sub ([(aZ.mk (⟨#[104,101,105,103,104,116]⟩) td.1)]:List aZ) 0 1).length 1 24)<|iP (B3++(sub ([(aZ.mk (⟨#[104,101,105,103,104,116]⟩) td.1)]:List aZ) 0 1)) λT4=>ck (az td.2.2.2.2.2.2.2.2.2.2.length td.2.2.2.2.2.2.2.2.2.2.length)<|(kN n td.2.1 td.2.2.1 td.2.2.2.1 td.2.2.2.2.1 td.2.2.2.2.2.1 td.2.2.2.2.2.2.1 td.2.2.2.2.2.2.2.1 td.2.2.2.2.2.2.2.2.1 td.2.2.2.2.2.2.2.2.2.1 td.2.2.2.2.2.2.2.2.2.2).bind λtU=>ck (bK T4.length T4.length (sub ([(aZ.mk (⟨#[104,111,109,101,115]⟩) tU.1)]:List aZ) 0 1).length 1 24)<|iP (T4++(sub ([(aZ.mk (⟨#[104,111,109,101,115]⟩) tU.1)]:List aZ) 0 1)) λr16=>ck (az tU.2.2.2.2.2.2.2.2.2.2.length tU.2.2.2.2.2.2.2.2.2.2.length)<|(iJ n tU.2.1 tU.2.2.1 tU.2.2.2.1 tU.2.2.2.2.1 tU.2.2.2.2.2.1 tU.2.2.2.2.2.2.1 tU.2.2.2.2.2.2.2.1 tU.2.2.2.2.2.2.2.2.1 tU.2.2.2.2.2.2.2.2.2.1 tU.2.2.2.2.2.2.2.2.2.2).bind λtS=>ck (bK r16.length r16.length (sub ([(aZ.mk (⟨#[114,117,110,111,102,102]⟩) tS.1)]:List aZ) 0 1).length 1 24)<|iP (r16++(sub ([(aZ.mk (⟨#[114,117,110,111,102,102]⟩) tS.1)]:List aZ) 0 1)) λT3=>ck (az tS.2.2.2.2.2.2.2.2.2.2.length tS.2.2.2.2.2.2.2.2.2.2.length)<|(jq n tS.2.1 tS.2.2.1 tS.2.2.2.1 tS.2.2.2.2.1 tS.2.2.2.2.2.1 tS.2.2.2.2.2.2.1 tS.2.2.2.2.2.2.2.1 tS.2.2.2.2.2.2.2.2.1 tS.2.2.2.2.2.2.2.2.2.1 tS.2.2.2.2.2.2.2.2.2.2).bind λtR=>ck (bK T3.length T3.length (sub ([(aZ.mk (⟨#[115,101,116,98,97,99,107]⟩) tR.1)]:List aZ) 0 1).length 1 24)<|iP (T3++(sub ([(aZ.mk (⟨#[115,101,116,98,97,99,107]⟩) tR.1)]:List aZ) 0 1)) λT2=>ck (az tR.2.2.2.2.2.2.2.2.2.2.length tR.2.2.2.2.2.2.2.2.2.2.length)<|(jr n tR.2.1 tR.2.2.1 tR.2.2.2.1 tR.2.2.2.2.1 tR.2.2.2.2.2.1 tR.2.2.2.2.2.2.1 tR.2.2.2.2.2.2.2.1 tR.2.2.2.2.2.2.2.2.1 tR.2.2.2.2.2.2.2.2.2.1 tR.2.2.2.2.2.2.2.2.2.2).bind λr21=>ck (bK T2.length T2.length (sub ([(aZ.mk (⟨#[116,114,97,102,102,105,99]⟩) r21.1)]:List aZ) 0 1).length 1 24)<|iP (T2++(sub ([(aZ.mk (⟨#[116,114,97,102,102,105,99]⟩) r21.1)]:List aZ) 0 1)) λHX=>ck (az (sub HX 0 HX.length).length HX.length)<|some (sub HX 0 HX.length)
def N9(n:Nat)(a0:List aZ)(a1:aZ):Stp Int (Unit⊕Int)
 |v1=>(bif decide (v1<(a0.length:Int))then(bj a0 v1).bind λx1=>(bif ((ByteArray.toList a1.name==ByteArray.toList x1.name)&&((a1.n==(x1.n:Int))&&true))then(some v1).map λa=> .inr (.inr a)else some (.inl (i64.wrap (v1+1))))else some (.inr (.inl ())))
def y5(a0:List aZ)(a1:aZ):Option Int:=
 dG (iter (N9 n a0 a1) n (0:Int)) λ()=>some ((-1):Int)
def uh(a0:List aZ)(a1:aZ):Option Bool:=
 (y5 n a0 a1).bind λr1=>some (decide (r1>=0))
def lW(a0:aL)(a1:aG):Option Bool:=
 (pG n a1.df a1.cd).bind λr1=>(bif r1.2 then(jD n (bL.mk a1.cj a1.aw a1.b7 a1.aE a1.br a1.b8 a1.cw a1.b9) r1.1 (aM.mk a1.cd a1.cg)).bind λr2=>ck (az (sub r2 0 r2.length).length r2.length)<|(uh n (sub r2 0 r2.length) (aZ.mk a0.name a0.n)).bind λr3=>some r3 else some false)
def wP(a0:aM):Option (List aF):=
 (oK n a0 0 a0.phases.length).bind λr1=>ck (az (sub r1 0 r1.length).length r1.length)<|some (sub r1 0 r1.length)
def xL(a0:Fo)(a1:Fo):Option Bool:=
 (sJ (ax.mk a0.px a0.pr a0.pw a0.pp) (ax.mk a1.px a1.pr a1.pw a1.pp)).bind λr1=>(bif r1.2 then(bif decide (a0.z0<a1.z1)then some (decide (a1.z0<a0.z1))else some false)else some false)
def rH(a0:aF)(a1:aF):Option Bool:=
 (xL (Fo.mk a1.bz a1.cz a1.bx a1.cy a1.eR a1.ej) (Fo.mk a0.bz a0.cz a0.bx a0.cy a0.eR a0.ej)).bind λr1=>some r1
def EF(a0:List aF)(a1:(aF×Unit)->Option Bool):Stp Int (Unit⊕Int)
 |v1=>(bif decide (v1<a0.length)then(bj a0 v1).bind λx1=>(a1 (x1,())).bind λr1=>(bif r1 then(some v1).map λa=> .inr (.inr a)else some (.inl (i64.wrap (v1+1))))else some (.inr (.inl ())))
def qN(a0:List aF)(a1:(aF×Unit)->Option Bool):Option Int:=
 dG (iter (EF a0 a1) n 0) λ()=>some (-1)
def fJ(a0:List aF)(a1:(aF×Unit)->Option Bool):Option Bool:=
 (qN n a0 a1).bind λr1=>some (decide (r1>=0))
def EG(a0:Int):Option Bool:=
 (bif decide (a0>=97)then some (decide (a0<=122))else some false)
def Ap(a0:ByteArray)(a1:(Int×Unit)->Option Bool):Stp Int Int
 |v1=>((bif decide (v1<a0.size)then(Sc a0 v1).bind λx1=>(a1 (x1,())).bind λr1=>some r1 else some false)).bind λv2=>(bif v2 then some (.inl (i64.wrap (v1+1)))else some (.inr v1))
def Oa(a0:ByteArray)(a1:(Int×Unit)->Option Bool):Option Int:=
 (iter (Ap a0 a1) n 0).bind λw1=>some w1
def Qv(a0:Int):Option Bool:=
 (bif decide (a0>=48)then some (decide (a0<=57))else some false)
def Aq(a0:Int):Option Bool:=
 (EG a0).bind λr1=>(bif r1 then some true else(Qv a0).bind λr2=>some r2)
def Ob(a0:ByteArray):Option Bool:=
 ((bif (ByteArray.toList a0==ByteArray.toList (⟨#[]⟩))then some true else(Sc a0 0).bind λx1=>(EG x1).bind λr1=>(bif (!r1)then some true else some (decide ((a0.size:Int)>20))))).bind λv1=>(bif v1 then some false else(Oa n a0 (λ (y1:Int×Unit)=>Aq y1.1)).bind λr2=>some (r2==a0.size))
def strings_Contains(a0 a1:ByteArray):Option Bool:=ck (Nat.ble a0.size 4000000)<|some (Lib.contains a0.data.toList a1.data.toList)
def wQ(a0:ByteArray):Option Bool:=
 (Ob n a0).bind λr1=>(bif r1 then ck (V4 (⟨#[32]⟩) a0)<|ck (V4 ((⟨#[32]⟩)++a0) (⟨#[32]⟩))<|(strings_Contains (⟨#[32,97,110,100,32,97,112,97,114,116,32,98,97,115,101,32,99,97,112,32,100,101,102,105,110,101,32,101,108,115,101,32,101,120,99,101,112,116,32,102,114,111,109,32,103,114,97,99,101,32,104,111,117,114,115,32,105,102,32,105,110,32,108,101,97,115,116,32,110,111,116,32,111,114,32,111,118,101,114,108,97,121,32,112,108,97,110,101,32,114,117,108,101,32,115,108,111,112,101,32,115,117,110,32,116,97,98,108,101,32,116,104,101,110,32,117,110,116,105,108,32,117,115,101,115,32,118,97,114,121,32,118,105,101,119,32,122,111,110,101,32]⟩) (((⟨#[32]⟩)++a0)++(⟨#[32]⟩))).bind λr2=>some (!r2)else some false)
def lu(r1:List aF):Stp Int (Unit⊕Bool)
 |v2=>(bif decide (v2<(r1.length:Nat))then ck (cN v2 r1.length)<|(bj r1 ((0:Nat)+v2:Int)).bind λx1=>((fP x1).bind λr2=>(bif (!r2)then some true else ck (Bg 0 v2 r1.length)<|ck (az (sub r1 0 (v2.toNat)).length (v2.toNat))<|(fJ n (sub r1 0 (v2.toNat)) (λ (y1:aF×Unit)=>rH y1.1 x1)).bind λr3=>some r3)).bind λv3=>(bif v3 then(some false).map λa=> .inr (.inr a)else some (.inl (i64.wrap (v2+1))))else some (.inr (.inl ())))
def lC(x2:kW):Stp (Int×(List (ByteArray×Bool))) (Unit⊕(Int⊕(Unit⊕Bool)))
 |(v5,v6)=>(bif decide (v5<x2.gives.length)then(bj x2.gives v5).bind λx3=>((bif ((gD eb x3.name v6).getD false)then some true else(wQ n x3.name).bind λr4=>(bif (!r4)then some true else(bif decide (x3.n<0)then some true else some (decide (x3.n>1073741824)))))).bind λv7=>(bif v7 then((some false).map λa=> .inr (.inr a)).map λa=> .inr (.inr a)else some (.inl ((i64.wrap (v5+1)),(FV eb x3.name true v6))))else some (.inr (.inl ())))
def lD(a0:aM):Stp Int (Unit⊕Bool)
 |v4=>(bif decide (v4<a0.phases.length)then(bj a0.phases v4).bind λx2=>dG (iter (lC n x2) n (0,([]:(List (ByteArray×Bool))))) λ()=>(bif decide ((x2.gives.length:Int)>30)then(some false).map λa=> .inr (.inr a)else some (.inl (i64.wrap (v4+1))))else some (.inr (.inl ())))
def xM(a0:aM):Option Bool:=
 (wP n a0).bind λr1=>((bif decide (a0.lot<0)then some true else(bif decide (a0.lot>1073741824)then some true else(bif decide ((a0.phases.length:Int)<1)then some true else(bif decide ((a0.phases.length:Int)>8)then some true else(bif decide ((r1.length:Int)<1)then some true else some (decide ((r1.length:Int)>40)))))))).bind λv1=>(bif v1 then some false else dG (iter (lu n r1) n 0) λ()=>dG (iter (lD n a0) n 0) λ()=>some true)
def lX(a0:List bP)(a1:Int)(a2:(bP×Int×Unit)->Option Int):Stp (Int×Int) Int
 |(v1,v2)=>(bif decide (v1<v2)then ck (decide (0<=1)&&decide (1<=IntKind.u64.bits))<|(bj a0 (i64.wrap ((IntKind.u64.wrap (i64.wrap (v1+v2)))/2 ^ (1:Int).toNat))).bind λx1=>(a2 (x1,a1,())).bind λr1=>(bif decide (r1<0)then some (.inl ((i64.wrap ((i64.wrap ((IntKind.u64.wrap (i64.wrap (v1+v2)))/2 ^ (1:Int).toNat))+1)),v2))else some (.inl (v1,(i64.wrap ((IntKind.u64.wrap (i64.wrap (v1+v2)))/2 ^ (1:Int).toNat)))))else some (.inr v1))
def jc(a0:List bP)(a1:Int)(a2:(bP×Int×Unit)->Option Int):Option (Int×Bool):=
 (iter (lX a0 a1 a2) n (0,a0.length)).bind λw1=>(bif decide (w1<a0.length)then(bj a0 w1).bind λx2=>(a2 (x2,a1,())).bind λr2=>some (w1,(r2==0))else some (w1,false))
def wR(a0:bP)(a1:Int):Option Int:=
 (bif decide (a0.x1<=a1)then some (-1)else some 1)
def Xv(a0:List bP)(a1:Int):Option (List aN):=
 (jc n a0 a1 (λ (y1:bP×Int×Unit)=>wR y1.1 y1.2.1)).bind λr1=>((bif decide (r1.1<a0.length)then(bj a0 r1.1).bind λx1=>some (decide (x1.x0<=a1))else some false)).bind λv1=>(bif v1 then(bj a0 r1.1).bind λx2=>some x2.column else some [])
def Oc(a0:Unit)(a1:Int):Option (List aN):=
 (bif decide (a1<0)then none else(bif (decide ((i64.wrap (a1 -(i64.wrap (0 -0))))>0))then ck (sQ (i64.wrap (a1 -(i64.wrap (0 -0)))) 16)<|ck (Bg 0 0 ((i64.wrap (a1 -(i64.wrap (0 -0)))).toNat))<|ck (az (sub (List.replicate (i64.wrap (a1 -(i64.wrap (0 -0)))).toNat (aN.mk 0 0)) 0 0).length 0)<|some (sub (List.replicate (i64.wrap (a1 -(i64.wrap (0 -0)))).toNat (aN.mk 0 0)) 0 0)else some []))
def Od(a0:List (List aN)):Stp (Int×Int) Int
 |(v1,v2)=>(bif decide (v2<a0.length)then(bj a0 v2).bind λx1=>(bif decide ((i64.wrap (v1+x1.length))<0)then none else some (.inl ((i64.wrap (v1+x1.length)),(i64.wrap (v2+1)))))else some (.inr v1))
def Oe(a0:List (List aN)):Stp (Int×(List aN)) (List aN)
 |(v3,v4)=>(bif decide (v3<a0.length)then(bj a0 v3).bind λx2=>ck (bK v4.length v4.length x2.length x2.length 16)<|iP (v4++x2) λr2=>ck (az r2.length r2.length)<|some (.inl ((i64.wrap (v3+1)),r2))else ck (az v4.length v4.length)<|some (.inr v4))
def y7(a0:List (List aN)):Option (List aN):=
 (iter (Od a0) n (0,0)).bind λw1=>(Oc () w1).bind λr1=>ck (az r1.length r1.length)<|(iter (Oe a0) n (0,r1)).bind λw2=>ck (az (sub w2 0 w2.length).length w2.length)<|some (sub w2 0 w2.length)
def mX(a0:List aN)(a1:Int)(a2:(aN×Int×Unit)->Option Int):Stp (Int×Int) Int
 |(v1,v2)=>(bif decide (v1<v2)then ck (decide (0<=1)&&decide (1<=IntKind.u64.bits))<|(bj a0 (i64.wrap ((IntKind.u64.wrap (i64.wrap (v1+v2)))/2 ^ (1:Int).toNat))).bind λx1=>(a2 (x1,a1,())).bind λr1=>(bif decide (r1<0)then some (.inl ((i64.wrap ((i64.wrap ((IntKind.u64.wrap (i64.wrap (v1+v2)))/2 ^ (1:Int).toNat))+1)),v2))else some (.inl (v1,(i64.wrap ((IntKind.u64.wrap (i64.wrap (v1+v2)))/2 ^ (1:Int).toNat)))))else some (.inr v1))
def jE(a0:List aN)(a1:Int)(a2:(aN×Int×Unit)->Option Int):Option (Int×Bool):=
 (iter (mX a0 a1 a2) n (0,a0.length)).bind λw1=>(bif decide (w1<a0.length)then(bj a0 w1).bind λx2=>(a2 (x2,a1,())).bind λr2=>some (w1,(r2==0))else some (w1,false))
def lY(a0:aN)(a1:Int):Option Int:=
 (bif decide (a0.to<=a1)then some (-1)else some 1)
def Db(a0:List aN)(a1:Int):Option Bool:=
 (jE n a0 a1 (λ (y1:aN×Int×Unit)=>lY y1.1 y1.2.1)).bind λr1=>(bif decide (r1.1<a0.length)then(bj a0 r1.1).bind λx1=>some (decide (x1.from_<=a1))else some false)
def wS(r1:List aN):Stp (Int×(List Int)) (List Int)
 |(v1,v2)=>(bif decide (v1<(r1.length:Nat))then ck (cN v1 r1.length)<|(bj r1 ((0:Nat)+v1:Int)).bind λx1=>ck (bK v2.length v2.length (sub ([x1.from_,x1.to]:List Int) 0 2).length 2 8)<|iP (v2++(sub ([x1.from_,x1.to]:List Int) 0 2)) λr2=>ck (az r2.length r2.length)<|some (.inl ((i64.wrap (v1+1)),r2))else ck (az v2.length v2.length)<|some (.inr v2))
def wT(a0:List aN)(a1:List aN)(a2:(Bool×Bool×Unit)->Option Bool)(r4:Unit×(List Int)):Stp (Int×(List aN)) (List aN)
 |(v3,v4)=>(bif decide (v3<(r4.2.length:Nat))then(ck (cN (i64.wrap (v3 -1)) r4.2.length)<|(bj r4.2 ((0:Nat)+(i64.wrap (v3 -1)):Int)).bind λx2=>(Db n a0 x2).bind λr5=>(Db n a1 x2).bind λr6=>(a2 (r5,r6,())).bind λr7=>(bif (!r7)then ck (az v4.length v4.length)<|some v4 else((bif decide ((v4.length:Int)>0)then ck (cN (i64.wrap ((v4.length:Nat) -1)) v4.length)<|(bj v4 ((0:Nat)+(i64.wrap ((v4.length:Nat) -1)):Int)).bind λx3=>some (x3.to==x2)else some false)).bind λv5=>(bif v5 then ck (cN v3 r4.2.length)<|(bj r4.2 ((0:Nat)+v3:Int)).bind λx4=>ck (cN (i64.wrap ((v4.length:Nat) -1)) v4.length)<|(bj v4 ((0:Nat)+(i64.wrap ((v4.length:Nat) -1)):Int)).bind λx5=>ck (az v4.length (v4.set ((0:Nat)+(i64.wrap ((v4.length:Nat) -1)):Int).toNat (aN.mk x5.from_ x4)).length)<|some (v4.set ((0:Nat)+(i64.wrap ((v4.length:Nat) -1)):Int).toNat (aN.mk x5.from_ x4))else ck (cN v3 r4.2.length)<|(bj r4.2 ((0:Nat)+v3:Int)).bind λx6=>ck (bK v4.length v4.length (sub ([(aN.mk x2 x6)]:List aN) 0 1).length 1 16)<|iP (v4++(sub ([(aN.mk x2 x6)]:List aN) 0 1)) λr8=>ck (az r8.length r8.length)<|some r8)):Option ((List aN))).bind λv6=>ck (az v6.length v6.length)<|some (.inl ((i64.wrap (v3+1)),v6))else ck (az v4.length v4.length)<|some (.inr v4))
def Iz(a0:List aN)(a1:List aN)(a2:(Bool×Bool×Unit)->Option Bool):Option (List aN):=
 ck (az (sub ([a0,a1]:List (List aN)) 0 2).length 2)<|(y7 n (sub ([a0,a1]:List (List aN)) 0 2)).bind λr1=>ck (az 0 ([]:List Int).length)<|(iter (wS r1) n (0,[])).bind λw1=>ck (az w1.length w1.length)<|(lN n w1).bind λr3=>ck (az w1.length r3.length)<|(kF n r3).bind λr4=>ck (az 0 ([]:List aN).length)<|(iter (wT n a0 a1 a2 r4) n (1,[])).bind λw2=>ck (az (sub w2 0 w2.length).length w2.length)<|some (sub w2 0 w2.length)
def qY(a2:(Bool×Bool×Unit)->Option Bool)(r3:List bP)(r4:List bP)(r5:List bP):Stp (Int×(List bP)) (List bP)
 |(v2,v3)=>(bif decide (v2<(r5.length:Nat))then ck (cN v2 r5.length)<|(bj v3 ((0:Nat)+v2:Int)).bind λx1=>(Xv n (sub r3 0 r3.length) x1.x0).bind λr6=>(Xv n (sub r4 0 r4.length) x1.x0).bind λr7=>(Iz n r6 r7 a2).bind λr8=>ck (cN v2 r5.length)<|ck (az (sub r8 0 r8.length).length r8.length)<|(bj v3 ((0:Nat)+v2:Int)).bind λx2=>some (.inl ((i64.wrap (v2+1)),(v3.set ((0:Nat)+v2:Int).toNat (bP.mk x2.x0 x2.x1 (sub r8 0 r8.length)))))else some (.inr v3))
def EH(a0:List ax)(a1:List ax)(a2:(Bool×Bool×Unit)->Option Bool):Option ((List ax)×Int):=
 ((lQ n a0).bind λr1=>(bif (!r1)then some true else(lQ n a1).bind λr2=>some (!r2))).bind λv1=>(bif v1 then some ([],1)else ck (az (sub ([a0]:List (List ax)) 0 1).length 1)<|(oW n (sub ([a0]:List (List ax)) 0 1)).bind λr3=>ck (az (sub ([a1]:List (List ax)) 0 1).length 1)<|(oW n (sub ([a1]:List (List ax)) 0 1)).bind λr4=>ck (az (sub r3 0 r3.length).length r3.length)<|ck (az (sub r4 0 r4.length).length r4.length)<|ck (az (sub ([a0,a1]:List (List ax)) 0 2).length 2)<|(oW n (sub ([a0,a1]:List (List ax)) 0 2)).bind λr5=>(iter (qY n a2 r3 r4 r5) n (0,r5)).bind λw1=>ck (az (sub w1 0 r5.length).length r5.length)<|(Iw n (sub w1 0 r5.length)).bind λr9=>ck (az (sub r9 0 r9.length).length r9.length)<|(yV (sub r9 0 r9.length)).bind λvu=>some (vu.1,vu.2))
def xN(a0:Bool)(a1:Bool):Option Bool:=
 (bif a0 then some a1 else some false)
def JY(a0:List ax)(a1:List ax):Option ((List ax)×Int):=
 (EH n a0 a1 (λ (y1:Bool×Bool×Unit)=>xN y1.1 y1.2.1)).bind λr1=>some (r1.1,r1.2)
def vK(a0:jA)(a1:aZ):Option Bool:=
 some (ByteArray.toList a0.name==ByteArray.toList a1.name)
def Ke(a0:List jA)(a1:(jA×Unit)->Option Bool):Stp Int (Unit⊕Int)
 |v1=>(bif decide (v1<a0.length)then(bj a0 v1).bind λx1=>(a1 (x1,())).bind λr1=>(bif r1 then(some v1).map λa=> .inr (.inr a)else some (.inl (i64.wrap (v1+1))))else some (.inr (.inl ())))
def vL(a0:List jA)(a1:(jA×Unit)->Option Bool):Option Int:=
 dG (iter (Ke a0 a1) n 0) λ()=>some (-1)
def mZ(a0:List jA)(a1:(jA×Unit)->Option Bool):Option Bool:=
 (vL n a0 a1).bind λr1=>some (decide (r1>=0))
def ku(a1:fw)(r3:List aF):Stp Int (Unit⊕Bool)
 |v2=>(bif decide (v2<(r3.length:Nat))then ck (cN v2 r3.length)<|(bj r3 ((0:Nat)+v2:Int)).bind λx1=>ck (az (sub ([(ax.mk x1.bz x1.cz x1.bx x1.cy)]:List ax) 0 1).length 1)<|(JY n a1.area (sub ([(ax.mk x1.bz x1.cz x1.bx x1.cy)]:List ax) 0 1)).bind λr4=>((bif (r4.2 !=0)then some true else(N8 n r4.1).bind λr5=>(yZ (ax.mk x1.bz x1.cz x1.bx x1.cy)).bind λr6=>some (decide (r5<r6)))).bind λv3=>(bif v3 then(some false).map λa=> .inr (.inr a)else some (.inl (i64.wrap (v2+1))))else some (.inr (.inl ())))
def kz(a0:bL)(x2:kW):Stp Int (Unit⊕(Int⊕(Unit⊕Bool)))
 |v5=>(bif decide (v5<x2.gives.length)then(bj x2.gives v5).bind λx3=>(mZ n a0.caps (λ (y1:jA×Unit)=>vK y1.1 x3)).bind λr7=>(bif (!r7)then((some false).map λa=> .inr (.inr a)).map λa=> .inr (.inr a)else some (.inl (i64.wrap (v5+1))))else some (.inr (.inl ())))
def kC(a0:bL)(a2:aM):Stp Int (Unit⊕Bool)
 |v4=>(bif decide (v4<a2.phases.length)then(bj a2.phases v4).bind λx2=>dG (iter (kz n a0 x2) n 0) λ()=>some (.inl (i64.wrap (v4+1)))else some (.inr (.inl ())))
def o7(a0:bL)(a1:fw)(a2:aM):Option Bool:=
 ((xM n a2).bind λr1=>(bif (!r1)then some true else(bif (a1.id !=a2.lot)then some true else(lQ n a1.area).bind λr2=>some (!r2)))).bind λv1=>(bif v1 then some false else(wP n a2).bind λr3=>dG (iter (ku n a1 r3) n 0) λ()=>dG (iter (kC n a0 a2) n 0) λ()=>some true)
def pJ(a0:aM):Stp (Int×(List aF)) (List aF)
 |(v1,v2)=>(bif decide (v1<a0.phases.length)then(bj a0.phases v1).bind λx1=>ck (bK v2.length v2.length x1.bk.length x1.bk.length 72)<|iP (v2++x1.bk) λr1=>ck (az r1.length r1.length)<|some (.inl ((i64.wrap (v1+1)),r1))else ck (az v2.length v2.length)<|some (.inr v2))
def uj(a0:aM):Option (List aF):=
 ck (az 0 ([]:List aF).length)<|(iter (pJ a0) n (0,[])).bind λw1=>ck (az (sub w1 0 w1.length).length w1.length)<|some (sub w1 0 w1.length)
def pK(a0:List dP):Stp (Int×(List jJ)) (List jJ)
 |(v1,v2)=>(bif decide (v1<a0.length)then(bj a0 v1).bind λx1=>ck ((a0.length:Int) !=0)<|(bj a0 (Int.tmod (i64.wrap (v1+1)) (a0.length:Int))).bind λx2=>ck (cN v1 ((a0.length:Int).toNat))<|(bj v2 ((0:Nat)+v1:Int)).bind λx3=>some (.inl ((i64.wrap (v1+1)),(v2.set ((0:Nat)+v1:Int).toNat (jJ.mk x1.x x1.y x2.x x2.y))))else some (.inr v2))
def qa(a0:List dP):Option (List jJ):=
 ck (decide ((a0.length:Int)<=a0.length)&&(decide (0<=(a0.length:Int))&&sQ a0.length 32))<|(iter (pK a0) n (0,(List.replicate (a0.length:Int).toNat (jJ.mk 0 0 0 0)))).bind λw1=>ck (az (sub w1 0 ((a0.length:Int).toNat)).length ((a0.length:Int).toNat))<|some (sub w1 0 ((a0.length:Int).toNat))
def ul(a0:dP):Option Bool:=
 (bif decide (0<=a0.x)then(bif decide (a0.x<=1048576)then(bif decide (0<=a0.y)then some (decide (a0.y<=1048576))else some false)else some false)else some false)
def gK(a0:jJ):Option Bool:=
 some (a0.mm==a0.mT)
def Bt(a0:List Int):Stp Int (Unit⊕Int)
 |v1=>(bif decide (v1<a0.length)then(bj a0 v1).bind λx1=>(bif (x1 !=0)then(some x1).map λa=> .inr (.inr a)else some (.inl (i64.wrap (v1+1))))else some (.inr (.inl ())))
def vM(a0:List Int):Option Int:=
 dG (iter (Bt a0) n 0) λ()=>some 0
def rJ(a0:dP)(a1:dP):Option Int:=
 (cmp_Compare_int a0.x a1.x).bind λr1=>(cmp_Compare_int a0.y a1.y).bind λr2=>ck (az (sub ([r1,r2]:List Int) 0 2).length 2)<|(vM n (sub ([r1,r2]:List Int) 0 2)).bind λr3=>some r3
def lZ(a0:jJ)(a1:jJ):Option Bool:=
 (bif decide ((max (min a0.mm a0.mT) (min a1.mm a1.mT))<=(min (max a0.mm a0.mT) (max a1.mm a1.mT)))then some (decide ((max (min a0.qt a0.vl) (min a1.qt a1.vl))<=(min (max a0.qt a0.vl) (max a1.qt a1.vl))))else some false)
def qp(a0:List dP)(r1:List jJ):Stp Int (Unit⊕Bool)
 |v2=>(bif decide (v2<(r1.length:Nat))then ck (cN v2 r1.length)<|(bj r1 ((0:Nat)+v2:Int)).bind λx1=>ck ((r1.length:Int) !=0)<|ck (cN (Int.tmod (i64.wrap (v2+1)) (r1.length:Int)) r1.length)<|(bj r1 ((0:Nat)+(Int.tmod (i64.wrap (v2+1)) (r1.length:Int)):Int)).bind λx2=>((ul (dP.mk x1.mm x1.qt)).bind λr2=>(bif (!r2)then some true else(bif ((x1.mm==x1.mT)==(x1.qt==x1.vl))then some true else(gK x1).bind λr3=>(gK x2).bind λr4=>some (r3==r4)))).bind λv3=>(bif v3 then(some false).map λa=> .inr (.inr a)else((bif decide (v2>0)then(bj a0 0).bind λx3=>(bj a0 v2).bind λx4=>(rJ n x3 x4).bind λr5=>some (decide (r5>=0))else some false)).bind λv4=>(bif v4 then(some false).map λa=> .inr (.inr a)else some (.inl (i64.wrap (v2+1)))))else some (.inr (.inl ())))
def iU(r1:List jJ)(v5:Int):Stp Int (Unit⊕(Int⊕(Unit⊕Bool)))
 |v6=>(bif decide (v6<(r1.length:Nat))then((bif (decide ((i64.wrap ((i64.wrap (v5+(r1.length:Nat))) -v6))>1))then ck (cN v5 r1.length)<|(bj r1 ((0:Nat)+v5:Int)).bind λx5=>ck (cN v6 r1.length)<|(bj r1 ((0:Nat)+v6:Int)).bind λx6=>(lZ x5 x6).bind λr6=>some r6 else some false)).bind λv7=>(bif v7 then((some false).map λa=> .inr (.inr a)).map λa=> .inr (.inr a)else some (.inl (i64.wrap (v6+1))))else some (.inr (.inl ())))
def qw(r1:List jJ):Stp Int (Unit⊕Bool)
 |v5=>(bif decide (v5<(r1.length:Nat))then dG (iter (iU r1 v5) n (i64.wrap (v5+2))) λ()=>some (.inl (i64.wrap (v5+1)))else some (.inr (.inl ())))
def vZ(a0:List dP):Option Bool:=
 ((bif decide ((a0.length:Int)<4)then some true else some (decide ((a0.length:Int)>60)))).bind λv1=>(bif v1 then some false else(qa n a0).bind λr1=>dG (iter (qp n a0 r1) n 0) λ()=>dG (iter (qw n r1) n 0) λ()=>ck (cN 0 r1.length)<|(bj r1 ((0:Nat)+0:Int)).bind λx7=>(gK x7).bind λr7=>some (!r7))
def l5(a0:List dP):Stp (Int×(List Int)) (List Int)
 |(v1,v2)=>(bif decide (v1<a0.length)then(bj a0 v1).bind λx1=>ck (bK v2.length v2.length (sub ([x1.x]:List Int) 0 1).length 1 8)<|iP (v2++(sub ([x1.x]:List Int) 0 1)) λr2=>ck (az r2.length r2.length)<|some (.inl ((i64.wrap (v1+1)),r2))else ck (az v2.length v2.length)<|some (.inr v2))
def l6(r4:Unit×(List Int))(r5:List jJ)(v3:Int):Stp (Int×(List Int)) (List Int)
 |(v5,v6)=>(bif decide (v5<(r5.length:Nat))then(ck (cN v5 r5.length)<|(bj r5 ((0:Nat)+v5:Int)).bind λx2=>((gK x2).bind λr6=>(bif (!r6)then ck (cN v3 r4.2.length)<|(bj r4.2 ((0:Nat)+v3:Int)).bind λx3=>(bif decide ((min x2.mm x2.mT)<=x3)then ck (cN v3 r4.2.length)<|(bj r4.2 ((0:Nat)+v3:Int)).bind λx4=>some (decide (x4<(max x2.mm x2.mT)))else some false)else some false)).bind λv7=>(bif v7 then ck (bK v6.length v6.length (sub ([x2.qt]:List Int) 0 1).length 1 8)<|iP (v6++(sub ([x2.qt]:List Int) 0 1)) λr7=>ck (az r7.length r7.length)<|some r7 else ck (az v6.length v6.length)<|some v6):Option ((List Int))).bind λv8=>ck (az v8.length v8.length)<|some (.inl ((i64.wrap (v5+1)),v8))else ck (az v6.length v6.length)<|some (.inr v6))
def jv(r4:Unit×(List Int))(v3:Int)(w2:List Int)(r8:List Int):Stp (Int×(List ax)) (List ax)
 |(v9,v10)=>(bif decide ((i64.wrap (v9+1))<(w2.length:Nat))then ck (cN v3 r4.2.length)<|(bj r4.2 ((0:Nat)+v3:Int)).bind λx5=>ck (cN v9 w2.length)<|(bj r8 ((0:Nat)+v9:Int)).bind λx6=>ck (cN (i64.wrap (v3+1)) r4.2.length)<|(bj r4.2 ((0:Nat)+(i64.wrap (v3+1)):Int)).bind λx7=>ck (cN (i64.wrap (v9+1)) w2.length)<|(bj r8 ((0:Nat)+(i64.wrap (v9+1)):Int)).bind λx8=>ck (bK v10.length v10.length (sub ([(ax.mk x5 x6 x7 x8)]:List ax) 0 1).length 1 32)<|iP (v10++(sub ([(ax.mk x5 x6 x7 x8)]:List ax) 0 1)) λr9=>ck (az r9.length r9.length)<|some (.inl ((i64.wrap (v9+2)),r9))else ck (az v10.length v10.length)<|some (.inr v10))
def l7(r4:Unit×(List Int))(r5:List jJ):Stp (Int×(List ax)) (List ax)
 |(v3,v4)=>(bif decide (v3<(i64.wrap ((r4.2.length:Nat) -1)))then ck (az 0 ([]:List Int).length)<|(iter (l6 r4 r5 v3) n (0,[])).bind λw2=>ck (az w2.length w2.length)<|(lN n w2).bind λr8=>ck (az v4.length v4.length)<|(iter (jv r4 v3 w2 r8) n (0,v4)).bind λw3=>ck (az w3.length w3.length)<|some (.inl ((i64.wrap (v3+1)),w3))else ck (az v4.length v4.length)<|some (.inr v4))
def um(a0:List dP):Option ((List ax)×Int):=
 (vZ n a0).bind λr1=>(bif (!r1)then some ([],10)else ck (az 0 ([]:List Int).length)<|(iter (l5 a0) n (0,[])).bind λw1=>ck (az w1.length w1.length)<|(lN n w1).bind λr3=>ck (az w1.length r3.length)<|(kF n r3).bind λr4=>(qa n a0).bind λr5=>ck (az 0 ([]:List ax).length)<|(iter (l7 n r4 r5) n (0,[])).bind λw4=>(bif decide ((w4.length:Int)>200)then some ([],6)else ck (az (sub w4 0 w4.length).length w4.length)<|some ((sub w4 0 w4.length),0)))
def xO(a0:fC):Option (List ax):=
 (um n a0.corners).bind λr1=>(bif (r1.2 !=0)then some []else ck (az (sub r1.1 0 r1.1.length).length r1.1.length)<|some (sub r1.1 0 r1.1.length))
def qx(a1:List ax)(x1:ax):Stp (Int×Int×Int×Int) (Int×Int×Int)
 |(v5,v6,v7,v8)=>(bif decide (v6<a1.length)then((bj a1 v6).bind λx2=>(sJ x1 x2).bind λr1=>(bif (!r1.2)then some (v5,v7,v8)else(yZ r1.1).bind λr2=>(cmp_Compare_int r1.1.x0 v7).bind λr3=>(cmp_Compare_int r1.1.y0 v8).bind λr4=>ck (az (sub ([r3,r4]:List Int) 0 2).length 2)<|(vM n (sub ([r3,r4]:List Int) 0 2)).bind λr5=>(bif decide (r5<0)then some ((i64.wrap (v5+r2)),r1.1.x0,r1.1.y0)else some ((i64.wrap (v5+r2)),v7,v8))):Option (Int×Int×Int)).bind λ(v9,v10,v11)=>some (.inl (v9,(i64.wrap (v6+1)),v10,v11))else some (.inr (v5,v7,v8)))
def qy(a0:List ax)(a1:List ax):Stp (Int×Int×Int×Int) (Int×Int×Int)
 |(v1,v2,v3,v4)=>(bif decide (v2<a0.length)then(bj a0 v2).bind λx1=>(iter (qx n a1 x1) n (v1,0,v3,v4)).bind λ(w1,w2,w3)=>some (.inl (w1,(i64.wrap (v2+1)),w2,w3))else some (.inr (v1,v3,v4)))
def wh(a0:List ax)(a1:List ax):Option (Int×dP):=
 (iter (qy n a0 a1) n (0,0,1048576,0)).bind λ(w4,w5,w6)=>some (w4,(dP.mk w5 w6))
def qz(a0:bL)(a1:List ax):Stp (Int×(List Int)) (List Int)
 |(v1,v2)=>(bif decide (v1<a0.zones.length)then(bj a0.zones v1).bind λx1=>(xO n x1).bind λr2=>ck (az (sub r2 0 r2.length).length r2.length)<|(wh n a1 (sub r2 0 r2.length)).bind λr3=>ck (bK v2.length v2.length (sub ([r3.1]:List Int) 0 1).length 1 8)<|iP (v2++(sub ([r3.1]:List Int) 0 1)) λr4=>ck (az r4.length r4.length)<|some (.inl ((i64.wrap (v1+1)),r4))else ck (az v2.length v2.length)<|some (.inr v2))
def wm(a0:bL)(a1:List ax):Option (List Int):=
 (lQ n a1).bind λr1=>(bif (!r1)then some []else ck (az 0 ([]:List Int).length)<|(iter (qz n a0 a1) n (0,[])).bind λw1=>ck (az (sub w1 0 w1.length).length w1.length)<|some (sub w1 0 w1.length))
def qC(a0:bL)(r1:List Int):Stp (Int×Int) Int
 |(v1,v2)=>(bif decide (v2<(r1.length:Nat))then(ck (cN v2 r1.length)<|(bj r1 ((0:Nat)+v2:Int)).bind λx1=>((bj a0.zones v2).bind λx2=>(bif (!x2.overlay)then(bif decide (x1>0)then(bif decide (v1<0)then some true else ck (cN v1 r1.length)<|(bj r1 ((0:Nat)+v1:Int)).bind λx3=>some (decide (x1>x3)))else some false)else some false)).bind λv3=>(bif v3 then some v2 else some v1):Option Int).bind λv4=>some (.inl (v4,(i64.wrap (v2+1))))else some (.inr v1))
def xP(a0:bL)(r1:List Int)(w1:Int):Stp (Int×(List ByteArray)) (List ByteArray)
 |(v5,v6)=>(bif decide (v5<(r1.length:Nat))then(ck (cN v5 r1.length)<|(bj r1 ((0:Nat)+v5:Int)).bind λx4=>((bif (v5==w1)then some true else(bj a0.zones v5).bind λx5=>(bif x5.overlay then some (decide (x4>0))else some false))).bind λv7=>(bif v7 then(bj a0.zones v5).bind λx6=>ck (bK v6.length v6.length (sub ([x6.name]:List ByteArray) 0 1).length 1 16)<|iP (v6++(sub ([x6.name]:List ByteArray) 0 1)) λr2=>ck (az r2.length r2.length)<|some r2 else ck (az v6.length v6.length)<|some v6):Option ((List ByteArray))).bind λv8=>ck (az v8.length v8.length)<|some (.inl ((i64.wrap (v5+1)),v8))else ck (az v6.length v6.length)<|some (.inr v6))
def Dc(a0:bL)(a1:List ax):Option (List ByteArray):=
 (wm n a0 a1).bind λr1=>(iter (qC a0 r1) n ((-1),0)).bind λw1=>ck (az 0 ([]:List ByteArray).length)<|(iter (xP a0 r1 w1) n (0,[])).bind λw2=>ck (az (sub w2 0 w2.length).length w2.length)<|some (sub w2 0 w2.length)
def Ar(a0:dX)(a1:aM):Option (mK×Int):=
 (pG n a0.land a1.lot).bind λr1=>(bif (!r1.2)then some ((mK.mk ([]) ([]) ([]) ([]) ([]) ([]) ([]) 0 ([]) ([]) ([]) ([]) ([]) 0 0 ([]) ([]) 0 ([]) ([]) ([])),4)else(o7 n (bL.mk a0.cC a0.ci a0.ct a0.aq a0.cM a0.cP a0.dt a0.cQ) r1.1 a1).bind λr2=>(bif (!r2)then some ((mK.mk ([]) ([]) ([]) ([]) ([]) ([]) ([]) 0 ([]) ([]) ([]) ([]) ([]) 0 0 ([]) ([]) 0 ([]) ([]) ([])),1)else(uj n a1).bind λr3=>(Dc n (bL.mk a0.cC a0.ci a0.ct a0.aq a0.cM a0.cP a0.dt a0.cQ) r1.1.area).bind λr4=>ck (az (sub r3 0 r3.length).length r3.length)<|ck (az (sub r4 0 r4.length).length r4.length)<|some ((mK.mk a0.cC a0.ci a0.ct a0.aq a0.cM a0.cP a0.dt a0.cQ a0.land a0.cE a0.windows a0.built a0.base r1.1.id r1.1.owner r1.1.area r1.1.from_ a1.lot a1.phases (sub r3 0 r3.length) (sub r4 0 r4.length)),0)))
def kD(a0:ByteArray)(a1:List ByteArray):Option Bool:=
 (dQ n a1 a0).bind λr1=>some r1
def EI(a0:List ByteArray)(a1:(ByteArray×Unit)->Option Bool):Stp Int (Unit⊕Int)
 |v1=>(bif decide (v1<a0.length)then(bj a0 v1).bind λx1=>(a1 (x1,())).bind λr1=>(bif r1 then(some v1).map λa=> .inr (.inr a)else some (.inl (i64.wrap (v1+1))))else some (.inr (.inl ())))
def qO(a0:List ByteArray)(a1:(ByteArray×Unit)->Option Bool):Option Int:=
 dG (iter (EI a0 a1) n 0) λ()=>some (-1)
def fK(a0:List ByteArray)(a1:(ByteArray×Unit)->Option Bool):Option Bool:=
 (qO n a0 a1).bind λr1=>some (decide (r1>=0))
def qZ(a0:bX)(a1:List ByteArray):Option Bool:=
 (bif ((a0.zones.length:Int)==0)then(fK n a0.except (λ (y1:ByteArray×Unit)=>kD n y1.1 a1)).bind λr1=>some (!r1)else(fK n a0.zones (λ (y2:ByteArray×Unit)=>kD n y2.1 a1)).bind λr2=>(bif r2 then(fK n a0.except (λ (y3:ByteArray×Unit)=>kD n y3.1 a1)).bind λr3=>some (!r3)else some false))
def rM(a0:bL)(a1:List ByteArray)(a2:Int):Stp (Int×(List Int)) (List Int)
 |(v1,v2)=>(bif decide (v1<a0.rules.length)then((bj a0.rules v1).bind λx1=>((bif decide (x1.from_<=a2)then(bif (x1.kB==0)then(qZ n x1 a1).bind λr1=>some r1 else(bif decide (a2<x1.kB)then(qZ n x1 a1).bind λr2=>some r2 else some false))else some false)).bind λv3=>(bif v3 then ck (bK v2.length v2.length (sub ([v1]:List Int) 0 1).length 1 8)<|iP (v2++(sub ([v1]:List Int) 0 1)) λr3=>ck (az r3.length r3.length)<|some r3 else ck (az v2.length v2.length)<|some v2):Option ((List Int))).bind λv4=>ck (az v4.length v4.length)<|some (.inl ((i64.wrap (v1+1)),v4))else ck (az v2.length v2.length)<|some (.inr v2))
def uo(a0:bL)(a1:List ByteArray)(a2:Int):Option (List Int):=
 ck (az 0 ([]:List Int).length)<|(iter (rM n a0 a1 a2) n (0,[])).bind λw1=>ck (az (sub w1 0 w1.length).length w1.length)<|some (sub w1 0 w1.length)
def y8(a0:Int):Option (Int×Bool):=
 ((bif (a0==0)then some (a0==0)else(bif (a0==1)then some (a0==1)else(bif (a0==2)then some (a0==2)else some (a0==3))))).bind λv1=>(bif v1 then some (0,true)else((bif (a0==9)then some (a0==9)else some (a0==15))).bind λv2=>(bif v2 then some (1,true)else(bif (a0==16)then some (3,true)else(bif decide (a0>=0)then some (2,(decide (a0<17)))else some (2,false)))))
def xQ(n:Nat)(rc:(cu)->(Int)->Option Int)(a0:cu)(a1:Int):Stp (Int×Int) Int
 |(v2,v3)=>(bif decide (v3<a0.args.length)then(bj a0.args v3).bind λx1=>(rc (cu.mk x1.op x1.n x1.s x1.key x1.args) (i64.wrap (a1+1))).bind λr2=>some (.inl ((max v2 r2),(i64.wrap (v3+1))))else some (.inr v2))
def Au(rc:(cu)->(Int)->Option Int)(a0:cu)(a1:Int):Option Int:=
 (y8 a0.op).bind λr1=>((bif (!r1.2)then some true else(bif (r1.1 !=a0.args.length)then some true else some (decide (a1>=12))))).bind λv1=>(bif v1 then some 13 else(iter (xQ n rc a0 a1) n (0,0)).bind λw1=>some (i64.wrap (w1+1)))
def EJ(rc:(cu)->(Int)->Option Int):cm xx:=⟨[.d (.st SI.Expr),.d (.int .i64)],[.d (.int .i64)],λa=>rc a.1 a.2.1,none⟩
def sK(n:Nat):Nat->(cu)->(Int)->Option Int
 | 0=>λ_ _=>none
 |m+1=>Au n (sK n m)
def Qw(a0:cu)(a1:Int):Option Int:=sK n n a0 a1
def IA(a0:cu):Option Bool:=
 (Qw n (cu.mk a0.op a0.n a0.s a0.key a0.args) 0).bind λr1=>some (decide (r1<=12))
mutual
def toE:cu->ET
 |⟨op,_,s,_,args⟩=> .mk op s (IB args)
def IB:List cu->List ET
 |[]=>[]
 |x::xs=>toE x::IB xs
end
def toD(d:gH):ByteArray×ET:=(d.name,.mk d.jp d.lh (IB d.eQ))
def lF(a0:List gH):Option ((List gH)×(List (List Int))):=ck (Nat.ble (sB (a0.map toD)) 4000000)<|some (a0,pu (a0.map toD))
def q8(a0:List Int)(a1:Int):Option (List Int):=match a0 with
 |[x]=>ck (decide (0<=a1)&&decide (a1<=1000000000000))<|some (List.replicate a1.toNat x)
 |_=>none
def fM(a0:pX)(r1:List Int)(x2:Int):Stp (Int×Int×(List Int)×(List Int)) (Int×(List Int)×(List Int))
 |(v4,v5,v6,v7)=>(bif decide (v5<a0.uses.length)then((bj a0.uses v5).bind λx3=>(ck (cN v5 r1.length)<|(bj v6 ((0:Nat)+v5:Int)).bind λx4=>(bif decide (x4<0)then(oI n x3 x2).bind λr2=>some r2 else some false)).bind λv8=>(bif v8 then ck (cN x2 r1.length)<|(bj v6 ((0:Nat)+x2:Int)).bind λx5=>ck (cN v5 r1.length)<|(bj v6 ((0:Nat)+v5:Int)).bind λx6=>ck (bK (V7 (v4.toNat) v7).length (v7.length -v4.toNat) (sub ([v5]:List Int) 0 1).length 1 8)<|iP ((V7 (v4.toNat) v7)++(sub ([v5]:List Int) 0 1)) λr3=>ck (az (0+r3.length) r3.length)<|some ((0:Nat),(v6.set ((0:Nat)+v5:Int).toNat (i64.wrap (x5+1))),r3)else ck (az ((v4.toNat)+(v7.length -v4.toNat)) v7.length)<|some ((v4.toNat:Nat),v6,v7)):Option (Int×(List Int)×(List Int))).bind λ(v9,v10,v11)=>ck (az ((v9.toNat)+(v11.length -v9.toNat)) v11.length)<|some (.inl ((v9.toNat:Nat),(i64.wrap (v5+1)),v10,v11))else ck (az ((v4.toNat)+(v7.length -v4.toNat)) v7.length)<|some (.inr ((v4.toNat:Nat),v6,v7)))
def dL(a0:pX)(r1:List Int):Stp (Int×(List Int)×(List Int)) (List Int)
 |(v1,v2,v3)=>(bif (decide ((((v3.length -(v1:Int).toNat):Nat):Int)>0))then ck (cN 0 (v3.length -v1.toNat))<|(bj v3 ((v1.toNat:Nat)+0:Int)).bind λx2=>ck (Bg 1 ((v3.length -v1.toNat):Nat) (v3.length -v1.toNat))<|ck (az ((v1.toNat+1)+((v3.length -v1.toNat) -1)) v3.length)<|(iter (fM n a0 r1 x2) n (((v1.toNat+1):Nat),0,v2,v3)).bind λ(w1,w2,w3)=>ck (az ((w1.toNat)+(w3.length -w1.toNat)) w3.length)<|some (.inl ((w1.toNat:Nat),w2,w3))else some (.inr v2))
def jV(a0:pX)(a1:Int):Option (List Int):=
 ck (az (sub ([(-1)]:List Int) 0 1).length 1)<|(q8 (sub ([(-1)]:List Int) 0 1) a0.defs.length).bind λr1=>ck (cN a1 r1.length)<|(bj r1 ((0:Nat)+a1:Int)).bind λx1=>ck (az (0+1) ([a1]:List Int).length)<|(iter (dL n a0 r1) n ((0:Nat),(r1.set ((0:Nat)+a1:Int).toNat 0),([a1]:List Int))).bind λw4=>ck (az (sub w4 0 r1.length).length r1.length)<|some (sub w4 0 r1.length)
def cmp_isNaN_string(a0:ByteArray):Option Bool:=
 some (!(ByteArray.toList a0==ByteArray.toList a0))
def nV(a0:ByteArray)(a1:ByteArray):Option Int:=
 (cmp_isNaN_string a0).bind λr1=>(cmp_isNaN_string a1).bind λr2=>(bif r1 then(bif r2 then some 0 else some (-1))else(bif r2 then some 1 else(bif (V3 a0 a1)then some (-1)else(bif (!(V3 a0 a1 || ByteArray.toList a0==ByteArray.toList a1))then some 1 else some 0))))
def l8(a0:List ByteArray)(a1:List ByteArray):Stp Int (Unit⊕Int)
 |v1=>(bif decide (v1<a0.length)then(bj a0 v1).bind λx1=>(bif decide (v1>=a1.length)then(some 1).map λa=> .inr (.inr a)else(bj a1 v1).bind λx2=>(nV x1 x2).bind λr1=>(bif (r1 !=0)then(some r1).map λa=> .inr (.inr a)else some (.inl (i64.wrap (v1+1)))))else some (.inr (.inl ())))
def l9(a0:List ByteArray)(a1:List ByteArray):Option Int:=
 dG (iter (l8 a0 a1) n 0) λ()=>(bif decide (a0.length<(a1.length:Int))then some (-1)else some 0)
def mQ(a0:Int)(a1:List Bool):Option (Bool×(List Bool)):=
 ck (cN a0 a1.length)<|(bj a1 ((0:Nat)+a0:Int)).bind λx1=>ck (az a1.length a1.length)<|some ((!x1),a1)
def jW(a0:List Int):Stp (Int×(List Bool)) ((List Bool)⊕(Int×(List Bool)))
 |(v1,v2)=>(bif decide (v1<a0.length)then(bj a0 v1).bind λx1=>ck (az v2.length v2.length)<|(mQ x1 v2).bind λr1=>(bif r1.1 then(ck (az r1.2.length r1.2.length)<|some (v1,r1.2)).map λa=> .inr (.inr a)else ck (az r1.2.length r1.2.length)<|some (.inl ((i64.wrap (v1+1)),r1.2)))else ck (az v2.length v2.length)<|some (.inr (.inl v2)))
def ng(a0:List Int)(a1:List Bool):Option (Int×(List Bool)):=
 ck (az a1.length a1.length)<|dG (iter (jW a0) n (0,a1)) λw1=>ck (az w1.length w1.length)<|some ((-1),w1)
def iw(a0:List Int)(a1:List Bool):Option (Bool×(List Bool)):=
 ck (az a1.length a1.length)<|(ng n a0 a1).bind λr1=>ck (az r1.2.length r1.2.length)<|some ((decide (r1.1>=0)),r1.2)
def iK(a0:pX):Stp (Int×Int×(List Bool)) (Int×(List Bool))
 |(v4,v5,v6)=>(bif decide (v5<a0.uses.length)then((bj a0.uses v5).bind λx1=>ck (az v6.length v6.length)<|(iw n x1 v6).bind λr1=>(ck (cN v5 r1.2.length)<|(bj r1.2 ((0:Nat)+v5:Int)).bind λx2=>(bif (!x2)then(bif (!r1.1)then(bif decide (v4<0)then some true else(bj a0.defs v5).bind λx3=>(bj a0.defs v4).bind λx4=>some (V3 x3.name x4.name))else some false)else some false)).bind λv7=>(bif v7 then ck (az r1.2.length r1.2.length)<|some (v5,r1.2)else ck (az r1.2.length r1.2.length)<|some (v4,r1.2)):Option (Int×(List Bool))).bind λ(v8,v9)=>ck (az v9.length v9.length)<|some (.inl (v8,(i64.wrap (v5+1)),v9))else ck (az v6.length v6.length)<|some (.inr (v4,v6)))
def kP(a0:pX):Stp (Int×(List Int)×(List Bool)) (List Int)
 |(v1,v2,v3)=>(bif decide (v1<a0.defs.length)then ck (az v3.length v3.length)<|(iter (iK n a0) n ((-1),0,v3)).bind λ(w1,w2)=>ck (cN w1 w2.length)<|(bj w2 ((0:Nat)+w1:Int)).bind λx5=>ck (bK v2.length v2.length (sub ([w1]:List Int) 0 1).length 1 8)<|iP (v2++(sub ([w1]:List Int) 0 1)) λr2=>ck (az r2.length r2.length)<|ck (az w2.length (w2.set ((0:Nat)+w1:Int).toNat true).length)<|some (.inl ((i64.wrap (v1+1)),r2,(w2.set ((0:Nat)+w1:Int).toNat true)))else ck (az v2.length v2.length)<|some (.inr v2))
def nX(a0:pX):Option (List Int):=
 ck (decide ((a0.defs.length:Int)<=a0.defs.length)&&(decide (0<=(a0.defs.length:Int))&&sQ a0.defs.length 1))<|ck (az 0 ([]:List Int).length)<|ck (az ((a0.defs.length:Int).toNat) (List.replicate (a0.defs.length:Int).toNat false).length)<|(iter (kP n a0) n (0,[],(List.replicate (a0.defs.length:Int).toNat false))).bind λw3=>ck (az (sub w3 0 w3.length).length w3.length)<|some (sub w3 0 w3.length)
def iF(r1:List Int)(x2:List Int):Stp (Int×Int) Int
 |(v3,v4)=>(bif decide (v4<x2.length)then((bj x2 v4).bind λx3=>(ck (cN x3 r1.length)<|(bj r1 ((0:Nat)+x3:Int)).bind λx4=>(bif decide (x4>=0)then(bif decide (v3<0)then some true else ck (cN x3 r1.length)<|(bj r1 ((0:Nat)+x3:Int)).bind λx5=>ck (cN v3 r1.length)<|(bj r1 ((0:Nat)+v3:Int)).bind λx6=>some (decide (x5<x6)))else some false)).bind λv5=>(bif v5 then some x3 else some v3):Option Int).bind λv6=>some (.inl (v6,(i64.wrap (v4+1))))else some (.inr v3))
def kX(a0:Int)(a1:List gH)(a2:List (List Int))(r1:List Int):Stp (Int×(List ByteArray)) (Unit⊕((List gH)×(List (List Int))×(List ByteArray)))
 |(v1,v2)=>(bj a1 v1).bind λx1=>ck (bK v2.length v2.length (sub ([x1.name]:List ByteArray) 0 1).length 1 16)<|iP (v2++(sub ([x1.name]:List ByteArray) 0 1)) λr2=>(bj a2 v1).bind λx2=>(iter (iF r1 x2) n ((-1),0)).bind λw1=>(bif decide (w1<0)then(ck (az 0 ([]:List ByteArray).length)<|some (a1,a2,[])).map λa=> .inr (.inr a)else(bif (w1==a0)then(ck (!(r2.length==0)&&az r2.length r2.length)<|some (a1,a2,r2)).map λa=> .inr (.inr a)else ck (az r2.length r2.length)<|some (.inl (w1,r2))))
def jX(a0:Int)(a1:List gH)(a2:List (List Int)):Option ((List gH)×(List (List Int))×(List ByteArray)):=
 (jV n (pX.mk a1 a2) a0).bind λr1=>ck (az 0 ([]:List ByteArray).length)<|dG (iter (kX n a0 a1 a2 r1) n (a0,[])) λ()=>none
def gV(a0:List gH):Stp (Int×(List gH)×(List (List Int))×(List ByteArray)) ((List gH)×(List (List Int))×(List ByteArray))
 |(v1,v2,v3,v4)=>(bif decide (v1<a0.length)then((jX n v1 v2 v3).bind λr1=>((bif r1.2.2.length==0 then some true else some false)).bind λv5=>(bif v5 then ck (az v4.length v4.length)<|some (r1.1,r1.2.1,v4)else((bif v4.length==0 then some true else(bif decide ((r1.2.2.length:Nat)<(v4.length:Int))then some true else(bif ((r1.2.2.length:Nat)==(v4.length:Int))then ck (az (sub r1.2.2 0 r1.2.2.length).length r1.2.2.length)<|ck (az (sub v4 0 v4.length).length v4.length)<|(l9 n (sub r1.2.2 0 r1.2.2.length) (sub v4 0 v4.length)).bind λr2=>some (decide (r2<0))else some false)))).bind λv6=>(bif v6 then ck (az r1.2.2.length r1.2.2.length)<|some (r1.1,r1.2.1,r1.2.2)else ck (az v4.length v4.length)<|some (r1.1,r1.2.1,v4))):Option ((List gH)×(List (List Int))×(List ByteArray))).bind λ(v7,v8,v9)=>ck (az v9.length v9.length)<|some (.inl ((i64.wrap (v1+1)),v7,v8,v9))else ck (az v4.length v4.length)<|some (.inr (v2,v3,v4)))
def iY(a0:List gH)(a1:List (List Int)):Option ((List gH)×(List (List Int))×(List ByteArray)):=
 ck (az 0 ([]:List ByteArray).length)<|(iter (gV n a0) n (0,a0,a1,[])).bind λ(w1,w2,w3)=>ck (az w3.length w3.length)<|some (w1,w2,w3)
def oL(r1:List ByteArray):Stp (Int×(List (ByteArray×Bool))) (List (ByteArray×Bool))
 |(v1,v2)=>(bif decide (v1<(r1.length:Nat))then ck (cN v1 r1.length)<|(bj r1 ((0:Nat)+v1:Int)).bind λx1=>some (.inl ((i64.wrap (v1+1)),(FV eb x1 true v2)))else some (.inr v2))
def lG(a0:bL):Stp (Int×(List (ByteArray×Bool))) (Unit⊕((List Int)×(List ByteArray)×Int))
 |(v3,v4)=>(bif decide (v3<a0.defs.length)then(bj a0.defs v3).bind λx2=>(bif ((gD eb x2.name v4).getD false)then(some ([],[],5)).map λa=> .inr (.inr a)else some (.inl ((i64.wrap (v3+1)),(FV eb x2.name true v4))))else some (.inr (.inl ())))
def nY(a0:bL):Option ((List Int)×(List ByteArray)×Int):=
 (oJ).bind λr1=>(iter (oL r1) n (0,([]:(List (ByteArray×Bool))))).bind λw1=>dG (iter (lG a0) n (0,w1)) λ()=>(lF a0.defs).bind λr2=>(iY n r2.1 r2.2).bind λr3=>((bif r3.2.2.length==0 then some false else some true)).bind λv5=>(bif v5 then ck (az (sub r3.2.2 0 r3.2.2.length).length r3.2.2.length)<|some ([],(sub r3.2.2 0 r3.2.2.length),16)else(nX n (pX.mk r3.1 r3.2.1)).bind λr4=>ck (az (sub r4 0 r4.length).length r4.length)<|some ((sub r4 0 r4.length),[],0))
def Av(a0:bO)(a1:cu):Option Bool:=
 some (ByteArray.toList a0.name==ByteArray.toList a1.s)
def Aw(a0:aZ)(a1:cu):Option Bool:=
 some (ByteArray.toList a0.name==ByteArray.toList a1.key)
def y9(a0:Bool):Option Int:=
 (bif a0 then some 1 else some 0)
def wU(a0:Int)(a1:Int):Option Int:=
 (bif (a1==0)then some 0 else ck (a1 !=0)<|(ck (a1 !=0)<|((bif ((Int.tmod a0 a1) !=0)then some (!((decide ((Int.tmod a0 a1)<0))==(decide (a1<0))))else some false)).bind λv1=>(bif v1 then some (i64.wrap ((i64.wrap (Int.tdiv a0 a1)) -1))else some (i64.wrap (Int.tdiv a0 a1))):Option Int).bind λv2=>some v2)
def JZ(a0:Int)(a1:Int)(a2:Int):Option Int:=
 (bif (a0==4)then some (i64.wrap (a1+a2))else(bif (a0==5)then some (i64.wrap (a1 -a2))else(bif (a0==6)then some (i64.wrap (a1*a2))else(bif (a0==7)then(wU a1 a2).bind λr1=>some r1 else(bif (a0==8)then(bif (a2==0)then some 0 else(wU a1 a2).bind λr2=>some (i64.wrap (a1 -(i64.wrap (r2*a2)))))else(bif (a0==10)then(y9 (a1==a2)).bind λr3=>some r3 else(bif (a0==11)then(y9 (decide (a1<a2))).bind λr4=>some r4 else(bif (a0==12)then(y9 (decide (a1<=a2))).bind λr5=>some r5 else(bif (a0==13)then(bif (a1 !=0)then(y9 (a2 !=0)).bind λr6=>some r6 else(y9 false).bind λr7=>some r7)else(bif (a1 !=0)then(y9 true).bind λr8=>some r8 else(y9 (a2 !=0)).bind λr9=>some r9))))))))))
def jw(a0:List gH)(a1:List bO)(a2:List fC)(a3:List bX)(a4:List jA)(a5:List ig)(a6:List dD)(a7:Int)(a8:List ByteArray)(a9:cu)(ky:List (ByteArray×Int)):Option (Int×(List (ByteArray×Int))):=
 (nQ n a1 (λ (y1:bO×Unit)=>Av y1.1 (cu.mk a9.op a9.n a9.s a9.key a9.args))).bind λr1=>(bif decide (r1<0)then some (0,ky)else(bj a1 r1).bind λx1=>(iT n x1.rows (λ (y2:aZ×Unit)=>Aw y2.1 (cu.mk a9.op a9.n a9.s a9.key a9.args))).bind λr2=>(bif decide (r2>=0)then(bj x1.rows r2).bind λx2=>some (x2.n,ky)else some (x1.rk,ky)))
def eG(n:Nat)(rc:((List gH))->((List bO))->((List fC))->((List bX))->((List jA))->((List ig))->((List dD))->(Int)->((List ByteArray))->(cu)->((List (ByteArray×Int)))->Option (Int×(List (ByteArray×Int))))(a0:List gH)(a1:List bO)(a2:List fC)(a3:List bX)(a4:List jA)(a5:List ig)(a6:List dD)(a7:Int)(a8:List ByteArray)(a9:cu):Stp (Int×(List (ByteArray×Int))×(List Int)) ((List (ByteArray×Int))×(List Int))
 |(v1,v2,v3)=>(bif decide (v1<a9.args.length)then((bj a9.args v1).bind λx1=>((bif (a9.op==16)then(bif decide (v1>0)then ck (cN 0 v3.length)<|(bj v3 ((0:Nat)+0:Int)).bind λx2=>some (!((x2 !=0)==(v1==1)))else some false)else some false)).bind λv4=>(bif v4 then ck (bK v3.length v3.length (sub ([0]:List Int) 0 1).length 1 8)<|iP (v3++(sub ([0]:List Int) 0 1)) λr1=>ck (az r1.length r1.length)<|some (v2,r1)else(rc a0 a1 a2 a3 a4 a5 a6 a7 a8 (cu.mk x1.op x1.n x1.s x1.key x1.args) v2).bind λr2=>ck (bK v3.length v3.length (sub ([r2.1]:List Int) 0 1).length 1 8)<|iP (v3++(sub ([r2.1]:List Int) 0 1)) λr3=>ck (az r3.length r3.length)<|some (r2.2,r3)):Option ((List (ByteArray×Int))×(List Int))).bind λ(v5,v6)=>ck (az v6.length v6.length)<|some (.inl ((i64.wrap (v1+1)),v5,v6))else ck (az v3.length v3.length)<|some (.inr (v2,v3)))
def eZ(rc:((List gH))->((List bO))->((List fC))->((List bX))->((List jA))->((List ig))->((List dD))->(Int)->((List ByteArray))->(cu)->((List (ByteArray×Int)))->Option (Int×(List (ByteArray×Int))))(a0:List gH)(a1:List bO)(a2:List fC)(a3:List bX)(a4:List jA)(a5:List ig)(a6:List dD)(a7:Int)(a8:List ByteArray)(a9:cu)(ky:List (ByteArray×Int)):Option (Int×(List (ByteArray×Int))):=
 ck (az 0 ([]:List Int).length)<|(iter (eG n rc a0 a1 a2 a3 a4 a5 a6 a7 a8 a9) n (0,ky,[])).bind λ(w1,w2)=>(bif (a9.op==0)then some (a9.n,w1)else(bif (a9.op==1)then some (((gD eb a9.s w1).getD 0),w1)else(bif (a9.op==2)then(jw n a0 a1 a2 a3 a4 a5 a6 a7 a8 (cu.mk a9.op a9.n a9.s a9.key a9.args) w1).bind λr4=>some (r4.1,r4.2)else(bif (a9.op==3)then(dQ n a8 a9.s).bind λr5=>(y9 r5).bind λr6=>some (r6,w1)else(bif (a9.op==9)then ck (cN 0 w2.length)<|(bj w2 ((0:Nat)+0:Int)).bind λx3=>some ((i64.wrap (0 -x3)),w1)else(bif (a9.op==15)then ck (cN 0 w2.length)<|(bj w2 ((0:Nat)+0:Int)).bind λx4=>(y9 (x4==0)).bind λr7=>some (r7,w1)else(bif (a9.op==16)then ck (cN 0 w2.length)<|(bj w2 ((0:Nat)+0:Int)).bind λx5=>(bif (x5 !=0)then ck (cN 1 w2.length)<|(bj w2 ((0:Nat)+1:Int)).bind λx6=>some (x6,w1)else ck (cN 2 w2.length)<|(bj w2 ((0:Nat)+2:Int)).bind λx7=>some (x7,w1))else ck (cN 0 w2.length)<|(bj w2 ((0:Nat)+0:Int)).bind λx8=>ck (cN 1 w2.length)<|(bj w2 ((0:Nat)+1:Int)).bind λx9=>(JZ a9.op x8 x9).bind λr8=>some (r8,w1))))))))
def EK(rc:((List gH))->((List bO))->((List fC))->((List bX))->((List jA))->((List ig))->((List dD))->(Int)->((List ByteArray))->(cu)->((List (ByteArray×Int)))->Option (Int×(List (ByteArray×Int)))):dE xx:=⟨[(.a [(.v (.sl (.st SI.Def))),(.v (.sl (.st SI.Table))),(.v (.sl (.st SI.Zone))),(.v (.sl (.st SI.Rule))),(.v (.sl (.st SI.Cap))),(.v (.sl (.st SI.View))),(.v (.sl (.st SI.gj))),(.v (.int .i64)),(.mp 0),(.v (.sl .str))]),(.v (.st SI.Expr))],[(0,.m .str (.int .i64))],[(.v (.int .i64))],[(0,.m .str (.int .i64))],λv=>rc (v.1) (v.2.1) (v.2.2.1) (v.2.2.2.1) (v.2.2.2.2.1) (v.2.2.2.2.2.1) (v.2.2.2.2.2.2.1) (v.2.2.2.2.2.2.2.1) (v.2.2.2.2.2.2.2.2.1) (v.2.2.2.2.2.2.2.2.2.1) (v.2.2.2.2.2.2.2.2.2.2)⟩
def jY(rc:((List gH))->((List bO))->((List fC))->((List bX))->((List jA))->((List ig))->((List dD))->(Int)->((List ByteArray))->(cu)->((List (ByteArray×Int)))->Option (Int×(List (ByteArray×Int)))):cm xx:=⟨[],[.d .bool],λ_=>none,some (EK rc)⟩
def bQ(n:Nat):Nat->((List gH))->((List bO))->((List fC))->((List bX))->((List jA))->((List ig))->((List dD))->(Int)->((List ByteArray))->(cu)->((List (ByteArray×Int)))->Option (Int×(List (ByteArray×Int)))
 | 0=>λ_ _ _ _ _ _ _ _ _ _ _=>none
 |m+1=>eZ n (bQ n m)
def fQ(a0:List gH)(a1:List bO)(a2:List fC)(a3:List bX)(a4:List jA)(a5:List ig)(a6:List dD)(a7:Int)(a8:List ByteArray)(a9:cu)(ky:List (ByteArray×Int)):Option (Int×(List (ByteArray×Int))):=bQ n n a0 a1 a2 a3 a4 a5 a6 a7 a8 a9 ky
def iV(n:Nat)(a1:List aZ):Stp (Int×(List (ByteArray×Int))×(List (ByteArray×Bool))) ((List (ByteArray×Int))×(List (ByteArray×Bool)))
 |(v1,v2,v3)=>(bif decide (v1<a1.length)then((bj a1 v1).bind λx1=>(bif (!((gD eb x1.name v3).getD false))then some ((FV eb x1.name x1.n v2),(FV eb x1.name true v3))else some (v2,v3)):Option ((List (ByteArray×Int))×(List (ByteArray×Bool)))).bind λ(v4,v5)=>some (.inl ((i64.wrap (v1+1)),v4,v5))else some (.inr (v2,v3)))
def gL(a0:bL)(a2:List ByteArray)(w2:List (ByteArray×Bool))(r1:(List Int)×(List ByteArray)×Int):Stp (Int×(List (ByteArray×Int))×(List Int)) ((List (ByteArray×Int))×(List Int))
 |(v6,v7,v8)=>(bif decide (v6<(r1.1.length:Nat))then(ck (cN v6 r1.1.length)<|(bj r1.1 ((0:Nat)+v6:Int)).bind λx2=>(bj a0.defs x2).bind λx3=>((IA n (cu.mk x3.jp x3.ml x3.lh x3.i9 x3.eQ)).bind λr2=>(bif r2 then(fQ n a0.defs a0.tables a0.zones a0.rules a0.caps a0.views a0.wc a0.hours a2 (cu.mk x3.jp x3.ml x3.lh x3.i9 x3.eQ) v7).bind λr3=>ck (cN x2 ((a0.defs.length:Int).toNat))<|(bj v8 ((0:Nat)+x2:Int)).bind λx4=>some (r3.2,(v8.set ((0:Nat)+x2:Int).toNat r3.1))else some (v7,v8)):Option ((List (ByteArray×Int))×(List Int))).bind λ(v9,v10)=>(bif (!((gD eb x3.name w2).getD false))then ck (cN x2 ((a0.defs.length:Int).toNat))<|(bj v10 ((0:Nat)+x2:Int)).bind λx5=>some ((FV eb x3.name x5 v9),v10)else some (v9,v10)):Option ((List (ByteArray×Int))×(List Int))).bind λ(v11,v12)=>some (.inl ((i64.wrap (v6+1)),v11,v12))else some (.inr (v7,v8)))
def mR(a0:bL)(a1:List aZ)(a2:List ByteArray):Option ((List gH)×(List bO)×(List fC)×(List bX)×(List jA)×(List ig)×(List dD)×Int×(List ByteArray)×(List (ByteArray×Int))×(List Int)):=
 (iter (iV n a1) n (0,([]:(List (ByteArray×Int))),([]:(List (ByteArray×Bool))))).bind λ(w1,w2)=>ck (decide ((a0.defs.length:Int)<=a0.defs.length)&&(decide (0<=(a0.defs.length:Int))&&sQ a0.defs.length 8))<|(nY n a0).bind λr1=>(bif (r1.2.2 !=0)then ck (az ((a0.defs.length:Int).toNat) (List.replicate (a0.defs.length:Int).toNat (0:Int)).length)<|some (a0.defs,a0.tables,a0.zones,a0.rules,a0.caps,a0.views,a0.wc,a0.hours,a2,w1,(List.replicate (a0.defs.length:Int).toNat 0))else(iter (gL n a0 a2 w2 r1) n (0,w1,(List.replicate (a0.defs.length:Int).toNat 0))).bind λ(w3,w4)=>ck (az ((a0.defs.length:Int).toNat) w4.length)<|some (a0.defs,a0.tables,a0.zones,a0.rules,a0.caps,a0.views,a0.wc,a0.hours,a2,w3,w4))
def Ay(a0:bL)(a1:List aZ)(a2:List ByteArray)(a3:cu):Option Int:=
 (IA n (cu.mk a3.op a3.n a3.s a3.key a3.args)).bind λr1=>(bif (!r1)then some 0 else(mR n a0 a1 a2).bind λr2=>(fQ n r2.1 r2.2.1 r2.2.2.1 r2.2.2.2.1 r2.2.2.2.2.1 r2.2.2.2.2.2.1 r2.2.2.2.2.2.2.1 r2.2.2.2.2.2.2.2.1 r2.2.2.2.2.2.2.2.2.1 (cu.mk a3.op a3.n a3.s a3.key a3.args) r2.2.2.2.2.2.2.2.2.2.1).bind λr3=>some r3.1)
def Az(a0:List ax):Stp (Bool×Int×Int×Int×Int×Int) (Bool×Int×Int×Int×Int)
 |(v1,v2,v3,v4,v5,v6)=>(bif decide (v2<a0.length)then((bj a0 v2).bind λx1=>(pI x1).bind λr1=>(bif (!r1)then some (v1,v3,v4,v5,v6)else(bif (!v1)then some (true,x1.x0,x1.y0,x1.x1,x1.y1)else some (v1,(min v3 x1.x0),(min v4 x1.y0),(max v5 x1.x1),(max v6 x1.y1)))):Option (Bool×Int×Int×Int×Int)).bind λ(v7,v8,v9,v10,v11)=>some (.inl (v7,(i64.wrap (v2+1)),v8,v9,v10,v11))else some (.inr (v1,v3,v4,v5,v6)))
def Og(a0:List ax):Option (ax×Bool):=
 (iter (Az a0) n (false,0,0,0,0,0)).bind λ(w1,w2,w3,w4,w5)=>some ((ax.mk w2 w3 w4 w5),w1)
def J2(a0:List ax):Option (ax×Bool):=
 ((bif ((a0.length:Int)==0)then some true else(lQ n a0).bind λr1=>some (!r1))).bind λv1=>(bif v1 then some ((ax.mk 0 0 0 0),false)else(Og n a0).bind λr2=>some (r2.1,r2.2))
def xR(a0:aF):Option (List gm):=
 ck (az (sub ([(ax.mk a0.bz a0.cz a0.bx a0.cy)]:List ax) 0 1).length 1)<|ck (az (sub ([(gm.mk a0.eR a0.ej (sub ([(ax.mk a0.bz a0.cz a0.bx a0.cy)]:List ax) 0 1))]:List gm) 0 1).length 1)<|some (sub ([(gm.mk a0.eR a0.ej (sub ([(ax.mk a0.bz a0.cz a0.bx a0.cy)]:List ax) 0 1))]:List gm) 0 1)
def FZ(a0:List dO)(a1:(dO×Unit)->Option Bool):Stp Int (Unit⊕Int)
 |v1=>(bif decide (v1<a0.length)then(bj a0 v1).bind λx1=>(a1 (x1,())).bind λr1=>(bif r1 then(some v1).map λa=> .inr (.inr a)else some (.inl (i64.wrap (v1+1))))else some (.inr (.inl ())))
def rW(a0:List dO)(a1:(dO×Unit)->Option Bool):Option Int:=
 dG (iter (FZ a0 a1) n 0) λ()=>some (-1)
def kQ(a0:List dO)(a1:(dO×Unit)->Option Bool):Option Bool:=
 (rW n a0 a1).bind λr1=>some (decide (r1>=0))
def nZ(a0:Int)(a1:Int)(a2:Int):Option Bool:=
 (bif decide (a1<=a0)then some (decide (a0<=a2))else some false)
def AA(a0:dO):Option Bool:=
 (nZ a0.side 0 3).bind λr1=>(bif r1 then(nZ a0.base 0 4096).bind λr2=>(bif r2 then(nZ a0.num 0 4096).bind λr3=>(bif r3 then(nZ a0.den 1 4096).bind λr4=>some r4 else some false)else some false)else some false)
def uq(a0:dO):Option Bool:=
 (AA a0).bind λr1=>some (!r1)
def AB(a0:ax)(a1:List dO):Option Bool:=
 (pI a0).bind λr1=>(bif r1 then(kQ n a1 (λ (y1:dO×Unit)=>uq y1.1)).bind λr2=>some (!r2)else some false)
def U1(a0:List ax)(a1:List ax):Option Bool:=
 (oZ n a0 a1).bind λr1=>some r1
def AJ(a0:List gm):Stp Int (Unit⊕Bool)
 |v1=>(bif decide (v1<a0.length)then dG ((bj a0 v1).bind λx1=>((bif decide (x1.z0<0)then some true else(bif decide (x1.z0>=x1.z1)then some true else(bif decide (x1.z1>4096)then some true else(bif ((x1.area.length:Int)==0)then some true else(lQ n x1.area).bind λr1=>some (!r1)))))).bind λv2=>(bif v2 then((some false).map λa=> .inr (.inr a)).map .inr else(bif (v1==0)then some (.inl ())else(bj a0 (i64.wrap (v1 -1))).bind λx2=>((bif decide (x2.z1>x1.z0)then some true else(bif (x2.z1==x1.z0)then(U1 n x2.area x1.area).bind λr2=>some r2 else some false))).bind λv3=>(bif v3 then((some false).map λa=> .inr (.inr a)).map .inr else some (.inl ())))):Option ((Unit)⊕_)) λ()=>some (.inl (i64.wrap (v1+1)))else some (.inr (.inl ())))
def IC(a0:List gm):Option Bool:=
 (bif decide ((a0.length:Int)>80)then some false else dG (iter (AJ n a0) n 0) λ()=>some true)
def xh(a0:ax)(a1:Int)(a2:Int):Option NR:=
 some (NR.mk (i64.wrap (a1 -a0.x0)) (i64.wrap ((i64.wrap (a0.x1 -1)) -a1)) (i64.wrap (a2 -a0.y0)) (i64.wrap ((i64.wrap (a0.y1 -1)) -a2)))
def uw(a0:Int)(a1:Int):Option Int:=
 ck (a1 !=0)<|(ck (a1 !=0)<|(bif decide ((Int.tmod a0 a1)<0)then some (i64.wrap ((i64.wrap (Int.tdiv a0 a1)) -1))else some (i64.wrap (Int.tdiv a0 a1))):Option Int).bind λv1=>some v1
def xS(a0:ax)(a1:List dO)(a2:Int)(a3:Int)(r1:NR):Stp (Int×Int) Int
 |(v1,v2)=>(bif decide (v2<a1.length)then(bj a1 v2).bind λx1=>ck (cN x1.side 4)<|(bj ([r1.a0,r1.a1,r1.a2,r1.a3]:List Int) x1.side).bind λx2=>(uw (i64.wrap (x1.num*x2)) x1.den).bind λr2=>some (.inl ((min v1 (i64.wrap (x1.base+r2))),(i64.wrap (v2+1))))else some (.inr v1))
def J3(a0:ax)(a1:List dO)(a2:Int)(a3:Int):Option Int:=
 (xh a0 a2 a3).bind λr1=>(iter (xS a0 a1 a2 a3 r1) n (4096,0)).bind λw1=>some w1
def oM(a0:ax)(a1:List dO)(x1:ax)(x2:Int):Stp (Int×Int) Int
 |(v5,v6)=>(bif decide (v6<(2:Nat))then ck (cN v6 2)<|(bj ([x1.y0,(i64.wrap (x1.y1 -1))]:List Int) ((0:Nat)+v6:Int)).bind λx3=>(J3 n a0 a1 x2 x3).bind λr1=>some (.inl ((min v5 r1),(i64.wrap (v6+1))))else some (.inr v5))
def oN(a0:ax)(a1:List dO)(x1:ax):Stp (Int×Int) Int
 |(v3,v4)=>(bif decide (v4<(2:Nat))then ck (cN v4 2)<|(bj ([x1.x0,(i64.wrap (x1.x1 -1))]:List Int) ((0:Nat)+v4:Int)).bind λx2=>(iter (oM n a0 a1 x1 x2) n (v3,0)).bind λw1=>some (.inl (w1,(i64.wrap (v4+1))))else some (.inr v3))
def rO(a0:ax)(a1:List dO)(a2:List ax):Stp (Int×Int) Int
 |(v1,v2)=>(bif decide (v2<a2.length)then(bj a2 v2).bind λx1=>(iter (oN n a0 a1 x1) n (v1,0)).bind λw2=>some (.inl (w2,(i64.wrap (v2+1))))else some (.inr v1))
def xU(a0:ax)(a1:List dO)(a2:List ax):Option Int:=
 (iter (rO n a0 a1 a2) n (4096,0)).bind λw3=>some w3
def rP(a0:gm)(a1:ax)(a2:List dO):Option Bool:=
 (xU n a1 a2 a0.area).bind λr1=>some (decide (r1<a0.z1))
def mh(a0:List gm)(a1:(gm×Unit)->Option Bool):Stp Int (Unit⊕Int)
 |v1=>(bif decide (v1<a0.length)then(bj a0 v1).bind λx1=>(a1 (x1,())).bind λr1=>(bif r1 then(some v1).map λa=> .inr (.inr a)else some (.inl (i64.wrap (v1+1))))else some (.inr (.inl ())))
def uy(a0:List gm)(a1:(gm×Unit)->Option Bool):Option Int:=
 dG (iter (mh a0 a1) n 0) λ()=>some (-1)
def jd(a0:List gm)(a1:(gm×Unit)->Option Bool):Option Bool:=
 (uy n a0 a1).bind λr1=>some (decide (r1>=0))
def xV(a0:ax)(a1:List dO)(a2:List gm):Option Bool:=
 ((AB n a0 a1).bind λr1=>(bif (!r1)then some true else(IC n a2).bind λr2=>some (!r2))).bind λv1=>(bif v1 then some false else(jd n a2 (λ (y1:gm×Unit)=>rP n y1.1 a0 a1)).bind λr3=>some (!r3))
def jZ(a0:aF)(a1:ax)(a2:bX):Option Bool:=
 (xR a0).bind λr1=>ck (az (sub ([(dO.mk a2.iS a2.i6 a2.kf a2.kh)]:List dO) 0 1).length 1)<|ck (az (sub r1 0 r1.length).length r1.length)<|(xV n a1 (sub ([(dO.mk a2.iS a2.i6 a2.kf a2.kh)]:List dO) 0 1) (sub r1 0 r1.length)).bind λr2=>some (!r2)
def gM(a0:mK)(a1:(aF×Unit)->Option Bool):Option Bool:=
 (fJ n a0.bk a1).bind λr1=>some r1
def j3(a0:aF)(a1:bX):Option Bool:=
 ck (decide (0<=a0.use)&&decide (a0.use<=i64.bits))<|some ((bits .and .i64 a1.uses (i64.wrap (1*2 ^ a0.use.toNat)))==0)
def dI(a0:jm)(a1:mK)(a2:aF)(a3:bX):Option Bool:=
 ((bif (a0.lot==a1.cd)then some true else(pI (ax.mk a0.eJ a0.eE a0.eI a0.eC)).bind λr1=>(bif (!r1)then some true else(bif decide (a0.fp<0)then some true else some (decide (a0.fp>=6)))))).bind λv1=>(bif v1 then some false else((bif (a2.use==a3.uses)then(bif (a0.fp==a3.other)then some true else(bif (a2.use==a3.other)then some (a0.fp==a3.uses)else some false))else(bif (a2.use==a3.other)then some (a0.fp==a3.uses)else some false))).bind λv2=>(bif v2 then(N0 (ax.mk a2.bz a2.cz a2.bx a2.cy) (ax.mk a0.eJ a0.eE a0.eI a0.eC)).bind λr2=>some (decide (r2<a3.n))else some false))
def EL(a0:List jm)(a1:(jm×Unit)->Option Bool):Stp Int (Unit⊕Int)
 |v1=>(bif decide (v1<a0.length)then(bj a0 v1).bind λx1=>(a1 (x1,())).bind λr1=>(bif r1 then(some v1).map λa=> .inr (.inr a)else some (.inl (i64.wrap (v1+1))))else some (.inr (.inl ())))
def qP(a0:List jm)(a1:(jm×Unit)->Option Bool):Option Int:=
 dG (iter (EL a0 a1) n 0) λ()=>some (-1)
def j4(a0:List jm)(a1:(jm×Unit)->Option Bool):Option Bool:=
 (qP n a0 a1).bind λr1=>some (decide (r1>=0))
def rX(a0:mK)(a1:bX)(a2:aF):Option Bool:=
 (j4 n a0.cX (λ (y1:jm×Unit)=>dI y1.1 a0 a2 a1)).bind λr1=>some r1
def j5(a0:aF)(a1:mK)(a2:bX):Option Bool:=
 (rX n a1 a2 a0).bind λr1=>some r1
def ni(a0:mK)(a1:bX):Option Bool:=
 (bif (a1.kind==0)then(jD n (bL.mk a0.cj a0.aw a0.b7 a0.aE a0.br a0.b8 a0.cw a0.b9) (fw.mk a0.tz a0.nq a0.k9 a0.pN) (aM.mk a0.cd a0.cg)).bind λr1=>ck (az (sub r1 0 r1.length).length r1.length)<|(Ay n (bL.mk a0.cj a0.aw a0.b7 a0.aE a0.br a0.b8 a0.cw a0.b9) (sub r1 0 r1.length) a0.zones (cu.mk a1.lv a1.nj a1.nh a1.ke a1.gh)).bind λr2=>some (r2==0)else(bif (a1.kind==1)then(J2 n a0.k9).bind λr3=>(gM n a0 (λ (y1:aF×Unit)=>jZ n y1.1 r3.1 a1)).bind λr4=>some r4 else(bif (a1.kind==2)then(gM n a0 (λ (y2:aF×Unit)=>j3 y2.1 a1)).bind λr5=>some r5 else(bif (a1.kind==3)then(gM n a0 (λ (y3:aF×Unit)=>j5 n y3.1 a0 a1)).bind λr6=>some r6 else some false))))
def wu(a0:ax)(a1:ax):Option Bool:=
 (bif decide ((max a1.x0 a0.x0)<(min a1.x1 a0.x1))then some (decide ((max a1.y0 a0.y0)<(min a1.y1 a0.y1)))else some false)
def IE(a0:List ax)(a1:(ax×Unit)->Option Bool):Stp Int (Unit⊕Int)
 |v1=>(bif decide (v1<a0.length)then(bj a0 v1).bind λx1=>(a1 (x1,())).bind λr1=>(bif r1 then(some v1).map λa=> .inr (.inr a)else some (.inl (i64.wrap (v1+1))))else some (.inr (.inl ())))
def uz(a0:List ax)(a1:(ax×Unit)->Option Bool):Option Int:=
 dG (iter (IE a0 a1) n 0) λ()=>some (-1)
def je(a0:List ax)(a1:(ax×Unit)->Option Bool):Option Bool:=
 (uz n a0 a1).bind λr1=>some (decide (r1>=0))
def EM(a0:ax)(a1:List ax):Option Bool:=
 (je n a1 (λ (y1:ax×Unit)=>wu y1.1 a0)).bind λr1=>some r1
def U2(a0:List ax)(a1:List ax):Option Bool:=
 (je n a0 (λ (y1:ax×Unit)=>EM n y1.1 a1)).bind λr1=>some r1
def q9(a0:gm)(a1:lg):Option Bool:=
 (bif decide (a0.z1>a1.top)then(U2 n a0.area a1.area).bind λr1=>some r1 else some false)
def wz(a0:List lg)(a1:Int)(a2:List gm):Stp Int (Unit⊕Bool)
 |v1=>(bif decide (v1<a0.length)then dG ((bj a0 v1).bind λx1=>((bif (x1.lot !=a1)then some true else(lQ n x1.area).bind λr2=>some (!r2))).bind λv2=>(bif v2 then some (.inl ())else(jd n a2 (λ (y1:gm×Unit)=>q9 n y1.1 x1)).bind λr3=>(bif r3 then((some false).map λa=> .inr (.inr a)).map .inr else some (.inl ()))):Option ((Unit)⊕_)) λ()=>some (.inl (i64.wrap (v1+1)))else some (.inr (.inl ())))
def EN(a0:List lg)(a1:Int)(a2:List gm):Option Bool:=
 (IC n a2).bind λr1=>(bif (!r1)then some false else dG (iter (wz n a0 a1 a2) n 0) λ()=>some true)
def nH(a0:aF)(a1:dX)(a2:aM):Option Bool:=
 (xR a0).bind λr1=>ck (az (sub r1 0 r1.length).length r1.length)<|(EN n a1.cE a2.lot (sub r1 0 r1.length)).bind λr2=>some (!r2)
def jK(a0:ByteArray)(a1:Bool)(a2:List ByteArray):Option (List ByteArray):=
 ((bif a1 then ck (az (sub a2 0 a2.length).length a2.length)<|(dQ n (sub a2 0 a2.length) a0).bind λr1=>some (!r1)else some false)).bind λv1=>(bif v1 then ck (bK a2.length a2.length (sub ([a0]:List ByteArray) 0 1).length 1 16)<|iP (a2++(sub ([a0]:List ByteArray) 0 1)) λr2=>ck (az r2.length r2.length)<|some r2 else ck (az a2.length a2.length)<|some a2)
def nI(a0:dX)(r1:mK×Int)(r2:List Int):Stp (Int×(List ByteArray)) (List ByteArray)
 |(v1,v2)=>(bif decide (v1<(r2.length:Nat))then ck (cN v1 r2.length)<|(bj r2 ((0:Nat)+v1:Int)).bind λx1=>(bj a0.aq x1).bind λx2=>(bj a0.aq x1).bind λx3=>(ni n r1.1 x3).bind λr3=>ck (az v2.length v2.length)<|(jK n x2.name r3 v2).bind λr4=>ck (az r4.length r4.length)<|some (.inl ((i64.wrap (v1+1)),r4))else ck (az v2.length v2.length)<|some (.inr v2))
def rf(a0:dX)(a1:aM)(a2:Int):Option ((List ByteArray)×Int):=
 (Ar n a0 a1).bind λr1=>(bif (r1.2 !=0)then some ([],r1.2)else(uo n (bL.mk a0.cC a0.ci a0.ct a0.aq a0.cM a0.cP a0.dt a0.cQ) r1.1.zones a2).bind λr2=>ck (az 0 ([]:List ByteArray).length)<|(iter (nI n a0 r1 r2) n (0,[])).bind λw1=>(gM n r1.1 (λ (y1:aF×Unit)=>nH n y1.1 a0 a1)).bind λr5=>ck (az w1.length w1.length)<|(jK n (⟨#[101,97,115,101,109,101,110,116]⟩) r5 w1).bind λr6=>ck (az (sub r6 0 r6.length).length r6.length)<|some ((sub r6 0 r6.length),0))
def mq(a0:aL)(a1:aG):Option Bool:=
 (rf n (dX.mk a1.cj a1.aw a1.b7 a1.aE a1.br a1.b8 a1.cw a1.b9 a1.df a1.cR a1.c8 a1.cX a1.ek) (aM.mk a1.cd a1.cg) a1.rule).bind λr1=>(bif (r1.2==0)then ck (az (sub r1.1 0 r1.1.length).length r1.1.length)<|(dQ n (sub r1.1 0 r1.1.length) a0.name).bind λr2=>some r2 else some false)
def jy(a0:Al)(a1:aL):Option Bool:=
 some (a0.id==(a1.n:Int))
def IG(a0:List Al)(a1:(Al×Unit)->Option Bool):Stp Int (Unit⊕Int)
 |v1=>(bif decide (v1<(a0.length:Int))then(bj a0 v1).bind λx1=>(a1 (x1,())).bind λr1=>(bif r1 then(some v1).map λa=> .inr (.inr a)else some (.inl (i64.wrap (v1+1))))else some (.inr (.inl ())))
def uD(a0:List Al)(a1:(Al×Unit)->Option Bool):Option Int:=
 dG (iter (IG a0 a1) n (0:Int)) λ()=>some ((-1):Int)
def mD(a0:aL)(a1:aG):Option Bool:=
 (uD n a1.cases (λ (y1:Al×Unit)=>jy y1.1 a0)).bind λr1=>(bif decide (r1>=0)then(bif (ByteArray.toList a0.name==ByteArray.toList (⟨#[103,114,97,110,116,101,100]⟩))then(bj a1.cases r1).bind λx1=>(bif x1.grant then some true else(bif (ByteArray.toList a0.name==ByteArray.toList (⟨#[114,101,102,117,115,101,100]⟩))then(bj a1.cases r1).bind λx2=>some (!x2.grant)else some false))else(bif (ByteArray.toList a0.name==ByteArray.toList (⟨#[114,101,102,117,115,101,100]⟩))then(bj a1.cases r1).bind λx3=>some (!x3.grant)else some false))else some false)
noncomputable def fA(n:Nat)(h:aG)(c:aL):Option Bool:=
 bif c.d6==0 then p8 c else bif c.d6==1 then lW n c h else bif c.d6==2 then mq n c h else bif c.d6==3 then mD n c h else some false
def pM(a0:aG):Stp (Int×(List Bool)) (List Bool)
 |(v1,v2)=>(bif decide (v1<(a0.claims.length:Int))then((bj a0.claims v1).bind λx1=>(bif (v1==0)then ck (cN v1 ((a0.claims.length:Int).toNat))<|(bj v2 ((0:Nat)+v1:Int)).bind λx2=>some (v2.set ((0:Nat)+v1:Int).toNat true)else(tQ n a0 x1.day).bind λr2=>(bif r2 then(vY n a0 x1.km).bind λr3=>(bif r3 then(nG n a0 x1).bind λr4=>(bif r4 then(fA n a0 x1).bind λr5=>ck (cN v1 ((a0.claims.length:Int).toNat))<|(bj v2 ((0:Nat)+v1:Int)).bind λx3=>some (v2.set ((0:Nat)+v1:Int).toNat r5)else ck (cN v1 ((a0.claims.length:Int).toNat))<|(bj v2 ((0:Nat)+v1:Int)).bind λx4=>some (v2.set ((0:Nat)+v1:Int).toNat false))else ck (cN v1 ((a0.claims.length:Int).toNat))<|(bj v2 ((0:Nat)+v1:Int)).bind λx5=>some (v2.set ((0:Nat)+v1:Int).toNat false))else ck (cN v1 ((a0.claims.length:Int).toNat))<|(bj v2 ((0:Nat)+v1:Int)).bind λx6=>some (v2.set ((0:Nat)+v1:Int).toNat false))):Option ((List Bool))).bind λv3=>some (.inl ((i64.wrap (v1+1)),v3))else some (.inr v2))
def uE(a0:aG):Option (List Bool):=
 (nE a0).bind λr1=>(bif (!r1)then some ([]:(List Bool))else ck (decide ((a0.claims.length:Int)<=(a0.claims.length:Int))&&(decide (0<=(a0.claims.length:Int))&&sQ (a0.claims.length:Int) 1))<|(iter (pM n a0) n ((0:Int),(List.replicate (a0.claims.length:Int).toNat false))).bind λw1=>ck (az (sub w1 0 ((a0.claims.length:Int).toNat)).length ((a0.claims.length:Int).toNat))<|some (sub w1 0 ((a0.claims.length:Int).toNat)))
def Xw(a0:List aL)(x1:aL):Stp (Int×Int) (Unit⊕(Int⊕(Unit⊕Bool)))
 |(v2,v3)=>(bif decide (v3<(x1.attacks.length:Int))then(bj x1.attacks v3).bind λx2=>((bif decide (x2<=(v2:Int))then some true else some (decide (x2>=(a0.length:Int))))).bind λv4=>(bif v4 then((some false).map λa=> .inr (.inr a)).map λa=> .inr (.inr a)else some (.inl (x2,(i64.wrap (v3+1)))))else some (.inr (.inl ())))
def Xx(a0:List aL):Stp Int (Unit⊕Bool)
 |v1=>(bif decide (v1<(a0.length:Int))then(bj a0 v1).bind λx1=>dG (iter (Xw a0 x1) n (((-1):Int),(0:Int))) λ()=>some (.inl (i64.wrap (v1+1)))else some (.inr (.inl ())))
def Sz(a0:List aL):Option Bool:=
 dG (iter (Xx n a0) n (0:Int)) λ()=>some (decide ((a0.length:Int)<=300))
noncomputable def wB(a0:List aL):Option (List (List Int)):=ck (decide (a0.length<=1000000)&&(a0.all λc=>decide (c.attacks.length<=1000000)&&c.attacks.all λk=>decide (0<=k)&&decide (k<(a0.length:Int))))<|some (pb (a0.map (·.attacks)) a0.length)
def Oh(a0:List aL)(r2:List (List Int)):Stp (Int×(List Int)×(List Int)) ((List Int)×(List Int))
 |(v1,v2,v3)=>(bif decide (v1<(a0.length:Int))then((bj r2 v1).bind λx1=>ck (cN v1 ((a0.length:Int).toNat))<|(bj v2 ((0:Nat)+v1:Int)).bind λx2=>ck (cN v1 ((a0.length:Int).toNat))<|(bj (v2.set ((0:Nat)+v1:Int).toNat (x1.length:Int)) ((0:Nat)+v1:Int)).bind λx3=>(bif (x3==0)then ck (bK v3.length v3.length (sub ([v1]:List Int) 0 1).length 1 8)<|iP (v3++(sub ([v1]:List Int) 0 1)) λr3=>ck (az r3.length r3.length)<|some ((v2.set ((0:Nat)+v1:Int).toNat (x1.length:Int)),r3)else ck (az v3.length v3.length)<|some ((v2.set ((0:Nat)+v1:Int).toNat (x1.length:Int)),v3)):Option ((List Int)×(List Int))).bind λ(v4,v5)=>ck (az v5.length v5.length)<|some (.inl ((i64.wrap (v1+1)),v4,v5))else ck (az v3.length v3.length)<|some (.inr (v2,v3)))
def Oi(a0:List aL)(v6:Int)(v10:List Int):Stp (Int×(List Int)×(List Int)) ((List Int)×(List Int))
 |(v11,v12,v13)=>(bif decide (v11<(v10.length:Int))then ck (cN v11 v10.length)<|(bj v10 ((0:Nat)+v11:Int)).bind λx4=>ck (cN x4 ((a0.length:Int).toNat))<|(bj v12 ((0:Nat)+x4:Int)).bind λx5=>ck (cN x4 ((a0.length:Int).toNat))<|(bj v13 ((0:Nat)+x4:Int)).bind λx6=>some (.inl ((i64.wrap (v11+1)),(v12.set ((0:Nat)+x4:Int).toNat 1),(v13.set ((0:Nat)+x4:Int).toNat v6)))else some (.inr (v12,v13)))
def Oj(a0:List aL)(v6:Int)(x8:aL):Stp (Int×(List Int)×(List Int)×(List Int)) ((List Int)×(List Int)×(List Int))
 |(v18,v19,v20,v21)=>(bif decide (v18<(x8.attacks.length:Int))then((bj x8.attacks v18).bind λx9=>ck (cN x9 ((a0.length:Int).toNat))<|(bj v19 ((0:Nat)+x9:Int)).bind λx10=>(bif (x10==0)then ck (cN x9 ((a0.length:Int).toNat))<|(bj v19 ((0:Nat)+x9:Int)).bind λx11=>ck (cN x9 ((a0.length:Int).toNat))<|(bj v20 ((0:Nat)+x9:Int)).bind λx12=>ck (bK v21.length v21.length (sub ([x9]:List Int) 0 1).length 1 8)<|iP (v21++(sub ([x9]:List Int) 0 1)) λr4=>ck (az r4.length r4.length)<|some ((v19.set ((0:Nat)+x9:Int).toNat 2),(v20.set ((0:Nat)+x9:Int).toNat (i64.wrap (v6+1))),r4)else ck (az v21.length v21.length)<|some (v19,v20,v21)):Option ((List Int)×(List Int)×(List Int))).bind λ(v22,v23,v24)=>ck (az v24.length v24.length)<|some (.inl ((i64.wrap (v18+1)),v22,v23,v24))else ck (az v21.length v21.length)<|some (.inr (v19,v20,v21)))
def Ol(a0:List aL)(v6:Int)(v10:List Int):Stp (Int×(List Int)×(List Int)×(List Int)) ((List Int)×(List Int)×(List Int))
 |(v14,v15,v16,v17)=>(bif decide (v14<(v10.length:Int))then ck (cN v14 v10.length)<|(bj v10 ((0:Nat)+v14:Int)).bind λx7=>(bj a0 x7).bind λx8=>ck (az v17.length v17.length)<|(iter (Oj a0 v6 x8) n ((0:Int),v15,v16,v17)).bind λ(w5,w6,w7)=>ck (az w7.length w7.length)<|some (.inl ((i64.wrap (v14+1)),w5,w6,w7))else ck (az v17.length v17.length)<|some (.inr (v15,v16,v17)))
def Om(a0:List aL)(w8:List Int)(Of:aL):Stp (Int×(List Int)×(List Int)) ((List Int)×(List Int))
 |(v28,v29,v30)=>(bif decide (v28<(Of.attacks.length:Int))then((bj Of.attacks v28).bind λur=>ck (cN ur ((a0.length:Int).toNat))<|(bj v29 ((0:Nat)+ur:Int)).bind λTC=>ck (cN ur ((a0.length:Int).toNat))<|(bj v29 ((0:Nat)+ur:Int)).bind λx17=>(ck (cN ur ((a0.length:Int).toNat))<|(bj (v29.set ((0:Nat)+ur:Int).toNat (i64.wrap (TC -1))) ((0:Nat)+ur:Int)).bind λx18=>(bif (x18==0)then ck (cN ur ((a0.length:Int).toNat))<|(bj w8 ((0:Nat)+ur:Int)).bind λx19=>some (x19==0)else some false)).bind λv31=>(bif v31 then ck (bK v30.length v30.length (sub ([ur]:List Int) 0 1).length 1 8)<|iP (v30++(sub ([ur]:List Int) 0 1)) λr5=>ck (az r5.length r5.length)<|some ((v29.set ((0:Nat)+ur:Int).toNat (i64.wrap (TC -1))),r5)else ck (az v30.length v30.length)<|some ((v29.set ((0:Nat)+ur:Int).toNat (i64.wrap (TC -1))),v30)):Option ((List Int)×(List Int))).bind λ(v32,v33)=>ck (az v33.length v33.length)<|some (.inl ((i64.wrap (v28+1)),v32,v33))else ck (az v30.length v30.length)<|some (.inr (v29,v30)))
def Oo(a0:List aL)(w8:List Int)(ut:List Int):Stp (Int×(List Int)×(List Int)) ((List Int)×(List Int))
 |(v25,v26,v27)=>(bif decide (v25<(ut.length:Int))then ck (cN v25 ut.length)<|(bj ut ((0:Nat)+v25:Int)).bind λx13=>(bj a0 x13).bind λOf=>ck (az v27.length v27.length)<|(iter (Om a0 w8 Of) n ((0:Int),v26,v27)).bind λ(xF,HT)=>ck (az HT.length HT.length)<|some (.inl ((i64.wrap (v25+1)),xF,HT))else ck (az v27.length v27.length)<|some (.inr (v26,v27)))
def Oq(a0:List aL):Stp (Int×(List Int)×(List Int)×(List Int)×(List Int)) ((List Int)×(List Int))
 |(v6,v7,v8,v9,v10)=>(bif decide ((v10.length:Int)>0)then(iter (Oi a0 v6 v10) n ((0:Int),v7,v8)).bind λ(w3,w4)=>ck (az 0 ([]:List Int).length)<|(iter (Ol n a0 v6 v10) n ((0:Int),w3,w4,([]:List Int))).bind λ(w8,w9,ut)=>ck (az 0 ([]:List Int).length)<|(iter (Oo n a0 w8 ut) n ((0:Int),v9,([]:List Int))).bind λ(TO,HS)=>ck (az HS.length HS.length)<|some (.inl ((i64.wrap (v6+2)),w8,w9,TO,HS))else some (.inr (v7,v8)))
def za(a0:List aL):Option ((List Int)×(List Int)×Int):=
 (Sz n a0).bind λr1=>(bif (!r1)then some (([]:(List Int)),([]:(List Int)),(1:Int))else(wB a0).bind λr2=>ck (decide ((a0.length:Int)<=(a0.length:Int))&&(decide (0<=(a0.length:Int))&&sQ (a0.length:Int) 8))<|ck (decide ((a0.length:Int)<=(a0.length:Int))&&(decide (0<=(a0.length:Int))&&sQ (a0.length:Int) 8))<|ck (decide ((a0.length:Int)<=(a0.length:Int))&&(decide (0<=(a0.length:Int))&&sQ (a0.length:Int) 8))<|ck (az 0 ([]:List Int).length)<|(iter (Oh a0 r2) n ((0:Int),(List.replicate (a0.length:Int).toNat (0:Int)),([]:List Int))).bind λ(w1,w2)=>ck (az w2.length w2.length)<|(iter (Oq n a0) n ((1:Int),(List.replicate (a0.length:Int).toNat (0:Int)),(List.replicate (a0.length:Int).toNat (0:Int)),w1,w2)).bind λ(On,w16)=>ck (az (sub On 0 ((a0.length:Int).toNat)).length ((a0.length:Int).toNat))<|ck (az (sub w16 0 ((a0.length:Int).toNat)).length ((a0.length:Int).toNat))<|some ((sub On 0 ((a0.length:Int).toNat)),(sub w16 0 ((a0.length:Int).toNat)),(0:Int)))
def zb(a0:aG)(r2:List Bool):Stp (Int×(List aL)) (List aL)
 |(v1,v2)=>(bif decide (v1<(a0.claims.length:Int))then((bj a0.claims v1).bind λx1=>(ck (cN v1 r2.length)<|(bj r2 ((0:Nat)+v1:Int)).bind λx2=>(bif x2 then(fG n x1.attacks (((r2.length:Int).toNat:Nat):Int)).bind λr3=>some r3 else some false)).bind λv3=>(bif v3 then ck (cN v1 ((r2.length:Int).toNat))<|(bj v2 ((0:Nat)+v1:Int)).bind λx3=>some (v2.set ((0:Nat)+v1:Int).toNat (aL.mk x3.km x3.day x1.attacks x3.d6 x3.name x3.n))else some v2):Option ((List aL))).bind λv4=>some (.inl ((i64.wrap (v1+1)),v4))else some (.inr v2))
def ze(r2:List Bool)(r4:(List Int)×(List Int)×Int):Stp (Int×(List Int)) (List Int)
 |(v5,v6)=>(bif decide (v5<(r2.length:Int))then(ck (cN v5 r2.length)<|(bj r2 ((0:Nat)+v5:Int)).bind λx4=>(bif (!x4)then ck (cN v5 r4.1.length)<|(bj v6 ((0:Nat)+v5:Int)).bind λx5=>some (v6.set ((0:Nat)+v5:Int).toNat 2)else some v6):Option ((List Int))).bind λv7=>some (.inl ((i64.wrap (v5+1)),v7))else some (.inr v6))
def rQ(a0:aG):Option ((List Int)×Bool):=
 (nE a0).bind λr1=>(bif (!r1)then some (([]:(List Int)),false)else(uE n a0).bind λr2=>ck (decide ((r2.length:Int)<=(r2.length:Int))&&(decide (0<=(r2.length:Int))&&sQ (r2.length:Int) 72))<|(iter (zb n a0 r2) n ((0:Int),(List.replicate (r2.length:Int).toNat (aL.mk 0 0 ([]) 0 (⟨#[]⟩) 0)))).bind λw1=>ck (az (sub w1 0 ((r2.length:Int).toNat)).length ((r2.length:Int).toNat))<|(za n (sub w1 0 ((r2.length:Int).toNat))).bind λr4=>(iter (ze r2 r4) n ((0:Int),r4.1)).bind λw2=>ck (cN 0 r4.1.length)<|(bj w2 ((0:Nat)+0:Int)).bind λx6=>ck (az (sub w2 0 r4.1.length).length r4.1.length)<|some ((sub w2 0 r4.1.length),(x6==1)))
def Tq(a0:List Int)(a1:List Int):Stp Int (Unit⊕Bool)
 |v1=>(bif decide (v1<(a0.length:Int))then(bj a0 v1).bind λx1=>(bj a1 v1).bind λx2=>(bif (x1 !=(x2:Int))then(some false).map λa=> .inr (.inr a)else some (.inl (i64.wrap (v1+1))))else some (.inr (.inl ())))
def xW(a0:List Int)(a1:List Int):Option Bool:=
 (bif ((a0.length:Int) !=(a1.length:Int))then some false else dG (iter (Tq a0 a1) n (0:Int)) λ()=>some true)
def uF(a0:aG)(a1:List Int)(a2:Bool):Option Bool:=
 (rQ n a0).bind λr1=>ck (az (sub r1.1 0 r1.1.length).length r1.1.length)<|(xW n (sub r1.1 0 r1.1.length) a1).bind λr2=>(bif r2 then some (r1.2==a2)else some false)
def J4:Option Bool:=
 (sH 9 12).bind λr1=>ck (bK ([]:List aL).length 0 r1.claims.length r1.claims.length 72)<|iP (([]:List aL)++r1.claims) λr2=>ck (az (sub ([1]:List Int) 0 1).length 1)<|ck (bK r2.length r2.length (sub ([(aL.mk 7 12 (sub ([1]:List Int) 0 1) 0 (⟨#[]⟩) 0)]:List aL) 0 1).length 1 72)<|iP (r2++(sub ([(aL.mk 7 12 (sub ([1]:List Int) 0 1) 0 (⟨#[]⟩) 0)]:List aL) 0 1)) λr3=>(gJ n r1).bind λr4=>(ck (az (sub ([2,1]:List Int) 0 2).length 2)<|(uF n r1 (sub ([2,1]:List Int) 0 2) false).bind λr5=>(bif r5 then(sH 8 12).bind λr6=>ck (az (sub ([1,2]:List Int) 0 2).length 2)<|(uF n r6 (sub ([1,2]:List Int) 0 2) true).bind λr7=>(bif r7 then(sH 9 18).bind λr8=>ck (az (sub ([1,2]:List Int) 0 2).length 2)<|(uF n r8 (sub ([1,2]:List Int) 0 2) true).bind λr9=>some r9 else some false)else some false)).bind λv1=>(bif v1 then(bif (r4.1==17)then(bif (r4.2==0)then ck (az (sub r3 0 r3.length).length r3.length)<|ck (az (sub ([1,2,1]:List Int) 0 3).length 3)<|(uF n (aG.mk r1.cj r1.aw r1.b7 r1.aE r1.br r1.b8 r1.cw r1.b9 r1.df r1.cR r1.c8 r1.cX r1.ek r1.cd r1.cg r1.rule r1.ix r1.gz r1.eV r1.stays r1.cases (sub r3 0 r3.length)) (sub ([1,2,1]:List Int) 0 3) true).bind λvu=>(bif vu then(sH 9 17).bind λso=>ck (az (sub ([2,1]:List Int) 0 2).length 2)<|(uF n so (sub ([2,1]:List Int) 0 2) false).bind λB3=>some B3 else some false)else some false)else some false)else some false)
def LP(a0:dX):Stp Int (Unit⊕Bool)
 |v2=>(bif decide (v2<a0.aq.length)then((bj a0.aq v2).bind λx1=>(bif decide ((x1.zones.length:Int)>5)then some true else(bj a0.aq v2).bind λx2=>some (decide ((x2.except.length:Int)>5)))).bind λv3=>(bif v3 then(some false).map λa=> .inr (.inr a)else some (.inl (i64.wrap (v2+1))))else some (.inr (.inl ())))
def LQ(a0:dX):Stp Int (Unit⊕Bool)
 |v4=>(bif decide (v4<a0.land.length)then(bj a0.land v4).bind λx3=>(bif decide ((x3.area.length:Int)>10)then(some false).map λa=> .inr (.inr a)else some (.inl (i64.wrap (v4+1))))else some (.inr (.inl ())))
def LU(a0:dX):Stp Int (Unit⊕Bool)
 |v5=>(bif decide (v5<a0.cE.length)then(bj a0.cE v5).bind λx4=>(bif decide ((x4.area.length:Int)>10)then(some false).map λa=> .inr (.inr a)else some (.inl (i64.wrap (v5+1))))else some (.inr (.inl ())))
def U3(a0:dX):Option Bool:=
 ((bif decide ((a0.aq.length:Int)>10)then some true else(bif decide ((a0.ct.length:Int)>6)then some true else(bif decide ((a0.cC.length:Int)>20)then some true else(bif decide ((a0.ci.length:Int)>20)then some true else(bif decide ((a0.land.length:Int)>5)then some true else(bif decide ((a0.cE.length:Int)>5)then some true else some (decide ((a0.built.length:Int)>6))))))))).bind λv1=>(bif v1 then some false else dG (iter (LP a0) n 0) λ()=>dG (iter (LQ a0) n 0) λ()=>dG (iter (LU a0) n 0) λ()=>some true)
def og(a0:List aM)(v1:Int):Stp Int (Unit⊕(Int⊕(Unit⊕Bool)))
 |v2=>(bj a0 v1).bind λx1=>(bif decide (v2<(x1.phases.length:Int))then((bj a0 v1).bind λx2=>(bj x2.phases v2).bind λx3=>(bif decide ((x3.bk.length:Int)>12)then some true else(bj a0 v1).bind λx4=>(bj x4.phases v2).bind λx5=>some (decide ((x5.gives.length:Int)>6)))).bind λv3=>(bif v3 then((some false).map λa=> .inr (.inr a)).map λa=> .inr (.inr a)else some (.inl (i64.wrap (v2+1))))else some (.inr (.inl ())))
def kJ(a0:List aM):Stp Int (Unit⊕Bool)
 |v1=>(bif decide (v1<(a0.length:Int))then dG (iter (og a0 v1) n (0:Int)) λ()=>(bj a0 v1).bind λx6=>(bif decide ((x6.phases.length:Int)>9)then(some false).map λa=> .inr (.inr a)else some (.inl (i64.wrap (v1+1))))else some (.inr (.inl ())))
def oO(a0:List aM):Option Bool:=
 dG (iter (kJ n a0) n (0:Int)) λ()=>some (decide ((a0.length:Int)<=9))
def Xy(a2:List P0):Stp Int (Unit⊕Bool)
 |v1=>(bif decide (v1<(a2.length:Int))then(bj a2 v1).bind λx1=>(oO n x1.i8).bind λr1=>(bif (!r1)then(some false).map λa=> .inr (.inr a)else some (.inl (i64.wrap (v1+1))))else some (.inr (.inl ())))
def U4(a0:bL)(a1:Iu)(a2:List P0):Option Bool:=
 dG (iter (Xy n a2) n (0:Int)) λ()=>(bif decide ((a0.rules.length:Int)<=20)then(bif decide ((a2.length:Int)<=14)then(oO n a1.i8).bind λr2=>some r2 else some false)else some false)
def AL(rc:(cu)->Option Int)(a0:cu):Stp (Int×Int) Int
 |(v1,v2)=>(bif decide (v2<a0.args.length)then(bj a0.args v2).bind λx1=>(rc x1).bind λr1=>some (.inl ((i64.wrap (v1+r1)),(i64.wrap (v2+1))))else some (.inr v1))
def LV(rc:(cu)->Option Int)(a0:cu):Option Int:=
 (iter (AL rc a0) n (1,0)).bind λw1=>some w1
def II(rc:(cu)->Option Int):cm xx:=⟨[.d (.st SI.Expr)],[.d (.int .i64)],λa=>rc a.1,none⟩
def vN(n:Nat):Nat->(cu)->Option Int
 | 0=>λ_=>none
 |m+1=>LV n (vN n m)
def IJ(a0:cu):Option Int:=vN n n a0
def EO(a0:bL):Stp Int (Unit⊕Bool)
 |v2=>(bif decide (v2<(a0.defs.length:Int))then((bj a0.defs v2).bind λx1=>(IJ n (cu.mk x1.jp x1.ml x1.lh x1.i9 x1.eQ)).bind λr1=>(bif decide (r1>60)then some true else(bj a0.defs v2).bind λx2=>some (decide ((x2.name.size:Int)>100)))).bind λv3=>(bif v3 then(some false).map λa=> .inr (.inr a)else some (.inl (i64.wrap (v2+1))))else some (.inr (.inl ())))
def EP(a0:bL):Stp Int (Unit⊕Bool)
 |v4=>(bif decide (v4<(a0.rules.length:Int))then(bj a0.rules v4).bind λx3=>(IJ n (cu.mk x3.lv x3.nj x3.nh x3.ke x3.gh)).bind λr2=>(bif decide (r2>60)then(some false).map λa=> .inr (.inr a)else some (.inl (i64.wrap (v4+1))))else some (.inr (.inl ())))
def U5(a0:bL):Option Bool:=
 ((bif decide ((a0.defs.length:Int)>20)then some true else some (decide ((a0.rules.length:Int)>20)))).bind λv1=>(bif v1 then some false else dG (iter (EO n a0) n (0:Int)) λ()=>dG (iter (EP n a0) n (0:Int)) λ()=>some true)
def EQ(a0:aG):Stp Int (Unit⊕Bool)
 |v2=>(bif decide (v2<(a0.claims.length:Int))then(bj a0.claims v2).bind λx1=>(bif decide ((x1.attacks.length:Int)>14)then(some false).map λa=> .inr (.inr a)else some (.inl (i64.wrap (v2+1))))else some (.inr (.inl ())))
def ER(a0:aG):Stp Int (Unit⊕Bool)
 |v3=>(bif decide (v3<(a0.aw.length:Int))then(bj a0.aw v3).bind λx2=>(bif decide ((x2.rows.length:Int)>10)then(some false).map λa=> .inr (.inr a)else some (.inl (i64.wrap (v3+1))))else some (.inr (.inl ())))
def U6(a0:aG):Option Bool:=
 ((U3 n (dX.mk a0.cj a0.aw a0.b7 a0.aE a0.br a0.b8 a0.cw a0.b9 a0.df a0.cR a0.c8 a0.cX a0.ek)).bind λr1=>(bif (!r1)then some true else ck (az (sub ([(aM.mk a0.cd a0.cg)]:List aM) 0 1).length 1)<|(U4 n (bL.mk ([]) ([]) ([]) ([]) ([]) ([]) ([]) 0) (Iu.mk 0 0 0 0 0 (sub ([(aM.mk a0.cd a0.cg)]:List aM) 0 1) 0 0) ([])).bind λr2=>(bif (!r2)then some true else(bif decide ((a0.eV.length:Int)>20)then some true else(bif decide ((a0.stays.length:Int)>8)then some true else(bif decide ((a0.cases.length:Int)>12)then some true else(bif decide ((a0.claims.length:Int)>14)then some true else(U5 n (bL.mk a0.cj a0.aw a0.b7 a0.aE a0.br a0.b8 a0.cw a0.b9)).bind λr3=>some (!r3)))))))).bind λv1=>(bif v1 then some false else dG (iter (EQ a0) n (0:Int)) λ()=>dG (iter (ER a0) n (0:Int)) λ()=>some true)
def jL(a0:aG)(a2:Int)(r3:fw×Bool)(r4:List aZ):Stp Int (Unit⊕Bool)
 |v1=>(bif decide (v1<(r4.length:Int))then ck (cN v1 r4.length)<|(bj r4 ((0:Nat)+v1:Int)).bind λx1=>ck (cN v1 r4.length)<|(bj r4 ((0:Nat)+v1:Int)).bind λx2=>((fA n a0 (aL.mk 0 0 ([]) 1 x1.name x2.n)).bind λr5=>(bif (!(r5==r3.2))then some true else(fA n a0 (aL.mk 0 0 ([]) 1 x1.name a2)).bind λr6=>(bif r3.2 then ck (cN v1 r4.length)<|(bj r4 ((0:Nat)+v1:Int)).bind λx3=>some (!(r6==(a2==(x3.n:Int))))else some (!(r6==false))))).bind λv2=>(bif v2 then(some false).map λa=> .inr (.inr a)else some (.inl (i64.wrap (v1+1))))else some (.inr (.inl ())))
def jM(a0:aG)(a1:ByteArray)(a2:Int)(r7:(List ByteArray)×Int):Stp (Bool×Int) (Bool⊕Bool)
 |(v3,v4)=>(bif decide (v4<(r7.1.length:Int))then((bif v3 then some true else ck (cN v4 r7.1.length)<|(bj r7.1 ((0:Nat)+v4:Int)).bind λx4=>(bif (ByteArray.toList x4==ByteArray.toList a1)then some (r7.2==0)else some false))).bind λv5=>((bif (r7.2==0)then ck (cN v4 r7.1.length)<|(bj r7.1 ((0:Nat)+v4:Int)).bind λx5=>(fA n a0 (aL.mk 0 0 ([]) 2 x5 a2)).bind λr8=>some (!r8)else some false)).bind λv6=>(bif v6 then(some false).map λa=> .inr (.inr a)else some (.inl (v5,(i64.wrap (v4+1)))))else some (.inr (.inl v3)))
def eY(a0:aG)(a2:Int):Stp (Int×Int) Int
 |(v7,v8)=>((bif decide (v8<(a0.cases.length:Int))then some (decide (v7<0))else some false)).bind λv9=>(bif v9 then((bj a0.cases v8).bind λx6=>(bif (x6.id==(a2:Int))then some v8 else some v7):Option Int).bind λv10=>some (.inl (v10,(i64.wrap (v8+1))))else some (.inr v7))
def qD(a0:aG)(a1:ByteArray)(a2:Int):Option Bool:=
 (J4 n).bind λr1=>(U6 n a0).bind λr2=>(bif (!r2)then some r1 else(pG n a0.df a0.cd).bind λr3=>(jD n (bL.mk a0.cj a0.aw a0.b7 a0.aE a0.br a0.b8 a0.cw a0.b9) r3.1 (aM.mk a0.cd a0.cg)).bind λr4=>dG (iter (jL n a0 a2 r3 r4) n (0:Int)) λ()=>(rf n (dX.mk a0.cj a0.aw a0.b7 a0.aE a0.br a0.b8 a0.cw a0.b9 a0.df a0.cR a0.c8 a0.cX a0.ek) (aM.mk a0.cd a0.cg) a0.rule).bind λr7=>dG (iter (jM n a0 a1 a2 r7) n (false,(0:Int))) λw1=>(iter (eY a0 a2) n (((-1):Int),(0:Int))).bind λw2=>(fA n a0 (aL.mk 0 0 ([]) 3 (⟨#[103,114,97,110,116,101,100]⟩) a2)).bind λr9=>(fA n a0 (aL.mk 0 0 ([]) 3 (⟨#[114,101,102,117,115,101,100]⟩) a2)).bind λvu=>((bif decide (w2<0)then(bif r9 then some true else(bif vu then some true else(bif decide (w2>=0)then(bif (r9==vu)then some true else(bj a0.cases (max w2 (0:Int))).bind λx7=>some (!(r9==x7.grant)))else some false)))else(bif decide (w2>=0)then(bif (r9==vu)then some true else(bj a0.cases (max w2 (0:Int))).bind λx8=>some (!(r9==x8.grant)))else some false))).bind λv11=>(bif v11 then some false else(bif r1 then(fA n a0 (aL.mk 0 0 ([]) 2 a1 0)).bind λso=>(bif (so==w1)then(fA n a0 (aL.mk 0 0 ([]) 0 a1 a2)).bind λB3=>(bif B3 then(fA n a0 (aL.mk 0 0 ([]) 4 a1 a2)).bind λtd=>some (!td)else some false)else some false)else some false)))
end
end Go.Proofs
