import Derived.Test.YtknmfellccjagaaGreatTBase
open Go.IntKind (i64)
namespace Go.Proofs
open Go.Gb Go.RowKit
noncomputable section
variable (n:Nat)
def abJ(a0:ByteArray)(a1:Int):J dw:=
 ck (aE (sub ([(bZ.mk 1 0 a0 (⟨#[]⟩) ([])),(bZ.mk 0 a1 (⟨#[]⟩) (⟨#[]⟩) ([]))]:U bZ) 0 2).length 2)<|some (dw.mk (⟨#[114]⟩) ([]) ([]) 0 0 0 false 0 12 0 (⟨#[]⟩) (⟨#[]⟩) (sub ([(bZ.mk 1 0 a0 (⟨#[]⟩) ([])),(bZ.mk 0 a1 (⟨#[]⟩) (⟨#[]⟩) ([]))]:U bZ) 0 2) 0 0 0 0 0 0 0)
def zF(a0:Int):J (gL×aG):=
 ck (aE (sub ([(ax.mk 0 0 9 9)]:U ax) 0 1).length 1)<|(abJ (⟨#[104,101,105,103,104,116]⟩) a0).bind λr1=>ck (aE (sub ([(ay.mk 1 1 5 6 0 10 1 0 false)]:U ay) 0 1).length 1)<|ck (aE (sub ([r1]:U dw) 0 1).length 1)<|ck (aE (sub ([(j5.mk 1 0 (sub ([(ax.mk 0 0 9 9)]:U ax) 0 1) ([]))]:U j5) 0 1).length 1)<|ck (aE (sub ([(dF.mk (sub ([(ay.mk 1 1 5 6 0 10 1 0 false)]:U ay) 0 1) ([]))]:U dF) 0 1).length 1)<|some ((gL.mk ([]) ([]) ([]) (sub ([r1]:U dw) 0 1) ([]) ([]) ([]) 0 (sub ([(j5.mk 1 0 (sub ([(ax.mk 0 0 9 9)]:U ax) 0 1) ([]))]:U j5) 0 1) ([]) ([]) ([]) ([])),(aG.mk 1 (sub ([(dF.mk (sub ([(ay.mk 1 1 5 6 0 10 1 0 false)]:U ay) 0 1) ([]))]:U dF) 0 1)))
def BR(a0:U ax):J (List ax):=
 (bif a0.isEmpty then(both (some []) (ck (bR ([]:U ax).length 0 a0.length a0.length 32)<|jm ([]++a0) λr1=>ck (aE (sub r1 0 r1.length).length r1.length)<|some (sub r1 0 r1.length)))else ck (bR ([]:U ax).length 0 a0.length a0.length 32)<|jm ([]++a0) λr2=>ck (aE (sub r2 0 r2.length).length r2.length)<|some (sub r2 0 r2.length))
def uG(a0:U Int):J (List Int):=
 (bif a0.isEmpty then(both (some []) (ck (bR ([]:U Int).length 0 a0.length a0.length 8)<|jm ([]++a0) λr1=>ck (aE (sub r1 0 r1.length).length r1.length)<|some (sub r1 0 r1.length)))else ck (bR ([]:U Int).length 0 a0.length a0.length 8)<|jm ([]++a0) λr2=>ck (aE (sub r2 0 r2.length).length r2.length)<|some (sub r2 0 r2.length))
def Oh(a0:j5):J j5:=
 (BR a0.area).bind λr1=>(uG a0.from_).bind λr2=>ck (aE (sub r1 0 r1.length).length r1.length)<|ck (aE (sub r2 0 r2.length).length r2.length)<|some (j5.mk a0.id a0.owner (sub r1 0 r1.length) (sub r2 0 r2.length))
def Ff(a0:U j5)(a1:Int):Stp Int (Unit⊕(j5×Bool))
 |v1=>(bif decide (v1<a0.length)then(bu a0 v1).bind λx1=>(bif (x1.id==a1)then(Oh x1).bind λr1=>(some (r1,true)).map λa=>.inr (.inr a)else some (.inl (i64.wrap (v1+1))))else some (.inr (.inl ())))
def Oi(a0:U j5)(a1:Int):J (j5×Bool):=
 dM (iter (Ff a0 a1) n 0) λ()=>some ((j5.mk 0 0 ([]) ([])),false)
def oF(a0:aG)(a1:Int)(a2:Int):Stp (Int×(List ay)) (List ay)
 |(v1,v2)=>(bif decide (v1<a0.phases.length)then((bu a0.phases v1).bind λx1=>((bif decide (v1>=a1)then some (decide (v1<a2))else some false)).bind λv3=>(bif v3 then ck (bR v2.length v2.length x1.az.length x1.az.length 72)<|jm (v2++x1.az) λr1=>ck (aE r1.length r1.length)<|some r1 else ck (aE v2.length v2.length)<|some v2):J ((List ay))).bind λv4=>ck (aE v4.length v4.length)<|some (.inl ((i64.wrap (v1+1)),v4))else ck (aE v2.length v2.length)<|some (.inr v2))
def lY(a0:aG)(a1:Int)(a2:Int):J (List ay):=
 ck (aE 0 ([]:U ay).length)<|(iter (oF a0 a1 a2) n (0,[])).bind λw1=>ck (aE (sub w1 0 w1.length).length w1.length)<|some (sub w1 0 w1.length)
def xu(a0:aG):J (List ay):=
 (lY n a0 0 a0.phases.length).bind λr1=>ck (aE (sub r1 0 r1.length).length r1.length)<|some (sub r1 0 r1.length)
def nJ(a0:ax):J Bool:=
 (bif decide (0<=a0.x0)then(bif decide (a0.x0<a0.x1)then(bif decide (a0.x1<=1048576)then(bif decide (0<=a0.y0)then(bif decide (a0.y0<a0.y1)then some (decide (a0.y1<=1048576))else some false)else some false)else some false)else some false)else some false)
def fV(a0:ay):J Bool:=
 ((nJ (ax.mk a0.bj a0.bo a0.be a0.bk)).bind λr1=>(bif (!r1)then some true else(bif decide (a0.ca<0)then some true else(bif decide (a0.ca>=a0.cg)then some true else some (decide (a0.cg>4096)))))).bind λv1=>(bif v1 then some false else((bif (a0.use !=0)then some (a0.units !=0)else some false)).bind λv2=>(bif v2 then some false else(bif decide (a0.use>=0)then(bif decide (a0.use<6)then(bif decide (a0.units>=0)then some (decide (a0.units<=1048576))else some false)else some false)else some false)))
def zk(a0:ax):J (ax×Bool):=
 (nJ a0).bind λr1=>(bif r1 then some (a0,true)else some ((ax.mk 0 0 0 0),false))
def tV(a0:ax)(a1:ax):J (ax×Bool):=
 ((nJ a0).bind λr1=>(bif (!r1)then some true else(nJ a1).bind λr2=>some (!r2))).bind λv1=>(bif v1 then some ((ax.mk 0 0 0 0),false)else(zk (ax.mk (max a0.x0 a1.x0) (max a0.y0 a1.y0) (min a0.x1 a1.x1) (min a0.y1 a1.y1))).bind λr3=>some (r3.1,r3.2))
def uH(a0:qf)(a1:qf):J Bool:=
 (tV (ax.mk a0.ga a0.fX a0.fY a0.fW) (ax.mk a1.ga a1.fX a1.fY a1.fW)).bind λr1=>(bif r1.2 then(bif decide (a0.z0<a1.z1)then some (decide (a1.z0<a0.z1))else some false)else some false)
def iy(a0:ay)(a1:ay):J Bool:=
 (uH (qf.mk a1.bj a1.bo a1.be a1.bk a1.ca a1.cg) (qf.mk a0.bj a0.bo a0.be a0.bk a0.ca a0.cg)).bind λr1=>some r1
def Fg(a0:U ay)(a1:(ay×Unit)->J Bool):Stp Int (Unit⊕Int)
 |v1=>(bif decide (v1<a0.length)then(bu a0 v1).bind λx1=>(a1 (x1,())).bind λr1=>(bif r1 then(some v1).map λa=>.inr (.inr a)else some (.inl (i64.wrap (v1+1))))else some (.inr (.inl ())))
def rE(a0:U ay)(a1:(ay×Unit)->J Bool):J Int:=
 dM (iter (Fg a0 a1) n 0) λ()=>some (-1)
def gP(a0:U ay)(a1:(ay×Unit)->J Bool):J Bool:=
 (rE n a0 a1).bind λr1=>some (decide (r1>=0))
def Fh(a0:Int):J Bool:=
 (bif decide (a0>=97)then some (decide (a0<=122))else some false)
def Bd(a0:ByteArray)(a1:(Int×Unit)->J Bool):Stp Int Int
 |v1=>((bif decide (v1<a0.size)then(Tg a0 v1).bind λx1=>(a1 (x1,())).bind λr1=>some r1 else some false)).bind λv2=>(bif v2 then some (.inl (i64.wrap (v1+1)))else some (.inr v1))
def Oj(a0:ByteArray)(a1:(Int×Unit)->J Bool):J Int:=
 (iter (Bd a0 a1) n 0).bind λw1=>some w1
def Q7(a0:Int):J Bool:=
 (bif decide (a0>=48)then some (decide (a0<=57))else some false)
def Be(a0:Int):J Bool:=
 (Fh a0).bind λr1=>(bif r1 then some true else(Q7 a0).bind λr2=>some r2)
def Ol(a0:ByteArray):J Bool:=
 ((bif (ByteArray.toList a0==ByteArray.toList (⟨#[]⟩))then some true else(Tg a0 0).bind λx1=>(Fh x1).bind λr1=>(bif (!r1)then some true else some (decide ((a0.size:Int)>20))))).bind λv1=>(bif v1 then some false else(Oj n a0 (λ (y1:Int×Unit)=>Be y1.1)).bind λr2=>some (r2==a0.size))
def strings_Contains(a0 a1:ByteArray):J Bool:=ck (Nat.ble a0.size 4000000)<|some (Lib.contains a0.data.toList a1.data.toList)
def xw(a0:ByteArray):J Bool:=
 (Ol n a0).bind λr1=>(bif r1 then ck (WX (⟨#[32]⟩) a0)<|ck (WX ((⟨#[32]⟩)++a0) (⟨#[32]⟩))<|(strings_Contains (⟨#[32,97,110,100,32,97,112,97,114,116,32,98,97,115,101,32,99,97,112,32,100,101,102,105,110,101,32,101,108,115,101,32,101,120,99,101,112,116,32,102,114,111,109,32,103,114,97,99,101,32,104,111,117,114,115,32,105,102,32,105,110,32,108,101,97,115,116,32,110,111,116,32,111,114,32,111,118,101,114,108,97,121,32,112,108,97,110,101,32,114,117,108,101,32,115,108,111,112,101,32,115,117,110,32,116,97,98,108,101,32,116,104,101,110,32,117,110,116,105,108,32,117,115,101,115,32,118,97,114,121,32,118,105,101,119,32,122,111,110,101,32]⟩) (((⟨#[32]⟩)++a0)++(⟨#[32]⟩))).bind λr2=>some (!r2)else some false)
def gI(r1:U ay):Stp Int (Unit⊕Bool)
 |v2=>(bif decide (v2<(r1.length:Nat))then ck (cz v2 r1.length)<|(bu r1 ((0:Nat)+v2:Int)).bind λx1=>((fV x1).bind λr2=>(bif (!r2)then some true else ck (BM 0 v2 r1.length)<|ck (aE (sub r1 0 (v2.toNat)).length (v2.toNat))<|(gP n (sub r1 0 (v2.toNat)) (λ (y1:ay×Unit)=>iy y1.1 x1)).bind λr3=>some r3)).bind λv3=>(bif v3 then(some false).map λa=>.inr (.inr a)else some (.inl (i64.wrap (v2+1))))else some (.inr (.inl ())))
def lZ(x2:dF):Stp (Int×(List (ByteArray×Bool))) (Unit⊕(Int⊕(Unit⊕Bool)))
 |(v5,v6)=>(bif decide (v5<x2.gives.length)then(bu x2.gives v5).bind λx3=>((bif ((iC gA x3.name v6).getD false)then some true else(xw n x3.name).bind λr4=>(bif (!r4)then some true else(bif decide (x3.n<0)then some true else some (decide (x3.n>1073741824)))))).bind λv7=>(bif v7 then((some false).map λa=>.inr (.inr a)).map λa=>.inr (.inr a)else some (.inl ((i64.wrap (v5+1)),(Gq gA x3.name true v6))))else some (.inr (.inl ())))
def gJ(a0:aG):Stp Int (Unit⊕Bool)
 |v4=>(bif decide (v4<a0.phases.length)then(bu a0.phases v4).bind λx2=>dM (iter (lZ n x2) n (0,([]:(List (ByteArray×Bool))))) λ()=>(bif decide ((x2.gives.length:Int)>30)then(some false).map λa=>.inr (.inr a)else some (.inl (i64.wrap (v4+1))))else some (.inr (.inl ())))
def eY(a0:aG):J Bool:=
 (xu n a0).bind λr1=>((bif decide (a0.lot<0)then some true else(bif decide (a0.lot>1073741824)then some true else(bif decide ((a0.phases.length:Int)<1)then some true else(bif decide ((a0.phases.length:Int)>8)then some true else(bif decide ((r1.length:Int)<1)then some true else some (decide ((r1.length:Int)>40)))))))).bind λv1=>(bif v1 then some false else dM (iter (gI n r1) n 0) λ()=>dM (iter (gJ n a0) n 0) λ()=>some true)
def Om(a0:Unit)(a1:Int):J (List ax):=
 (bif decide (a1<0)then none else(bif (decide ((i64.wrap (a1-(i64.wrap (0-0))))>0))then ck (xN (i64.wrap (a1-(i64.wrap (0-0)))) 32)<|ck (BM 0 0 ((i64.wrap (a1-(i64.wrap (0-0)))).toNat))<|ck (aE (sub (List.replicate (i64.wrap (a1-(i64.wrap (0-0)))).toNat (ax.mk 0 0 0 0)) 0 0).length 0)<|some (sub (List.replicate (i64.wrap (a1-(i64.wrap (0-0)))).toNat (ax.mk 0 0 0 0)) 0 0)else some []))
def Oo(a0:U (List ax)):Stp (Int×Int) Int
 |(v1,v2)=>(bif decide (v2<a0.length)then(bu a0 v2).bind λx1=>(bif decide ((i64.wrap (v1+x1.length))<0)then none else some (.inl ((i64.wrap (v1+x1.length)),(i64.wrap (v2+1)))))else some (.inr v1))
def Oq(a0:U (List ax)):Stp (Int×(List ax)) (List ax)
 |(v3,v4)=>(bif decide (v3<a0.length)then(bu a0 v3).bind λx2=>ck (bR v4.length v4.length x2.length x2.length 32)<|jm (v4++x2) λr2=>ck (aE r2.length r2.length)<|some (.inl ((i64.wrap (v3+1)),r2))else ck (aE v4.length v4.length)<|some (.inr v4))
def zG(a0:U (List ax)):J (List ax):=
 (iter (Oo a0) n (0,0)).bind λw1=>(Om () w1).bind λr1=>ck (aE r1.length r1.length)<|(iter (Oq a0) n (0,r1)).bind λw2=>ck (aE (sub w2 0 w2.length).length w2.length)<|some (sub w2 0 w2.length)
def og(_:Nat)(a0:U Int):J (List Int):=P3 a0
def Ot(a0:U Int)(v1:Int):Stp (Int×Int×(List Int)) (Int×(List Int))
 |(v2,v3,v4)=>(bif decide (v3<((a0.length-v1.toNat):Nat))then(ck (cz v3 (a0.length-v1.toNat))<|(bu v4 (((0+v1.toNat):Nat)+v3:Int)).bind λx3=>ck (cz (i64.wrap (v3-1)) (a0.length-v1.toNat))<|(bu v4 (((0+v1.toNat):Nat)+(i64.wrap (v3-1)):Int)).bind λx4=>(bif (x3 !=x4)then ck (cz v3 (a0.length-v1.toNat))<|(bu v4 (((0+v1.toNat):Nat)+v3:Int)).bind λx5=>ck (cz v2 a0.length)<|(bu v4 ((0:Nat)+v2:Int)).bind λx6=>some ((i64.wrap (v2+1)),(v4.set ((0:Nat)+v2:Int).toNat x5))else some (v2,v4)):J (Int×(List Int))).bind λ(v5,v6)=>some (.inl (v5,(i64.wrap (v3+1)),v6))else some (.inr (v2,v4)))
def Ou(a0:U Int):Stp Int (Unit⊕(Unit×(List Int)))
 |v1=>(bif decide (v1<(a0.length:Nat))then ck (cz v1 a0.length)<|(bu a0 ((0:Nat)+v1:Int)).bind λx1=>ck (cz (i64.wrap (v1-1)) a0.length)<|(bu a0 ((0:Nat)+(i64.wrap (v1-1)):Int)).bind λx2=>(bif (x1==x2)then ck (BM v1 (a0.length:Nat) a0.length)<|(iter (Ot a0 v1) n (v1,1,a0)).bind λ(w1,w2)=>ck (BM w1 (a0.length:Nat) a0.length)<|ck (BM 0 w1 a0.length)<|(ck (aE (w1.toNat) (w1.toNat))<|ck (aE (sub (w2.take (0+w1.toNat)) 0 (w1.toNat)).length (w1.toNat))<|some ((),(sub (w2.take (0+w1.toNat)) 0 (w1.toNat)))).map λa=>.inr (.inr a)else some (.inl (i64.wrap (v1+1))))else some (.inr (.inl ())))
def nP(a0:U Int):J (Unit×(List Int)):=
 (bif decide ((a0.length:Int)<2)then ck (aE a0.length a0.length)<|ck (aE (sub a0 0 a0.length).length a0.length)<|some ((),(sub a0 0 a0.length))else dM (iter (Ou n a0) n 1) λ()=>ck (aE a0.length a0.length)<|ck (aE (sub a0 0 a0.length).length a0.length)<|some ((),(sub a0 0 a0.length)))
def vV(_:Nat)(a0:U aJ)(a1:(aJ×aJ×Unit)->J Int):J (List aJ):=It a0 a1
def cmp_isNaN_int(a0:Int):J Bool:=
 some (a0 !=a0)
def cmp_Compare_int(a0:Int)(a1:Int):J Int:=
 (cmp_isNaN_int a0).bind λr1=>(cmp_isNaN_int a1).bind λr2=>(bif r1 then(bif r2 then some 0 else some (-1))else(bif r2 then some 1 else(bif decide (a0<a1)then some (-1)else(bif decide (a0>a1)then some 1 else some 0))))
def yI(a0:aJ)(a1:aJ):J Int:=
 (cmp_Compare_int a0.from_ a1.from_).bind λr1=>some r1
def uI(a0:U ax)(a1:Int):Stp (Int×(List aJ)) (List aJ)
 |(v1,v2)=>(bif decide (v1<a0.length)then((bu a0 v1).bind λx1=>((bif decide (x1.x0<=a1)then some (decide (a1<x1.x1))else some false)).bind λv3=>(bif v3 then ck (bR v2.length v2.length (sub ([(aJ.mk x1.y0 x1.y1)]:U aJ) 0 1).length 1 16)<|jm (v2++(sub ([(aJ.mk x1.y0 x1.y1)]:U aJ) 0 1)) λr1=>ck (aE r1.length r1.length)<|some r1 else ck (aE v2.length v2.length)<|some v2):J ((List aJ))).bind λv4=>ck (aE v4.length v4.length)<|some (.inl ((i64.wrap (v1+1)),v4))else ck (aE v2.length v2.length)<|some (.inr v2))
def uJ(w1:U aJ)(r2:U aJ):Stp (Int×(List aJ)) (List aJ)
 |(v5,v6)=>(bif decide (v5<(w1.length:Nat))then(ck (cz v5 w1.length)<|(bu r2 ((0:Nat)+v5:Int)).bind λx2=>((bif decide ((v6.length:Int)>0)then ck (cz (i64.wrap ((v6.length:Nat)-1)) v6.length)<|(bu v6 ((0:Nat)+(i64.wrap ((v6.length:Nat)-1)):Int)).bind λx3=>some (decide (x2.from_<=x3.to))else some false)).bind λv7=>(bif v7 then ck (cz (i64.wrap ((v6.length:Nat)-1)) v6.length)<|(bu v6 ((0:Nat)+(i64.wrap ((v6.length:Nat)-1)):Int)).bind λx4=>ck (cz (i64.wrap ((v6.length:Nat)-1)) v6.length)<|(bu v6 ((0:Nat)+(i64.wrap ((v6.length:Nat)-1)):Int)).bind λx5=>ck (aE v6.length (v6.set ((0:Nat)+(i64.wrap ((v6.length:Nat)-1)):Int).toNat (aJ.mk x5.from_ (max x4.to x2.to))).length)<|some (v6.set ((0:Nat)+(i64.wrap ((v6.length:Nat)-1)):Int).toNat (aJ.mk x5.from_ (max x4.to x2.to)))else ck (bR v6.length v6.length (sub ([x2]:U aJ) 0 1).length 1 16)<|jm (v6++(sub ([x2]:U aJ) 0 1)) λr3=>ck (aE r3.length r3.length)<|some r3):J ((List aJ))).bind λv8=>ck (aE v8.length v8.length)<|some (.inl ((i64.wrap (v5+1)),v8))else ck (aE v6.length v6.length)<|some (.inr v6))
def Kq(a0:U ax)(a1:Int):J (List aJ):=
 ck (aE 0 ([]:U aJ).length)<|(iter (uI a0 a1) n (0,[])).bind λw1=>ck (aE w1.length w1.length)<|(vV n w1 (λ (y1:aJ×aJ×Unit)=>yI y1.1 y1.2.1)).bind λr2=>ck (aE 0 ([]:U aJ).length)<|(iter (uJ w1 r2) n (0,[])).bind λw2=>ck (aE (sub w2 0 w2.length).length w2.length)<|some (sub w2 0 w2.length)
def uK(r1:U ax):Stp (Int×(List Int)) (List Int)
 |(v1,v2)=>(bif decide (v1<(r1.length:Nat))then ck (cz v1 r1.length)<|(bu r1 ((0:Nat)+v1:Int)).bind λx1=>ck (bR v2.length v2.length (sub ([x1.x0,x1.x1]:U Int) 0 2).length 2 8)<|jm (v2++(sub ([x1.x0,x1.x1]:U Int) 0 2)) λr2=>ck (aE r2.length r2.length)<|some (.inl ((i64.wrap (v1+1)),r2))else ck (aE v2.length v2.length)<|some (.inr v2))
def uL(r1:U ax)(r4:Unit×(List Int)):Stp (Int×(List bD)) (List bD)
 |(v3,v4)=>(bif decide (v3<(r4.2.length:Nat))then ck (cz (i64.wrap (v3-1)) r4.2.length)<|(bu r4.2 ((0:Nat)+(i64.wrap (v3-1)):Int)).bind λx2=>ck (cz v3 r4.2.length)<|(bu r4.2 ((0:Nat)+v3:Int)).bind λx3=>ck (cz (i64.wrap (v3-1)) r4.2.length)<|(bu r4.2 ((0:Nat)+(i64.wrap (v3-1)):Int)).bind λx4=>ck (aE (sub r1 0 r1.length).length r1.length)<|(Kq n (sub r1 0 r1.length) x4).bind λr5=>ck (aE (sub r5 0 r5.length).length r5.length)<|ck (bR v4.length v4.length (sub ([(bD.mk x2 x3 (sub r5 0 r5.length))]:U bD) 0 1).length 1 40)<|jm (v4++(sub ([(bD.mk x2 x3 (sub r5 0 r5.length))]:U bD) 0 1)) λr6=>ck (aE r6.length r6.length)<|some (.inl ((i64.wrap (v3+1)),r6))else ck (aE v4.length v4.length)<|some (.inr v4))
def pJ(a0:U (List ax)):J (List bD):=
 (zG n a0).bind λr1=>ck (aE 0 ([]:U Int).length)<|(iter (uK r1) n (0,[])).bind λw1=>ck (aE w1.length w1.length)<|(og n w1).bind λr3=>ck (aE w1.length r3.length)<|(nP n r3).bind λr4=>ck (aE 0 ([]:U bD).length)<|(iter (uL n r1 r4) n (1,[])).bind λw2=>ck (aE (sub w2 0 w2.length).length w2.length)<|some (sub w2 0 w2.length)
def Q8(a0:U aJ)(a1:U aJ):Stp Int (Unit⊕Bool)
 |v1=>(bif decide (v1<a0.length)then(bu a0 v1).bind λx1=>(bu a1 v1).bind λx2=>(bif (!((x1.from_==x2.from_)&&((x1.to==x2.to)&&true)))then(some false).map λa=>.inr (.inr a)else some (.inl (i64.wrap (v1+1))))else some (.inr (.inl ())))
def wI(a0:U aJ)(a1:U aJ):J Bool:=
 (bif (a0.length !=(a1.length:Int))then some false else dM (iter (Q8 a0 a1) n 0) λ()=>some true)
def tX(a0:U bD)(v1:Int):Stp Int Int
 |v3=>((bif decide (v3<a0.length)then(bu a0 v3).bind λx1=>(bu a0 v1).bind λx2=>(wI n x1.column x2.column).bind λr1=>some r1 else some false)).bind λv4=>(bif v4 then some (.inl (i64.wrap (v3+1)))else some (.inr v3))
def xA(a0:U bD)(v1:Int)(w1:Int)(x3:bD):Stp (Int×(List ax)) (List ax)
 |(v5,v6)=>(bif decide (v5<x3.column.length)then(bu x3.column v5).bind λx4=>(bu a0 v1).bind λx5=>(bu a0 (i64.wrap (w1-1))).bind λx6=>ck (bR v6.length v6.length (sub ([(ax.mk x5.x0 x4.from_ x6.x1 x4.to)]:U ax) 0 1).length 1 32)<|jm (v6++(sub ([(ax.mk x5.x0 x4.from_ x6.x1 x4.to)]:U ax) 0 1)) λr2=>ck (aE r2.length r2.length)<|some (.inl ((i64.wrap (v5+1)),r2))else ck (aE v6.length v6.length)<|some (.inr v6))
def xB(a0:U bD):Stp (Int×(List ax)) (List ax)
 |(v1,v2)=>(bif decide (v1<a0.length)then(iter (tX n a0 v1) n (i64.wrap (v1+1))).bind λw1=>(bu a0 v1).bind λx3=>ck (aE v2.length v2.length)<|(iter (xA a0 v1 w1 x3) n (0,v2)).bind λw2=>ck (aE w2.length w2.length)<|some (.inl (w1,w2))else ck (aE v2.length v2.length)<|some (.inr v2))
def Jd(a0:U bD):J (List ax):=
 ck (aE 0 ([]:U ax).length)<|(iter (xB n a0) n (0,[])).bind λw3=>ck (aE (sub w3 0 w3.length).length w3.length)<|some (sub w3 0 w3.length)
def zH(a0:U ax):J ((List ax)×Int):=
 (bif decide ((a0.length:Int)>200)then some ([],6)else some (a0,0))
def Ov(a0:U ax):Stp Int (Unit⊕((List ax)×Int))
 |v1=>(bif decide (v1<a0.length)then(bu a0 v1).bind λx1=>(nJ x1).bind λr1=>(bif (!r1)then(some ([],1)).map λa=>.inr (.inr a)else some (.inl (i64.wrap (v1+1))))else some (.inr (.inl ())))
def Is(a0:U ax):J ((List ax)×Int):=
 dM (iter (Ov a0) n 0) λ()=>(bif decide ((a0.length:Int)>400)then some ([],6)else ck (aE (sub ([a0]:U (List ax)) 0 1).length 1)<|(pJ n (sub ([a0]:U (List ax)) 0 1)).bind λr2=>ck (aE (sub r2 0 r2.length).length r2.length)<|(Jd n (sub r2 0 r2.length)).bind λr3=>ck (aE (sub r3 0 r3.length).length r3.length)<|(zH (sub r3 0 r3.length)).bind λr4=>some (r4.1,r4.2))
def Q9(a0:U ax)(a1:U ax):Stp Int (Unit⊕Bool)
 |v1=>(bif decide (v1<a0.length)then(bu a0 v1).bind λx1=>(bu a1 v1).bind λx2=>(bif (!((x1.x0==x2.x0)&&((x1.y0==x2.y0)&&((x1.x1==x2.x1)&&((x1.y1==x2.y1)&&true)))))then(some false).map λa=>.inr (.inr a)else some (.inl (i64.wrap (v1+1))))else some (.inr (.inl ())))
def pK(a0:U ax)(a1:U ax):J Bool:=
 (bif (a0.length !=(a1.length:Int))then some false else dM (iter (Q9 a0 a1) n 0) λ()=>some true)
def oV(a0:U ax):J Bool:=
 (Is n a0).bind λr1=>(bif (r1.2==0)then(pK n r1.1 a0).bind λr2=>some r2 else some false)
def mh(a0:U bD)(a1:Int)(a2:(bD×Int×Unit)->J Int):Stp (Int×Int) Int
 |(v1,v2)=>(bif decide (v1<v2)then ck (decide (0<=1)&&decide (1<=IntKind.u64.bits))<|(bu a0 (i64.wrap ((IntKind.u64.wrap (i64.wrap (v1+v2)))/2 ^ (1:Int).toNat))).bind λx1=>(a2 (x1,a1,())).bind λr1=>(bif decide (r1<0)then some (.inl ((i64.wrap ((i64.wrap ((IntKind.u64.wrap (i64.wrap (v1+v2)))/2 ^ (1:Int).toNat))+1)),v2))else some (.inl (v1,(i64.wrap ((IntKind.u64.wrap (i64.wrap (v1+v2)))/2 ^ (1:Int).toNat)))))else some (.inr v1))
def jJ(a0:U bD)(a1:Int)(a2:(bD×Int×Unit)->J Int):J (Int×Bool):=
 (iter (mh a0 a1 a2) n (0,a0.length)).bind λw1=>(bif decide (w1<a0.length)then(bu a0 w1).bind λx2=>(a2 (x2,a1,())).bind λr2=>some (w1,(r2==0))else some (w1,false))
def xC(a0:bD)(a1:Int):J Int:=
 (bif decide (a0.x1<=a1)then some (-1)else some 1)
def Yh(a0:U bD)(a1:Int):J (List aJ):=
 (jJ n a0 a1 (λ (y1:bD×Int×Unit)=>xC y1.1 y1.2.1)).bind λr1=>((bif decide (r1.1<a0.length)then(bu a0 r1.1).bind λx1=>some (decide (x1.x0<=a1))else some false)).bind λv1=>(bif v1 then(bu a0 r1.1).bind λx2=>some x2.column else some [])
def Ow(a0:Unit)(a1:Int):J (List aJ):=
 (bif decide (a1<0)then none else(bif (decide ((i64.wrap (a1-(i64.wrap (0-0))))>0))then ck (xN (i64.wrap (a1-(i64.wrap (0-0)))) 16)<|ck (BM 0 0 ((i64.wrap (a1-(i64.wrap (0-0)))).toNat))<|ck (aE (sub (List.replicate (i64.wrap (a1-(i64.wrap (0-0)))).toNat (aJ.mk 0 0)) 0 0).length 0)<|some (sub (List.replicate (i64.wrap (a1-(i64.wrap (0-0)))).toNat (aJ.mk 0 0)) 0 0)else some []))
def Ox(a0:U (List aJ)):Stp (Int×Int) Int
 |(v1,v2)=>(bif decide (v2<a0.length)then(bu a0 v2).bind λx1=>(bif decide ((i64.wrap (v1+x1.length))<0)then none else some (.inl ((i64.wrap (v1+x1.length)),(i64.wrap (v2+1)))))else some (.inr v1))
def Oy(a0:U (List aJ)):Stp (Int×(List aJ)) (List aJ)
 |(v3,v4)=>(bif decide (v3<a0.length)then(bu a0 v3).bind λx2=>ck (bR v4.length v4.length x2.length x2.length 16)<|jm (v4++x2) λr2=>ck (aE r2.length r2.length)<|some (.inl ((i64.wrap (v3+1)),r2))else ck (aE v4.length v4.length)<|some (.inr v4))
def zI(a0:U (List aJ)):J (List aJ):=
 (iter (Ox a0) n (0,0)).bind λw1=>(Ow () w1).bind λr1=>ck (aE r1.length r1.length)<|(iter (Oy a0) n (0,r1)).bind λw2=>ck (aE (sub w2 0 w2.length).length w2.length)<|some (sub w2 0 w2.length)
def nH(a0:U aJ)(a1:Int)(a2:(aJ×Int×Unit)->J Int):Stp (Int×Int) Int
 |(v1,v2)=>(bif decide (v1<v2)then ck (decide (0<=1)&&decide (1<=IntKind.u64.bits))<|(bu a0 (i64.wrap ((IntKind.u64.wrap (i64.wrap (v1+v2)))/2 ^ (1:Int).toNat))).bind λx1=>(a2 (x1,a1,())).bind λr1=>(bif decide (r1<0)then some (.inl ((i64.wrap ((i64.wrap ((IntKind.u64.wrap (i64.wrap (v1+v2)))/2 ^ (1:Int).toNat))+1)),v2))else some (.inl (v1,(i64.wrap ((IntKind.u64.wrap (i64.wrap (v1+v2)))/2 ^ (1:Int).toNat)))))else some (.inr v1))
def jU(a0:U aJ)(a1:Int)(a2:(aJ×Int×Unit)->J Int):J (Int×Bool):=
 (iter (nH a0 a1 a2) n (0,a0.length)).bind λw1=>(bif decide (w1<a0.length)then(bu a0 w1).bind λx2=>(a2 (x2,a1,())).bind λr2=>some (w1,(r2==0))else some (w1,false))
def mq(a0:aJ)(a1:Int):J Int:=
 (bif decide (a0.to<=a1)then some (-1)else some 1)
def Dx(a0:U aJ)(a1:Int):J Bool:=
 (jU n a0 a1 (λ (y1:aJ×Int×Unit)=>mq y1.1 y1.2.1)).bind λr1=>(bif decide (r1.1<a0.length)then(bu a0 r1.1).bind λx1=>some (decide (x1.from_<=a1))else some false)
def xD(r1:U aJ):Stp (Int×(List Int)) (List Int)
 |(v1,v2)=>(bif decide (v1<(r1.length:Nat))then ck (cz v1 r1.length)<|(bu r1 ((0:Nat)+v1:Int)).bind λx1=>ck (bR v2.length v2.length (sub ([x1.from_,x1.to]:U Int) 0 2).length 2 8)<|jm (v2++(sub ([x1.from_,x1.to]:U Int) 0 2)) λr2=>ck (aE r2.length r2.length)<|some (.inl ((i64.wrap (v1+1)),r2))else ck (aE v2.length v2.length)<|some (.inr v2))
def xE(a0:U aJ)(a1:U aJ)(a2:(Bool×Bool×Unit)->J Bool)(r4:Unit×(List Int)):Stp (Int×(List aJ)) (List aJ)
 |(v3,v4)=>(bif decide (v3<(r4.2.length:Nat))then(ck (cz (i64.wrap (v3-1)) r4.2.length)<|(bu r4.2 ((0:Nat)+(i64.wrap (v3-1)):Int)).bind λx2=>(Dx n a0 x2).bind λr5=>(Dx n a1 x2).bind λr6=>(a2 (r5,r6,())).bind λr7=>(bif (!r7)then ck (aE v4.length v4.length)<|some v4 else((bif decide ((v4.length:Int)>0)then ck (cz (i64.wrap ((v4.length:Nat)-1)) v4.length)<|(bu v4 ((0:Nat)+(i64.wrap ((v4.length:Nat)-1)):Int)).bind λx3=>some (x3.to==x2)else some false)).bind λv5=>(bif v5 then ck (cz v3 r4.2.length)<|(bu r4.2 ((0:Nat)+v3:Int)).bind λx4=>ck (cz (i64.wrap ((v4.length:Nat)-1)) v4.length)<|(bu v4 ((0:Nat)+(i64.wrap ((v4.length:Nat)-1)):Int)).bind λx5=>ck (aE v4.length (v4.set ((0:Nat)+(i64.wrap ((v4.length:Nat)-1)):Int).toNat (aJ.mk x5.from_ x4)).length)<|some (v4.set ((0:Nat)+(i64.wrap ((v4.length:Nat)-1)):Int).toNat (aJ.mk x5.from_ x4))else ck (cz v3 r4.2.length)<|(bu r4.2 ((0:Nat)+v3:Int)).bind λx6=>ck (bR v4.length v4.length (sub ([(aJ.mk x2 x6)]:U aJ) 0 1).length 1 16)<|jm (v4++(sub ([(aJ.mk x2 x6)]:U aJ) 0 1)) λr8=>ck (aE r8.length r8.length)<|some r8)):J ((List aJ))).bind λv6=>ck (aE v6.length v6.length)<|some (.inl ((i64.wrap (v3+1)),v6))else ck (aE v4.length v4.length)<|some (.inr v4))
def Je(a0:U aJ)(a1:U aJ)(a2:(Bool×Bool×Unit)->J Bool):J (List aJ):=
 ck (aE (sub ([a0,a1]:U (List aJ)) 0 2).length 2)<|(zI n (sub ([a0,a1]:U (List aJ)) 0 2)).bind λr1=>ck (aE 0 ([]:U Int).length)<|(iter (xD r1) n (0,[])).bind λw1=>ck (aE w1.length w1.length)<|(og n w1).bind λr3=>ck (aE w1.length r3.length)<|(nP n r3).bind λr4=>ck (aE 0 ([]:U aJ).length)<|(iter (xE n a0 a1 a2 r4) n (1,[])).bind λw2=>ck (aE (sub w2 0 w2.length).length w2.length)<|some (sub w2 0 w2.length)
def rT(a2:(Bool×Bool×Unit)->J Bool)(r3:U bD)(r4:U bD)(r5:U bD):Stp (Int×(List bD)) (List bD)
 |(v2,v3)=>(bif decide (v2<(r5.length:Nat))then ck (cz v2 r5.length)<|(bu v3 ((0:Nat)+v2:Int)).bind λx1=>(Yh n (sub r3 0 r3.length) x1.x0).bind λr6=>(Yh n (sub r4 0 r4.length) x1.x0).bind λr7=>(Je n r6 r7 a2).bind λr8=>ck (cz v2 r5.length)<|ck (aE (sub r8 0 r8.length).length r8.length)<|(bu v3 ((0:Nat)+v2:Int)).bind λx2=>some (.inl ((i64.wrap (v2+1)),(v3.set ((0:Nat)+v2:Int).toNat (bD.mk x2.x0 x2.x1 (sub r8 0 r8.length)))))else some (.inr v3))
def zJ(a0:U ax)(a1:U ax)(a2:(Bool×Bool×Unit)->J Bool):J ((List ax)×Int):=
 ((oV n a0).bind λr1=>(bif (!r1)then some true else(oV n a1).bind λr2=>some (!r2))).bind λv1=>(bif v1 then some ([],1)else ck (aE (sub ([a0]:U (List ax)) 0 1).length 1)<|(pJ n (sub ([a0]:U (List ax)) 0 1)).bind λr3=>ck (aE (sub ([a1]:U (List ax)) 0 1).length 1)<|(pJ n (sub ([a1]:U (List ax)) 0 1)).bind λr4=>ck (aE (sub r3 0 r3.length).length r3.length)<|ck (aE (sub r4 0 r4.length).length r4.length)<|ck (aE (sub ([a0,a1]:U (List ax)) 0 2).length 2)<|(pJ n (sub ([a0,a1]:U (List ax)) 0 2)).bind λr5=>(iter (rT n a2 r3 r4 r5) n (0,r5)).bind λw1=>ck (aE (sub w1 0 r5.length).length r5.length)<|(Jd n (sub w1 0 r5.length)).bind λr9=>ck (aE (sub r9 0 r9.length).length r9.length)<|(zH (sub r9 0 r9.length)).bind λyd=>some (yd.1,yd.2))
def yJ(a0:Bool)(a1:Bool):J Bool:=
 (bif a0 then some a1 else some false)
def Kr(a0:U ax)(a1:U ax):J ((List ax)×Int):=
 (zJ n a0 a1 (λ (y1:Bool×Bool×Unit)=>yJ y1.1 y1.2.1)).bind λr1=>some (r1.1,r1.2)
def uM(a0:ax):J Int:=
 (zk a0).bind λr1=>some (i64.wrap ((i64.wrap (r1.1.x1-r1.1.x0))*(i64.wrap (r1.1.y1-r1.1.y0))))
def Fj(a0:U ax):Stp (Int×Int) Int
 |(v1,v2)=>(bif decide (v2<a0.length)then(bu a0 v2).bind λx1=>(uM x1).bind λr2=>some (.inl ((i64.wrap (v1+r2)),(i64.wrap (v2+1))))else some (.inr v1))
def Oz(a0:U ax):J Int:=
 (oV n a0).bind λr1=>(bif (!r1)then some 0 else(iter (Fj a0) n (0,0)).bind λw1=>some w1)
def vW(a0:jE)(a1:bG):J Bool:=
 some (ByteArray.toList a0.name==ByteArray.toList a1.name)
def KF(a0:U jE)(a1:(jE×Unit)->J Bool):Stp Int (Unit⊕Int)
 |v1=>(bif decide (v1<a0.length)then(bu a0 v1).bind λx1=>(a1 (x1,())).bind λr1=>(bif r1 then(some v1).map λa=>.inr (.inr a)else some (.inl (i64.wrap (v1+1))))else some (.inr (.inl ())))
def vX(a0:U jE)(a1:(jE×Unit)->J Bool):J Int:=
 dM (iter (KF a0 a1) n 0) λ()=>some (-1)
def nK(a0:U jE)(a1:(jE×Unit)->J Bool):J Bool:=
 (vX n a0 a1).bind λr1=>some (decide (r1>=0))
def kU(a1:j5)(r3:U ay):Stp Int (Unit⊕Bool)
 |v2=>(bif decide (v2<(r3.length:Nat))then ck (cz v2 r3.length)<|(bu r3 ((0:Nat)+v2:Int)).bind λx1=>ck (aE (sub ([(ax.mk x1.bj x1.bo x1.be x1.bk)]:U ax) 0 1).length 1)<|(Kr n a1.area (sub ([(ax.mk x1.bj x1.bo x1.be x1.bk)]:U ax) 0 1)).bind λr4=>((bif (r4.2 !=0)then some true else(Oz n r4.1).bind λr5=>(uM (ax.mk x1.bj x1.bo x1.be x1.bk)).bind λr6=>some (decide (r5<r6)))).bind λv3=>(bif v3 then(some false).map λa=>.inr (.inr a)else some (.inl (i64.wrap (v2+1))))else some (.inr (.inl ())))
def kV(a0:dh)(x2:dF):Stp Int (Unit⊕(Int⊕(Unit⊕Bool)))
 |v5=>(bif decide (v5<x2.gives.length)then(bu x2.gives v5).bind λx3=>(nK n a0.caps (λ (y1:jE×Unit)=>vW y1.1 x3)).bind λr7=>(bif (!r7)then((some false).map λa=>.inr (.inr a)).map λa=>.inr (.inr a)else some (.inl (i64.wrap (v5+1))))else some (.inr (.inl ())))
def kW(a0:dh)(a2:aG):Stp Int (Unit⊕Bool)
 |v4=>(bif decide (v4<a2.phases.length)then(bu a2.phases v4).bind λx2=>dM (iter (kV n a0 x2) n 0) λ()=>some (.inl (i64.wrap (v4+1)))else some (.inr (.inl ())))
def kS(a0:dh)(a1:j5)(a2:aG):J Bool:=
 ((eY n a2).bind λr1=>(bif (!r1)then some true else(bif (a1.id !=a2.lot)then some true else(oV n a1.area).bind λr2=>some (!r2)))).bind λv1=>(bif v1 then some false else(xu n a2).bind λr3=>dM (iter (kU n a1 r3) n 0) λ()=>dM (iter (kW n a0 a2) n 0) λ()=>some true)
def p8(a0:aG):Stp (Int×(List ay)) (List ay)
 |(v1,v2)=>(bif decide (v1<a0.phases.length)then(bu a0.phases v1).bind λx1=>ck (bR v2.length v2.length x1.az.length x1.az.length 72)<|jm (v2++x1.az) λr1=>ck (aE r1.length r1.length)<|some (.inl ((i64.wrap (v1+1)),r1))else ck (aE v2.length v2.length)<|some (.inr v2))
def uN(a0:aG):J (List ay):=
 ck (aE 0 ([]:U ay).length)<|(iter (p8 a0) n (0,[])).bind λw1=>ck (aE (sub w1 0 w1.length).length w1.length)<|some (sub w1 0 w1.length)
def p9(a0:U eU):Stp (Int×(List j6)) (List j6)
 |(v1,v2)=>(bif decide (v1<a0.length)then(bu a0 v1).bind λx1=>ck ((a0.length:Int) !=0)<|(bu a0 (Int.tmod (i64.wrap (v1+1)) (a0.length:Int))).bind λx2=>ck (cz v1 ((a0.length:Int).toNat))<|(bu v2 ((0:Nat)+v1:Int)).bind λx3=>some (.inl ((i64.wrap (v1+1)),(v2.set ((0:Nat)+v1:Int).toNat (j6.mk x1.x x1.y x2.x x2.y))))else some (.inr v2))
def qy(a0:U eU):J (List j6):=
 ck (decide ((a0.length:Int)<=a0.length)&&(decide (0<=(a0.length:Int))&&xN a0.length 32))<|(iter (p9 a0) n (0,(List.replicate (a0.length:Int).toNat (j6.mk 0 0 0 0)))).bind λw1=>ck (aE (sub w1 0 ((a0.length:Int).toNat)).length ((a0.length:Int).toNat))<|some (sub w1 0 ((a0.length:Int).toNat))
def uO(a0:eU):J Bool:=
 (bif decide (0<=a0.x)then(bif decide (a0.x<=1048576)then(bif decide (0<=a0.y)then some (decide (a0.y<=1048576))else some false)else some false)else some false)
def iG(a0:j6):J Bool:=
 some (a0.mw==a0.m9)
def BU(a0:U Int):Stp Int (Unit⊕Int)
 |v1=>(bif decide (v1<a0.length)then(bu a0 v1).bind λx1=>(bif (x1 !=0)then(some x1).map λa=>.inr (.inr a)else some (.inl (i64.wrap (v1+1))))else some (.inr (.inl ())))
def vY(a0:U Int):J Int:=
 dM (iter (BU a0) n 0) λ()=>some 0
def sN(a0:eU)(a1:eU):J Int:=
 (cmp_Compare_int a0.x a1.x).bind λr1=>(cmp_Compare_int a0.y a1.y).bind λr2=>ck (aE (sub ([r1,r2]:U Int) 0 2).length 2)<|(vY n (sub ([r1,r2]:U Int) 0 2)).bind λr3=>some r3
def mD(a0:j6)(a1:j6):J Bool:=
 (bif decide ((max (min a0.mw a0.m9) (min a1.mw a1.m9))<=(min (max a0.mw a0.m9) (max a1.mw a1.m9)))then some (decide ((max (min a0.qn a0.vy) (min a1.qn a1.vy))<=(min (max a0.qn a0.vy) (max a1.qn a1.vy))))else some false)
def qR(a0:U eU)(r1:U j6):Stp Int (Unit⊕Bool)
 |v2=>(bif decide (v2<(r1.length:Nat))then ck (cz v2 r1.length)<|(bu r1 ((0:Nat)+v2:Int)).bind λx1=>ck ((r1.length:Int) !=0)<|ck (cz (Int.tmod (i64.wrap (v2+1)) (r1.length:Int)) r1.length)<|(bu r1 ((0:Nat)+(Int.tmod (i64.wrap (v2+1)) (r1.length:Int)):Int)).bind λx2=>((uO (eU.mk x1.mw x1.qn)).bind λr2=>(bif (!r2)then some true else(bif ((x1.mw==x1.m9)==(x1.qn==x1.vy))then some true else(iG x1).bind λr3=>(iG x2).bind λr4=>some (r3==r4)))).bind λv3=>(bif v3 then(some false).map λa=>.inr (.inr a)else((bif decide (v2>0)then(bu a0 0).bind λx3=>(bu a0 v2).bind λx4=>(sN n x3 x4).bind λr5=>some (decide (r5>=0))else some false)).bind λv4=>(bif v4 then(some false).map λa=>.inr (.inr a)else some (.inl (i64.wrap (v2+1)))))else some (.inr (.inl ())))
def jr(r1:U j6)(v5:Int):Stp Int (Unit⊕(Int⊕(Unit⊕Bool)))
 |v6=>(bif decide (v6<(r1.length:Nat))then((bif (decide ((i64.wrap ((i64.wrap (v5+(r1.length:Nat)))-v6))>1))then ck (cz v5 r1.length)<|(bu r1 ((0:Nat)+v5:Int)).bind λx5=>ck (cz v6 r1.length)<|(bu r1 ((0:Nat)+v6:Int)).bind λx6=>(mD x5 x6).bind λr6=>some r6 else some false)).bind λv7=>(bif v7 then((some false).map λa=>.inr (.inr a)).map λa=>.inr (.inr a)else some (.inl (i64.wrap (v6+1))))else some (.inr (.inl ())))
def qU(r1:U j6):Stp Int (Unit⊕Bool)
 |v5=>(bif decide (v5<(r1.length:Nat))then dM (iter (jr r1 v5) n (i64.wrap (v5+2))) λ()=>some (.inl (i64.wrap (v5+1)))else some (.inr (.inl ())))
def wJ(a0:U eU):J Bool:=
 ((bif decide ((a0.length:Int)<4)then some true else some (decide ((a0.length:Int)>60)))).bind λv1=>(bif v1 then some false else(qy n a0).bind λr1=>dM (iter (qR n a0 r1) n 0) λ()=>dM (iter (qU n r1) n 0) λ()=>ck (cz 0 r1.length)<|(bu r1 ((0:Nat)+0:Int)).bind λx7=>(iG x7).bind λr7=>some (!r7))
def mE(a0:U eU):Stp (Int×(List Int)) (List Int)
 |(v1,v2)=>(bif decide (v1<a0.length)then(bu a0 v1).bind λx1=>ck (bR v2.length v2.length (sub ([x1.x]:U Int) 0 1).length 1 8)<|jm (v2++(sub ([x1.x]:U Int) 0 1)) λr2=>ck (aE r2.length r2.length)<|some (.inl ((i64.wrap (v1+1)),r2))else ck (aE v2.length v2.length)<|some (.inr v2))
def mF(r4:Unit×(List Int))(r5:U j6)(v3:Int):Stp (Int×(List Int)) (List Int)
 |(v5,v6)=>(bif decide (v5<(r5.length:Nat))then(ck (cz v5 r5.length)<|(bu r5 ((0:Nat)+v5:Int)).bind λx2=>((iG x2).bind λr6=>(bif (!r6)then ck (cz v3 r4.2.length)<|(bu r4.2 ((0:Nat)+v3:Int)).bind λx3=>(bif decide ((min x2.mw x2.m9)<=x3)then ck (cz v3 r4.2.length)<|(bu r4.2 ((0:Nat)+v3:Int)).bind λx4=>some (decide (x4<(max x2.mw x2.m9)))else some false)else some false)).bind λv7=>(bif v7 then ck (bR v6.length v6.length (sub ([x2.qn]:U Int) 0 1).length 1 8)<|jm (v6++(sub ([x2.qn]:U Int) 0 1)) λr7=>ck (aE r7.length r7.length)<|some r7 else ck (aE v6.length v6.length)<|some v6):J ((List Int))).bind λv8=>ck (aE v8.length v8.length)<|some (.inl ((i64.wrap (v5+1)),v8))else ck (aE v6.length v6.length)<|some (.inr v6))
def jQ(r4:Unit×(List Int))(v3:Int)(w2:U Int)(r8:U Int):Stp (Int×(List ax)) (List ax)
 |(v9,v10)=>(bif decide ((i64.wrap (v9+1))<(w2.length:Nat))then ck (cz v3 r4.2.length)<|(bu r4.2 ((0:Nat)+v3:Int)).bind λx5=>ck (cz v9 w2.length)<|(bu r8 ((0:Nat)+v9:Int)).bind λx6=>ck (cz (i64.wrap (v3+1)) r4.2.length)<|(bu r4.2 ((0:Nat)+(i64.wrap (v3+1)):Int)).bind λx7=>ck (cz (i64.wrap (v9+1)) w2.length)<|(bu r8 ((0:Nat)+(i64.wrap (v9+1)):Int)).bind λx8=>ck (bR v10.length v10.length (sub ([(ax.mk x5 x6 x7 x8)]:U ax) 0 1).length 1 32)<|jm (v10++(sub ([(ax.mk x5 x6 x7 x8)]:U ax) 0 1)) λr9=>ck (aE r9.length r9.length)<|some (.inl ((i64.wrap (v9+2)),r9))else ck (aE v10.length v10.length)<|some (.inr v10))
def mG(r4:Unit×(List Int))(r5:U j6):Stp (Int×(List ax)) (List ax)
 |(v3,v4)=>(bif decide (v3<(i64.wrap ((r4.2.length:Nat)-1)))then ck (aE 0 ([]:U Int).length)<|(iter (mF r4 r5 v3) n (0,[])).bind λw2=>ck (aE w2.length w2.length)<|(og n w2).bind λr8=>ck (aE v4.length v4.length)<|(iter (jQ r4 v3 w2 r8) n (0,v4)).bind λw3=>ck (aE w3.length w3.length)<|some (.inl ((i64.wrap (v3+1)),w3))else ck (aE v4.length v4.length)<|some (.inr v4))
def uP(a0:U eU):J ((List ax)×Int):=
 (wJ n a0).bind λr1=>(bif (!r1)then some ([],10)else ck (aE 0 ([]:U Int).length)<|(iter (mE a0) n (0,[])).bind λw1=>ck (aE w1.length w1.length)<|(og n w1).bind λr3=>ck (aE w1.length r3.length)<|(nP n r3).bind λr4=>(qy n a0).bind λr5=>ck (aE 0 ([]:U ax).length)<|(iter (mG n r4 r5) n (0,[])).bind λw4=>(bif decide ((w4.length:Int)>200)then some ([],6)else ck (aE (sub w4 0 w4.length).length w4.length)<|some ((sub w4 0 w4.length),0)))
def yK(a0:fO):J (List ax):=
 (uP n a0.corners).bind λr1=>(bif (r1.2 !=0)then some []else ck (aE (sub r1.1 0 r1.1.length).length r1.1.length)<|some (sub r1.1 0 r1.1.length))
def qV(a1:U ax)(x1:ax):Stp (Int×Int×Int×Int) (Int×Int×Int)
 |(v5,v6,v7,v8)=>(bif decide (v6<a1.length)then((bu a1 v6).bind λx2=>(tV x1 x2).bind λr1=>(bif (!r1.2)then some (v5,v7,v8)else(uM r1.1).bind λr2=>(cmp_Compare_int r1.1.x0 v7).bind λr3=>(cmp_Compare_int r1.1.y0 v8).bind λr4=>ck (aE (sub ([r3,r4]:U Int) 0 2).length 2)<|(vY n (sub ([r3,r4]:U Int) 0 2)).bind λr5=>(bif decide (r5<0)then some ((i64.wrap (v5+r2)),r1.1.x0,r1.1.y0)else some ((i64.wrap (v5+r2)),v7,v8))):J (Int×Int×Int)).bind λ(v9,v10,v11)=>some (.inl (v9,(i64.wrap (v6+1)),v10,v11))else some (.inr (v5,v7,v8)))
def qW(a0:U ax)(a1:U ax):Stp (Int×Int×Int×Int) (Int×Int×Int)
 |(v1,v2,v3,v4)=>(bif decide (v2<a0.length)then(bu a0 v2).bind λx1=>(iter (qV n a1 x1) n (v1,0,v3,v4)).bind λ(w1,w2,w3)=>some (.inl (w1,(i64.wrap (v2+1)),w2,w3))else some (.inr (v1,v3,v4)))
def wK(a0:U ax)(a1:U ax):J (Int×eU):=
 (iter (qW n a0 a1) n (0,0,1048576,0)).bind λ(w4,w5,w6)=>some (w4,(eU.mk w5 w6))
def qX(a0:dh)(a1:U ax):Stp (Int×(List Int)) (List Int)
 |(v1,v2)=>(bif decide (v1<a0.zones.length)then(bu a0.zones v1).bind λx1=>(yK n x1).bind λr2=>ck (aE (sub r2 0 r2.length).length r2.length)<|(wK n a1 (sub r2 0 r2.length)).bind λr3=>ck (bR v2.length v2.length (sub ([r3.1]:U Int) 0 1).length 1 8)<|jm (v2++(sub ([r3.1]:U Int) 0 1)) λr4=>ck (aE r4.length r4.length)<|some (.inl ((i64.wrap (v1+1)),r4))else ck (aE v2.length v2.length)<|some (.inr v2))
def wL(a0:dh)(a1:U ax):J (List Int):=
 (oV n a1).bind λr1=>(bif (!r1)then some []else ck (aE 0 ([]:U Int).length)<|(iter (qX n a0 a1) n (0,[])).bind λw1=>ck (aE (sub w1 0 w1.length).length w1.length)<|some (sub w1 0 w1.length))
def qY(a0:dh)(r1:U Int):Stp (Int×Int) Int
 |(v1,v2)=>(bif decide (v2<(r1.length:Nat))then(ck (cz v2 r1.length)<|(bu r1 ((0:Nat)+v2:Int)).bind λx1=>((bu a0.zones v2).bind λx2=>(bif (!x2.overlay)then(bif decide (x1>0)then(bif decide (v1<0)then some true else ck (cz v1 r1.length)<|(bu r1 ((0:Nat)+v1:Int)).bind λx3=>some (decide (x1>x3)))else some false)else some false)).bind λv3=>(bif v3 then some v2 else some v1):J Int).bind λv4=>some (.inl (v4,(i64.wrap (v2+1))))else some (.inr v1))
def yL(a0:dh)(r1:U Int)(w1:Int):Stp (Int×(List ByteArray)) (List ByteArray)
 |(v5,v6)=>(bif decide (v5<(r1.length:Nat))then(ck (cz v5 r1.length)<|(bu r1 ((0:Nat)+v5:Int)).bind λx4=>((bif (v5==w1)then some true else(bu a0.zones v5).bind λx5=>(bif x5.overlay then some (decide (x4>0))else some false))).bind λv7=>(bif v7 then(bu a0.zones v5).bind λx6=>ck (bR v6.length v6.length (sub ([x6.name]:U ByteArray) 0 1).length 1 16)<|jm (v6++(sub ([x6.name]:U ByteArray) 0 1)) λr2=>ck (aE r2.length r2.length)<|some r2 else ck (aE v6.length v6.length)<|some v6):J ((List ByteArray))).bind λv8=>ck (aE v8.length v8.length)<|some (.inl ((i64.wrap (v5+1)),v8))else ck (aE v6.length v6.length)<|some (.inr v6))
def Dy(a0:dh)(a1:U ax):J (List ByteArray):=
 (wL n a0 a1).bind λr1=>(iter (qY a0 r1) n ((-1),0)).bind λw1=>ck (aE 0 ([]:U ByteArray).length)<|(iter (yL a0 r1 w1) n (0,[])).bind λw2=>ck (aE (sub w2 0 w2.length).length w2.length)<|some (sub w2 0 w2.length)
def Bf(a0:gL)(a1:aG):J (mZ×Int):=
 (Oi n a0.land a1.lot).bind λr1=>(bif (!r1.2)then some ((mZ.mk ([]) ([]) ([]) ([]) ([]) ([]) ([]) 0 ([]) ([]) ([]) ([]) ([]) 0 0 ([]) ([]) 0 ([]) ([]) ([])),4)else(kS n (dh.mk a0.cw a0.co a0.cm a0.br a0.cx a0.cp a0.cL a0.ct) r1.1 a1).bind λr2=>(bif (!r2)then some ((mZ.mk ([]) ([]) ([]) ([]) ([]) ([]) ([]) 0 ([]) ([]) ([]) ([]) ([]) 0 0 ([]) ([]) 0 ([]) ([]) ([])),1)else(uN n a1).bind λr3=>(Dy n (dh.mk a0.cw a0.co a0.cm a0.br a0.cx a0.cp a0.cL a0.ct) r1.1.area).bind λr4=>ck (aE (sub r3 0 r3.length).length r3.length)<|ck (aE (sub r4 0 r4.length).length r4.length)<|some ((mZ.mk a0.cw a0.co a0.cm a0.br a0.cx a0.cp a0.cL a0.ct a0.land a0.cA a0.windows a0.built a0.base r1.1.id r1.1.owner r1.1.area r1.1.from_ a1.lot a1.phases (sub r3 0 r3.length) (sub r4 0 r4.length)),0)))
def oG(a0:U ByteArray)(a1:ByteArray):Stp Int (Unit⊕Int)
 |v1=>(bif decide (v1<a0.length)then(bu a0 v1).bind λx1=>(bif (ByteArray.toList a1==ByteArray.toList x1)then(some v1).map λa=>.inr (.inr a)else some (.inl (i64.wrap (v1+1))))else some (.inr (.inl ())))
def sO(a0:U ByteArray)(a1:ByteArray):J Int:=
 dM (iter (oG a0 a1) n 0) λ()=>some (-1)
def gG(a0:U ByteArray)(a1:ByteArray):J Bool:=
 (sO n a0 a1).bind λr1=>some (decide (r1>=0))
def kX(a0:ByteArray)(a1:U ByteArray):J Bool:=
 (gG n a1 a0).bind λr1=>some r1
def Fp(a0:U ByteArray)(a1:(ByteArray×Unit)->J Bool):Stp Int (Unit⊕Int)
 |v1=>(bif decide (v1<a0.length)then(bu a0 v1).bind λx1=>(a1 (x1,())).bind λr1=>(bif r1 then(some v1).map λa=>.inr (.inr a)else some (.inl (i64.wrap (v1+1))))else some (.inr (.inl ())))
def rF(a0:U ByteArray)(a1:(ByteArray×Unit)->J Bool):J Int:=
 dM (iter (Fp a0 a1) n 0) λ()=>some (-1)
def gQ(a0:U ByteArray)(a1:(ByteArray×Unit)->J Bool):J Bool:=
 (rF n a0 a1).bind λr1=>some (decide (r1>=0))
def rU(a0:dw)(a1:U ByteArray):J Bool:=
 (bif ((a0.zones.length:Int)==0)then(gQ n a0.except (λ (y1:ByteArray×Unit)=>kX n y1.1 a1)).bind λr1=>some (!r1)else(gQ n a0.zones (λ (y2:ByteArray×Unit)=>kX n y2.1 a1)).bind λr2=>(bif r2 then(gQ n a0.except (λ (y3:ByteArray×Unit)=>kX n y3.1 a1)).bind λr3=>some (!r3)else some false))
def sP(a0:dh)(a1:U ByteArray)(a2:Int):Stp (Int×(List Int)) (List Int)
 |(v1,v2)=>(bif decide (v1<a0.rules.length)then((bu a0.rules v1).bind λx1=>((bif decide (x1.from_<=a2)then(bif (x1.k9==0)then(rU n x1 a1).bind λr1=>some r1 else(bif decide (a2<x1.k9)then(rU n x1 a1).bind λr2=>some r2 else some false))else some false)).bind λv3=>(bif v3 then ck (bR v2.length v2.length (sub ([v1]:U Int) 0 1).length 1 8)<|jm (v2++(sub ([v1]:U Int) 0 1)) λr3=>ck (aE r3.length r3.length)<|some r3 else ck (aE v2.length v2.length)<|some v2):J ((List Int))).bind λv4=>ck (aE v4.length v4.length)<|some (.inl ((i64.wrap (v1+1)),v4))else ck (aE v2.length v2.length)<|some (.inr v2))
def uQ(a0:dh)(a1:U ByteArray)(a2:Int):J (List Int):=
 ck (aE 0 ([]:U Int).length)<|(iter (sP n a0 a1 a2) n (0,[])).bind λw1=>ck (aE (sub w1 0 w1.length).length w1.length)<|some (sub w1 0 w1.length)
def vZ(_:Nat)(a0:U ax)(a1:(ax×ax×Unit)->J Int):J (List ax):=It a0 a1
def jh(a0:ax)(a1:ax):J Int:=
 (cmp_Compare_int a0.y0 a1.y0).bind λr1=>some r1
def jV(a0:ay):J Int:=
 ((bif a0.extra then some true else(fV a0).bind λr1=>some (!r1))).bind λv1=>(bif v1 then some 0 else ck (3 !=0)<|some (i64.wrap (Int.tdiv (i64.wrap ((i64.wrap ((i64.wrap (a0.cg-a0.ca))+3))-1)) 3)))
def ng(a0:ay):J Int:=
 (fV a0).bind λr1=>(bif (!r1)then some 0 else(uM (ax.mk a0.bj a0.bo a0.be a0.bk)).bind λr2=>(jV a0).bind λr3=>some (i64.wrap (r2*r3)))
def oH(a0:ay):J Int:=
 some a0.cg
def pV(a0:ay):J Int:=
 some a0.units
def BV(a0:ax)(a1:Int):J (ax×Bool):=
 (nJ (ax.mk (i64.wrap (a0.x0-a1)) (i64.wrap (a0.y0-a1)) (i64.wrap (a0.x1+a1)) (i64.wrap (a0.y1+a1)))).bind λr1=>some ((ax.mk (i64.wrap (a0.x0-a1)) (i64.wrap (a0.y0-a1)) (i64.wrap (a0.x1+a1)) (i64.wrap (a0.y1+a1))),r1)
def lC(a0:bG)(a1:Ko)(a2:Int):J Bool:=
 ck (cz a2 6)<|(bu ([a1.a0,a1.a1,a1.a2,a1.a3,a1.a4,a1.a5]:U ByteArray) a2).bind λx1=>some (ByteArray.toList a0.name==ByteArray.toList x1)
def Gs(a0:U bG)(a1:(bG×Unit)->J Bool):Stp Int (Unit⊕Int)
 |v1=>(bif decide (v1<a0.length)then(bu a0 v1).bind λx1=>(a1 (x1,())).bind λr1=>(bif r1 then(some v1).map λa=>.inr (.inr a)else some (.inl (i64.wrap (v1+1))))else some (.inr (.inl ())))
def lD(a0:U bG)(a1:(bG×Unit)->J Bool):J Int:=
 dM (iter (Gs a0 a1) n 0) λ()=>some (-1)
def lF(a0:dh)(a1:Int):Stp Int (Unit⊕Int)
 |v1=>(bif decide (v1<a0.tables.length)then(bu a0.tables v1).bind λx1=>(bif (!(ByteArray.toList x1.name==ByteArray.toList (⟨#[116,114,97,102,102,105,99]⟩)))then some (.inl (i64.wrap (v1+1)))else((lD n x1.rows (λ (y1:bG×Unit)=>lC y1.1 (Ko.mk (⟨#[104,111,109,101]⟩) (⟨#[115,104,111,112]⟩) (⟨#[119,111,114,107]⟩) (⟨#[112,97,114,107]⟩) (⟨#[112,108,97,110,116]⟩) (⟨#[104,97,108,108]⟩)) a1)).bind λr1=>(bif decide (r1>=0)then(bu x1.rows r1).bind λx2=>some x2.n else some x1.sY):J Int).bind λv2=>(some (max 0 (min v2 1048576))).map λa=>.inr (.inr a))else some (.inr (.inl ())))
def Bg(a0:dh)(a1:Int):J Int:=
 dM (iter (lF n a0 a1) n 0) λ()=>some 0
def jW(a0:dh)(a1:ay):J Int:=
 (Bg n a0 a1.use).bind λr1=>(ng a1).bind λr2=>((bif decide (r1>0)then ck (r1 !=0)<|some (decide (r2>(i64.wrap (Int.tdiv 109951162777600 r1))))else some false)).bind λv1=>(bif v1 then some 1099511627776 else ck (100 !=0)<|some (i64.wrap (Int.tdiv (i64.wrap ((i64.wrap ((i64.wrap (r1*r2))+100))-1)) 100)))
def nL(a0:U gZ)(a1:U dD)(a2:U fO)(a3:U dw)(a4:U jE)(a5:U iD)(a6:U dI)(a7:Int)(a8:U ax)(a9:U ay):J (Int×iO):=
 (Oz n a8).bind λr1=>ck (aE a9.length a9.length)<|some (r1,a0,a1,a2,a3,a4,a5,a6,a7,a8,a9)
def ic(a9:U ay):Stp (Int×(List ax)×(List Int)) ((List ax)×(List Int))
 |(v1,v2,v3)=>(bif decide (v1<(a9.length:Nat))then ck (cz v1 a9.length)<|(bu a9 ((0:Nat)+v1:Int)).bind λx1=>ck (cz v1 ((a9.length:Int).toNat))<|(bu v2 ((0:Nat)+v1:Int)).bind λx2=>ck (cz v1 ((a9.length:Int).toNat))<|(bu (v2.set ((0:Nat)+v1:Int).toNat (ax.mk x1.bj x1.bo x1.be x1.bk)) ((0:Nat)+v1:Int)).bind λx3=>ck (cz v1 ((a9.length:Int).toNat))<|(bu (v2.set ((0:Nat)+v1:Int).toNat (ax.mk x1.bj x1.bo x1.be x1.bk)) ((0:Nat)+v1:Int)).bind λx4=>ck (bR v3.length v3.length (sub ([x3.x0,x4.x1]:U Int) 0 2).length 2 8)<|jm (v3++(sub ([x3.x0,x4.x1]:U Int) 0 2)) λr1=>ck (aE r1.length r1.length)<|some (.inl ((i64.wrap (v1+1)),(v2.set ((0:Nat)+v1:Int).toNat (ax.mk x1.bj x1.bo x1.be x1.bk)),r1))else ck (aE v3.length v3.length)<|some (.inr (v2,v3)))
def ig(a9:U ay)(w2:U Int)(r2:U ax)(r3:U Int)(v5:Int):Stp (Int×Int×Int) Int
 |(v6,v7,v8)=>(bif decide (v8<(((a9.length:Int).toNat:Nat):Int))then(ck (cz v8 ((a9.length:Int).toNat))<|(bu r2 ((0:Nat)+v8:Int)).bind λx5=>(ck (cz v5 w2.length)<|(bu r3 ((0:Nat)+v5:Int)).bind λx6=>(bif decide (x5.x0<=x6)then ck (cz v5 w2.length)<|(bu r3 ((0:Nat)+v5:Int)).bind λx7=>(bif decide (x7<x5.x1)then some (decide (x5.y1>v7))else some false)else some false)).bind λv9=>(bif v9 then ck (cz (i64.wrap (v5+1)) w2.length)<|(bu r3 ((0:Nat)+(i64.wrap (v5+1)):Int)).bind λx8=>ck (cz v5 w2.length)<|(bu r3 ((0:Nat)+v5:Int)).bind λx9=>some ((i64.wrap (v6+(i64.wrap ((i64.wrap (x8-x9))*(i64.wrap (x5.y1-(max v7 x5.y0))))))),x5.y1)else some (v6,v7)):J (Int×Int)).bind λ(v10,v11)=>some (.inl (v10,v11,(i64.wrap (v8+1))))else some (.inr v6))
def iq(a9:U ay)(w2:U Int)(r2:U ax)(r3:U Int):Stp (Int×Int) Int
 |(v4,v5)=>(bif (decide (v5<((max 0 (i64.wrap ((w2.length:Nat)-1))):Int)))then(iter (ig a9 w2 r2 r3 v5) n (v4,0,0)).bind λw3=>some (.inl (w3,(i64.wrap (v5+1))))else some (.inr v4))
def ji(a0:U gZ)(a1:U dD)(a2:U fO)(a3:U dw)(a4:U jE)(a5:U iD)(a6:U dI)(a7:Int)(a8:U ax)(a9:U ay):J (Int×iO):=
 ck (decide ((a9.length:Int)<=(a9.length:Nat))&&(decide (0<=(a9.length:Int))&&xN (a9.length:Nat) 32))<|ck (aE 0 ([]:U Int).length)<|(iter (ic a9) n (0,(List.replicate (a9.length:Int).toNat (ax.mk 0 0 0 0)),[])).bind λ(w1,w2)=>ck (aE ((a9.length:Int).toNat) w1.length)<|(vZ n w1 (λ (y1:ax×ax×Unit)=>jh y1.1 y1.2.1)).bind λr2=>ck (aE w2.length w2.length)<|(og n w2).bind λr3=>(iter (iq n a9 w2 r2 r3) n (0,0)).bind λw4=>ck (aE a9.length a9.length)<|some (w4,a0,a1,a2,a3,a4,a5,a6,a7,a8,a9)
def ku(a9:U ay):Stp (Int×Int) Int
 |(v1,v2)=>(bif decide (v2<(a9.length:Nat))then ck (cz v2 a9.length)<|(bu a9 ((0:Nat)+v2:Int)).bind λx1=>(ng x1).bind λr1=>some (.inl ((i64.wrap (v1+r1)),(i64.wrap (v2+1))))else some (.inr v1))
def rG(a0:U gZ)(a1:U dD)(a2:U fO)(a3:U dw)(a4:U jE)(a5:U iD)(a6:U dI)(a7:Int)(a8:U ax)(a9:U ay):J (Int×iO):=
 (iter (ku a9) n (0,0)).bind λw1=>ck (aE a9.length a9.length)<|some (w1,a0,a1,a2,a3,a4,a5,a6,a7,a8,a9)
def lK(a0:U gZ)(a1:U dD)(a2:U fO)(a3:U dw)(a4:U jE)(a5:U iD)(a6:U dI)(a7:Int)(a8:U ax)(a9:U ay):J (Int×iO):=
 ck (aE a9.length a9.length)<|(rG n a0 a1 a2 a3 a4 a5 a6 a7 a8 a9).bind λr1=>ck (aE r1.2.2.2.2.2.2.2.2.2.2.length r1.2.2.2.2.2.2.2.2.2.2.length)<|some (r1.1,r1.2.1,r1.2.2.1,r1.2.2.2.1,r1.2.2.2.2.1,r1.2.2.2.2.2.1,r1.2.2.2.2.2.2.1,r1.2.2.2.2.2.2.2.1,r1.2.2.2.2.2.2.2.2.1,r1.2.2.2.2.2.2.2.2.2.1,r1.2.2.2.2.2.2.2.2.2.2)
def iP(a9:U ay):Stp (Int×Int) Int
 |(v1,v2)=>(bif decide (v2<(a9.length:Nat))then ck (cz v2 a9.length)<|(bu a9 ((0:Nat)+v2:Int)).bind λx1=>(jV x1).bind λr1=>some (.inl ((max v1 r1),(i64.wrap (v2+1))))else some (.inr v1))
def ni(a0:U gZ)(a1:U dD)(a2:U fO)(a3:U dw)(a4:U jE)(a5:U iD)(a6:U dI)(a7:Int)(a8:U ax)(a9:U ay):J (Int×iO):=
 (iter (iP a9) n (0,0)).bind λw1=>ck (aE a9.length a9.length)<|some (w1,a0,a1,a2,a3,a4,a5,a6,a7,a8,a9)
def kz(a0:U gZ)(a1:U dD)(a2:U fO)(a3:U dw)(a4:U jE)(a5:U iD)(a6:U dI)(a7:Int)(a8:U ax)(a9:U ay):J (Int×iO):=
 ck (aE a9.length a9.length)<|(ni n a0 a1 a2 a3 a4 a5 a6 a7 a8 a9).bind λr1=>ck (aE r1.2.2.2.2.2.2.2.2.2.2.length r1.2.2.2.2.2.2.2.2.2.2.length)<|some (r1.1,r1.2.1,r1.2.2.1,r1.2.2.2.1,r1.2.2.2.2.1,r1.2.2.2.2.2.1,r1.2.2.2.2.2.2.1,r1.2.2.2.2.2.2.2.1,r1.2.2.2.2.2.2.2.2.1,r1.2.2.2.2.2.2.2.2.2.1,r1.2.2.2.2.2.2.2.2.2.2)
def iQ(a9:U ay):Stp (Int×Int) Int
 |(v1,v2)=>(bif decide (v2<(a9.length:Nat))then ck (cz v2 a9.length)<|(bu a9 ((0:Nat)+v2:Int)).bind λx1=>(oH x1).bind λr1=>some (.inl ((max v1 r1),(i64.wrap (v2+1))))else some (.inr v1))
def nk(a0:U gZ)(a1:U dD)(a2:U fO)(a3:U dw)(a4:U jE)(a5:U iD)(a6:U dI)(a7:Int)(a8:U ax)(a9:U ay):J (Int×iO):=
 (iter (iQ a9) n (0,0)).bind λw1=>ck (aE a9.length a9.length)<|some (w1,a0,a1,a2,a3,a4,a5,a6,a7,a8,a9)
def kC(a0:U gZ)(a1:U dD)(a2:U fO)(a3:U dw)(a4:U jE)(a5:U iD)(a6:U dI)(a7:Int)(a8:U ax)(a9:U ay):J (Int×iO):=
 ck (aE a9.length a9.length)<|(nk n a0 a1 a2 a3 a4 a5 a6 a7 a8 a9).bind λr1=>ck (aE r1.2.2.2.2.2.2.2.2.2.2.length r1.2.2.2.2.2.2.2.2.2.2.length)<|some (r1.1,r1.2.1,r1.2.2.1,r1.2.2.2.1,r1.2.2.2.2.1,r1.2.2.2.2.2.1,r1.2.2.2.2.2.2.1,r1.2.2.2.2.2.2.2.1,r1.2.2.2.2.2.2.2.2.1,r1.2.2.2.2.2.2.2.2.2.1,r1.2.2.2.2.2.2.2.2.2.2)
def kD(a9:U ay):Stp (Int×Int) Int
 |(v1,v2)=>(bif decide (v2<(a9.length:Nat))then ck (cz v2 a9.length)<|(bu a9 ((0:Nat)+v2:Int)).bind λx1=>(pV x1).bind λr1=>some (.inl ((i64.wrap (v1+r1)),(i64.wrap (v2+1))))else some (.inr v1))
def rH(a0:U gZ)(a1:U dD)(a2:U fO)(a3:U dw)(a4:U jE)(a5:U iD)(a6:U dI)(a7:Int)(a8:U ax)(a9:U ay):J (Int×iO):=
 (iter (kD a9) n (0,0)).bind λw1=>ck (aE a9.length a9.length)<|some (w1,a0,a1,a2,a3,a4,a5,a6,a7,a8,a9)
def lM(a0:U gZ)(a1:U dD)(a2:U fO)(a3:U dw)(a4:U jE)(a5:U iD)(a6:U dI)(a7:Int)(a8:U ax)(a9:U ay):J (Int×iO):=
 ck (aE a9.length a9.length)<|(rH n a0 a1 a2 a3 a4 a5 a6 a7 a8 a9).bind λr1=>ck (aE r1.2.2.2.2.2.2.2.2.2.2.length r1.2.2.2.2.2.2.2.2.2.2.length)<|some (r1.1,r1.2.1,r1.2.2.1,r1.2.2.2.1,r1.2.2.2.2.1,r1.2.2.2.2.2.1,r1.2.2.2.2.2.2.1,r1.2.2.2.2.2.2.2.1,r1.2.2.2.2.2.2.2.2.1,r1.2.2.2.2.2.2.2.2.2.1,r1.2.2.2.2.2.2.2.2.2.2)
def je(kO:U ax)(r1:ax×Bool):Stp (Int×Int) Int
 |(v1,v2)=>(bif decide (v2<kO.length)then((bu kO v2).bind λx1=>(tV r1.1 x1).bind λr2=>(bif r2.2 then(uM r2.1).bind λr3=>some (i64.wrap (v1+r3))else some v1):J Int).bind λv3=>some (.inl (v3,(i64.wrap (v2+1))))else some (.inr v1))
def kE(a0:ax)(a1:Int)(a2:U gZ)(a3:U dD)(a4:U fO)(a5:U dw)(a6:U jE)(a7:U iD)(a8:U dI)(a9:Int)(kO:U ax)(tP:U ay):J (Bool×iO):=
 (BV a0 a1).bind λr1=>(bif (!r1.2)then ck (aE tP.length tP.length)<|some (false,a2,a3,a4,a5,a6,a7,a8,a9,kO,tP)else(iter (je kO r1) n (0,0)).bind λw1=>(uM r1.1).bind λr4=>ck (aE tP.length tP.length)<|some ((w1==r4),a2,a3,a4,a5,a6,a7,a8,a9,kO,tP))
def fq(x1:ay):Stp (Int×Int×iO) (Int×iO)
 |(v13,v14,v15,v16,v17,v18,v19,v20,v21,v22,v23,v24)=>(bif decide (v13<v14)then ck (2 !=0)<|ck (aE v24.length v24.length)<|(kE n (ax.mk x1.bj x1.bo x1.be x1.bk) (i64.wrap (Int.tdiv (i64.wrap ((i64.wrap (v13+v14))+1)) 2)) v15 v16 v17 v18 v19 v20 v21 v22 v23 v24).bind λr1=>(bif r1.1 then ck (aE r1.2.2.2.2.2.2.2.2.2.2.length r1.2.2.2.2.2.2.2.2.2.2.length)<|some (.inl ((i64.wrap (Int.tdiv (i64.wrap ((i64.wrap (v13+v14))+1)) 2)),v14,r1.2.1,r1.2.2.1,r1.2.2.2.1,r1.2.2.2.2.1,r1.2.2.2.2.2.1,r1.2.2.2.2.2.2.1,r1.2.2.2.2.2.2.2.1,r1.2.2.2.2.2.2.2.2.1,r1.2.2.2.2.2.2.2.2.2.1,r1.2.2.2.2.2.2.2.2.2.2))else ck (aE r1.2.2.2.2.2.2.2.2.2.2.length r1.2.2.2.2.2.2.2.2.2.2.length)<|some (.inl (v13,(i64.wrap ((i64.wrap (Int.tdiv (i64.wrap ((i64.wrap (v13+v14))+1)) 2))-1)),r1.2.1,r1.2.2.1,r1.2.2.2.1,r1.2.2.2.2.1,r1.2.2.2.2.2.1,r1.2.2.2.2.2.2.1,r1.2.2.2.2.2.2.2.1,r1.2.2.2.2.2.2.2.2.1,r1.2.2.2.2.2.2.2.2.2.1,r1.2.2.2.2.2.2.2.2.2.2)))else ck (aE v24.length v24.length)<|some (.inr (v13,v15,v16,v17,v18,v19,v20,v21,v22,v23,v24)))
def iY(a9:U ay):Stp (Int×Int×iO) (Int×iO)
 |(v1,v2,v3,v4,v5,v6,v7,v8,v9,v10,v11,v12)=>(bif decide (v2<(a9.length:Nat))then ck (cz v2 a9.length)<|(bu v12 ((0:Nat)+v2:Int)).bind λx1=>ck (aE v12.length v12.length)<|(iter (fq n x1) n (0,v1,v3,v4,v5,v6,v7,v8,v9,v10,v11,v12)).bind λ(w1,w2,w3,w4,w5,w6,w7,w8,w9,wx,wv)=>ck (aE wv.length wv.length)<|some (.inl (w1,(i64.wrap (v2+1)),w2,w3,w4,w5,w6,w7,w8,w9,wx,wv))else ck (aE v12.length v12.length)<|some (.inr (v1,v3,v4,v5,v6,v7,v8,v9,v10,v11,v12)))
def jR(a0:U gZ)(a1:U dD)(a2:U fO)(a3:U dw)(a4:U jE)(a5:U iD)(a6:U dI)(a7:Int)(a8:U ax)(a9:U ay):J (Int×iO):=
 ck (aE a9.length a9.length)<|(iter (iY n a9) n (1048576,0,a0,a1,a2,a3,a4,a5,a6,a7,a8,a9)).bind λ(I0,IT,IS,IR,w16,yW,w18,w19,w20,w21,XN)=>ck (aE XN.length XN.length)<|some (I0,IT,IS,IR,w16,yW,w18,w19,w20,w21,XN)
def lG(a0:ay)(a1:U gZ)(a2:U dD)(a3:U fO)(a4:U dw)(a5:U jE)(a6:U iD)(a7:U dI)(a8:Int)(a9:U ax)(kO:U ay):J (Int×iO):=
 (jW n (dh.mk a1 a2 a3 a4 a5 a6 a7 a8) a0).bind λr1=>ck (aE kO.length kO.length)<|some (r1,a1,a2,a3,a4,a5,a6,a7,a8,a9,kO)
def kF(a9:U ay):Stp (Int×Int×iO) (Int×iO)
 |(v1,v2,v3,v4,v5,v6,v7,v8,v9,v10,v11,v12)=>(bif decide (v2<(a9.length:Nat))then ck (cz v2 a9.length)<|(bu v12 ((0:Nat)+v2:Int)).bind λx1=>ck (aE v12.length v12.length)<|(lG n x1 v3 v4 v5 v6 v7 v8 v9 v10 v11 v12).bind λr1=>ck (aE r1.2.2.2.2.2.2.2.2.2.2.length r1.2.2.2.2.2.2.2.2.2.2.length)<|some (.inl ((i64.wrap (v1+r1.1)),(i64.wrap (v2+1)),r1.2.1,r1.2.2.1,r1.2.2.2.1,r1.2.2.2.2.1,r1.2.2.2.2.2.1,r1.2.2.2.2.2.2.1,r1.2.2.2.2.2.2.2.1,r1.2.2.2.2.2.2.2.2.1,r1.2.2.2.2.2.2.2.2.2.1,r1.2.2.2.2.2.2.2.2.2.2))else ck (aE v12.length v12.length)<|some (.inr (v1,v3,v4,v5,v6,v7,v8,v9,v10,v11,v12)))
def rJ(a0:U gZ)(a1:U dD)(a2:U fO)(a3:U dw)(a4:U jE)(a5:U iD)(a6:U dI)(a7:Int)(a8:U ax)(a9:U ay):J (Int×iO):=
 ck (aE a9.length a9.length)<|(iter (kF n a9) n (0,0,a0,a1,a2,a3,a4,a5,a6,a7,a8,a9)).bind λ(w1,w2,w3,w4,w5,w6,w7,w8,w9,wx,wv)=>ck (aE wv.length wv.length)<|some (w1,w2,w3,w4,w5,w6,w7,w8,w9,wx,wv)
def jS(a0:U gZ)(a1:U dD)(a2:U fO)(a3:U dw)(a4:U jE)(a5:U iD)(a6:U dI)(a7:Int)(a8:U ax)(a9:U ay):J (Int×iO):=
 ck (aE a9.length a9.length)<|(rJ n a0 a1 a2 a3 a4 a5 a6 a7 a8 a9).bind λr1=>ck (aE r1.2.2.2.2.2.2.2.2.2.2.length r1.2.2.2.2.2.2.2.2.2.2.length)<|some (r1.1,r1.2.1,r1.2.2.1,r1.2.2.2.1,r1.2.2.2.2.1,r1.2.2.2.2.2.1,r1.2.2.2.2.2.2.1,r1.2.2.2.2.2.2.2.1,r1.2.2.2.2.2.2.2.2.1,r1.2.2.2.2.2.2.2.2.2.1,r1.2.2.2.2.2.2.2.2.2.2)
def rV(r2:U ay):Stp (Int×iO) (iO)
 |(v10,v11,v12,v13,v14,v15,v16,v17,v18,v19,v20)=>(bif decide (v10<(r2.length:Nat))then(ck (cz v10 r2.length)<|(bu r2 ((0:Nat)+v10:Int)).bind λx1=>((bif decide (v10<40)then(fV x1).bind λr3=>some r3 else some false)).bind λv21=>(bif v21 then ck (bR v20.length v20.length (sub ([x1]:U ay) 0 1).length 1 72)<|jm (v20++(sub ([x1]:U ay) 0 1)) λr4=>ck (aE r4.length r4.length)<|some (v11,v12,v13,v14,v15,v16,v17,v18,v19,r4)else ck (aE v20.length v20.length)<|some (v11,v12,v13,v14,v15,v16,v17,v18,v19,v20)):J (iO)).bind λ(v22,v23,v24,v25,v26,v27,v28,v29,v30,v31)=>ck (aE v31.length v31.length)<|some (.inl ((i64.wrap (v10+1)),v22,v23,v24,v25,v26,v27,v28,v29,v30,v31))else ck (aE v20.length v20.length)<|some (.inr (v11,v12,v13,v14,v15,v16,v17,v18,v19,v20)))
def oI(a0:dh)(a1:j5)(a2:aG):J (List bG):=
 ((oV n a1.area).bind λr1=>(bif r1 then some (a0.defs,a0.tables,a0.zones,a0.rules,a0.caps,a0.views,a0.xa,a0.hours,a1.area)else some (a0.defs,a0.tables,a0.zones,a0.rules,a0.caps,a0.views,a0.xa,a0.hours,[])):J ((List gZ)×(List dD)×(List fO)×(List dw)×(List jE)×(List iD)×(List dI)×Int×(List ax))).bind λ(v1,v2,v3,v4,v5,v6,v7,v8,v9)=>(lY n a2 0 a2.phases.length).bind λr2=>ck (aE 0 ([]:U ay).length)<|(iter (rV r2) n (0,v1,v2,v3,v4,v5,v6,v7,v8,v9,[])).bind λ(w1,w2,w3,w4,w5,w6,w7,w8,w9,wx)=>ck (aE wx.length wx.length)<|(nL n w1 w2 w3 w4 w5 w6 w7 w8 w9 wx).bind λr5=>ck (bR 0 0 (sub ([(bG.mk (⟨#[97,114,101,97]⟩) r5.1)]:U bG) 0 1).length 1 24)<|jm ((sub ([(bG.mk (⟨#[97,114,101,97]⟩) r5.1)]:U bG) 0 1)) λr6=>ck (aE r5.2.2.2.2.2.2.2.2.2.2.length r5.2.2.2.2.2.2.2.2.2.2.length)<|(ji n r5.2.1 r5.2.2.1 r5.2.2.2.1 r5.2.2.2.2.1 r5.2.2.2.2.2.1 r5.2.2.2.2.2.2.1 r5.2.2.2.2.2.2.2.1 r5.2.2.2.2.2.2.2.2.1 r5.2.2.2.2.2.2.2.2.2.1 r5.2.2.2.2.2.2.2.2.2.2).bind λr7=>ck (bR r6.length r6.length (sub ([(bG.mk (⟨#[99,111,118,101,114]⟩) r7.1)]:U bG) 0 1).length 1 24)<|jm (r6++(sub ([(bG.mk (⟨#[99,111,118,101,114]⟩) r7.1)]:U bG) 0 1)) λr8=>ck (aE r7.2.2.2.2.2.2.2.2.2.2.length r7.2.2.2.2.2.2.2.2.2.2.length)<|(lK n r7.2.1 r7.2.2.1 r7.2.2.2.1 r7.2.2.2.2.1 r7.2.2.2.2.2.1 r7.2.2.2.2.2.2.1 r7.2.2.2.2.2.2.2.1 r7.2.2.2.2.2.2.2.2.1 r7.2.2.2.2.2.2.2.2.2.1 r7.2.2.2.2.2.2.2.2.2.2).bind λr9=>ck (bR r8.length r8.length (sub ([(bG.mk (⟨#[102,108,111,111,114]⟩) r9.1)]:U bG) 0 1).length 1 24)<|jm (r8++(sub ([(bG.mk (⟨#[102,108,111,111,114]⟩) r9.1)]:U bG) 0 1)) λyd=>ck (aE r9.2.2.2.2.2.2.2.2.2.2.length r9.2.2.2.2.2.2.2.2.2.2.length)<|(kz n r9.2.1 r9.2.2.1 r9.2.2.2.1 r9.2.2.2.2.1 r9.2.2.2.2.2.1 r9.2.2.2.2.2.2.1 r9.2.2.2.2.2.2.2.1 r9.2.2.2.2.2.2.2.2.1 r9.2.2.2.2.2.2.2.2.2.1 r9.2.2.2.2.2.2.2.2.2.2).bind λuc=>ck (bR yd.length yd.length (sub ([(bG.mk (⟨#[102,108,111,111,114,115]⟩) uc.1)]:U bG) 0 1).length 1 24)<|jm (yd++(sub ([(bG.mk (⟨#[102,108,111,111,114,115]⟩) uc.1)]:U bG) 0 1)) λZZ=>ck (aE uc.2.2.2.2.2.2.2.2.2.2.length uc.2.2.2.2.2.2.2.2.2.2.length)<|(kC n uc.2.1 uc.2.2.1 uc.2.2.2.1 uc.2.2.2.2.1 uc.2.2.2.2.2.1 uc.2.2.2.2.2.2.1 uc.2.2.2.2.2.2.2.1 uc.2.2.2.2.2.2.2.2.1 uc.2.2.2.2.2.2.2.2.2.1 uc.2.2.2.2.2.2.2.2.2.2).bind λua=>ck (bR ZZ.length ZZ.length (sub ([(bG.mk (⟨#[104,101,105,103,104,116]⟩) ua.1)]:U bG) 0 1).length 1 24)<|jm (ZZ++(sub ([(bG.mk (⟨#[104,101,105,103,104,116]⟩) ua.1)]:U bG) 0 1)) λZS=>ck (aE ua.2.2.2.2.2.2.2.2.2.2.length ua.2.2.2.2.2.2.2.2.2.2.length)<|(lM n ua.2.1 ua.2.2.1 ua.2.2.2.1 ua.2.2.2.2.1 ua.2.2.2.2.2.1 ua.2.2.2.2.2.2.1 ua.2.2.2.2.2.2.2.1 ua.2.2.2.2.2.2.2.2.1 ua.2.2.2.2.2.2.2.2.2.1 ua.2.2.2.2.2.2.2.2.2.2).bind λt7=>ck (bR ZS.length ZS.length (sub ([(bG.mk (⟨#[104,111,109,101,115]⟩) t7.1)]:U bG) 0 1).length 1 24)<|jm (ZS++(sub ([(bG.mk (⟨#[104,111,109,101,115]⟩) t7.1)]:U bG) 0 1)) λr16=>ck (aE t7.2.2.2.2.2.2.2.2.2.2.length t7.2.2.2.2.2.2.2.2.2.2.length)<|(ji n t7.2.1 t7.2.2.1 t7.2.2.2.1 t7.2.2.2.2.1 t7.2.2.2.2.2.1 t7.2.2.2.2.2.2.1 t7.2.2.2.2.2.2.2.1 t7.2.2.2.2.2.2.2.2.1 t7.2.2.2.2.2.2.2.2.2.1 t7.2.2.2.2.2.2.2.2.2.2).bind λt6=>ck (bR r16.length r16.length (sub ([(bG.mk (⟨#[114,117,110,111,102,102]⟩) t6.1)]:U bG) 0 1).length 1 24)<|jm (r16++(sub ([(bG.mk (⟨#[114,117,110,111,102,102]⟩) t6.1)]:U bG) 0 1)) λZD=>ck (aE t6.2.2.2.2.2.2.2.2.2.2.length t6.2.2.2.2.2.2.2.2.2.2.length)<|(jR n t6.2.1 t6.2.2.1 t6.2.2.2.1 t6.2.2.2.2.1 t6.2.2.2.2.2.1 t6.2.2.2.2.2.2.1 t6.2.2.2.2.2.2.2.1 t6.2.2.2.2.2.2.2.2.1 t6.2.2.2.2.2.2.2.2.2.1 t6.2.2.2.2.2.2.2.2.2.2).bind λtW=>ck (bR ZD.length ZD.length (sub ([(bG.mk (⟨#[115,101,116,98,97,99,107]⟩) tW.1)]:U bG) 0 1).length 1 24)<|jm (ZD++(sub ([(bG.mk (⟨#[115,101,116,98,97,99,107]⟩) tW.1)]:U bG) 0 1)) λZs=>ck (aE tW.2.2.2.2.2.2.2.2.2.2.length tW.2.2.2.2.2.2.2.2.2.2.length)<|(jS n tW.2.1 tW.2.2.1 tW.2.2.2.1 tW.2.2.2.2.1 tW.2.2.2.2.2.1 tW.2.2.2.2.2.2.1 tW.2.2.2.2.2.2.2.1 tW.2.2.2.2.2.2.2.2.1 tW.2.2.2.2.2.2.2.2.2.1 tW.2.2.2.2.2.2.2.2.2.2).bind λr21=>ck (bR Zs.length Zs.length (sub ([(bG.mk (⟨#[116,114,97,102,102,105,99]⟩) r21.1)]:U bG) 0 1).length 1 24)<|jm (Zs++(sub ([(bG.mk (⟨#[116,114,97,102,102,105,99]⟩) r21.1)]:U bG) 0 1)) λKd=>ck (aE (sub Kd 0 Kd.length).length Kd.length)<|some (sub Kd 0 Kd.length)
def zK(a0:Int):J (Int×Bool):=
 ((bif (a0==0)then some (a0==0)else(bif (a0==1)then some (a0==1)else(bif (a0==2)then some (a0==2)else some (a0==3))))).bind λv1=>(bif v1 then some (0,true)else((bif (a0==9)then some (a0==9)else some (a0==15))).bind λv2=>(bif v2 then some (1,true)else(bif (a0==16)then some (3,true)else(bif decide (a0>=0)then some (2,(decide (a0<17)))else some (2,false)))))
def yM(n:Nat)(rc:(bZ)->(Int)->J Int)(a0:bZ)(a1:Int):Stp (Int×Int) Int
 |(v2,v3)=>(bif decide (v3<a0.args.length)then(bu a0.args v3).bind λx1=>(rc (bZ.mk x1.op x1.n x1.s x1.key x1.args) (i64.wrap (a1+1))).bind λr2=>some (.inl ((max v2 r2),(i64.wrap (v3+1))))else some (.inr v2))
def Bh(rc:(bZ)->(Int)->J Int)(a0:bZ)(a1:Int):J Int:=
 (zK a0.op).bind λr1=>((bif (!r1.2)then some true else(bif (r1.1 !=a0.args.length)then some true else some (decide (a1>=12))))).bind λv1=>(bif v1 then some 13 else(iter (yM n rc a0 a1) n (0,0)).bind λw1=>some (i64.wrap (w1+1)))
def Fq(rc:(bZ)->(Int)->J Int):ci xx:=⟨[.d (.st SI.Expr),.d (.int .i64)],[.d (.int .i64)],λa=>rc a.1 a.2.1,none⟩
def tY(n:Nat):Nat->(bZ)->(Int)->J Int
 | 0=>λ_ _=>none
 |m+1=>Bh n (tY n m)
def Ra(a0:bZ)(a1:Int):J Int:=tY n n a0 a1
def Jf(a0:bZ):J Bool:=
 (Ra n (bZ.mk a0.op a0.n a0.s a0.key a0.args) 0).bind λr1=>some (decide (r1<=12))
def xS:J (List ByteArray):=
 ck (aE (sub ([⟨#[97,114,101,97]⟩,⟨#[99,111,118,101,114]⟩,⟨#[102,108,111,111,114]⟩,⟨#[102,108,111,111,114,115]⟩,⟨#[104,101,105,103,104,116]⟩,⟨#[104,111,109,101,115]⟩,⟨#[114,117,110,111,102,102]⟩,⟨#[115,101,116,98,97,99,107]⟩,⟨#[116,114,97,102,102,105,99]⟩]:U ByteArray) 0 9).length 9)<|some (sub ([⟨#[97,114,101,97]⟩,⟨#[99,111,118,101,114]⟩,⟨#[102,108,111,111,114]⟩,⟨#[102,108,111,111,114,115]⟩,⟨#[104,101,105,103,104,116]⟩,⟨#[104,111,109,101,115]⟩,⟨#[114,117,110,111,102,102]⟩,⟨#[115,101,116,98,97,99,107]⟩,⟨#[116,114,97,102,102,105,99]⟩]:U ByteArray) 0 9)
mutual
def toE:bZ->ET
 |⟨op,_,s,_,args⟩=>.mk op s (Jg args)
def Jg:List bZ->List ET
 |[]=>[]
 |x::xs=>toE x::Jg xs
end
def toD(d:gZ):ByteArray×ET:=(d.name,.mk d.ju d.lj (Jg d.ez))
def l5(a0:U gZ):J ((List gZ)×(List (List Int))):=ck (Nat.ble (sq (a0.map toD)) 4000000)<|some (a0,pU (a0.map toD))
def rW(a0:U Int)(a1:Int):J (List Int):=match a0 with
 |[x]=>ck (decide (0<=a1)&&decide (a1<=1000000000000))<|some (List.replicate a1.toNat x)
 |_=>none
def Us(a0:U Int)(a1:Int):Stp Int (Unit⊕Int)
 |v1=>(bif decide (v1<a0.length)then(bu a0 v1).bind λx1=>(bif (a1==x1)then(some v1).map λa=>.inr (.inr a)else some (.inl (i64.wrap (v1+1))))else some (.inr (.inl ())))
def Fs(a0:U Int)(a1:Int):J Int:=
 dM (iter (Us a0 a1) n 0) λ()=>some (-1)
def sQ(a0:U Int)(a1:Int):J Bool:=
 (Fs n a0 a1).bind λr1=>some (decide (r1>=0))
def gV(a0:qx)(r1:U Int)(x2:Int):Stp (Int×Int×(List Int)×(List Int)) (Int×(List Int)×(List Int))
 |(v4,v5,v6,v7)=>(bif decide (v5<a0.uses.length)then((bu a0.uses v5).bind λx3=>(ck (cz v5 r1.length)<|(bu v6 ((0:Nat)+v5:Int)).bind λx4=>(bif decide (x4<0)then(sQ n x3 x2).bind λr2=>some r2 else some false)).bind λv8=>(bif v8 then ck (cz x2 r1.length)<|(bu v6 ((0:Nat)+x2:Int)).bind λx5=>ck (cz v5 r1.length)<|(bu v6 ((0:Nat)+v5:Int)).bind λx6=>ck (bR (W9 (v4.toNat) v7).length (v7.length-v4.toNat) (sub ([v5]:U Int) 0 1).length 1 8)<|jm ((W9 (v4.toNat) v7)++(sub ([v5]:U Int) 0 1)) λr3=>ck (aE (0+r3.length) r3.length)<|some ((0:Nat),(v6.set ((0:Nat)+v5:Int).toNat (i64.wrap (x5+1))),r3)else ck (aE ((v4.toNat)+(v7.length-v4.toNat)) v7.length)<|some ((v4.toNat:Nat),v6,v7)):J (Int×(List Int)×(List Int))).bind λ(v9,v10,v11)=>ck (aE ((v9.toNat)+(v11.length-v9.toNat)) v11.length)<|some (.inl ((v9.toNat:Nat),(i64.wrap (v5+1)),v10,v11))else ck (aE ((v4.toNat)+(v7.length-v4.toNat)) v7.length)<|some (.inr ((v4.toNat:Nat),v6,v7)))
def eG(a0:qx)(r1:U Int):Stp (Int×(List Int)×(List Int)) (List Int)
 |(v1,v2,v3)=>(bif (decide ((((v3.length-(v1:Int).toNat):Nat):Int)>0))then ck (cz 0 (v3.length-v1.toNat))<|(bu v3 ((v1.toNat:Nat)+0:Int)).bind λx2=>ck (BM 1 ((v3.length-v1.toNat):Nat) (v3.length-v1.toNat))<|ck (aE ((v1.toNat+1)+((v3.length-v1.toNat)-1)) v3.length)<|(iter (gV n a0 r1 x2) n (((v1.toNat+1):Nat),0,v2,v3)).bind λ(w1,w2,w3)=>ck (aE ((w1.toNat)+(w3.length-w1.toNat)) w3.length)<|some (.inl ((w1.toNat:Nat),w2,w3))else some (.inr v2))
def kG(a0:qx)(a1:Int):J (List Int):=
 ck (aE (sub ([(-1)]:U Int) 0 1).length 1)<|(rW (sub ([(-1)]:U Int) 0 1) a0.defs.length).bind λr1=>ck (cz a1 r1.length)<|(bu r1 ((0:Nat)+a1:Int)).bind λx1=>ck (aE (0+1) ([a1]:U Int).length)<|(iter (eG n a0 r1) n ((0:Nat),(r1.set ((0:Nat)+a1:Int).toNat 0),([a1]:U Int))).bind λw4=>ck (aE (sub w4 0 r1.length).length r1.length)<|some (sub w4 0 r1.length)
def cmp_isNaN_string(a0:ByteArray):J Bool:=
 some (!(ByteArray.toList a0==ByteArray.toList a0))
def oJ(a0:ByteArray)(a1:ByteArray):J Int:=
 (cmp_isNaN_string a0).bind λr1=>(cmp_isNaN_string a1).bind λr2=>(bif r1 then(bif r2 then some 0 else some (-1))else(bif r2 then some 1 else(bif (WW a0 a1)then some (-1)else(bif (!(WW a0 a1 || ByteArray.toList a0==ByteArray.toList a1))then some 1 else some 0))))
def mH(a0:U ByteArray)(a1:U ByteArray):Stp Int (Unit⊕Int)
 |v1=>(bif decide (v1<a0.length)then(bu a0 v1).bind λx1=>(bif decide (v1>=a1.length)then(some 1).map λa=>.inr (.inr a)else(bu a1 v1).bind λx2=>(oJ x1 x2).bind λr1=>(bif (r1 !=0)then(some r1).map λa=>.inr (.inr a)else some (.inl (i64.wrap (v1+1)))))else some (.inr (.inl ())))
def mI(a0:U ByteArray)(a1:U ByteArray):J Int:=
 dM (iter (mH a0 a1) n 0) λ()=>(bif decide (a0.length<(a1.length:Int))then some (-1)else some 0)
def nu(a0:Int)(a1:U Bool):J (Bool×(List Bool)):=
 ck (cz a0 a1.length)<|(bu a1 ((0:Nat)+a0:Int)).bind λx1=>ck (aE a1.length a1.length)<|some ((!x1),a1)
def kH(a0:U Int):Stp (Int×(List Bool)) ((List Bool)⊕(Int×(List Bool)))
 |(v1,v2)=>(bif decide (v1<a0.length)then(bu a0 v1).bind λx1=>ck (aE v2.length v2.length)<|(nu x1 v2).bind λr1=>(bif r1.1 then(ck (aE r1.2.length r1.2.length)<|some (v1,r1.2)).map λa=>.inr (.inr a)else ck (aE r1.2.length r1.2.length)<|some (.inl ((i64.wrap (v1+1)),r1.2)))else ck (aE v2.length v2.length)<|some (.inr (.inl v2)))
def nM(a0:U Int)(a1:U Bool):J (Int×(List Bool)):=
 ck (aE a1.length a1.length)<|dM (iter (kH a0) n (0,a1)) λw1=>ck (aE w1.length w1.length)<|some ((-1),w1)
def iZ(a0:U Int)(a1:U Bool):J (Bool×(List Bool)):=
 ck (aE a1.length a1.length)<|(nM n a0 a1).bind λr1=>ck (aE r1.2.length r1.2.length)<|some ((decide (r1.1>=0)),r1.2)
def jk(a0:qx):Stp (Int×Int×(List Bool)) (Int×(List Bool))
 |(v4,v5,v6)=>(bif decide (v5<a0.uses.length)then((bu a0.uses v5).bind λx1=>ck (aE v6.length v6.length)<|(iZ n x1 v6).bind λr1=>(ck (cz v5 r1.2.length)<|(bu r1.2 ((0:Nat)+v5:Int)).bind λx2=>(bif (!x2)then(bif (!r1.1)then(bif decide (v4<0)then some true else(bu a0.defs v5).bind λx3=>(bu a0.defs v4).bind λx4=>some (WW x3.name x4.name))else some false)else some false)).bind λv7=>(bif v7 then ck (aE r1.2.length r1.2.length)<|some (v5,r1.2)else ck (aE r1.2.length r1.2.length)<|some (v4,r1.2)):J (Int×(List Bool))).bind λ(v8,v9)=>ck (aE v9.length v9.length)<|some (.inl (v8,(i64.wrap (v5+1)),v9))else ck (aE v6.length v6.length)<|some (.inr (v4,v6)))
def lN(a0:qx):Stp (Int×(List Int)×(List Bool)) (List Int)
 |(v1,v2,v3)=>(bif decide (v1<a0.defs.length)then ck (aE v3.length v3.length)<|(iter (jk n a0) n ((-1),0,v3)).bind λ(w1,w2)=>ck (cz w1 w2.length)<|(bu w2 ((0:Nat)+w1:Int)).bind λx5=>ck (bR v2.length v2.length (sub ([w1]:U Int) 0 1).length 1 8)<|jm (v2++(sub ([w1]:U Int) 0 1)) λr2=>ck (aE r2.length r2.length)<|ck (aE w2.length (w2.set ((0:Nat)+w1:Int).toNat true).length)<|some (.inl ((i64.wrap (v1+1)),r2,(w2.set ((0:Nat)+w1:Int).toNat true)))else ck (aE v2.length v2.length)<|some (.inr v2))
def oK(a0:qx):J (List Int):=
 ck (decide ((a0.defs.length:Int)<=a0.defs.length)&&(decide (0<=(a0.defs.length:Int))&&xN a0.defs.length 1))<|ck (aE 0 ([]:U Int).length)<|ck (aE ((a0.defs.length:Int).toNat) (List.replicate (a0.defs.length:Int).toNat false).length)<|(iter (lN n a0) n (0,[],(List.replicate (a0.defs.length:Int).toNat false))).bind λw3=>ck (aE (sub w3 0 w3.length).length w3.length)<|some (sub w3 0 w3.length)
def jf(r1:U Int)(x2:U Int):Stp (Int×Int) Int
 |(v3,v4)=>(bif decide (v4<x2.length)then((bu x2 v4).bind λx3=>(ck (cz x3 r1.length)<|(bu r1 ((0:Nat)+x3:Int)).bind λx4=>(bif decide (x4>=0)then(bif decide (v3<0)then some true else ck (cz x3 r1.length)<|(bu r1 ((0:Nat)+x3:Int)).bind λx5=>ck (cz v3 r1.length)<|(bu r1 ((0:Nat)+v3:Int)).bind λx6=>some (decide (x5<x6)))else some false)).bind λv5=>(bif v5 then some x3 else some v3):J Int).bind λv6=>some (.inl (v6,(i64.wrap (v4+1))))else some (.inr v3))
def lW(a0:Int)(a1:U gZ)(a2:U (List Int))(r1:U Int):Stp (Int×(List ByteArray)) (Unit⊕((List gZ)×(List (List Int))×(List ByteArray)))
 |(v1,v2)=>(bu a1 v1).bind λx1=>ck (bR v2.length v2.length (sub ([x1.name]:U ByteArray) 0 1).length 1 16)<|jm (v2++(sub ([x1.name]:U ByteArray) 0 1)) λr2=>(bu a2 v1).bind λx2=>(iter (jf r1 x2) n ((-1),0)).bind λw1=>(bif decide (w1<0)then(ck (aE 0 ([]:U ByteArray).length)<|some (a1,a2,[])).map λa=>.inr (.inr a)else(bif (w1==a0)then(ck (!(r2.length==0)&&aE r2.length r2.length)<|some (a1,a2,r2)).map λa=>.inr (.inr a)else ck (aE r2.length r2.length)<|some (.inl (w1,r2))))
def kI(a0:Int)(a1:U gZ)(a2:U (List Int)):J ((List gZ)×(List (List Int))×(List ByteArray)):=
 (kG n (qx.mk a1 a2) a0).bind λr1=>ck (aE 0 ([]:U ByteArray).length)<|dM (iter (lW n a0 a1 a2 r1) n (a0,[])) λ()=>none
def iR(a0:U gZ):Stp (Int×(List gZ)×(List (List Int))×(List ByteArray)) ((List gZ)×(List (List Int))×(List ByteArray))
 |(v1,v2,v3,v4)=>(bif decide (v1<a0.length)then((kI n v1 v2 v3).bind λr1=>((bif r1.2.2.length==0 then some true else some false)).bind λv5=>(bif v5 then ck (aE v4.length v4.length)<|some (r1.1,r1.2.1,v4)else((bif v4.length==0 then some true else(bif decide ((r1.2.2.length:Nat)<(v4.length:Int))then some true else(bif ((r1.2.2.length:Nat)==(v4.length:Int))then ck (aE (sub r1.2.2 0 r1.2.2.length).length r1.2.2.length)<|ck (aE (sub v4 0 v4.length).length v4.length)<|(mI n (sub r1.2.2 0 r1.2.2.length) (sub v4 0 v4.length)).bind λr2=>some (decide (r2<0))else some false)))).bind λv6=>(bif v6 then ck (aE r1.2.2.length r1.2.2.length)<|some (r1.1,r1.2.1,r1.2.2)else ck (aE v4.length v4.length)<|some (r1.1,r1.2.1,v4))):J ((List gZ)×(List (List Int))×(List ByteArray))).bind λ(v7,v8,v9)=>ck (aE v9.length v9.length)<|some (.inl ((i64.wrap (v1+1)),v7,v8,v9))else ck (aE v4.length v4.length)<|some (.inr (v2,v3,v4)))
def jF(a0:U gZ)(a1:U (List Int)):J ((List gZ)×(List (List Int))×(List ByteArray)):=
 ck (aE 0 ([]:U ByteArray).length)<|(iter (iR n a0) n (0,a0,a1,[])).bind λ(w1,w2,w3)=>ck (aE w3.length w3.length)<|some (w1,w2,w3)
def oW(r1:U ByteArray):Stp (Int×(List (ByteArray×Bool))) (List (ByteArray×Bool))
 |(v1,v2)=>(bif decide (v1<(r1.length:Nat))then ck (cz v1 r1.length)<|(bu r1 ((0:Nat)+v1:Int)).bind λx1=>some (.inl ((i64.wrap (v1+1)),(Gq gA x1 true v2)))else some (.inr v2))
def l6(a0:dh):Stp (Int×(List (ByteArray×Bool))) (Unit⊕((List Int)×(List ByteArray)×Int))
 |(v3,v4)=>(bif decide (v3<a0.defs.length)then(bu a0.defs v3).bind λx2=>(bif ((iC gA x2.name v4).getD false)then(some ([],[],5)).map λa=>.inr (.inr a)else some (.inl ((i64.wrap (v3+1)),(Gq gA x2.name true v4))))else some (.inr (.inl ())))
def oL(a0:dh):J ((List Int)×(List ByteArray)×Int):=
 (xS).bind λr1=>(iter (oW r1) n (0,([]:(List (ByteArray×Bool))))).bind λw1=>dM (iter (l6 a0) n (0,w1)) λ()=>(l5 a0.defs).bind λr2=>(jF n r2.1 r2.2).bind λr3=>((bif r3.2.2.length==0 then some false else some true)).bind λv5=>(bif v5 then ck (aE (sub r3.2.2 0 r3.2.2.length).length r3.2.2.length)<|some ([],(sub r3.2.2 0 r3.2.2.length),16)else(oK n (qx.mk r3.1 r3.2.1)).bind λr4=>ck (aE (sub r4 0 r4.length).length r4.length)<|some ((sub r4 0 r4.length),[],0))
def Bj(a0:dD)(a1:bZ):J Bool:=
 some (ByteArray.toList a0.name==ByteArray.toList a1.s)
def Gt(a0:U dD)(a1:(dD×Unit)->J Bool):Stp Int (Unit⊕Int)
 |v1=>(bif decide (v1<a0.length)then(bu a0 v1).bind λx1=>(a1 (x1,())).bind λr1=>(bif r1 then(some v1).map λa=>.inr (.inr a)else some (.inl (i64.wrap (v1+1))))else some (.inr (.inl ())))
def tF(a0:U dD)(a1:(dD×Unit)->J Bool):J Int:=
 dM (iter (Gt a0 a1) n 0) λ()=>some (-1)
def Bl(a0:bG)(a1:bZ):J Bool:=
 some (ByteArray.toList a0.name==ByteArray.toList a1.key)
def zL(a0:Bool):J Int:=
 (bif a0 then some 1 else some 0)
def xG(a0:Int)(a1:Int):J Int:=
 (bif (a1==0)then some 0 else ck (a1 !=0)<|(ck (a1 !=0)<|((bif ((Int.tmod a0 a1) !=0)then some (!((decide ((Int.tmod a0 a1)<0))==(decide (a1<0))))else some false)).bind λv1=>(bif v1 then some (i64.wrap ((i64.wrap (Int.tdiv a0 a1))-1))else some (i64.wrap (Int.tdiv a0 a1))):J Int).bind λv2=>some v2)
def Kt(a0:Int)(a1:Int)(a2:Int):J Int:=
 (bif (a0==4)then some (i64.wrap (a1+a2))else(bif (a0==5)then some (i64.wrap (a1-a2))else(bif (a0==6)then some (i64.wrap (a1*a2))else(bif (a0==7)then(xG a1 a2).bind λr1=>some r1 else(bif (a0==8)then(bif (a2==0)then some 0 else(xG a1 a2).bind λr2=>some (i64.wrap (a1-(i64.wrap (r2*a2)))))else(bif (a0==10)then(zL (a1==a2)).bind λr3=>some r3 else(bif (a0==11)then(zL (decide (a1<a2))).bind λr4=>some r4 else(bif (a0==12)then(zL (decide (a1<=a2))).bind λr5=>some r5 else(bif (a0==13)then(bif (a1 !=0)then(zL (a2 !=0)).bind λr6=>some r6 else(zL false).bind λr7=>some r7)else(bif (a1 !=0)then(zL true).bind λr8=>some r8 else(zL (a2 !=0)).bind λr9=>some r9))))))))))
def jT(a0:U gZ)(a1:U dD)(a2:U fO)(a3:U dw)(a4:U jE)(a5:U iD)(a6:U dI)(a7:Int)(a8:U ByteArray)(a9:bZ)(kO:U (ByteArray×Int)):J (Int×(List (ByteArray×Int))):=
 (tF n a1 (λ (y1:dD×Unit)=>Bj y1.1 (bZ.mk a9.op a9.n a9.s a9.key a9.args))).bind λr1=>(bif decide (r1<0)then some (0,kO)else(bu a1 r1).bind λx1=>(lD n x1.rows (λ (y2:bG×Unit)=>Bl y2.1 (bZ.mk a9.op a9.n a9.s a9.key a9.args))).bind λr2=>(bif decide (r2>=0)then(bu x1.rows r2).bind λx2=>some (x2.n,kO)else some (x1.sY,kO)))
def fK(n:Nat)(rc:((List gZ))->((List dD))->((List fO))->((List dw))->((List jE))->((List iD))->((List dI))->(Int)->((List ByteArray))->(bZ)->((List (ByteArray×Int)))->J (Int×(List (ByteArray×Int))))(a0:U gZ)(a1:U dD)(a2:U fO)(a3:U dw)(a4:U jE)(a5:U iD)(a6:U dI)(a7:Int)(a8:U ByteArray)(a9:bZ):Stp (Int×(List (ByteArray×Int))×(List Int)) ((List (ByteArray×Int))×(List Int))
 |(v1,v2,v3)=>(bif decide (v1<a9.args.length)then((bu a9.args v1).bind λx1=>((bif (a9.op==16)then(bif decide (v1>0)then ck (cz 0 v3.length)<|(bu v3 ((0:Nat)+0:Int)).bind λx2=>some (!((x2 !=0)==(v1==1)))else some false)else some false)).bind λv4=>(bif v4 then ck (bR v3.length v3.length (sub ([0]:U Int) 0 1).length 1 8)<|jm (v3++(sub ([0]:U Int) 0 1)) λr1=>ck (aE r1.length r1.length)<|some (v2,r1)else(rc a0 a1 a2 a3 a4 a5 a6 a7 a8 (bZ.mk x1.op x1.n x1.s x1.key x1.args) v2).bind λr2=>ck (bR v3.length v3.length (sub ([r2.1]:U Int) 0 1).length 1 8)<|jm (v3++(sub ([r2.1]:U Int) 0 1)) λr3=>ck (aE r3.length r3.length)<|some (r2.2,r3)):J ((List (ByteArray×Int))×(List Int))).bind λ(v5,v6)=>ck (aE v6.length v6.length)<|some (.inl ((i64.wrap (v1+1)),v5,v6))else ck (aE v3.length v3.length)<|some (.inr (v2,v3)))
def fZ(rc:((List gZ))->((List dD))->((List fO))->((List dw))->((List jE))->((List iD))->((List dI))->(Int)->((List ByteArray))->(bZ)->((List (ByteArray×Int)))->J (Int×(List (ByteArray×Int))))(a0:U gZ)(a1:U dD)(a2:U fO)(a3:U dw)(a4:U jE)(a5:U iD)(a6:U dI)(a7:Int)(a8:U ByteArray)(a9:bZ)(kO:U (ByteArray×Int)):J (Int×(List (ByteArray×Int))):=
 ck (aE 0 ([]:U Int).length)<|(iter (fK n rc a0 a1 a2 a3 a4 a5 a6 a7 a8 a9) n (0,kO,[])).bind λ(w1,w2)=>(bif (a9.op==0)then some (a9.n,w1)else(bif (a9.op==1)then some (((iC gA a9.s w1).getD 0),w1)else(bif (a9.op==2)then(jT n a0 a1 a2 a3 a4 a5 a6 a7 a8 (bZ.mk a9.op a9.n a9.s a9.key a9.args) w1).bind λr4=>some (r4.1,r4.2)else(bif (a9.op==3)then(gG n a8 a9.s).bind λr5=>(zL r5).bind λr6=>some (r6,w1)else(bif (a9.op==9)then ck (cz 0 w2.length)<|(bu w2 ((0:Nat)+0:Int)).bind λx3=>some ((i64.wrap (0-x3)),w1)else(bif (a9.op==15)then ck (cz 0 w2.length)<|(bu w2 ((0:Nat)+0:Int)).bind λx4=>(zL (x4==0)).bind λr7=>some (r7,w1)else(bif (a9.op==16)then ck (cz 0 w2.length)<|(bu w2 ((0:Nat)+0:Int)).bind λx5=>(bif (x5 !=0)then ck (cz 1 w2.length)<|(bu w2 ((0:Nat)+1:Int)).bind λx6=>some (x6,w1)else ck (cz 2 w2.length)<|(bu w2 ((0:Nat)+2:Int)).bind λx7=>some (x7,w1))else ck (cz 0 w2.length)<|(bu w2 ((0:Nat)+0:Int)).bind λx8=>ck (cz 1 w2.length)<|(bu w2 ((0:Nat)+1:Int)).bind λx9=>(Kt a9.op x8 x9).bind λr8=>some (r8,w1))))))))
def Fu(rc:((List gZ))->((List dD))->((List fO))->((List dw))->((List jE))->((List iD))->((List dI))->(Int)->((List ByteArray))->(bZ)->((List (ByteArray×Int)))->J (Int×(List (ByteArray×Int)))):cQ xx:=⟨[(.a [(.v (.sl (.st SI.Def))),(.v (.sl (.st SI.Table))),(.v (.sl (.st SI.Zone))),(.v (.sl (.st SI.Rule))),(.v (.sl (.st SI.Cap))),(.v (.sl (.st SI.View))),(.v (.sl (.st SI.il))),(.v (.int .i64)),(.mp 0),(.v (.sl .str))]),(.v (.st SI.Expr))],[(0,.m .str (.int .i64))],[(.v (.int .i64))],[(0,.m .str (.int .i64))],λv=>rc (v.1) (v.2.1) (v.2.2.1) (v.2.2.2.1) (v.2.2.2.2.1) (v.2.2.2.2.2.1) (v.2.2.2.2.2.2.1) (v.2.2.2.2.2.2.2.1) (v.2.2.2.2.2.2.2.2.1) (v.2.2.2.2.2.2.2.2.2.1) (v.2.2.2.2.2.2.2.2.2.2)⟩
def kJ(rc:((List gZ))->((List dD))->((List fO))->((List dw))->((List jE))->((List iD))->((List dI))->(Int)->((List ByteArray))->(bZ)->((List (ByteArray×Int)))->J (Int×(List (ByteArray×Int)))):ci xx:=⟨[],[.d .bool],λ_=>none,some (Fu rc)⟩
def bX(n:Nat):Nat->((List gZ))->((List dD))->((List fO))->((List dw))->((List jE))->((List iD))->((List dI))->(Int)->((List ByteArray))->(bZ)->((List (ByteArray×Int)))->J (Int×(List (ByteArray×Int)))
 | 0=>λ_ _ _ _ _ _ _ _ _ _ _=>none
 |m+1=>fZ n (bX n m)
def gW(a0:U gZ)(a1:U dD)(a2:U fO)(a3:U dw)(a4:U jE)(a5:U iD)(a6:U dI)(a7:Int)(a8:U ByteArray)(a9:bZ)(kO:U (ByteArray×Int)):J (Int×(List (ByteArray×Int))):=bX n n a0 a1 a2 a3 a4 a5 a6 a7 a8 a9 kO
def jv(n:Nat)(a1:U bG):Stp (Int×(List (ByteArray×Int))×(List (ByteArray×Bool))) ((List (ByteArray×Int))×(List (ByteArray×Bool)))
 |(v1,v2,v3)=>(bif decide (v1<a1.length)then((bu a1 v1).bind λx1=>(bif (!((iC gA x1.name v3).getD false))then some ((Gq gA x1.name x1.n v2),(Gq gA x1.name true v3))else some (v2,v3)):J ((List (ByteArray×Int))×(List (ByteArray×Bool)))).bind λ(v4,v5)=>some (.inl ((i64.wrap (v1+1)),v4,v5))else some (.inr (v2,v3)))
def iH(a0:dh)(a2:U ByteArray)(w2:U (ByteArray×Bool))(r1:(List Int)×(List ByteArray)×Int):Stp (Int×(List (ByteArray×Int))×(List Int)) ((List (ByteArray×Int))×(List Int))
 |(v6,v7,v8)=>(bif decide (v6<(r1.1.length:Nat))then(ck (cz v6 r1.1.length)<|(bu r1.1 ((0:Nat)+v6:Int)).bind λx2=>(bu a0.defs x2).bind λx3=>((Jf n (bZ.mk x3.ju x3.mn x3.lj x3.jn x3.ez)).bind λr2=>(bif r2 then(gW n a0.defs a0.tables a0.zones a0.rules a0.caps a0.views a0.xa a0.hours a2 (bZ.mk x3.ju x3.mn x3.lj x3.jn x3.ez) v7).bind λr3=>ck (cz x2 ((a0.defs.length:Int).toNat))<|(bu v8 ((0:Nat)+x2:Int)).bind λx4=>some (r3.2,(v8.set ((0:Nat)+x2:Int).toNat r3.1))else some (v7,v8)):J ((List (ByteArray×Int))×(List Int))).bind λ(v9,v10)=>(bif (!((iC gA x3.name w2).getD false))then ck (cz x2 ((a0.defs.length:Int).toNat))<|(bu v10 ((0:Nat)+x2:Int)).bind λx5=>some ((Gq gA x3.name x5 v9),v10)else some (v9,v10)):J ((List (ByteArray×Int))×(List Int))).bind λ(v11,v12)=>some (.inl ((i64.wrap (v6+1)),v11,v12))else some (.inr (v7,v8)))
def ny(a0:dh)(a1:U bG)(a2:U ByteArray):J ((List gZ)×(List dD)×(List fO)×(List dw)×(List jE)×(List iD)×(List dI)×Int×(List ByteArray)×(List (ByteArray×Int))×(List Int)):=
 (iter (jv n a1) n (0,([]:(List (ByteArray×Int))),([]:(List (ByteArray×Bool))))).bind λ(w1,w2)=>ck (decide ((a0.defs.length:Int)<=a0.defs.length)&&(decide (0<=(a0.defs.length:Int))&&xN a0.defs.length 8))<|(oL n a0).bind λr1=>(bif (r1.2.2 !=0)then ck (aE ((a0.defs.length:Int).toNat) (List.replicate (a0.defs.length:Int).toNat (0:Int)).length)<|some (a0.defs,a0.tables,a0.zones,a0.rules,a0.caps,a0.views,a0.xa,a0.hours,a2,w1,(List.replicate (a0.defs.length:Int).toNat 0))else(iter (iH n a0 a2 w2 r1) n (0,w1,(List.replicate (a0.defs.length:Int).toNat 0))).bind λ(w3,w4)=>ck (aE ((a0.defs.length:Int).toNat) w4.length)<|some (a0.defs,a0.tables,a0.zones,a0.rules,a0.caps,a0.views,a0.xa,a0.hours,a2,w3,w4))
def Bn(a0:dh)(a1:U bG)(a2:U ByteArray)(a3:bZ):J Int:=
 (Jf n (bZ.mk a3.op a3.n a3.s a3.key a3.args)).bind λr1=>(bif (!r1)then some 0 else(ny n a0 a1 a2).bind λr2=>(gW n r2.1 r2.2.1 r2.2.2.1 r2.2.2.2.1 r2.2.2.2.2.1 r2.2.2.2.2.2.1 r2.2.2.2.2.2.2.1 r2.2.2.2.2.2.2.2.1 r2.2.2.2.2.2.2.2.2.1 (bZ.mk a3.op a3.n a3.s a3.key a3.args) r2.2.2.2.2.2.2.2.2.2.1).bind λr3=>some r3.1)
def Bo(a0:U ax):Stp (Bool×Int×Int×Int×Int×Int) (Bool×Int×Int×Int×Int)
 |(v1,v2,v3,v4,v5,v6)=>(bif decide (v2<a0.length)then((bu a0 v2).bind λx1=>(nJ x1).bind λr1=>(bif (!r1)then some (v1,v3,v4,v5,v6)else(bif (!v1)then some (true,x1.x0,x1.y0,x1.x1,x1.y1)else some (v1,(min v3 x1.x0),(min v4 x1.y0),(max v5 x1.x1),(max v6 x1.y1)))):J (Bool×Int×Int×Int×Int)).bind λ(v7,v8,v9,v10,v11)=>some (.inl (v7,(i64.wrap (v2+1)),v8,v9,v10,v11))else some (.inr (v1,v3,v4,v5,v6)))
def OA(a0:U ax):J (ax×Bool):=
 (iter (Bo a0) n (false,0,0,0,0,0)).bind λ(w1,w2,w3,w4,w5)=>some ((ax.mk w2 w3 w4 w5),w1)
def Ku(a0:U ax):J (ax×Bool):=
 ((bif ((a0.length:Int)==0)then some true else(oV n a0).bind λr1=>some (!r1))).bind λv1=>(bif v1 then some ((ax.mk 0 0 0 0),false)else(OA n a0).bind λr2=>some (r2.1,r2.2))
def yN(a0:ay):J (List aN):=
 ck (aE (sub ([(ax.mk a0.bj a0.bo a0.be a0.bk)]:U ax) 0 1).length 1)<|ck (aE (sub ([(aN.mk a0.ca a0.cg (sub ([(ax.mk a0.bj a0.bo a0.be a0.bk)]:U ax) 0 1))]:U aN) 0 1).length 1)<|some (sub ([(aN.mk a0.ca a0.cg (sub ([(ax.mk a0.bj a0.bo a0.be a0.bk)]:U ax) 0 1))]:U aN) 0 1)
def Gu(a0:U eO)(a1:(eO×Unit)->J Bool):Stp Int (Unit⊕Int)
 |v1=>(bif decide (v1<a0.length)then(bu a0 v1).bind λx1=>(a1 (x1,())).bind λr1=>(bif r1 then(some v1).map λa=>.inr (.inr a)else some (.inl (i64.wrap (v1+1))))else some (.inr (.inl ())))
def tH(a0:U eO)(a1:(eO×Unit)->J Bool):J Int:=
 dM (iter (Gu a0 a1) n 0) λ()=>some (-1)
def lQ(a0:U eO)(a1:(eO×Unit)->J Bool):J Bool:=
 (tH n a0 a1).bind λr1=>some (decide (r1>=0))
def oM(a0:Int)(a1:Int)(a2:Int):J Bool:=
 (bif decide (a1<=a0)then some (decide (a0<=a2))else some false)
def Bp(a0:eO):J Bool:=
 (oM a0.side 0 3).bind λr1=>(bif r1 then(oM a0.base 0 4096).bind λr2=>(bif r2 then(oM a0.num 0 4096).bind λr3=>(bif r3 then(oM a0.den 1 4096).bind λr4=>some r4 else some false)else some false)else some false)
def uR(a0:eO):J Bool:=
 (Bp a0).bind λr1=>some (!r1)
def Bq(a0:ax)(a1:U eO):J Bool:=
 (nJ a0).bind λr1=>(bif r1 then(lQ n a1 (λ (y1:eO×Unit)=>uR y1.1)).bind λr2=>some (!r2)else some false)
def OC(a0:U ax)(a1:U ax):J Bool:=
 (pK n a0 a1).bind λr1=>some r1
def Br(a0:U aN):Stp Int (Unit⊕Bool)
 |v1=>(bif decide (v1<a0.length)then dM ((bu a0 v1).bind λx1=>((bif decide (x1.z0<0)then some true else(bif decide (x1.z0>=x1.z1)then some true else(bif decide (x1.z1>4096)then some true else(bif ((x1.area.length:Int)==0)then some true else(oV n x1.area).bind λr1=>some (!r1)))))).bind λv2=>(bif v2 then((some false).map λa=>.inr (.inr a)).map .inr else(bif (v1==0)then some (.inl ())else(bu a0 (i64.wrap (v1-1))).bind λx2=>((bif decide (x2.z1>x1.z0)then some true else(bif (x2.z1==x1.z0)then(OC n x2.area x1.area).bind λr2=>some r2 else some false))).bind λv3=>(bif v3 then((some false).map λa=>.inr (.inr a)).map .inr else some (.inl ())))):J ((Unit)⊕_)) λ()=>some (.inl (i64.wrap (v1+1)))else some (.inr (.inl ())))
def zM(a0:U aN):J Bool:=
 (bif decide ((a0.length:Int)>80)then some false else dM (iter (Br n a0) n 0) λ()=>some true)
def xU(a0:ax)(a1:Int)(a2:Int):J Og:=
 some (Og.mk (i64.wrap (a1-a0.x0)) (i64.wrap ((i64.wrap (a0.x1-1))-a1)) (i64.wrap (a2-a0.y0)) (i64.wrap ((i64.wrap (a0.y1-1))-a2)))
def uS(a0:Int)(a1:Int):J Int:=
 ck (a1 !=0)<|(ck (a1 !=0)<|(bif decide ((Int.tmod a0 a1)<0)then some (i64.wrap ((i64.wrap (Int.tdiv a0 a1))-1))else some (i64.wrap (Int.tdiv a0 a1))):J Int).bind λv1=>some v1
def yO(a0:ax)(a1:U eO)(a2:Int)(a3:Int)(r1:Og):Stp (Int×Int) Int
 |(v1,v2)=>(bif decide (v2<a1.length)then(bu a1 v2).bind λx1=>ck (cz x1.side 4)<|(bu ([r1.a0,r1.a1,r1.a2,r1.a3]:U Int) x1.side).bind λx2=>(uS (i64.wrap (x1.num*x2)) x1.den).bind λr2=>some (.inl ((min v1 (i64.wrap (x1.base+r2))),(i64.wrap (v2+1))))else some (.inr v1))
def Kv(a0:ax)(a1:U eO)(a2:Int)(a3:Int):J Int:=
 (xU a0 a2 a3).bind λr1=>(iter (yO a0 a1 a2 a3 r1) n (4096,0)).bind λw1=>some w1
def oZ(a0:ax)(a1:U eO)(x1:ax)(x2:Int):Stp (Int×Int) Int
 |(v5,v6)=>(bif decide (v6<(2:Nat))then ck (cz v6 2)<|(bu ([x1.y0,(i64.wrap (x1.y1-1))]:U Int) ((0:Nat)+v6:Int)).bind λx3=>(Kv n a0 a1 x2 x3).bind λr1=>some (.inl ((min v5 r1),(i64.wrap (v6+1))))else some (.inr v5))
def o6(a0:ax)(a1:U eO)(x1:ax):Stp (Int×Int) Int
 |(v3,v4)=>(bif decide (v4<(2:Nat))then ck (cz v4 2)<|(bu ([x1.x0,(i64.wrap (x1.x1-1))]:U Int) ((0:Nat)+v4:Int)).bind λx2=>(iter (oZ n a0 a1 x1 x2) n (v3,0)).bind λw1=>some (.inl (w1,(i64.wrap (v4+1))))else some (.inr v3))
def sS(a0:ax)(a1:U eO)(a2:U ax):Stp (Int×Int) Int
 |(v1,v2)=>(bif decide (v2<a2.length)then(bu a2 v2).bind λx1=>(iter (o6 n a0 a1 x1) n (v1,0)).bind λw2=>some (.inl (w2,(i64.wrap (v2+1))))else some (.inr v1))
def yP(a0:ax)(a1:U eO)(a2:U ax):J Int:=
 (iter (sS n a0 a1 a2) n (4096,0)).bind λw3=>some w3
def sU(a0:aN)(a1:ax)(a2:U eO):J Bool:=
 (yP n a1 a2 a0.area).bind λr1=>some (decide (r1<a0.z1))
def mJ(a0:U aN)(a1:(aN×Unit)->J Bool):Stp Int (Unit⊕Int)
 |v1=>(bif decide (v1<a0.length)then(bu a0 v1).bind λx1=>(a1 (x1,())).bind λr1=>(bif r1 then(some v1).map λa=>.inr (.inr a)else some (.inl (i64.wrap (v1+1))))else some (.inr (.inl ())))
def uT(a0:U aN)(a1:(aN×Unit)->J Bool):J Int:=
 dM (iter (mJ a0 a1) n 0) λ()=>some (-1)
def jK(a0:U aN)(a1:(aN×Unit)->J Bool):J Bool:=
 (uT n a0 a1).bind λr1=>some (decide (r1>=0))
def yQ(a0:ax)(a1:U eO)(a2:U aN):J Bool:=
 ((Bq n a0 a1).bind λr1=>(bif (!r1)then some true else(zM n a2).bind λr2=>some (!r2))).bind λv1=>(bif v1 then some false else(jK n a2 (λ (y1:aN×Unit)=>sU n y1.1 a0 a1)).bind λr3=>some (!r3))
def kK(a0:ay)(a1:ax)(a2:dw):J Bool:=
 (yN a0).bind λr1=>ck (aE (sub ([(eO.mk a2.i7 a2.i8 a2.kf a2.kh)]:U eO) 0 1).length 1)<|ck (aE (sub r1 0 r1.length).length r1.length)<|(yQ n a1 (sub ([(eO.mk a2.i7 a2.i8 a2.kf a2.kh)]:U eO) 0 1) (sub r1 0 r1.length)).bind λr2=>some (!r2)
def iJ(a0:mZ)(a1:(ay×Unit)->J Bool):J Bool:=
 (gP n a0.az a1).bind λr1=>some r1
def kL(a0:ay)(a1:dw):J Bool:=
 ck (decide (0<=a0.use)&&decide (a0.use<=i64.bits))<|some ((bits .and .i64 a1.uses (i64.wrap (1*2 ^ a0.use.toNat)))==0)
def ana(a0:ax)(a1:ax):J (Int×Int):=
 some ((i64.wrap ((max a0.x0 a1.x0)-(min a0.x1 a1.x1))),(i64.wrap ((max a0.y0 a1.y0)-(min a0.y1 a1.y1))))
def V0(a0:ax)(a1:ax):J Int:=
 ((nJ a0).bind λr1=>(bif (!r1)then some true else(nJ a1).bind λr2=>some (!r2))).bind λv1=>(bif v1 then some (-1)else(ana a0 a1).bind λr3=>some (max (max 0 r3.1) r3.2))
def d9(a0:iX)(a1:mZ)(a2:ay)(a3:dw):J Bool:=
 ((bif (a0.lot==a1.eb)then some true else(nJ (ax.mk a0.ev a0.ep a0.er a0.eo)).bind λr1=>(bif (!r1)then some true else(bif decide (a0.fj<0)then some true else some (decide (a0.fj>=6)))))).bind λv1=>(bif v1 then some false else((bif (a2.use==a3.uses)then(bif (a0.fj==a3.other)then some true else(bif (a2.use==a3.other)then some (a0.fj==a3.uses)else some false))else(bif (a2.use==a3.other)then some (a0.fj==a3.uses)else some false))).bind λv2=>(bif v2 then(V0 (ax.mk a2.bj a2.bo a2.be a2.bk) (ax.mk a0.ev a0.ep a0.er a0.eo)).bind λr2=>some (decide (r2<a3.n))else some false))
def Fv(a0:U iX)(a1:(iX×Unit)->J Bool):Stp Int (Unit⊕Int)
 |v1=>(bif decide (v1<a0.length)then(bu a0 v1).bind λx1=>(a1 (x1,())).bind λr1=>(bif r1 then(some v1).map λa=>.inr (.inr a)else some (.inl (i64.wrap (v1+1))))else some (.inr (.inl ())))
def rM(a0:U iX)(a1:(iX×Unit)->J Bool):J Int:=
 dM (iter (Fv a0 a1) n 0) λ()=>some (-1)
def kM(a0:U iX)(a1:(iX×Unit)->J Bool):J Bool:=
 (rM n a0 a1).bind λr1=>some (decide (r1>=0))
def tJ(a0:mZ)(a1:dw)(a2:ay):J Bool:=
 (kM n a0.gx (λ (y1:iX×Unit)=>d9 y1.1 a0 a2 a1)).bind λr1=>some r1
def kN(a0:ay)(a1:mZ)(a2:dw):J Bool:=
 (tJ n a1 a2 a0).bind λr1=>some r1
def nN(a0:mZ)(a1:dw):J Bool:=
 (bif (a1.kind==0)then(oI n (dh.mk a0.fR a0.eQ a0.ff a0.fh a0.fS a0.fg a0.gO a0.fi) (j5.mk a0.tw a0.nw a0.lh a0.pD) (aG.mk a0.eb a0.jj)).bind λr1=>ck (aE (sub r1 0 r1.length).length r1.length)<|(Bn n (dh.mk a0.fR a0.eQ a0.ff a0.fh a0.fS a0.fg a0.gO a0.fi) (sub r1 0 r1.length) a0.zones (bZ.mk a1.lp a1.nq a1.np a1.ke a1.gz)).bind λr2=>some (r2==0)else(bif (a1.kind==1)then(Ku n a0.lh).bind λr3=>(iJ n a0 (λ (y1:ay×Unit)=>kK n y1.1 r3.1 a1)).bind λr4=>some r4 else(bif (a1.kind==2)then(iJ n a0 (λ (y2:ay×Unit)=>kL y2.1 a1)).bind λr5=>some r5 else(bif (a1.kind==3)then(iJ n a0 (λ (y3:ay×Unit)=>kN n y3.1 a0 a1)).bind λr6=>some r6 else some false))))
def wM(a0:ax)(a1:ax):J Bool:=
 (bif decide ((max a1.x0 a0.x0)<(min a1.x1 a0.x1))then some (decide ((max a1.y0 a0.y0)<(min a1.y1 a0.y1)))else some false)
def Jh(a0:U ax)(a1:(ax×Unit)->J Bool):Stp Int (Unit⊕Int)
 |v1=>(bif decide (v1<a0.length)then(bu a0 v1).bind λx1=>(a1 (x1,())).bind λr1=>(bif r1 then(some v1).map λa=>.inr (.inr a)else some (.inl (i64.wrap (v1+1))))else some (.inr (.inl ())))
def uU(a0:U ax)(a1:(ax×Unit)->J Bool):J Int:=
 dM (iter (Jh a0 a1) n 0) λ()=>some (-1)
def jL(a0:U ax)(a1:(ax×Unit)->J Bool):J Bool:=
 (uU n a0 a1).bind λr1=>some (decide (r1>=0))
def Fx(a0:ax)(a1:U ax):J Bool:=
 (jL n a1 (λ (y1:ax×Unit)=>wM y1.1 a0)).bind λr1=>some r1
def VJ(a0:U ax)(a1:U ax):J Bool:=
 (jL n a0 (λ (y1:ax×Unit)=>Fx n y1.1 a1)).bind λr1=>some r1
def rX(a0:aN)(a1:jP):J Bool:=
 (bif decide (a0.z1>a1.top)then(VJ n a0.area a1.area).bind λr1=>some r1 else some false)
def wN(a0:U jP)(a1:Int)(a2:U aN):Stp Int (Unit⊕Bool)
 |v1=>(bif decide (v1<a0.length)then dM ((bu a0 v1).bind λx1=>((bif (x1.lot !=a1)then some true else(oV n x1.area).bind λr2=>some (!r2))).bind λv2=>(bif v2 then some (.inl ())else(jK n a2 (λ (y1:aN×Unit)=>rX n y1.1 x1)).bind λr3=>(bif r3 then((some false).map λa=>.inr (.inr a)).map .inr else some (.inl ()))):J ((Unit)⊕_)) λ()=>some (.inl (i64.wrap (v1+1)))else some (.inr (.inl ())))
def Fy(a0:U jP)(a1:Int)(a2:U aN):J Bool:=
 (zM n a2).bind λr1=>(bif (!r1)then some false else dM (iter (wN n a0 a1 a2) n 0) λ()=>some true)
def nQ(a0:ay)(a1:gL)(a2:aG):J Bool:=
 (yN a0).bind λr1=>ck (aE (sub r1 0 r1.length).length r1.length)<|(Fy n a1.cA a2.lot (sub r1 0 r1.length)).bind λr2=>some (!r2)
def kg(a0:ByteArray)(a1:Bool)(a2:U ByteArray):J (List ByteArray):=
 ((bif a1 then ck (aE (sub a2 0 a2.length).length a2.length)<|(gG n (sub a2 0 a2.length) a0).bind λr1=>some (!r1)else some false)).bind λv1=>(bif v1 then ck (bR a2.length a2.length (sub ([a0]:U ByteArray) 0 1).length 1 16)<|jm (a2++(sub ([a0]:U ByteArray) 0 1)) λr2=>ck (aE r2.length r2.length)<|some r2 else ck (aE a2.length a2.length)<|some a2)
def nR(a0:gL)(r1:mZ×Int)(r2:U Int):Stp (Int×(List ByteArray)) (List ByteArray)
 |(v1,v2)=>(bif decide (v1<(r2.length:Nat))then ck (cz v1 r2.length)<|(bu r2 ((0:Nat)+v1:Int)).bind λx1=>(bu a0.br x1).bind λx2=>(bu a0.br x1).bind λx3=>(nN n r1.1 x3).bind λr3=>ck (aE v2.length v2.length)<|(kg n x2.name r3 v2).bind λr4=>ck (aE r4.length r4.length)<|some (.inl ((i64.wrap (v1+1)),r4))else ck (aE v2.length v2.length)<|some (.inr v2))
def rY(a0:gL)(a1:aG)(a2:Int):J ((List ByteArray)×Int):=
 (Bf n a0 a1).bind λr1=>(bif (r1.2 !=0)then some ([],r1.2)else(uQ n (dh.mk a0.cw a0.co a0.cm a0.br a0.cx a0.cp a0.cL a0.ct) r1.1.zones a2).bind λr2=>ck (aE 0 ([]:U ByteArray).length)<|(iter (nR n a0 r1 r2) n (0,[])).bind λw1=>(iJ n r1.1 (λ (y1:ay×Unit)=>nQ n y1.1 a0 a1)).bind λr5=>ck (aE w1.length w1.length)<|(kg n (⟨#[101,97,115,101,109,101,110,116]⟩) r5 w1).bind λr6=>ck (aE (sub r6 0 r6.length).length r6.length)<|some ((sub r6 0 r6.length),0))
def OD(a0:aG):Stp (Int×(List ay)) (List ay)
 |(v1,v2)=>(bif decide (v1<a0.phases.length)then(bu a0.phases v1).bind λx1=>ck (bR v2.length v2.length x1.az.length x1.az.length 72)<|jm (v2++x1.az) λr1=>ck (aE r1.length r1.length)<|some (.inl ((i64.wrap (v1+1)),r1))else ck (aE v2.length v2.length)<|some (.inr v2))
def nS(a0:aG):J (List ay):=
 ck (aE 0 ([]:U ay).length)<|(iter (OD a0) n (0,[])).bind λw1=>ck (aE (sub w1 0 w1.length).length w1.length)<|some (sub w1 0 w1.length)
def nC(a0:ay):J Int:=
 (fV a0).bind λr1=>(bif (!r1)then some 0 else ck (3 !=0)<|some (i64.wrap (Int.tdiv (i64.wrap ((i64.wrap ((i64.wrap (a0.cg-a0.ca))+3))-1)) 3)))
def qz(a0:U ay):Stp (Int×Int) (Unit⊕Bool)
 |(v1,v2)=>(bif decide (v2<a0.length)then(bu a0 v2).bind λx1=>(nC x1).bind λr1=>(bif (decide ((i64.wrap (v1*(i64.wrap (r1+1))))>2001))then(some true).map λa=>.inr (.inr a)else some (.inl ((i64.wrap (v1*(i64.wrap (r1+1)))),(i64.wrap (v2+1)))))else some (.inr (.inl ())))
def Bt(a0:U ay):J Bool:=
 dM (iter (qz a0) n (1,0)) λ()=>some false
def zN(a0:U bG):J (List bG):=
 (bif a0.isEmpty then(both (some []) (ck (bR ([]:U bG).length 0 a0.length a0.length 24)<|jm ([]++a0) λr1=>ck (aE (sub r1 0 r1.length).length r1.length)<|some (sub r1 0 r1.length)))else ck (bR ([]:U bG).length 0 a0.length a0.length 24)<|jm ([]++a0) λr2=>ck (aE (sub r2 0 r2.length).length r2.length)<|some (sub r2 0 r2.length))
def kY(a1:U Int)(x1:dF):Stp (Int×Int×Int×(List bG)×(List ay)) ((Int×Int×(List bG)×(List ay))⊕((Int×Int×Int×Int×(List dF))⊕((Int×Int×(List dF))⊕(aG×Int×Int))))
 |(v7,v8,v9,v10,v11)=>(bif decide (v9<x1.az.length)then dM ((bu x1.az v9).bind λx2=>(nC x2).bind λr4=>(bu a1 v8).bind λx3=>((bif decide (x3<0)then some true else some (decide (x3>r4)))).bind λv12=>(bif v12 then(((some ((aG.mk 0 ([])),(0:Int),(1:Int))).map λa=>.inr (.inr a)).map λa=>.inr (.inr a)).map .inr else(uM (ax.mk x2.bj x2.bo x2.be x2.bk)).bind λr5=>((bif decide (x3>0)then some (x2.bj,x2.bo,x2.be,x2.bk,x2.ca,(i64.wrap (x2.ca+(i64.wrap (3*(i64.wrap (r4-x3)))))),x2.use,x2.units,x2.extra)else some (x2.bj,x2.bo,x2.be,x2.bk,x2.ca,x2.cg,x2.use,x2.units,x2.extra)):J (Int×Int×Int×Int×Int×Int×Int×Int×Bool)).bind λ(v13,v14,v15,v16,v17,v18,v19,v20,v21)=>(bif decide (x3<r4)then ck (bR v11.length v11.length (sub ([(ay.mk v13 v14 v15 v16 v17 v18 v19 v20 v21)]:U ay) 0 1).length 1 72)<|jm (v11++(sub ([(ay.mk v13 v14 v15 v16 v17 v18 v19 v20 v21)]:U ay) 0 1)) λr6=>ck (aE r6.length r6.length)<|ck (aE v10.length v10.length)<|some (.inl ((i64.wrap (v7+(i64.wrap (x3*r5)))),(i64.wrap (v8+1)),v10,r6))else ck (aE v11.length v11.length)<|ck (aE v10.length v10.length)<|some (.inl ((i64.wrap (v7+(i64.wrap (x3*r5)))),(i64.wrap (v8+1)),v10,v11)))):J ((Int×Int×(List bG)×(List ay))⊕_)) λ(v22,v23,v24,v25)=>ck (aE v25.length v25.length)<|ck (aE v24.length v24.length)<|some (.inl (v22,v23,(i64.wrap (v9+1)),v24,v25))else ck (aE v11.length v11.length)<|ck (aE v10.length v10.length)<|some (.inr (.inl (v7,v8,v10,v11))))
def kZ(a0:aG)(a1:U Int):Stp (Int×Int×Int×Int×(List dF)) ((Int×Int×(List dF))⊕(aG×Int×Int))
 |(v2,v3,v4,v5,v6)=>(bif decide (v4<a0.phases.length)then(bu a0.phases v4).bind λx1=>(zN x1.gives).bind λr3=>ck (aE 0 ([]:U ay).length)<|ck (aE r3.length r3.length)<|dM (iter (kY a1 x1) n (v2,v3,0,r3,[])) λ(w1,w2,w3,w4)=>ck (aE (sub w4 0 w4.length).length w4.length)<|ck (aE (sub w3 0 w3.length).length w3.length)<|ck (bR v6.length v6.length (sub ([(dF.mk (sub w4 0 w4.length) (sub w3 0 w3.length))]:U dF) 0 1).length 1 48)<|jm (v6++(sub ([(dF.mk (sub w4 0 w4.length) (sub w3 0 w3.length))]:U dF) 0 1)) λr7=>ck (aE r7.length r7.length)<|some (.inl (w1,w2,(i64.wrap (v4+1)),v5,r7))else ck (aE v6.length v6.length)<|some (.inr (.inl (v2,v5,v6))))
def gK(a0:aG)(a1:U Int):J (aG×Int×Int):=
 (nS n a0).bind λr1=>((eY n a0).bind λr2=>(bif (!r2)then some true else some (a1.length !=(r1.length:Int)))).bind λv1=>(bif v1 then some ((aG.mk 0 ([])),0,1)else ck (aE 0 ([]:U dF).length)<|dM (iter (kZ n a0 a1) n (0,0,0,a0.lot,[])) λ(w5,w6,w7)=>ck (aE (sub w7 0 w7.length).length w7.length)<|(nS n (aG.mk w6 (sub w7 0 w7.length))).bind λr8=>(bif ((r8.length:Int)==0)then some ((aG.mk 0 ([])),0,1)else ck (aE (sub w7 0 w7.length).length w7.length)<|some ((aG.mk w6 (sub w7 0 w7.length)),w5,0)))
def dJ(a0:U aD)(a1:Int)(a3:(aD×aD×Unit)->J Int):Stp (Int×(List aD)) (List aD)
 |(v3,v4)=>((bif decide (v3>(a1:Int))then ck (cz v3 a0.length)<|(bu v4 ((0:Nat)+v3:Int)).bind λx1=>ck (cz (i64.wrap (v3-1)) a0.length)<|(bu v4 ((0:Nat)+(i64.wrap (v3-1)):Int)).bind λx2=>(a3 (x1,x2,())).bind λr1=>some (decide (r1<0))else some false)).bind λv5=>(bif v5 then ck (cz (i64.wrap (v3-1)) a0.length)<|(bu v4 ((0:Nat)+(i64.wrap (v3-1)):Int)).bind λx3=>ck (cz v3 a0.length)<|(bu v4 ((0:Nat)+v3:Int)).bind λx4=>ck (cz v3 a0.length)<|(bu v4 ((0:Nat)+v3:Int)).bind λx5=>ck (cz (i64.wrap (v3-1)) a0.length)<|(bu (v4.set ((0:Nat)+v3:Int).toNat x3) ((0:Nat)+(i64.wrap (v3-1)):Int)).bind λx6=>some (.inl ((i64.wrap (v3-1)),((v4.set ((0:Nat)+v3:Int).toNat x3).set ((0:Nat)+(i64.wrap (v3-1)):Int).toNat x4)))else some (.inr v4))
def dK(a0:U aD)(a1:Int)(a2:Int)(a3:(aD×aD×Unit)->J Int):Stp (Int×(List aD)) (List aD)
 |(v1,v2)=>(bif decide (v1<(a2:Int))then(iter (dJ a0 a1 a3) n (v1,v2)).bind λw1=>some (.inl ((i64.wrap (v1+1)),w1))else some (.inr v2))
def dH(a0:U aD)(a1:Int)(a2:Int)(a3:(aD×aD×Unit)->J Int):J (List aD):=
 (iter (dK n a0 a1 a2 a3) n ((i64.wrap (a1+1)),a0)).bind λw2=>some w2
def fD(a0:U aD)(a1:Int)(a2:Int)(a3:Int):Stp (Int×(List aD)) (List aD)
 |(v1,v2)=>(bif decide (v1<a3)then ck (cz (i64.wrap (a2+v1)) a0.length)<|(bu v2 ((0:Nat)+(i64.wrap (a2+v1)):Int)).bind λx1=>ck (cz (i64.wrap (a1+v1)) a0.length)<|(bu v2 ((0:Nat)+(i64.wrap (a1+v1)):Int)).bind λx2=>ck (cz (i64.wrap (a1+v1)) a0.length)<|(bu v2 ((0:Nat)+(i64.wrap (a1+v1)):Int)).bind λx3=>ck (cz (i64.wrap (a2+v1)) a0.length)<|(bu (v2.set ((0:Nat)+(i64.wrap (a1+v1)):Int).toNat x1) ((0:Nat)+(i64.wrap (a2+v1)):Int)).bind λx4=>some (.inl ((i64.wrap (v1+1)),((v2.set ((0:Nat)+(i64.wrap (a1+v1)):Int).toNat x1).set ((0:Nat)+(i64.wrap (a2+v1)):Int).toNat x2)))else some (.inr v2))
def dX(a0:U aD)(a1:Int)(a2:Int)(a3:Int)(a4:(aD×aD×Unit)->J Int):J (List aD):=
 (iter (fD a0 a1 a2 a3) n (0,a0)).bind λw1=>some w1
def dY(a0:U aD)(a2:Int)(a4:(aD×aD×Unit)->J Int):Stp (Int×Int×(List aD)) (Int×(List aD))
 |(v1,v2,v3)=>(bif (v1 !=v2)then(bif decide (v1>v2)then ck (aE a0.length v3.length)<|(dX n v3 (i64.wrap (a2-v1)) a2 v2 a4).bind λr1=>some (.inl ((i64.wrap (v1-v2)),v2,r1))else ck (aE a0.length v3.length)<|(dX n v3 (i64.wrap (a2-v1)) (i64.wrap ((i64.wrap (a2+v2))-v1)) v1 a4).bind λr2=>some (.inl (v1,(i64.wrap (v2-v1)),r2)))else some (.inr (v1,v3)))
def iK(a0:U aD)(a1:Int)(a2:Int)(a3:Int)(a4:(aD×aD×Unit)->J Int):J (List aD):=
 (iter (dY n a0 a2 a4) n ((i64.wrap (a2-a1)),(i64.wrap (a3-a2)),a0)).bind λ(w1,w2)=>ck (aE a0.length w2.length)<|(dX n w2 (i64.wrap (a2-w1)) a2 w1 a4).bind λr3=>some r3
def iA(a0:U aD)(a1:Int)(a4:(aD×aD×Unit)->J Int):Stp (Int×Int) Int
 |(v1,v2)=>(bif decide (v1<v2)then ck (decide (0<=1)&&decide (1<=IntKind.u64.bits))<|ck (cz (i64.wrap ((IntKind.u64.wrap (i64.wrap (v1+v2)))/2 ^ (1:Int).toNat)) a0.length)<|(bu a0 ((0:Nat)+(i64.wrap ((IntKind.u64.wrap (i64.wrap (v1+v2)))/2 ^ (1:Int).toNat)):Int)).bind λx1=>ck (cz a1 a0.length)<|(bu a0 ((0:Nat)+a1:Int)).bind λx2=>(a4 (x1,x2,())).bind λr1=>(bif decide (r1<0)then some (.inl ((i64.wrap ((i64.wrap ((IntKind.u64.wrap (i64.wrap (v1+v2)))/2 ^ (1:Int).toNat))+1)),v2))else some (.inl (v1,(i64.wrap ((IntKind.u64.wrap (i64.wrap (v1+v2)))/2 ^ (1:Int).toNat)))))else some (.inr v1))
def fP(a0:U aD)(w1:Int):Stp (Int×(List aD)) (List aD)
 |(v3,v4)=>(bif decide (v3<(i64.wrap (w1-1)))then ck (cz (i64.wrap (v3+1)) a0.length)<|(bu v4 ((0:Nat)+(i64.wrap (v3+1)):Int)).bind λx3=>ck (cz v3 a0.length)<|(bu v4 ((0:Nat)+v3:Int)).bind λx4=>ck (cz v3 a0.length)<|(bu v4 ((0:Nat)+v3:Int)).bind λx5=>ck (cz (i64.wrap (v3+1)) a0.length)<|(bu (v4.set ((0:Nat)+v3:Int).toNat x3) ((0:Nat)+(i64.wrap (v3+1)):Int)).bind λx6=>some (.inl ((i64.wrap (v3+1)),((v4.set ((0:Nat)+v3:Int).toNat x3).set ((0:Nat)+(i64.wrap (v3+1)):Int).toNat x4)))else some (.inr v4))
def iB(a0:U aD)(a2:Int)(a4:(aD×aD×Unit)->J Int):Stp (Int×Int) Int
 |(v5,v6)=>(bif decide (v5<v6)then ck (decide (0<=1)&&decide (1<=IntKind.u64.bits))<|ck (cz a2 a0.length)<|(bu a0 ((0:Nat)+a2:Int)).bind λx7=>ck (cz (i64.wrap ((IntKind.u64.wrap (i64.wrap (v5+v6)))/2 ^ (1:Int).toNat)) a0.length)<|(bu a0 ((0:Nat)+(i64.wrap ((IntKind.u64.wrap (i64.wrap (v5+v6)))/2 ^ (1:Int).toNat)):Int)).bind λx8=>(a4 (x7,x8,())).bind λr2=>(bif (!(decide (r2<0)))then some (.inl ((i64.wrap ((i64.wrap ((IntKind.u64.wrap (i64.wrap (v5+v6)))/2 ^ (1:Int).toNat))+1)),v6))else some (.inl (v5,(i64.wrap ((IntKind.u64.wrap (i64.wrap (v5+v6)))/2 ^ (1:Int).toNat)))))else some (.inr v5))
def fQ(a0:U aD)(w3:Int):Stp (Int×(List aD)) (List aD)
 |(v7,v8)=>(bif decide (v7>w3)then ck (cz (i64.wrap (v7-1)) a0.length)<|(bu v8 ((0:Nat)+(i64.wrap (v7-1)):Int)).bind λx9=>ck (cz v7 a0.length)<|(bu v8 ((0:Nat)+v7:Int)).bind λx10=>ck (cz v7 a0.length)<|(bu v8 ((0:Nat)+v7:Int)).bind λx11=>ck (cz (i64.wrap (v7-1)) a0.length)<|(bu (v8.set ((0:Nat)+v7:Int).toNat x9) ((0:Nat)+(i64.wrap (v7-1)):Int)).bind λx12=>some (.inl ((i64.wrap (v7-1)),((v8.set ((0:Nat)+v7:Int).toNat x9).set ((0:Nat)+(i64.wrap (v7-1)):Int).toNat x10)))else some (.inr v8))
def fT(a0:U aD)(a1:Int)(a2:Int)(a3:Int)(a4:(aD×aD×Unit)->J Int):Stp (Int×Int) Int
 |(v11,v12)=>(bif decide (v11<v12)then ck (decide (0<=1)&&decide (1<=IntKind.u64.bits))<|ck (cz (i64.wrap ((i64.wrap ((i64.wrap ((i64.wrap ((IntKind.u64.wrap (i64.wrap (a1+a3)))/2 ^ (1:Int).toNat))+a2))-1))-(i64.wrap ((IntKind.u64.wrap (i64.wrap (v11+v12)))/2 ^ (1:Int).toNat)))) a0.length)<|(bu a0 ((0:Nat)+(i64.wrap ((i64.wrap ((i64.wrap ((i64.wrap ((IntKind.u64.wrap (i64.wrap (a1+a3)))/2 ^ (1:Int).toNat))+a2))-1))-(i64.wrap ((IntKind.u64.wrap (i64.wrap (v11+v12)))/2 ^ (1:Int).toNat)))):Int)).bind λx13=>ck (cz (i64.wrap ((IntKind.u64.wrap (i64.wrap (v11+v12)))/2 ^ (1:Int).toNat)) a0.length)<|(bu a0 ((0:Nat)+(i64.wrap ((IntKind.u64.wrap (i64.wrap (v11+v12)))/2 ^ (1:Int).toNat)):Int)).bind λx14=>(a4 (x13,x14,())).bind λr3=>(bif (!(decide (r3<0)))then some (.inl ((i64.wrap ((i64.wrap ((IntKind.u64.wrap (i64.wrap (v11+v12)))/2 ^ (1:Int).toNat))+1)),v12))else some (.inl (v11,(i64.wrap ((IntKind.u64.wrap (i64.wrap (v11+v12)))/2 ^ (1:Int).toNat)))))else some (.inr v11))
def dG(rc:((List aD))->(Int)->(Int)->(Int)->((aD×aD×Unit)->J Int)->J (List aD))(a0:U aD)(a1:Int)(a2:Int)(a3:Int)(a4:(aD×aD×Unit)->J Int):J (List aD):=
 (bif ((i64.wrap (a2-a1))==1)then(iter (iA a0 a1 a4) n (a2,a3)).bind λw1=>(iter (fP a0 w1) n (a1,a0)).bind λw2=>some w2 else(bif ((i64.wrap (a3-a2))==1)then(iter (iB a0 a2 a4) n (a1,a2)).bind λw3=>(iter (fQ a0 w3) n (a2,a0)).bind λw4=>some w4 else ck (decide (0<=1)&&decide (1<=IntKind.u64.bits))<|((bif (decide (a2>((i64.wrap ((IntKind.u64.wrap (i64.wrap (a1+a3)))/2 ^ (1:Int).toNat)):Int)))then some ((i64.wrap ((i64.wrap ((i64.wrap ((IntKind.u64.wrap (i64.wrap (a1+a3)))/2 ^ (1:Int).toNat))+a2))-a3)),(i64.wrap ((IntKind.u64.wrap (i64.wrap (a1+a3)))/2 ^ (1:Int).toNat)))else some (a1,a2)):J (Int×Int)).bind λ(v9,v10)=>(iter (fT a0 a1 a2 a3 a4) n (v9,v10)).bind λw5=>(((bif decide (w5<a2)then some (decide (a2<((i64.wrap ((i64.wrap ((i64.wrap ((IntKind.u64.wrap (i64.wrap (a1+a3)))/2 ^ (1:Int).toNat))+a2))-w5)):Int)))else some false)).bind λv13=>(bif v13 then ck (aE a0.length a0.length)<|(iK n a0 w5 a2 (i64.wrap ((i64.wrap ((i64.wrap ((IntKind.u64.wrap (i64.wrap (a1+a3)))/2 ^ (1:Int).toNat))+a2))-w5)) a4).bind λr4=>some r4 else some a0):J ((List aD))).bind λv14=>(((bif decide (a1<w5)then some (decide (w5<((i64.wrap ((IntKind.u64.wrap (i64.wrap (a1+a3)))/2 ^ (1:Int).toNat)):Int)))else some false)).bind λv15=>(bif v15 then ck (aE a0.length v14.length)<|(rc v14 a1 w5 (i64.wrap ((IntKind.u64.wrap (i64.wrap (a1+a3)))/2 ^ (1:Int).toNat)) a4).bind λr5=>some r5 else some v14):J ((List aD))).bind λv16=>((bif (decide ((i64.wrap ((IntKind.u64.wrap (i64.wrap (a1+a3)))/2 ^ (1:Int).toNat))<((i64.wrap ((i64.wrap ((i64.wrap ((IntKind.u64.wrap (i64.wrap (a1+a3)))/2 ^ (1:Int).toNat))+a2))-w5)):Int)))then some (decide ((i64.wrap ((i64.wrap ((i64.wrap ((IntKind.u64.wrap (i64.wrap (a1+a3)))/2 ^ (1:Int).toNat))+a2))-w5))<a3))else some false)).bind λv17=>(bif v17 then ck (aE a0.length v16.length)<|(rc v16 (i64.wrap ((IntKind.u64.wrap (i64.wrap (a1+a3)))/2 ^ (1:Int).toNat)) (i64.wrap ((i64.wrap ((i64.wrap ((IntKind.u64.wrap (i64.wrap (a1+a3)))/2 ^ (1:Int).toNat))+a2))-w5)) a3 a4).bind λr6=>some r6 else some v16)))
def jX(rc:((List aD))->(Int)->(Int)->(Int)->((aD×aD×Unit)->J Int)->J (List aD)):ci xx:=⟨[.mut (.st SI.Change),.d (.int .i64),.d (.int .i64),.d (.int .i64),.d7 [(.st SI.Change),(.st SI.Change)] (.int .i64)],[.mu (.st SI.Change)],λa=>rc a.1 a.2.1 a.2.2.1 a.2.2.2.1 a.2.2.2.2.1,none⟩
def cK(n:Nat):Nat->((List aD))->(Int)->(Int)->(Int)->((aD×aD×Unit)->J Int)->J (List aD)
 | 0=>λ_ _ _ _ _=>none
 |m+1=>dG n (cK n m)
def fG(a0:U aD)(a1:Int)(a2:Int)(a3:Int)(a4:(aD×aD×Unit)->J Int):J (List aD):=cK n n a0 a1 a2 a3 a4
def dN(a0:U aD)(a1:Int)(a2:(aD×aD×Unit)->J Int):Stp (Int×Int×(List aD)) (Int×(List aD))
 |(v1,v2,v3)=>(bif decide (v2<=a1)then ck (aE a0.length v3.length)<|(dH n v3 v1 v2 a2).bind λr1=>some (.inl (v2,(i64.wrap (v2+20)),r1))else some (.inr (v1,v3)))
def dO(a0:U aD)(a1:Int)(a2:(aD×aD×Unit)->J Int)(v4:Int):Stp (Int×Int×(List aD)) (Int×(List aD))
 |(v6,v7,v8)=>(bif decide (v7<=a1)then ck (aE a0.length v8.length)<|(fG n v8 v6 (i64.wrap (v6+v4)) v7 a2).bind λr3=>some (.inl (v7,(i64.wrap (v7+(i64.wrap (2*v4)))),r3))else some (.inr (v6,v8)))
def gH(a0:U aD)(a1:Int)(a2:(aD×aD×Unit)->J Int):Stp (Int×(List aD)) (List aD)
 |(v4,v5)=>(bif decide (v4<a1)then(iter (dO n a0 a1 a2 v4) n (0,(i64.wrap (2*v4)),v5)).bind λ(w3,w4)=>((bif decide ((i64.wrap (w3+v4))<a1)then ck (aE a0.length w4.length)<|(fG n w4 w3 (i64.wrap (w3+v4)) a1 a2).bind λr4=>some r4 else some w4):J ((List aD))).bind λv9=>some (.inl ((i64.wrap (v4*2)),v9))else some (.inr v5))
def nT(a0:U aD)(a1:Int)(a2:(aD×aD×Unit)->J Int):J (List aD):=
 (iter (dN n a0 a1 a2) n (0,20,a0)).bind λ(w1,w2)=>ck (aE a0.length w2.length)<|(dH n w2 w1 a1 a2).bind λr2=>(iter (gH n a0 a1 a2) n (20,r2)).bind λw5=>some w5
def jG(a0:U aD)(a1:(aD×aD×Unit)->J Int):J (List aD):=
 ck (aE a0.length a0.length)<|(nT n a0 (a0.length:Nat) a1).bind λr1=>some r1
def o7(a0:aD)(a1:aD):J Int:=
 (cmp_Compare_int a0.cost a1.cost).bind λr1=>some r1
def rZ(a0:gL)(a1:aG)(a2:Int):J Bool:=
 (rY n a0 a1 a2).bind λr1=>(bif (r1.2==0)then some ((r1.1.length:Int)==0)else some false)
def qa(a0:U ay):J (List ay):=
 some a0
def eT(x:(List ay))(l:(List Int)):Stp (Int×(List Int)) (Int×(List Int))
 |(v1,v2)=>((bif decide (v1>=0)then ck (cz v1 l.length)<|(bu v2 ((0:Nat)+v1:Int)).bind λx1=>(bu x v1).bind λx2=>(nC x2).bind λr1=>some (x1==(r1:Int))else some false)).bind λv3=>(bif v3 then ck (cz v1 l.length)<|(bu v2 ((0:Nat)+v1:Int)).bind λx3=>some (.inl ((i64.wrap (v1-1)),(v2.set ((0:Nat)+v1:Int).toNat 0)))else some (.inr (v1,v2)))
def pW(x:U ay):J (List Int):=
 ck (decide ((x.length:Int)<=(x.length:Int))&&(decide (0<=(x.length:Int))&&xN (x.length:Int) 8))<|ck (aE ((x.length:Int).toNat) (List.replicate (x.length:Int).toNat (0:Int)).length)<|some (List.replicate (x.length:Int).toNat (0:Int))
def lT(x:U ay)(l:U Int):J (List Int⊕Unit):=
 (iter (eT x l) n ((i64.wrap ((l.length:Int)-1)),l)).bind λ(w1,w2)=>(bif decide (w1<0)then some (.inr ())else ck (cz w1 l.length)<|(bu w2 ((0:Nat)+w1:Int)).bind λx4=>ck (cz w1 l.length)<|(bu w2 ((0:Nat)+w1:Int)).bind λx5=>ck (aE l.length (w2.set ((0:Nat)+w1:Int).toNat (i64.wrap (x4+1))).length)<|some (.inl (w2.set ((0:Nat)+w1:Int).toNat (i64.wrap (x4+1)))))
def ko(x:U ay):J (List (List Int)):=Sp (uG) (pW) (lT n) n x
def oN:((List gZ)×(List dD)×(List fO)×(List dw)×(List jE)×(List iD)×(List dI)×Int×(List j5)×(List jP)×(List Bc)×(List iX)×(List bG)×Int×(List dF)×Int×(List aD))->U Int->J ((List gZ)×(List dD)×(List fO)×(List dw)×(List jE)×(List iD)×(List dI)×Int×(List j5)×(List jP)×(List Bc)×(List iX)×(List bG)×Int×(List dF)×Int×(List aD))
 |(v1,v2,v3,v4,v5,v6,v7,v8,v9,v10,v11,v12,v13,v14,v15,v16,v17),yx=>(gK n (aG.mk v14 v15) yx).bind λr6=>(bif (r6.2.2==0)then ck (bR v17.length v17.length (sub ([(aD.mk yx r6.2.1)]:U aD) 0 1).length 1 32)<|jm (v17++(sub ([(aD.mk yx r6.2.1)]:U aD) 0 1)) λr7=>ck (aE r7.length r7.length)<|some (v1,v2,v3,v4,v5,v6,v7,v8,v9,v10,v11,v12,v13,v14,v15,v16,r7)else ck (aE v17.length v17.length)<|some (v1,v2,v3,v4,v5,v6,v7,v8,v9,v10,v11,v12,v13,v14,v15,v16,v17))
def lH(a2:Int)(w1:U gZ)(w2:U dD)(w3:U fO)(w4:U dw)(w5:U jE)(w6:U iD)(w7:U dI)(w8:Int)(w9:U j5)(wx:U jP)(wv:U Bc)(I0:U iX)(IT:U bG)(IS:Int)(IR:U dF)(yW:U aD)(r8:U aD):Stp Int (Unit⊕((List Int)×Int×Int))
 |v18=>(bif decide (v18<(yW.length:Int))then ck (cz v18 yW.length)<|(bu r8 ((0:Nat)+v18:Int)).bind λx1=>(gK n (aG.mk IS IR) x1.floors).bind λr9=>(rZ n (gL.mk w1 w2 w3 w4 w5 w6 w7 w8 w9 wx wv I0 IT) r9.1 a2).bind λyd=>(bif yd then(some (x1.floors,x1.cost,(0:Int))).map λa=>.inr (.inr a)else some (.inl (i64.wrap (v18+1))))else some (.inr (.inl ())))
def jY(a0:gL)(a1:aG)(a2:Int):J ((List Int)×Int×Int):=
 (rY n a0 a1 a2).bind λr1=>(bif (r1.2 !=0)then some (([]:(List Int)),(0:Int),r1.2)else(nS n a1).bind λr2=>ck (aE (sub r2 0 r2.length).length r2.length)<|(Bt n (sub r2 0 r2.length)).bind λr3=>(bif r3 then some (([]:(List Int)),(0:Int),(6:Int))else(nS n a1).bind λr4=>ck (aE (sub r4 0 r4.length).length r4.length)<|(qa (sub r4 0 r4.length)).bind λr5=>ck (aE 0 ([]:U aD).length)<|(ko n r5).bind λys=>(Tv (oN n) ys (a0.cw,a0.co,a0.cm,a0.br,a0.cx,a0.cp,a0.cL,a0.ct,a0.land,a0.cA,a0.windows,a0.built,a0.base,a1.lot,a1.phases,(0:Int),([]:U aD))).bind λ(ww:(List gZ)×(List dD)×(List fO)×(List dw)×(List jE)×(List iD)×(List dI)×Int×(List j5)×(List jP)×(List Bc)×(List iX)×(List bG)×Int×(List dF)×Int×(List aD))=>match ww with|(w1,w2,w3,w4,w5,w6,w7,w8,w9,wx,wv,I0,IT,IS,IR,w16,yW)=>ck (aE yW.length yW.length)<|(jG n yW (λ (y1:aD×aD×Unit)=>o7 y1.1 y1.2.1)).bind λr8=>dM (iter (lH n a2 w1 w2 w3 w4 w5 w6 w7 w8 w9 wx wv I0 IT IS IR yW r8) n (0:Int)) λ()=>some (([]:(List Int)),(0:Int),(4:Int))))
def Kw:J Bool:=
 (zF 8).bind λr1=>(zF 2).bind λr2=>(jY n r1.1 r1.2 0).bind λr3=>(jY n r2.1 r1.2 0).bind λr4=>ck (aE (sub ([1]:U Int) 0 1).length 1)<|(gK n r1.2 (sub ([1]:U Int) 0 1)).bind λr5=>ck (aE (sub ([4]:U Int) 0 1).length 1)<|(gK n r1.2 (sub ([4]:U Int) 0 1)).bind λr6=>((bif ((r5.1.phases.length:Int) !=1)then some true else(bif ((r3.1.length:Int) !=1)then some true else(bif (r3.2.2 !=0)then some true else(bif (r4.2.2 !=4)then some true else(bif (r5.2.2 !=0)then some true else some (r6.2.2 !=1))))))).bind λv1=>(bif v1 then some false else(bu r5.1.phases 0).bind λx1=>(bif ((x1.az.length:Int) !=1)then some false else(bu r3.1 0).bind λx2=>(bif (x2==2)then(bif (r3.2.1==40)then(bif (r5.2.1==20)then(bu r5.1.phases 0).bind λx3=>(bu x3.az 0).bind λx4=>(bif (x4.cg==9)then(bu r1.2.phases 0).bind λx5=>(bu x5.az 0).bind λx6=>(nC x6).bind λr7=>some (r7==4)else some false)else some false)else some false)else some false)))
def uV(rc:(bZ)->(Int)->(Int)->J Int)(a0:bZ)(a1:Int)(a2:Int):Stp (Int×Int) Int
 |(v1,v2)=>((bif decide (v2<a0.args.length)then some (decide (v1<=a1))else some false)).bind λv3=>(bif v3 then(bu a0.args v2).bind λx1=>(rc x1 (i64.wrap (a1-v1)) (i64.wrap (a2-1))).bind λr1=>some (.inl ((i64.wrap (v1+r1)),(i64.wrap (v2+1))))else some (.inr v1))
def Bu(rc:(bZ)->(Int)->(Int)->J Int)(a0:bZ)(a1:Int)(a2:Int):J Int:=
 (bif decide (a2<1)then some (i64.wrap (a1+1))else(iter (uV rc a0 a1 a2) n (1,0)).bind λw1=>some w1)
def Fz(rc:(bZ)->(Int)->(Int)->J Int):ci xx:=⟨[.d (.st SI.Expr),.d (.int .i64),.d (.int .i64)],[.d (.int .i64)],λa=>rc a.1 a.2.1 a.2.2.1,none⟩
def tZ(n:Nat):Nat->(bZ)->(Int)->(Int)->J Int
 | 0=>λ_ _ _=>none
 |m+1=>Bu n (tZ n m)
def Dz(a0:bZ)(a1:Int)(a2:Int):J Int:=tZ n n a0 a1 a2
def Bv(a0:dh):Stp Int (Unit⊕Bool)
 |v1=>((bif decide (v1<a0.rules.length)then some (decide (v1<5))else some false)).bind λv2=>(bif v2 then((bu a0.rules v1).bind λx1=>(Dz n (bZ.mk x1.lp x1.nq x1.np x1.ke x1.gz) 20 14).bind λr1=>(bif decide (r1>20)then some true else(bu a0.rules v1).bind λx2=>(bif decide ((x2.zones.length:Int)>6)then some true else(bu a0.rules v1).bind λx3=>some (decide ((x3.except.length:Int)>6))))).bind λv3=>(bif v3 then(some false).map λa=>.inr (.inr a)else some (.inl (i64.wrap (v1+1))))else some (.inr (.inl ())))
def Bw(a0:dh):Stp Int (Unit⊕Bool)
 |v4=>((bif decide (v4<a0.defs.length)then some (decide (v4<5))else some false)).bind λv5=>(bif v5 then(bu a0.defs v4).bind λx4=>(Dz n (bZ.mk x4.ju x4.mn x4.lj x4.jn x4.ez) 20 14).bind λr2=>(bif decide (r2>20)then(some false).map λa=>.inr (.inr a)else some (.inl (i64.wrap (v4+1))))else some (.inr (.inl ())))
def TF(a0:dh):Stp Int (Unit⊕Bool)
 |v6=>((bif decide (v6<a0.zones.length)then some (decide (v6<5))else some false)).bind λv7=>(bif v7 then(bu a0.zones v6).bind λx5=>(bif decide ((x5.corners.length:Int)>12)then(some false).map λa=>.inr (.inr a)else some (.inl (i64.wrap (v6+1))))else some (.inr (.inl ())))
def TH(a0:dh):Stp Int (Unit⊕Bool)
 |v8=>((bif decide (v8<a0.caps.length)then some (decide (v8<4))else some false)).bind λv9=>(bif v9 then(bu a0.caps v8).bind λx6=>(bif decide ((x6.corners.length:Int)>12)then(some false).map λa=>.inr (.inr a)else some (.inl (i64.wrap (v8+1))))else some (.inr (.inl ())))
def TJ(a0:dh):Stp Int (Unit⊕Bool)
 |v10=>((bif decide (v10<a0.tables.length)then some (decide (v10<3))else some false)).bind λv11=>(bif v11 then(bu a0.tables v10).bind λx7=>(bif decide ((x7.rows.length:Int)>8)then(some false).map λa=>.inr (.inr a)else some (.inl (i64.wrap (v10+1))))else some (.inr (.inl ())))
def OE(a0:dh):J Bool:=
 dM (iter (Bv n a0) n 0) λ()=>dM (iter (Bw n a0) n 0) λ()=>dM (iter (TF a0) n 0) λ()=>dM (iter (TH a0) n 0) λ()=>dM (iter (TJ a0) n 0) λ()=>(bif decide ((a0.rules.length:Int)<=4)then(bif decide ((a0.defs.length:Int)<=4)then(bif decide ((a0.zones.length:Int)<=4)then(bif decide ((a0.caps.length:Int)<=3)then some (decide ((a0.tables.length:Int)<=2))else some false)else some false)else some false)else some false)
def wO(a0:ax):J Bool:=
 (bif decide (a0.x0>=0)then(bif decide (a0.x0<a0.x1)then(bif decide (a0.x1<=1048576)then(bif decide (a0.y0>=0)then(bif decide (a0.y0<a0.y1)then some (decide (a0.y1<=1048576))else some false)else some false)else some false)else some false)else some false)
def FB(a0:qf):J Bool:=
 (wO (ax.mk a0.ga a0.fX a0.fY a0.fW)).bind λr1=>(bif r1 then(bif decide (a0.z0>=0)then(bif decide (a0.z0<a0.z1)then some (decide (a0.z1<=4096))else some false)else some false)else some false)
def FC(a0:Int)(a1:Int)(a2:Int):J Bool:=
 (bif decide (a0>=a1)then some (decide (a0<=a2))else some false)
def sV(a0:ay):J Bool:=
 (FB (qf.mk a0.bj a0.bo a0.be a0.bk a0.ca a0.cg)).bind λr1=>(bif r1 then(FC a0.use 0 5).bind λr2=>(bif r2 then(FC a0.units 0 1048576).bind λr3=>(bif r3 then(bif (a0.units==0)then some true else some (a0.use==0))else some false)else some false)else some false)
def FD(a0:ay):J Int:=
 (sV a0).bind λr1=>(bif (!r1)then some 0 else ck (3 !=0)<|some (i64.wrap (Int.tdiv (i64.wrap ((i64.wrap (a0.cg-a0.ca))+2)) 3)))
def qC(a0:aG)(v2:Int):Stp (Int×Int) (Int⊕((Int×Int)⊕(Int⊕Int)))
 |(v3,v4)=>(bu a0.phases v2).bind λx1=>(bif decide (v4<x1.az.length)then(bu a0.phases v2).bind λx2=>(bu x2.az v4).bind λx3=>(FD x3).bind λr1=>(bif (decide ((i64.wrap (v3*(i64.wrap (r1+1))))>2001))then((some 2001).map λa=>.inr (.inr a)).map λa=>.inr (.inr a)else some (.inl ((i64.wrap (v3*(i64.wrap (r1+1)))),(i64.wrap (v4+1)))))else some (.inr (.inl v3)))
def qD(a0:aG):Stp (Int×Int) (Int⊕Int)
 |(v1,v2)=>(bif decide (v2<a0.phases.length)then dM (iter (qC a0 v2) n (v1,0)) λw1=>some (.inl (w1,(i64.wrap (v2+1))))else some (.inr (.inl v1)))
def OG(a0:aG):J Int:=
 dM (iter (qD n a0) n (1,0)) λw2=>some (i64.wrap (w2-1))
def Yi(a0:gL):Stp Int (Unit⊕Bool)
 |v1=>((bif decide (v1<a0.land.length)then some (decide (v1<4))else some false)).bind λv2=>(bif v2 then(bu a0.land v1).bind λx1=>(bif decide ((x1.area.length:Int)>4)then(some false).map λa=>.inr (.inr a)else some (.inl (i64.wrap (v1+1))))else some (.inr (.inl ())))
def Yj(a0:gL):Stp Int (Unit⊕Bool)
 |v3=>((bif decide (v3<a0.cA.length)then some (decide (v3<4))else some false)).bind λv4=>(bif v4 then(bu a0.cA v3).bind λx2=>(bif decide ((x2.area.length:Int)>4)then(some false).map λa=>.inr (.inr a)else some (.inl (i64.wrap (v3+1))))else some (.inr (.inl ())))
def FE(a1:aG):Stp Int (Unit⊕Bool)
 |v5=>((bif decide (v5<a1.phases.length)then some (decide (v5<4))else some false)).bind λv6=>(bif v6 then((bu a1.phases v5).bind λx3=>(bif decide ((x3.az.length:Int)>3)then some true else(bu a1.phases v5).bind λx4=>some (decide ((x4.gives.length:Int)>3)))).bind λv7=>(bif v7 then(some false).map λa=>.inr (.inr a)else some (.inl (i64.wrap (v5+1))))else some (.inr (.inl ())))
def VK(a0:gL)(a1:aG):J Bool:=
 dM (iter (Yi a0) n 0) λ()=>dM (iter (Yj a0) n 0) λ()=>dM (iter (FE a1) n 0) λ()=>(OE n (dh.mk a0.cw a0.co a0.cm a0.br a0.cx a0.cp a0.cL a0.ct)).bind λr1=>(bif r1 then(bif decide ((a0.land.length:Int)<=3)then(bif decide ((a0.cA.length:Int)<=3)then(bif decide ((a0.built.length:Int)<=4)then(bif decide ((a1.phases.length:Int)<=3)then(OG n a1).bind λr2=>some (decide (r2<=60))else some false)else some false)else some false)else some false)else some false)
def sj(x1:U aN):Stp (Int×(List Int)) (List Int)
 |(v3,v4)=>(bif decide (v3<x1.length)then(bu x1 v3).bind λx2=>ck (bR v4.length v4.length (sub ([x2.z0,x2.z1]:U Int) 0 2).length 2 8)<|jm (v4++(sub ([x2.z0,x2.z1]:U Int) 0 2)) λr1=>ck (aE r1.length r1.length)<|some (.inl ((i64.wrap (v3+1)),r1))else ck (aE v4.length v4.length)<|some (.inr v4))
def sD(a0:U (List aN)):Stp (Int×(List Int)) (List Int)
 |(v1,v2)=>(bif decide (v1<a0.length)then(bu a0 v1).bind λx1=>ck (aE v2.length v2.length)<|(iter (sj x1) n (0,v2)).bind λw1=>ck (aE w1.length w1.length)<|some (.inl ((i64.wrap (v1+1)),w1))else ck (aE v2.length v2.length)<|some (.inr v2))
def tK(a0:U (List aN)):J (List Int):=
 ck (aE 0 ([]:U Int).length)<|(iter (sD n a0) n (0,[])).bind λw2=>ck (aE w2.length w2.length)<|(og n w2).bind λr2=>ck (aE w2.length r2.length)<|(nP n r2).bind λr3=>ck (aE (sub r3.2 0 r3.2.length).length r3.2.length)<|some (sub r3.2 0 r3.2.length)
def Rb(a0:U aN)(a1:aN):J ((List aN)×Unit):=
 (bif ((a1.area.length:Int)==0)then ck (aE (sub a0 0 a0.length).length a0.length)<|some ((sub a0 0 a0.length),())else((bif decide ((i64.wrap ((a0.length:Nat)-1))>=0)then ck (cz (i64.wrap ((a0.length:Nat)-1)) a0.length)<|(bu a0 ((0:Nat)+(i64.wrap ((a0.length:Nat)-1)):Int)).bind λx1=>(bif (x1.z1==a1.z0)then ck (cz (i64.wrap ((a0.length:Nat)-1)) a0.length)<|(bu a0 ((0:Nat)+(i64.wrap ((a0.length:Nat)-1)):Int)).bind λx2=>(OC n x2.area a1.area).bind λr1=>some r1 else some false)else some false)).bind λv1=>(bif v1 then ck (cz (i64.wrap ((a0.length:Nat)-1)) a0.length)<|(bu a0 ((0:Nat)+(i64.wrap ((a0.length:Nat)-1)):Int)).bind λx3=>ck (aE (sub (a0.set ((0:Nat)+(i64.wrap ((a0.length:Nat)-1)):Int).toNat (aN.mk x3.z0 a1.z1 x3.area)) 0 a0.length).length a0.length)<|some ((sub (a0.set ((0:Nat)+(i64.wrap ((a0.length:Nat)-1)):Int).toNat (aN.mk x3.z0 a1.z1 x3.area)) 0 a0.length),())else ck (bR a0.length a0.length (sub ([a1]:U aN) 0 1).length 1 40)<|jm (a0++(sub ([a1]:U aN) 0 1)) λr2=>ck (aE (sub r2 0 r2.length).length r2.length)<|some ((sub r2 0 r2.length),())))
def VL(a0:U aN):J ((List aN)×Int):=
 (bif decide ((a0.length:Int)>80)then some ([],6)else some (a0,0))
def Ji(a0:U qf):Stp (Int×(List aN)) ((List aN)⊕((List aN)×Int))
 |(v1,v2)=>(bif decide (v1<a0.length)then(bu a0 v1).bind λx1=>((nJ (ax.mk x1.ga x1.fX x1.fY x1.fW)).bind λr1=>(bif (!r1)then some true else(bif decide (x1.z0<0)then some true else(bif decide (x1.z0>=x1.z1)then some true else some (decide (x1.z1>4096)))))).bind λv3=>(bif v3 then(some ([],1)).map λa=>.inr (.inr a)else ck (bR v2.length v2.length (sub ([(aN.mk x1.z0 x1.z1 ([]))]:U aN) 0 1).length 1 40)<|jm (v2++(sub ([(aN.mk x1.z0 x1.z1 ([]))]:U aN) 0 1)) λr2=>ck (aE r2.length r2.length)<|some (.inl ((i64.wrap (v1+1)),r2)))else ck (aE v2.length v2.length)<|some (.inr (.inl v2)))
def Jj(a0:U qf)(r3:U Int)(v4:Int):Stp (Int×(List ax)) (List ax)
 |(v6,v7)=>(bif decide (v6<a0.length)then((bu a0 v6).bind λx2=>(ck (cz v4 r3.length)<|(bu r3 ((0:Nat)+v4:Int)).bind λx3=>(bif decide (x2.z0<x3)then ck (cz (i64.wrap (v4-1)) r3.length)<|(bu r3 ((0:Nat)+(i64.wrap (v4-1)):Int)).bind λx4=>some (decide (x4<x2.z1))else some false)).bind λv8=>(bif v8 then ck (bR v7.length v7.length (sub ([(ax.mk x2.ga x2.fX x2.fY x2.fW)]:U ax) 0 1).length 1 32)<|jm (v7++(sub ([(ax.mk x2.ga x2.fX x2.fY x2.fW)]:U ax) 0 1)) λr4=>ck (aE r4.length r4.length)<|some r4 else ck (aE v7.length v7.length)<|some v7):J ((List ax))).bind λv9=>ck (aE v9.length v9.length)<|some (.inl ((i64.wrap (v6+1)),v9))else ck (aE v7.length v7.length)<|some (.inr v7))
def OH(a0:U qf)(r3:U Int):Stp (Int×(List aN)) ((List aN)⊕((List aN)×Int))
 |(v4,v5)=>(bif decide (v4<(r3.length:Nat))then ck (aE 0 ([]:U ax).length)<|(iter (Jj a0 r3 v4) n (0,[])).bind λw2=>ck (aE (sub w2 0 w2.length).length w2.length)<|(Is n (sub w2 0 w2.length)).bind λr5=>(bif (r5.2 !=0)then(some ([],r5.2)).map λa=>.inr (.inr a)else ck (cz (i64.wrap (v4-1)) r3.length)<|(bu r3 ((0:Nat)+(i64.wrap (v4-1)):Int)).bind λx5=>ck (cz v4 r3.length)<|(bu r3 ((0:Nat)+v4:Int)).bind λx6=>ck (aE v5.length v5.length)<|(Rb n v5 (aN.mk x5 x6 r5.1)).bind λr6=>ck (aE r6.1.length r6.1.length)<|some (.inl ((i64.wrap (v4+1)),r6.1)))else ck (aE v5.length v5.length)<|some (.inr (.inl v5)))
def Q3(a0:U qf):J ((List aN)×Int):=
 ck (aE 0 ([]:U aN).length)<|dM (iter (Ji a0) n (0,[])) λw1=>(bif decide ((a0.length:Int)>200)then some ([],6)else ck (aE (sub w1 0 w1.length).length w1.length)<|ck (aE (sub ([(sub w1 0 w1.length)]:U (List aN)) 0 1).length 1)<|(tK n (sub ([(sub w1 0 w1.length)]:U (List aN)) 0 1)).bind λr3=>ck (aE 0 ([]:U aN).length)<|dM (iter (OH n a0 r3) n (1,[])) λw3=>ck (aE (sub w3 0 w3.length).length w3.length)<|(VL (sub w3 0 w3.length)).bind λr7=>some (r7.1,r7.2))
def qZ(r2:U ay):Stp (Int×(List qf)) (List qf)
 |(v1,v2)=>(bif decide (v1<(r2.length:Nat))then ck (cz v1 r2.length)<|(bu r2 ((0:Nat)+v1:Int)).bind λx1=>ck (bR v2.length v2.length (sub ([(qf.mk x1.bj x1.bo x1.be x1.bk x1.ca x1.cg)]:U qf) 0 1).length 1 48)<|jm (v2++(sub ([(qf.mk x1.bj x1.bo x1.be x1.bk x1.ca x1.cg)]:U qf) 0 1)) λr3=>ck (aE r3.length r3.length)<|some (.inl ((i64.wrap (v1+1)),r3))else ck (aE v2.length v2.length)<|some (.inr v2))
def pM(a0:aG)(a1:Int)(a2:Int):J ((List aN)×Int):=
 (eY n a0).bind λr1=>(bif (!r1)then some ([],1)else(lY n a0 a1 a2).bind λr2=>ck (aE 0 ([]:U qf).length)<|(iter (qZ r2) n (0,[])).bind λw1=>ck (aE (sub w1 0 w1.length).length w1.length)<|(Q3 n (sub w1 0 w1.length)).bind λr4=>some (r4.1,r4.2))
def OI(a0:U aN)(a1:Int):Stp Int (Unit⊕(List ax))
 |v1=>(bif decide (v1<a0.length)then(bu a0 v1).bind λx1=>((bif decide (x1.z0<=a1)then some (decide (a1<x1.z1))else some false)).bind λv2=>(bif v2 then(some x1.area).map λa=>.inr (.inr a)else some (.inl (i64.wrap (v1+1))))else some (.inr (.inl ())))
def Q2(a0:U aN)(a1:Int):J (List ax):=
 dM (iter (OI a0 a1) n 0) λ()=>some []
def Bz(a0:Bool)(a1:Bool):J Bool:=
 (bif a0 then some (!a1)else some false)
def Jk(a0:U ax)(a1:U ax):J ((List ax)×Int):=
 (zJ n a0 a1 (λ (y1:Bool×Bool×Unit)=>Bz y1.1 y1.2.1)).bind λr1=>some (r1.1,r1.2)
def nU(a0:U aN)(a1:U aN)(r3:U Int):Stp (Int×(List aN)) ((List aN)⊕((List aN)×Int))
 |(v2,v3)=>(bif decide (v2<((sub r3 0 r3.length).length:Int))then(bu (sub r3 0 r3.length) (i64.wrap (v2-1))).bind λx1=>(Q2 n a0 x1).bind λr4=>(bu (sub r3 0 r3.length) (i64.wrap (v2-1))).bind λx2=>(Q2 n a1 x2).bind λr5=>(Jk n r4 r5).bind λr6=>(bif (r6.2 !=0)then(some ([],r6.2)).map λa=>.inr (.inr a)else(bu (sub r3 0 r3.length) (i64.wrap (v2-1))).bind λx3=>(bu (sub r3 0 r3.length) v2).bind λx4=>ck (aE v3.length v3.length)<|(Rb n v3 (aN.mk x3 x4 r6.1)).bind λr7=>ck (aE r7.1.length r7.1.length)<|some (.inl ((i64.wrap (v2+1)),r7.1)))else ck (aE v3.length v3.length)<|some (.inr (.inl v3)))
def BX(a0:U aN)(a1:U aN):J ((List aN)×Int):=
 ((zM n a0).bind λr1=>(bif (!r1)then some true else(zM n a1).bind λr2=>some (!r2))).bind λv1=>(bif v1 then some ([],1)else ck (aE (sub ([a0,a1]:U (List aN)) 0 2).length 2)<|(tK n (sub ([a0,a1]:U (List aN)) 0 2)).bind λr3=>ck (aE (sub r3 0 r3.length).length r3.length)<|ck (aE 0 ([]:U aN).length)<|dM (iter (nU n a0 a1 r3) n (1,[])) λw1=>ck (aE (sub w1 0 w1.length).length w1.length)<|(VL (sub w1 0 w1.length)).bind λr8=>some (r8.1,r8.2))
def Jl(a0:U aN)(a1:U aN):J ((List aN)×Int):=
 (BX n a0 a1).bind λr1=>some (r1.1,r1.2)
def kP(a0:U dF)(a1:U dF)(a2:(dF×dF×Unit)->J Bool):Stp Int (Unit⊕Bool)
 |v1=>(bif decide (v1<a0.length)then(bu a0 v1).bind λx1=>(bu a1 v1).bind λx2=>(a2 (x1,x2,())).bind λr1=>(bif (!r1)then(some false).map λa=>.inr (.inr a)else some (.inl (i64.wrap (v1+1))))else some (.inr (.inl ())))
def nD(a0:U dF)(a1:U dF)(a2:(dF×dF×Unit)->J Bool):J Bool:=
 (bif (a0.length !=(a1.length:Int))then some false else dM (iter (kP a0 a1 a2) n 0) λ()=>some true)
def Me(a0:U ay)(a1:U ay):Stp Int (Unit⊕Bool)
 |v1=>(bif decide (v1<a0.length)then(bu a0 v1).bind λx1=>(bu a1 v1).bind λx2=>(bif (!((x1.bj==x2.bj)&&((x1.bo==x2.bo)&&((x1.be==x2.be)&&((x1.bk==x2.bk)&&((x1.ca==x2.ca)&&((x1.cg==x2.cg)&&((x1.use==x2.use)&&((x1.units==x2.units)&&((x1.extra==x2.extra)&&true))))))))))then(some false).map λa=>.inr (.inr a)else some (.inl (i64.wrap (v1+1))))else some (.inr (.inl ())))
def sW(a0:U ay)(a1:U ay):J Bool:=
 (bif (a0.length !=(a1.length:Int))then some false else dM (iter (Me a0 a1) n 0) λ()=>some true)
def OJ(n:Nat)(a0:U bG)(a1:U bG):Stp Int (Unit⊕Bool)
 |v1=>(bif decide (v1<a0.length)then(bu a0 v1).bind λx1=>(bu a1 v1).bind λx2=>(bif (!((ByteArray.toList x1.name==ByteArray.toList x2.name)&&((x1.n==x2.n)&&true)))then(some false).map λa=>.inr (.inr a)else some (.inl (i64.wrap (v1+1))))else some (.inr (.inl ())))
def uW(a0:U bG)(a1:U bG):J Bool:=
 (bif (a0.length !=(a1.length:Int))then some false else dM (iter (OJ n a0 a1) n 0) λ()=>some true)
def sZ(a0:dF)(a1:dF):J Bool:=
 (sW n a0.az a1.az).bind λr1=>(bif r1 then(uW n a0.gives a1.gives).bind λr2=>some r2 else some false)
def yR(a0:aG)(a1:aG):J Bool:=
 (bif (a0.lot==a1.lot)then(nD n a0.phases a1.phases (λ (y1:dF×dF×Unit)=>sZ n y1.1 y1.2.1)).bind λr1=>some r1 else some false)
def afE(a0:U ax)(a1:U ax):Stp Int (Unit⊕Bool)
 |v1=>(bif decide (v1<a0.length)then(bu a0 v1).bind λx1=>(bu a1 v1).bind λx2=>(bif (!((x1.x0==x2.x0)&&((x1.y0==x2.y0)&&((x1.x1==x2.x1)&&((x1.y1==x2.y1)&&true)))))then(some false).map λa=>.inr (.inr a)else some (.inl (i64.wrap (v1+1))))else some (.inr (.inl ())))
def OL(a0:U ax)(a1:U ax):J Bool:=
 (bif (a0.length !=(a1.length:Int))then some false else dM (iter (afE a0 a1) n 0) λ()=>some true)
def Jm(a0:U aN)(a1:U aN):Stp Int (Unit⊕Bool)
 |v1=>(bif decide (v1<a0.length)then((bu a0 v1).bind λx1=>(bu a1 v1).bind λx2=>(bif (x1.z0 !=x2.z0)then some true else(bu a0 v1).bind λx3=>(bu a1 v1).bind λx4=>(bif (x3.z1 !=x4.z1)then some true else(bu a0 v1).bind λx5=>(bu a1 v1).bind λx6=>(OL n x5.area x6.area).bind λr1=>some (!r1)))).bind λv2=>(bif v2 then(some false).map λa=>.inr (.inr a)else some (.inl (i64.wrap (v1+1))))else some (.inr (.inl ())))
def OM(a0:U aN)(a1:U aN):J Bool:=
 (bif (a0.length !=(a1.length:Int))then some false else dM (iter (Jm n a0 a1) n 0) λ()=>some true)
def q8(a0:aG)(a1:U Int):J Bool:=
 (Kw n).bind λr1=>((VK n (gL.mk ([]) ([]) ([]) ([]) ([]) ([]) ([]) 0 ([]) ([]) ([]) ([]) ([])) a0).bind λr2=>(bif (!r2)then some true else some (decide ((a1.length:Int)>10)))).bind λv1=>(bif v1 then some r1 else(gK n a0 a1).bind λr3=>(bif (r3.2.2 !=0)then(bif r1 then(bif (r3.2.2==1)then some (r3.2.1==0)else some false)else some false)else(pM n a0 0 (a0.phases.length:Int)).bind λr4=>(pM n r3.1 0 (r3.1.phases.length:Int)).bind λr5=>((bif (r4.2 !=0)then some true else(bif (r5.2 !=0)then some true else(eY n r3.1).bind λr6=>some (!r6)))).bind λv2=>(bif v2 then(bif r1 then(eY n r3.1).bind λr7=>some r7 else some false)else(Jl n r5.1 r4.1).bind λr8=>(bif r1 then(bif (r8.2==0)then(bif ((r8.1.length:Int)==0)then(yR n r3.1 a0).bind λr9=>(bif ((r3.2.1==0)==r9)then(OM n r4.1 r5.1).bind λyd=>some ((r3.2.1==0)==yd)else some false)else some false)else some false)else some false))))
end
end Go.Proofs
