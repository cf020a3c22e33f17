import Derived.Test.YtckpncemdfkmgaaGreatTBase
open Go.IntKind (i64)
namespace Go.Proofs
open Go.Gb Go.RowKit
noncomputable section
variable (n:Nat)
def ZQ(a0:ByteArray)(a1:Int):Option cK:=
 ck (aE (sub ([(bV.mk 1 0 a0 (⟨#[]⟩) ([])),(bV.mk 0 a1 (⟨#[]⟩) (⟨#[]⟩) ([]))]:List bV) 0 2).length 2)<|some (cK.mk (⟨#[114]⟩) ([]) ([]) 0 0 0 false 0 12 0 (⟨#[]⟩) (⟨#[]⟩) (sub ([(bV.mk 1 0 a0 (⟨#[]⟩) ([])),(bV.mk 0 a1 (⟨#[]⟩) (⟨#[]⟩) ([]))]:List bV) 0 2) 0 0 0 0 0 0 0)
def yH(a0:Int):Option (fP×aG):=
 ck (aE (sub ([(ax.mk 0 0 9 9)]:List ax) 0 1).length 1)<|(ZQ (⟨#[104,101,105,103,104,116]⟩) a0).bind λr1=>ck (aE (sub ([(ay.mk 1 1 5 6 0 10 1 0 false)]:List ay) 0 1).length 1)<|ck (aE (sub ([r1]:List cK) 0 1).length 1)<|ck (aE (sub ([(iK.mk 1 0 (sub ([(ax.mk 0 0 9 9)]:List ax) 0 1) ([]))]:List iK) 0 1).length 1)<|ck (aE (sub ([(eF.mk (sub ([(ay.mk 1 1 5 6 0 10 1 0 false)]:List ay) 0 1) ([]))]:List eF) 0 1).length 1)<|some ((fP.mk ([]) ([]) ([]) (sub ([r1]:List cK) 0 1) ([]) ([]) ([]) 0 (sub ([(iK.mk 1 0 (sub ([(ax.mk 0 0 9 9)]:List ax) 0 1) ([]))]:List iK) 0 1) ([]) ([]) ([]) ([])),(aG.mk 1 (sub ([(eF.mk (sub ([(ay.mk 1 1 5 6 0 10 1 0 false)]:List ay) 0 1) ([]))]:List eF) 0 1)))
def AJ(a0:List ax):Option (List ax):=
 (bif a0.isEmpty then(both (some []) (ck (bP ([]:List ax).length 0 a0.length a0.length 32)<|jM ([]++a0) λr1=>ck (aE (sub r1 0 r1.length).length r1.length)<|some (sub r1 0 r1.length)))else ck (bP ([]:List ax).length 0 a0.length a0.length 32)<|jM ([]++a0) λr2=>ck (aE (sub r2 0 r2.length).length r2.length)<|some (sub r2 0 r2.length))
def sZ(a0:List Int):Option (List Int):=
 (bif a0.isEmpty then(both (some []) (ck (bP ([]:List Int).length 0 a0.length a0.length 8)<|jM ([]++a0) λr1=>ck (aE (sub r1 0 r1.length).length r1.length)<|some (sub r1 0 r1.length)))else ck (bP ([]:List Int).length 0 a0.length a0.length 8)<|jM ([]++a0) λr2=>ck (aE (sub r2 0 r2.length).length r2.length)<|some (sub r2 0 r2.length))
def MK(a0:iK):Option iK:=
 (AJ a0.area).bind λr1=>(sZ a0.from_).bind λr2=>ck (aE (sub r1 0 r1.length).length r1.length)<|ck (aE (sub r2 0 r2.length).length r2.length)<|some (iK.mk a0.id a0.owner (sub r1 0 r1.length) (sub r2 0 r2.length))
def Ed(a0:List iK)(a1:Int):Stp Int (Unit⊕(iK×Bool))
 |v1=>(bif decide (v1<a0.length)then(bz a0 v1).bind λx1=>(bif (x1.id==a1)then(MK x1).bind λr1=>(some (r1,true)).map λa=>.inr (.inr a)else some (.inl (i64.wrap (v1+1))))else some (.inr (.inl ())))
def ML(a0:List iK)(a1:Int):Option (iK×Bool):=
 dP (iter (Ed a0 a1) n 0) λ()=>some ((iK.mk 0 0 ([]) ([])),false)
def nN(a0:aG)(a1:Int)(a2:Int):Stp (Int×(List ay)) (List ay)
 |(v1,v2)=>(bif decide (v1<a0.phases.length)then((bz a0.phases v1).bind λx1=>((bif decide (v1>=a1)then some (decide (v1<a2))else some false)).bind λv3=>(bif v3 then ck (bP v2.length v2.length x1.az.length x1.az.length 72)<|jM (v2++x1.az) λr1=>ck (aE r1.length r1.length)<|some r1 else ck (aE v2.length v2.length)<|some v2):Option ((List ay))).bind λv4=>ck (aE v4.length v4.length)<|some (.inl ((i64.wrap (v1+1)),v4))else ck (aE v2.length v2.length)<|some (.inr v2))
def nY(a0:aG)(a1:Int)(a2:Int):Option (List ay):=
 ck (aE 0 ([]:List ay).length)<|(iter (nN a0 a1 a2) n (0,[])).bind λw1=>ck (aE (sub w1 0 w1.length).length w1.length)<|some (sub w1 0 w1.length)
def vU(a0:aG):Option (List ay):=
 (nY n a0 0 a0.phases.length).bind λr1=>ck (aE (sub r1 0 r1.length).length r1.length)<|some (sub r1 0 r1.length)
def oO(a0:ax):Option Bool:=
 (bif decide (0<=a0.x0)then(bif decide (a0.x0<a0.x1)then(bif decide (a0.x1<=1048576)then(bif decide (0<=a0.y0)then(bif decide (a0.y0<a0.y1)then some (decide (a0.y1<=1048576))else some false)else some false)else some false)else some false)else some false)
def fK(a0:ay):Option Bool:=
 ((oO (ax.mk a0.bj a0.bp a0.be a0.bo)).bind λr1=>(bif (!r1)then some true else(bif decide (a0.b9<0)then some true else(bif decide (a0.b9>=a0.ch)then some true else some (decide (a0.ch>4096)))))).bind λv1=>(bif v1 then some false else((bif (a0.use !=0)then some (a0.units !=0)else some false)).bind λv2=>(bif v2 then some false else(bif decide (a0.use>=0)then(bif decide (a0.use<6)then(bif decide (a0.units>=0)then some (decide (a0.units<=1048576))else some false)else some false)else some false)))
def xY(a0:ax):Option (ax×Bool):=
 (oO a0).bind λr1=>(bif r1 then some (a0,true)else some ((ax.mk 0 0 0 0),false))
def rX(a0:ax)(a1:ax):Option (ax×Bool):=
 ((oO a0).bind λr1=>(bif (!r1)then some true else(oO a1).bind λr2=>some (!r2))).bind λv1=>(bif v1 then some ((ax.mk 0 0 0 0),false)else(xY (ax.mk (max a0.x0 a1.x0) (max a0.y0 a1.y0) (min a0.x1 a1.x1) (min a0.y1 a1.y1))).bind λr3=>some (r3.1,r3.2))
def tq(a0:yf)(a1:yf):Option Bool:=
 (rX (ax.mk a0.mA a0.my a0.mz a0.mw) (ax.mk a1.mA a1.my a1.mz a1.mw)).bind λr1=>(bif r1.2 then(bif decide (a0.z0<a1.z1)then some (decide (a1.z0<a0.z1))else some false)else some false)
def gZ(a0:ay)(a1:ay):Option Bool:=
 (tq (yf.mk a1.bj a1.bp a1.be a1.bo a1.b9 a1.ch) (yf.mk a0.bj a0.bp a0.be a0.bo a0.b9 a0.ch)).bind λr1=>some r1
def Ee(a0:List ay)(a1:(ay×Unit)->Option Bool):Stp Int (Unit⊕Int)
 |v1=>(bif decide (v1<a0.length)then(bz a0 v1).bind λx1=>(a1 (x1,())).bind λr1=>(bif r1 then(some v1).map λa=>.inr (.inr a)else some (.inl (i64.wrap (v1+1))))else some (.inr (.inl ())))
def qx(a0:List ay)(a1:(ay×Unit)->Option Bool):Option Int:=
 dP (iter (Ee a0 a1) n 0) λ()=>some (-1)
def gG(a0:List ay)(a1:(ay×Unit)->Option Bool):Option Bool:=
 (qx n a0 a1).bind λr1=>some (decide (r1>=0))
def Ef(a0:Int):Option Bool:=
 (bif decide (a0>=97)then some (decide (a0<=122))else some false)
def zW(a0:ByteArray)(a1:(Int×Unit)->Option Bool):Stp Int Int
 |v1=>((bif decide (v1<a0.size)then(QZ a0 v1).bind λx1=>(a1 (x1,())).bind λr1=>some r1 else some false)).bind λv2=>(bif v2 then some (.inl (i64.wrap (v1+1)))else some (.inr v1))
def MN(a0:ByteArray)(a1:(Int×Unit)->Option Bool):Option Int:=
 (iter (zW a0 a1) n 0).bind λw1=>some w1
def Pq(a0:Int):Option Bool:=
 (bif decide (a0>=48)then some (decide (a0<=57))else some false)
def zX(a0:Int):Option Bool:=
 (Ef a0).bind λr1=>(bif r1 then some true else(Pq a0).bind λr2=>some r2)
def MO(a0:ByteArray):Option Bool:=
 ((bif (ByteArray.toList a0==ByteArray.toList (⟨#[]⟩))then some true else(QZ a0 0).bind λx1=>(Ef x1).bind λr1=>(bif (!r1)then some true else some (decide ((a0.size:Int)>20))))).bind λv1=>(bif v1 then some false else(MN n a0 (λ (y1:Int×Unit)=>zX y1.1)).bind λr2=>some (r2==a0.size))
def strings_Contains(a0 a1:ByteArray):Option Bool:=ck (Nat.ble a0.size 4000000)<|some (Lib.contains a0.data.toList a1.data.toList)
def vV(a0:ByteArray):Option Bool:=
 (MO n a0).bind λr1=>(bif r1 then ck (UU (⟨#[32]⟩) a0)<|ck (UU ((⟨#[32]⟩)++a0) (⟨#[32]⟩))<|(strings_Contains (⟨#[32,97,110,100,32,97,112,97,114,116,32,98,97,115,101,32,99,97,112,32,100,101,102,105,110,101,32,101,108,115,101,32,101,120,99,101,112,116,32,102,114,111,109,32,103,114,97,99,101,32,104,111,117,114,115,32,105,102,32,105,110,32,108,101,97,115,116,32,110,111,116,32,111,114,32,111,118,101,114,108,97,121,32,112,108,97,110,101,32,114,117,108,101,32,115,108,111,112,101,32,115,117,110,32,116,97,98,108,101,32,116,104,101,110,32,117,110,116,105,108,32,117,115,101,115,32,118,97,114,121,32,118,105,101,119,32,122,111,110,101,32]⟩) (((⟨#[32]⟩)++a0)++(⟨#[32]⟩))).bind λr2=>some (!r2)else some false)
def gu(r1:List ay):Stp Int (Unit⊕Bool)
 |v2=>(bif decide (v2<(r1.length:Nat))then ck (ct v2 r1.length)<|(bz r1 ((0:Nat)+v2:Int)).bind λx1=>((fK x1).bind λr2=>(bif (!r2)then some true else ck (Aw 0 v2 r1.length)<|ck (aE (sub r1 0 (v2.toNat)).length (v2.toNat))<|(gG n (sub r1 0 (v2.toNat)) (λ (y1:ay×Unit)=>gZ y1.1 x1)).bind λr3=>some r3)).bind λv3=>(bif v3 then(some false).map λa=>.inr (.inr a)else some (.inl (i64.wrap (v2+1))))else some (.inr (.inl ())))
def lN(x2:eF):Stp (Int×(List (ByteArray×Bool))) (Unit⊕(Int⊕(Unit⊕Bool)))
 |(v5,v6)=>(bif decide (v5<x2.gives.length)then(bz x2.gives v5).bind λx3=>((bif ((iq fY x3.name v6).getD false)then some true else(vV n x3.name).bind λr4=>(bif (!r4)then some true else(bif decide (x3.n<0)then some true else some (decide (x3.n>1073741824)))))).bind λv7=>(bif v7 then((some false).map λa=>.inr (.inr a)).map λa=>.inr (.inr a)else some (.inl ((i64.wrap (v5+1)),(Fh fY x3.name true v6))))else some (.inr (.inl ())))
def gB(a0:aG):Stp Int (Unit⊕Bool)
 |v4=>(bif decide (v4<a0.phases.length)then(bz a0.phases v4).bind λx2=>dP (iter (lN n x2) n (0,([]:(List (ByteArray×Bool))))) λ()=>(bif decide ((x2.gives.length:Int)>30)then(some false).map λa=>.inr (.inr a)else some (.inl (i64.wrap (v4+1))))else some (.inr (.inl ())))
def iQ(a0:aG):Option Bool:=
 (vU n a0).bind λr1=>((bif decide (a0.lot<0)then some true else(bif decide (a0.lot>1073741824)then some true else(bif decide ((a0.phases.length:Int)<1)then some true else(bif decide ((a0.phases.length:Int)>8)then some true else(bif decide ((r1.length:Int)<1)then some true else some (decide ((r1.length:Int)>40)))))))).bind λv1=>(bif v1 then some false else dP (iter (gu n r1) n 0) λ()=>dP (iter (gB n a0) n 0) λ()=>some true)
def MP(a0:Unit)(a1:Int):Option (List ax):=
 (bif decide (a1<0)then none else(bif (decide ((i64.wrap (a1-(i64.wrap (0-0))))>0))then ck (wC (i64.wrap (a1-(i64.wrap (0-0)))) 32)<|ck (Aw 0 0 ((i64.wrap (a1-(i64.wrap (0-0)))).toNat))<|ck (aE (sub (List.replicate (i64.wrap (a1-(i64.wrap (0-0)))).toNat (ax.mk 0 0 0 0)) 0 0).length 0)<|some (sub (List.replicate (i64.wrap (a1-(i64.wrap (0-0)))).toNat (ax.mk 0 0 0 0)) 0 0)else some []))
def MQ(a0:List (List ax)):Stp (Int×Int) Int
 |(v1,v2)=>(bif decide (v2<a0.length)then(bz a0 v2).bind λx1=>(bif decide ((i64.wrap (v1+x1.length))<0)then none else some (.inl ((i64.wrap (v1+x1.length)),(i64.wrap (v2+1)))))else some (.inr v1))
def MR(a0:List (List ax)):Stp (Int×(List ax)) (List ax)
 |(v3,v4)=>(bif decide (v3<a0.length)then(bz a0 v3).bind λx2=>ck (bP v4.length v4.length x2.length x2.length 32)<|jM (v4++x2) λr2=>ck (aE r2.length r2.length)<|some (.inl ((i64.wrap (v3+1)),r2))else ck (aE v4.length v4.length)<|some (.inr v4))
def yI(a0:List (List ax)):Option (List ax):=
 (iter (MQ a0) n (0,0)).bind λw1=>(MP () w1).bind λr1=>ck (aE r1.length r1.length)<|(iter (MR a0) n (0,r1)).bind λw2=>ck (aE (sub w2 0 w2.length).length w2.length)<|some (sub w2 0 w2.length)
def pF(_:Nat)(a0:List Int):Option (List Int):=N3 a0
def MS(a0:List Int)(v1:Int):Stp (Int×Int×(List Int)) (Int×(List Int))
 |(v2,v3,v4)=>(bif decide (v3<((a0.length-v1.toNat):Nat))then(ck (ct v3 (a0.length-v1.toNat))<|(bz v4 (((0+v1.toNat):Nat)+v3:Int)).bind λx3=>ck (ct (i64.wrap (v3-1)) (a0.length-v1.toNat))<|(bz v4 (((0+v1.toNat):Nat)+(i64.wrap (v3-1)):Int)).bind λx4=>(bif (x3 !=x4)then ck (ct v3 (a0.length-v1.toNat))<|(bz v4 (((0+v1.toNat):Nat)+v3:Int)).bind λx5=>ck (ct v2 a0.length)<|(bz v4 ((0:Nat)+v2:Int)).bind λx6=>some ((i64.wrap (v2+1)),(v4.set ((0:Nat)+v2:Int).toNat x5))else some (v2,v4)):Option (Int×(List Int))).bind λ(v5,v6)=>some (.inl (v5,(i64.wrap (v3+1)),v6))else some (.inr (v2,v4)))
def MU(a0:List Int):Stp Int (Unit⊕(Unit×(List Int)))
 |v1=>(bif decide (v1<(a0.length:Nat))then ck (ct v1 a0.length)<|(bz a0 ((0:Nat)+v1:Int)).bind λx1=>ck (ct (i64.wrap (v1-1)) a0.length)<|(bz a0 ((0:Nat)+(i64.wrap (v1-1)):Int)).bind λx2=>(bif (x1==x2)then ck (Aw v1 (a0.length:Nat) a0.length)<|(iter (MS a0 v1) n (v1,1,a0)).bind λ(w1,w2)=>ck (Aw w1 (a0.length:Nat) a0.length)<|ck (Aw 0 w1 a0.length)<|(ck (aE (w1.toNat) (w1.toNat))<|ck (aE (sub (w2.take (0+w1.toNat)) 0 (w1.toNat)).length (w1.toNat))<|some ((),(sub (w2.take (0+w1.toNat)) 0 (w1.toNat)))).map λa=>.inr (.inr a)else some (.inl (i64.wrap (v1+1))))else some (.inr (.inl ())))
def pG(a0:List Int):Option (Unit×(List Int)):=
 (bif decide ((a0.length:Int)<2)then ck (aE a0.length a0.length)<|ck (aE (sub a0 0 a0.length).length a0.length)<|some ((),(sub a0 0 a0.length))else dP (iter (MU n a0) n 1) λ()=>ck (aE a0.length a0.length)<|ck (aE (sub a0 0 a0.length).length a0.length)<|some ((),(sub a0 0 a0.length)))
def uU(_:Nat)(a0:List aK)(a1:(aK×aK×Unit)->Option Int):Option (List aK):=ZN a0 a1
def cmp_isNaN_int(a0:Int):Option Bool:=
 some (a0 !=a0)
def cmp_Compare_int(a0:Int)(a1:Int):Option Int:=
 (cmp_isNaN_int a0).bind λr1=>(cmp_isNaN_int a1).bind λr2=>(bif r1 then(bif r2 then some 0 else some (-1))else(bif r2 then some 1 else(bif decide (a0<a1)then some (-1)else(bif decide (a0>a1)then some 1 else some 0))))
def xq(a0:aK)(a1:aK):Option Int:=
 (cmp_Compare_int a0.from_ a1.from_).bind λr1=>some r1
def tu(a0:List ax)(a1:Int):Stp (Int×(List aK)) (List aK)
 |(v1,v2)=>(bif decide (v1<a0.length)then((bz a0 v1).bind λx1=>((bif decide (x1.x0<=a1)then some (decide (a1<x1.x1))else some false)).bind λv3=>(bif v3 then ck (bP v2.length v2.length (sub ([(aK.mk x1.y0 x1.y1)]:List aK) 0 1).length 1 16)<|jM (v2++(sub ([(aK.mk x1.y0 x1.y1)]:List aK) 0 1)) λr1=>ck (aE r1.length r1.length)<|some r1 else ck (aE v2.length v2.length)<|some v2):Option ((List aK))).bind λv4=>ck (aE v4.length v4.length)<|some (.inl ((i64.wrap (v1+1)),v4))else ck (aE v2.length v2.length)<|some (.inr v2))
def tC(w1:List aK)(r2:List aK):Stp (Int×(List aK)) (List aK)
 |(v5,v6)=>(bif decide (v5<(w1.length:Nat))then(ck (ct v5 w1.length)<|(bz r2 ((0:Nat)+v5:Int)).bind λx2=>((bif decide ((v6.length:Int)>0)then ck (ct (i64.wrap ((v6.length:Nat)-1)) v6.length)<|(bz v6 ((0:Nat)+(i64.wrap ((v6.length:Nat)-1)):Int)).bind λx3=>some (decide (x2.from_<=x3.to))else some false)).bind λv7=>(bif v7 then ck (ct (i64.wrap ((v6.length:Nat)-1)) v6.length)<|(bz v6 ((0:Nat)+(i64.wrap ((v6.length:Nat)-1)):Int)).bind λx4=>ck (ct (i64.wrap ((v6.length:Nat)-1)) v6.length)<|(bz v6 ((0:Nat)+(i64.wrap ((v6.length:Nat)-1)):Int)).bind λx5=>ck (aE v6.length (v6.set ((0:Nat)+(i64.wrap ((v6.length:Nat)-1)):Int).toNat (aK.mk x5.from_ (max x4.to x2.to))).length)<|some (v6.set ((0:Nat)+(i64.wrap ((v6.length:Nat)-1)):Int).toNat (aK.mk x5.from_ (max x4.to x2.to)))else ck (bP v6.length v6.length (sub ([x2]:List aK) 0 1).length 1 16)<|jM (v6++(sub ([x2]:List aK) 0 1)) λr3=>ck (aE r3.length r3.length)<|some r3):Option ((List aK))).bind λv8=>ck (aE v8.length v8.length)<|some (.inl ((i64.wrap (v5+1)),v8))else ck (aE v6.length v6.length)<|some (.inr v6))
def Jl(a0:List ax)(a1:Int):Option (List aK):=
 ck (aE 0 ([]:List aK).length)<|(iter (tu a0 a1) n (0,[])).bind λw1=>ck (aE w1.length w1.length)<|(uU n w1 (λ (y1:aK×aK×Unit)=>xq y1.1 y1.2.1)).bind λr2=>ck (aE 0 ([]:List aK).length)<|(iter (tC w1 r2) n (0,[])).bind λw2=>ck (aE (sub w2 0 w2.length).length w2.length)<|some (sub w2 0 w2.length)
def tF(r1:List ax):Stp (Int×(List Int)) (List Int)
 |(v1,v2)=>(bif decide (v1<(r1.length:Nat))then ck (ct v1 r1.length)<|(bz r1 ((0:Nat)+v1:Int)).bind λx1=>ck (bP v2.length v2.length (sub ([x1.x0,x1.x1]:List Int) 0 2).length 2 8)<|jM (v2++(sub ([x1.x0,x1.x1]:List Int) 0 2)) λr2=>ck (aE r2.length r2.length)<|some (.inl ((i64.wrap (v1+1)),r2))else ck (aE v2.length v2.length)<|some (.inr v2))
def tH(r1:List ax)(r4:Unit×(List Int)):Stp (Int×(List bQ)) (List bQ)
 |(v3,v4)=>(bif decide (v3<(r4.2.length:Nat))then ck (ct (i64.wrap (v3-1)) r4.2.length)<|(bz r4.2 ((0:Nat)+(i64.wrap (v3-1)):Int)).bind λx2=>ck (ct v3 r4.2.length)<|(bz r4.2 ((0:Nat)+v3:Int)).bind λx3=>ck (ct (i64.wrap (v3-1)) r4.2.length)<|(bz r4.2 ((0:Nat)+(i64.wrap (v3-1)):Int)).bind λx4=>ck (aE (sub r1 0 r1.length).length r1.length)<|(Jl n (sub r1 0 r1.length) x4).bind λr5=>ck (aE (sub r5 0 r5.length).length r5.length)<|ck (bP v4.length v4.length (sub ([(bQ.mk x2 x3 (sub r5 0 r5.length))]:List bQ) 0 1).length 1 40)<|jM (v4++(sub ([(bQ.mk x2 x3 (sub r5 0 r5.length))]:List bQ) 0 1)) λr6=>ck (aE r6.length r6.length)<|some (.inl ((i64.wrap (v3+1)),r6))else ck (aE v4.length v4.length)<|some (.inr v4))
def oF(a0:List (List ax)):Option (List bQ):=
 (yI n a0).bind λr1=>ck (aE 0 ([]:List Int).length)<|(iter (tF r1) n (0,[])).bind λw1=>ck (aE w1.length w1.length)<|(pF n w1).bind λr3=>ck (aE w1.length r3.length)<|(pG n r3).bind λr4=>ck (aE 0 ([]:List bQ).length)<|(iter (tH n r1 r4) n (1,[])).bind λw2=>ck (aE (sub w2 0 w2.length).length w2.length)<|some (sub w2 0 w2.length)
def Ps(a0:List aK)(a1:List aK):Stp Int (Unit⊕Bool)
 |v1=>(bif decide (v1<a0.length)then(bz a0 v1).bind λx1=>(bz a1 v1).bind λx2=>(bif (!((x1.from_==x2.from_)&&((x1.to==x2.to)&&true)))then(some false).map λa=>.inr (.inr a)else some (.inl (i64.wrap (v1+1))))else some (.inr (.inl ())))
def vz(a0:List aK)(a1:List aK):Option Bool:=
 (bif (a0.length !=(a1.length:Int))then some false else dP (iter (Ps a0 a1) n 0) λ()=>some true)
def rY(a0:List bQ)(v1:Int):Stp Int Int
 |v3=>((bif decide (v3<a0.length)then(bz a0 v3).bind λx1=>(bz a0 v1).bind λx2=>(vz n x1.column x2.column).bind λr1=>some r1 else some false)).bind λv4=>(bif v4 then some (.inl (i64.wrap (v3+1)))else some (.inr v3))
def vW(a0:List bQ)(v1:Int)(w1:Int)(x3:bQ):Stp (Int×(List ax)) (List ax)
 |(v5,v6)=>(bif decide (v5<x3.column.length)then(bz x3.column v5).bind λx4=>(bz a0 v1).bind λx5=>(bz a0 (i64.wrap (w1-1))).bind λx6=>ck (bP v6.length v6.length (sub ([(ax.mk x5.x0 x4.from_ x6.x1 x4.to)]:List ax) 0 1).length 1 32)<|jM (v6++(sub ([(ax.mk x5.x0 x4.from_ x6.x1 x4.to)]:List ax) 0 1)) λr2=>ck (aE r2.length r2.length)<|some (.inl ((i64.wrap (v5+1)),r2))else ck (aE v6.length v6.length)<|some (.inr v6))
def vX(a0:List bQ):Stp (Int×(List ax)) (List ax)
 |(v1,v2)=>(bif decide (v1<a0.length)then(iter (rY n a0 v1) n (i64.wrap (v1+1))).bind λw1=>(bz a0 v1).bind λx3=>ck (aE v2.length v2.length)<|(iter (vW a0 v1 w1 x3) n (0,v2)).bind λw2=>ck (aE w2.length w2.length)<|some (.inl (w1,w2))else ck (aE v2.length v2.length)<|some (.inr v2))
def Ht(a0:List bQ):Option (List ax):=
 ck (aE 0 ([]:List ax).length)<|(iter (vX n a0) n (0,[])).bind λw3=>ck (aE (sub w3 0 w3.length).length w3.length)<|some (sub w3 0 w3.length)
def yJ(a0:List ax):Option ((List ax)×Int):=
 (bif decide ((a0.length:Int)>200)then some ([],6)else some (a0,0))
def MV(a0:List ax):Stp Int (Unit⊕((List ax)×Int))
 |v1=>(bif decide (v1<a0.length)then(bz a0 v1).bind λx1=>(oO x1).bind λr1=>(bif (!r1)then(some ([],1)).map λa=>.inr (.inr a)else some (.inl (i64.wrap (v1+1))))else some (.inr (.inl ())))
def SJ(a0:List ax):Option ((List ax)×Int):=
 dP (iter (MV a0) n 0) λ()=>(bif decide ((a0.length:Int)>400)then some ([],6)else ck (aE (sub ([a0]:List (List ax)) 0 1).length 1)<|(oF n (sub ([a0]:List (List ax)) 0 1)).bind λr2=>ck (aE (sub r2 0 r2.length).length r2.length)<|(Ht n (sub r2 0 r2.length)).bind λr3=>ck (aE (sub r3 0 r3.length).length r3.length)<|(yJ (sub r3 0 r3.length)).bind λr4=>some (r4.1,r4.2))
def Pv(a0:List ax)(a1:List ax):Stp Int (Unit⊕Bool)
 |v1=>(bif decide (v1<a0.length)then(bz a0 v1).bind λx1=>(bz a1 v1).bind λx2=>(bif (!((x1.x0==x2.x0)&&((x1.y0==x2.y0)&&((x1.x1==x2.x1)&&((x1.y1==x2.y1)&&true)))))then(some false).map λa=>.inr (.inr a)else some (.inl (i64.wrap (v1+1))))else some (.inr (.inl ())))
def oG(a0:List ax)(a1:List ax):Option Bool:=
 (bif (a0.length !=(a1.length:Int))then some false else dP (iter (Pv a0 a1) n 0) λ()=>some true)
def ny(a0:List ax):Option Bool:=
 (SJ n a0).bind λr1=>(bif (r1.2==0)then(oG n r1.1 a0).bind λr2=>some r2 else some false)
def lX(a0:List bQ)(a1:Int)(a2:(bQ×Int×Unit)->Option Int):Stp (Int×Int) Int
 |(v1,v2)=>(bif decide (v1<v2)then ck (decide (0<=1)&&decide (1<=IntKind.u64.bits))<|(bz a0 (i64.wrap ((IntKind.u64.wrap (i64.wrap (v1+v2)))/2 ^ (1:Int).toNat))).bind λx1=>(a2 (x1,a1,())).bind λr1=>(bif decide (r1<0)then some (.inl ((i64.wrap ((i64.wrap ((IntKind.u64.wrap (i64.wrap (v1+v2)))/2 ^ (1:Int).toNat))+1)),v2))else some (.inl (v1,(i64.wrap ((IntKind.u64.wrap (i64.wrap (v1+v2)))/2 ^ (1:Int).toNat)))))else some (.inr v1))
def jB(a0:List bQ)(a1:Int)(a2:(bQ×Int×Unit)->Option Int):Option (Int×Bool):=
 (iter (lX a0 a1 a2) n (0,a0.length)).bind λw1=>(bif decide (w1<a0.length)then(bz a0 w1).bind λx2=>(a2 (x2,a1,())).bind λr2=>some (w1,(r2==0))else some (w1,false))
def vY(a0:bQ)(a1:Int):Option Int:=
 (bif decide (a0.x1<=a1)then some (-1)else some 1)
def V6(a0:List bQ)(a1:Int):Option (List aK):=
 (jB n a0 a1 (λ (y1:bQ×Int×Unit)=>vY y1.1 y1.2.1)).bind λr1=>((bif decide (r1.1<a0.length)then(bz a0 r1.1).bind λx1=>some (decide (x1.x0<=a1))else some false)).bind λv1=>(bif v1 then(bz a0 r1.1).bind λx2=>some x2.column else some [])
def MW(a0:Unit)(a1:Int):Option (List aK):=
 (bif decide (a1<0)then none else(bif (decide ((i64.wrap (a1-(i64.wrap (0-0))))>0))then ck (wC (i64.wrap (a1-(i64.wrap (0-0)))) 16)<|ck (Aw 0 0 ((i64.wrap (a1-(i64.wrap (0-0)))).toNat))<|ck (aE (sub (List.replicate (i64.wrap (a1-(i64.wrap (0-0)))).toNat (aK.mk 0 0)) 0 0).length 0)<|some (sub (List.replicate (i64.wrap (a1-(i64.wrap (0-0)))).toNat (aK.mk 0 0)) 0 0)else some []))
def MX(a0:List (List aK)):Stp (Int×Int) Int
 |(v1,v2)=>(bif decide (v2<a0.length)then(bz a0 v2).bind λx1=>(bif decide ((i64.wrap (v1+x1.length))<0)then none else some (.inl ((i64.wrap (v1+x1.length)),(i64.wrap (v2+1)))))else some (.inr v1))
def MZ(a0:List (List aK)):Stp (Int×(List aK)) (List aK)
 |(v3,v4)=>(bif decide (v3<a0.length)then(bz a0 v3).bind λx2=>ck (bP v4.length v4.length x2.length x2.length 16)<|jM (v4++x2) λr2=>ck (aE r2.length r2.length)<|some (.inl ((i64.wrap (v3+1)),r2))else ck (aE v4.length v4.length)<|some (.inr v4))
def yK(a0:List (List aK)):Option (List aK):=
 (iter (MX a0) n (0,0)).bind λw1=>(MW () w1).bind λr1=>ck (aE r1.length r1.length)<|(iter (MZ a0) n (0,r1)).bind λw2=>ck (aE (sub w2 0 w2.length).length w2.length)<|some (sub w2 0 w2.length)
def mW(a0:List aK)(a1:Int)(a2:(aK×Int×Unit)->Option Int):Stp (Int×Int) Int
 |(v1,v2)=>(bif decide (v1<v2)then ck (decide (0<=1)&&decide (1<=IntKind.u64.bits))<|(bz a0 (i64.wrap ((IntKind.u64.wrap (i64.wrap (v1+v2)))/2 ^ (1:Int).toNat))).bind λx1=>(a2 (x1,a1,())).bind λr1=>(bif decide (r1<0)then some (.inl ((i64.wrap ((i64.wrap ((IntKind.u64.wrap (i64.wrap (v1+v2)))/2 ^ (1:Int).toNat))+1)),v2))else some (.inl (v1,(i64.wrap ((IntKind.u64.wrap (i64.wrap (v1+v2)))/2 ^ (1:Int).toNat)))))else some (.inr v1))
def jN(a0:List aK)(a1:Int)(a2:(aK×Int×Unit)->Option Int):Option (Int×Bool):=
 (iter (mW a0 a1 a2) n (0,a0.length)).bind λw1=>(bif decide (w1<a0.length)then(bz a0 w1).bind λx2=>(a2 (x2,a1,())).bind λr2=>some (w1,(r2==0))else some (w1,false))
def lY(a0:aK)(a1:Int):Option Int:=
 (bif decide (a0.to<=a1)then some (-1)else some 1)
def Cn(a0:List aK)(a1:Int):Option Bool:=
 (jN n a0 a1 (λ (y1:aK×Int×Unit)=>lY y1.1 y1.2.1)).bind λr1=>(bif decide (r1.1<a0.length)then(bz a0 r1.1).bind λx1=>some (decide (x1.from_<=a1))else some false)
def vZ(r1:List aK):Stp (Int×(List Int)) (List Int)
 |(v1,v2)=>(bif decide (v1<(r1.length:Nat))then ck (ct v1 r1.length)<|(bz r1 ((0:Nat)+v1:Int)).bind λx1=>ck (bP v2.length v2.length (sub ([x1.from_,x1.to]:List Int) 0 2).length 2 8)<|jM (v2++(sub ([x1.from_,x1.to]:List Int) 0 2)) λr2=>ck (aE r2.length r2.length)<|some (.inl ((i64.wrap (v1+1)),r2))else ck (aE v2.length v2.length)<|some (.inr v2))
def wh(a0:List aK)(a1:List aK)(a2:(Bool×Bool×Unit)->Option Bool)(r4:Unit×(List Int)):Stp (Int×(List aK)) (List aK)
 |(v3,v4)=>(bif decide (v3<(r4.2.length:Nat))then(ck (ct (i64.wrap (v3-1)) r4.2.length)<|(bz r4.2 ((0:Nat)+(i64.wrap (v3-1)):Int)).bind λx2=>(Cn n a0 x2).bind λr5=>(Cn n a1 x2).bind λr6=>(a2 (r5,r6,())).bind λr7=>(bif (!r7)then ck (aE v4.length v4.length)<|some v4 else((bif decide ((v4.length:Int)>0)then ck (ct (i64.wrap ((v4.length:Nat)-1)) v4.length)<|(bz v4 ((0:Nat)+(i64.wrap ((v4.length:Nat)-1)):Int)).bind λx3=>some (x3.to==x2)else some false)).bind λv5=>(bif v5 then ck (ct v3 r4.2.length)<|(bz r4.2 ((0:Nat)+v3:Int)).bind λx4=>ck (ct (i64.wrap ((v4.length:Nat)-1)) v4.length)<|(bz v4 ((0:Nat)+(i64.wrap ((v4.length:Nat)-1)):Int)).bind λx5=>ck (aE v4.length (v4.set ((0:Nat)+(i64.wrap ((v4.length:Nat)-1)):Int).toNat (aK.mk x5.from_ x4)).length)<|some (v4.set ((0:Nat)+(i64.wrap ((v4.length:Nat)-1)):Int).toNat (aK.mk x5.from_ x4))else ck (ct v3 r4.2.length)<|(bz r4.2 ((0:Nat)+v3:Int)).bind λx6=>ck (bP v4.length v4.length (sub ([(aK.mk x2 x6)]:List aK) 0 1).length 1 16)<|jM (v4++(sub ([(aK.mk x2 x6)]:List aK) 0 1)) λr8=>ck (aE r8.length r8.length)<|some r8)):Option ((List aK))).bind λv6=>ck (aE v6.length v6.length)<|some (.inl ((i64.wrap (v3+1)),v6))else ck (aE v4.length v4.length)<|some (.inr v4))
def Hu(a0:List aK)(a1:List aK)(a2:(Bool×Bool×Unit)->Option Bool):Option (List aK):=
 ck (aE (sub ([a0,a1]:List (List aK)) 0 2).length 2)<|(yK n (sub ([a0,a1]:List (List aK)) 0 2)).bind λr1=>ck (aE 0 ([]:List Int).length)<|(iter (vZ r1) n (0,[])).bind λw1=>ck (aE w1.length w1.length)<|(pF n w1).bind λr3=>ck (aE w1.length r3.length)<|(pG n r3).bind λr4=>ck (aE 0 ([]:List aK).length)<|(iter (wh n a0 a1 a2 r4) n (1,[])).bind λw2=>ck (aE (sub w2 0 w2.length).length w2.length)<|some (sub w2 0 w2.length)
def qJ(a2:(Bool×Bool×Unit)->Option Bool)(r3:List bQ)(r4:List bQ)(r5:List bQ):Stp (Int×(List bQ)) (List bQ)
 |(v2,v3)=>(bif decide (v2<(r5.length:Nat))then ck (ct v2 r5.length)<|(bz v3 ((0:Nat)+v2:Int)).bind λx1=>(V6 n (sub r3 0 r3.length) x1.x0).bind λr6=>(V6 n (sub r4 0 r4.length) x1.x0).bind λr7=>(Hu n r6 r7 a2).bind λr8=>ck (ct v2 r5.length)<|ck (aE (sub r8 0 r8.length).length r8.length)<|(bz v3 ((0:Nat)+v2:Int)).bind λx2=>some (.inl ((i64.wrap (v2+1)),(v3.set ((0:Nat)+v2:Int).toNat (bQ.mk x2.x0 x2.x1 (sub r8 0 r8.length)))))else some (.inr v3))
def Eg(a0:List ax)(a1:List ax)(a2:(Bool×Bool×Unit)->Option Bool):Option ((List ax)×Int):=
 ((ny n a0).bind λr1=>(bif (!r1)then some true else(ny n a1).bind λr2=>some (!r2))).bind λv1=>(bif v1 then some ([],1)else ck (aE (sub ([a0]:List (List ax)) 0 1).length 1)<|(oF n (sub ([a0]:List (List ax)) 0 1)).bind λr3=>ck (aE (sub ([a1]:List (List ax)) 0 1).length 1)<|(oF n (sub ([a1]:List (List ax)) 0 1)).bind λr4=>ck (aE (sub r3 0 r3.length).length r3.length)<|ck (aE (sub r4 0 r4.length).length r4.length)<|ck (aE (sub ([a0,a1]:List (List ax)) 0 2).length 2)<|(oF n (sub ([a0,a1]:List (List ax)) 0 2)).bind λr5=>(iter (qJ n a2 r3 r4 r5) n (0,r5)).bind λw1=>ck (aE (sub w1 0 r5.length).length r5.length)<|(Ht n (sub w1 0 r5.length)).bind λr9=>ck (aE (sub r9 0 r9.length).length r9.length)<|(yJ (sub r9 0 r9.length)).bind λwi=>some (wi.1,wi.2))
def xu(a0:Bool)(a1:Bool):Option Bool:=
 (bif a0 then some a1 else some false)
def Co(a0:List ax)(a1:List ax):Option ((List ax)×Int):=
 (Eg n a0 a1 (λ (y1:Bool×Bool×Unit)=>xu y1.1 y1.2.1)).bind λr1=>some (r1.1,r1.2)
def rH(a0:ax):Option Int:=
 (xY a0).bind λr1=>some (i64.wrap ((i64.wrap (r1.1.x1-r1.1.x0))*(i64.wrap (r1.1.y1-r1.1.y0))))
def Eh(a0:List ax):Stp (Int×Int) Int
 |(v1,v2)=>(bif decide (v2<a0.length)then(bz a0 v2).bind λx1=>(rH x1).bind λr2=>some (.inl ((i64.wrap (v1+r2)),(i64.wrap (v2+1))))else some (.inr v1))
def Jm(a0:List ax):Option Int:=
 (ny n a0).bind λr1=>(bif (!r1)then some 0 else(iter (Eh a0) n (0,0)).bind λw1=>some w1)
def uV(a0:jr)(a1:bD):Option Bool:=
 some (ByteArray.toList a0.name==ByteArray.toList a1.name)
def JB(a0:List jr)(a1:(jr×Unit)->Option Bool):Stp Int (Unit⊕Int)
 |v1=>(bif decide (v1<a0.length)then(bz a0 v1).bind λx1=>(a1 (x1,())).bind λr1=>(bif r1 then(some v1).map λa=>.inr (.inr a)else some (.inl (i64.wrap (v1+1))))else some (.inr (.inl ())))
def uW(a0:List jr)(a1:(jr×Unit)->Option Bool):Option Int:=
 dP (iter (JB a0 a1) n 0) λ()=>some (-1)
def mZ(a0:List jr)(a1:(jr×Unit)->Option Bool):Option Bool:=
 (uW n a0 a1).bind λr1=>some (decide (r1>=0))
def dZ(a1:iK)(r3:List ay):Stp Int (Unit⊕Bool)
 |v2=>(bif decide (v2<(r3.length:Nat))then ck (ct v2 r3.length)<|(bz r3 ((0:Nat)+v2:Int)).bind λx1=>ck (aE (sub ([(ax.mk x1.bj x1.bp x1.be x1.bo)]:List ax) 0 1).length 1)<|(Co n a1.area (sub ([(ax.mk x1.bj x1.bp x1.be x1.bo)]:List ax) 0 1)).bind λr4=>((bif (r4.2 !=0)then some true else(Jm n r4.1).bind λr5=>(rH (ax.mk x1.bj x1.bp x1.be x1.bo)).bind λr6=>some (decide (r5<r6)))).bind λv3=>(bif v3 then(some false).map λa=>.inr (.inr a)else some (.inl (i64.wrap (v2+1))))else some (.inr (.inl ())))
def kN(a0:bT)(x2:eF):Stp Int (Unit⊕(Int⊕(Unit⊕Bool)))
 |v5=>(bif decide (v5<x2.gives.length)then(bz x2.gives v5).bind λx3=>(mZ n a0.caps (λ (y1:jr×Unit)=>uV y1.1 x3)).bind λr7=>(bif (!r7)then((some false).map λa=>.inr (.inr a)).map λa=>.inr (.inr a)else some (.inl (i64.wrap (v5+1))))else some (.inr (.inl ())))
def gH(a0:bT)(a2:aG):Stp Int (Unit⊕Bool)
 |v4=>(bif decide (v4<a2.phases.length)then(bz a2.phases v4).bind λx2=>dP (iter (kN n a0 x2) n 0) λ()=>some (.inl (i64.wrap (v4+1)))else some (.inr (.inl ())))
def eG(a0:bT)(a1:iK)(a2:aG):Option Bool:=
 ((iQ n a2).bind λr1=>(bif (!r1)then some true else(bif (a1.id !=a2.lot)then some true else(ny n a1.area).bind λr2=>some (!r2)))).bind λv1=>(bif v1 then some false else(vU n a2).bind λr3=>dP (iter (dZ n a1 r3) n 0) λ()=>dP (iter (gH n a0 a2) n 0) λ()=>some true)
def oP(a0:aG):Stp (Int×(List ay)) (List ay)
 |(v1,v2)=>(bif decide (v1<a0.phases.length)then(bz a0.phases v1).bind λx1=>ck (bP v2.length v2.length x1.az.length x1.az.length 72)<|jM (v2++x1.az) λr1=>ck (aE r1.length r1.length)<|some (.inl ((i64.wrap (v1+1)),r1))else ck (aE v2.length v2.length)<|some (.inr v2))
def tJ(a0:aG):Option (List ay):=
 ck (aE 0 ([]:List ay).length)<|(iter (oP a0) n (0,[])).bind λw1=>ck (aE (sub w1 0 w1.length).length w1.length)<|some (sub w1 0 w1.length)
def oQ(a0:List eD):Stp (Int×(List jW)) (List jW)
 |(v1,v2)=>(bif decide (v1<a0.length)then(bz a0 v1).bind λx1=>ck ((a0.length:Int) !=0)<|(bz a0 (Int.tmod (i64.wrap (v1+1)) (a0.length:Int))).bind λx2=>ck (ct v1 ((a0.length:Int).toNat))<|(bz v2 ((0:Nat)+v1:Int)).bind λx3=>some (.inl ((i64.wrap (v1+1)),(v2.set ((0:Nat)+v1:Int).toNat (jW.mk x1.x x1.y x2.x x2.y))))else some (.inr v2))
def pI(a0:List eD):Option (List jW):=
 ck (decide ((a0.length:Int)<=a0.length)&&(decide (0<=(a0.length:Int))&&wC a0.length 32))<|(iter (oQ a0) n (0,(List.replicate (a0.length:Int).toNat (jW.mk 0 0 0 0)))).bind λw1=>ck (aE (sub w1 0 ((a0.length:Int).toNat)).length ((a0.length:Int).toNat))<|some (sub w1 0 ((a0.length:Int).toNat))
def tK(a0:eD):Option Bool:=
 (bif decide (0<=a0.x)then(bif decide (a0.x<=1048576)then(bif decide (0<=a0.y)then some (decide (a0.y<=1048576))else some false)else some false)else some false)
def iy(a0:jW):Option Bool:=
 some (a0.ly==a0.mC)
def AL(a0:List Int):Stp Int (Unit⊕Int)
 |v1=>(bif decide (v1<a0.length)then(bz a0 v1).bind λx1=>(bif (x1 !=0)then(some x1).map λa=>.inr (.inr a)else some (.inl (i64.wrap (v1+1))))else some (.inr (.inl ())))
def uX(a0:List Int):Option Int:=
 dP (iter (AL a0) n 0) λ()=>some 0
def q8(a0:eD)(a1:eD):Option Int:=
 (cmp_Compare_int a0.x a1.x).bind λr1=>(cmp_Compare_int a0.y a1.y).bind λr2=>ck (aE (sub ([r1,r2]:List Int) 0 2).length 2)<|(uX n (sub ([r1,r2]:List Int) 0 2)).bind λr3=>some r3
def lZ(a0:jW)(a1:jW):Option Bool:=
 (bif decide ((max (min a0.ly a0.mC) (min a1.ly a1.mC))<=(min (max a0.ly a0.mC) (max a1.ly a1.mC)))then some (decide ((max (min a0.pH a0.ut) (min a1.pH a1.ut))<=(min (max a0.pH a0.ut) (max a1.pH a1.ut))))else some false)
def p9(a0:List eD)(r1:List jW):Stp Int (Unit⊕Bool)
 |v2=>(bif decide (v2<(r1.length:Nat))then ck (ct v2 r1.length)<|(bz r1 ((0:Nat)+v2:Int)).bind λx1=>ck ((r1.length:Int) !=0)<|ck (ct (Int.tmod (i64.wrap (v2+1)) (r1.length:Int)) r1.length)<|(bz r1 ((0:Nat)+(Int.tmod (i64.wrap (v2+1)) (r1.length:Int)):Int)).bind λx2=>((tK (eD.mk x1.ly x1.pH)).bind λr2=>(bif (!r2)then some true else(bif ((x1.ly==x1.mC)==(x1.pH==x1.ut))then some true else(iy x1).bind λr3=>(iy x2).bind λr4=>some (r3==r4)))).bind λv3=>(bif v3 then(some false).map λa=>.inr (.inr a)else((bif decide (v2>0)then(bz a0 0).bind λx3=>(bz a0 v2).bind λx4=>(q8 n x3 x4).bind λr5=>some (decide (r5>=0))else some false)).bind λv4=>(bif v4 then(some false).map λa=>.inr (.inr a)else some (.inl (i64.wrap (v2+1)))))else some (.inr (.inl ())))
def ji(r1:List jW)(v5:Int):Stp Int (Unit⊕(Int⊕(Unit⊕Bool)))
 |v6=>(bif decide (v6<(r1.length:Nat))then((bif (decide ((i64.wrap ((i64.wrap (v5+(r1.length:Nat)))-v6))>1))then ck (ct v5 r1.length)<|(bz r1 ((0:Nat)+v5:Int)).bind λx5=>ck (ct v6 r1.length)<|(bz r1 ((0:Nat)+v6:Int)).bind λx6=>(lZ x5 x6).bind λr6=>some r6 else some false)).bind λv7=>(bif v7 then((some false).map λa=>.inr (.inr a)).map λa=>.inr (.inr a)else some (.inl (i64.wrap (v6+1))))else some (.inr (.inl ())))
def qa(r1:List jW):Stp Int (Unit⊕Bool)
 |v5=>(bif decide (v5<(r1.length:Nat))then dP (iter (ji r1 v5) n (i64.wrap (v5+2))) λ()=>some (.inl (i64.wrap (v5+1)))else some (.inr (.inl ())))
def vB(a0:List eD):Option Bool:=
 ((bif decide ((a0.length:Int)<4)then some true else some (decide ((a0.length:Int)>60)))).bind λv1=>(bif v1 then some false else(pI n a0).bind λr1=>dP (iter (p9 n a0 r1) n 0) λ()=>dP (iter (qa n r1) n 0) λ()=>ck (ct 0 r1.length)<|(bz r1 ((0:Nat)+0:Int)).bind λx7=>(iy x7).bind λr7=>some (!r7))
def l5(a0:List eD):Stp (Int×(List Int)) (List Int)
 |(v1,v2)=>(bif decide (v1<a0.length)then(bz a0 v1).bind λx1=>ck (bP v2.length v2.length (sub ([x1.x]:List Int) 0 1).length 1 8)<|jM (v2++(sub ([x1.x]:List Int) 0 1)) λr2=>ck (aE r2.length r2.length)<|some (.inl ((i64.wrap (v1+1)),r2))else ck (aE v2.length v2.length)<|some (.inr v2))
def l6(r4:Unit×(List Int))(r5:List jW)(v3:Int):Stp (Int×(List Int)) (List Int)
 |(v5,v6)=>(bif decide (v5<(r5.length:Nat))then(ck (ct v5 r5.length)<|(bz r5 ((0:Nat)+v5:Int)).bind λx2=>((iy x2).bind λr6=>(bif (!r6)then ck (ct v3 r4.2.length)<|(bz r4.2 ((0:Nat)+v3:Int)).bind λx3=>(bif decide ((min x2.ly x2.mC)<=x3)then ck (ct v3 r4.2.length)<|(bz r4.2 ((0:Nat)+v3:Int)).bind λx4=>some (decide (x4<(max x2.ly x2.mC)))else some false)else some false)).bind λv7=>(bif v7 then ck (bP v6.length v6.length (sub ([x2.pH]:List Int) 0 1).length 1 8)<|jM (v6++(sub ([x2.pH]:List Int) 0 1)) λr7=>ck (aE r7.length r7.length)<|some r7 else ck (aE v6.length v6.length)<|some v6):Option ((List Int))).bind λv8=>ck (aE v8.length v8.length)<|some (.inl ((i64.wrap (v5+1)),v8))else ck (aE v6.length v6.length)<|some (.inr v6))
def jI(r4:Unit×(List Int))(v3:Int)(w2:List Int)(r8:List Int):Stp (Int×(List ax)) (List ax)
 |(v9,v10)=>(bif decide ((i64.wrap (v9+1))<(w2.length:Nat))then ck (ct v3 r4.2.length)<|(bz r4.2 ((0:Nat)+v3:Int)).bind λx5=>ck (ct v9 w2.length)<|(bz r8 ((0:Nat)+v9:Int)).bind λx6=>ck (ct (i64.wrap (v3+1)) r4.2.length)<|(bz r4.2 ((0:Nat)+(i64.wrap (v3+1)):Int)).bind λx7=>ck (ct (i64.wrap (v9+1)) w2.length)<|(bz r8 ((0:Nat)+(i64.wrap (v9+1)):Int)).bind λx8=>ck (bP v10.length v10.length (sub ([(ax.mk x5 x6 x7 x8)]:List ax) 0 1).length 1 32)<|jM (v10++(sub ([(ax.mk x5 x6 x7 x8)]:List ax) 0 1)) λr9=>ck (aE r9.length r9.length)<|some (.inl ((i64.wrap (v9+2)),r9))else ck (aE v10.length v10.length)<|some (.inr v10))
def l7(r4:Unit×(List Int))(r5:List jW):Stp (Int×(List ax)) (List ax)
 |(v3,v4)=>(bif decide (v3<(i64.wrap ((r4.2.length:Nat)-1)))then ck (aE 0 ([]:List Int).length)<|(iter (l6 r4 r5 v3) n (0,[])).bind λw2=>ck (aE w2.length w2.length)<|(pF n w2).bind λr8=>ck (aE v4.length v4.length)<|(iter (jI r4 v3 w2 r8) n (0,v4)).bind λw3=>ck (aE w3.length w3.length)<|some (.inl ((i64.wrap (v3+1)),w3))else ck (aE v4.length v4.length)<|some (.inr v4))
def tL(a0:List eD):Option ((List ax)×Int):=
 (vB n a0).bind λr1=>(bif (!r1)then some ([],10)else ck (aE 0 ([]:List Int).length)<|(iter (l5 a0) n (0,[])).bind λw1=>ck (aE w1.length w1.length)<|(pF n w1).bind λr3=>ck (aE w1.length r3.length)<|(pG n r3).bind λr4=>(pI n a0).bind λr5=>ck (aE 0 ([]:List ax).length)<|(iter (l7 n r4 r5) n (0,[])).bind λw4=>(bif decide ((w4.length:Int)>200)then some ([],6)else ck (aE (sub w4 0 w4.length).length w4.length)<|some ((sub w4 0 w4.length),0)))
def xw(a0:fG):Option (List ax):=
 (tL n a0.corners).bind λr1=>(bif (r1.2 !=0)then some []else ck (aE (sub r1.1 0 r1.1.length).length r1.1.length)<|some (sub r1.1 0 r1.1.length))
def qb(a1:List ax)(x1:ax):Stp (Int×Int×Int×Int) (Int×Int×Int)
 |(v5,v6,v7,v8)=>(bif decide (v6<a1.length)then((bz a1 v6).bind λx2=>(rX x1 x2).bind λr1=>(bif (!r1.2)then some (v5,v7,v8)else(rH r1.1).bind λr2=>(cmp_Compare_int r1.1.x0 v7).bind λr3=>(cmp_Compare_int r1.1.y0 v8).bind λr4=>ck (aE (sub ([r3,r4]:List Int) 0 2).length 2)<|(uX n (sub ([r3,r4]:List Int) 0 2)).bind λr5=>(bif decide (r5<0)then some ((i64.wrap (v5+r2)),r1.1.x0,r1.1.y0)else some ((i64.wrap (v5+r2)),v7,v8))):Option (Int×Int×Int)).bind λ(v9,v10,v11)=>some (.inl (v9,(i64.wrap (v6+1)),v10,v11))else some (.inr (v5,v7,v8)))
def qc(a0:List ax)(a1:List ax):Stp (Int×Int×Int×Int) (Int×Int×Int)
 |(v1,v2,v3,v4)=>(bif decide (v2<a0.length)then(bz a0 v2).bind λx1=>(iter (qb n a1 x1) n (v1,0,v3,v4)).bind λ(w1,w2,w3)=>some (.inl (w1,(i64.wrap (v2+1)),w2,w3))else some (.inr (v1,v3,v4)))
def vC(a0:List ax)(a1:List ax):Option (Int×eD):=
 (iter (qc n a0 a1) n (0,0,1048576,0)).bind λ(w4,w5,w6)=>some (w4,(eD.mk w5 w6))
def qd(a0:bT)(a1:List ax):Stp (Int×(List Int)) (List Int)
 |(v1,v2)=>(bif decide (v1<a0.zones.length)then(bz a0.zones v1).bind λx1=>(xw n x1).bind λr2=>ck (aE (sub r2 0 r2.length).length r2.length)<|(vC n a1 (sub r2 0 r2.length)).bind λr3=>ck (bP v2.length v2.length (sub ([r3.1]:List Int) 0 1).length 1 8)<|jM (v2++(sub ([r3.1]:List Int) 0 1)) λr4=>ck (aE r4.length r4.length)<|some (.inl ((i64.wrap (v1+1)),r4))else ck (aE v2.length v2.length)<|some (.inr v2))
def vD(a0:bT)(a1:List ax):Option (List Int):=
 (ny n a1).bind λr1=>(bif (!r1)then some []else ck (aE 0 ([]:List Int).length)<|(iter (qd n a0 a1) n (0,[])).bind λw1=>ck (aE (sub w1 0 w1.length).length w1.length)<|some (sub w1 0 w1.length))
def qf(a0:bT)(r1:List Int):Stp (Int×Int) Int
 |(v1,v2)=>(bif decide (v2<(r1.length:Nat))then(ck (ct v2 r1.length)<|(bz r1 ((0:Nat)+v2:Int)).bind λx1=>((bz a0.zones v2).bind λx2=>(bif (!x2.overlay)then(bif decide (x1>0)then(bif decide (v1<0)then some true else ck (ct v1 r1.length)<|(bz r1 ((0:Nat)+v1:Int)).bind λx3=>some (decide (x1>x3)))else some false)else some false)).bind λv3=>(bif v3 then some v2 else some v1):Option Int).bind λv4=>some (.inl (v4,(i64.wrap (v2+1))))else some (.inr v1))
def xA(a0:bT)(r1:List Int)(w1:Int):Stp (Int×(List ByteArray)) (List ByteArray)
 |(v5,v6)=>(bif decide (v5<(r1.length:Nat))then(ck (ct v5 r1.length)<|(bz r1 ((0:Nat)+v5:Int)).bind λx4=>((bif (v5==w1)then some true else(bz a0.zones v5).bind λx5=>(bif x5.overlay then some (decide (x4>0))else some false))).bind λv7=>(bif v7 then(bz a0.zones v5).bind λx6=>ck (bP v6.length v6.length (sub ([x6.name]:List ByteArray) 0 1).length 1 16)<|jM (v6++(sub ([x6.name]:List ByteArray) 0 1)) λr2=>ck (aE r2.length r2.length)<|some r2 else ck (aE v6.length v6.length)<|some v6):Option ((List ByteArray))).bind λv8=>ck (aE v8.length v8.length)<|some (.inl ((i64.wrap (v5+1)),v8))else ck (aE v6.length v6.length)<|some (.inr v6))
def Cq(a0:bT)(a1:List ax):Option (List ByteArray):=
 (vD n a0 a1).bind λr1=>(iter (qf a0 r1) n ((-1),0)).bind λw1=>ck (aE 0 ([]:List ByteArray).length)<|(iter (xA a0 r1 w1) n (0,[])).bind λw2=>ck (aE (sub w2 0 w2.length).length w2.length)<|some (sub w2 0 w2.length)
def zY(a0:fP)(a1:aG):Option (mI×Int):=
 (ML n a0.land a1.lot).bind λr1=>(bif (!r1.2)then some ((mI.mk ([]) ([]) ([]) ([]) ([]) ([]) ([]) 0 ([]) ([]) ([]) ([]) ([]) 0 0 ([]) ([]) 0 ([]) ([]) ([])),4)else(eG n (bT.mk a0.cm a0.cd a0.ca a0.bm a0.co a0.ci a0.cD a0.cj) r1.1 a1).bind λr2=>(bif (!r2)then some ((mI.mk ([]) ([]) ([]) ([]) ([]) ([]) ([]) 0 ([]) ([]) ([]) ([]) ([]) 0 0 ([]) ([]) 0 ([]) ([]) ([])),1)else(tJ n a1).bind λr3=>(Cq n (bT.mk a0.cm a0.cd a0.ca a0.bm a0.co a0.ci a0.cD a0.cj) r1.1.area).bind λr4=>ck (aE (sub r3 0 r3.length).length r3.length)<|ck (aE (sub r4 0 r4.length).length r4.length)<|some ((mI.mk a0.cm a0.cd a0.ca a0.bm a0.co a0.ci a0.cD a0.cj a0.land a0.cw a0.windows a0.built a0.base r1.1.id r1.1.owner r1.1.area r1.1.from_ a1.lot a1.phases (sub r3 0 r3.length) (sub r4 0 r4.length)),0)))
def nO(a0:List ByteArray)(a1:ByteArray):Stp Int (Unit⊕Int)
 |v1=>(bif decide (v1<a0.length)then(bz a0 v1).bind λx1=>(bif (ByteArray.toList a1==ByteArray.toList x1)then(some v1).map λa=>.inr (.inr a)else some (.inl (i64.wrap (v1+1))))else some (.inr (.inl ())))
def q9(a0:List ByteArray)(a1:ByteArray):Option Int:=
 dP (iter (nO a0 a1) n 0) λ()=>some (-1)
def gm(a0:List ByteArray)(a1:ByteArray):Option Bool:=
 (q9 n a0 a1).bind λr1=>some (decide (r1>=0))
def kP(a0:ByteArray)(a1:List ByteArray):Option Bool:=
 (gm n a1 a0).bind λr1=>some r1
def Ei(a0:List ByteArray)(a1:(ByteArray×Unit)->Option Bool):Stp Int (Unit⊕Int)
 |v1=>(bif decide (v1<a0.length)then(bz a0 v1).bind λx1=>(a1 (x1,())).bind λr1=>(bif r1 then(some v1).map λa=>.inr (.inr a)else some (.inl (i64.wrap (v1+1))))else some (.inr (.inl ())))
def qy(a0:List ByteArray)(a1:(ByteArray×Unit)->Option Bool):Option Int:=
 dP (iter (Ei a0 a1) n 0) λ()=>some (-1)
def gI(a0:List ByteArray)(a1:(ByteArray×Unit)->Option Bool):Option Bool:=
 (qy n a0 a1).bind λr1=>some (decide (r1>=0))
def qK(a0:cK)(a1:List ByteArray):Option Bool:=
 (bif ((a0.zones.length:Int)==0)then(gI n a0.except (λ (y1:ByteArray×Unit)=>kP n y1.1 a1)).bind λr1=>some (!r1)else(gI n a0.zones (λ (y2:ByteArray×Unit)=>kP n y2.1 a1)).bind λr2=>(bif r2 then(gI n a0.except (λ (y3:ByteArray×Unit)=>kP n y3.1 a1)).bind λr3=>some (!r3)else some false))
def rf(a0:bT)(a1:List ByteArray)(a2:Int):Stp (Int×(List Int)) (List Int)
 |(v1,v2)=>(bif decide (v1<a0.rules.length)then((bz a0.rules v1).bind λx1=>((bif decide (x1.from_<=a2)then(bif (x1.ka==0)then(qK n x1 a1).bind λr1=>some r1 else(bif decide (a2<x1.ka)then(qK n x1 a1).bind λr2=>some r2 else some false))else some false)).bind λv3=>(bif v3 then ck (bP v2.length v2.length (sub ([v1]:List Int) 0 1).length 1 8)<|jM (v2++(sub ([v1]:List Int) 0 1)) λr3=>ck (aE r3.length r3.length)<|some r3 else ck (aE v2.length v2.length)<|some v2):Option ((List Int))).bind λv4=>ck (aE v4.length v4.length)<|some (.inl ((i64.wrap (v1+1)),v4))else ck (aE v2.length v2.length)<|some (.inr v2))
def tN(a0:bT)(a1:List ByteArray)(a2:Int):Option (List Int):=
 ck (aE 0 ([]:List Int).length)<|(iter (rf n a0 a1 a2) n (0,[])).bind λw1=>ck (aE (sub w1 0 w1.length).length w1.length)<|some (sub w1 0 w1.length)
def uY(_:Nat)(a0:List ax)(a1:(ax×ax×Unit)->Option Int):Option (List ax):=ZN a0 a1
def jd(a0:ax)(a1:ax):Option Int:=
 (cmp_Compare_int a0.y0 a1.y0).bind λr1=>some r1
def jO(a0:ay):Option Int:=
 ((bif a0.extra then some true else(fK a0).bind λr1=>some (!r1))).bind λv1=>(bif v1 then some 0 else ck (3 !=0)<|some (i64.wrap (Int.tdiv (i64.wrap ((i64.wrap ((i64.wrap (a0.ch-a0.b9))+3))-1)) 3)))
def mJ(a0:ay):Option Int:=
 (fK a0).bind λr1=>(bif (!r1)then some 0 else(rH (ax.mk a0.bj a0.bp a0.be a0.bo)).bind λr2=>(jO a0).bind λr3=>some (i64.wrap (r2*r3)))
def nP(a0:ay):Option Int:=
 some a0.ch
def oI(a0:ay):Option Int:=
 some a0.units
def AO(a0:ax)(a1:Int):Option (ax×Bool):=
 (oO (ax.mk (i64.wrap (a0.x0-a1)) (i64.wrap (a0.y0-a1)) (i64.wrap (a0.x1+a1)) (i64.wrap (a0.y1+a1)))).bind λr1=>some ((ax.mk (i64.wrap (a0.x0-a1)) (i64.wrap (a0.y0-a1)) (i64.wrap (a0.x1+a1)) (i64.wrap (a0.y1+a1))),r1)
def kW(a0:bD)(a1:Jk)(a2:Int):Option Bool:=
 ck (ct a2 6)<|(bz ([a1.a0,a1.a1,a1.a2,a1.a3,a1.a4,a1.a5]:List ByteArray) a2).bind λx1=>some (ByteArray.toList a0.name==ByteArray.toList x1)
def Fp(a0:List bD)(a1:(bD×Unit)->Option Bool):Stp Int (Unit⊕Int)
 |v1=>(bif decide (v1<a0.length)then(bz a0 v1).bind λx1=>(a1 (x1,())).bind λr1=>(bif r1 then(some v1).map λa=>.inr (.inr a)else some (.inl (i64.wrap (v1+1))))else some (.inr (.inl ())))
def kX(a0:List bD)(a1:(bD×Unit)->Option Bool):Option Int:=
 dP (iter (Fp a0 a1) n 0) λ()=>some (-1)
def kY(a0:bT)(a1:Int):Stp Int (Unit⊕Int)
 |v1=>(bif decide (v1<a0.tables.length)then(bz a0.tables v1).bind λx1=>(bif (!(ByteArray.toList x1.name==ByteArray.toList (⟨#[116,114,97,102,102,105,99]⟩)))then some (.inl (i64.wrap (v1+1)))else((kX n x1.rows (λ (y1:bD×Unit)=>kW y1.1 (Jk.mk (⟨#[104,111,109,101]⟩) (⟨#[115,104,111,112]⟩) (⟨#[119,111,114,107]⟩) (⟨#[112,97,114,107]⟩) (⟨#[112,108,97,110,116]⟩) (⟨#[104,97,108,108]⟩)) a1)).bind λr1=>(bif decide (r1>=0)then(bz x1.rows r1).bind λx2=>some x2.n else some x1.sf):Option Int).bind λv2=>(some (max 0 (min v2 1048576))).map λa=>.inr (.inr a))else some (.inr (.inl ())))
def zZ(a0:bT)(a1:Int):Option Int:=
 dP (iter (kY n a0 a1) n 0) λ()=>some 0
def jP(a0:bT)(a1:ay):Option Int:=
 (zZ n a0 a1.use).bind λr1=>(mJ a1).bind λr2=>((bif decide (r1>0)then ck (r1 !=0)<|some (decide (r2>(i64.wrap (Int.tdiv 109951162777600 r1))))else some false)).bind λv1=>(bif v1 then some 1099511627776 else ck (100 !=0)<|some (i64.wrap (Int.tdiv (i64.wrap ((i64.wrap ((i64.wrap (r1*r2))+100))-1)) 100)))
def ng(a0:List gT)(a1:List cO)(a2:List fG)(a3:List cK)(a4:List jr)(a5:List iw)(a6:List dD)(a7:Int)(a8:List ax)(a9:List ay):Option (Int×iE):=
 (Jm n a8).bind λr1=>ck (aE a9.length a9.length)<|some (r1,a0,a1,a2,a3,a4,a5,a6,a7,a8,a9)
def gV(a9:List ay):Stp (Int×(List ax)×(List Int)) ((List ax)×(List Int))
 |(v1,v2,v3)=>(bif decide (v1<(a9.length:Nat))then ck (ct v1 a9.length)<|(bz a9 ((0:Nat)+v1:Int)).bind λx1=>ck (ct v1 ((a9.length:Int).toNat))<|(bz v2 ((0:Nat)+v1:Int)).bind λx2=>ck (ct v1 ((a9.length:Int).toNat))<|(bz (v2.set ((0:Nat)+v1:Int).toNat (ax.mk x1.bj x1.bp x1.be x1.bo)) ((0:Nat)+v1:Int)).bind λx3=>ck (ct v1 ((a9.length:Int).toNat))<|(bz (v2.set ((0:Nat)+v1:Int).toNat (ax.mk x1.bj x1.bp x1.be x1.bo)) ((0:Nat)+v1:Int)).bind λx4=>ck (bP v3.length v3.length (sub ([x3.x0,x4.x1]:List Int) 0 2).length 2 8)<|jM (v3++(sub ([x3.x0,x4.x1]:List Int) 0 2)) λr1=>ck (aE r1.length r1.length)<|some (.inl ((i64.wrap (v1+1)),(v2.set ((0:Nat)+v1:Int).toNat (ax.mk x1.bj x1.bp x1.be x1.bo)),r1))else ck (aE v3.length v3.length)<|some (.inr (v2,v3)))
def gW(a9:List ay)(w2:List Int)(r2:List ax)(r3:List Int)(v5:Int):Stp (Int×Int×Int) Int
 |(v6,v7,v8)=>(bif decide (v8<(((a9.length:Int).toNat:Nat):Int))then(ck (ct v8 ((a9.length:Int).toNat))<|(bz r2 ((0:Nat)+v8:Int)).bind λx5=>(ck (ct v5 w2.length)<|(bz r3 ((0:Nat)+v5:Int)).bind λx6=>(bif decide (x5.x0<=x6)then ck (ct v5 w2.length)<|(bz r3 ((0:Nat)+v5:Int)).bind λx7=>(bif decide (x7<x5.x1)then some (decide (x5.y1>v7))else some false)else some false)).bind λv9=>(bif v9 then ck (ct (i64.wrap (v5+1)) w2.length)<|(bz r3 ((0:Nat)+(i64.wrap (v5+1)):Int)).bind λx8=>ck (ct v5 w2.length)<|(bz r3 ((0:Nat)+v5:Int)).bind λx9=>some ((i64.wrap (v6+(i64.wrap ((i64.wrap (x8-x9))*(i64.wrap (x5.y1-(max v7 x5.y0))))))),x5.y1)else some (v6,v7)):Option (Int×Int)).bind λ(v10,v11)=>some (.inl (v10,v11,(i64.wrap (v8+1))))else some (.inr v6))
def gX(a9:List ay)(w2:List Int)(r2:List ax)(r3:List Int):Stp (Int×Int) Int
 |(v4,v5)=>(bif (decide (v5<((max 0 (i64.wrap ((w2.length:Nat)-1))):Int)))then(iter (gW a9 w2 r2 r3 v5) n (v4,0,0)).bind λw3=>some (.inl (w3,(i64.wrap (v5+1))))else some (.inr v4))
def je(a0:List gT)(a1:List cO)(a2:List fG)(a3:List cK)(a4:List jr)(a5:List iw)(a6:List dD)(a7:Int)(a8:List ax)(a9:List ay):Option (Int×iE):=
 ck (decide ((a9.length:Int)<=(a9.length:Nat))&&(decide (0<=(a9.length:Int))&&wC (a9.length:Nat) 32))<|ck (aE 0 ([]:List Int).length)<|(iter (gV a9) n (0,(List.replicate (a9.length:Int).toNat (ax.mk 0 0 0 0)),[])).bind λ(w1,w2)=>ck (aE ((a9.length:Int).toNat) w1.length)<|(uY n w1 (λ (y1:ax×ax×Unit)=>jd y1.1 y1.2.1)).bind λr2=>ck (aE w2.length w2.length)<|(pF n w2).bind λr3=>(iter (gX n a9 w2 r2 r3) n (0,0)).bind λw4=>ck (aE a9.length a9.length)<|some (w4,a0,a1,a2,a3,a4,a5,a6,a7,a8,a9)
def j5(a9:List ay):Stp (Int×Int) Int
 |(v1,v2)=>(bif decide (v2<(a9.length:Nat))then ck (ct v2 a9.length)<|(bz a9 ((0:Nat)+v2:Int)).bind λx1=>(mJ x1).bind λr1=>some (.inl ((i64.wrap (v1+r1)),(i64.wrap (v2+1))))else some (.inr v1))
def qz(a0:List gT)(a1:List cO)(a2:List fG)(a3:List cK)(a4:List jr)(a5:List iw)(a6:List dD)(a7:Int)(a8:List ax)(a9:List ay):Option (Int×iE):=
 (iter (j5 a9) n (0,0)).bind λw1=>ck (aE a9.length a9.length)<|some (w1,a0,a1,a2,a3,a4,a5,a6,a7,a8,a9)
def lu(a0:List gT)(a1:List cO)(a2:List fG)(a3:List cK)(a4:List jr)(a5:List iw)(a6:List dD)(a7:Int)(a8:List ax)(a9:List ay):Option (Int×iE):=
 ck (aE a9.length a9.length)<|(qz n a0 a1 a2 a3 a4 a5 a6 a7 a8 a9).bind λr1=>ck (aE r1.2.2.2.2.2.2.2.2.2.2.length r1.2.2.2.2.2.2.2.2.2.2.length)<|some (r1.1,r1.2.1,r1.2.2.1,r1.2.2.2.1,r1.2.2.2.2.1,r1.2.2.2.2.2.1,r1.2.2.2.2.2.2.1,r1.2.2.2.2.2.2.2.1,r1.2.2.2.2.2.2.2.2.1,r1.2.2.2.2.2.2.2.2.2.1,r1.2.2.2.2.2.2.2.2.2.2)
def iF(a9:List ay):Stp (Int×Int) Int
 |(v1,v2)=>(bif decide (v2<(a9.length:Nat))then ck (ct v2 a9.length)<|(bz a9 ((0:Nat)+v2:Int)).bind λx1=>(jO x1).bind λr1=>some (.inl ((max v1 r1),(i64.wrap (v2+1))))else some (.inr v1))
def mK(a0:List gT)(a1:List cO)(a2:List fG)(a3:List cK)(a4:List jr)(a5:List iw)(a6:List dD)(a7:Int)(a8:List ax)(a9:List ay):Option (Int×iE):=
 (iter (iF a9) n (0,0)).bind λw1=>ck (aE a9.length a9.length)<|some (w1,a0,a1,a2,a3,a4,a5,a6,a7,a8,a9)
def j6(a0:List gT)(a1:List cO)(a2:List fG)(a3:List cK)(a4:List jr)(a5:List iw)(a6:List dD)(a7:Int)(a8:List ax)(a9:List ay):Option (Int×iE):=
 ck (aE a9.length a9.length)<|(mK n a0 a1 a2 a3 a4 a5 a6 a7 a8 a9).bind λr1=>ck (aE r1.2.2.2.2.2.2.2.2.2.2.length r1.2.2.2.2.2.2.2.2.2.2.length)<|some (r1.1,r1.2.1,r1.2.2.1,r1.2.2.2.1,r1.2.2.2.2.1,r1.2.2.2.2.2.1,r1.2.2.2.2.2.2.1,r1.2.2.2.2.2.2.2.1,r1.2.2.2.2.2.2.2.2.1,r1.2.2.2.2.2.2.2.2.2.1,r1.2.2.2.2.2.2.2.2.2.2)
def iG(a9:List ay):Stp (Int×Int) Int
 |(v1,v2)=>(bif decide (v2<(a9.length:Nat))then ck (ct v2 a9.length)<|(bz a9 ((0:Nat)+v2:Int)).bind λx1=>(nP x1).bind λr1=>some (.inl ((max v1 r1),(i64.wrap (v2+1))))else some (.inr v1))
def mM(a0:List gT)(a1:List cO)(a2:List fG)(a3:List cK)(a4:List jr)(a5:List iw)(a6:List dD)(a7:Int)(a8:List ax)(a9:List ay):Option (Int×iE):=
 (iter (iG a9) n (0,0)).bind λw1=>ck (aE a9.length a9.length)<|some (w1,a0,a1,a2,a3,a4,a5,a6,a7,a8,a9)
def kg(a0:List gT)(a1:List cO)(a2:List fG)(a3:List cK)(a4:List jr)(a5:List iw)(a6:List dD)(a7:Int)(a8:List ax)(a9:List ay):Option (Int×iE):=
 ck (aE a9.length a9.length)<|(mM n a0 a1 a2 a3 a4 a5 a6 a7 a8 a9).bind λr1=>ck (aE r1.2.2.2.2.2.2.2.2.2.2.length r1.2.2.2.2.2.2.2.2.2.2.length)<|some (r1.1,r1.2.1,r1.2.2.1,r1.2.2.2.1,r1.2.2.2.2.1,r1.2.2.2.2.2.1,r1.2.2.2.2.2.2.1,r1.2.2.2.2.2.2.2.1,r1.2.2.2.2.2.2.2.2.1,r1.2.2.2.2.2.2.2.2.2.1,r1.2.2.2.2.2.2.2.2.2.2)
def ko(a9:List ay):Stp (Int×Int) Int
 |(v1,v2)=>(bif decide (v2<(a9.length:Nat))then ck (ct v2 a9.length)<|(bz a9 ((0:Nat)+v2:Int)).bind λx1=>(oI x1).bind λr1=>some (.inl ((i64.wrap (v1+r1)),(i64.wrap (v2+1))))else some (.inr v1))
def qC(a0:List gT)(a1:List cO)(a2:List fG)(a3:List cK)(a4:List jr)(a5:List iw)(a6:List dD)(a7:Int)(a8:List ax)(a9:List ay):Option (Int×iE):=
 (iter (ko a9) n (0,0)).bind λw1=>ck (aE a9.length a9.length)<|some (w1,a0,a1,a2,a3,a4,a5,a6,a7,a8,a9)
def lC(a0:List gT)(a1:List cO)(a2:List fG)(a3:List cK)(a4:List jr)(a5:List iw)(a6:List dD)(a7:Int)(a8:List ax)(a9:List ay):Option (Int×iE):=
 ck (aE a9.length a9.length)<|(qC n a0 a1 a2 a3 a4 a5 a6 a7 a8 a9).bind λr1=>ck (aE r1.2.2.2.2.2.2.2.2.2.2.length r1.2.2.2.2.2.2.2.2.2.2.length)<|some (r1.1,r1.2.1,r1.2.2.1,r1.2.2.2.1,r1.2.2.2.2.1,r1.2.2.2.2.2.1,r1.2.2.2.2.2.2.1,r1.2.2.2.2.2.2.2.1,r1.2.2.2.2.2.2.2.2.1,r1.2.2.2.2.2.2.2.2.2.1,r1.2.2.2.2.2.2.2.2.2.2)
def iZ(j7:List ax)(r1:ax×Bool):Stp (Int×Int) Int
 |(v1,v2)=>(bif decide (v2<j7.length)then((bz j7 v2).bind λx1=>(rX r1.1 x1).bind λr2=>(bif r2.2 then(rH r2.1).bind λr3=>some (i64.wrap (v1+r3))else some v1):Option Int).bind λv3=>some (.inl (v3,(i64.wrap (v2+1))))else some (.inr v1))
def kr(a0:ax)(a1:Int)(a2:List gT)(a3:List cO)(a4:List fG)(a5:List cK)(a6:List jr)(a7:List iw)(a8:List dD)(a9:Int)(j7:List ax)(ta:List ay):Option (Bool×iE):=
 (AO a0 a1).bind λr1=>(bif (!r1.2)then ck (aE ta.length ta.length)<|some (false,a2,a3,a4,a5,a6,a7,a8,a9,j7,ta)else(iter (iZ j7 r1) n (0,0)).bind λw1=>(rH r1.1).bind λr4=>ck (aE ta.length ta.length)<|some ((w1==r4),a2,a3,a4,a5,a6,a7,a8,a9,j7,ta))
def eZ(x1:ay):Stp (Int×Int×iE) (Int×iE)
 |(v13,v14,v15,v16,v17,v18,v19,v20,v21,v22,v23,v24)=>(bif decide (v13<v14)then ck (2 !=0)<|ck (aE v24.length v24.length)<|(kr n (ax.mk x1.bj x1.bp x1.be x1.bo) (i64.wrap (Int.tdiv (i64.wrap ((i64.wrap (v13+v14))+1)) 2)) v15 v16 v17 v18 v19 v20 v21 v22 v23 v24).bind λr1=>(bif r1.1 then ck (aE r1.2.2.2.2.2.2.2.2.2.2.length r1.2.2.2.2.2.2.2.2.2.2.length)<|some (.inl ((i64.wrap (Int.tdiv (i64.wrap ((i64.wrap (v13+v14))+1)) 2)),v14,r1.2.1,r1.2.2.1,r1.2.2.2.1,r1.2.2.2.2.1,r1.2.2.2.2.2.1,r1.2.2.2.2.2.2.1,r1.2.2.2.2.2.2.2.1,r1.2.2.2.2.2.2.2.2.1,r1.2.2.2.2.2.2.2.2.2.1,r1.2.2.2.2.2.2.2.2.2.2))else ck (aE r1.2.2.2.2.2.2.2.2.2.2.length r1.2.2.2.2.2.2.2.2.2.2.length)<|some (.inl (v13,(i64.wrap ((i64.wrap (Int.tdiv (i64.wrap ((i64.wrap (v13+v14))+1)) 2))-1)),r1.2.1,r1.2.2.1,r1.2.2.2.1,r1.2.2.2.2.1,r1.2.2.2.2.2.1,r1.2.2.2.2.2.2.1,r1.2.2.2.2.2.2.2.1,r1.2.2.2.2.2.2.2.2.1,r1.2.2.2.2.2.2.2.2.2.1,r1.2.2.2.2.2.2.2.2.2.2)))else ck (aE v24.length v24.length)<|some (.inr (v13,v15,v16,v17,v18,v19,v20,v21,v22,v23,v24)))
def iR(a9:List ay):Stp (Int×Int×iE) (Int×iE)
 |(v1,v2,v3,v4,v5,v6,v7,v8,v9,v10,v11,v12)=>(bif decide (v2<(a9.length:Nat))then ck (ct v2 a9.length)<|(bz v12 ((0:Nat)+v2:Int)).bind λx1=>ck (aE v12.length v12.length)<|(iter (eZ n x1) n (0,v1,v3,v4,v5,v6,v7,v8,v9,v10,v11,v12)).bind λ(w1,w2,w3,w4,w5,w6,w7,w8,w9,vf,vd)=>ck (aE vd.length vd.length)<|some (.inl (w1,(i64.wrap (v2+1)),w2,w3,w4,w5,w6,w7,w8,w9,vf,vd))else ck (aE v12.length v12.length)<|some (.inr (v1,v3,v4,v5,v6,v7,v8,v9,v10,v11,v12)))
def jJ(a0:List gT)(a1:List cO)(a2:List fG)(a3:List cK)(a4:List jr)(a5:List iw)(a6:List dD)(a7:Int)(a8:List ax)(a9:List ay):Option (Int×iE):=
 ck (aE a9.length a9.length)<|(iter (iR n a9) n (1048576,0,a0,a1,a2,a3,a4,a5,a6,a7,a8,a9)).bind λ(HD,HC,HB,HA,w16,xc,w18,w19,w20,w21,TX)=>ck (aE TX.length TX.length)<|some (HD,HC,HB,HA,w16,xc,w18,w19,w20,w21,TX)
def kZ(a0:ay)(a1:List gT)(a2:List cO)(a3:List fG)(a4:List cK)(a5:List jr)(a6:List iw)(a7:List dD)(a8:Int)(a9:List ax)(j7:List ay):Option (Int×iE):=
 (jP n (bT.mk a1 a2 a3 a4 a5 a6 a7 a8) a0).bind λr1=>ck (aE j7.length j7.length)<|some (r1,a1,a2,a3,a4,a5,a6,a7,a8,a9,j7)
def ku(a9:List ay):Stp (Int×Int×iE) (Int×iE)
 |(v1,v2,v3,v4,v5,v6,v7,v8,v9,v10,v11,v12)=>(bif decide (v2<(a9.length:Nat))then ck (ct v2 a9.length)<|(bz v12 ((0:Nat)+v2:Int)).bind λx1=>ck (aE v12.length v12.length)<|(kZ n x1 v3 v4 v5 v6 v7 v8 v9 v10 v11 v12).bind λr1=>ck (aE r1.2.2.2.2.2.2.2.2.2.2.length r1.2.2.2.2.2.2.2.2.2.2.length)<|some (.inl ((i64.wrap (v1+r1.1)),(i64.wrap (v2+1)),r1.2.1,r1.2.2.1,r1.2.2.2.1,r1.2.2.2.2.1,r1.2.2.2.2.2.1,r1.2.2.2.2.2.2.1,r1.2.2.2.2.2.2.2.1,r1.2.2.2.2.2.2.2.2.1,r1.2.2.2.2.2.2.2.2.2.1,r1.2.2.2.2.2.2.2.2.2.2))else ck (aE v12.length v12.length)<|some (.inr (v1,v3,v4,v5,v6,v7,v8,v9,v10,v11,v12)))
def qD(a0:List gT)(a1:List cO)(a2:List fG)(a3:List cK)(a4:List jr)(a5:List iw)(a6:List dD)(a7:Int)(a8:List ax)(a9:List ay):Option (Int×iE):=
 ck (aE a9.length a9.length)<|(iter (ku n a9) n (0,0,a0,a1,a2,a3,a4,a5,a6,a7,a8,a9)).bind λ(w1,w2,w3,w4,w5,w6,w7,w8,w9,vf,vd)=>ck (aE vd.length vd.length)<|some (w1,w2,w3,w4,w5,w6,w7,w8,w9,vf,vd)
def jK(a0:List gT)(a1:List cO)(a2:List fG)(a3:List cK)(a4:List jr)(a5:List iw)(a6:List dD)(a7:Int)(a8:List ax)(a9:List ay):Option (Int×iE):=
 ck (aE a9.length a9.length)<|(qD n a0 a1 a2 a3 a4 a5 a6 a7 a8 a9).bind λr1=>ck (aE r1.2.2.2.2.2.2.2.2.2.2.length r1.2.2.2.2.2.2.2.2.2.2.length)<|some (r1.1,r1.2.1,r1.2.2.1,r1.2.2.2.1,r1.2.2.2.2.1,r1.2.2.2.2.2.1,r1.2.2.2.2.2.2.1,r1.2.2.2.2.2.2.2.1,r1.2.2.2.2.2.2.2.2.1,r1.2.2.2.2.2.2.2.2.2.1,r1.2.2.2.2.2.2.2.2.2.2)
def qL(r2:List ay):Stp (Int×iE) (iE)
 |(v10,v11,v12,v13,v14,v15,v16,v17,v18,v19,v20)=>(bif decide (v10<(r2.length:Nat))then(ck (ct v10 r2.length)<|(bz r2 ((0:Nat)+v10:Int)).bind λx1=>((bif decide (v10<40)then(fK x1).bind λr3=>some r3 else some false)).bind λv21=>(bif v21 then ck (bP v20.length v20.length (sub ([x1]:List ay) 0 1).length 1 72)<|jM (v20++(sub ([x1]:List ay) 0 1)) λr4=>ck (aE r4.length r4.length)<|some (v11,v12,v13,v14,v15,v16,v17,v18,v19,r4)else ck (aE v20.length v20.length)<|some (v11,v12,v13,v14,v15,v16,v17,v18,v19,v20)):Option (iE)).bind λ(v22,v23,v24,v25,v26,v27,v28,v29,v30,v31)=>ck (aE v31.length v31.length)<|some (.inl ((i64.wrap (v10+1)),v22,v23,v24,v25,v26,v27,v28,v29,v30,v31))else ck (aE v20.length v20.length)<|some (.inr (v11,v12,v13,v14,v15,v16,v17,v18,v19,v20)))
def jk(a0:bT)(a1:iK)(a2:aG):Option (List bD):=
 ((ny n a1.area).bind λr1=>(bif r1 then some (a0.defs,a0.tables,a0.zones,a0.rules,a0.caps,a0.views,a0.sm,a0.hours,a1.area)else some (a0.defs,a0.tables,a0.zones,a0.rules,a0.caps,a0.views,a0.sm,a0.hours,[])):Option ((List gT)×(List cO)×(List fG)×(List cK)×(List jr)×(List iw)×(List dD)×Int×(List ax))).bind λ(v1,v2,v3,v4,v5,v6,v7,v8,v9)=>(nY n a2 0 a2.phases.length).bind λr2=>ck (aE 0 ([]:List ay).length)<|(iter (qL r2) n (0,v1,v2,v3,v4,v5,v6,v7,v8,v9,[])).bind λ(w1,w2,w3,w4,w5,w6,w7,w8,w9,vf)=>ck (aE vf.length vf.length)<|(ng n w1 w2 w3 w4 w5 w6 w7 w8 w9 vf).bind λr5=>ck (bP 0 0 (sub ([(bD.mk (⟨#[97,114,101,97]⟩) r5.1)]:List bD) 0 1).length 1 24)<|jM ((sub ([(bD.mk (⟨#[97,114,101,97]⟩) r5.1)]:List bD) 0 1)) λr6=>ck (aE r5.2.2.2.2.2.2.2.2.2.2.length r5.2.2.2.2.2.2.2.2.2.2.length)<|(je n r5.2.1 r5.2.2.1 r5.2.2.2.1 r5.2.2.2.2.1 r5.2.2.2.2.2.1 r5.2.2.2.2.2.2.1 r5.2.2.2.2.2.2.2.1 r5.2.2.2.2.2.2.2.2.1 r5.2.2.2.2.2.2.2.2.2.1 r5.2.2.2.2.2.2.2.2.2.2).bind λr7=>ck (bP r6.length r6.length (sub ([(bD.mk (⟨#[99,111,118,101,114]⟩) r7.1)]:List bD) 0 1).length 1 24)<|jM (r6++(sub ([(bD.mk (⟨#[99,111,118,101,114]⟩) r7.1)]:List bD) 0 1)) λr8=>ck (aE r7.2.2.2.2.2.2.2.2.2.2.length r7.2.2.2.2.2.2.2.2.2.2.length)<|(lu n r7.2.1 r7.2.2.1 r7.2.2.2.1 r7.2.2.2.2.1 r7.2.2.2.2.2.1 r7.2.2.2.2.2.2.1 r7.2.2.2.2.2.2.2.1 r7.2.2.2.2.2.2.2.2.1 r7.2.2.2.2.2.2.2.2.2.1 r7.2.2.2.2.2.2.2.2.2.2).bind λr9=>ck (bP r8.length r8.length (sub ([(bD.mk (⟨#[102,108,111,111,114]⟩) r9.1)]:List bD) 0 1).length 1 24)<|jM (r8++(sub ([(bD.mk (⟨#[102,108,111,111,114]⟩) r9.1)]:List bD) 0 1)) λwi=>ck (aE r9.2.2.2.2.2.2.2.2.2.2.length r9.2.2.2.2.2.2.2.2.2.2.length)<|(j6 n r9.2.1 r9.2.2.1 r9.2.2.2.1 r9.2.2.2.2.1 r9.2.2.2.2.2.1 r9.2.2.2.2.2.2.1 r9.2.2.2.2.2.2.2.1 r9.2.2.2.2.2.2.2.2.1 r9.2.2.2.2.2.2.2.2.2.1 r9.2.2.2.2.2.2.2.2.2.2).bind λtt=>ck (bP wi.length wi.length (sub ([(bD.mk (⟨#[102,108,111,111,114,115]⟩) tt.1)]:List bD) 0 1).length 1 24)<|jM (wi++(sub ([(bD.mk (⟨#[102,108,111,111,114,115]⟩) tt.1)]:List bD) 0 1)) λT8=>ck (aE tt.2.2.2.2.2.2.2.2.2.2.length tt.2.2.2.2.2.2.2.2.2.2.length)<|(kg n tt.2.1 tt.2.2.1 tt.2.2.2.1 tt.2.2.2.2.1 tt.2.2.2.2.2.1 tt.2.2.2.2.2.2.1 tt.2.2.2.2.2.2.2.1 tt.2.2.2.2.2.2.2.2.1 tt.2.2.2.2.2.2.2.2.2.1 tt.2.2.2.2.2.2.2.2.2.2).bind λtj=>ck (bP T8.length T8.length (sub ([(bD.mk (⟨#[104,101,105,103,104,116]⟩) tj.1)]:List bD) 0 1).length 1 24)<|jM (T8++(sub ([(bD.mk (⟨#[104,101,105,103,104,116]⟩) tj.1)]:List bD) 0 1)) λT7=>ck (aE tj.2.2.2.2.2.2.2.2.2.2.length tj.2.2.2.2.2.2.2.2.2.2.length)<|(lC n tj.2.1 tj.2.2.1 tj.2.2.2.1 tj.2.2.2.2.1 tj.2.2.2.2.2.1 tj.2.2.2.2.2.2.1 tj.2.2.2.2.2.2.2.1 tj.2.2.2.2.2.2.2.2.1 tj.2.2.2.2.2.2.2.2.2.1 tj.2.2.2.2.2.2.2.2.2.2).bind λth=>ck (bP T7.length T7.length (sub ([(bD.mk (⟨#[104,111,109,101,115]⟩) th.1)]:List bD) 0 1).length 1 24)<|jM (T7++(sub ([(bD.mk (⟨#[104,111,109,101,115]⟩) th.1)]:List bD) 0 1)) λr16=>ck (aE th.2.2.2.2.2.2.2.2.2.2.length th.2.2.2.2.2.2.2.2.2.2.length)<|(je n th.2.1 th.2.2.1 th.2.2.2.1 th.2.2.2.2.1 th.2.2.2.2.2.1 th.2.2.2.2.2.2.1 th.2.2.2.2.2.2.2.1 th.2.2.2.2.2.2.2.2.1 th.2.2.2.2.2.2.2.2.2.1 th.2.2.2.2.2.2.2.2.2.2).bind λtg=>ck (bP r16.length r16.length (sub ([(bD.mk (⟨#[114,117,110,111,102,102]⟩) tg.1)]:List bD) 0 1).length 1 24)<|jM (r16++(sub ([(bD.mk (⟨#[114,117,110,111,102,102]⟩) tg.1)]:List bD) 0 1)) λT6=>ck (aE tg.2.2.2.2.2.2.2.2.2.2.length tg.2.2.2.2.2.2.2.2.2.2.length)<|(jJ n tg.2.1 tg.2.2.1 tg.2.2.2.1 tg.2.2.2.2.1 tg.2.2.2.2.2.1 tg.2.2.2.2.2.2.1 tg.2.2.2.2.2.2.2.1 tg.2.2.2.2.2.2.2.2.1 tg.2.2.2.2.2.2.2.2.2.1 tg.2.2.2.2.2.2.2.2.2.2).bind λtf=>ck (bP T6.length T6.length (sub ([(bD.mk (⟨#[115,101,116,98,97,99,107]⟩) tf.1)]:List bD) 0 1).length 1 24)<|jM (T6++(sub ([(bD.mk (⟨#[115,101,116,98,97,99,107]⟩) tf.1)]:List bD) 0 1)) λT5=>ck (aE tf.2.2.2.2.2.2.2.2.2.2.length tf.2.2.2.2.2.2.2.2.2.2.length)<|(jK n tf.2.1 tf.2.2.1 tf.2.2.2.1 tf.2.2.2.2.1 tf.2.2.2.2.2.1 tf.2.2.2.2.2.2.1 tf.2.2.2.2.2.2.2.1 tf.2.2.2.2.2.2.2.2.1 tf.2.2.2.2.2.2.2.2.2.1 tf.2.2.2.2.2.2.2.2.2.2).bind λr21=>ck (bP T5.length T5.length (sub ([(bD.mk (⟨#[116,114,97,102,102,105,99]⟩) r21.1)]:List bD) 0 1).length 1 24)<|jM (T5++(sub ([(bD.mk (⟨#[116,114,97,102,102,105,99]⟩) r21.1)]:List bD) 0 1)) λHJ=>ck (aE (sub HJ 0 HJ.length).length HJ.length)<|some (sub HJ 0 HJ.length)
def yL(a0:Int):Option (Int×Bool):=
 ((bif (a0==0)then some (a0==0)else(bif (a0==1)then some (a0==1)else(bif (a0==2)then some (a0==2)else some (a0==3))))).bind λv1=>(bif v1 then some (0,true)else((bif (a0==9)then some (a0==9)else some (a0==15))).bind λv2=>(bif v2 then some (1,true)else(bif (a0==16)then some (3,true)else(bif decide (a0>=0)then some (2,(decide (a0<17)))else some (2,false)))))
def xB(n:Nat)(rc:(bV)->(Int)->Option Int)(a0:bV)(a1:Int):Stp (Int×Int) Int
 |(v2,v3)=>(bif decide (v3<a0.args.length)then(bz a0.args v3).bind λx1=>(rc (bV.mk x1.op x1.n x1.s x1.key x1.args) (i64.wrap (a1+1))).bind λr2=>some (.inl ((max v2 r2),(i64.wrap (v3+1))))else some (.inr v2))
def z8(rc:(bV)->(Int)->Option Int)(a0:bV)(a1:Int):Option Int:=
 (yL a0.op).bind λr1=>((bif (!r1.2)then some true else(bif (r1.1 !=a0.args.length)then some true else some (decide (a1>=12))))).bind λv1=>(bif v1 then some 13 else(iter (xB n rc a0 a1) n (0,0)).bind λw1=>some (i64.wrap (w1+1)))
def Ej(rc:(bV)->(Int)->Option Int):b8 xx:=⟨[.d (.st SI.Expr),.d (.int .i64)],[.d (.int .i64)],λa=>rc a.1 a.2.1,none⟩
def rZ(n:Nat):Nat->(bV)->(Int)->Option Int
 | 0=>λ_ _=>none
 |m+1=>z8 n (rZ n m)
def Pw(a0:bV)(a1:Int):Option Int:=rZ n n a0 a1
def Hw(a0:bV):Option Bool:=
 (Pw n (bV.mk a0.op a0.n a0.s a0.key a0.args) 0).bind λr1=>some (decide (r1<=12))
def wG:Option (List ByteArray):=
 ck (aE (sub ([⟨#[97,114,101,97]⟩,⟨#[99,111,118,101,114]⟩,⟨#[102,108,111,111,114]⟩,⟨#[102,108,111,111,114,115]⟩,⟨#[104,101,105,103,104,116]⟩,⟨#[104,111,109,101,115]⟩,⟨#[114,117,110,111,102,102]⟩,⟨#[115,101,116,98,97,99,107]⟩,⟨#[116,114,97,102,102,105,99]⟩]:List ByteArray) 0 9).length 9)<|some (sub ([⟨#[97,114,101,97]⟩,⟨#[99,111,118,101,114]⟩,⟨#[102,108,111,111,114]⟩,⟨#[102,108,111,111,114,115]⟩,⟨#[104,101,105,103,104,116]⟩,⟨#[104,111,109,101,115]⟩,⟨#[114,117,110,111,102,102]⟩,⟨#[115,101,116,98,97,99,107]⟩,⟨#[116,114,97,102,102,105,99]⟩]:List ByteArray) 0 9)
mutual
def toE:bV->ET
 |⟨op,_,s,_,args⟩=>.mk op s (Hy args)
def Hy:List bV->List ET
 |[]=>[]
 |x::xs=>toE x::Hy xs
end
def toD(d:gT):ByteArray×ET:=(d.name,.mk d.iu d.kq (Hy d.el))
def lQ(a0:List gT):Option ((List gT)×(List (List Int))):=ck (Nat.ble (rk (a0.map toD)) 4000000)<|some (a0,oH (a0.map toD))
def qM(a0:List Int)(a1:Int):Option (List Int):=match a0 with
 |[x]=>ck (decide (0<=a1)&&decide (a1<=1000000000000))<|some (List.replicate a1.toNat x)
 |_=>none
def RQ(a0:List Int)(a1:Int):Stp Int (Unit⊕Int)
 |v1=>(bif decide (v1<a0.length)then(bz a0 v1).bind λx1=>(bif (a1==x1)then(some v1).map λa=>.inr (.inr a)else some (.inl (i64.wrap (v1+1))))else some (.inr (.inl ())))
def El(a0:List Int)(a1:Int):Option Int:=
 dP (iter (RQ a0 a1) n 0) λ()=>some (-1)
def rq(a0:List Int)(a1:Int):Option Bool:=
 (El n a0 a1).bind λr1=>some (decide (r1>=0))
def gK(a0:pE)(r1:List Int)(x2:Int):Stp (Int×Int×(List Int)×(List Int)) (Int×(List Int)×(List Int))
 |(v4,v5,v6,v7)=>(bif decide (v5<a0.uses.length)then((bz a0.uses v5).bind λx3=>(ck (ct v5 r1.length)<|(bz v6 ((0:Nat)+v5:Int)).bind λx4=>(bif decide (x4<0)then(rq n x3 x2).bind λr2=>some r2 else some false)).bind λv8=>(bif v8 then ck (ct x2 r1.length)<|(bz v6 ((0:Nat)+x2:Int)).bind λx5=>ck (ct v5 r1.length)<|(bz v6 ((0:Nat)+v5:Int)).bind λx6=>ck (bP (UY (v4.toNat) v7).length (v7.length-v4.toNat) (sub ([v5]:List Int) 0 1).length 1 8)<|jM ((UY (v4.toNat) v7)++(sub ([v5]:List Int) 0 1)) λr3=>ck (aE (0+r3.length) r3.length)<|some ((0:Nat),(v6.set ((0:Nat)+v5:Int).toNat (i64.wrap (x5+1))),r3)else ck (aE ((v4.toNat)+(v7.length-v4.toNat)) v7.length)<|some ((v4.toNat:Nat),v6,v7)):Option (Int×(List Int)×(List Int))).bind λ(v9,v10,v11)=>ck (aE ((v9.toNat)+(v11.length-v9.toNat)) v11.length)<|some (.inl ((v9.toNat:Nat),(i64.wrap (v5+1)),v10,v11))else ck (aE ((v4.toNat)+(v7.length-v4.toNat)) v7.length)<|some (.inr ((v4.toNat:Nat),v6,v7)))
def dX(a0:pE)(r1:List Int):Stp (Int×(List Int)×(List Int)) (List Int)
 |(v1,v2,v3)=>(bif (decide ((((v3.length-(v1:Int).toNat):Nat):Int)>0))then ck (ct 0 (v3.length-v1.toNat))<|(bz v3 ((v1.toNat:Nat)+0:Int)).bind λx2=>ck (Aw 1 ((v3.length-v1.toNat):Nat) (v3.length-v1.toNat))<|ck (aE ((v1.toNat+1)+((v3.length-v1.toNat)-1)) v3.length)<|(iter (gK n a0 r1 x2) n (((v1.toNat+1):Nat),0,v2,v3)).bind λ(w1,w2,w3)=>ck (aE ((w1.toNat)+(w3.length-w1.toNat)) w3.length)<|some (.inl ((w1.toNat:Nat),w2,w3))else some (.inr v2))
def kz(a0:pE)(a1:Int):Option (List Int):=
 ck (aE (sub ([(-1)]:List Int) 0 1).length 1)<|(qM (sub ([(-1)]:List Int) 0 1) a0.defs.length).bind λr1=>ck (ct a1 r1.length)<|(bz r1 ((0:Nat)+a1:Int)).bind λx1=>ck (aE (0+1) ([a1]:List Int).length)<|(iter (dX n a0 r1) n ((0:Nat),(r1.set ((0:Nat)+a1:Int).toNat 0),([a1]:List Int))).bind λw4=>ck (aE (sub w4 0 r1.length).length r1.length)<|some (sub w4 0 r1.length)
def cmp_isNaN_string(a0:ByteArray):Option Bool:=
 some (!(ByteArray.toList a0==ByteArray.toList a0))
def nQ(a0:ByteArray)(a1:ByteArray):Option Int:=
 (cmp_isNaN_string a0).bind λr1=>(cmp_isNaN_string a1).bind λr2=>(bif r1 then(bif r2 then some 0 else some (-1))else(bif r2 then some 1 else(bif (UR a0 a1)then some (-1)else(bif (!(UR a0 a1 || ByteArray.toList a0==ByteArray.toList a1))then some 1 else some 0))))
def l8(a0:List ByteArray)(a1:List ByteArray):Stp Int (Unit⊕Int)
 |v1=>(bif decide (v1<a0.length)then(bz a0 v1).bind λx1=>(bif decide (v1>=a1.length)then(some 1).map λa=>.inr (.inr a)else(bz a1 v1).bind λx2=>(nQ x1 x2).bind λr1=>(bif (r1 !=0)then(some r1).map λa=>.inr (.inr a)else some (.inl (i64.wrap (v1+1)))))else some (.inr (.inl ())))
def l9(a0:List ByteArray)(a1:List ByteArray):Option Int:=
 dP (iter (l8 a0 a1) n 0) λ()=>(bif decide (a0.length<(a1.length:Int))then some (-1)else some 0)
def mO(a0:Int)(a1:List Bool):Option (Bool×(List Bool)):=
 ck (ct a0 a1.length)<|(bz a1 ((0:Nat)+a0:Int)).bind λx1=>ck (aE a1.length a1.length)<|some ((!x1),a1)
def kC(a0:List Int):Stp (Int×(List Bool)) ((List Bool)⊕(Int×(List Bool)))
 |(v1,v2)=>(bif decide (v1<a0.length)then(bz a0 v1).bind λx1=>ck (aE v2.length v2.length)<|(mO x1 v2).bind λr1=>(bif r1.1 then(ck (aE r1.2.length r1.2.length)<|some (v1,r1.2)).map λa=>.inr (.inr a)else ck (aE r1.2.length r1.2.length)<|some (.inl ((i64.wrap (v1+1)),r1.2)))else ck (aE v2.length v2.length)<|some (.inr (.inl v2)))
def ni(a0:List Int)(a1:List Bool):Option (Int×(List Bool)):=
 ck (aE a1.length a1.length)<|dP (iter (kC a0) n (0,a1)) λw1=>ck (aE w1.length w1.length)<|some ((-1),w1)
def iT(a0:List Int)(a1:List Bool):Option (Bool×(List Bool)):=
 ck (aE a1.length a1.length)<|(ni n a0 a1).bind λr1=>ck (aE r1.2.length r1.2.length)<|some ((decide (r1.1>=0)),r1.2)
def jf(a0:pE):Stp (Int×Int×(List Bool)) (Int×(List Bool))
 |(v4,v5,v6)=>(bif decide (v5<a0.uses.length)then((bz a0.uses v5).bind λx1=>ck (aE v6.length v6.length)<|(iT n x1 v6).bind λr1=>(ck (ct v5 r1.2.length)<|(bz r1.2 ((0:Nat)+v5:Int)).bind λx2=>(bif (!x2)then(bif (!r1.1)then(bif decide (v4<0)then some true else(bz a0.defs v5).bind λx3=>(bz a0.defs v4).bind λx4=>some (UR x3.name x4.name))else some false)else some false)).bind λv7=>(bif v7 then ck (aE r1.2.length r1.2.length)<|some (v5,r1.2)else ck (aE r1.2.length r1.2.length)<|some (v4,r1.2)):Option (Int×(List Bool))).bind λ(v8,v9)=>ck (aE v9.length v9.length)<|some (.inl (v8,(i64.wrap (v5+1)),v9))else ck (aE v6.length v6.length)<|some (.inr (v4,v6)))
def lD(a0:pE):Stp (Int×(List Int)×(List Bool)) (List Int)
 |(v1,v2,v3)=>(bif decide (v1<a0.defs.length)then ck (aE v3.length v3.length)<|(iter (jf n a0) n ((-1),0,v3)).bind λ(w1,w2)=>ck (ct w1 w2.length)<|(bz w2 ((0:Nat)+w1:Int)).bind λx5=>ck (bP v2.length v2.length (sub ([w1]:List Int) 0 1).length 1 8)<|jM (v2++(sub ([w1]:List Int) 0 1)) λr2=>ck (aE r2.length r2.length)<|ck (aE w2.length (w2.set ((0:Nat)+w1:Int).toNat true).length)<|some (.inl ((i64.wrap (v1+1)),r2,(w2.set ((0:Nat)+w1:Int).toNat true)))else ck (aE v2.length v2.length)<|some (.inr v2))
def nR(a0:pE):Option (List Int):=
 ck (decide ((a0.defs.length:Int)<=a0.defs.length)&&(decide (0<=(a0.defs.length:Int))&&wC a0.defs.length 1))<|ck (aE 0 ([]:List Int).length)<|ck (aE ((a0.defs.length:Int).toNat) (List.replicate (a0.defs.length:Int).toNat false).length)<|(iter (lD n a0) n (0,[],(List.replicate (a0.defs.length:Int).toNat false))).bind λw3=>ck (aE (sub w3 0 w3.length).length w3.length)<|some (sub w3 0 w3.length)
def ja(r1:List Int)(x2:List Int):Stp (Int×Int) Int
 |(v3,v4)=>(bif decide (v4<x2.length)then((bz x2 v4).bind λx3=>(ck (ct x3 r1.length)<|(bz r1 ((0:Nat)+x3:Int)).bind λx4=>(bif decide (x4>=0)then(bif decide (v3<0)then some true else ck (ct x3 r1.length)<|(bz r1 ((0:Nat)+x3:Int)).bind λx5=>ck (ct v3 r1.length)<|(bz r1 ((0:Nat)+v3:Int)).bind λx6=>some (decide (x5<x6)))else some false)).bind λv5=>(bif v5 then some x3 else some v3):Option Int).bind λv6=>some (.inl (v6,(i64.wrap (v4+1))))else some (.inr v3))
def lK(a0:Int)(a1:List gT)(a2:List (List Int))(r1:List Int):Stp (Int×(List ByteArray)) (Unit⊕((List gT)×(List (List Int))×(List ByteArray)))
 |(v1,v2)=>(bz a1 v1).bind λx1=>ck (bP v2.length v2.length (sub ([x1.name]:List ByteArray) 0 1).length 1 16)<|jM (v2++(sub ([x1.name]:List ByteArray) 0 1)) λr2=>(bz a2 v1).bind λx2=>(iter (ja r1 x2) n ((-1),0)).bind λw1=>(bif decide (w1<0)then(ck (aE 0 ([]:List ByteArray).length)<|some (a1,a2,[])).map λa=>.inr (.inr a)else(bif (w1==a0)then(ck (!(r2.length==0)&&aE r2.length r2.length)<|some (a1,a2,r2)).map λa=>.inr (.inr a)else ck (aE r2.length r2.length)<|some (.inl (w1,r2))))
def kD(a0:Int)(a1:List gT)(a2:List (List Int)):Option ((List gT)×(List (List Int))×(List ByteArray)):=
 (kz n (pE.mk a1 a2) a0).bind λr1=>ck (aE 0 ([]:List ByteArray).length)<|dP (iter (lK n a0 a1 a2 r1) n (a0,[])) λ()=>none
def iH(a0:List gT):Stp (Int×(List gT)×(List (List Int))×(List ByteArray)) ((List gT)×(List (List Int))×(List ByteArray))
 |(v1,v2,v3,v4)=>(bif decide (v1<a0.length)then((kD n v1 v2 v3).bind λr1=>((bif r1.2.2.length==0 then some true else some false)).bind λv5=>(bif v5 then ck (aE v4.length v4.length)<|some (r1.1,r1.2.1,v4)else((bif v4.length==0 then some true else(bif decide ((r1.2.2.length:Nat)<(v4.length:Int))then some true else(bif ((r1.2.2.length:Nat)==(v4.length:Int))then ck (aE (sub r1.2.2 0 r1.2.2.length).length r1.2.2.length)<|ck (aE (sub v4 0 v4.length).length v4.length)<|(l9 n (sub r1.2.2 0 r1.2.2.length) (sub v4 0 v4.length)).bind λr2=>some (decide (r2<0))else some false)))).bind λv6=>(bif v6 then ck (aE r1.2.2.length r1.2.2.length)<|some (r1.1,r1.2.1,r1.2.2)else ck (aE v4.length v4.length)<|some (r1.1,r1.2.1,v4))):Option ((List gT)×(List (List Int))×(List ByteArray))).bind λ(v7,v8,v9)=>ck (aE v9.length v9.length)<|some (.inl ((i64.wrap (v1+1)),v7,v8,v9))else ck (aE v4.length v4.length)<|some (.inr (v2,v3,v4)))
def jv(a0:List gT)(a1:List (List Int)):Option ((List gT)×(List (List Int))×(List ByteArray)):=
 ck (aE 0 ([]:List ByteArray).length)<|(iter (iH n a0) n (0,a0,a1,[])).bind λ(w1,w2,w3)=>ck (aE w3.length w3.length)<|some (w1,w2,w3)
def nZ(r1:List ByteArray):Stp (Int×(List (ByteArray×Bool))) (List (ByteArray×Bool))
 |(v1,v2)=>(bif decide (v1<(r1.length:Nat))then ck (ct v1 r1.length)<|(bz r1 ((0:Nat)+v1:Int)).bind λx1=>some (.inl ((i64.wrap (v1+1)),(Fh fY x1 true v2)))else some (.inr v2))
def lT(a0:bT):Stp (Int×(List (ByteArray×Bool))) (Unit⊕((List Int)×(List ByteArray)×Int))
 |(v3,v4)=>(bif decide (v3<a0.defs.length)then(bz a0.defs v3).bind λx2=>(bif ((iq fY x2.name v4).getD false)then(some ([],[],5)).map λa=>.inr (.inr a)else some (.inl ((i64.wrap (v3+1)),(Fh fY x2.name true v4))))else some (.inr (.inl ())))
def nS(a0:bT):Option ((List Int)×(List ByteArray)×Int):=
 (wG).bind λr1=>(iter (nZ r1) n (0,([]:(List (ByteArray×Bool))))).bind λw1=>dP (iter (lT a0) n (0,w1)) λ()=>(lQ a0.defs).bind λr2=>(jv n r2.1 r2.2).bind λr3=>((bif r3.2.2.length==0 then some false else some true)).bind λv5=>(bif v5 then ck (aE (sub r3.2.2 0 r3.2.2.length).length r3.2.2.length)<|some ([],(sub r3.2.2 0 r3.2.2.length),16)else(nR n (pE.mk r3.1 r3.2.1)).bind λr4=>ck (aE (sub r4 0 r4.length).length r4.length)<|some ((sub r4 0 r4.length),[],0))
def Aa(a0:cO)(a1:bV):Option Bool:=
 some (ByteArray.toList a0.name==ByteArray.toList a1.s)
def Fq(a0:List cO)(a1:(cO×Unit)->Option Bool):Stp Int (Unit⊕Int)
 |v1=>(bif decide (v1<a0.length)then(bz a0 v1).bind λx1=>(a1 (x1,())).bind λr1=>(bif r1 then(some v1).map λa=>.inr (.inr a)else some (.inl (i64.wrap (v1+1))))else some (.inr (.inl ())))
def rJ(a0:List cO)(a1:(cO×Unit)->Option Bool):Option Int:=
 dP (iter (Fq a0 a1) n 0) λ()=>some (-1)
def Ab(a0:bD)(a1:bV):Option Bool:=
 some (ByteArray.toList a0.name==ByteArray.toList a1.key)
def yM(a0:Bool):Option Int:=
 (bif a0 then some 1 else some 0)
def wo(a0:Int)(a1:Int):Option Int:=
 (bif (a1==0)then some 0 else ck (a1 !=0)<|(ck (a1 !=0)<|((bif ((Int.tmod a0 a1) !=0)then some (!((decide ((Int.tmod a0 a1)<0))==(decide (a1<0))))else some false)).bind λv1=>(bif v1 then some (i64.wrap ((i64.wrap (Int.tdiv a0 a1))-1))else some (i64.wrap (Int.tdiv a0 a1))):Option Int).bind λv2=>some v2)
def Jo(a0:Int)(a1:Int)(a2:Int):Option Int:=
 (bif (a0==4)then some (i64.wrap (a1+a2))else(bif (a0==5)then some (i64.wrap (a1-a2))else(bif (a0==6)then some (i64.wrap (a1*a2))else(bif (a0==7)then(wo a1 a2).bind λr1=>some r1 else(bif (a0==8)then(bif (a2==0)then some 0 else(wo a1 a2).bind λr2=>some (i64.wrap (a1-(i64.wrap (r2*a2)))))else(bif (a0==10)then(yM (a1==a2)).bind λr3=>some r3 else(bif (a0==11)then(yM (decide (a1<a2))).bind λr4=>some r4 else(bif (a0==12)then(yM (decide (a1<=a2))).bind λr5=>some r5 else(bif (a0==13)then(bif (a1 !=0)then(yM (a2 !=0)).bind λr6=>some r6 else(yM false).bind λr7=>some r7)else(bif (a1 !=0)then(yM true).bind λr8=>some r8 else(yM (a2 !=0)).bind λr9=>some r9))))))))))
def jL(a0:List gT)(a1:List cO)(a2:List fG)(a3:List cK)(a4:List jr)(a5:List iw)(a6:List dD)(a7:Int)(a8:List ByteArray)(a9:bV)(j7:List (ByteArray×Int)):Option (Int×(List (ByteArray×Int))):=
 (rJ n a1 (λ (y1:cO×Unit)=>Aa y1.1 (bV.mk a9.op a9.n a9.s a9.key a9.args))).bind λr1=>(bif decide (r1<0)then some (0,j7)else(bz a1 r1).bind λx1=>(kX n x1.rows (λ (y2:bD×Unit)=>Ab y2.1 (bV.mk a9.op a9.n a9.s a9.key a9.args))).bind λr2=>(bif decide (r2>=0)then(bz x1.rows r2).bind λx2=>some (x2.n,j7)else some (x1.sf,j7)))
def fE(n:Nat)(rc:((List gT))->((List cO))->((List fG))->((List cK))->((List jr))->((List iw))->((List dD))->(Int)->((List ByteArray))->(bV)->((List (ByteArray×Int)))->Option (Int×(List (ByteArray×Int))))(a0:List gT)(a1:List cO)(a2:List fG)(a3:List cK)(a4:List jr)(a5:List iw)(a6:List dD)(a7:Int)(a8:List ByteArray)(a9:bV):Stp (Int×(List (ByteArray×Int))×(List Int)) ((List (ByteArray×Int))×(List Int))
 |(v1,v2,v3)=>(bif decide (v1<a9.args.length)then((bz a9.args v1).bind λx1=>((bif (a9.op==16)then(bif decide (v1>0)then ck (ct 0 v3.length)<|(bz v3 ((0:Nat)+0:Int)).bind λx2=>some (!((x2 !=0)==(v1==1)))else some false)else some false)).bind λv4=>(bif v4 then ck (bP v3.length v3.length (sub ([0]:List Int) 0 1).length 1 8)<|jM (v3++(sub ([0]:List Int) 0 1)) λr1=>ck (aE r1.length r1.length)<|some (v2,r1)else(rc a0 a1 a2 a3 a4 a5 a6 a7 a8 (bV.mk x1.op x1.n x1.s x1.key x1.args) v2).bind λr2=>ck (bP v3.length v3.length (sub ([r2.1]:List Int) 0 1).length 1 8)<|jM (v3++(sub ([r2.1]:List Int) 0 1)) λr3=>ck (aE r3.length r3.length)<|some (r2.2,r3)):Option ((List (ByteArray×Int))×(List Int))).bind λ(v5,v6)=>ck (aE v6.length v6.length)<|some (.inl ((i64.wrap (v1+1)),v5,v6))else ck (aE v3.length v3.length)<|some (.inr (v2,v3)))
def fM(rc:((List gT))->((List cO))->((List fG))->((List cK))->((List jr))->((List iw))->((List dD))->(Int)->((List ByteArray))->(bV)->((List (ByteArray×Int)))->Option (Int×(List (ByteArray×Int))))(a0:List gT)(a1:List cO)(a2:List fG)(a3:List cK)(a4:List jr)(a5:List iw)(a6:List dD)(a7:Int)(a8:List ByteArray)(a9:bV)(j7:List (ByteArray×Int)):Option (Int×(List (ByteArray×Int))):=
 ck (aE 0 ([]:List Int).length)<|(iter (fE n rc a0 a1 a2 a3 a4 a5 a6 a7 a8 a9) n (0,j7,[])).bind λ(w1,w2)=>(bif (a9.op==0)then some (a9.n,w1)else(bif (a9.op==1)then some (((iq fY a9.s w1).getD 0),w1)else(bif (a9.op==2)then(jL n a0 a1 a2 a3 a4 a5 a6 a7 a8 (bV.mk a9.op a9.n a9.s a9.key a9.args) w1).bind λr4=>some (r4.1,r4.2)else(bif (a9.op==3)then(gm n a8 a9.s).bind λr5=>(yM r5).bind λr6=>some (r6,w1)else(bif (a9.op==9)then ck (ct 0 w2.length)<|(bz w2 ((0:Nat)+0:Int)).bind λx3=>some ((i64.wrap (0-x3)),w1)else(bif (a9.op==15)then ck (ct 0 w2.length)<|(bz w2 ((0:Nat)+0:Int)).bind λx4=>(yM (x4==0)).bind λr7=>some (r7,w1)else(bif (a9.op==16)then ck (ct 0 w2.length)<|(bz w2 ((0:Nat)+0:Int)).bind λx5=>(bif (x5 !=0)then ck (ct 1 w2.length)<|(bz w2 ((0:Nat)+1:Int)).bind λx6=>some (x6,w1)else ck (ct 2 w2.length)<|(bz w2 ((0:Nat)+2:Int)).bind λx7=>some (x7,w1))else ck (ct 0 w2.length)<|(bz w2 ((0:Nat)+0:Int)).bind λx8=>ck (ct 1 w2.length)<|(bz w2 ((0:Nat)+1:Int)).bind λx9=>(Jo a9.op x8 x9).bind λr8=>some (r8,w1))))))))
def Em(rc:((List gT))->((List cO))->((List fG))->((List cK))->((List jr))->((List iw))->((List dD))->(Int)->((List ByteArray))->(bV)->((List (ByteArray×Int)))->Option (Int×(List (ByteArray×Int)))):cM xx:=⟨[(.a [(.v (.sl (.st SI.Def))),(.v (.sl (.st SI.Table))),(.v (.sl (.st SI.Zone))),(.v (.sl (.st SI.Rule))),(.v (.sl (.st SI.Cap))),(.v (.sl (.st SI.View))),(.v (.sl (.st SI.gj))),(.v (.int .i64)),(.mp 0),(.v (.sl .str))]),(.v (.st SI.Expr))],[(0,.m .str (.int .i64))],[(.v (.int .i64))],[(0,.m .str (.int .i64))],λv=>rc (v.1) (v.2.1) (v.2.2.1) (v.2.2.2.1) (v.2.2.2.2.1) (v.2.2.2.2.2.1) (v.2.2.2.2.2.2.1) (v.2.2.2.2.2.2.2.1) (v.2.2.2.2.2.2.2.2.1) (v.2.2.2.2.2.2.2.2.2.1) (v.2.2.2.2.2.2.2.2.2.2)⟩
def kE(rc:((List gT))->((List cO))->((List fG))->((List cK))->((List jr))->((List iw))->((List dD))->(Int)->((List ByteArray))->(bV)->((List (ByteArray×Int)))->Option (Int×(List (ByteArray×Int)))):b8 xx:=⟨[],[.d .bool],λ_=>none,some (Em rc)⟩
def bR(n:Nat):Nat->((List gT))->((List cO))->((List fG))->((List cK))->((List jr))->((List iw))->((List dD))->(Int)->((List ByteArray))->(bV)->((List (ByteArray×Int)))->Option (Int×(List (ByteArray×Int)))
 | 0=>λ_ _ _ _ _ _ _ _ _ _ _=>none
 |m+1=>fM n (bR n m)
def gM(a0:List gT)(a1:List cO)(a2:List fG)(a3:List cK)(a4:List jr)(a5:List iw)(a6:List dD)(a7:Int)(a8:List ByteArray)(a9:bV)(j7:List (ByteArray×Int)):Option (Int×(List (ByteArray×Int))):=bR n n a0 a1 a2 a3 a4 a5 a6 a7 a8 a9 j7
def jl(n:Nat)(a1:List bD):Stp (Int×(List (ByteArray×Int))×(List (ByteArray×Bool))) ((List (ByteArray×Int))×(List (ByteArray×Bool)))
 |(v1,v2,v3)=>(bif decide (v1<a1.length)then((bz a1 v1).bind λx1=>(bif (!((iq fY x1.name v3).getD false))then some ((Fh fY x1.name x1.n v2),(Fh fY x1.name true v3))else some (v2,v3)):Option ((List (ByteArray×Int))×(List (ByteArray×Bool)))).bind λ(v4,v5)=>some (.inl ((i64.wrap (v1+1)),v4,v5))else some (.inr (v2,v3)))
def iA(a0:bT)(a2:List ByteArray)(w2:List (ByteArray×Bool))(r1:(List Int)×(List ByteArray)×Int):Stp (Int×(List (ByteArray×Int))×(List Int)) ((List (ByteArray×Int))×(List Int))
 |(v6,v7,v8)=>(bif decide (v6<(r1.1.length:Nat))then(ck (ct v6 r1.1.length)<|(bz r1.1 ((0:Nat)+v6:Int)).bind λx2=>(bz a0.defs x2).bind λx3=>((Hw n (bV.mk x3.iu x3.lw x3.kq x3.ik x3.el)).bind λr2=>(bif r2 then(gM n a0.defs a0.tables a0.zones a0.rules a0.caps a0.views a0.sm a0.hours a2 (bV.mk x3.iu x3.lw x3.kq x3.ik x3.el) v7).bind λr3=>ck (ct x2 ((a0.defs.length:Int).toNat))<|(bz v8 ((0:Nat)+x2:Int)).bind λx4=>some (r3.2,(v8.set ((0:Nat)+x2:Int).toNat r3.1))else some (v7,v8)):Option ((List (ByteArray×Int))×(List Int))).bind λ(v9,v10)=>(bif (!((iq fY x3.name w2).getD false))then ck (ct x2 ((a0.defs.length:Int).toNat))<|(bz v10 ((0:Nat)+x2:Int)).bind λx5=>some ((Fh fY x3.name x5 v9),v10)else some (v9,v10)):Option ((List (ByteArray×Int))×(List Int))).bind λ(v11,v12)=>some (.inl ((i64.wrap (v6+1)),v11,v12))else some (.inr (v7,v8)))
def mQ(a0:bT)(a1:List bD)(a2:List ByteArray):Option ((List gT)×(List cO)×(List fG)×(List cK)×(List jr)×(List iw)×(List dD)×Int×(List ByteArray)×(List (ByteArray×Int))×(List Int)):=
 (iter (jl n a1) n (0,([]:(List (ByteArray×Int))),([]:(List (ByteArray×Bool))))).bind λ(w1,w2)=>ck (decide ((a0.defs.length:Int)<=a0.defs.length)&&(decide (0<=(a0.defs.length:Int))&&wC a0.defs.length 8))<|(nS n a0).bind λr1=>(bif (r1.2.2 !=0)then ck (aE ((a0.defs.length:Int).toNat) (List.replicate (a0.defs.length:Int).toNat (0:Int)).length)<|some (a0.defs,a0.tables,a0.zones,a0.rules,a0.caps,a0.views,a0.sm,a0.hours,a2,w1,(List.replicate (a0.defs.length:Int).toNat 0))else(iter (iA n a0 a2 w2 r1) n (0,w1,(List.replicate (a0.defs.length:Int).toNat 0))).bind λ(w3,w4)=>ck (aE ((a0.defs.length:Int).toNat) w4.length)<|some (a0.defs,a0.tables,a0.zones,a0.rules,a0.caps,a0.views,a0.sm,a0.hours,a2,w3,w4))
def Ac(a0:bT)(a1:List bD)(a2:List ByteArray)(a3:bV):Option Int:=
 (Hw n (bV.mk a3.op a3.n a3.s a3.key a3.args)).bind λr1=>(bif (!r1)then some 0 else(mQ n a0 a1 a2).bind λr2=>(gM n r2.1 r2.2.1 r2.2.2.1 r2.2.2.2.1 r2.2.2.2.2.1 r2.2.2.2.2.2.1 r2.2.2.2.2.2.2.1 r2.2.2.2.2.2.2.2.1 r2.2.2.2.2.2.2.2.2.1 (bV.mk a3.op a3.n a3.s a3.key a3.args) r2.2.2.2.2.2.2.2.2.2.1).bind λr3=>some r3.1)
def Ad(a0:List ax):Stp (Bool×Int×Int×Int×Int×Int) (Bool×Int×Int×Int×Int)
 |(v1,v2,v3,v4,v5,v6)=>(bif decide (v2<a0.length)then((bz a0 v2).bind λx1=>(oO x1).bind λr1=>(bif (!r1)then some (v1,v3,v4,v5,v6)else(bif (!v1)then some (true,x1.x0,x1.y0,x1.x1,x1.y1)else some (v1,(min v3 x1.x0),(min v4 x1.y0),(max v5 x1.x1),(max v6 x1.y1)))):Option (Bool×Int×Int×Int×Int)).bind λ(v7,v8,v9,v10,v11)=>some (.inl (v7,(i64.wrap (v2+1)),v8,v9,v10,v11))else some (.inr (v1,v3,v4,v5,v6)))
def M0(a0:List ax):Option (ax×Bool):=
 (iter (Ad a0) n (false,0,0,0,0,0)).bind λ(w1,w2,w3,w4,w5)=>some ((ax.mk w2 w3 w4 w5),w1)
def Jp(a0:List ax):Option (ax×Bool):=
 ((bif ((a0.length:Int)==0)then some true else(ny n a0).bind λr1=>some (!r1))).bind λv1=>(bif v1 then some ((ax.mk 0 0 0 0),false)else(M0 n a0).bind λr2=>some (r2.1,r2.2))
def xC(a0:ay):Option (List gU):=
 ck (aE (sub ([(ax.mk a0.bj a0.bp a0.be a0.bo)]:List ax) 0 1).length 1)<|ck (aE (sub ([(gU.mk a0.b9 a0.ch (sub ([(ax.mk a0.bj a0.bp a0.be a0.bo)]:List ax) 0 1))]:List gU) 0 1).length 1)<|some (sub ([(gU.mk a0.b9 a0.ch (sub ([(ax.mk a0.bj a0.bp a0.be a0.bo)]:List ax) 0 1))]:List gU) 0 1)
def Fs(a0:List d9)(a1:(d9×Unit)->Option Bool):Stp Int (Unit⊕Int)
 |v1=>(bif decide (v1<a0.length)then(bz a0 v1).bind λx1=>(a1 (x1,())).bind λr1=>(bif r1 then(some v1).map λa=>.inr (.inr a)else some (.inl (i64.wrap (v1+1))))else some (.inr (.inl ())))
def rM(a0:List d9)(a1:(d9×Unit)->Option Bool):Option Int:=
 dP (iter (Fs a0 a1) n 0) λ()=>some (-1)
def lF(a0:List d9)(a1:(d9×Unit)->Option Bool):Option Bool:=
 (rM n a0 a1).bind λr1=>some (decide (r1>=0))
def nT(a0:Int)(a1:Int)(a2:Int):Option Bool:=
 (bif decide (a1<=a0)then some (decide (a0<=a2))else some false)
def Ae(a0:d9):Option Bool:=
 (nT a0.side 0 3).bind λr1=>(bif r1 then(nT a0.base 0 4096).bind λr2=>(bif r2 then(nT a0.num 0 4096).bind λr3=>(bif r3 then(nT a0.den 1 4096).bind λr4=>some r4 else some false)else some false)else some false)
def tO(a0:d9):Option Bool:=
 (Ae a0).bind λr1=>some (!r1)
def Af(a0:ax)(a1:List d9):Option Bool:=
 (oO a0).bind λr1=>(bif r1 then(lF n a1 (λ (y1:d9×Unit)=>tO y1.1)).bind λr2=>some (!r2)else some false)
def TK(a0:List ax)(a1:List ax):Option Bool:=
 (oG n a0 a1).bind λr1=>some r1
def Ag(a0:List gU):Stp Int (Unit⊕Bool)
 |v1=>(bif decide (v1<a0.length)then dP ((bz a0 v1).bind λx1=>((bif decide (x1.z0<0)then some true else(bif decide (x1.z0>=x1.z1)then some true else(bif decide (x1.z1>4096)then some true else(bif ((x1.area.length:Int)==0)then some true else(ny n x1.area).bind λr1=>some (!r1)))))).bind λv2=>(bif v2 then((some false).map λa=>.inr (.inr a)).map .inr else(bif (v1==0)then some (.inl ())else(bz a0 (i64.wrap (v1-1))).bind λx2=>((bif decide (x2.z1>x1.z0)then some true else(bif (x2.z1==x1.z0)then(TK n x2.area x1.area).bind λr2=>some r2 else some false))).bind λv3=>(bif v3 then((some false).map λa=>.inr (.inr a)).map .inr else some (.inl ())))):Option ((Unit)⊕_)) λ()=>some (.inl (i64.wrap (v1+1)))else some (.inr (.inl ())))
def Hz(a0:List gU):Option Bool:=
 (bif decide ((a0.length:Int)>80)then some false else dP (iter (Ag n a0) n 0) λ()=>some true)
def wH(a0:ax)(a1:Int)(a2:Int):Option MJ:=
 some (MJ.mk (i64.wrap (a1-a0.x0)) (i64.wrap ((i64.wrap (a0.x1-1))-a1)) (i64.wrap (a2-a0.y0)) (i64.wrap ((i64.wrap (a0.y1-1))-a2)))
def tQ(a0:Int)(a1:Int):Option Int:=
 ck (a1 !=0)<|(ck (a1 !=0)<|(bif decide ((Int.tmod a0 a1)<0)then some (i64.wrap ((i64.wrap (Int.tdiv a0 a1))-1))else some (i64.wrap (Int.tdiv a0 a1))):Option Int).bind λv1=>some v1
def xD(a0:ax)(a1:List d9)(a2:Int)(a3:Int)(r1:MJ):Stp (Int×Int) Int
 |(v1,v2)=>(bif decide (v2<a1.length)then(bz a1 v2).bind λx1=>ck (ct x1.side 4)<|(bz ([r1.a0,r1.a1,r1.a2,r1.a3]:List Int) x1.side).bind λx2=>(tQ (i64.wrap (x1.num*x2)) x1.den).bind λr2=>some (.inl ((min v1 (i64.wrap (x1.base+r2))),(i64.wrap (v2+1))))else some (.inr v1))
def Jq(a0:ax)(a1:List d9)(a2:Int)(a3:Int):Option Int:=
 (wH a0 a2 a3).bind λr1=>(iter (xD a0 a1 a2 a3 r1) n (4096,0)).bind λw1=>some w1
def og(a0:ax)(a1:List d9)(x1:ax)(x2:Int):Stp (Int×Int) Int
 |(v5,v6)=>(bif decide (v6<(2:Nat))then ck (ct v6 2)<|(bz ([x1.y0,(i64.wrap (x1.y1-1))]:List Int) ((0:Nat)+v6:Int)).bind λx3=>(Jq n a0 a1 x2 x3).bind λr1=>some (.inl ((min v5 r1),(i64.wrap (v6+1))))else some (.inr v5))
def oh(a0:ax)(a1:List d9)(x1:ax):Stp (Int×Int) Int
 |(v3,v4)=>(bif decide (v4<(2:Nat))then ck (ct v4 2)<|(bz ([x1.x0,(i64.wrap (x1.x1-1))]:List Int) ((0:Nat)+v4:Int)).bind λx2=>(iter (og n a0 a1 x1 x2) n (v3,0)).bind λw1=>some (.inl (w1,(i64.wrap (v4+1))))else some (.inr v3))
def ru(a0:ax)(a1:List d9)(a2:List ax):Stp (Int×Int) Int
 |(v1,v2)=>(bif decide (v2<a2.length)then(bz a2 v2).bind λx1=>(iter (oh n a0 a1 x1) n (v1,0)).bind λw2=>some (.inl (w2,(i64.wrap (v2+1))))else some (.inr v1))
def xE(a0:ax)(a1:List d9)(a2:List ax):Option Int:=
 (iter (ru n a0 a1 a2) n (4096,0)).bind λw3=>some w3
def rz(a0:gU)(a1:ax)(a2:List d9):Option Bool:=
 (xE n a1 a2 a0.area).bind λr1=>some (decide (r1<a0.z1))
def mh(a0:List gU)(a1:(gU×Unit)->Option Bool):Stp Int (Unit⊕Int)
 |v1=>(bif decide (v1<a0.length)then(bz a0 v1).bind λx1=>(a1 (x1,())).bind λr1=>(bif r1 then(some v1).map λa=>.inr (.inr a)else some (.inl (i64.wrap (v1+1))))else some (.inr (.inl ())))
def tT(a0:List gU)(a1:(gU×Unit)->Option Bool):Option Int:=
 dP (iter (mh a0 a1) n 0) λ()=>some (-1)
def jC(a0:List gU)(a1:(gU×Unit)->Option Bool):Option Bool:=
 (tT n a0 a1).bind λr1=>some (decide (r1>=0))
def xG(a0:ax)(a1:List d9)(a2:List gU):Option Bool:=
 ((Af n a0 a1).bind λr1=>(bif (!r1)then some true else(Hz n a2).bind λr2=>some (!r2))).bind λv1=>(bif v1 then some false else(jC n a2 (λ (y1:gU×Unit)=>rz n y1.1 a0 a1)).bind λr3=>some (!r3))
def kF(a0:ay)(a1:ax)(a2:cK):Option Bool:=
 (xC a0).bind λr1=>ck (aE (sub ([(d9.mk a2.gS a2.hZ a2.jj a2.jn)]:List d9) 0 1).length 1)<|ck (aE (sub r1 0 r1.length).length r1.length)<|(xG n a1 (sub ([(d9.mk a2.gS a2.hZ a2.jj a2.jn)]:List d9) 0 1) (sub r1 0 r1.length)).bind λr2=>some (!r2)
def iB(a0:mI)(a1:(ay×Unit)->Option Bool):Option Bool:=
 (gG n a0.az a1).bind λr1=>some r1
def kG(a0:ay)(a1:cK):Option Bool:=
 ck (decide (0<=a0.use)&&decide (a0.use<=i64.bits))<|some ((bits .and .i64 a1.uses (i64.wrap (1*2 ^ a0.use.toNat)))==0)
def akW(a0:ax)(a1:ax):Option (Int×Int):=
 some ((i64.wrap ((max a0.x0 a1.x0)-(min a0.x1 a1.x1))),(i64.wrap ((max a0.y0 a1.y0)-(min a0.y1 a1.y1))))
def SD(a0:ax)(a1:ax):Option Int:=
 ((oO a0).bind λr1=>(bif (!r1)then some true else(oO a1).bind λr2=>some (!r2))).bind λv1=>(bif v1 then some (-1)else(akW a0 a1).bind λr3=>some (max (max 0 r3.1) r3.2))
def dS(a0:iP)(a1:mI)(a2:ay)(a3:cK):Option Bool:=
 ((bif (a0.lot==a1.dC)then some true else(oO (ax.mk a0.ej a0.ef a0.eh a0.ee)).bind λr1=>(bif (!r1)then some true else(bif decide (a0.eQ<0)then some true else some (decide (a0.eQ>=6)))))).bind λv1=>(bif v1 then some false else((bif (a2.use==a3.uses)then(bif (a0.eQ==a3.other)then some true else(bif (a2.use==a3.other)then some (a0.eQ==a3.uses)else some false))else(bif (a2.use==a3.other)then some (a0.eQ==a3.uses)else some false))).bind λv2=>(bif v2 then(SD (ax.mk a2.bj a2.bp a2.be a2.bo) (ax.mk a0.ej a0.ef a0.eh a0.ee)).bind λr2=>some (decide (r2<a3.n))else some false))
def En(a0:List iP)(a1:(iP×Unit)->Option Bool):Stp Int (Unit⊕Int)
 |v1=>(bif decide (v1<a0.length)then(bz a0 v1).bind λx1=>(a1 (x1,())).bind λr1=>(bif r1 then(some v1).map λa=>.inr (.inr a)else some (.inl (i64.wrap (v1+1))))else some (.inr (.inl ())))
def qE(a0:List iP)(a1:(iP×Unit)->Option Bool):Option Int:=
 dP (iter (En a0 a1) n 0) λ()=>some (-1)
def kH(a0:List iP)(a1:(iP×Unit)->Option Bool):Option Bool:=
 (qE n a0 a1).bind λr1=>some (decide (r1>=0))
def rO(a0:mI)(a1:cK)(a2:ay):Option Bool:=
 (kH n a0.fL (λ (y1:iP×Unit)=>dS y1.1 a0 a2 a1)).bind λr1=>some r1
def kI(a0:ay)(a1:mI)(a2:cK):Option Bool:=
 (rO n a1 a2 a0).bind λr1=>some r1
def nk(a0:mI)(a1:cK):Option Bool:=
 (bif (a1.kind==0)then(jk n (bT.mk a0.fg a0.ey a0.eI a0.eK a0.fh a0.eJ a0.fX a0.eM) (iK.mk a0.sL a0.m8 a0.kh a0.pd) (aG.mk a0.dC a0.ii)).bind λr1=>ck (aE (sub r1 0 r1.length).length r1.length)<|(Ac n (bT.mk a0.fg a0.ey a0.eI a0.eK a0.fh a0.eJ a0.fX a0.eM) (sub r1 0 r1.length) a0.zones (bV.mk a1.ky a1.m5 a1.mT a1.i9 a1.fR)).bind λr2=>some (r2==0)else(bif (a1.kind==1)then(Jp n a0.kh).bind λr3=>(iB n a0 (λ (y1:ay×Unit)=>kF n y1.1 r3.1 a1)).bind λr4=>some r4 else(bif (a1.kind==2)then(iB n a0 (λ (y2:ay×Unit)=>kG y2.1 a1)).bind λr5=>some r5 else(bif (a1.kind==3)then(iB n a0 (λ (y3:ay×Unit)=>kI n y3.1 a0 a1)).bind λr6=>some r6 else some false))))
def vE(a0:ax)(a1:ax):Option Bool:=
 (bif decide ((max a1.x0 a0.x0)<(min a1.x1 a0.x1))then some (decide ((max a1.y0 a0.y0)<(min a1.y1 a0.y1)))else some false)
def HV(a0:List ax)(a1:(ax×Unit)->Option Bool):Stp Int (Unit⊕Int)
 |v1=>(bif decide (v1<a0.length)then(bz a0 v1).bind λx1=>(a1 (x1,())).bind λr1=>(bif r1 then(some v1).map λa=>.inr (.inr a)else some (.inl (i64.wrap (v1+1))))else some (.inr (.inl ())))
def tV(a0:List ax)(a1:(ax×Unit)->Option Bool):Option Int:=
 dP (iter (HV a0 a1) n 0) λ()=>some (-1)
def jD(a0:List ax)(a1:(ax×Unit)->Option Bool):Option Bool:=
 (tV n a0 a1).bind λr1=>some (decide (r1>=0))
def Eo(a0:ax)(a1:List ax):Option Bool:=
 (jD n a1 (λ (y1:ax×Unit)=>vE y1.1 a0)).bind λr1=>some r1
def TM(a0:List ax)(a1:List ax):Option Bool:=
 (jD n a0 (λ (y1:ax×Unit)=>Eo n y1.1 a1)).bind λr1=>some r1
def qN(a0:gU)(a1:jH):Option Bool:=
 (bif decide (a0.z1>a1.top)then(TM n a0.area a1.area).bind λr1=>some r1 else some false)
def vF(a0:List jH)(a1:Int)(a2:List gU):Stp Int (Unit⊕Bool)
 |v1=>(bif decide (v1<a0.length)then dP ((bz a0 v1).bind λx1=>((bif (x1.lot !=a1)then some true else(ny n x1.area).bind λr2=>some (!r2))).bind λv2=>(bif v2 then some (.inl ())else(jC n a2 (λ (y1:gU×Unit)=>qN n y1.1 x1)).bind λr3=>(bif r3 then((some false).map λa=>.inr (.inr a)).map .inr else some (.inl ()))):Option ((Unit)⊕_)) λ()=>some (.inl (i64.wrap (v1+1)))else some (.inr (.inl ())))
def Ep(a0:List jH)(a1:Int)(a2:List gU):Option Bool:=
 (Hz n a2).bind λr1=>(bif (!r1)then some false else dP (iter (vF n a0 a1 a2) n 0) λ()=>some true)
def nC(a0:ay)(a1:fP)(a2:aG):Option Bool:=
 (xC a0).bind λr1=>ck (aE (sub r1 0 r1.length).length r1.length)<|(Ep n a1.cw a2.lot (sub r1 0 r1.length)).bind λr2=>some (!r2)
def jX(a0:ByteArray)(a1:Bool)(a2:List ByteArray):Option (List ByteArray):=
 ((bif a1 then ck (aE (sub a2 0 a2.length).length a2.length)<|(gm n (sub a2 0 a2.length) a0).bind λr1=>some (!r1)else some false)).bind λv1=>(bif v1 then ck (bP a2.length a2.length (sub ([a0]:List ByteArray) 0 1).length 1 16)<|jM (a2++(sub ([a0]:List ByteArray) 0 1)) λr2=>ck (aE r2.length r2.length)<|some r2 else ck (aE a2.length a2.length)<|some a2)
def nD(a0:fP)(r1:mI×Int)(r2:List Int):Stp (Int×(List ByteArray)) (List ByteArray)
 |(v1,v2)=>(bif decide (v1<(r2.length:Nat))then ck (ct v1 r2.length)<|(bz r2 ((0:Nat)+v1:Int)).bind λx1=>(bz a0.bm x1).bind λx2=>(bz a0.bm x1).bind λx3=>(nk n r1.1 x3).bind λr3=>ck (aE v2.length v2.length)<|(jX n x2.name r3 v2).bind λr4=>ck (aE r4.length r4.length)<|some (.inl ((i64.wrap (v1+1)),r4))else ck (aE v2.length v2.length)<|some (.inr v2))
def qO(a0:fP)(a1:aG)(a2:Int):Option ((List ByteArray)×Int):=
 (zY n a0 a1).bind λr1=>(bif (r1.2 !=0)then some ([],r1.2)else(tN n (bT.mk a0.cm a0.cd a0.ca a0.bm a0.co a0.ci a0.cD a0.cj) r1.1.zones a2).bind λr2=>ck (aE 0 ([]:List ByteArray).length)<|(iter (nD n a0 r1 r2) n (0,[])).bind λw1=>(iB n r1.1 (λ (y1:ay×Unit)=>nC n y1.1 a0 a1)).bind λr5=>ck (aE w1.length w1.length)<|(jX n (⟨#[101,97,115,101,109,101,110,116]⟩) r5 w1).bind λr6=>ck (aE (sub r6 0 r6.length).length r6.length)<|some ((sub r6 0 r6.length),0))
def M4(a0:aG):Stp (Int×(List ay)) (List ay)
 |(v1,v2)=>(bif decide (v1<a0.phases.length)then(bz a0.phases v1).bind λx1=>ck (bP v2.length v2.length x1.az.length x1.az.length 72)<|jM (v2++x1.az) λr1=>ck (aE r1.length r1.length)<|some (.inl ((i64.wrap (v1+1)),r1))else ck (aE v2.length v2.length)<|some (.inr v2))
def nE(a0:aG):Option (List ay):=
 ck (aE 0 ([]:List ay).length)<|(iter (M4 a0) n (0,[])).bind λw1=>ck (aE (sub w1 0 w1.length).length w1.length)<|some (sub w1 0 w1.length)
def mR(a0:ay):Option Int:=
 (fK a0).bind λr1=>(bif (!r1)then some 0 else ck (3 !=0)<|some (i64.wrap (Int.tdiv (i64.wrap ((i64.wrap ((i64.wrap (a0.ch-a0.b9))+3))-1)) 3)))
def pJ(a0:List ay):Stp (Int×Int) (Unit⊕Bool)
 |(v1,v2)=>(bif decide (v2<a0.length)then(bz a0 v2).bind λx1=>(mR x1).bind λr1=>(bif (decide ((i64.wrap (v1*(i64.wrap (r1+1))))>2001))then(some true).map λa=>.inr (.inr a)else some (.inl ((i64.wrap (v1*(i64.wrap (r1+1)))),(i64.wrap (v2+1)))))else some (.inr (.inl ())))
def Ah(a0:List ay):Option Bool:=
 dP (iter (pJ a0) n (1,0)) λ()=>some false
def yN(a0:List bD):Option (List bD):=
 (bif a0.isEmpty then(both (some []) (ck (bP ([]:List bD).length 0 a0.length a0.length 24)<|jM ([]++a0) λr1=>ck (aE (sub r1 0 r1.length).length r1.length)<|some (sub r1 0 r1.length)))else ck (bP ([]:List bD).length 0 a0.length a0.length 24)<|jM ([]++a0) λr2=>ck (aE (sub r2 0 r2.length).length r2.length)<|some (sub r2 0 r2.length))
def kQ(a1:List Int)(x1:eF):Stp (Int×Int×Int×(List bD)×(List ay)) ((Int×Int×(List bD)×(List ay))⊕((Int×Int×Int×Int×(List eF))⊕((Int×Int×(List eF))⊕(aG×Int×Int))))
 |(v7,v8,v9,v10,v11)=>(bif decide (v9<x1.az.length)then dP ((bz x1.az v9).bind λx2=>(mR x2).bind λr4=>(bz a1 v8).bind λx3=>((bif decide (x3<0)then some true else some (decide (x3>r4)))).bind λv12=>(bif v12 then(((some ((aG.mk 0 ([])),(0:Int),(1:Int))).map λa=>.inr (.inr a)).map λa=>.inr (.inr a)).map .inr else(rH (ax.mk x2.bj x2.bp x2.be x2.bo)).bind λr5=>((bif decide (x3>0)then some (x2.bj,x2.bp,x2.be,x2.bo,x2.b9,(i64.wrap (x2.b9+(i64.wrap (3*(i64.wrap (r4-x3)))))),x2.use,x2.units,x2.extra)else some (x2.bj,x2.bp,x2.be,x2.bo,x2.b9,x2.ch,x2.use,x2.units,x2.extra)):Option (Int×Int×Int×Int×Int×Int×Int×Int×Bool)).bind λ(v13,v14,v15,v16,v17,v18,v19,v20,v21)=>(bif decide (x3<r4)then ck (bP v11.length v11.length (sub ([(ay.mk v13 v14 v15 v16 v17 v18 v19 v20 v21)]:List ay) 0 1).length 1 72)<|jM (v11++(sub ([(ay.mk v13 v14 v15 v16 v17 v18 v19 v20 v21)]:List ay) 0 1)) λr6=>ck (aE r6.length r6.length)<|ck (aE v10.length v10.length)<|some (.inl ((i64.wrap (v7+(i64.wrap (x3*r5)))),(i64.wrap (v8+1)),v10,r6))else ck (aE v11.length v11.length)<|ck (aE v10.length v10.length)<|some (.inl ((i64.wrap (v7+(i64.wrap (x3*r5)))),(i64.wrap (v8+1)),v10,v11)))):Option ((Int×Int×(List bD)×(List ay))⊕_)) λ(v22,v23,v24,v25)=>ck (aE v25.length v25.length)<|ck (aE v24.length v24.length)<|some (.inl (v22,v23,(i64.wrap (v9+1)),v24,v25))else ck (aE v11.length v11.length)<|ck (aE v10.length v10.length)<|some (.inr (.inl (v7,v8,v10,v11))))
def kR(a0:aG)(a1:List Int):Stp (Int×Int×Int×Int×(List eF)) ((Int×Int×(List eF))⊕(aG×Int×Int))
 |(v2,v3,v4,v5,v6)=>(bif decide (v4<a0.phases.length)then(bz a0.phases v4).bind λx1=>(yN x1.gives).bind λr3=>ck (aE 0 ([]:List ay).length)<|ck (aE r3.length r3.length)<|dP (iter (kQ a1 x1) n (v2,v3,0,r3,[])) λ(w1,w2,w3,w4)=>ck (aE (sub w4 0 w4.length).length w4.length)<|ck (aE (sub w3 0 w3.length).length w3.length)<|ck (bP v6.length v6.length (sub ([(eF.mk (sub w4 0 w4.length) (sub w3 0 w3.length))]:List eF) 0 1).length 1 48)<|jM (v6++(sub ([(eF.mk (sub w4 0 w4.length) (sub w3 0 w3.length))]:List eF) 0 1)) λr7=>ck (aE r7.length r7.length)<|some (.inl (w1,w2,(i64.wrap (v4+1)),v5,r7))else ck (aE v6.length v6.length)<|some (.inr (.inl (v2,v5,v6))))
def gD(a0:aG)(a1:List Int):Option (aG×Int×Int):=
 (nE n a0).bind λr1=>((iQ n a0).bind λr2=>(bif (!r2)then some true else some (a1.length !=(r1.length:Int)))).bind λv1=>(bif v1 then some ((aG.mk 0 ([])),0,1)else ck (aE 0 ([]:List eF).length)<|dP (iter (kR n a0 a1) n (0,0,0,a0.lot,[])) λ(w5,w6,w7)=>ck (aE (sub w7 0 w7.length).length w7.length)<|(nE n (aG.mk w6 (sub w7 0 w7.length))).bind λr8=>(bif ((r8.length:Int)==0)then some ((aG.mk 0 ([])),0,1)else ck (aE (sub w7 0 w7.length).length w7.length)<|some ((aG.mk w6 (sub w7 0 w7.length)),w5,0)))
def dG(a0:List aD)(a1:Int)(a3:(aD×aD×Unit)->Option Int):Stp (Int×(List aD)) (List aD)
 |(v3,v4)=>((bif decide (v3>(a1:Int))then ck (ct v3 a0.length)<|(bz v4 ((0:Nat)+v3:Int)).bind λx1=>ck (ct (i64.wrap (v3-1)) a0.length)<|(bz v4 ((0:Nat)+(i64.wrap (v3-1)):Int)).bind λx2=>(a3 (x1,x2,())).bind λr1=>some (decide (r1<0))else some false)).bind λv5=>(bif v5 then ck (ct (i64.wrap (v3-1)) a0.length)<|(bz v4 ((0:Nat)+(i64.wrap (v3-1)):Int)).bind λx3=>ck (ct v3 a0.length)<|(bz v4 ((0:Nat)+v3:Int)).bind λx4=>ck (ct v3 a0.length)<|(bz v4 ((0:Nat)+v3:Int)).bind λx5=>ck (ct (i64.wrap (v3-1)) a0.length)<|(bz (v4.set ((0:Nat)+v3:Int).toNat x3) ((0:Nat)+(i64.wrap (v3-1)):Int)).bind λx6=>some (.inl ((i64.wrap (v3-1)),((v4.set ((0:Nat)+v3:Int).toNat x3).set ((0:Nat)+(i64.wrap (v3-1)):Int).toNat x4)))else some (.inr v4))
def dH(a0:List aD)(a1:Int)(a2:Int)(a3:(aD×aD×Unit)->Option Int):Stp (Int×(List aD)) (List aD)
 |(v1,v2)=>(bif decide (v1<(a2:Int))then(iter (dG a0 a1 a3) n (v1,v2)).bind λw1=>some (.inl ((i64.wrap (v1+1)),w1))else some (.inr v2))
def dx(a0:List aD)(a1:Int)(a2:Int)(a3:(aD×aD×Unit)->Option Int):Option (List aD):=
 (iter (dH n a0 a1 a2 a3) n ((i64.wrap (a1+1)),a0)).bind λw2=>some w2
def fA(a0:List aD)(a1:Int)(a2:Int)(a3:Int):Stp (Int×(List aD)) (List aD)
 |(v1,v2)=>(bif decide (v1<a3)then ck (ct (i64.wrap (a2+v1)) a0.length)<|(bz v2 ((0:Nat)+(i64.wrap (a2+v1)):Int)).bind λx1=>ck (ct (i64.wrap (a1+v1)) a0.length)<|(bz v2 ((0:Nat)+(i64.wrap (a1+v1)):Int)).bind λx2=>ck (ct (i64.wrap (a1+v1)) a0.length)<|(bz v2 ((0:Nat)+(i64.wrap (a1+v1)):Int)).bind λx3=>ck (ct (i64.wrap (a2+v1)) a0.length)<|(bz (v2.set ((0:Nat)+(i64.wrap (a1+v1)):Int).toNat x1) ((0:Nat)+(i64.wrap (a2+v1)):Int)).bind λx4=>some (.inl ((i64.wrap (v1+1)),((v2.set ((0:Nat)+(i64.wrap (a1+v1)):Int).toNat x1).set ((0:Nat)+(i64.wrap (a2+v1)):Int).toNat x2)))else some (.inr v2))
def dQ(a0:List aD)(a1:Int)(a2:Int)(a3:Int)(a4:(aD×aD×Unit)->Option Int):Option (List aD):=
 (iter (fA a0 a1 a2 a3) n (0,a0)).bind λw1=>some w1
def dR(a0:List aD)(a2:Int)(a4:(aD×aD×Unit)->Option Int):Stp (Int×Int×(List aD)) (Int×(List aD))
 |(v1,v2,v3)=>(bif (v1 !=v2)then(bif decide (v1>v2)then ck (aE a0.length v3.length)<|(dQ n v3 (i64.wrap (a2-v1)) a2 v2 a4).bind λr1=>some (.inl ((i64.wrap (v1-v2)),v2,r1))else ck (aE a0.length v3.length)<|(dQ n v3 (i64.wrap (a2-v1)) (i64.wrap ((i64.wrap (a2+v2))-v1)) v1 a4).bind λr2=>some (.inl (v1,(i64.wrap (v2-v1)),r2)))else some (.inr (v1,v3)))
def iC(a0:List aD)(a1:Int)(a2:Int)(a3:Int)(a4:(aD×aD×Unit)->Option Int):Option (List aD):=
 (iter (dR n a0 a2 a4) n ((i64.wrap (a2-a1)),(i64.wrap (a3-a2)),a0)).bind λ(w1,w2)=>ck (aE a0.length w2.length)<|(dQ n w2 (i64.wrap (a2-w1)) a2 w1 a4).bind λr3=>some r3
def ic(a0:List aD)(a1:Int)(a4:(aD×aD×Unit)->Option Int):Stp (Int×Int) Int
 |(v1,v2)=>(bif decide (v1<v2)then ck (decide (0<=1)&&decide (1<=IntKind.u64.bits))<|ck (ct (i64.wrap ((IntKind.u64.wrap (i64.wrap (v1+v2)))/2 ^ (1:Int).toNat)) a0.length)<|(bz a0 ((0:Nat)+(i64.wrap ((IntKind.u64.wrap (i64.wrap (v1+v2)))/2 ^ (1:Int).toNat)):Int)).bind λx1=>ck (ct a1 a0.length)<|(bz a0 ((0:Nat)+a1:Int)).bind λx2=>(a4 (x1,x2,())).bind λr1=>(bif decide (r1<0)then some (.inl ((i64.wrap ((i64.wrap ((IntKind.u64.wrap (i64.wrap (v1+v2)))/2 ^ (1:Int).toNat))+1)),v2))else some (.inl (v1,(i64.wrap ((IntKind.u64.wrap (i64.wrap (v1+v2)))/2 ^ (1:Int).toNat)))))else some (.inr v1))
def fH(a0:List aD)(w1:Int):Stp (Int×(List aD)) (List aD)
 |(v3,v4)=>(bif decide (v3<(i64.wrap (w1-1)))then ck (ct (i64.wrap (v3+1)) a0.length)<|(bz v4 ((0:Nat)+(i64.wrap (v3+1)):Int)).bind λx3=>ck (ct v3 a0.length)<|(bz v4 ((0:Nat)+v3:Int)).bind λx4=>ck (ct v3 a0.length)<|(bz v4 ((0:Nat)+v3:Int)).bind λx5=>ck (ct (i64.wrap (v3+1)) a0.length)<|(bz (v4.set ((0:Nat)+v3:Int).toNat x3) ((0:Nat)+(i64.wrap (v3+1)):Int)).bind λx6=>some (.inl ((i64.wrap (v3+1)),((v4.set ((0:Nat)+v3:Int).toNat x3).set ((0:Nat)+(i64.wrap (v3+1)):Int).toNat x4)))else some (.inr v4))
def ig(a0:List aD)(a2:Int)(a4:(aD×aD×Unit)->Option Int):Stp (Int×Int) Int
 |(v5,v6)=>(bif decide (v5<v6)then ck (decide (0<=1)&&decide (1<=IntKind.u64.bits))<|ck (ct a2 a0.length)<|(bz a0 ((0:Nat)+a2:Int)).bind λx7=>ck (ct (i64.wrap ((IntKind.u64.wrap (i64.wrap (v5+v6)))/2 ^ (1:Int).toNat)) a0.length)<|(bz a0 ((0:Nat)+(i64.wrap ((IntKind.u64.wrap (i64.wrap (v5+v6)))/2 ^ (1:Int).toNat)):Int)).bind λx8=>(a4 (x7,x8,())).bind λr2=>(bif (!(decide (r2<0)))then some (.inl ((i64.wrap ((i64.wrap ((IntKind.u64.wrap (i64.wrap (v5+v6)))/2 ^ (1:Int).toNat))+1)),v6))else some (.inl (v5,(i64.wrap ((IntKind.u64.wrap (i64.wrap (v5+v6)))/2 ^ (1:Int).toNat)))))else some (.inr v5))
def fI(a0:List aD)(w3:Int):Stp (Int×(List aD)) (List aD)
 |(v7,v8)=>(bif decide (v7>w3)then ck (ct (i64.wrap (v7-1)) a0.length)<|(bz v8 ((0:Nat)+(i64.wrap (v7-1)):Int)).bind λx9=>ck (ct v7 a0.length)<|(bz v8 ((0:Nat)+v7:Int)).bind λx10=>ck (ct v7 a0.length)<|(bz v8 ((0:Nat)+v7:Int)).bind λx11=>ck (ct (i64.wrap (v7-1)) a0.length)<|(bz (v8.set ((0:Nat)+v7:Int).toNat x9) ((0:Nat)+(i64.wrap (v7-1)):Int)).bind λx12=>some (.inl ((i64.wrap (v7-1)),((v8.set ((0:Nat)+v7:Int).toNat x9).set ((0:Nat)+(i64.wrap (v7-1)):Int).toNat x10)))else some (.inr v8))
def fJ(a0:List aD)(a1:Int)(a2:Int)(a3:Int)(a4:(aD×aD×Unit)->Option Int):Stp (Int×Int) Int
 |(v11,v12)=>(bif decide (v11<v12)then ck (decide (0<=1)&&decide (1<=IntKind.u64.bits))<|ck (ct (i64.wrap ((i64.wrap ((i64.wrap ((i64.wrap ((IntKind.u64.wrap (i64.wrap (a1+a3)))/2 ^ (1:Int).toNat))+a2))-1))-(i64.wrap ((IntKind.u64.wrap (i64.wrap (v11+v12)))/2 ^ (1:Int).toNat)))) a0.length)<|(bz a0 ((0:Nat)+(i64.wrap ((i64.wrap ((i64.wrap ((i64.wrap ((IntKind.u64.wrap (i64.wrap (a1+a3)))/2 ^ (1:Int).toNat))+a2))-1))-(i64.wrap ((IntKind.u64.wrap (i64.wrap (v11+v12)))/2 ^ (1:Int).toNat)))):Int)).bind λx13=>ck (ct (i64.wrap ((IntKind.u64.wrap (i64.wrap (v11+v12)))/2 ^ (1:Int).toNat)) a0.length)<|(bz a0 ((0:Nat)+(i64.wrap ((IntKind.u64.wrap (i64.wrap (v11+v12)))/2 ^ (1:Int).toNat)):Int)).bind λx14=>(a4 (x13,x14,())).bind λr3=>(bif (!(decide (r3<0)))then some (.inl ((i64.wrap ((i64.wrap ((IntKind.u64.wrap (i64.wrap (v11+v12)))/2 ^ (1:Int).toNat))+1)),v12))else some (.inl (v11,(i64.wrap ((IntKind.u64.wrap (i64.wrap (v11+v12)))/2 ^ (1:Int).toNat)))))else some (.inr v11))
def dw(rc:((List aD))->(Int)->(Int)->(Int)->((aD×aD×Unit)->Option Int)->Option (List aD))(a0:List aD)(a1:Int)(a2:Int)(a3:Int)(a4:(aD×aD×Unit)->Option Int):Option (List aD):=
 (bif ((i64.wrap (a2-a1))==1)then(iter (ic a0 a1 a4) n (a2,a3)).bind λw1=>(iter (fH a0 w1) n (a1,a0)).bind λw2=>some w2 else(bif ((i64.wrap (a3-a2))==1)then(iter (ig a0 a2 a4) n (a1,a2)).bind λw3=>(iter (fI a0 w3) n (a2,a0)).bind λw4=>some w4 else ck (decide (0<=1)&&decide (1<=IntKind.u64.bits))<|((bif (decide (a2>((i64.wrap ((IntKind.u64.wrap (i64.wrap (a1+a3)))/2 ^ (1:Int).toNat)):Int)))then some ((i64.wrap ((i64.wrap ((i64.wrap ((IntKind.u64.wrap (i64.wrap (a1+a3)))/2 ^ (1:Int).toNat))+a2))-a3)),(i64.wrap ((IntKind.u64.wrap (i64.wrap (a1+a3)))/2 ^ (1:Int).toNat)))else some (a1,a2)):Option (Int×Int)).bind λ(v9,v10)=>(iter (fJ a0 a1 a2 a3 a4) n (v9,v10)).bind λw5=>(((bif decide (w5<a2)then some (decide (a2<((i64.wrap ((i64.wrap ((i64.wrap ((IntKind.u64.wrap (i64.wrap (a1+a3)))/2 ^ (1:Int).toNat))+a2))-w5)):Int)))else some false)).bind λv13=>(bif v13 then ck (aE a0.length a0.length)<|(iC n a0 w5 a2 (i64.wrap ((i64.wrap ((i64.wrap ((IntKind.u64.wrap (i64.wrap (a1+a3)))/2 ^ (1:Int).toNat))+a2))-w5)) a4).bind λr4=>some r4 else some a0):Option ((List aD))).bind λv14=>(((bif decide (a1<w5)then some (decide (w5<((i64.wrap ((IntKind.u64.wrap (i64.wrap (a1+a3)))/2 ^ (1:Int).toNat)):Int)))else some false)).bind λv15=>(bif v15 then ck (aE a0.length v14.length)<|(rc v14 a1 w5 (i64.wrap ((IntKind.u64.wrap (i64.wrap (a1+a3)))/2 ^ (1:Int).toNat)) a4).bind λr5=>some r5 else some v14):Option ((List aD))).bind λv16=>((bif (decide ((i64.wrap ((IntKind.u64.wrap (i64.wrap (a1+a3)))/2 ^ (1:Int).toNat))<((i64.wrap ((i64.wrap ((i64.wrap ((IntKind.u64.wrap (i64.wrap (a1+a3)))/2 ^ (1:Int).toNat))+a2))-w5)):Int)))then some (decide ((i64.wrap ((i64.wrap ((i64.wrap ((IntKind.u64.wrap (i64.wrap (a1+a3)))/2 ^ (1:Int).toNat))+a2))-w5))<a3))else some false)).bind λv17=>(bif v17 then ck (aE a0.length v16.length)<|(rc v16 (i64.wrap ((IntKind.u64.wrap (i64.wrap (a1+a3)))/2 ^ (1:Int).toNat)) (i64.wrap ((i64.wrap ((i64.wrap ((IntKind.u64.wrap (i64.wrap (a1+a3)))/2 ^ (1:Int).toNat))+a2))-w5)) a3 a4).bind λr6=>some r6 else some v16)))
def jQ(rc:((List aD))->(Int)->(Int)->(Int)->((aD×aD×Unit)->Option Int)->Option (List aD)):b8 xx:=⟨[.mut (.st SI.Change),.d (.int .i64),.d (.int .i64),.d (.int .i64),.dt [(.st SI.Change),(.st SI.Change)] (.int .i64)],[.mu (.st SI.Change)],λa=>rc a.1 a.2.1 a.2.2.1 a.2.2.2.1 a.2.2.2.2.1,none⟩
def bX(n:Nat):Nat->((List aD))->(Int)->(Int)->(Int)->((aD×aD×Unit)->Option Int)->Option (List aD)
 | 0=>λ_ _ _ _ _=>none
 |m+1=>dw n (bX n m)
def fC(a0:List aD)(a1:Int)(a2:Int)(a3:Int)(a4:(aD×aD×Unit)->Option Int):Option (List aD):=bX n n a0 a1 a2 a3 a4
def dJ(a0:List aD)(a1:Int)(a2:(aD×aD×Unit)->Option Int):Stp (Int×Int×(List aD)) (Int×(List aD))
 |(v1,v2,v3)=>(bif decide (v2<=a1)then ck (aE a0.length v3.length)<|(dx n v3 v1 v2 a2).bind λr1=>some (.inl (v2,(i64.wrap (v2+20)),r1))else some (.inr (v1,v3)))
def dK(a0:List aD)(a1:Int)(a2:(aD×aD×Unit)->Option Int)(v4:Int):Stp (Int×Int×(List aD)) (Int×(List aD))
 |(v6,v7,v8)=>(bif decide (v7<=a1)then ck (aE a0.length v8.length)<|(fC n v8 v6 (i64.wrap (v6+v4)) v7 a2).bind λr3=>some (.inl (v7,(i64.wrap (v7+(i64.wrap (2*v4)))),r3))else some (.inr (v6,v8)))
def gq(a0:List aD)(a1:Int)(a2:(aD×aD×Unit)->Option Int):Stp (Int×(List aD)) (List aD)
 |(v4,v5)=>(bif decide (v4<a1)then(iter (dK n a0 a1 a2 v4) n (0,(i64.wrap (2*v4)),v5)).bind λ(w3,w4)=>((bif decide ((i64.wrap (w3+v4))<a1)then ck (aE a0.length w4.length)<|(fC n w4 w3 (i64.wrap (w3+v4)) a1 a2).bind λr4=>some r4 else some w4):Option ((List aD))).bind λv9=>some (.inl ((i64.wrap (v4*2)),v9))else some (.inr v5))
def nG(a0:List aD)(a1:Int)(a2:(aD×aD×Unit)->Option Int):Option (List aD):=
 (iter (dJ n a0 a1 a2) n (0,20,a0)).bind λ(w1,w2)=>ck (aE a0.length w2.length)<|(dx n w2 w1 a1 a2).bind λr2=>(iter (gq n a0 a1 a2) n (20,r2)).bind λw5=>some w5
def jw(a0:List aD)(a1:(aD×aD×Unit)->Option Int):Option (List aD):=
 ck (aE a0.length a0.length)<|(nG n a0 (a0.length:Nat) a1).bind λr1=>some r1
def om(a0:aD)(a1:aD):Option Int:=
 (cmp_Compare_int a0.cost a1.cost).bind λr1=>some r1
def qP(a0:fP)(a1:aG)(a2:Int):Option Bool:=
 (qO n a0 a1 a2).bind λr1=>(bif (r1.2==0)then some ((r1.1.length:Int)==0)else some false)
def oU(a0:List ay):Option (List ay):=
 some a0
def eu(x:(List ay))(l:(List Int)):Stp (Int×(List Int)) (Int×(List Int))
 |(v1,v2)=>((bif decide (v1>=0)then ck (ct v1 l.length)<|(bz v2 ((0:Nat)+v1:Int)).bind λx1=>(bz x v1).bind λx2=>(mR x2).bind λr1=>some (x1==(r1:Int))else some false)).bind λv3=>(bif v3 then ck (ct v1 l.length)<|(bz v2 ((0:Nat)+v1:Int)).bind λx3=>some (.inl ((i64.wrap (v1-1)),(v2.set ((0:Nat)+v1:Int).toNat 0)))else some (.inr (v1,v2)))
def oJ(x:List ay):Option (List Int):=
 ck (decide ((x.length:Int)<=(x.length:Int))&&(decide (0<=(x.length:Int))&&wC (x.length:Int) 8))<|ck (aE ((x.length:Int).toNat) (List.replicate (x.length:Int).toNat (0:Int)).length)<|some (List.replicate (x.length:Int).toNat (0:Int))
def lG(x:List ay)(l:List Int):Option (List Int⊕Unit):=
 (iter (eu x l) n ((i64.wrap ((l.length:Int)-1)),l)).bind λ(w1,w2)=>(bif decide (w1<0)then some (.inr ())else ck (ct w1 l.length)<|(bz w2 ((0:Nat)+w1:Int)).bind λx4=>ck (ct w1 l.length)<|(bz w2 ((0:Nat)+w1:Int)).bind λx5=>ck (aE l.length (w2.set ((0:Nat)+w1:Int).toNat (i64.wrap (x4+1))).length)<|some (.inl (w2.set ((0:Nat)+w1:Int).toNat (i64.wrap (x4+1)))))
def jY(x:List ay):Option (List (List Int)):=Pl (sZ) (oJ) (lG n) n x
def nU:((List gT)×(List cO)×(List fG)×(List cK)×(List jr)×(List iw)×(List dD)×Int×(List iK)×(List jH)×(List zV)×(List iP)×(List bD)×Int×(List eF)×Int×(List aD))->List Int->Option ((List gT)×(List cO)×(List fG)×(List cK)×(List jr)×(List iw)×(List dD)×Int×(List iK)×(List jH)×(List zV)×(List iP)×(List bD)×Int×(List eF)×Int×(List aD))
 |(v1,v2,v3,v4,v5,v6,v7,v8,v9,v10,v11,v12,v13,v14,v15,v16,v17),yx=>(gD n (aG.mk v14 v15) yx).bind λr6=>(bif (r6.2.2==0)then ck (bP v17.length v17.length (sub ([(aD.mk yx r6.2.1)]:List aD) 0 1).length 1 32)<|jM (v17++(sub ([(aD.mk yx r6.2.1)]:List aD) 0 1)) λr7=>ck (aE r7.length r7.length)<|some (v1,v2,v3,v4,v5,v6,v7,v8,v9,v10,v11,v12,v13,v14,v15,v16,r7)else ck (aE v17.length v17.length)<|some (v1,v2,v3,v4,v5,v6,v7,v8,v9,v10,v11,v12,v13,v14,v15,v16,v17))
def lg(a2:Int)(w1:List gT)(w2:List cO)(w3:List fG)(w4:List cK)(w5:List jr)(w6:List iw)(w7:List dD)(w8:Int)(w9:List iK)(vf:List jH)(vd:List zV)(HD:List iP)(HC:List bD)(HB:Int)(HA:List eF)(xc:List aD)(r8:List aD):Stp Int (Unit⊕((List Int)×Int×Int))
 |v18=>(bif decide (v18<(xc.length:Int))then ck (ct v18 xc.length)<|(bz r8 ((0:Nat)+v18:Int)).bind λx1=>(gD n (aG.mk HB HA) x1.floors).bind λr9=>(qP n (fP.mk w1 w2 w3 w4 w5 w6 w7 w8 w9 vf vd HD HC) r9.1 a2).bind λwi=>(bif wi then(some (x1.floors,x1.cost,(0:Int))).map λa=>.inr (.inr a)else some (.inl (i64.wrap (v18+1))))else some (.inr (.inl ())))
def jR(a0:fP)(a1:aG)(a2:Int):Option ((List Int)×Int×Int):=
 (qO n a0 a1 a2).bind λr1=>(bif (r1.2 !=0)then some (([]:(List Int)),(0:Int),r1.2)else(nE n a1).bind λr2=>ck (aE (sub r2 0 r2.length).length r2.length)<|(Ah n (sub r2 0 r2.length)).bind λr3=>(bif r3 then some (([]:(List Int)),(0:Int),(6:Int))else(nE n a1).bind λr4=>ck (aE (sub r4 0 r4.length).length r4.length)<|(oU (sub r4 0 r4.length)).bind λr5=>ck (aE 0 ([]:List aD).length)<|(jY n r5).bind λys=>(Rc (nU n) ys (a0.cm,a0.cd,a0.ca,a0.bm,a0.co,a0.ci,a0.cD,a0.cj,a0.land,a0.cw,a0.windows,a0.built,a0.base,a1.lot,a1.phases,(0:Int),([]:List aD))).bind λ(ww:(List gT)×(List cO)×(List fG)×(List cK)×(List jr)×(List iw)×(List dD)×Int×(List iK)×(List jH)×(List zV)×(List iP)×(List bD)×Int×(List eF)×Int×(List aD))=>match ww with|(w1,w2,w3,w4,w5,w6,w7,w8,w9,vf,vd,HD,HC,HB,HA,w16,xc)=>ck (aE xc.length xc.length)<|(jw n xc (λ (y1:aD×aD×Unit)=>om y1.1 y1.2.1)).bind λr8=>dP (iter (lg n a2 w1 w2 w3 w4 w5 w6 w7 w8 w9 vf vd HD HC HB HA xc r8) n (0:Int)) λ()=>some (([]:(List Int)),(0:Int),(4:Int))))
def Jr:Option Bool:=
 (yH 8).bind λr1=>(yH 2).bind λr2=>(jR n r1.1 r1.2 0).bind λr3=>(jR n r2.1 r1.2 0).bind λr4=>ck (aE (sub ([1]:List Int) 0 1).length 1)<|(gD n r1.2 (sub ([1]:List Int) 0 1)).bind λr5=>ck (aE (sub ([4]:List Int) 0 1).length 1)<|(gD n r1.2 (sub ([4]:List Int) 0 1)).bind λr6=>((bif ((r5.1.phases.length:Int) !=1)then some true else(bif ((r3.1.length:Int) !=1)then some true else(bif (r3.2.2 !=0)then some true else(bif (r4.2.2 !=4)then some true else(bif (r5.2.2 !=0)then some true else some (r6.2.2 !=1))))))).bind λv1=>(bif v1 then some false else(bz r5.1.phases 0).bind λx1=>(bif ((x1.az.length:Int) !=1)then some false else(bz r3.1 0).bind λx2=>(bif (x2==2)then(bif (r3.2.1==40)then(bif (r5.2.1==20)then(bz r5.1.phases 0).bind λx3=>(bz x3.az 0).bind λx4=>(bif (x4.ch==9)then(bz r1.2.phases 0).bind λx5=>(bz x5.az 0).bind λx6=>(mR x6).bind λr7=>some (r7==4)else some false)else some false)else some false)else some false)))
def tX(rc:(bV)->(Int)->(Int)->Option Int)(a0:bV)(a1:Int)(a2:Int):Stp (Int×Int) Int
 |(v1,v2)=>((bif decide (v2<a0.args.length)then some (decide (v1<=a1))else some false)).bind λv3=>(bif v3 then(bz a0.args v2).bind λx1=>(rc x1 (i64.wrap (a1-v1)) (i64.wrap (a2-1))).bind λr1=>some (.inl ((i64.wrap (v1+r1)),(i64.wrap (v2+1))))else some (.inr v1))
def Ai(rc:(bV)->(Int)->(Int)->Option Int)(a0:bV)(a1:Int)(a2:Int):Option Int:=
 (bif decide (a2<1)then some (i64.wrap (a1+1))else(iter (tX rc a0 a1 a2) n (1,0)).bind λw1=>some w1)
def Er(rc:(bV)->(Int)->(Int)->Option Int):b8 xx:=⟨[.d (.st SI.Expr),.d (.int .i64),.d (.int .i64)],[.d (.int .i64)],λa=>rc a.1 a.2.1 a.2.2.1,none⟩
def sj(n:Nat):Nat->(bV)->(Int)->(Int)->Option Int
 | 0=>λ_ _ _=>none
 |m+1=>Ai n (sj n m)
def Cr(a0:bV)(a1:Int)(a2:Int):Option Int:=sj n n a0 a1 a2
def Aj(a0:bT):Stp Int (Unit⊕Bool)
 |v1=>((bif decide (v1<a0.rules.length)then some (decide (v1<5))else some false)).bind λv2=>(bif v2 then((bz a0.rules v1).bind λx1=>(Cr n (bV.mk x1.ky x1.m5 x1.mT x1.i9 x1.fR) 20 14).bind λr1=>(bif decide (r1>20)then some true else(bz a0.rules v1).bind λx2=>(bif decide ((x2.zones.length:Int)>6)then some true else(bz a0.rules v1).bind λx3=>some (decide ((x3.except.length:Int)>6))))).bind λv3=>(bif v3 then(some false).map λa=>.inr (.inr a)else some (.inl (i64.wrap (v1+1))))else some (.inr (.inl ())))
def Ak(a0:bT):Stp Int (Unit⊕Bool)
 |v4=>((bif decide (v4<a0.defs.length)then some (decide (v4<5))else some false)).bind λv5=>(bif v5 then(bz a0.defs v4).bind λx4=>(Cr n (bV.mk x4.iu x4.lw x4.kq x4.ik x4.el) 20 14).bind λr2=>(bif decide (r2>20)then(some false).map λa=>.inr (.inr a)else some (.inl (i64.wrap (v4+1))))else some (.inr (.inl ())))
def Rn(a0:bT):Stp Int (Unit⊕Bool)
 |v6=>((bif decide (v6<a0.zones.length)then some (decide (v6<5))else some false)).bind λv7=>(bif v7 then(bz a0.zones v6).bind λx5=>(bif decide ((x5.corners.length:Int)>12)then(some false).map λa=>.inr (.inr a)else some (.inl (i64.wrap (v6+1))))else some (.inr (.inl ())))
def Ro(a0:bT):Stp Int (Unit⊕Bool)
 |v8=>((bif decide (v8<a0.caps.length)then some (decide (v8<4))else some false)).bind λv9=>(bif v9 then(bz a0.caps v8).bind λx6=>(bif decide ((x6.corners.length:Int)>12)then(some false).map λa=>.inr (.inr a)else some (.inl (i64.wrap (v8+1))))else some (.inr (.inl ())))
def Rp(a0:bT):Stp Int (Unit⊕Bool)
 |v10=>((bif decide (v10<a0.tables.length)then some (decide (v10<3))else some false)).bind λv11=>(bif v11 then(bz a0.tables v10).bind λx7=>(bif decide ((x7.rows.length:Int)>8)then(some false).map λa=>.inr (.inr a)else some (.inl (i64.wrap (v10+1))))else some (.inr (.inl ())))
def M5(a0:bT):Option Bool:=
 dP (iter (Aj n a0) n 0) λ()=>dP (iter (Ak n a0) n 0) λ()=>dP (iter (Rn a0) n 0) λ()=>dP (iter (Ro a0) n 0) λ()=>dP (iter (Rp a0) n 0) λ()=>(bif decide ((a0.rules.length:Int)<=4)then(bif decide ((a0.defs.length:Int)<=4)then(bif decide ((a0.zones.length:Int)<=4)then(bif decide ((a0.caps.length:Int)<=3)then some (decide ((a0.tables.length:Int)<=2))else some false)else some false)else some false)else some false)
def vG(a0:ax):Option Bool:=
 (bif decide (a0.x0>=0)then(bif decide (a0.x0<a0.x1)then(bif decide (a0.x1<=1048576)then(bif decide (a0.y0>=0)then(bif decide (a0.y0<a0.y1)then some (decide (a0.y1<=1048576))else some false)else some false)else some false)else some false)else some false)
def Es(a0:yf):Option Bool:=
 (vG (ax.mk a0.mA a0.my a0.mz a0.mw)).bind λr1=>(bif r1 then(bif decide (a0.z0>=0)then(bif decide (a0.z0<a0.z1)then some (decide (a0.z1<=4096))else some false)else some false)else some false)
def Et(a0:Int)(a1:Int)(a2:Int):Option Bool:=
 (bif decide (a0>=a1)then some (decide (a0<=a2))else some false)
def rC(a0:ay):Option Bool:=
 (Es (yf.mk a0.bj a0.bp a0.be a0.bo a0.b9 a0.ch)).bind λr1=>(bif r1 then(Et a0.use 0 5).bind λr2=>(bif r2 then(Et a0.units 0 1048576).bind λr3=>(bif r3 then(bif (a0.units==0)then some true else some (a0.use==0))else some false)else some false)else some false)
def Eu(a0:ay):Option Int:=
 (rC a0).bind λr1=>(bif (!r1)then some 0 else ck (3 !=0)<|some (i64.wrap (Int.tdiv (i64.wrap ((i64.wrap (a0.ch-a0.b9))+2)) 3)))
def pK(a0:aG)(v2:Int):Stp (Int×Int) (Int⊕((Int×Int)⊕(Int⊕Int)))
 |(v3,v4)=>(bz a0.phases v2).bind λx1=>(bif decide (v4<x1.az.length)then(bz a0.phases v2).bind λx2=>(bz x2.az v4).bind λx3=>(Eu x3).bind λr1=>(bif (decide ((i64.wrap (v3*(i64.wrap (r1+1))))>2001))then((some 2001).map λa=>.inr (.inr a)).map λa=>.inr (.inr a)else some (.inl ((i64.wrap (v3*(i64.wrap (r1+1)))),(i64.wrap (v4+1)))))else some (.inr (.inl v3)))
def pM(a0:aG):Stp (Int×Int) (Int⊕Int)
 |(v1,v2)=>(bif decide (v2<a0.phases.length)then dP (iter (pK a0 v2) n (v1,0)) λw1=>some (.inl (w1,(i64.wrap (v2+1))))else some (.inr (.inl v1)))
def M6(a0:aG):Option Int:=
 dP (iter (pM n a0) n (1,0)) λw2=>some (i64.wrap (w2-1))
def V7(a0:fP):Stp Int (Unit⊕Bool)
 |v1=>((bif decide (v1<a0.land.length)then some (decide (v1<4))else some false)).bind λv2=>(bif v2 then(bz a0.land v1).bind λx1=>(bif decide ((x1.area.length:Int)>4)then(some false).map λa=>.inr (.inr a)else some (.inl (i64.wrap (v1+1))))else some (.inr (.inl ())))
def V8(a0:fP):Stp Int (Unit⊕Bool)
 |v3=>((bif decide (v3<a0.cw.length)then some (decide (v3<4))else some false)).bind λv4=>(bif v4 then(bz a0.cw v3).bind λx2=>(bif decide ((x2.area.length:Int)>4)then(some false).map λa=>.inr (.inr a)else some (.inl (i64.wrap (v3+1))))else some (.inr (.inl ())))
def Ew(a1:aG):Stp Int (Unit⊕Bool)
 |v5=>((bif decide (v5<a1.phases.length)then some (decide (v5<4))else some false)).bind λv6=>(bif v6 then((bz a1.phases v5).bind λx3=>(bif decide ((x3.az.length:Int)>3)then some true else(bz a1.phases v5).bind λx4=>some (decide ((x4.gives.length:Int)>3)))).bind λv7=>(bif v7 then(some false).map λa=>.inr (.inr a)else some (.inl (i64.wrap (v5+1))))else some (.inr (.inl ())))
def M7(a0:fP)(a1:aG):Option Bool:=
 dP (iter (V7 a0) n 0) λ()=>dP (iter (V8 a0) n 0) λ()=>dP (iter (Ew a1) n 0) λ()=>(M5 n (bT.mk a0.cm a0.cd a0.ca a0.bm a0.co a0.ci a0.cD a0.cj)).bind λr1=>(bif r1 then(bif decide ((a0.land.length:Int)<=3)then(bif decide ((a0.cw.length:Int)<=3)then(bif decide ((a0.built.length:Int)<=4)then(bif decide ((a1.phases.length:Int)<=3)then(M6 n a1).bind λr2=>some (decide (r2<=60))else some false)else some false)else some false)else some false)else some false)
def V9(a0:aG):Stp (Int×(List ay)) (List ay)
 |(v1,v2)=>(bif decide (v1<a0.phases.length)then(bz a0.phases v1).bind λx1=>ck (bP v2.length v2.length x1.az.length x1.az.length 72)<|jM (v2++x1.az) λr1=>ck (aE r1.length r1.length)<|some (.inl ((i64.wrap (v1+1)),r1))else ck (aE v2.length v2.length)<|some (.inr v2))
def HY(a0:aG):Option (List ay):=
 ck (aE 0 ([]:List ay).length)<|(iter (V9 a0) n (0,[])).bind λw1=>ck (aE (sub w1 0 w1.length).length w1.length)<|some (sub w1 0 w1.length)
def xH(n:Nat)(a0:List bD):Stp Int (Unit⊕Int)
 |v1=>(bif decide (v1<a0.length)then(bz a0 v1).bind λx1=>(bif (ByteArray.toList x1.name==ByteArray.toList (⟨#[102,108,111,111,114]⟩))then(bz a0 v1).bind λx2=>(some x2.n).map λa=>.inr (.inr a)else some (.inl (i64.wrap (v1+1))))else some (.inr (.inl ())))
def Cs(a0:List bD):Option Int:=
 dP (iter (xH n a0) n 0) λ()=>some (-1)
def iV(r1:Bool)(r4:List ay):Stp Int (Unit⊕Bool)
 |v2=>(bif decide (v2<(r4.length:Int))then ck (ct v2 r4.length)<|(bz r4 ((0:Nat)+v2:Int)).bind λx1=>(bif x1.extra then(some r1).map λa=>.inr (.inr a)else some (.inl (i64.wrap (v2+1))))else some (.inr (.inl ())))
def qg(a0:bT)(a1:iK)(a2:aG)(a3:List Int):Option Bool:=
 (Jr n).bind λr1=>(ck (aE (sub ([a1]:List iK) 0 1).length 1)<|(M7 n (fP.mk a0.defs a0.tables a0.zones a0.rules a0.caps a0.views a0.sm a0.hours (sub ([a1]:List iK) 0 1) ([]) ([]) ([]) ([])) a2).bind λr2=>(bif (!r2)then some true else(bif decide ((a3.length:Int)>10)then some true else(eG n a0 a1 a2).bind λr3=>some (!r3)))).bind λv1=>(bif v1 then some r1 else(HY n a2).bind λr4=>dP (iter (iV r1 r4) n (0:Int)) λ()=>(gD n a2 a3).bind λr5=>(bif (r5.2.2 !=0)then(bif r1 then some (r5.2.2==1)else some false)else(jk n a0 a1 a2).bind λr6=>ck (aE (sub r6 0 r6.length).length r6.length)<|(Cs n (sub r6 0 r6.length)).bind λr7=>(jk n a0 a1 r5.1).bind λr8=>ck (aE (sub r8 0 r8.length).length r8.length)<|(Cs n (sub r8 0 r8.length)).bind λr9=>(bif r1 then(eG n a0 a1 r5.1).bind λwi=>(bif wi then(bif decide (r7>=0)then some (r9==((i64.wrap (r7-r5.2.1)):Int))else some false)else some false)else some false)))
end
end Go.Proofs
