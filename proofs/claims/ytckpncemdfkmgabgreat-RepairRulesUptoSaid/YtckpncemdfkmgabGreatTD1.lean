import Derived.Test.YtckpncemdfkmgabGreatTBase
open Go.IntKind (i64)
namespace Go.Proofs
open Go.Gb Go.RowKit
noncomputable section
variable (n:Nat)
def Zy(a0:ByteArray)(a1:Int):Option bP:=
 ck (be (sub ([(bU.mk 1 0 a0 (⟨#[]⟩) ([])),(bU.mk 0 a1 (⟨#[]⟩) (⟨#[]⟩) ([]))]:List bU) 0 2).length 2)<|some (bP.mk (⟨#[114]⟩) ([]) ([]) 0 0 0 false 0 12 0 (⟨#[]⟩) (⟨#[]⟩) (sub ([(bU.mk 1 0 a0 (⟨#[]⟩) ([])),(bU.mk 0 a1 (⟨#[]⟩) (⟨#[]⟩) ([]))]:List bU) 0 2) 0 0 0 0 0 0 0)
def yD(a0:Int):Option (eY×aG):=
 ck (be (sub ([(au.mk 0 0 9 9)]:List au) 0 1).length 1)<|(Zy (⟨#[104,101,105,103,104,116]⟩) a0).bind λr1=>ck (be (sub ([(aC.mk 1 1 5 6 0 10 1 0 false)]:List aC) 0 1).length 1)<|ck (be (sub ([r1]:List bP) 0 1).length 1)<|ck (be (sub ([(jN.mk 1 0 (sub ([(au.mk 0 0 9 9)]:List au) 0 1) ([]))]:List jN) 0 1).length 1)<|ck (be (sub ([(eH.mk (sub ([(aC.mk 1 1 5 6 0 10 1 0 false)]:List aC) 0 1) ([]))]:List eH) 0 1).length 1)<|some ((eY.mk ([]) ([]) ([]) (sub ([r1]:List bP) 0 1) ([]) ([]) ([]) 0 (sub ([(jN.mk 1 0 (sub ([(au.mk 0 0 9 9)]:List au) 0 1) ([]))]:List jN) 0 1) ([]) ([]) ([]) ([])),(aG.mk 1 (sub ([(eH.mk (sub ([(aC.mk 1 1 5 6 0 10 1 0 false)]:List aC) 0 1) ([]))]:List eH) 0 1)))
def AA(a0:List au):Option (List au):=
 (bif a0.isEmpty then(both (some []) (ck (bL ([]:List au).length 0 a0.length a0.length 32)<|jy ([]++a0) λr1=>ck (be (sub r1 0 r1.length).length r1.length)<|some (sub r1 0 r1.length)))else ck (bL ([]:List au).length 0 a0.length a0.length 32)<|jy ([]++a0) λr2=>ck (be (sub r2 0 r2.length).length r2.length)<|some (sub r2 0 r2.length))
def tF(a0:List Int):Option (List Int):=
 (bif a0.isEmpty then(both (some []) (ck (bL ([]:List Int).length 0 a0.length a0.length 8)<|jy ([]++a0) λr1=>ck (be (sub r1 0 r1.length).length r1.length)<|some (sub r1 0 r1.length)))else ck (bL ([]:List Int).length 0 a0.length a0.length 8)<|jy ([]++a0) λr2=>ck (be (sub r2 0 r2.length).length r2.length)<|some (sub r2 0 r2.length))
def MF(a0:jN):Option jN:=
 (AA a0.area).bind λr1=>(tF a0.from_).bind λr2=>ck (be (sub r1 0 r1.length).length r1.length)<|ck (be (sub r2 0 r2.length).length r2.length)<|some (jN.mk a0.id a0.owner (sub r1 0 r1.length) (sub r2 0 r2.length))
def Ec(a0:List jN)(a1:Int):Stp Int (Unit⊕(jN×Bool))
 |v1=>(bif decide (v1<a0.length)then(b7 a0 v1).bind λx1=>(bif (x1.id==a1)then(MF x1).bind λr1=>(some (r1,true)).map λa=>.inr (.inr a)else some (.inl (i64.wrap (v1+1))))else some (.inr (.inl ())))
def MH(a0:List jN)(a1:Int):Option (jN×Bool):=
 dS (iter (Ec a0 a1) n 0) λ()=>some ((jN.mk 0 0 ([]) ([])),false)
def nK(a0:aG)(a1:Int)(a2:Int):Stp (Int×(List aC)) (List aC)
 |(v1,v2)=>(bif decide (v1<a0.phases.length)then((b7 a0.phases v1).bind λx1=>((bif decide (v1>=a1)then some (decide (v1<a2))else some false)).bind λv3=>(bif v3 then ck (bL v2.length v2.length x1.aE.length x1.aE.length 72)<|jy (v2++x1.aE) λr1=>ck (be r1.length r1.length)<|some r1 else ck (be v2.length v2.length)<|some v2):Option ((List aC))).bind λv4=>ck (be v4.length v4.length)<|some (.inl ((i64.wrap (v1+1)),v4))else ck (be v2.length v2.length)<|some (.inr v2))
def nW(a0:aG)(a1:Int)(a2:Int):Option (List aC):=
 ck (be 0 ([]:List aC).length)<|(iter (nK a0 a1 a2) n (0,[])).bind λw1=>ck (be (sub w1 0 w1.length).length w1.length)<|some (sub w1 0 w1.length)
def vT(a0:aG):Option (List aC):=
 (nW n a0 0 a0.phases.length).bind λr1=>ck (be (sub r1 0 r1.length).length r1.length)<|some (sub r1 0 r1.length)
def oP(a0:au):Option Bool:=
 (bif decide (0<=a0.x0)then(bif decide (a0.x0<a0.x1)then(bif decide (a0.x1<=1048576)then(bif decide (0<=a0.y0)then(bif decide (a0.y0<a0.y1)then some (decide (a0.y1<=1048576))else some false)else some false)else some false)else some false)else some false)
def fQ(a0:aC):Option Bool:=
 ((oP (au.mk a0.bm a0.bz a0.bk a0.bx)).bind λr1=>(bif (!r1)then some true else(bif decide (a0.cz<0)then some true else(bif decide (a0.cz>=a0.cC)then some true else some (decide (a0.cC>4096)))))).bind λv1=>(bif v1 then some false else((bif (a0.use !=0)then some (a0.units !=0)else some false)).bind λv2=>(bif v2 then some false else(bif decide (a0.use>=0)then(bif decide (a0.use<6)then(bif decide (a0.units>=0)then some (decide (a0.units<=1048576))else some false)else some false)else some false)))
def xU(a0:au):Option (au×Bool):=
 (oP a0).bind λr1=>(bif r1 then some (a0,true)else some ((au.mk 0 0 0 0),false))
def rY(a0:au)(a1:au):Option (au×Bool):=
 ((oP a0).bind λr1=>(bif (!r1)then some true else(oP a1).bind λr2=>some (!r2))).bind λv1=>(bif v1 then some ((au.mk 0 0 0 0),false)else(xU (au.mk (max a0.x0 a1.x0) (max a0.y0 a1.y0) (min a0.x1 a1.x1) (min a0.y1 a1.y1))).bind λr3=>some (r3.1,r3.2))
def wY(a0:yp)(a1:yp):Option Bool:=
 (rY (au.mk a0.mC a0.mz a0.mA a0.my) (au.mk a1.mC a1.mz a1.mA a1.my)).bind λr1=>(bif r1.2 then(bif decide (a0.z0<a1.z1)then some (decide (a1.z0<a0.z1))else some false)else some false)
def qZ(a0:aC)(a1:aC):Option Bool:=
 (wY (yp.mk a1.bm a1.bz a1.bk a1.bx a1.cz a1.cC) (yp.mk a0.bm a0.bz a0.bk a0.bx a0.cz a0.cC)).bind λr1=>some r1
def Ed(a0:List aC)(a1:(aC×Unit)->Option Bool):Stp Int (Unit⊕Int)
 |v1=>(bif decide (v1<a0.length)then(b7 a0 v1).bind λx1=>(a1 (x1,())).bind λr1=>(bif r1 then(some v1).map λa=>.inr (.inr a)else some (.inl (i64.wrap (v1+1))))else some (.inr (.inl ())))
def qx(a0:List aC)(a1:(aC×Unit)->Option Bool):Option Int:=
 dS (iter (Ed a0 a1) n 0) λ()=>some (-1)
def gu(a0:List aC)(a1:(aC×Unit)->Option Bool):Option Bool:=
 (qx n a0 a1).bind λr1=>some (decide (r1>=0))
def Ee(a0:Int):Option Bool:=
 (bif decide (a0>=97)then some (decide (a0<=122))else some false)
def zU(a0:ByteArray)(a1:(Int×Unit)->Option Bool):Stp Int Int
 |v1=>((bif decide (v1<a0.size)then(QR a0 v1).bind λx1=>(a1 (x1,())).bind λr1=>some r1 else some false)).bind λv2=>(bif v2 then some (.inl (i64.wrap (v1+1)))else some (.inr v1))
def MI(a0:ByteArray)(a1:(Int×Unit)->Option Bool):Option Int:=
 (iter (zU a0 a1) n 0).bind λw1=>some w1
def Pg(a0:Int):Option Bool:=
 (bif decide (a0>=48)then some (decide (a0<=57))else some false)
def zV(a0:Int):Option Bool:=
 (Ee a0).bind λr1=>(bif r1 then some true else(Pg a0).bind λr2=>some r2)
def MJ(a0:ByteArray):Option Bool:=
 ((bif (ByteArray.toList a0==ByteArray.toList (⟨#[]⟩))then some true else(QR a0 0).bind λx1=>(Ee x1).bind λr1=>(bif (!r1)then some true else some (decide ((a0.size:Int)>20))))).bind λv1=>(bif v1 then some false else(MI n a0 (λ (y1:Int×Unit)=>zV y1.1)).bind λr2=>some (r2==a0.size))
def strings_Contains(a0 a1:ByteArray):Option Bool:=ck (Nat.ble a0.size 4000000)<|some (Lib.contains a0.data.toList a1.data.toList)
def vU(a0:ByteArray):Option Bool:=
 (MJ n a0).bind λr1=>(bif r1 then ck (UG (⟨#[32]⟩) a0)<|ck (UG ((⟨#[32]⟩)++a0) (⟨#[32]⟩))<|(strings_Contains (⟨#[32,97,110,100,32,97,112,97,114,116,32,98,97,115,101,32,99,97,112,32,100,101,102,105,110,101,32,101,108,115,101,32,101,120,99,101,112,116,32,102,114,111,109,32,103,114,97,99,101,32,104,111,117,114,115,32,105,102,32,105,110,32,108,101,97,115,116,32,110,111,116,32,111,114,32,111,118,101,114,108,97,121,32,112,108,97,110,101,32,114,117,108,101,32,115,108,111,112,101,32,115,117,110,32,116,97,98,108,101,32,116,104,101,110,32,117,110,116,105,108,32,117,115,101,115,32,118,97,114,121,32,118,105,101,119,32,122,111,110,101,32]⟩) (((⟨#[32]⟩)++a0)++(⟨#[32]⟩))).bind λr2=>some (!r2)else some false)
def lD(r1:List aC):Stp Int (Unit⊕Bool)
 |v2=>(bif decide (v2<(r1.length:Nat))then ck (cx v2 r1.length)<|(b7 r1 ((0:Nat)+v2:Int)).bind λx1=>((fQ x1).bind λr2=>(bif (!r2)then some true else ck (sI 0 v2 r1.length)<|ck (be (sub r1 0 (v2.toNat)).length (v2.toNat))<|(gu n (sub r1 0 (v2.toNat)) (λ (y1:aC×Unit)=>qZ y1.1 x1)).bind λr3=>some r3)).bind λv3=>(bif v3 then(some false).map λa=>.inr (.inr a)else some (.inl (i64.wrap (v2+1))))else some (.inr (.inl ())))
def lF(x2:eH):Stp (Int×(List (ByteArray×Bool))) (Unit⊕(Int⊕(Unit⊕Bool)))
 |(v5,v6)=>(bif decide (v5<x2.gives.length)then(b7 x2.gives v5).bind λx3=>((bif ((gZ fW x3.name v6).getD false)then some true else(vU n x3.name).bind λr4=>(bif (!r4)then some true else(bif decide (x3.n<0)then some true else some (decide (x3.n>1073741824)))))).bind λv7=>(bif v7 then((some false).map λa=>.inr (.inr a)).map λa=>.inr (.inr a)else some (.inl ((i64.wrap (v5+1)),(Fj fW x3.name true v6))))else some (.inr (.inl ())))
def lG(a0:aG):Stp Int (Unit⊕Bool)
 |v4=>(bif decide (v4<a0.phases.length)then(b7 a0.phases v4).bind λx2=>dS (iter (lF n x2) n (0,([]:(List (ByteArray×Bool))))) λ()=>(bif decide ((x2.gives.length:Int)>30)then(some false).map λa=>.inr (.inr a)else some (.inl (i64.wrap (v4+1))))else some (.inr (.inl ())))
def lQ(a0:aG):Option Bool:=
 (vT n a0).bind λr1=>((bif decide (a0.lot<0)then some true else(bif decide (a0.lot>1073741824)then some true else(bif decide ((a0.phases.length:Int)<1)then some true else(bif decide ((a0.phases.length:Int)>8)then some true else(bif decide ((r1.length:Int)<1)then some true else some (decide ((r1.length:Int)>40)))))))).bind λv1=>(bif v1 then some false else dS (iter (lD n r1) n 0) λ()=>dS (iter (lG n a0) n 0) λ()=>some true)
def MK(a0:Unit)(a1:Int):Option (List au):=
 (bif decide (a1<0)then none else(bif (decide ((i64.wrap (a1-(i64.wrap (0-0))))>0))then ck (wC (i64.wrap (a1-(i64.wrap (0-0)))) 32)<|ck (sI 0 0 ((i64.wrap (a1-(i64.wrap (0-0)))).toNat))<|ck (be (sub (List.replicate (i64.wrap (a1-(i64.wrap (0-0)))).toNat (au.mk 0 0 0 0)) 0 0).length 0)<|some (sub (List.replicate (i64.wrap (a1-(i64.wrap (0-0)))).toNat (au.mk 0 0 0 0)) 0 0)else some []))
def ML(a0:List (List au)):Stp (Int×Int) Int
 |(v1,v2)=>(bif decide (v2<a0.length)then(b7 a0 v2).bind λx1=>(bif decide ((i64.wrap (v1+x1.length))<0)then none else some (.inl ((i64.wrap (v1+x1.length)),(i64.wrap (v2+1)))))else some (.inr v1))
def MN(a0:List (List au)):Stp (Int×(List au)) (List au)
 |(v3,v4)=>(bif decide (v3<a0.length)then(b7 a0 v3).bind λx2=>ck (bL v4.length v4.length x2.length x2.length 32)<|jy (v4++x2) λr2=>ck (be r2.length r2.length)<|some (.inl ((i64.wrap (v3+1)),r2))else ck (be v4.length v4.length)<|some (.inr v4))
def yE(a0:List (List au)):Option (List au):=
 (iter (ML a0) n (0,0)).bind λw1=>(MK () w1).bind λr1=>ck (be r1.length r1.length)<|(iter (MN a0) n (0,r1)).bind λw2=>ck (be (sub w2 0 w2.length).length w2.length)<|some (sub w2 0 w2.length)
def pF(_:Nat)(a0:List Int):Option (List Int):=NL a0
def MO(a0:List Int)(v1:Int):Stp (Int×Int×(List Int)) (Int×(List Int))
 |(v2,v3,v4)=>(bif decide (v3<((a0.length-v1.toNat):Nat))then(ck (cx v3 (a0.length-v1.toNat))<|(b7 v4 (((0+v1.toNat):Nat)+v3:Int)).bind λx3=>ck (cx (i64.wrap (v3-1)) (a0.length-v1.toNat))<|(b7 v4 (((0+v1.toNat):Nat)+(i64.wrap (v3-1)):Int)).bind λx4=>(bif (x3 !=x4)then ck (cx v3 (a0.length-v1.toNat))<|(b7 v4 (((0+v1.toNat):Nat)+v3:Int)).bind λx5=>ck (cx v2 a0.length)<|(b7 v4 ((0:Nat)+v2:Int)).bind λx6=>some ((i64.wrap (v2+1)),(v4.set ((0:Nat)+v2:Int).toNat x5))else some (v2,v4)):Option (Int×(List Int))).bind λ(v5,v6)=>some (.inl (v5,(i64.wrap (v3+1)),v6))else some (.inr (v2,v4)))
def MP(a0:List Int):Stp Int (Unit⊕(Unit×(List Int)))
 |v1=>(bif decide (v1<(a0.length:Nat))then ck (cx v1 a0.length)<|(b7 a0 ((0:Nat)+v1:Int)).bind λx1=>ck (cx (i64.wrap (v1-1)) a0.length)<|(b7 a0 ((0:Nat)+(i64.wrap (v1-1)):Int)).bind λx2=>(bif (x1==x2)then ck (sI v1 (a0.length:Nat) a0.length)<|(iter (MO a0 v1) n (v1,1,a0)).bind λ(w1,w2)=>ck (sI w1 (a0.length:Nat) a0.length)<|ck (sI 0 w1 a0.length)<|(ck (be (w1.toNat) (w1.toNat))<|ck (be (sub (w2.take (0+w1.toNat)) 0 (w1.toNat)).length (w1.toNat))<|some ((),(sub (w2.take (0+w1.toNat)) 0 (w1.toNat)))).map λa=>.inr (.inr a)else some (.inl (i64.wrap (v1+1))))else some (.inr (.inl ())))
def pG(a0:List Int):Option (Unit×(List Int)):=
 (bif decide ((a0.length:Int)<2)then ck (be a0.length a0.length)<|ck (be (sub a0 0 a0.length).length a0.length)<|some ((),(sub a0 0 a0.length))else dS (iter (MP n a0) n 1) λ()=>ck (be a0.length a0.length)<|ck (be (sub a0 0 a0.length).length a0.length)<|some ((),(sub a0 0 a0.length)))
def uU(_:Nat)(a0:List aK)(a1:(aK×aK×Unit)->Option Int):Option (List aK):=Zv a0 a1
def cmp_isNaN_int(a0:Int):Option Bool:=
 some (a0 !=a0)
def cmp_Compare_int(a0:Int)(a1:Int):Option Int:=
 (cmp_isNaN_int a0).bind λr1=>(cmp_isNaN_int a1).bind λr2=>(bif r1 then(bif r2 then some 0 else some (-1))else(bif r2 then some 1 else(bif decide (a0<a1)then some (-1)else(bif decide (a0>a1)then some 1 else some 0))))
def wZ(a0:aK)(a1:aK):Option Int:=
 (cmp_Compare_int a0.from_ a1.from_).bind λr1=>some r1
def tH(a0:List au)(a1:Int):Stp (Int×(List aK)) (List aK)
 |(v1,v2)=>(bif decide (v1<a0.length)then((b7 a0 v1).bind λx1=>((bif decide (x1.x0<=a1)then some (decide (a1<x1.x1))else some false)).bind λv3=>(bif v3 then ck (bL v2.length v2.length (sub ([(aK.mk x1.y0 x1.y1)]:List aK) 0 1).length 1 16)<|jy (v2++(sub ([(aK.mk x1.y0 x1.y1)]:List aK) 0 1)) λr1=>ck (be r1.length r1.length)<|some r1 else ck (be v2.length v2.length)<|some v2):Option ((List aK))).bind λv4=>ck (be v4.length v4.length)<|some (.inl ((i64.wrap (v1+1)),v4))else ck (be v2.length v2.length)<|some (.inr v2))
def tJ(w1:List aK)(r2:List aK):Stp (Int×(List aK)) (List aK)
 |(v5,v6)=>(bif decide (v5<(w1.length:Nat))then(ck (cx v5 w1.length)<|(b7 r2 ((0:Nat)+v5:Int)).bind λx2=>((bif decide ((v6.length:Int)>0)then ck (cx (i64.wrap ((v6.length:Nat)-1)) v6.length)<|(b7 v6 ((0:Nat)+(i64.wrap ((v6.length:Nat)-1)):Int)).bind λx3=>some (decide (x2.from_<=x3.to))else some false)).bind λv7=>(bif v7 then ck (cx (i64.wrap ((v6.length:Nat)-1)) v6.length)<|(b7 v6 ((0:Nat)+(i64.wrap ((v6.length:Nat)-1)):Int)).bind λx4=>ck (cx (i64.wrap ((v6.length:Nat)-1)) v6.length)<|(b7 v6 ((0:Nat)+(i64.wrap ((v6.length:Nat)-1)):Int)).bind λx5=>ck (be v6.length (v6.set ((0:Nat)+(i64.wrap ((v6.length:Nat)-1)):Int).toNat (aK.mk x5.from_ (max x4.to x2.to))).length)<|some (v6.set ((0:Nat)+(i64.wrap ((v6.length:Nat)-1)):Int).toNat (aK.mk x5.from_ (max x4.to x2.to)))else ck (bL v6.length v6.length (sub ([x2]:List aK) 0 1).length 1 16)<|jy (v6++(sub ([x2]:List aK) 0 1)) λr3=>ck (be r3.length r3.length)<|some r3):Option ((List aK))).bind λv8=>ck (be v8.length v8.length)<|some (.inl ((i64.wrap (v5+1)),v8))else ck (be v6.length v6.length)<|some (.inr v6))
def Jk(a0:List au)(a1:Int):Option (List aK):=
 ck (be 0 ([]:List aK).length)<|(iter (tH a0 a1) n (0,[])).bind λw1=>ck (be w1.length w1.length)<|(uU n w1 (λ (y1:aK×aK×Unit)=>wZ y1.1 y1.2.1)).bind λr2=>ck (be 0 ([]:List aK).length)<|(iter (tJ w1 r2) n (0,[])).bind λw2=>ck (be (sub w2 0 w2.length).length w2.length)<|some (sub w2 0 w2.length)
def tK(r1:List au):Stp (Int×(List Int)) (List Int)
 |(v1,v2)=>(bif decide (v1<(r1.length:Nat))then ck (cx v1 r1.length)<|(b7 r1 ((0:Nat)+v1:Int)).bind λx1=>ck (bL v2.length v2.length (sub ([x1.x0,x1.x1]:List Int) 0 2).length 2 8)<|jy (v2++(sub ([x1.x0,x1.x1]:List Int) 0 2)) λr2=>ck (be r2.length r2.length)<|some (.inl ((i64.wrap (v1+1)),r2))else ck (be v2.length v2.length)<|some (.inr v2))
def tL(r1:List au)(r4:Unit×(List Int)):Stp (Int×(List bQ)) (List bQ)
 |(v3,v4)=>(bif decide (v3<(r4.2.length:Nat))then ck (cx (i64.wrap (v3-1)) r4.2.length)<|(b7 r4.2 ((0:Nat)+(i64.wrap (v3-1)):Int)).bind λx2=>ck (cx v3 r4.2.length)<|(b7 r4.2 ((0:Nat)+v3:Int)).bind λx3=>ck (cx (i64.wrap (v3-1)) r4.2.length)<|(b7 r4.2 ((0:Nat)+(i64.wrap (v3-1)):Int)).bind λx4=>ck (be (sub r1 0 r1.length).length r1.length)<|(Jk n (sub r1 0 r1.length) x4).bind λr5=>ck (be (sub r5 0 r5.length).length r5.length)<|ck (bL v4.length v4.length (sub ([(bQ.mk x2 x3 (sub r5 0 r5.length))]:List bQ) 0 1).length 1 40)<|jy (v4++(sub ([(bQ.mk x2 x3 (sub r5 0 r5.length))]:List bQ) 0 1)) λr6=>ck (be r6.length r6.length)<|some (.inl ((i64.wrap (v3+1)),r6))else ck (be v4.length v4.length)<|some (.inr v4))
def oD(a0:List (List au)):Option (List bQ):=
 (yE n a0).bind λr1=>ck (be 0 ([]:List Int).length)<|(iter (tK r1) n (0,[])).bind λw1=>ck (be w1.length w1.length)<|(pF n w1).bind λr3=>ck (be w1.length r3.length)<|(pG n r3).bind λr4=>ck (be 0 ([]:List bQ).length)<|(iter (tL n r1 r4) n (1,[])).bind λw2=>ck (be (sub w2 0 w2.length).length w2.length)<|some (sub w2 0 w2.length)
def Ph(a0:List aK)(a1:List aK):Stp Int (Unit⊕Bool)
 |v1=>(bif decide (v1<a0.length)then(b7 a0 v1).bind λx1=>(b7 a1 v1).bind λx2=>(bif (!((x1.from_==x2.from_)&&((x1.to==x2.to)&&true)))then(some false).map λa=>.inr (.inr a)else some (.inl (i64.wrap (v1+1))))else some (.inr (.inl ())))
def vw(a0:List aK)(a1:List aK):Option Bool:=
 (bif (a0.length !=(a1.length:Int))then some false else dS (iter (Ph a0 a1) n 0) λ()=>some true)
def rZ(a0:List bQ)(v1:Int):Stp Int Int
 |v3=>((bif decide (v3<a0.length)then(b7 a0 v3).bind λx1=>(b7 a0 v1).bind λx2=>(vw n x1.column x2.column).bind λr1=>some r1 else some false)).bind λv4=>(bif v4 then some (.inl (i64.wrap (v3+1)))else some (.inr v3))
def vV(a0:List bQ)(v1:Int)(w1:Int)(x3:bQ):Stp (Int×(List au)) (List au)
 |(v5,v6)=>(bif decide (v5<x3.column.length)then(b7 x3.column v5).bind λx4=>(b7 a0 v1).bind λx5=>(b7 a0 (i64.wrap (w1-1))).bind λx6=>ck (bL v6.length v6.length (sub ([(au.mk x5.x0 x4.from_ x6.x1 x4.to)]:List au) 0 1).length 1 32)<|jy (v6++(sub ([(au.mk x5.x0 x4.from_ x6.x1 x4.to)]:List au) 0 1)) λr2=>ck (be r2.length r2.length)<|some (.inl ((i64.wrap (v5+1)),r2))else ck (be v6.length v6.length)<|some (.inr v6))
def vW(a0:List bQ):Stp (Int×(List au)) (List au)
 |(v1,v2)=>(bif decide (v1<a0.length)then(iter (rZ n a0 v1) n (i64.wrap (v1+1))).bind λw1=>(b7 a0 v1).bind λx3=>ck (be v2.length v2.length)<|(iter (vV a0 v1 w1 x3) n (0,v2)).bind λw2=>ck (be w2.length w2.length)<|some (.inl (w1,w2))else ck (be v2.length v2.length)<|some (.inr v2))
def Ht(a0:List bQ):Option (List au):=
 ck (be 0 ([]:List au).length)<|(iter (vW n a0) n (0,[])).bind λw3=>ck (be (sub w3 0 w3.length).length w3.length)<|some (sub w3 0 w3.length)
def yF(a0:List au):Option ((List au)×Int):=
 (bif decide ((a0.length:Int)>200)then some ([],6)else some (a0,0))
def MQ(a0:List au):Stp Int (Unit⊕((List au)×Int))
 |v1=>(bif decide (v1<a0.length)then(b7 a0 v1).bind λx1=>(oP x1).bind λr1=>(bif (!r1)then(some ([],1)).map λa=>.inr (.inr a)else some (.inl (i64.wrap (v1+1))))else some (.inr (.inl ())))
def RE(a0:List au):Option ((List au)×Int):=
 dS (iter (MQ a0) n 0) λ()=>(bif decide ((a0.length:Int)>400)then some ([],6)else ck (be (sub ([a0]:List (List au)) 0 1).length 1)<|(oD n (sub ([a0]:List (List au)) 0 1)).bind λr2=>ck (be (sub r2 0 r2.length).length r2.length)<|(Ht n (sub r2 0 r2.length)).bind λr3=>ck (be (sub r3 0 r3.length).length r3.length)<|(yF (sub r3 0 r3.length)).bind λr4=>some (r4.1,r4.2))
def Pj(a0:List au)(a1:List au):Stp Int (Unit⊕Bool)
 |v1=>(bif decide (v1<a0.length)then(b7 a0 v1).bind λx1=>(b7 a1 v1).bind λx2=>(bif (!((x1.x0==x2.x0)&&((x1.y0==x2.y0)&&((x1.x1==x2.x1)&&((x1.y1==x2.y1)&&true)))))then(some false).map λa=>.inr (.inr a)else some (.inl (i64.wrap (v1+1))))else some (.inr (.inl ())))
def oF(a0:List au)(a1:List au):Option Bool:=
 (bif (a0.length !=(a1.length:Int))then some false else dS (iter (Pj a0 a1) n 0) λ()=>some true)
def nX(a0:List au):Option Bool:=
 (RE n a0).bind λr1=>(bif (r1.2==0)then(oF n r1.1 a0).bind λr2=>some r2 else some false)
def lT(a0:List bQ)(a1:Int)(a2:(bQ×Int×Unit)->Option Int):Stp (Int×Int) Int
 |(v1,v2)=>(bif decide (v1<v2)then ck (decide (0<=1)&&decide (1<=IntKind.u64.bits))<|(b7 a0 (i64.wrap ((IntKind.u64.wrap (i64.wrap (v1+v2)))/2 ^ (1:Int).toNat))).bind λx1=>(a2 (x1,a1,())).bind λr1=>(bif decide (r1<0)then some (.inl ((i64.wrap ((i64.wrap ((IntKind.u64.wrap (i64.wrap (v1+v2)))/2 ^ (1:Int).toNat))+1)),v2))else some (.inl (v1,(i64.wrap ((IntKind.u64.wrap (i64.wrap (v1+v2)))/2 ^ (1:Int).toNat)))))else some (.inr v1))
def jq(a0:List bQ)(a1:Int)(a2:(bQ×Int×Unit)->Option Int):Option (Int×Bool):=
 (iter (lT a0 a1 a2) n (0,a0.length)).bind λw1=>(bif decide (w1<a0.length)then(b7 a0 w1).bind λx2=>(a2 (x2,a1,())).bind λr2=>some (w1,(r2==0))else some (w1,false))
def vX(a0:bQ)(a1:Int):Option Int:=
 (bif decide (a0.x1<=a1)then some (-1)else some 1)
def VN(a0:List bQ)(a1:Int):Option (List aK):=
 (jq n a0 a1 (λ (y1:bQ×Int×Unit)=>vX y1.1 y1.2.1)).bind λr1=>((bif decide (r1.1<a0.length)then(b7 a0 r1.1).bind λx1=>some (decide (x1.x0<=a1))else some false)).bind λv1=>(bif v1 then(b7 a0 r1.1).bind λx2=>some x2.column else some [])
def MR(a0:Unit)(a1:Int):Option (List aK):=
 (bif decide (a1<0)then none else(bif (decide ((i64.wrap (a1-(i64.wrap (0-0))))>0))then ck (wC (i64.wrap (a1-(i64.wrap (0-0)))) 16)<|ck (sI 0 0 ((i64.wrap (a1-(i64.wrap (0-0)))).toNat))<|ck (be (sub (List.replicate (i64.wrap (a1-(i64.wrap (0-0)))).toNat (aK.mk 0 0)) 0 0).length 0)<|some (sub (List.replicate (i64.wrap (a1-(i64.wrap (0-0)))).toNat (aK.mk 0 0)) 0 0)else some []))
def MS(a0:List (List aK)):Stp (Int×Int) Int
 |(v1,v2)=>(bif decide (v2<a0.length)then(b7 a0 v2).bind λx1=>(bif decide ((i64.wrap (v1+x1.length))<0)then none else some (.inl ((i64.wrap (v1+x1.length)),(i64.wrap (v2+1)))))else some (.inr v1))
def MU(a0:List (List aK)):Stp (Int×(List aK)) (List aK)
 |(v3,v4)=>(bif decide (v3<a0.length)then(b7 a0 v3).bind λx2=>ck (bL v4.length v4.length x2.length x2.length 16)<|jy (v4++x2) λr2=>ck (be r2.length r2.length)<|some (.inl ((i64.wrap (v3+1)),r2))else ck (be v4.length v4.length)<|some (.inr v4))
def yG(a0:List (List aK)):Option (List aK):=
 (iter (MS a0) n (0,0)).bind λw1=>(MR () w1).bind λr1=>ck (be r1.length r1.length)<|(iter (MU a0) n (0,r1)).bind λw2=>ck (be (sub w2 0 w2.length).length w2.length)<|some (sub w2 0 w2.length)
def mR(a0:List aK)(a1:Int)(a2:(aK×Int×Unit)->Option Int):Stp (Int×Int) Int
 |(v1,v2)=>(bif decide (v1<v2)then ck (decide (0<=1)&&decide (1<=IntKind.u64.bits))<|(b7 a0 (i64.wrap ((IntKind.u64.wrap (i64.wrap (v1+v2)))/2 ^ (1:Int).toNat))).bind λx1=>(a2 (x1,a1,())).bind λr1=>(bif decide (r1<0)then some (.inl ((i64.wrap ((i64.wrap ((IntKind.u64.wrap (i64.wrap (v1+v2)))/2 ^ (1:Int).toNat))+1)),v2))else some (.inl (v1,(i64.wrap ((IntKind.u64.wrap (i64.wrap (v1+v2)))/2 ^ (1:Int).toNat)))))else some (.inr v1))
def jH(a0:List aK)(a1:Int)(a2:(aK×Int×Unit)->Option Int):Option (Int×Bool):=
 (iter (mR a0 a1 a2) n (0,a0.length)).bind λw1=>(bif decide (w1<a0.length)then(b7 a0 w1).bind λx2=>(a2 (x2,a1,())).bind λr2=>some (w1,(r2==0))else some (w1,false))
def lU(a0:aK)(a1:Int):Option Int:=
 (bif decide (a0.to<=a1)then some (-1)else some 1)
def Cn(a0:List aK)(a1:Int):Option Bool:=
 (jH n a0 a1 (λ (y1:aK×Int×Unit)=>lU y1.1 y1.2.1)).bind λr1=>(bif decide (r1.1<a0.length)then(b7 a0 r1.1).bind λx1=>some (decide (x1.from_<=a1))else some false)
def vY(r1:List aK):Stp (Int×(List Int)) (List Int)
 |(v1,v2)=>(bif decide (v1<(r1.length:Nat))then ck (cx v1 r1.length)<|(b7 r1 ((0:Nat)+v1:Int)).bind λx1=>ck (bL v2.length v2.length (sub ([x1.from_,x1.to]:List Int) 0 2).length 2 8)<|jy (v2++(sub ([x1.from_,x1.to]:List Int) 0 2)) λr2=>ck (be r2.length r2.length)<|some (.inl ((i64.wrap (v1+1)),r2))else ck (be v2.length v2.length)<|some (.inr v2))
def vZ(a0:List aK)(a1:List aK)(a2:(Bool×Bool×Unit)->Option Bool)(r4:Unit×(List Int)):Stp (Int×(List aK)) (List aK)
 |(v3,v4)=>(bif decide (v3<(r4.2.length:Nat))then(ck (cx (i64.wrap (v3-1)) r4.2.length)<|(b7 r4.2 ((0:Nat)+(i64.wrap (v3-1)):Int)).bind λx2=>(Cn n a0 x2).bind λr5=>(Cn n a1 x2).bind λr6=>(a2 (r5,r6,())).bind λr7=>(bif (!r7)then ck (be v4.length v4.length)<|some v4 else((bif decide ((v4.length:Int)>0)then ck (cx (i64.wrap ((v4.length:Nat)-1)) v4.length)<|(b7 v4 ((0:Nat)+(i64.wrap ((v4.length:Nat)-1)):Int)).bind λx3=>some (x3.to==x2)else some false)).bind λv5=>(bif v5 then ck (cx v3 r4.2.length)<|(b7 r4.2 ((0:Nat)+v3:Int)).bind λx4=>ck (cx (i64.wrap ((v4.length:Nat)-1)) v4.length)<|(b7 v4 ((0:Nat)+(i64.wrap ((v4.length:Nat)-1)):Int)).bind λx5=>ck (be v4.length (v4.set ((0:Nat)+(i64.wrap ((v4.length:Nat)-1)):Int).toNat (aK.mk x5.from_ x4)).length)<|some (v4.set ((0:Nat)+(i64.wrap ((v4.length:Nat)-1)):Int).toNat (aK.mk x5.from_ x4))else ck (cx v3 r4.2.length)<|(b7 r4.2 ((0:Nat)+v3:Int)).bind λx6=>ck (bL v4.length v4.length (sub ([(aK.mk x2 x6)]:List aK) 0 1).length 1 16)<|jy (v4++(sub ([(aK.mk x2 x6)]:List aK) 0 1)) λr8=>ck (be r8.length r8.length)<|some r8)):Option ((List aK))).bind λv6=>ck (be v6.length v6.length)<|some (.inl ((i64.wrap (v3+1)),v6))else ck (be v4.length v4.length)<|some (.inr v4))
def Hu(a0:List aK)(a1:List aK)(a2:(Bool×Bool×Unit)->Option Bool):Option (List aK):=
 ck (be (sub ([a0,a1]:List (List aK)) 0 2).length 2)<|(yG n (sub ([a0,a1]:List (List aK)) 0 2)).bind λr1=>ck (be 0 ([]:List Int).length)<|(iter (vY r1) n (0,[])).bind λw1=>ck (be w1.length w1.length)<|(pF n w1).bind λr3=>ck (be w1.length r3.length)<|(pG n r3).bind λr4=>ck (be 0 ([]:List aK).length)<|(iter (vZ n a0 a1 a2 r4) n (1,[])).bind λw2=>ck (be (sub w2 0 w2.length).length w2.length)<|some (sub w2 0 w2.length)
def qK(a2:(Bool×Bool×Unit)->Option Bool)(r3:List bQ)(r4:List bQ)(r5:List bQ):Stp (Int×(List bQ)) (List bQ)
 |(v2,v3)=>(bif decide (v2<(r5.length:Nat))then ck (cx v2 r5.length)<|(b7 v3 ((0:Nat)+v2:Int)).bind λx1=>(VN n (sub r3 0 r3.length) x1.x0).bind λr6=>(VN n (sub r4 0 r4.length) x1.x0).bind λr7=>(Hu n r6 r7 a2).bind λr8=>ck (cx v2 r5.length)<|ck (be (sub r8 0 r8.length).length r8.length)<|(b7 v3 ((0:Nat)+v2:Int)).bind λx2=>some (.inl ((i64.wrap (v2+1)),(v3.set ((0:Nat)+v2:Int).toNat (bQ.mk x2.x0 x2.x1 (sub r8 0 r8.length)))))else some (.inr v3))
def Ef(a0:List au)(a1:List au)(a2:(Bool×Bool×Unit)->Option Bool):Option ((List au)×Int):=
 ((nX n a0).bind λr1=>(bif (!r1)then some true else(nX n a1).bind λr2=>some (!r2))).bind λv1=>(bif v1 then some ([],1)else ck (be (sub ([a0]:List (List au)) 0 1).length 1)<|(oD n (sub ([a0]:List (List au)) 0 1)).bind λr3=>ck (be (sub ([a1]:List (List au)) 0 1).length 1)<|(oD n (sub ([a1]:List (List au)) 0 1)).bind λr4=>ck (be (sub r3 0 r3.length).length r3.length)<|ck (be (sub r4 0 r4.length).length r4.length)<|ck (be (sub ([a0,a1]:List (List au)) 0 2).length 2)<|(oD n (sub ([a0,a1]:List (List au)) 0 2)).bind λr5=>(iter (qK n a2 r3 r4 r5) n (0,r5)).bind λw1=>ck (be (sub w1 0 r5.length).length r5.length)<|(Ht n (sub w1 0 r5.length)).bind λr9=>ck (be (sub r9 0 r9.length).length r9.length)<|(yF (sub r9 0 r9.length)).bind λvl=>some (vl.1,vl.2))
def xg(a0:Bool)(a1:Bool):Option Bool:=
 (bif a0 then some a1 else some false)
def Jl(a0:List au)(a1:List au):Option ((List au)×Int):=
 (Ef n a0 a1 (λ (y1:Bool×Bool×Unit)=>xg y1.1 y1.2.1)).bind λr1=>some (r1.1,r1.2)
def uV(a0:au):Option Int:=
 (xU a0).bind λr1=>some (i64.wrap ((i64.wrap (r1.1.x1-r1.1.x0))*(i64.wrap (r1.1.y1-r1.1.y0))))
def Eg(a0:List au):Stp (Int×Int) Int
 |(v1,v2)=>(bif decide (v2<a0.length)then(b7 a0 v2).bind λx1=>(uV x1).bind λr2=>some (.inl ((i64.wrap (v1+r2)),(i64.wrap (v2+1))))else some (.inr v1))
def MV(a0:List au):Option Int:=
 (nX n a0).bind λr1=>(bif (!r1)then some 0 else(iter (Eg a0) n (0,0)).bind λw1=>some w1)
def uW(a0:ji)(a1:bD):Option Bool:=
 some (ByteArray.toList a0.name==ByteArray.toList a1.name)
def JA(a0:List ji)(a1:(ji×Unit)->Option Bool):Stp Int (Unit⊕Int)
 |v1=>(bif decide (v1<a0.length)then(b7 a0 v1).bind λx1=>(a1 (x1,())).bind λr1=>(bif r1 then(some v1).map λa=>.inr (.inr a)else some (.inl (i64.wrap (v1+1))))else some (.inr (.inl ())))
def uX(a0:List ji)(a1:(ji×Unit)->Option Bool):Option Int:=
 dS (iter (JA a0 a1) n 0) λ()=>some (-1)
def mX(a0:List ji)(a1:(ji×Unit)->Option Bool):Option Bool:=
 (uX n a0 a1).bind λr1=>some (decide (r1>=0))
def kE(a1:jN)(r3:List aC):Stp Int (Unit⊕Bool)
 |v2=>(bif decide (v2<(r3.length:Nat))then ck (cx v2 r3.length)<|(b7 r3 ((0:Nat)+v2:Int)).bind λx1=>ck (be (sub ([(au.mk x1.bm x1.bz x1.bk x1.bx)]:List au) 0 1).length 1)<|(Jl n a1.area (sub ([(au.mk x1.bm x1.bz x1.bk x1.bx)]:List au) 0 1)).bind λr4=>((bif (r4.2 !=0)then some true else(MV n r4.1).bind λr5=>(uV (au.mk x1.bm x1.bz x1.bk x1.bx)).bind λr6=>some (decide (r5<r6)))).bind λv3=>(bif v3 then(some false).map λa=>.inr (.inr a)else some (.inl (i64.wrap (v2+1))))else some (.inr (.inl ())))
def kF(a0:cB)(x2:eH):Stp Int (Unit⊕(Int⊕(Unit⊕Bool)))
 |v5=>(bif decide (v5<x2.gives.length)then(b7 x2.gives v5).bind λx3=>(mX n a0.caps (λ (y1:ji×Unit)=>uW y1.1 x3)).bind λr7=>(bif (!r7)then((some false).map λa=>.inr (.inr a)).map λa=>.inr (.inr a)else some (.inl (i64.wrap (v5+1))))else some (.inr (.inl ())))
def kG(a0:cB)(a2:aG):Stp Int (Unit⊕Bool)
 |v4=>(bif decide (v4<a2.phases.length)then(b7 a2.phases v4).bind λx2=>dS (iter (kF n a0 x2) n 0) λ()=>some (.inl (i64.wrap (v4+1)))else some (.inr (.inl ())))
def kC(a0:cB)(a1:jN)(a2:aG):Option Bool:=
 ((lQ n a2).bind λr1=>(bif (!r1)then some true else(bif (a1.id !=a2.lot)then some true else(nX n a1.area).bind λr2=>some (!r2)))).bind λv1=>(bif v1 then some false else(vT n a2).bind λr3=>dS (iter (kE n a1 r3) n 0) λ()=>dS (iter (kG n a0 a2) n 0) λ()=>some true)
def oQ(a0:aG):Stp (Int×(List aC)) (List aC)
 |(v1,v2)=>(bif decide (v1<a0.phases.length)then(b7 a0.phases v1).bind λx1=>ck (bL v2.length v2.length x1.aE.length x1.aE.length 72)<|jy (v2++x1.aE) λr1=>ck (be r1.length r1.length)<|some (.inl ((i64.wrap (v1+1)),r1))else ck (be v2.length v2.length)<|some (.inr v2))
def tN(a0:aG):Option (List aC):=
 ck (be 0 ([]:List aC).length)<|(iter (oQ a0) n (0,[])).bind λw1=>ck (be (sub w1 0 w1.length).length w1.length)<|some (sub w1 0 w1.length)
def oU(a0:List eF):Stp (Int×(List jO)) (List jO)
 |(v1,v2)=>(bif decide (v1<a0.length)then(b7 a0 v1).bind λx1=>ck ((a0.length:Int) !=0)<|(b7 a0 (Int.tmod (i64.wrap (v1+1)) (a0.length:Int))).bind λx2=>ck (cx v1 ((a0.length:Int).toNat))<|(b7 v2 ((0:Nat)+v1:Int)).bind λx3=>some (.inl ((i64.wrap (v1+1)),(v2.set ((0:Nat)+v1:Int).toNat (jO.mk x1.x x1.y x2.x x2.y))))else some (.inr v2))
def pI(a0:List eF):Option (List jO):=
 ck (decide ((a0.length:Int)<=a0.length)&&(decide (0<=(a0.length:Int))&&wC a0.length 32))<|(iter (oU a0) n (0,(List.replicate (a0.length:Int).toNat (jO.mk 0 0 0 0)))).bind λw1=>ck (be (sub w1 0 ((a0.length:Int).toNat)).length ((a0.length:Int).toNat))<|some (sub w1 0 ((a0.length:Int).toNat))
def tO(a0:eF):Option Bool:=
 (bif decide (0<=a0.x)then(bif decide (a0.x<=1048576)then(bif decide (0<=a0.y)then some (decide (a0.y<=1048576))else some false)else some false)else some false)
def ig(a0:jO):Option Bool:=
 some (a0.lz==a0.mL)
def AB(a0:List Int):Stp Int (Unit⊕Int)
 |v1=>(bif decide (v1<a0.length)then(b7 a0 v1).bind λx1=>(bif (x1 !=0)then(some x1).map λa=>.inr (.inr a)else some (.inl (i64.wrap (v1+1))))else some (.inr (.inl ())))
def uY(a0:List Int):Option Int:=
 dS (iter (AB a0) n 0) λ()=>some 0
def q8(a0:eF)(a1:eF):Option Int:=
 (cmp_Compare_int a0.x a1.x).bind λr1=>(cmp_Compare_int a0.y a1.y).bind λr2=>ck (be (sub ([r1,r2]:List Int) 0 2).length 2)<|(uY n (sub ([r1,r2]:List Int) 0 2)).bind λr3=>some r3
def lV(a0:jO)(a1:jO):Option Bool:=
 (bif decide ((max (min a0.lz a0.mL) (min a1.lz a1.mL))<=(min (max a0.lz a0.mL) (max a1.lz a1.mL)))then some (decide ((max (min a0.pH a0.ut) (min a1.pH a1.ut))<=(min (max a0.pH a0.ut) (max a1.pH a1.ut))))else some false)
def qb(a0:List eF)(r1:List jO):Stp Int (Unit⊕Bool)
 |v2=>(bif decide (v2<(r1.length:Nat))then ck (cx v2 r1.length)<|(b7 r1 ((0:Nat)+v2:Int)).bind λx1=>ck ((r1.length:Int) !=0)<|ck (cx (Int.tmod (i64.wrap (v2+1)) (r1.length:Int)) r1.length)<|(b7 r1 ((0:Nat)+(Int.tmod (i64.wrap (v2+1)) (r1.length:Int)):Int)).bind λx2=>((tO (eF.mk x1.lz x1.pH)).bind λr2=>(bif (!r2)then some true else(bif ((x1.lz==x1.mL)==(x1.pH==x1.ut))then some true else(ig x1).bind λr3=>(ig x2).bind λr4=>some (r3==r4)))).bind λv3=>(bif v3 then(some false).map λa=>.inr (.inr a)else((bif decide (v2>0)then(b7 a0 0).bind λx3=>(b7 a0 v2).bind λx4=>(q8 n x3 x4).bind λr5=>some (decide (r5>=0))else some false)).bind λv4=>(bif v4 then(some false).map λa=>.inr (.inr a)else some (.inl (i64.wrap (v2+1)))))else some (.inr (.inl ())))
def jd(r1:List jO)(v5:Int):Stp Int (Unit⊕(Int⊕(Unit⊕Bool)))
 |v6=>(bif decide (v6<(r1.length:Nat))then((bif (decide ((i64.wrap ((i64.wrap (v5+(r1.length:Nat)))-v6))>1))then ck (cx v5 r1.length)<|(b7 r1 ((0:Nat)+v5:Int)).bind λx5=>ck (cx v6 r1.length)<|(b7 r1 ((0:Nat)+v6:Int)).bind λx6=>(lV x5 x6).bind λr6=>some r6 else some false)).bind λv7=>(bif v7 then((some false).map λa=>.inr (.inr a)).map λa=>.inr (.inr a)else some (.inl (i64.wrap (v6+1))))else some (.inr (.inl ())))
def qc(r1:List jO):Stp Int (Unit⊕Bool)
 |v5=>(bif decide (v5<(r1.length:Nat))then dS (iter (jd r1 v5) n (i64.wrap (v5+2))) λ()=>some (.inl (i64.wrap (v5+1)))else some (.inr (.inl ())))
def vz(a0:List eF):Option Bool:=
 ((bif decide ((a0.length:Int)<4)then some true else some (decide ((a0.length:Int)>60)))).bind λv1=>(bif v1 then some false else(pI n a0).bind λr1=>dS (iter (qb n a0 r1) n 0) λ()=>dS (iter (qc n r1) n 0) λ()=>ck (cx 0 r1.length)<|(b7 r1 ((0:Nat)+0:Int)).bind λx7=>(ig x7).bind λr7=>some (!r7))
def lW(a0:List eF):Stp (Int×(List Int)) (List Int)
 |(v1,v2)=>(bif decide (v1<a0.length)then(b7 a0 v1).bind λx1=>ck (bL v2.length v2.length (sub ([x1.x]:List Int) 0 1).length 1 8)<|jy (v2++(sub ([x1.x]:List Int) 0 1)) λr2=>ck (be r2.length r2.length)<|some (.inl ((i64.wrap (v1+1)),r2))else ck (be v2.length v2.length)<|some (.inr v2))
def lX(r4:Unit×(List Int))(r5:List jO)(v3:Int):Stp (Int×(List Int)) (List Int)
 |(v5,v6)=>(bif decide (v5<(r5.length:Nat))then(ck (cx v5 r5.length)<|(b7 r5 ((0:Nat)+v5:Int)).bind λx2=>((ig x2).bind λr6=>(bif (!r6)then ck (cx v3 r4.2.length)<|(b7 r4.2 ((0:Nat)+v3:Int)).bind λx3=>(bif decide ((min x2.lz x2.mL)<=x3)then ck (cx v3 r4.2.length)<|(b7 r4.2 ((0:Nat)+v3:Int)).bind λx4=>some (decide (x4<(max x2.lz x2.mL)))else some false)else some false)).bind λv7=>(bif v7 then ck (bL v6.length v6.length (sub ([x2.pH]:List Int) 0 1).length 1 8)<|jy (v6++(sub ([x2.pH]:List Int) 0 1)) λr7=>ck (be r7.length r7.length)<|some r7 else ck (be v6.length v6.length)<|some v6):Option ((List Int))).bind λv8=>ck (be v8.length v8.length)<|some (.inl ((i64.wrap (v5+1)),v8))else ck (be v6.length v6.length)<|some (.inr v6))
def jD(r4:Unit×(List Int))(v3:Int)(w2:List Int)(r8:List Int):Stp (Int×(List au)) (List au)
 |(v9,v10)=>(bif decide ((i64.wrap (v9+1))<(w2.length:Nat))then ck (cx v3 r4.2.length)<|(b7 r4.2 ((0:Nat)+v3:Int)).bind λx5=>ck (cx v9 w2.length)<|(b7 r8 ((0:Nat)+v9:Int)).bind λx6=>ck (cx (i64.wrap (v3+1)) r4.2.length)<|(b7 r4.2 ((0:Nat)+(i64.wrap (v3+1)):Int)).bind λx7=>ck (cx (i64.wrap (v9+1)) w2.length)<|(b7 r8 ((0:Nat)+(i64.wrap (v9+1)):Int)).bind λx8=>ck (bL v10.length v10.length (sub ([(au.mk x5 x6 x7 x8)]:List au) 0 1).length 1 32)<|jy (v10++(sub ([(au.mk x5 x6 x7 x8)]:List au) 0 1)) λr9=>ck (be r9.length r9.length)<|some (.inl ((i64.wrap (v9+2)),r9))else ck (be v10.length v10.length)<|some (.inr v10))
def lY(r4:Unit×(List Int))(r5:List jO):Stp (Int×(List au)) (List au)
 |(v3,v4)=>(bif decide (v3<(i64.wrap ((r4.2.length:Nat)-1)))then ck (be 0 ([]:List Int).length)<|(iter (lX r4 r5 v3) n (0,[])).bind λw2=>ck (be w2.length w2.length)<|(pF n w2).bind λr8=>ck (be v4.length v4.length)<|(iter (jD r4 v3 w2 r8) n (0,v4)).bind λw3=>ck (be w3.length w3.length)<|some (.inl ((i64.wrap (v3+1)),w3))else ck (be v4.length v4.length)<|some (.inr v4))
def tQ(a0:List eF):Option ((List au)×Int):=
 (vz n a0).bind λr1=>(bif (!r1)then some ([],10)else ck (be 0 ([]:List Int).length)<|(iter (lW a0) n (0,[])).bind λw1=>ck (be w1.length w1.length)<|(pF n w1).bind λr3=>ck (be w1.length r3.length)<|(pG n r3).bind λr4=>(pI n a0).bind λr5=>ck (be 0 ([]:List au).length)<|(iter (lY n r4 r5) n (0,[])).bind λw4=>(bif decide ((w4.length:Int)>200)then some ([],6)else ck (be (sub w4 0 w4.length).length w4.length)<|some ((sub w4 0 w4.length),0)))
def xh(a0:fJ):Option (List au):=
 (tQ n a0.corners).bind λr1=>(bif (r1.2 !=0)then some []else ck (be (sub r1.1 0 r1.1.length).length r1.1.length)<|some (sub r1.1 0 r1.1.length))
def qd(a1:List au)(x1:au):Stp (Int×Int×Int×Int) (Int×Int×Int)
 |(v5,v6,v7,v8)=>(bif decide (v6<a1.length)then((b7 a1 v6).bind λx2=>(rY x1 x2).bind λr1=>(bif (!r1.2)then some (v5,v7,v8)else(uV r1.1).bind λr2=>(cmp_Compare_int r1.1.x0 v7).bind λr3=>(cmp_Compare_int r1.1.y0 v8).bind λr4=>ck (be (sub ([r3,r4]:List Int) 0 2).length 2)<|(uY n (sub ([r3,r4]:List Int) 0 2)).bind λr5=>(bif decide (r5<0)then some ((i64.wrap (v5+r2)),r1.1.x0,r1.1.y0)else some ((i64.wrap (v5+r2)),v7,v8))):Option (Int×Int×Int)).bind λ(v9,v10,v11)=>some (.inl (v9,(i64.wrap (v6+1)),v10,v11))else some (.inr (v5,v7,v8)))
def qf(a0:List au)(a1:List au):Stp (Int×Int×Int×Int) (Int×Int×Int)
 |(v1,v2,v3,v4)=>(bif decide (v2<a0.length)then(b7 a0 v2).bind λx1=>(iter (qd n a1 x1) n (v1,0,v3,v4)).bind λ(w1,w2,w3)=>some (.inl (w1,(i64.wrap (v2+1)),w2,w3))else some (.inr (v1,v3,v4)))
def vB(a0:List au)(a1:List au):Option (Int×eF):=
 (iter (qf n a0 a1) n (0,0,1048576,0)).bind λ(w4,w5,w6)=>some (w4,(eF.mk w5 w6))
def qg(a0:cB)(a1:List au):Stp (Int×(List Int)) (List Int)
 |(v1,v2)=>(bif decide (v1<a0.zones.length)then(b7 a0.zones v1).bind λx1=>(xh n x1).bind λr2=>ck (be (sub r2 0 r2.length).length r2.length)<|(vB n a1 (sub r2 0 r2.length)).bind λr3=>ck (bL v2.length v2.length (sub ([r3.1]:List Int) 0 1).length 1 8)<|jy (v2++(sub ([r3.1]:List Int) 0 1)) λr4=>ck (be r4.length r4.length)<|some (.inl ((i64.wrap (v1+1)),r4))else ck (be v2.length v2.length)<|some (.inr v2))
def vC(a0:cB)(a1:List au):Option (List Int):=
 (nX n a1).bind λr1=>(bif (!r1)then some []else ck (be 0 ([]:List Int).length)<|(iter (qg n a0 a1) n (0,[])).bind λw1=>ck (be (sub w1 0 w1.length).length w1.length)<|some (sub w1 0 w1.length))
def qh(a0:cB)(r1:List Int):Stp (Int×Int) Int
 |(v1,v2)=>(bif decide (v2<(r1.length:Nat))then(ck (cx v2 r1.length)<|(b7 r1 ((0:Nat)+v2:Int)).bind λx1=>((b7 a0.zones v2).bind λx2=>(bif (!x2.overlay)then(bif decide (x1>0)then(bif decide (v1<0)then some true else ck (cx v1 r1.length)<|(b7 r1 ((0:Nat)+v1:Int)).bind λx3=>some (decide (x1>x3)))else some false)else some false)).bind λv3=>(bif v3 then some v2 else some v1):Option Int).bind λv4=>some (.inl (v4,(i64.wrap (v2+1))))else some (.inr v1))
def xk(a0:cB)(r1:List Int)(w1:Int):Stp (Int×(List ByteArray)) (List ByteArray)
 |(v5,v6)=>(bif decide (v5<(r1.length:Nat))then(ck (cx v5 r1.length)<|(b7 r1 ((0:Nat)+v5:Int)).bind λx4=>((bif (v5==w1)then some true else(b7 a0.zones v5).bind λx5=>(bif x5.overlay then some (decide (x4>0))else some false))).bind λv7=>(bif v7 then(b7 a0.zones v5).bind λx6=>ck (bL v6.length v6.length (sub ([x6.name]:List ByteArray) 0 1).length 1 16)<|jy (v6++(sub ([x6.name]:List ByteArray) 0 1)) λr2=>ck (be r2.length r2.length)<|some r2 else ck (be v6.length v6.length)<|some v6):Option ((List ByteArray))).bind λv8=>ck (be v8.length v8.length)<|some (.inl ((i64.wrap (v5+1)),v8))else ck (be v6.length v6.length)<|some (.inr v6))
def Co(a0:cB)(a1:List au):Option (List ByteArray):=
 (vC n a0 a1).bind λr1=>(iter (qh a0 r1) n ((-1),0)).bind λw1=>ck (be 0 ([]:List ByteArray).length)<|(iter (xk a0 r1 w1) n (0,[])).bind λw2=>ck (be (sub w2 0 w2.length).length w2.length)<|some (sub w2 0 w2.length)
def zW(a0:eY)(a1:aG):Option (mF×Int):=
 (MH n a0.land a1.lot).bind λr1=>(bif (!r1.2)then some ((mF.mk ([]) ([]) ([]) ([]) ([]) ([]) ([]) 0 ([]) ([]) ([]) ([]) ([]) 0 0 ([]) ([]) 0 ([]) ([]) ([])),4)else(kC n (cB.mk a0.ch a0.b9 a0.b8 a0.az a0.ci a0.cd a0.cp a0.cg) r1.1 a1).bind λr2=>(bif (!r2)then some ((mF.mk ([]) ([]) ([]) ([]) ([]) ([]) ([]) 0 ([]) ([]) ([]) ([]) ([]) 0 0 ([]) ([]) 0 ([]) ([]) ([])),1)else(tN n a1).bind λr3=>(Co n (cB.mk a0.ch a0.b9 a0.b8 a0.az a0.ci a0.cd a0.cp a0.cg) r1.1.area).bind λr4=>ck (be (sub r3 0 r3.length).length r3.length)<|ck (be (sub r4 0 r4.length).length r4.length)<|some ((mF.mk a0.ch a0.b9 a0.b8 a0.az a0.ci a0.cd a0.cp a0.cg a0.land a0.bj a0.windows a0.built a0.base r1.1.id r1.1.owner r1.1.area r1.1.from_ a1.lot a1.phases (sub r3 0 r3.length) (sub r4 0 r4.length)),0)))
def nL(a0:List ByteArray)(a1:ByteArray):Stp Int (Unit⊕Int)
 |v1=>(bif decide (v1<a0.length)then(b7 a0 v1).bind λx1=>(bif (ByteArray.toList a1==ByteArray.toList x1)then(some v1).map λa=>.inr (.inr a)else some (.inl (i64.wrap (v1+1))))else some (.inr (.inl ())))
def q9(a0:List ByteArray)(a1:ByteArray):Option Int:=
 dS (iter (nL a0 a1) n 0) λ()=>some (-1)
def gm(a0:List ByteArray)(a1:ByteArray):Option Bool:=
 (q9 n a0 a1).bind λr1=>some (decide (r1>=0))
def kH(a0:ByteArray)(a1:List ByteArray):Option Bool:=
 (gm n a1 a0).bind λr1=>some r1
def Eh(a0:List ByteArray)(a1:(ByteArray×Unit)->Option Bool):Stp Int (Unit⊕Int)
 |v1=>(bif decide (v1<a0.length)then(b7 a0 v1).bind λx1=>(a1 (x1,())).bind λr1=>(bif r1 then(some v1).map λa=>.inr (.inr a)else some (.inl (i64.wrap (v1+1))))else some (.inr (.inl ())))
def qy(a0:List ByteArray)(a1:(ByteArray×Unit)->Option Bool):Option Int:=
 dS (iter (Eh a0 a1) n 0) λ()=>some (-1)
def gB(a0:List ByteArray)(a1:(ByteArray×Unit)->Option Bool):Option Bool:=
 (qy n a0 a1).bind λr1=>some (decide (r1>=0))
def qL(a0:bP)(a1:List ByteArray):Option Bool:=
 (bif ((a0.zones.length:Int)==0)then(gB n a0.except (λ (y1:ByteArray×Unit)=>kH n y1.1 a1)).bind λr1=>some (!r1)else(gB n a0.zones (λ (y2:ByteArray×Unit)=>kH n y2.1 a1)).bind λr2=>(bif r2 then(gB n a0.except (λ (y3:ByteArray×Unit)=>kH n y3.1 a1)).bind λr3=>some (!r3)else some false))
def rf(a0:cB)(a1:List ByteArray)(a2:Int):Stp (Int×(List Int)) (List Int)
 |(v1,v2)=>(bif decide (v1<a0.rules.length)then((b7 a0.rules v1).bind λx1=>((bif decide (x1.from_<=a2)then(bif (x1.ka==0)then(qL n x1 a1).bind λr1=>some r1 else(bif decide (a2<x1.ka)then(qL n x1 a1).bind λr2=>some r2 else some false))else some false)).bind λv3=>(bif v3 then ck (bL v2.length v2.length (sub ([v1]:List Int) 0 1).length 1 8)<|jy (v2++(sub ([v1]:List Int) 0 1)) λr3=>ck (be r3.length r3.length)<|some r3 else ck (be v2.length v2.length)<|some v2):Option ((List Int))).bind λv4=>ck (be v4.length v4.length)<|some (.inl ((i64.wrap (v1+1)),v4))else ck (be v2.length v2.length)<|some (.inr v2))
def tT(a0:cB)(a1:List ByteArray)(a2:Int):Option (List Int):=
 ck (be 0 ([]:List Int).length)<|(iter (rf n a0 a1 a2) n (0,[])).bind λw1=>ck (be (sub w1 0 w1.length).length w1.length)<|some (sub w1 0 w1.length)
def uZ(_:Nat)(a0:List au)(a1:(au×au×Unit)->Option Int):Option (List au):=Zv a0 a1
def iY(a0:au)(a1:au):Option Int:=
 (cmp_Compare_int a0.y0 a1.y0).bind λr1=>some r1
def lH(a0:aC):Option Int:=
 ((bif a0.extra then some true else(fQ a0).bind λr1=>some (!r1))).bind λv1=>(bif v1 then some 0 else ck (3 !=0)<|some (i64.wrap (Int.tdiv (i64.wrap ((i64.wrap ((i64.wrap (a0.cC-a0.cz))+3))-1)) 3)))
def oG(a0:aC):Option Int:=
 (fQ a0).bind λr1=>(bif (!r1)then some 0 else(uV (au.mk a0.bm a0.bz a0.bk a0.bx)).bind λr2=>(lH a0).bind λr3=>some (i64.wrap (r2*r3)))
def nM(a0:aC):Option Int:=
 some a0.cC
def oI(a0:aC):Option Int:=
 some a0.units
def AJ(a0:au)(a1:Int):Option (au×Bool):=
 (oP (au.mk (i64.wrap (a0.x0-a1)) (i64.wrap (a0.y0-a1)) (i64.wrap (a0.x1+a1)) (i64.wrap (a0.y1+a1)))).bind λr1=>some ((au.mk (i64.wrap (a0.x0-a1)) (i64.wrap (a0.y0-a1)) (i64.wrap (a0.x1+a1)) (i64.wrap (a0.y1+a1))),r1)
def kP(a0:bD)(a1:Jj)(a2:Int):Option Bool:=
 ck (cx a2 6)<|(b7 ([a1.a0,a1.a1,a1.a2,a1.a3,a1.a4,a1.a5]:List ByteArray) a2).bind λx1=>some (ByteArray.toList a0.name==ByteArray.toList x1)
def Fp(a0:List bD)(a1:(bD×Unit)->Option Bool):Stp Int (Unit⊕Int)
 |v1=>(bif decide (v1<a0.length)then(b7 a0 v1).bind λx1=>(a1 (x1,())).bind λr1=>(bif r1 then(some v1).map λa=>.inr (.inr a)else some (.inl (i64.wrap (v1+1))))else some (.inr (.inl ())))
def kQ(a0:List bD)(a1:(bD×Unit)->Option Bool):Option Int:=
 dS (iter (Fp a0 a1) n 0) λ()=>some (-1)
def kR(a0:cB)(a1:Int):Stp Int (Unit⊕Int)
 |v1=>(bif decide (v1<a0.tables.length)then(b7 a0.tables v1).bind λx1=>(bif (!(ByteArray.toList x1.name==ByteArray.toList (⟨#[116,114,97,102,102,105,99]⟩)))then some (.inl (i64.wrap (v1+1)))else((kQ n x1.rows (λ (y1:bD×Unit)=>kP y1.1 (Jj.mk (⟨#[104,111,109,101]⟩) (⟨#[115,104,111,112]⟩) (⟨#[119,111,114,107]⟩) (⟨#[112,97,114,107]⟩) (⟨#[112,108,97,110,116]⟩) (⟨#[104,97,108,108]⟩)) a1)).bind λr1=>(bif decide (r1>=0)then(b7 x1.rows r1).bind λx2=>some x2.n else some x1.sf):Option Int).bind λv2=>(some (max 0 (min v2 1048576))).map λa=>.inr (.inr a))else some (.inr (.inl ())))
def zX(a0:cB)(a1:Int):Option Int:=
 dS (iter (kR n a0 a1) n 0) λ()=>some 0
def jI(a0:cB)(a1:aC):Option Int:=
 (zX n a0 a1.use).bind λr1=>(oG a1).bind λr2=>((bif decide (r1>0)then ck (r1 !=0)<|some (decide (r2>(i64.wrap (Int.tdiv 109951162777600 r1))))else some false)).bind λv1=>(bif v1 then some 1099511627776 else ck (100 !=0)<|some (i64.wrap (Int.tdiv (i64.wrap ((i64.wrap ((i64.wrap (r1*r2))+100))-1)) 100)))
def mY(a0:List gP)(a1:List cO)(a2:List fJ)(a3:List bP)(a4:List ji)(a5:List ic)(a6:List dw)(a7:Int)(a8:List au)(a9:List aC):Option (Int×iC):=
 (MV n a8).bind λr1=>ck (be a9.length a9.length)<|some (r1,a0,a1,a2,a3,a4,a5,a6,a7,a8,a9)
def gT(a9:List aC):Stp (Int×(List au)×(List Int)) ((List au)×(List Int))
 |(v1,v2,v3)=>(bif decide (v1<(a9.length:Nat))then ck (cx v1 a9.length)<|(b7 a9 ((0:Nat)+v1:Int)).bind λx1=>ck (cx v1 ((a9.length:Int).toNat))<|(b7 v2 ((0:Nat)+v1:Int)).bind λx2=>ck (cx v1 ((a9.length:Int).toNat))<|(b7 (v2.set ((0:Nat)+v1:Int).toNat (au.mk x1.bm x1.bz x1.bk x1.bx)) ((0:Nat)+v1:Int)).bind λx3=>ck (cx v1 ((a9.length:Int).toNat))<|(b7 (v2.set ((0:Nat)+v1:Int).toNat (au.mk x1.bm x1.bz x1.bk x1.bx)) ((0:Nat)+v1:Int)).bind λx4=>ck (bL v3.length v3.length (sub ([x3.x0,x4.x1]:List Int) 0 2).length 2 8)<|jy (v3++(sub ([x3.x0,x4.x1]:List Int) 0 2)) λr1=>ck (be r1.length r1.length)<|some (.inl ((i64.wrap (v1+1)),(v2.set ((0:Nat)+v1:Int).toNat (au.mk x1.bm x1.bz x1.bk x1.bx)),r1))else ck (be v3.length v3.length)<|some (.inr (v2,v3)))
def gU(a9:List aC)(w2:List Int)(r2:List au)(r3:List Int)(v5:Int):Stp (Int×Int×Int) Int
 |(v6,v7,v8)=>(bif decide (v8<(((a9.length:Int).toNat:Nat):Int))then(ck (cx v8 ((a9.length:Int).toNat))<|(b7 r2 ((0:Nat)+v8:Int)).bind λx5=>(ck (cx v5 w2.length)<|(b7 r3 ((0:Nat)+v5:Int)).bind λx6=>(bif decide (x5.x0<=x6)then ck (cx v5 w2.length)<|(b7 r3 ((0:Nat)+v5:Int)).bind λx7=>(bif decide (x7<x5.x1)then some (decide (x5.y1>v7))else some false)else some false)).bind λv9=>(bif v9 then ck (cx (i64.wrap (v5+1)) w2.length)<|(b7 r3 ((0:Nat)+(i64.wrap (v5+1)):Int)).bind λx8=>ck (cx v5 w2.length)<|(b7 r3 ((0:Nat)+v5:Int)).bind λx9=>some ((i64.wrap (v6+(i64.wrap ((i64.wrap (x8-x9))*(i64.wrap (x5.y1-(max v7 x5.y0))))))),x5.y1)else some (v6,v7)):Option (Int×Int)).bind λ(v10,v11)=>some (.inl (v10,v11,(i64.wrap (v8+1))))else some (.inr v6))
def gV(a9:List aC)(w2:List Int)(r2:List au)(r3:List Int):Stp (Int×Int) Int
 |(v4,v5)=>(bif (decide (v5<((max 0 (i64.wrap ((w2.length:Nat)-1))):Int)))then(iter (gU a9 w2 r2 r3 v5) n (v4,0,0)).bind λw3=>some (.inl (w3,(i64.wrap (v5+1))))else some (.inr v4))
def iZ(a0:List gP)(a1:List cO)(a2:List fJ)(a3:List bP)(a4:List ji)(a5:List ic)(a6:List dw)(a7:Int)(a8:List au)(a9:List aC):Option (Int×iC):=
 ck (decide ((a9.length:Int)<=(a9.length:Nat))&&(decide (0<=(a9.length:Int))&&wC (a9.length:Nat) 32))<|ck (be 0 ([]:List Int).length)<|(iter (gT a9) n (0,(List.replicate (a9.length:Int).toNat (au.mk 0 0 0 0)),[])).bind λ(w1,w2)=>ck (be ((a9.length:Int).toNat) w1.length)<|(uZ n w1 (λ (y1:au×au×Unit)=>iY y1.1 y1.2.1)).bind λr2=>ck (be w2.length w2.length)<|(pF n w2).bind λr3=>(iter (gV n a9 w2 r2 r3) n (0,0)).bind λw4=>ck (be a9.length a9.length)<|some (w4,a0,a1,a2,a3,a4,a5,a6,a7,a8,a9)
def jS(a9:List aC):Stp (Int×Int) Int
 |(v1,v2)=>(bif decide (v2<(a9.length:Nat))then ck (cx v2 a9.length)<|(b7 a9 ((0:Nat)+v2:Int)).bind λx1=>(oG x1).bind λr1=>some (.inl ((i64.wrap (v1+r1)),(i64.wrap (v2+1))))else some (.inr v1))
def qz(a0:List gP)(a1:List cO)(a2:List fJ)(a3:List bP)(a4:List ji)(a5:List ic)(a6:List dw)(a7:Int)(a8:List au)(a9:List aC):Option (Int×iC):=
 (iter (jS a9) n (0,0)).bind λw1=>ck (be a9.length a9.length)<|some (w1,a0,a1,a2,a3,a4,a5,a6,a7,a8,a9)
def kU(a0:List gP)(a1:List cO)(a2:List fJ)(a3:List bP)(a4:List ji)(a5:List ic)(a6:List dw)(a7:Int)(a8:List au)(a9:List aC):Option (Int×iC):=
 ck (be a9.length a9.length)<|(qz n a0 a1 a2 a3 a4 a5 a6 a7 a8 a9).bind λr1=>ck (be r1.2.2.2.2.2.2.2.2.2.2.length r1.2.2.2.2.2.2.2.2.2.2.length)<|some (r1.1,r1.2.1,r1.2.2.1,r1.2.2.2.1,r1.2.2.2.2.1,r1.2.2.2.2.2.1,r1.2.2.2.2.2.2.1,r1.2.2.2.2.2.2.2.1,r1.2.2.2.2.2.2.2.2.1,r1.2.2.2.2.2.2.2.2.2.1,r1.2.2.2.2.2.2.2.2.2.2)
def iD(a9:List aC):Stp (Int×Int) Int
 |(v1,v2)=>(bif decide (v2<(a9.length:Nat))then ck (cx v2 a9.length)<|(b7 a9 ((0:Nat)+v2:Int)).bind λx1=>(lH x1).bind λr1=>some (.inl ((max v1 r1),(i64.wrap (v2+1))))else some (.inr v1))
def mG(a0:List gP)(a1:List cO)(a2:List fJ)(a3:List bP)(a4:List ji)(a5:List ic)(a6:List dw)(a7:Int)(a8:List au)(a9:List aC):Option (Int×iC):=
 (iter (iD a9) n (0,0)).bind λw1=>ck (be a9.length a9.length)<|some (w1,a0,a1,a2,a3,a4,a5,a6,a7,a8,a9)
def jT(a0:List gP)(a1:List cO)(a2:List fJ)(a3:List bP)(a4:List ji)(a5:List ic)(a6:List dw)(a7:Int)(a8:List au)(a9:List aC):Option (Int×iC):=
 ck (be a9.length a9.length)<|(mG n a0 a1 a2 a3 a4 a5 a6 a7 a8 a9).bind λr1=>ck (be r1.2.2.2.2.2.2.2.2.2.2.length r1.2.2.2.2.2.2.2.2.2.2.length)<|some (r1.1,r1.2.1,r1.2.2.1,r1.2.2.2.1,r1.2.2.2.2.1,r1.2.2.2.2.2.1,r1.2.2.2.2.2.2.1,r1.2.2.2.2.2.2.2.1,r1.2.2.2.2.2.2.2.2.1,r1.2.2.2.2.2.2.2.2.2.1,r1.2.2.2.2.2.2.2.2.2.2)
def iE(a9:List aC):Stp (Int×Int) Int
 |(v1,v2)=>(bif decide (v2<(a9.length:Nat))then ck (cx v2 a9.length)<|(b7 a9 ((0:Nat)+v2:Int)).bind λx1=>(nM x1).bind λr1=>some (.inl ((max v1 r1),(i64.wrap (v2+1))))else some (.inr v1))
def mH(a0:List gP)(a1:List cO)(a2:List fJ)(a3:List bP)(a4:List ji)(a5:List ic)(a6:List dw)(a7:Int)(a8:List au)(a9:List aC):Option (Int×iC):=
 (iter (iE a9) n (0,0)).bind λw1=>ck (be a9.length a9.length)<|some (w1,a0,a1,a2,a3,a4,a5,a6,a7,a8,a9)
def jU(a0:List gP)(a1:List cO)(a2:List fJ)(a3:List bP)(a4:List ji)(a5:List ic)(a6:List dw)(a7:Int)(a8:List au)(a9:List aC):Option (Int×iC):=
 ck (be a9.length a9.length)<|(mH n a0 a1 a2 a3 a4 a5 a6 a7 a8 a9).bind λr1=>ck (be r1.2.2.2.2.2.2.2.2.2.2.length r1.2.2.2.2.2.2.2.2.2.2.length)<|some (r1.1,r1.2.1,r1.2.2.1,r1.2.2.2.1,r1.2.2.2.2.1,r1.2.2.2.2.2.1,r1.2.2.2.2.2.2.1,r1.2.2.2.2.2.2.2.1,r1.2.2.2.2.2.2.2.2.1,r1.2.2.2.2.2.2.2.2.2.1,r1.2.2.2.2.2.2.2.2.2.2)
def jV(a9:List aC):Stp (Int×Int) Int
 |(v1,v2)=>(bif decide (v2<(a9.length:Nat))then ck (cx v2 a9.length)<|(b7 a9 ((0:Nat)+v2:Int)).bind λx1=>(oI x1).bind λr1=>some (.inl ((i64.wrap (v1+r1)),(i64.wrap (v2+1))))else some (.inr v1))
def qC(a0:List gP)(a1:List cO)(a2:List fJ)(a3:List bP)(a4:List ji)(a5:List ic)(a6:List dw)(a7:Int)(a8:List au)(a9:List aC):Option (Int×iC):=
 (iter (jV a9) n (0,0)).bind λw1=>ck (be a9.length a9.length)<|some (w1,a0,a1,a2,a3,a4,a5,a6,a7,a8,a9)
def kV(a0:List gP)(a1:List cO)(a2:List fJ)(a3:List bP)(a4:List ji)(a5:List ic)(a6:List dw)(a7:Int)(a8:List au)(a9:List aC):Option (Int×iC):=
 ck (be a9.length a9.length)<|(qC n a0 a1 a2 a3 a4 a5 a6 a7 a8 a9).bind λr1=>ck (be r1.2.2.2.2.2.2.2.2.2.2.length r1.2.2.2.2.2.2.2.2.2.2.length)<|some (r1.1,r1.2.1,r1.2.2.1,r1.2.2.2.1,r1.2.2.2.2.1,r1.2.2.2.2.2.1,r1.2.2.2.2.2.2.1,r1.2.2.2.2.2.2.2.1,r1.2.2.2.2.2.2.2.2.1,r1.2.2.2.2.2.2.2.2.2.1,r1.2.2.2.2.2.2.2.2.2.2)
def iU(j0:List au)(r1:au×Bool):Stp (Int×Int) Int
 |(v1,v2)=>(bif decide (v2<j0.length)then((b7 j0 v2).bind λx1=>(rY r1.1 x1).bind λr2=>(bif r2.2 then(uV r2.1).bind λr3=>some (i64.wrap (v1+r3))else some v1):Option Int).bind λv3=>some (.inl (v3,(i64.wrap (v2+1))))else some (.inr v1))
def jW(a0:au)(a1:Int)(a2:List gP)(a3:List cO)(a4:List fJ)(a5:List bP)(a6:List ji)(a7:List ic)(a8:List dw)(a9:Int)(j0:List au)(tc:List aC):Option (Bool×iC):=
 (AJ a0 a1).bind λr1=>(bif (!r1.2)then ck (be tc.length tc.length)<|some (false,a2,a3,a4,a5,a6,a7,a8,a9,j0,tc)else(iter (iU j0 r1) n (0,0)).bind λw1=>(uV r1.1).bind λr4=>ck (be tc.length tc.length)<|some ((w1==r4),a2,a3,a4,a5,a6,a7,a8,a9,j0,tc))
def eZ(x1:aC):Stp (Int×Int×iC) (Int×iC)
 |(v13,v14,v15,v16,v17,v18,v19,v20,v21,v22,v23,v24)=>(bif decide (v13<v14)then ck (2 !=0)<|ck (be v24.length v24.length)<|(jW n (au.mk x1.bm x1.bz x1.bk x1.bx) (i64.wrap (Int.tdiv (i64.wrap ((i64.wrap (v13+v14))+1)) 2)) v15 v16 v17 v18 v19 v20 v21 v22 v23 v24).bind λr1=>(bif r1.1 then ck (be r1.2.2.2.2.2.2.2.2.2.2.length r1.2.2.2.2.2.2.2.2.2.2.length)<|some (.inl ((i64.wrap (Int.tdiv (i64.wrap ((i64.wrap (v13+v14))+1)) 2)),v14,r1.2.1,r1.2.2.1,r1.2.2.2.1,r1.2.2.2.2.1,r1.2.2.2.2.2.1,r1.2.2.2.2.2.2.1,r1.2.2.2.2.2.2.2.1,r1.2.2.2.2.2.2.2.2.1,r1.2.2.2.2.2.2.2.2.2.1,r1.2.2.2.2.2.2.2.2.2.2))else ck (be r1.2.2.2.2.2.2.2.2.2.2.length r1.2.2.2.2.2.2.2.2.2.2.length)<|some (.inl (v13,(i64.wrap ((i64.wrap (Int.tdiv (i64.wrap ((i64.wrap (v13+v14))+1)) 2))-1)),r1.2.1,r1.2.2.1,r1.2.2.2.1,r1.2.2.2.2.1,r1.2.2.2.2.2.1,r1.2.2.2.2.2.2.1,r1.2.2.2.2.2.2.2.1,r1.2.2.2.2.2.2.2.2.1,r1.2.2.2.2.2.2.2.2.2.1,r1.2.2.2.2.2.2.2.2.2.2)))else ck (be v24.length v24.length)<|some (.inr (v13,v15,v16,v17,v18,v19,v20,v21,v22,v23,v24)))
def iM(a9:List aC):Stp (Int×Int×iC) (Int×iC)
 |(v1,v2,v3,v4,v5,v6,v7,v8,v9,v10,v11,v12)=>(bif decide (v2<(a9.length:Nat))then ck (cx v2 a9.length)<|(b7 v12 ((0:Nat)+v2:Int)).bind λx1=>ck (be v12.length v12.length)<|(iter (eZ n x1) n (0,v1,v3,v4,v5,v6,v7,v8,v9,v10,v11,v12)).bind λ(w1,w2,w3,w4,w5,w6,w7,w8,w9,vf,vd)=>ck (be vd.length vd.length)<|some (.inl (w1,(i64.wrap (v2+1)),w2,w3,w4,w5,w6,w7,w8,w9,vf,vd))else ck (be v12.length v12.length)<|some (.inr (v1,v3,v4,v5,v6,v7,v8,v9,v10,v11,v12)))
def jE(a0:List gP)(a1:List cO)(a2:List fJ)(a3:List bP)(a4:List ji)(a5:List ic)(a6:List dw)(a7:Int)(a8:List au)(a9:List aC):Option (Int×iC):=
 ck (be a9.length a9.length)<|(iter (iM n a9) n (1048576,0,a0,a1,a2,a3,a4,a5,a6,a7,a8,a9)).bind λ(HD,HC,HB,HA,w16,xc,w18,w19,w20,w21,TE)=>ck (be TE.length TE.length)<|some (HD,HC,HB,HA,w16,xc,w18,w19,w20,w21,TE)
def kS(a0:aC)(a1:List gP)(a2:List cO)(a3:List fJ)(a4:List bP)(a5:List ji)(a6:List ic)(a7:List dw)(a8:Int)(a9:List au)(j0:List aC):Option (Int×iC):=
 (jI n (cB.mk a1 a2 a3 a4 a5 a6 a7 a8) a0).bind λr1=>ck (be j0.length j0.length)<|some (r1,a1,a2,a3,a4,a5,a6,a7,a8,a9,j0)
def jX(a9:List aC):Stp (Int×Int×iC) (Int×iC)
 |(v1,v2,v3,v4,v5,v6,v7,v8,v9,v10,v11,v12)=>(bif decide (v2<(a9.length:Nat))then ck (cx v2 a9.length)<|(b7 v12 ((0:Nat)+v2:Int)).bind λx1=>ck (be v12.length v12.length)<|(kS n x1 v3 v4 v5 v6 v7 v8 v9 v10 v11 v12).bind λr1=>ck (be r1.2.2.2.2.2.2.2.2.2.2.length r1.2.2.2.2.2.2.2.2.2.2.length)<|some (.inl ((i64.wrap (v1+r1.1)),(i64.wrap (v2+1)),r1.2.1,r1.2.2.1,r1.2.2.2.1,r1.2.2.2.2.1,r1.2.2.2.2.2.1,r1.2.2.2.2.2.2.1,r1.2.2.2.2.2.2.2.1,r1.2.2.2.2.2.2.2.2.1,r1.2.2.2.2.2.2.2.2.2.1,r1.2.2.2.2.2.2.2.2.2.2))else ck (be v12.length v12.length)<|some (.inr (v1,v3,v4,v5,v6,v7,v8,v9,v10,v11,v12)))
def qD(a0:List gP)(a1:List cO)(a2:List fJ)(a3:List bP)(a4:List ji)(a5:List ic)(a6:List dw)(a7:Int)(a8:List au)(a9:List aC):Option (Int×iC):=
 ck (be a9.length a9.length)<|(iter (jX n a9) n (0,0,a0,a1,a2,a3,a4,a5,a6,a7,a8,a9)).bind λ(w1,w2,w3,w4,w5,w6,w7,w8,w9,vf,vd)=>ck (be vd.length vd.length)<|some (w1,w2,w3,w4,w5,w6,w7,w8,w9,vf,vd)
def jF(a0:List gP)(a1:List cO)(a2:List fJ)(a3:List bP)(a4:List ji)(a5:List ic)(a6:List dw)(a7:Int)(a8:List au)(a9:List aC):Option (Int×iC):=
 ck (be a9.length a9.length)<|(qD n a0 a1 a2 a3 a4 a5 a6 a7 a8 a9).bind λr1=>ck (be r1.2.2.2.2.2.2.2.2.2.2.length r1.2.2.2.2.2.2.2.2.2.2.length)<|some (r1.1,r1.2.1,r1.2.2.1,r1.2.2.2.1,r1.2.2.2.2.1,r1.2.2.2.2.2.1,r1.2.2.2.2.2.2.1,r1.2.2.2.2.2.2.2.1,r1.2.2.2.2.2.2.2.2.1,r1.2.2.2.2.2.2.2.2.2.1,r1.2.2.2.2.2.2.2.2.2.2)
def qM(r2:List aC):Stp (Int×iC) (iC)
 |(v10,v11,v12,v13,v14,v15,v16,v17,v18,v19,v20)=>(bif decide (v10<(r2.length:Nat))then(ck (cx v10 r2.length)<|(b7 r2 ((0:Nat)+v10:Int)).bind λx1=>((bif decide (v10<40)then(fQ x1).bind λr3=>some r3 else some false)).bind λv21=>(bif v21 then ck (bL v20.length v20.length (sub ([x1]:List aC) 0 1).length 1 72)<|jy (v20++(sub ([x1]:List aC) 0 1)) λr4=>ck (be r4.length r4.length)<|some (v11,v12,v13,v14,v15,v16,v17,v18,v19,r4)else ck (be v20.length v20.length)<|some (v11,v12,v13,v14,v15,v16,v17,v18,v19,v20)):Option (iC)).bind λ(v22,v23,v24,v25,v26,v27,v28,v29,v30,v31)=>ck (be v31.length v31.length)<|some (.inl ((i64.wrap (v10+1)),v22,v23,v24,v25,v26,v27,v28,v29,v30,v31))else ck (be v20.length v20.length)<|some (.inr (v11,v12,v13,v14,v15,v16,v17,v18,v19,v20)))
def nN(a0:cB)(a1:jN)(a2:aG):Option (List bD):=
 ((nX n a1.area).bind λr1=>(bif r1 then some (a0.defs,a0.tables,a0.zones,a0.rules,a0.caps,a0.views,a0.vi,a0.hours,a1.area)else some (a0.defs,a0.tables,a0.zones,a0.rules,a0.caps,a0.views,a0.vi,a0.hours,[])):Option ((List gP)×(List cO)×(List fJ)×(List bP)×(List ji)×(List ic)×(List dw)×Int×(List au))).bind λ(v1,v2,v3,v4,v5,v6,v7,v8,v9)=>(nW n a2 0 a2.phases.length).bind λr2=>ck (be 0 ([]:List aC).length)<|(iter (qM r2) n (0,v1,v2,v3,v4,v5,v6,v7,v8,v9,[])).bind λ(w1,w2,w3,w4,w5,w6,w7,w8,w9,vf)=>ck (be vf.length vf.length)<|(mY n w1 w2 w3 w4 w5 w6 w7 w8 w9 vf).bind λr5=>ck (bL 0 0 (sub ([(bD.mk (⟨#[97,114,101,97]⟩) r5.1)]:List bD) 0 1).length 1 24)<|jy ((sub ([(bD.mk (⟨#[97,114,101,97]⟩) r5.1)]:List bD) 0 1)) λr6=>ck (be r5.2.2.2.2.2.2.2.2.2.2.length r5.2.2.2.2.2.2.2.2.2.2.length)<|(iZ n r5.2.1 r5.2.2.1 r5.2.2.2.1 r5.2.2.2.2.1 r5.2.2.2.2.2.1 r5.2.2.2.2.2.2.1 r5.2.2.2.2.2.2.2.1 r5.2.2.2.2.2.2.2.2.1 r5.2.2.2.2.2.2.2.2.2.1 r5.2.2.2.2.2.2.2.2.2.2).bind λr7=>ck (bL r6.length r6.length (sub ([(bD.mk (⟨#[99,111,118,101,114]⟩) r7.1)]:List bD) 0 1).length 1 24)<|jy (r6++(sub ([(bD.mk (⟨#[99,111,118,101,114]⟩) r7.1)]:List bD) 0 1)) λr8=>ck (be r7.2.2.2.2.2.2.2.2.2.2.length r7.2.2.2.2.2.2.2.2.2.2.length)<|(kU n r7.2.1 r7.2.2.1 r7.2.2.2.1 r7.2.2.2.2.1 r7.2.2.2.2.2.1 r7.2.2.2.2.2.2.1 r7.2.2.2.2.2.2.2.1 r7.2.2.2.2.2.2.2.2.1 r7.2.2.2.2.2.2.2.2.2.1 r7.2.2.2.2.2.2.2.2.2.2).bind λr9=>ck (bL r8.length r8.length (sub ([(bD.mk (⟨#[102,108,111,111,114]⟩) r9.1)]:List bD) 0 1).length 1 24)<|jy (r8++(sub ([(bD.mk (⟨#[102,108,111,111,114]⟩) r9.1)]:List bD) 0 1)) λvl=>ck (be r9.2.2.2.2.2.2.2.2.2.2.length r9.2.2.2.2.2.2.2.2.2.2.length)<|(jT n r9.2.1 r9.2.2.1 r9.2.2.2.1 r9.2.2.2.2.1 r9.2.2.2.2.2.1 r9.2.2.2.2.2.2.1 r9.2.2.2.2.2.2.2.1 r9.2.2.2.2.2.2.2.2.1 r9.2.2.2.2.2.2.2.2.2.1 r9.2.2.2.2.2.2.2.2.2.2).bind λtw=>ck (bL vl.length vl.length (sub ([(bD.mk (⟨#[102,108,111,111,114,115]⟩) tw.1)]:List bD) 0 1).length 1 24)<|jy (vl++(sub ([(bD.mk (⟨#[102,108,111,111,114,115]⟩) tw.1)]:List bD) 0 1)) λT5=>ck (be tw.2.2.2.2.2.2.2.2.2.2.length tw.2.2.2.2.2.2.2.2.2.2.length)<|(jU n tw.2.1 tw.2.2.1 tw.2.2.2.1 tw.2.2.2.2.1 tw.2.2.2.2.2.1 tw.2.2.2.2.2.2.1 tw.2.2.2.2.2.2.2.1 tw.2.2.2.2.2.2.2.2.1 tw.2.2.2.2.2.2.2.2.2.1 tw.2.2.2.2.2.2.2.2.2.2).bind λtt=>ck (bL T5.length T5.length (sub ([(bD.mk (⟨#[104,101,105,103,104,116]⟩) tt.1)]:List bD) 0 1).length 1 24)<|jy (T5++(sub ([(bD.mk (⟨#[104,101,105,103,104,116]⟩) tt.1)]:List bD) 0 1)) λT4=>ck (be tt.2.2.2.2.2.2.2.2.2.2.length tt.2.2.2.2.2.2.2.2.2.2.length)<|(kV n tt.2.1 tt.2.2.1 tt.2.2.2.1 tt.2.2.2.2.1 tt.2.2.2.2.2.1 tt.2.2.2.2.2.2.1 tt.2.2.2.2.2.2.2.1 tt.2.2.2.2.2.2.2.2.1 tt.2.2.2.2.2.2.2.2.2.1 tt.2.2.2.2.2.2.2.2.2.2).bind λtj=>ck (bL T4.length T4.length (sub ([(bD.mk (⟨#[104,111,109,101,115]⟩) tj.1)]:List bD) 0 1).length 1 24)<|jy (T4++(sub ([(bD.mk (⟨#[104,111,109,101,115]⟩) tj.1)]:List bD) 0 1)) λr16=>ck (be tj.2.2.2.2.2.2.2.2.2.2.length tj.2.2.2.2.2.2.2.2.2.2.length)<|(iZ n tj.2.1 tj.2.2.1 tj.2.2.2.1 tj.2.2.2.2.1 tj.2.2.2.2.2.1 tj.2.2.2.2.2.2.1 tj.2.2.2.2.2.2.2.1 tj.2.2.2.2.2.2.2.2.1 tj.2.2.2.2.2.2.2.2.2.1 tj.2.2.2.2.2.2.2.2.2.2).bind λth=>ck (bL r16.length r16.length (sub ([(bD.mk (⟨#[114,117,110,111,102,102]⟩) th.1)]:List bD) 0 1).length 1 24)<|jy (r16++(sub ([(bD.mk (⟨#[114,117,110,111,102,102]⟩) th.1)]:List bD) 0 1)) λT3=>ck (be th.2.2.2.2.2.2.2.2.2.2.length th.2.2.2.2.2.2.2.2.2.2.length)<|(jE n th.2.1 th.2.2.1 th.2.2.2.1 th.2.2.2.2.1 th.2.2.2.2.2.1 th.2.2.2.2.2.2.1 th.2.2.2.2.2.2.2.1 th.2.2.2.2.2.2.2.2.1 th.2.2.2.2.2.2.2.2.2.1 th.2.2.2.2.2.2.2.2.2.2).bind λtg=>ck (bL T3.length T3.length (sub ([(bD.mk (⟨#[115,101,116,98,97,99,107]⟩) tg.1)]:List bD) 0 1).length 1 24)<|jy (T3++(sub ([(bD.mk (⟨#[115,101,116,98,97,99,107]⟩) tg.1)]:List bD) 0 1)) λT2=>ck (be tg.2.2.2.2.2.2.2.2.2.2.length tg.2.2.2.2.2.2.2.2.2.2.length)<|(jF n tg.2.1 tg.2.2.1 tg.2.2.2.1 tg.2.2.2.2.1 tg.2.2.2.2.2.1 tg.2.2.2.2.2.2.1 tg.2.2.2.2.2.2.2.1 tg.2.2.2.2.2.2.2.2.1 tg.2.2.2.2.2.2.2.2.2.1 tg.2.2.2.2.2.2.2.2.2.2).bind λr21=>ck (bL T2.length T2.length (sub ([(bD.mk (⟨#[116,114,97,102,102,105,99]⟩) r21.1)]:List bD) 0 1).length 1 24)<|jy (T2++(sub ([(bD.mk (⟨#[116,114,97,102,102,105,99]⟩) r21.1)]:List bD) 0 1)) λHJ=>ck (be (sub HJ 0 HJ.length).length HJ.length)<|some (sub HJ 0 HJ.length)
def yH(a0:Int):Option (Int×Bool):=
 ((bif (a0==0)then some (a0==0)else(bif (a0==1)then some (a0==1)else(bif (a0==2)then some (a0==2)else some (a0==3))))).bind λv1=>(bif v1 then some (0,true)else((bif (a0==9)then some (a0==9)else some (a0==15))).bind λv2=>(bif v2 then some (1,true)else(bif (a0==16)then some (3,true)else(bif decide (a0>=0)then some (2,(decide (a0<17)))else some (2,false)))))
def xq(n:Nat)(rc:(bU)->(Int)->Option Int)(a0:bU)(a1:Int):Stp (Int×Int) Int
 |(v2,v3)=>(bif decide (v3<a0.args.length)then(b7 a0.args v3).bind λx1=>(rc (bU.mk x1.op x1.n x1.s x1.key x1.args) (i64.wrap (a1+1))).bind λr2=>some (.inl ((max v2 r2),(i64.wrap (v3+1))))else some (.inr v2))
def zY(rc:(bU)->(Int)->Option Int)(a0:bU)(a1:Int):Option Int:=
 (yH a0.op).bind λr1=>((bif (!r1.2)then some true else(bif (r1.1 !=a0.args.length)then some true else some (decide (a1>=12))))).bind λv1=>(bif v1 then some 13 else(iter (xq n rc a0 a1) n (0,0)).bind λw1=>some (i64.wrap (w1+1)))
def Ei(rc:(bU)->(Int)->Option Int):ca xx:=⟨[.d (.st SI.Expr),.d (.int .i64)],[.d (.int .i64)],λa=>rc a.1 a.2.1,none⟩
def sj(n:Nat):Nat->(bU)->(Int)->Option Int
 | 0=>λ_ _=>none
 |m+1=>zY n (sj n m)
def Pk(a0:bU)(a1:Int):Option Int:=sj n n a0 a1
def Hw(a0:bU):Option Bool:=
 (Pk n (bU.mk a0.op a0.n a0.s a0.key a0.args) 0).bind λr1=>some (decide (r1<=12))
def wG:Option (List ByteArray):=
 ck (be (sub ([⟨#[97,114,101,97]⟩,⟨#[99,111,118,101,114]⟩,⟨#[102,108,111,111,114]⟩,⟨#[102,108,111,111,114,115]⟩,⟨#[104,101,105,103,104,116]⟩,⟨#[104,111,109,101,115]⟩,⟨#[114,117,110,111,102,102]⟩,⟨#[115,101,116,98,97,99,107]⟩,⟨#[116,114,97,102,102,105,99]⟩]:List ByteArray) 0 9).length 9)<|some (sub ([⟨#[97,114,101,97]⟩,⟨#[99,111,118,101,114]⟩,⟨#[102,108,111,111,114]⟩,⟨#[102,108,111,111,114,115]⟩,⟨#[104,101,105,103,104,116]⟩,⟨#[104,111,109,101,115]⟩,⟨#[114,117,110,111,102,102]⟩,⟨#[115,101,116,98,97,99,107]⟩,⟨#[116,114,97,102,102,105,99]⟩]:List ByteArray) 0 9)
mutual
def toE:bU->ET
 |⟨op,_,s,_,args⟩=>.mk op s (Hy args)
def Hy:List bU->List ET
 |[]=>[]
 |x::xs=>toE x::Hy xs
end
def toD(d:gP):ByteArray×ET:=(d.name,.mk d.iu d.kq (Hy d.el))
def lI(a0:List gP):Option ((List gP)×(List (List Int))):=ck (Nat.ble (rk (a0.map toD)) 4000000)<|some (a0,oH (a0.map toD))
def qN(a0:List Int)(a1:Int):Option (List Int):=match a0 with
 |[x]=>ck (decide (0<=a1)&&decide (a1<=1000000000000))<|some (List.replicate a1.toNat x)
 |_=>none
def RF(a0:List Int)(a1:Int):Stp Int (Unit⊕Int)
 |v1=>(bif decide (v1<a0.length)then(b7 a0 v1).bind λx1=>(bif (a1==x1)then(some v1).map λa=>.inr (.inr a)else some (.inl (i64.wrap (v1+1))))else some (.inr (.inl ())))
def Ej(a0:List Int)(a1:Int):Option Int:=
 dS (iter (RF a0 a1) n 0) λ()=>some (-1)
def rq(a0:List Int)(a1:Int):Option Bool:=
 (Ej n a0 a1).bind λr1=>some (decide (r1>=0))
def gD(a0:pE)(r1:List Int)(x2:Int):Stp (Int×Int×(List Int)×(List Int)) (Int×(List Int)×(List Int))
 |(v4,v5,v6,v7)=>(bif decide (v5<a0.uses.length)then((b7 a0.uses v5).bind λx3=>(ck (cx v5 r1.length)<|(b7 v6 ((0:Nat)+v5:Int)).bind λx4=>(bif decide (x4<0)then(rq n x3 x2).bind λr2=>some r2 else some false)).bind λv8=>(bif v8 then ck (cx x2 r1.length)<|(b7 v6 ((0:Nat)+x2:Int)).bind λx5=>ck (cx v5 r1.length)<|(b7 v6 ((0:Nat)+v5:Int)).bind λx6=>ck (bL (UJ (v4.toNat) v7).length (v7.length-v4.toNat) (sub ([v5]:List Int) 0 1).length 1 8)<|jy ((UJ (v4.toNat) v7)++(sub ([v5]:List Int) 0 1)) λr3=>ck (be (0+r3.length) r3.length)<|some ((0:Nat),(v6.set ((0:Nat)+v5:Int).toNat (i64.wrap (x5+1))),r3)else ck (be ((v4.toNat)+(v7.length-v4.toNat)) v7.length)<|some ((v4.toNat:Nat),v6,v7)):Option (Int×(List Int)×(List Int))).bind λ(v9,v10,v11)=>ck (be ((v9.toNat)+(v11.length-v9.toNat)) v11.length)<|some (.inl ((v9.toNat:Nat),(i64.wrap (v5+1)),v10,v11))else ck (be ((v4.toNat)+(v7.length-v4.toNat)) v7.length)<|some (.inr ((v4.toNat:Nat),v6,v7)))
def dX(a0:pE)(r1:List Int):Stp (Int×(List Int)×(List Int)) (List Int)
 |(v1,v2,v3)=>(bif (decide ((((v3.length-(v1:Int).toNat):Nat):Int)>0))then ck (cx 0 (v3.length-v1.toNat))<|(b7 v3 ((v1.toNat:Nat)+0:Int)).bind λx2=>ck (sI 1 ((v3.length-v1.toNat):Nat) (v3.length-v1.toNat))<|ck (be ((v1.toNat+1)+((v3.length-v1.toNat)-1)) v3.length)<|(iter (gD n a0 r1 x2) n (((v1.toNat+1):Nat),0,v2,v3)).bind λ(w1,w2,w3)=>ck (be ((w1.toNat)+(w3.length-w1.toNat)) w3.length)<|some (.inl ((w1.toNat:Nat),w2,w3))else some (.inr v2))
def jY(a0:pE)(a1:Int):Option (List Int):=
 ck (be (sub ([(-1)]:List Int) 0 1).length 1)<|(qN (sub ([(-1)]:List Int) 0 1) a0.defs.length).bind λr1=>ck (cx a1 r1.length)<|(b7 r1 ((0:Nat)+a1:Int)).bind λx1=>ck (be (0+1) ([a1]:List Int).length)<|(iter (dX n a0 r1) n ((0:Nat),(r1.set ((0:Nat)+a1:Int).toNat 0),([a1]:List Int))).bind λw4=>ck (be (sub w4 0 r1.length).length r1.length)<|some (sub w4 0 r1.length)
def cmp_isNaN_string(a0:ByteArray):Option Bool:=
 some (!(ByteArray.toList a0==ByteArray.toList a0))
def nO(a0:ByteArray)(a1:ByteArray):Option Int:=
 (cmp_isNaN_string a0).bind λr1=>(cmp_isNaN_string a1).bind λr2=>(bif r1 then(bif r2 then some 0 else some (-1))else(bif r2 then some 1 else(bif (UF a0 a1)then some (-1)else(bif (!(UF a0 a1 || ByteArray.toList a0==ByteArray.toList a1))then some 1 else some 0))))
def lZ(a0:List ByteArray)(a1:List ByteArray):Stp Int (Unit⊕Int)
 |v1=>(bif decide (v1<a0.length)then(b7 a0 v1).bind λx1=>(bif decide (v1>=a1.length)then(some 1).map λa=>.inr (.inr a)else(b7 a1 v1).bind λx2=>(nO x1 x2).bind λr1=>(bif (r1 !=0)then(some r1).map λa=>.inr (.inr a)else some (.inl (i64.wrap (v1+1)))))else some (.inr (.inl ())))
def l5(a0:List ByteArray)(a1:List ByteArray):Option Int:=
 dS (iter (lZ a0 a1) n 0) λ()=>(bif decide (a0.length<(a1.length:Int))then some (-1)else some 0)
def mI(a0:Int)(a1:List Bool):Option (Bool×(List Bool)):=
 ck (cx a0 a1.length)<|(b7 a1 ((0:Nat)+a0:Int)).bind λx1=>ck (be a1.length a1.length)<|some ((!x1),a1)
def jZ(a0:List Int):Stp (Int×(List Bool)) ((List Bool)⊕(Int×(List Bool)))
 |(v1,v2)=>(bif decide (v1<a0.length)then(b7 a0 v1).bind λx1=>ck (be v2.length v2.length)<|(mI x1 v2).bind λr1=>(bif r1.1 then(ck (be r1.2.length r1.2.length)<|some (v1,r1.2)).map λa=>.inr (.inr a)else ck (be r1.2.length r1.2.length)<|some (.inl ((i64.wrap (v1+1)),r1.2)))else ck (be v2.length v2.length)<|some (.inr (.inl v2)))
def mZ(a0:List Int)(a1:List Bool):Option (Int×(List Bool)):=
 ck (be a1.length a1.length)<|dS (iter (jZ a0) n (0,a1)) λw1=>ck (be w1.length w1.length)<|some ((-1),w1)
def iO(a0:List Int)(a1:List Bool):Option (Bool×(List Bool)):=
 ck (be a1.length a1.length)<|(mZ n a0 a1).bind λr1=>ck (be r1.2.length r1.2.length)<|some ((decide (r1.1>=0)),r1.2)
def ja(a0:pE):Stp (Int×Int×(List Bool)) (Int×(List Bool))
 |(v4,v5,v6)=>(bif decide (v5<a0.uses.length)then((b7 a0.uses v5).bind λx1=>ck (be v6.length v6.length)<|(iO n x1 v6).bind λr1=>(ck (cx v5 r1.2.length)<|(b7 r1.2 ((0:Nat)+v5:Int)).bind λx2=>(bif (!x2)then(bif (!r1.1)then(bif decide (v4<0)then some true else(b7 a0.defs v5).bind λx3=>(b7 a0.defs v4).bind λx4=>some (UF x3.name x4.name))else some false)else some false)).bind λv7=>(bif v7 then ck (be r1.2.length r1.2.length)<|some (v5,r1.2)else ck (be r1.2.length r1.2.length)<|some (v4,r1.2)):Option (Int×(List Bool))).bind λ(v8,v9)=>ck (be v9.length v9.length)<|some (.inl (v8,(i64.wrap (v5+1)),v9))else ck (be v6.length v6.length)<|some (.inr (v4,v6)))
def kW(a0:pE):Stp (Int×(List Int)×(List Bool)) (List Int)
 |(v1,v2,v3)=>(bif decide (v1<a0.defs.length)then ck (be v3.length v3.length)<|(iter (ja n a0) n ((-1),0,v3)).bind λ(w1,w2)=>ck (cx w1 w2.length)<|(b7 w2 ((0:Nat)+w1:Int)).bind λx5=>ck (bL v2.length v2.length (sub ([w1]:List Int) 0 1).length 1 8)<|jy (v2++(sub ([w1]:List Int) 0 1)) λr2=>ck (be r2.length r2.length)<|ck (be w2.length (w2.set ((0:Nat)+w1:Int).toNat true).length)<|some (.inl ((i64.wrap (v1+1)),r2,(w2.set ((0:Nat)+w1:Int).toNat true)))else ck (be v2.length v2.length)<|some (.inr v2))
def nP(a0:pE):Option (List Int):=
 ck (decide ((a0.defs.length:Int)<=a0.defs.length)&&(decide (0<=(a0.defs.length:Int))&&wC a0.defs.length 1))<|ck (be 0 ([]:List Int).length)<|ck (be ((a0.defs.length:Int).toNat) (List.replicate (a0.defs.length:Int).toNat false).length)<|(iter (kW n a0) n (0,[],(List.replicate (a0.defs.length:Int).toNat false))).bind λw3=>ck (be (sub w3 0 w3.length).length w3.length)<|some (sub w3 0 w3.length)
def iV(r1:List Int)(x2:List Int):Stp (Int×Int) Int
 |(v3,v4)=>(bif decide (v4<x2.length)then((b7 x2 v4).bind λx3=>(ck (cx x3 r1.length)<|(b7 r1 ((0:Nat)+x3:Int)).bind λx4=>(bif decide (x4>=0)then(bif decide (v3<0)then some true else ck (cx x3 r1.length)<|(b7 r1 ((0:Nat)+x3:Int)).bind λx5=>ck (cx v3 r1.length)<|(b7 r1 ((0:Nat)+v3:Int)).bind λx6=>some (decide (x5<x6)))else some false)).bind λv5=>(bif v5 then some x3 else some v3):Option Int).bind λv6=>some (.inl (v6,(i64.wrap (v4+1))))else some (.inr v3))
def lu(a0:Int)(a1:List gP)(a2:List (List Int))(r1:List Int):Stp (Int×(List ByteArray)) (Unit⊕((List gP)×(List (List Int))×(List ByteArray)))
 |(v1,v2)=>(b7 a1 v1).bind λx1=>ck (bL v2.length v2.length (sub ([x1.name]:List ByteArray) 0 1).length 1 16)<|jy (v2++(sub ([x1.name]:List ByteArray) 0 1)) λr2=>(b7 a2 v1).bind λx2=>(iter (iV r1 x2) n ((-1),0)).bind λw1=>(bif decide (w1<0)then(ck (be 0 ([]:List ByteArray).length)<|some (a1,a2,[])).map λa=>.inr (.inr a)else(bif (w1==a0)then(ck (!(r2.length==0)&&be r2.length r2.length)<|some (a1,a2,r2)).map λa=>.inr (.inr a)else ck (be r2.length r2.length)<|some (.inl (w1,r2))))
def j5(a0:Int)(a1:List gP)(a2:List (List Int)):Option ((List gP)×(List (List Int))×(List ByteArray)):=
 (jY n (pE.mk a1 a2) a0).bind λr1=>ck (be 0 ([]:List ByteArray).length)<|dS (iter (lu n a0 a1 a2 r1) n (a0,[])) λ()=>none
def iF(a0:List gP):Stp (Int×(List gP)×(List (List Int))×(List ByteArray)) ((List gP)×(List (List Int))×(List ByteArray))
 |(v1,v2,v3,v4)=>(bif decide (v1<a0.length)then((j5 n v1 v2 v3).bind λr1=>((bif r1.2.2.length==0 then some true else some false)).bind λv5=>(bif v5 then ck (be v4.length v4.length)<|some (r1.1,r1.2.1,v4)else((bif v4.length==0 then some true else(bif decide ((r1.2.2.length:Nat)<(v4.length:Int))then some true else(bif ((r1.2.2.length:Nat)==(v4.length:Int))then ck (be (sub r1.2.2 0 r1.2.2.length).length r1.2.2.length)<|ck (be (sub v4 0 v4.length).length v4.length)<|(l5 n (sub r1.2.2 0 r1.2.2.length) (sub v4 0 v4.length)).bind λr2=>some (decide (r2<0))else some false)))).bind λv6=>(bif v6 then ck (be r1.2.2.length r1.2.2.length)<|some (r1.1,r1.2.1,r1.2.2)else ck (be v4.length v4.length)<|some (r1.1,r1.2.1,v4))):Option ((List gP)×(List (List Int))×(List ByteArray))).bind λ(v7,v8,v9)=>ck (be v9.length v9.length)<|some (.inl ((i64.wrap (v1+1)),v7,v8,v9))else ck (be v4.length v4.length)<|some (.inr (v2,v3,v4)))
def jk(a0:List gP)(a1:List (List Int)):Option ((List gP)×(List (List Int))×(List ByteArray)):=
 ck (be 0 ([]:List ByteArray).length)<|(iter (iF n a0) n (0,a0,a1,[])).bind λ(w1,w2,w3)=>ck (be w3.length w3.length)<|some (w1,w2,w3)
def nY(r1:List ByteArray):Stp (Int×(List (ByteArray×Bool))) (List (ByteArray×Bool))
 |(v1,v2)=>(bif decide (v1<(r1.length:Nat))then ck (cx v1 r1.length)<|(b7 r1 ((0:Nat)+v1:Int)).bind λx1=>some (.inl ((i64.wrap (v1+1)),(Fj fW x1 true v2)))else some (.inr v2))
def lJ(a0:cB):Stp (Int×(List (ByteArray×Bool))) (Unit⊕((List Int)×(List ByteArray)×Int))
 |(v3,v4)=>(bif decide (v3<a0.defs.length)then(b7 a0.defs v3).bind λx2=>(bif ((gZ fW x2.name v4).getD false)then(some ([],[],5)).map λa=>.inr (.inr a)else some (.inl ((i64.wrap (v3+1)),(Fj fW x2.name true v4))))else some (.inr (.inl ())))
def nQ(a0:cB):Option ((List Int)×(List ByteArray)×Int):=
 (wG).bind λr1=>(iter (nY r1) n (0,([]:(List (ByteArray×Bool))))).bind λw1=>dS (iter (lJ a0) n (0,w1)) λ()=>(lI a0.defs).bind λr2=>(jk n r2.1 r2.2).bind λr3=>((bif r3.2.2.length==0 then some false else some true)).bind λv5=>(bif v5 then ck (be (sub r3.2.2 0 r3.2.2.length).length r3.2.2.length)<|some ([],(sub r3.2.2 0 r3.2.2.length),16)else(nP n (pE.mk r3.1 r3.2.1)).bind λr4=>ck (be (sub r4 0 r4.length).length r4.length)<|some ((sub r4 0 r4.length),[],0))
def zZ(a0:cO)(a1:bU):Option Bool:=
 some (ByteArray.toList a0.name==ByteArray.toList a1.s)
def Fq(a0:List cO)(a1:(cO×Unit)->Option Bool):Stp Int (Unit⊕Int)
 |v1=>(bif decide (v1<a0.length)then(b7 a0 v1).bind λx1=>(a1 (x1,())).bind λr1=>(bif r1 then(some v1).map λa=>.inr (.inr a)else some (.inl (i64.wrap (v1+1))))else some (.inr (.inl ())))
def rJ(a0:List cO)(a1:(cO×Unit)->Option Bool):Option Int:=
 dS (iter (Fq a0 a1) n 0) λ()=>some (-1)
def z8(a0:bD)(a1:bU):Option Bool:=
 some (ByteArray.toList a0.name==ByteArray.toList a1.key)
def yI(a0:Bool):Option Int:=
 (bif a0 then some 1 else some 0)
def wh(a0:Int)(a1:Int):Option Int:=
 (bif (a1==0)then some 0 else ck (a1 !=0)<|(ck (a1 !=0)<|((bif ((Int.tmod a0 a1) !=0)then some (!((decide ((Int.tmod a0 a1)<0))==(decide (a1<0))))else some false)).bind λv1=>(bif v1 then some (i64.wrap ((i64.wrap (Int.tdiv a0 a1))-1))else some (i64.wrap (Int.tdiv a0 a1))):Option Int).bind λv2=>some v2)
def Jm(a0:Int)(a1:Int)(a2:Int):Option Int:=
 (bif (a0==4)then some (i64.wrap (a1+a2))else(bif (a0==5)then some (i64.wrap (a1-a2))else(bif (a0==6)then some (i64.wrap (a1*a2))else(bif (a0==7)then(wh a1 a2).bind λr1=>some r1 else(bif (a0==8)then(bif (a2==0)then some 0 else(wh a1 a2).bind λr2=>some (i64.wrap (a1-(i64.wrap (r2*a2)))))else(bif (a0==10)then(yI (a1==a2)).bind λr3=>some r3 else(bif (a0==11)then(yI (decide (a1<a2))).bind λr4=>some r4 else(bif (a0==12)then(yI (decide (a1<=a2))).bind λr5=>some r5 else(bif (a0==13)then(bif (a1 !=0)then(yI (a2 !=0)).bind λr6=>some r6 else(yI false).bind λr7=>some r7)else(bif (a1 !=0)then(yI true).bind λr8=>some r8 else(yI (a2 !=0)).bind λr9=>some r9))))))))))
def jG(a0:List gP)(a1:List cO)(a2:List fJ)(a3:List bP)(a4:List ji)(a5:List ic)(a6:List dw)(a7:Int)(a8:List ByteArray)(a9:bU)(j0:List (ByteArray×Int)):Option (Int×(List (ByteArray×Int))):=
 (rJ n a1 (λ (y1:cO×Unit)=>zZ y1.1 (bU.mk a9.op a9.n a9.s a9.key a9.args))).bind λr1=>(bif decide (r1<0)then some (0,j0)else(b7 a1 r1).bind λx1=>(kQ n x1.rows (λ (y2:bD×Unit)=>z8 y2.1 (bU.mk a9.op a9.n a9.s a9.key a9.args))).bind λr2=>(bif decide (r2>=0)then(b7 x1.rows r2).bind λx2=>some (x2.n,j0)else some (x1.sf,j0)))
def fH(n:Nat)(rc:((List gP))->((List cO))->((List fJ))->((List bP))->((List ji))->((List ic))->((List dw))->(Int)->((List ByteArray))->(bU)->((List (ByteArray×Int)))->Option (Int×(List (ByteArray×Int))))(a0:List gP)(a1:List cO)(a2:List fJ)(a3:List bP)(a4:List ji)(a5:List ic)(a6:List dw)(a7:Int)(a8:List ByteArray)(a9:bU):Stp (Int×(List (ByteArray×Int))×(List Int)) ((List (ByteArray×Int))×(List Int))
 |(v1,v2,v3)=>(bif decide (v1<a9.args.length)then((b7 a9.args v1).bind λx1=>((bif (a9.op==16)then(bif decide (v1>0)then ck (cx 0 v3.length)<|(b7 v3 ((0:Nat)+0:Int)).bind λx2=>some (!((x2 !=0)==(v1==1)))else some false)else some false)).bind λv4=>(bif v4 then ck (bL v3.length v3.length (sub ([0]:List Int) 0 1).length 1 8)<|jy (v3++(sub ([0]:List Int) 0 1)) λr1=>ck (be r1.length r1.length)<|some (v2,r1)else(rc a0 a1 a2 a3 a4 a5 a6 a7 a8 (bU.mk x1.op x1.n x1.s x1.key x1.args) v2).bind λr2=>ck (bL v3.length v3.length (sub ([r2.1]:List Int) 0 1).length 1 8)<|jy (v3++(sub ([r2.1]:List Int) 0 1)) λr3=>ck (be r3.length r3.length)<|some (r2.2,r3)):Option ((List (ByteArray×Int))×(List Int))).bind λ(v5,v6)=>ck (be v6.length v6.length)<|some (.inl ((i64.wrap (v1+1)),v5,v6))else ck (be v3.length v3.length)<|some (.inr (v2,v3)))
def fT(rc:((List gP))->((List cO))->((List fJ))->((List bP))->((List ji))->((List ic))->((List dw))->(Int)->((List ByteArray))->(bU)->((List (ByteArray×Int)))->Option (Int×(List (ByteArray×Int))))(a0:List gP)(a1:List cO)(a2:List fJ)(a3:List bP)(a4:List ji)(a5:List ic)(a6:List dw)(a7:Int)(a8:List ByteArray)(a9:bU)(j0:List (ByteArray×Int)):Option (Int×(List (ByteArray×Int))):=
 ck (be 0 ([]:List Int).length)<|(iter (fH n rc a0 a1 a2 a3 a4 a5 a6 a7 a8 a9) n (0,j0,[])).bind λ(w1,w2)=>(bif (a9.op==0)then some (a9.n,w1)else(bif (a9.op==1)then some (((gZ fW a9.s w1).getD 0),w1)else(bif (a9.op==2)then(jG n a0 a1 a2 a3 a4 a5 a6 a7 a8 (bU.mk a9.op a9.n a9.s a9.key a9.args) w1).bind λr4=>some (r4.1,r4.2)else(bif (a9.op==3)then(gm n a8 a9.s).bind λr5=>(yI r5).bind λr6=>some (r6,w1)else(bif (a9.op==9)then ck (cx 0 w2.length)<|(b7 w2 ((0:Nat)+0:Int)).bind λx3=>some ((i64.wrap (0-x3)),w1)else(bif (a9.op==15)then ck (cx 0 w2.length)<|(b7 w2 ((0:Nat)+0:Int)).bind λx4=>(yI (x4==0)).bind λr7=>some (r7,w1)else(bif (a9.op==16)then ck (cx 0 w2.length)<|(b7 w2 ((0:Nat)+0:Int)).bind λx5=>(bif (x5 !=0)then ck (cx 1 w2.length)<|(b7 w2 ((0:Nat)+1:Int)).bind λx6=>some (x6,w1)else ck (cx 2 w2.length)<|(b7 w2 ((0:Nat)+2:Int)).bind λx7=>some (x7,w1))else ck (cx 0 w2.length)<|(b7 w2 ((0:Nat)+0:Int)).bind λx8=>ck (cx 1 w2.length)<|(b7 w2 ((0:Nat)+1:Int)).bind λx9=>(Jm a9.op x8 x9).bind λr8=>some (r8,w1))))))))
def El(rc:((List gP))->((List cO))->((List fJ))->((List bP))->((List ji))->((List ic))->((List dw))->(Int)->((List ByteArray))->(bU)->((List (ByteArray×Int)))->Option (Int×(List (ByteArray×Int)))):cN xx:=⟨[(.a [(.v (.sl (.st SI.Def))),(.v (.sl (.st SI.Table))),(.v (.sl (.st SI.Zone))),(.v (.sl (.st SI.Rule))),(.v (.sl (.st SI.Cap))),(.v (.sl (.st SI.View))),(.v (.sl (.st SI.gj))),(.v (.int .i64)),(.mp 0),(.v (.sl .str))]),(.v (.st SI.Expr))],[(0,.m .str (.int .i64))],[(.v (.int .i64))],[(0,.m .str (.int .i64))],λv=>rc (v.1) (v.2.1) (v.2.2.1) (v.2.2.2.1) (v.2.2.2.2.1) (v.2.2.2.2.2.1) (v.2.2.2.2.2.2.1) (v.2.2.2.2.2.2.2.1) (v.2.2.2.2.2.2.2.2.1) (v.2.2.2.2.2.2.2.2.2.1) (v.2.2.2.2.2.2.2.2.2.2)⟩
def j6(rc:((List gP))->((List cO))->((List fJ))->((List bP))->((List ji))->((List ic))->((List dw))->(Int)->((List ByteArray))->(bU)->((List (ByteArray×Int)))->Option (Int×(List (ByteArray×Int)))):ca xx:=⟨[],[.d .bool],λ_=>none,some (El rc)⟩
def bR(n:Nat):Nat->((List gP))->((List cO))->((List fJ))->((List bP))->((List ji))->((List ic))->((List dw))->(Int)->((List ByteArray))->(bU)->((List (ByteArray×Int)))->Option (Int×(List (ByteArray×Int)))
 | 0=>λ_ _ _ _ _ _ _ _ _ _ _=>none
 |m+1=>fT n (bR n m)
def gH(a0:List gP)(a1:List cO)(a2:List fJ)(a3:List bP)(a4:List ji)(a5:List ic)(a6:List dw)(a7:Int)(a8:List ByteArray)(a9:bU)(j0:List (ByteArray×Int)):Option (Int×(List (ByteArray×Int))):=bR n n a0 a1 a2 a3 a4 a5 a6 a7 a8 a9 j0
def je(n:Nat)(a1:List bD):Stp (Int×(List (ByteArray×Int))×(List (ByteArray×Bool))) ((List (ByteArray×Int))×(List (ByteArray×Bool)))
 |(v1,v2,v3)=>(bif decide (v1<a1.length)then((b7 a1 v1).bind λx1=>(bif (!((gZ fW x1.name v3).getD false))then some ((Fj fW x1.name x1.n v2),(Fj fW x1.name true v3))else some (v2,v3)):Option ((List (ByteArray×Int))×(List (ByteArray×Bool)))).bind λ(v4,v5)=>some (.inl ((i64.wrap (v1+1)),v4,v5))else some (.inr (v2,v3)))
def iq(a0:cB)(a2:List ByteArray)(w2:List (ByteArray×Bool))(r1:(List Int)×(List ByteArray)×Int):Stp (Int×(List (ByteArray×Int))×(List Int)) ((List (ByteArray×Int))×(List Int))
 |(v6,v7,v8)=>(bif decide (v6<(r1.1.length:Nat))then(ck (cx v6 r1.1.length)<|(b7 r1.1 ((0:Nat)+v6:Int)).bind λx2=>(b7 a0.defs x2).bind λx3=>((Hw n (bU.mk x3.iu x3.ly x3.kq x3.ik x3.el)).bind λr2=>(bif r2 then(gH n a0.defs a0.tables a0.zones a0.rules a0.caps a0.views a0.vi a0.hours a2 (bU.mk x3.iu x3.ly x3.kq x3.ik x3.el) v7).bind λr3=>ck (cx x2 ((a0.defs.length:Int).toNat))<|(b7 v8 ((0:Nat)+x2:Int)).bind λx4=>some (r3.2,(v8.set ((0:Nat)+x2:Int).toNat r3.1))else some (v7,v8)):Option ((List (ByteArray×Int))×(List Int))).bind λ(v9,v10)=>(bif (!((gZ fW x3.name w2).getD false))then ck (cx x2 ((a0.defs.length:Int).toNat))<|(b7 v10 ((0:Nat)+x2:Int)).bind λx5=>some ((Fj fW x3.name x5 v9),v10)else some (v9,v10)):Option ((List (ByteArray×Int))×(List Int))).bind λ(v11,v12)=>some (.inl ((i64.wrap (v6+1)),v11,v12))else some (.inr (v7,v8)))
def mJ(a0:cB)(a1:List bD)(a2:List ByteArray):Option ((List gP)×(List cO)×(List fJ)×(List bP)×(List ji)×(List ic)×(List dw)×Int×(List ByteArray)×(List (ByteArray×Int))×(List Int)):=
 (iter (je n a1) n (0,([]:(List (ByteArray×Int))),([]:(List (ByteArray×Bool))))).bind λ(w1,w2)=>ck (decide ((a0.defs.length:Int)<=a0.defs.length)&&(decide (0<=(a0.defs.length:Int))&&wC a0.defs.length 8))<|(nQ n a0).bind λr1=>(bif (r1.2.2 !=0)then ck (be ((a0.defs.length:Int).toNat) (List.replicate (a0.defs.length:Int).toNat (0:Int)).length)<|some (a0.defs,a0.tables,a0.zones,a0.rules,a0.caps,a0.views,a0.vi,a0.hours,a2,w1,(List.replicate (a0.defs.length:Int).toNat 0))else(iter (iq n a0 a2 w2 r1) n (0,w1,(List.replicate (a0.defs.length:Int).toNat 0))).bind λ(w3,w4)=>ck (be ((a0.defs.length:Int).toNat) w4.length)<|some (a0.defs,a0.tables,a0.zones,a0.rules,a0.caps,a0.views,a0.vi,a0.hours,a2,w3,w4))
def Aa(a0:cB)(a1:List bD)(a2:List ByteArray)(a3:bU):Option Int:=
 (Hw n (bU.mk a3.op a3.n a3.s a3.key a3.args)).bind λr1=>(bif (!r1)then some 0 else(mJ n a0 a1 a2).bind λr2=>(gH n r2.1 r2.2.1 r2.2.2.1 r2.2.2.2.1 r2.2.2.2.2.1 r2.2.2.2.2.2.1 r2.2.2.2.2.2.2.1 r2.2.2.2.2.2.2.2.1 r2.2.2.2.2.2.2.2.2.1 (bU.mk a3.op a3.n a3.s a3.key a3.args) r2.2.2.2.2.2.2.2.2.2.1).bind λr3=>some r3.1)
def Ab(a0:List au):Stp (Bool×Int×Int×Int×Int×Int) (Bool×Int×Int×Int×Int)
 |(v1,v2,v3,v4,v5,v6)=>(bif decide (v2<a0.length)then((b7 a0 v2).bind λx1=>(oP x1).bind λr1=>(bif (!r1)then some (v1,v3,v4,v5,v6)else(bif (!v1)then some (true,x1.x0,x1.y0,x1.x1,x1.y1)else some (v1,(min v3 x1.x0),(min v4 x1.y0),(max v5 x1.x1),(max v6 x1.y1)))):Option (Bool×Int×Int×Int×Int)).bind λ(v7,v8,v9,v10,v11)=>some (.inl (v7,(i64.wrap (v2+1)),v8,v9,v10,v11))else some (.inr (v1,v3,v4,v5,v6)))
def MW(a0:List au):Option (au×Bool):=
 (iter (Ab a0) n (false,0,0,0,0,0)).bind λ(w1,w2,w3,w4,w5)=>some ((au.mk w2 w3 w4 w5),w1)
def Jo(a0:List au):Option (au×Bool):=
 ((bif ((a0.length:Int)==0)then some true else(nX n a0).bind λr1=>some (!r1))).bind λv1=>(bif v1 then some ((au.mk 0 0 0 0),false)else(MW n a0).bind λr2=>some (r2.1,r2.2))
def xu(a0:aC):Option (List gQ):=
 ck (be (sub ([(au.mk a0.bm a0.bz a0.bk a0.bx)]:List au) 0 1).length 1)<|ck (be (sub ([(gQ.mk a0.cz a0.cC (sub ([(au.mk a0.bm a0.bz a0.bk a0.bx)]:List au) 0 1))]:List gQ) 0 1).length 1)<|some (sub ([(gQ.mk a0.cz a0.cC (sub ([(au.mk a0.bm a0.bz a0.bk a0.bx)]:List au) 0 1))]:List gQ) 0 1)
def Fs(a0:List d9)(a1:(d9×Unit)->Option Bool):Stp Int (Unit⊕Int)
 |v1=>(bif decide (v1<a0.length)then(b7 a0 v1).bind λx1=>(a1 (x1,())).bind λr1=>(bif r1 then(some v1).map λa=>.inr (.inr a)else some (.inl (i64.wrap (v1+1))))else some (.inr (.inl ())))
def rM(a0:List d9)(a1:(d9×Unit)->Option Bool):Option Int:=
 dS (iter (Fs a0 a1) n 0) λ()=>some (-1)
def kX(a0:List d9)(a1:(d9×Unit)->Option Bool):Option Bool:=
 (rM n a0 a1).bind λr1=>some (decide (r1>=0))
def nR(a0:Int)(a1:Int)(a2:Int):Option Bool:=
 (bif decide (a1<=a0)then some (decide (a0<=a2))else some false)
def Ac(a0:d9):Option Bool:=
 (nR a0.side 0 3).bind λr1=>(bif r1 then(nR a0.base 0 4096).bind λr2=>(bif r2 then(nR a0.num 0 4096).bind λr3=>(bif r3 then(nR a0.den 1 4096).bind λr4=>some r4 else some false)else some false)else some false)
def tV(a0:d9):Option Bool:=
 (Ac a0).bind λr1=>some (!r1)
def Ad(a0:au)(a1:List d9):Option Bool:=
 (oP a0).bind λr1=>(bif r1 then(kX n a1 (λ (y1:d9×Unit)=>tV y1.1)).bind λr2=>some (!r2)else some false)
def Tw(a0:List au)(a1:List au):Option Bool:=
 (oF n a0 a1).bind λr1=>some r1
def Ae(a0:List gQ):Stp Int (Unit⊕Bool)
 |v1=>(bif decide (v1<a0.length)then dS ((b7 a0 v1).bind λx1=>((bif decide (x1.z0<0)then some true else(bif decide (x1.z0>=x1.z1)then some true else(bif decide (x1.z1>4096)then some true else(bif ((x1.area.length:Int)==0)then some true else(nX n x1.area).bind λr1=>some (!r1)))))).bind λv2=>(bif v2 then((some false).map λa=>.inr (.inr a)).map .inr else(bif (v1==0)then some (.inl ())else(b7 a0 (i64.wrap (v1-1))).bind λx2=>((bif decide (x2.z1>x1.z0)then some true else(bif (x2.z1==x1.z0)then(Tw n x2.area x1.area).bind λr2=>some r2 else some false))).bind λv3=>(bif v3 then((some false).map λa=>.inr (.inr a)).map .inr else some (.inl ())))):Option ((Unit)⊕_)) λ()=>some (.inl (i64.wrap (v1+1)))else some (.inr (.inl ())))
def Hz(a0:List gQ):Option Bool:=
 (bif decide ((a0.length:Int)>80)then some false else dS (iter (Ae n a0) n 0) λ()=>some true)
def wH(a0:au)(a1:Int)(a2:Int):Option ME:=
 some (ME.mk (i64.wrap (a1-a0.x0)) (i64.wrap ((i64.wrap (a0.x1-1))-a1)) (i64.wrap (a2-a0.y0)) (i64.wrap ((i64.wrap (a0.y1-1))-a2)))
def tX(a0:Int)(a1:Int):Option Int:=
 ck (a1 !=0)<|(ck (a1 !=0)<|(bif decide ((Int.tmod a0 a1)<0)then some (i64.wrap ((i64.wrap (Int.tdiv a0 a1))-1))else some (i64.wrap (Int.tdiv a0 a1))):Option Int).bind λv1=>some v1
def xw(a0:au)(a1:List d9)(a2:Int)(a3:Int)(r1:ME):Stp (Int×Int) Int
 |(v1,v2)=>(bif decide (v2<a1.length)then(b7 a1 v2).bind λx1=>ck (cx x1.side 4)<|(b7 ([r1.a0,r1.a1,r1.a2,r1.a3]:List Int) x1.side).bind λx2=>(tX (i64.wrap (x1.num*x2)) x1.den).bind λr2=>some (.inl ((min v1 (i64.wrap (x1.base+r2))),(i64.wrap (v2+1))))else some (.inr v1))
def Jp(a0:au)(a1:List d9)(a2:Int)(a3:Int):Option Int:=
 (wH a0 a2 a3).bind λr1=>(iter (xw a0 a1 a2 a3 r1) n (4096,0)).bind λw1=>some w1
def nZ(a0:au)(a1:List d9)(x1:au)(x2:Int):Stp (Int×Int) Int
 |(v5,v6)=>(bif decide (v6<(2:Nat))then ck (cx v6 2)<|(b7 ([x1.y0,(i64.wrap (x1.y1-1))]:List Int) ((0:Nat)+v6:Int)).bind λx3=>(Jp n a0 a1 x2 x3).bind λr1=>some (.inl ((min v5 r1),(i64.wrap (v6+1))))else some (.inr v5))
def og(a0:au)(a1:List d9)(x1:au):Stp (Int×Int) Int
 |(v3,v4)=>(bif decide (v4<(2:Nat))then ck (cx v4 2)<|(b7 ([x1.x0,(i64.wrap (x1.x1-1))]:List Int) ((0:Nat)+v4:Int)).bind λx2=>(iter (nZ n a0 a1 x1 x2) n (v3,0)).bind λw1=>some (.inl (w1,(i64.wrap (v4+1))))else some (.inr v3))
def ru(a0:au)(a1:List d9)(a2:List au):Stp (Int×Int) Int
 |(v1,v2)=>(bif decide (v2<a2.length)then(b7 a2 v2).bind λx1=>(iter (og n a0 a1 x1) n (v1,0)).bind λw2=>some (.inl (w2,(i64.wrap (v2+1))))else some (.inr v1))
def xA(a0:au)(a1:List d9)(a2:List au):Option Int:=
 (iter (ru n a0 a1 a2) n (4096,0)).bind λw3=>some w3
def rz(a0:gQ)(a1:au)(a2:List d9):Option Bool:=
 (xA n a1 a2 a0.area).bind λr1=>some (decide (r1<a0.z1))
def l6(a0:List gQ)(a1:(gQ×Unit)->Option Bool):Stp Int (Unit⊕Int)
 |v1=>(bif decide (v1<a0.length)then(b7 a0 v1).bind λx1=>(a1 (x1,())).bind λr1=>(bif r1 then(some v1).map λa=>.inr (.inr a)else some (.inl (i64.wrap (v1+1))))else some (.inr (.inl ())))
def tY(a0:List gQ)(a1:(gQ×Unit)->Option Bool):Option Int:=
 dS (iter (l6 a0 a1) n 0) λ()=>some (-1)
def jr(a0:List gQ)(a1:(gQ×Unit)->Option Bool):Option Bool:=
 (tY n a0 a1).bind λr1=>some (decide (r1>=0))
def xB(a0:au)(a1:List d9)(a2:List gQ):Option Bool:=
 ((Ad n a0 a1).bind λr1=>(bif (!r1)then some true else(Hz n a2).bind λr2=>some (!r2))).bind λv1=>(bif v1 then some false else(jr n a2 (λ (y1:gQ×Unit)=>rz n y1.1 a0 a1)).bind λr3=>some (!r3))
def kg(a0:aC)(a1:au)(a2:bP):Option Bool:=
 (xu a0).bind λr1=>ck (be (sub ([(d9.mk a2.gS a2.hZ a2.i9 a2.jj)]:List d9) 0 1).length 1)<|ck (be (sub r1 0 r1.length).length r1.length)<|(xB n a1 (sub ([(d9.mk a2.gS a2.hZ a2.i9 a2.jj)]:List d9) 0 1) (sub r1 0 r1.length)).bind λr2=>some (!r2)
def iw(a0:mF)(a1:(aC×Unit)->Option Bool):Option Bool:=
 (gu n a0.aE a1).bind λr1=>some r1
def ko(a0:aC)(a1:bP):Option Bool:=
 ck (decide (0<=a0.use)&&decide (a0.use<=i64.bits))<|some ((bits .and .i64 a1.uses (i64.wrap (1*2 ^ a0.use.toNat)))==0)
def akE(a0:au)(a1:au):Option (Int×Int):=
 some ((i64.wrap ((max a0.x0 a1.x0)-(min a0.x1 a1.x1))),(i64.wrap ((max a0.y0 a1.y0)-(min a0.y1 a1.y1))))
def Su(a0:au)(a1:au):Option Int:=
 ((oP a0).bind λr1=>(bif (!r1)then some true else(oP a1).bind λr2=>some (!r2))).bind λv1=>(bif v1 then some (-1)else(akE a0 a1).bind λr3=>some (max (max 0 r3.1) r3.2))
def dQ(a0:iL)(a1:mF)(a2:aC)(a3:bP):Option Bool:=
 ((bif (a0.lot==a1.dE)then some true else(oP (au.mk a0.ej a0.ef a0.eh a0.ee)).bind λr1=>(bif (!r1)then some true else(bif decide (a0.eS<0)then some true else some (decide (a0.eS>=6)))))).bind λv1=>(bif v1 then some false else((bif (a2.use==a3.uses)then(bif (a0.eS==a3.other)then some true else(bif (a2.use==a3.other)then some (a0.eS==a3.uses)else some false))else(bif (a2.use==a3.other)then some (a0.eS==a3.uses)else some false))).bind λv2=>(bif v2 then(Su (au.mk a2.bm a2.bz a2.bk a2.bx) (au.mk a0.ej a0.ef a0.eh a0.ee)).bind λr2=>some (decide (r2<a3.n))else some false))
def Em(a0:List iL)(a1:(iL×Unit)->Option Bool):Stp Int (Unit⊕Int)
 |v1=>(bif decide (v1<a0.length)then(b7 a0 v1).bind λx1=>(a1 (x1,())).bind λr1=>(bif r1 then(some v1).map λa=>.inr (.inr a)else some (.inl (i64.wrap (v1+1))))else some (.inr (.inl ())))
def qE(a0:List iL)(a1:(iL×Unit)->Option Bool):Option Int:=
 dS (iter (Em a0 a1) n 0) λ()=>some (-1)
def kr(a0:List iL)(a1:(iL×Unit)->Option Bool):Option Bool:=
 (qE n a0 a1).bind λr1=>some (decide (r1>=0))
def rO(a0:mF)(a1:bP)(a2:aC):Option Bool:=
 (kr n a0.fR (λ (y1:iL×Unit)=>dQ y1.1 a0 a2 a1)).bind λr1=>some r1
def ku(a0:aC)(a1:mF)(a2:bP):Option Bool:=
 (rO n a1 a2 a0).bind λr1=>some r1
def ng(a0:mF)(a1:bP):Option Bool:=
 (bif (a1.kind==0)then(nN n (cB.mk a0.fh a0.ez a0.eK a0.eQ a0.fi a0.eM a0.ga a0.eR) (jN.mk a0.sL a0.nb a0.kh a0.pd) (aG.mk a0.dE a0.ii)).bind λr1=>ck (be (sub r1 0 r1.length).length r1.length)<|(Aa n (cB.mk a0.fh a0.ez a0.eK a0.eQ a0.fi a0.eM a0.ga a0.eR) (sub r1 0 r1.length) a0.zones (bU.mk a1.ky a1.m7 a1.m6 a1.i8 a1.fS)).bind λr2=>some (r2==0)else(bif (a1.kind==1)then(Jo n a0.kh).bind λr3=>(iw n a0 (λ (y1:aC×Unit)=>kg n y1.1 r3.1 a1)).bind λr4=>some r4 else(bif (a1.kind==2)then(iw n a0 (λ (y2:aC×Unit)=>ko y2.1 a1)).bind λr5=>some r5 else(bif (a1.kind==3)then(iw n a0 (λ (y3:aC×Unit)=>ku n y3.1 a0 a1)).bind λr6=>some r6 else some false))))
def vD(a0:au)(a1:au):Option Bool:=
 (bif decide ((max a1.x0 a0.x0)<(min a1.x1 a0.x1))then some (decide ((max a1.y0 a0.y0)<(min a1.y1 a0.y1)))else some false)
def HV(a0:List au)(a1:(au×Unit)->Option Bool):Stp Int (Unit⊕Int)
 |v1=>(bif decide (v1<a0.length)then(b7 a0 v1).bind λx1=>(a1 (x1,())).bind λr1=>(bif r1 then(some v1).map λa=>.inr (.inr a)else some (.inl (i64.wrap (v1+1))))else some (.inr (.inl ())))
def tZ(a0:List au)(a1:(au×Unit)->Option Bool):Option Int:=
 dS (iter (HV a0 a1) n 0) λ()=>some (-1)
def jv(a0:List au)(a1:(au×Unit)->Option Bool):Option Bool:=
 (tZ n a0 a1).bind λr1=>some (decide (r1>=0))
def En(a0:au)(a1:List au):Option Bool:=
 (jv n a1 (λ (y1:au×Unit)=>vD y1.1 a0)).bind λr1=>some r1
def Tx(a0:List au)(a1:List au):Option Bool:=
 (jv n a0 (λ (y1:au×Unit)=>En n y1.1 a1)).bind λr1=>some r1
def qO(a0:gQ)(a1:gM):Option Bool:=
 (bif decide (a0.z1>a1.top)then(Tx n a0.area a1.area).bind λr1=>some r1 else some false)
def vE(a0:List gM)(a1:Int)(a2:List gQ):Stp Int (Unit⊕Bool)
 |v1=>(bif decide (v1<a0.length)then dS ((b7 a0 v1).bind λx1=>((bif (x1.lot !=a1)then some true else(nX n x1.area).bind λr2=>some (!r2))).bind λv2=>(bif v2 then some (.inl ())else(jr n a2 (λ (y1:gQ×Unit)=>qO n y1.1 x1)).bind λr3=>(bif r3 then((some false).map λa=>.inr (.inr a)).map .inr else some (.inl ()))):Option ((Unit)⊕_)) λ()=>some (.inl (i64.wrap (v1+1)))else some (.inr (.inl ())))
def Eo(a0:List gM)(a1:Int)(a2:List gQ):Option Bool:=
 (Hz n a2).bind λr1=>(bif (!r1)then some false else dS (iter (vE n a0 a1 a2) n 0) λ()=>some true)
def nk(a0:aC)(a1:eY)(a2:aG):Option Bool:=
 (xu a0).bind λr1=>ck (be (sub r1 0 r1.length).length r1.length)<|(Eo n a1.bj a2.lot (sub r1 0 r1.length)).bind λr2=>some (!r2)
def jP(a0:ByteArray)(a1:Bool)(a2:List ByteArray):Option (List ByteArray):=
 ((bif a1 then ck (be (sub a2 0 a2.length).length a2.length)<|(gm n (sub a2 0 a2.length) a0).bind λr1=>some (!r1)else some false)).bind λv1=>(bif v1 then ck (bL a2.length a2.length (sub ([a0]:List ByteArray) 0 1).length 1 16)<|jy (a2++(sub ([a0]:List ByteArray) 0 1)) λr2=>ck (be r2.length r2.length)<|some r2 else ck (be a2.length a2.length)<|some a2)
def nu(a0:eY)(r1:mF×Int)(r2:List Int):Stp (Int×(List ByteArray)) (List ByteArray)
 |(v1,v2)=>(bif decide (v1<(r2.length:Nat))then ck (cx v1 r2.length)<|(b7 r2 ((0:Nat)+v1:Int)).bind λx1=>(b7 a0.az x1).bind λx2=>(b7 a0.az x1).bind λx3=>(ng n r1.1 x3).bind λr3=>ck (be v2.length v2.length)<|(jP n x2.name r3 v2).bind λr4=>ck (be r4.length r4.length)<|some (.inl ((i64.wrap (v1+1)),r4))else ck (be v2.length v2.length)<|some (.inr v2))
def qP(a0:eY)(a1:aG)(a2:Int):Option ((List ByteArray)×Int):=
 (zW n a0 a1).bind λr1=>(bif (r1.2 !=0)then some ([],r1.2)else(tT n (cB.mk a0.ch a0.b9 a0.b8 a0.az a0.ci a0.cd a0.cp a0.cg) r1.1.zones a2).bind λr2=>ck (be 0 ([]:List ByteArray).length)<|(iter (nu n a0 r1 r2) n (0,[])).bind λw1=>(iw n r1.1 (λ (y1:aC×Unit)=>nk n y1.1 a0 a1)).bind λr5=>ck (be w1.length w1.length)<|(jP n (⟨#[101,97,115,101,109,101,110,116]⟩) r5 w1).bind λr6=>ck (be (sub r6 0 r6.length).length r6.length)<|some ((sub r6 0 r6.length),0))
def MX(a0:aG):Stp (Int×(List aC)) (List aC)
 |(v1,v2)=>(bif decide (v1<a0.phases.length)then(b7 a0.phases v1).bind λx1=>ck (bL v2.length v2.length x1.aE.length x1.aE.length 72)<|jy (v2++x1.aE) λr1=>ck (be r1.length r1.length)<|some (.inl ((i64.wrap (v1+1)),r1))else ck (be v2.length v2.length)<|some (.inr v2))
def ny(a0:aG):Option (List aC):=
 ck (be 0 ([]:List aC).length)<|(iter (MX a0) n (0,[])).bind λw1=>ck (be (sub w1 0 w1.length).length w1.length)<|some (sub w1 0 w1.length)
def mK(a0:aC):Option Int:=
 (fQ a0).bind λr1=>(bif (!r1)then some 0 else ck (3 !=0)<|some (i64.wrap (Int.tdiv (i64.wrap ((i64.wrap ((i64.wrap (a0.cC-a0.cz))+3))-1)) 3)))
def pJ(a0:List aC):Stp (Int×Int) (Unit⊕Bool)
 |(v1,v2)=>(bif decide (v2<a0.length)then(b7 a0 v2).bind λx1=>(mK x1).bind λr1=>(bif (decide ((i64.wrap (v1*(i64.wrap (r1+1))))>2001))then(some true).map λa=>.inr (.inr a)else some (.inl ((i64.wrap (v1*(i64.wrap (r1+1)))),(i64.wrap (v2+1)))))else some (.inr (.inl ())))
def Af(a0:List aC):Option Bool:=
 dS (iter (pJ a0) n (1,0)) λ()=>some false
def yJ(a0:List bD):Option (List bD):=
 (bif a0.isEmpty then(both (some []) (ck (bL ([]:List bD).length 0 a0.length a0.length 24)<|jy ([]++a0) λr1=>ck (be (sub r1 0 r1.length).length r1.length)<|some (sub r1 0 r1.length)))else ck (bL ([]:List bD).length 0 a0.length a0.length 24)<|jy ([]++a0) λr2=>ck (be (sub r2 0 r2.length).length r2.length)<|some (sub r2 0 r2.length))
def kI(a1:List Int)(x1:eH):Stp (Int×Int×Int×(List bD)×(List aC)) ((Int×Int×(List bD)×(List aC))⊕((Int×Int×Int×Int×(List eH))⊕((Int×Int×(List eH))⊕(aG×Int×Int))))
 |(v7,v8,v9,v10,v11)=>(bif decide (v9<x1.aE.length)then dS ((b7 x1.aE v9).bind λx2=>(mK x2).bind λr4=>(b7 a1 v8).bind λx3=>((bif decide (x3<0)then some true else some (decide (x3>r4)))).bind λv12=>(bif v12 then(((some ((aG.mk 0 ([])),(0:Int),(1:Int))).map λa=>.inr (.inr a)).map λa=>.inr (.inr a)).map .inr else(uV (au.mk x2.bm x2.bz x2.bk x2.bx)).bind λr5=>((bif decide (x3>0)then some (x2.bm,x2.bz,x2.bk,x2.bx,x2.cz,(i64.wrap (x2.cz+(i64.wrap (3*(i64.wrap (r4-x3)))))),x2.use,x2.units,x2.extra)else some (x2.bm,x2.bz,x2.bk,x2.bx,x2.cz,x2.cC,x2.use,x2.units,x2.extra)):Option (Int×Int×Int×Int×Int×Int×Int×Int×Bool)).bind λ(v13,v14,v15,v16,v17,v18,v19,v20,v21)=>(bif decide (x3<r4)then ck (bL v11.length v11.length (sub ([(aC.mk v13 v14 v15 v16 v17 v18 v19 v20 v21)]:List aC) 0 1).length 1 72)<|jy (v11++(sub ([(aC.mk v13 v14 v15 v16 v17 v18 v19 v20 v21)]:List aC) 0 1)) λr6=>ck (be r6.length r6.length)<|ck (be v10.length v10.length)<|some (.inl ((i64.wrap (v7+(i64.wrap (x3*r5)))),(i64.wrap (v8+1)),v10,r6))else ck (be v11.length v11.length)<|ck (be v10.length v10.length)<|some (.inl ((i64.wrap (v7+(i64.wrap (x3*r5)))),(i64.wrap (v8+1)),v10,v11)))):Option ((Int×Int×(List bD)×(List aC))⊕_)) λ(v22,v23,v24,v25)=>ck (be v25.length v25.length)<|ck (be v24.length v24.length)<|some (.inl (v22,v23,(i64.wrap (v9+1)),v24,v25))else ck (be v11.length v11.length)<|ck (be v10.length v10.length)<|some (.inr (.inl (v7,v8,v10,v11))))
def kJ(a0:aG)(a1:List Int):Stp (Int×Int×Int×Int×(List eH)) ((Int×Int×(List eH))⊕(aG×Int×Int))
 |(v2,v3,v4,v5,v6)=>(bif decide (v4<a0.phases.length)then(b7 a0.phases v4).bind λx1=>(yJ x1.gives).bind λr3=>ck (be 0 ([]:List aC).length)<|ck (be r3.length r3.length)<|dS (iter (kI a1 x1) n (v2,v3,0,r3,[])) λ(w1,w2,w3,w4)=>ck (be (sub w4 0 w4.length).length w4.length)<|ck (be (sub w3 0 w3.length).length w3.length)<|ck (bL v6.length v6.length (sub ([(eH.mk (sub w4 0 w4.length) (sub w3 0 w3.length))]:List eH) 0 1).length 1 48)<|jy (v6++(sub ([(eH.mk (sub w4 0 w4.length) (sub w3 0 w3.length))]:List eH) 0 1)) λr7=>ck (be r7.length r7.length)<|some (.inl (w1,w2,(i64.wrap (v4+1)),v5,r7))else ck (be v6.length v6.length)<|some (.inr (.inl (v2,v5,v6))))
def gW(a0:aG)(a1:List Int):Option (aG×Int×Int):=
 (ny n a0).bind λr1=>((lQ n a0).bind λr2=>(bif (!r2)then some true else some (a1.length !=(r1.length:Int)))).bind λv1=>(bif v1 then some ((aG.mk 0 ([])),0,1)else ck (be 0 ([]:List eH).length)<|dS (iter (kJ n a0 a1) n (0,0,0,a0.lot,[])) λ(w5,w6,w7)=>ck (be (sub w7 0 w7.length).length w7.length)<|(ny n (aG.mk w6 (sub w7 0 w7.length))).bind λr8=>(bif ((r8.length:Int)==0)then some ((aG.mk 0 ([])),0,1)else ck (be (sub w7 0 w7.length).length w7.length)<|some ((aG.mk w6 (sub w7 0 w7.length)),w5,0)))
def dx(a0:List aD)(a1:Int)(a3:(aD×aD×Unit)->Option Int):Stp (Int×(List aD)) (List aD)
 |(v3,v4)=>((bif decide (v3>(a1:Int))then ck (cx v3 a0.length)<|(b7 v4 ((0:Nat)+v3:Int)).bind λx1=>ck (cx (i64.wrap (v3-1)) a0.length)<|(b7 v4 ((0:Nat)+(i64.wrap (v3-1)):Int)).bind λx2=>(a3 (x1,x2,())).bind λr1=>some (decide (r1<0))else some false)).bind λv5=>(bif v5 then ck (cx (i64.wrap (v3-1)) a0.length)<|(b7 v4 ((0:Nat)+(i64.wrap (v3-1)):Int)).bind λx3=>ck (cx v3 a0.length)<|(b7 v4 ((0:Nat)+v3:Int)).bind λx4=>ck (cx v3 a0.length)<|(b7 v4 ((0:Nat)+v3:Int)).bind λx5=>ck (cx (i64.wrap (v3-1)) a0.length)<|(b7 (v4.set ((0:Nat)+v3:Int).toNat x3) ((0:Nat)+(i64.wrap (v3-1)):Int)).bind λx6=>some (.inl ((i64.wrap (v3-1)),((v4.set ((0:Nat)+v3:Int).toNat x3).set ((0:Nat)+(i64.wrap (v3-1)):Int).toNat x4)))else some (.inr v4))
def dD(a0:List aD)(a1:Int)(a2:Int)(a3:(aD×aD×Unit)->Option Int):Stp (Int×(List aD)) (List aD)
 |(v1,v2)=>(bif decide (v1<(a2:Int))then(iter (dx a0 a1 a3) n (v1,v2)).bind λw1=>some (.inl ((i64.wrap (v1+1)),w1))else some (.inr v2))
def dn(a0:List aD)(a1:Int)(a2:Int)(a3:(aD×aD×Unit)->Option Int):Option (List aD):=
 (iter (dD n a0 a1 a2 a3) n ((i64.wrap (a1+1)),a0)).bind λw2=>some w2
def fB(a0:List aD)(a1:Int)(a2:Int)(a3:Int):Stp (Int×(List aD)) (List aD)
 |(v1,v2)=>(bif decide (v1<a3)then ck (cx (i64.wrap (a2+v1)) a0.length)<|(b7 v2 ((0:Nat)+(i64.wrap (a2+v1)):Int)).bind λx1=>ck (cx (i64.wrap (a1+v1)) a0.length)<|(b7 v2 ((0:Nat)+(i64.wrap (a1+v1)):Int)).bind λx2=>ck (cx (i64.wrap (a1+v1)) a0.length)<|(b7 v2 ((0:Nat)+(i64.wrap (a1+v1)):Int)).bind λx3=>ck (cx (i64.wrap (a2+v1)) a0.length)<|(b7 (v2.set ((0:Nat)+(i64.wrap (a1+v1)):Int).toNat x1) ((0:Nat)+(i64.wrap (a2+v1)):Int)).bind λx4=>some (.inl ((i64.wrap (v1+1)),((v2.set ((0:Nat)+(i64.wrap (a1+v1)):Int).toNat x1).set ((0:Nat)+(i64.wrap (a2+v1)):Int).toNat x2)))else some (.inr v2))
def dO(a0:List aD)(a1:Int)(a2:Int)(a3:Int)(a4:(aD×aD×Unit)->Option Int):Option (List aD):=
 (iter (fB a0 a1 a2 a3) n (0,a0)).bind λw1=>some w1
def dP(a0:List aD)(a2:Int)(a4:(aD×aD×Unit)->Option Int):Stp (Int×Int×(List aD)) (Int×(List aD))
 |(v1,v2,v3)=>(bif (v1 !=v2)then(bif decide (v1>v2)then ck (be a0.length v3.length)<|(dO n v3 (i64.wrap (a2-v1)) a2 v2 a4).bind λr1=>some (.inl ((i64.wrap (v1-v2)),v2,r1))else ck (be a0.length v3.length)<|(dO n v3 (i64.wrap (a2-v1)) (i64.wrap ((i64.wrap (a2+v2))-v1)) v1 a4).bind λr2=>some (.inl (v1,(i64.wrap (v2-v1)),r2)))else some (.inr (v1,v3)))
def iy(a0:List aD)(a1:Int)(a2:Int)(a3:Int)(a4:(aD×aD×Unit)->Option Int):Option (List aD):=
 (iter (dP n a0 a2 a4) n ((i64.wrap (a2-a1)),(i64.wrap (a3-a2)),a0)).bind λ(w1,w2)=>ck (be a0.length w2.length)<|(dO n w2 (i64.wrap (a2-w1)) a2 w1 a4).bind λr3=>some r3
def gX(a0:List aD)(a1:Int)(a4:(aD×aD×Unit)->Option Int):Stp (Int×Int) Int
 |(v1,v2)=>(bif decide (v1<v2)then ck (decide (0<=1)&&decide (1<=IntKind.u64.bits))<|ck (cx (i64.wrap ((IntKind.u64.wrap (i64.wrap (v1+v2)))/2 ^ (1:Int).toNat)) a0.length)<|(b7 a0 ((0:Nat)+(i64.wrap ((IntKind.u64.wrap (i64.wrap (v1+v2)))/2 ^ (1:Int).toNat)):Int)).bind λx1=>ck (cx a1 a0.length)<|(b7 a0 ((0:Nat)+a1:Int)).bind λx2=>(a4 (x1,x2,())).bind λr1=>(bif decide (r1<0)then some (.inl ((i64.wrap ((i64.wrap ((IntKind.u64.wrap (i64.wrap (v1+v2)))/2 ^ (1:Int).toNat))+1)),v2))else some (.inl (v1,(i64.wrap ((IntKind.u64.wrap (i64.wrap (v1+v2)))/2 ^ (1:Int).toNat)))))else some (.inr v1))
def fK(a0:List aD)(w1:Int):Stp (Int×(List aD)) (List aD)
 |(v3,v4)=>(bif decide (v3<(i64.wrap (w1-1)))then ck (cx (i64.wrap (v3+1)) a0.length)<|(b7 v4 ((0:Nat)+(i64.wrap (v3+1)):Int)).bind λx3=>ck (cx v3 a0.length)<|(b7 v4 ((0:Nat)+v3:Int)).bind λx4=>ck (cx v3 a0.length)<|(b7 v4 ((0:Nat)+v3:Int)).bind λx5=>ck (cx (i64.wrap (v3+1)) a0.length)<|(b7 (v4.set ((0:Nat)+v3:Int).toNat x3) ((0:Nat)+(i64.wrap (v3+1)):Int)).bind λx6=>some (.inl ((i64.wrap (v3+1)),((v4.set ((0:Nat)+v3:Int).toNat x3).set ((0:Nat)+(i64.wrap (v3+1)):Int).toNat x4)))else some (.inr v4))
def gY(a0:List aD)(a2:Int)(a4:(aD×aD×Unit)->Option Int):Stp (Int×Int) Int
 |(v5,v6)=>(bif decide (v5<v6)then ck (decide (0<=1)&&decide (1<=IntKind.u64.bits))<|ck (cx a2 a0.length)<|(b7 a0 ((0:Nat)+a2:Int)).bind λx7=>ck (cx (i64.wrap ((IntKind.u64.wrap (i64.wrap (v5+v6)))/2 ^ (1:Int).toNat)) a0.length)<|(b7 a0 ((0:Nat)+(i64.wrap ((IntKind.u64.wrap (i64.wrap (v5+v6)))/2 ^ (1:Int).toNat)):Int)).bind λx8=>(a4 (x7,x8,())).bind λr2=>(bif (!(decide (r2<0)))then some (.inl ((i64.wrap ((i64.wrap ((IntKind.u64.wrap (i64.wrap (v5+v6)))/2 ^ (1:Int).toNat))+1)),v6))else some (.inl (v5,(i64.wrap ((IntKind.u64.wrap (i64.wrap (v5+v6)))/2 ^ (1:Int).toNat)))))else some (.inr v5))
def fM(a0:List aD)(w3:Int):Stp (Int×(List aD)) (List aD)
 |(v7,v8)=>(bif decide (v7>w3)then ck (cx (i64.wrap (v7-1)) a0.length)<|(b7 v8 ((0:Nat)+(i64.wrap (v7-1)):Int)).bind λx9=>ck (cx v7 a0.length)<|(b7 v8 ((0:Nat)+v7:Int)).bind λx10=>ck (cx v7 a0.length)<|(b7 v8 ((0:Nat)+v7:Int)).bind λx11=>ck (cx (i64.wrap (v7-1)) a0.length)<|(b7 (v8.set ((0:Nat)+v7:Int).toNat x9) ((0:Nat)+(i64.wrap (v7-1)):Int)).bind λx12=>some (.inl ((i64.wrap (v7-1)),((v8.set ((0:Nat)+v7:Int).toNat x9).set ((0:Nat)+(i64.wrap (v7-1)):Int).toNat x10)))else some (.inr v8))
def fO(a0:List aD)(a1:Int)(a2:Int)(a3:Int)(a4:(aD×aD×Unit)->Option Int):Stp (Int×Int) Int
 |(v11,v12)=>(bif decide (v11<v12)then ck (decide (0<=1)&&decide (1<=IntKind.u64.bits))<|ck (cx (i64.wrap ((i64.wrap ((i64.wrap ((i64.wrap ((IntKind.u64.wrap (i64.wrap (a1+a3)))/2 ^ (1:Int).toNat))+a2))-1))-(i64.wrap ((IntKind.u64.wrap (i64.wrap (v11+v12)))/2 ^ (1:Int).toNat)))) a0.length)<|(b7 a0 ((0:Nat)+(i64.wrap ((i64.wrap ((i64.wrap ((i64.wrap ((IntKind.u64.wrap (i64.wrap (a1+a3)))/2 ^ (1:Int).toNat))+a2))-1))-(i64.wrap ((IntKind.u64.wrap (i64.wrap (v11+v12)))/2 ^ (1:Int).toNat)))):Int)).bind λx13=>ck (cx (i64.wrap ((IntKind.u64.wrap (i64.wrap (v11+v12)))/2 ^ (1:Int).toNat)) a0.length)<|(b7 a0 ((0:Nat)+(i64.wrap ((IntKind.u64.wrap (i64.wrap (v11+v12)))/2 ^ (1:Int).toNat)):Int)).bind λx14=>(a4 (x13,x14,())).bind λr3=>(bif (!(decide (r3<0)))then some (.inl ((i64.wrap ((i64.wrap ((IntKind.u64.wrap (i64.wrap (v11+v12)))/2 ^ (1:Int).toNat))+1)),v12))else some (.inl (v11,(i64.wrap ((IntKind.u64.wrap (i64.wrap (v11+v12)))/2 ^ (1:Int).toNat)))))else some (.inr v11))
def dm(rc:((List aD))->(Int)->(Int)->(Int)->((aD×aD×Unit)->Option Int)->Option (List aD))(a0:List aD)(a1:Int)(a2:Int)(a3:Int)(a4:(aD×aD×Unit)->Option Int):Option (List aD):=
 (bif ((i64.wrap (a2-a1))==1)then(iter (gX a0 a1 a4) n (a2,a3)).bind λw1=>(iter (fK a0 w1) n (a1,a0)).bind λw2=>some w2 else(bif ((i64.wrap (a3-a2))==1)then(iter (gY a0 a2 a4) n (a1,a2)).bind λw3=>(iter (fM a0 w3) n (a2,a0)).bind λw4=>some w4 else ck (decide (0<=1)&&decide (1<=IntKind.u64.bits))<|((bif (decide (a2>((i64.wrap ((IntKind.u64.wrap (i64.wrap (a1+a3)))/2 ^ (1:Int).toNat)):Int)))then some ((i64.wrap ((i64.wrap ((i64.wrap ((IntKind.u64.wrap (i64.wrap (a1+a3)))/2 ^ (1:Int).toNat))+a2))-a3)),(i64.wrap ((IntKind.u64.wrap (i64.wrap (a1+a3)))/2 ^ (1:Int).toNat)))else some (a1,a2)):Option (Int×Int)).bind λ(v9,v10)=>(iter (fO a0 a1 a2 a3 a4) n (v9,v10)).bind λw5=>(((bif decide (w5<a2)then some (decide (a2<((i64.wrap ((i64.wrap ((i64.wrap ((IntKind.u64.wrap (i64.wrap (a1+a3)))/2 ^ (1:Int).toNat))+a2))-w5)):Int)))else some false)).bind λv13=>(bif v13 then ck (be a0.length a0.length)<|(iy n a0 w5 a2 (i64.wrap ((i64.wrap ((i64.wrap ((IntKind.u64.wrap (i64.wrap (a1+a3)))/2 ^ (1:Int).toNat))+a2))-w5)) a4).bind λr4=>some r4 else some a0):Option ((List aD))).bind λv14=>(((bif decide (a1<w5)then some (decide (w5<((i64.wrap ((IntKind.u64.wrap (i64.wrap (a1+a3)))/2 ^ (1:Int).toNat)):Int)))else some false)).bind λv15=>(bif v15 then ck (be a0.length v14.length)<|(rc v14 a1 w5 (i64.wrap ((IntKind.u64.wrap (i64.wrap (a1+a3)))/2 ^ (1:Int).toNat)) a4).bind λr5=>some r5 else some v14):Option ((List aD))).bind λv16=>((bif (decide ((i64.wrap ((IntKind.u64.wrap (i64.wrap (a1+a3)))/2 ^ (1:Int).toNat))<((i64.wrap ((i64.wrap ((i64.wrap ((IntKind.u64.wrap (i64.wrap (a1+a3)))/2 ^ (1:Int).toNat))+a2))-w5)):Int)))then some (decide ((i64.wrap ((i64.wrap ((i64.wrap ((IntKind.u64.wrap (i64.wrap (a1+a3)))/2 ^ (1:Int).toNat))+a2))-w5))<a3))else some false)).bind λv17=>(bif v17 then ck (be a0.length v16.length)<|(rc v16 (i64.wrap ((IntKind.u64.wrap (i64.wrap (a1+a3)))/2 ^ (1:Int).toNat)) (i64.wrap ((i64.wrap ((i64.wrap ((IntKind.u64.wrap (i64.wrap (a1+a3)))/2 ^ (1:Int).toNat))+a2))-w5)) a3 a4).bind λr6=>some r6 else some v16)))
def jJ(rc:((List aD))->(Int)->(Int)->(Int)->((aD×aD×Unit)->Option Int)->Option (List aD)):ca xx:=⟨[.mut (.st SI.Change),.d (.int .i64),.d (.int .i64),.d (.int .i64),.du [(.st SI.Change),(.st SI.Change)] (.int .i64)],[.mu (.st SI.Change)],λa=>rc a.1 a.2.1 a.2.2.1 a.2.2.2.1 a.2.2.2.2.1,none⟩
def bW(n:Nat):Nat->((List aD))->(Int)->(Int)->(Int)->((aD×aD×Unit)->Option Int)->Option (List aD)
 | 0=>λ_ _ _ _ _=>none
 |m+1=>dm n (bW n m)
def fF(a0:List aD)(a1:Int)(a2:Int)(a3:Int)(a4:(aD×aD×Unit)->Option Int):Option (List aD):=bW n n a0 a1 a2 a3 a4
def dG(a0:List aD)(a1:Int)(a2:(aD×aD×Unit)->Option Int):Stp (Int×Int×(List aD)) (Int×(List aD))
 |(v1,v2,v3)=>(bif decide (v2<=a1)then ck (be a0.length v3.length)<|(dn n v3 v1 v2 a2).bind λr1=>some (.inl (v2,(i64.wrap (v2+20)),r1))else some (.inr (v1,v3)))
def dH(a0:List aD)(a1:Int)(a2:(aD×aD×Unit)->Option Int)(v4:Int):Stp (Int×Int×(List aD)) (Int×(List aD))
 |(v6,v7,v8)=>(bif decide (v7<=a1)then ck (be a0.length v8.length)<|(fF n v8 v6 (i64.wrap (v6+v4)) v7 a2).bind λr3=>some (.inl (v7,(i64.wrap (v7+(i64.wrap (2*v4)))),r3))else some (.inr (v6,v8)))
def gq(a0:List aD)(a1:Int)(a2:(aD×aD×Unit)->Option Int):Stp (Int×(List aD)) (List aD)
 |(v4,v5)=>(bif decide (v4<a1)then(iter (dH n a0 a1 a2 v4) n (0,(i64.wrap (2*v4)),v5)).bind λ(w3,w4)=>((bif decide ((i64.wrap (w3+v4))<a1)then ck (be a0.length w4.length)<|(fF n w4 w3 (i64.wrap (w3+v4)) a1 a2).bind λr4=>some r4 else some w4):Option ((List aD))).bind λv9=>some (.inl ((i64.wrap (v4*2)),v9))else some (.inr v5))
def nC(a0:List aD)(a1:Int)(a2:(aD×aD×Unit)->Option Int):Option (List aD):=
 (iter (dG n a0 a1 a2) n (0,20,a0)).bind λ(w1,w2)=>ck (be a0.length w2.length)<|(dn n w2 w1 a1 a2).bind λr2=>(iter (gq n a0 a1 a2) n (20,r2)).bind λw5=>some w5
def jl(a0:List aD)(a1:(aD×aD×Unit)->Option Int):Option (List aD):=
 ck (be a0.length a0.length)<|(nC n a0 (a0.length:Nat) a1).bind λr1=>some r1
def oh(a0:aD)(a1:aD):Option Int:=
 (cmp_Compare_int a0.cost a1.cost).bind λr1=>some r1
def mM(a0:eY)(a1:aG)(a2:Int):Option Bool:=
 (qP n a0 a1 a2).bind λr1=>(bif (r1.2==0)then some ((r1.1.length:Int)==0)else some false)
def oV(a0:List aC):Option (List aC):=
 some a0
def eD(x:(List aC))(l:(List Int)):Stp (Int×(List Int)) (Int×(List Int))
 |(v1,v2)=>((bif decide (v1>=0)then ck (cx v1 l.length)<|(b7 v2 ((0:Nat)+v1:Int)).bind λx1=>(b7 x v1).bind λx2=>(mK x2).bind λr1=>some (x1==(r1:Int))else some false)).bind λv3=>(bif v3 then ck (cx v1 l.length)<|(b7 v2 ((0:Nat)+v1:Int)).bind λx3=>some (.inl ((i64.wrap (v1-1)),(v2.set ((0:Nat)+v1:Int).toNat 0)))else some (.inr (v1,v2)))
def oJ(x:List aC):Option (List Int):=
 ck (decide ((x.length:Int)<=(x.length:Int))&&(decide (0<=(x.length:Int))&&wC (x.length:Int) 8))<|ck (be ((x.length:Int).toNat) (List.replicate (x.length:Int).toNat (0:Int)).length)<|some (List.replicate (x.length:Int).toNat (0:Int))
def kY(x:List aC)(l:List Int):Option (List Int⊕Unit):=
 (iter (eD x l) n ((i64.wrap ((l.length:Int)-1)),l)).bind λ(w1,w2)=>(bif decide (w1<0)then some (.inr ())else ck (cx w1 l.length)<|(b7 w2 ((0:Nat)+w1:Int)).bind λx4=>ck (cx w1 l.length)<|(b7 w2 ((0:Nat)+w1:Int)).bind λx5=>ck (be l.length (w2.set ((0:Nat)+w1:Int).toNat (i64.wrap (x4+1))).length)<|some (.inl (w2.set ((0:Nat)+w1:Int).toNat (i64.wrap (x4+1)))))
def jQ(x:List aC):Option (List (List Int)):=Pu (tF) (oJ) (kY n) n x
def nS:((List gP)×(List cO)×(List fJ)×(List bP)×(List ji)×(List ic)×(List dw)×Int×(List jN)×(List gM)×(List zT)×(List iL)×(List bD)×Int×(List eH)×Int×(List aD))->List Int->Option ((List gP)×(List cO)×(List fJ)×(List bP)×(List ji)×(List ic)×(List dw)×Int×(List jN)×(List gM)×(List zT)×(List iL)×(List bD)×Int×(List eH)×Int×(List aD))
 |(v1,v2,v3,v4,v5,v6,v7,v8,v9,v10,v11,v12,v13,v14,v15,v16,v17),yx=>(gW n (aG.mk v14 v15) yx).bind λr6=>(bif (r6.2.2==0)then ck (bL v17.length v17.length (sub ([(aD.mk yx r6.2.1)]:List aD) 0 1).length 1 32)<|jy (v17++(sub ([(aD.mk yx r6.2.1)]:List aD) 0 1)) λr7=>ck (be r7.length r7.length)<|some (v1,v2,v3,v4,v5,v6,v7,v8,v9,v10,v11,v12,v13,v14,v15,v16,r7)else ck (be v17.length v17.length)<|some (v1,v2,v3,v4,v5,v6,v7,v8,v9,v10,v11,v12,v13,v14,v15,v16,v17))
def kT(a2:Int)(w1:List gP)(w2:List cO)(w3:List fJ)(w4:List bP)(w5:List ji)(w6:List ic)(w7:List dw)(w8:Int)(w9:List jN)(vf:List gM)(vd:List zT)(HD:List iL)(HC:List bD)(HB:Int)(HA:List eH)(xc:List aD)(r8:List aD):Stp Int (Unit⊕((List Int)×Int×Int))
 |v18=>(bif decide (v18<(xc.length:Int))then ck (cx v18 xc.length)<|(b7 r8 ((0:Nat)+v18:Int)).bind λx1=>(gW n (aG.mk HB HA) x1.floors).bind λr9=>(mM n (eY.mk w1 w2 w3 w4 w5 w6 w7 w8 w9 vf vd HD HC) r9.1 a2).bind λvl=>(bif vl then(some (x1.floors,x1.cost,(0:Int))).map λa=>.inr (.inr a)else some (.inl (i64.wrap (v18+1))))else some (.inr (.inl ())))
def bT(a0:eY)(a1:aG)(a2:Int):Option ((List Int)×Int×Int):=
 (qP n a0 a1 a2).bind λr1=>(bif (r1.2 !=0)then some (([]:(List Int)),(0:Int),r1.2)else(ny n a1).bind λr2=>ck (be (sub r2 0 r2.length).length r2.length)<|(Af n (sub r2 0 r2.length)).bind λr3=>(bif r3 then some (([]:(List Int)),(0:Int),(6:Int))else(ny n a1).bind λr4=>ck (be (sub r4 0 r4.length).length r4.length)<|(oV (sub r4 0 r4.length)).bind λr5=>ck (be 0 ([]:List aD).length)<|(jQ n r5).bind λys=>(Q0 (nS n) ys (a0.ch,a0.b9,a0.b8,a0.az,a0.ci,a0.cd,a0.cp,a0.cg,a0.land,a0.bj,a0.windows,a0.built,a0.base,a1.lot,a1.phases,(0:Int),([]:List aD))).bind λ(ww:(List gP)×(List cO)×(List fJ)×(List bP)×(List ji)×(List ic)×(List dw)×Int×(List jN)×(List gM)×(List zT)×(List iL)×(List bD)×Int×(List eH)×Int×(List aD))=>match ww with|(w1,w2,w3,w4,w5,w6,w7,w8,w9,vf,vd,HD,HC,HB,HA,w16,xc)=>ck (be xc.length xc.length)<|(jl n xc (λ (y1:aD×aD×Unit)=>oh y1.1 y1.2.1)).bind λr8=>dS (iter (kT n a2 w1 w2 w3 w4 w5 w6 w7 w8 w9 vf vd HD HC HB HA xc r8) n (0:Int)) λ()=>some (([]:(List Int)),(0:Int),(4:Int))))
def Jq:Option Bool:=
 (yD 8).bind λr1=>(yD 2).bind λr2=>(bT n r1.1 r1.2 0).bind λr3=>(bT n r2.1 r1.2 0).bind λr4=>ck (be (sub ([1]:List Int) 0 1).length 1)<|(gW n r1.2 (sub ([1]:List Int) 0 1)).bind λr5=>ck (be (sub ([4]:List Int) 0 1).length 1)<|(gW n r1.2 (sub ([4]:List Int) 0 1)).bind λr6=>((bif ((r5.1.phases.length:Int) !=1)then some true else(bif ((r3.1.length:Int) !=1)then some true else(bif (r3.2.2 !=0)then some true else(bif (r4.2.2 !=4)then some true else(bif (r5.2.2 !=0)then some true else some (r6.2.2 !=1))))))).bind λv1=>(bif v1 then some false else(b7 r5.1.phases 0).bind λx1=>(bif ((x1.aE.length:Int) !=1)then some false else(b7 r3.1 0).bind λx2=>(bif (x2==2)then(bif (r3.2.1==40)then(bif (r5.2.1==20)then(b7 r5.1.phases 0).bind λx3=>(b7 x3.aE 0).bind λx4=>(bif (x4.cC==9)then(b7 r1.2.phases 0).bind λx5=>(b7 x5.aE 0).bind λx6=>(mK x6).bind λr7=>some (r7==4)else some false)else some false)else some false)else some false)))
def uf(rc:(bU)->(Int)->(Int)->Option Int)(a0:bU)(a1:Int)(a2:Int):Stp (Int×Int) Int
 |(v1,v2)=>((bif decide (v2<a0.args.length)then some (decide (v1<=a1))else some false)).bind λv3=>(bif v3 then(b7 a0.args v2).bind λx1=>(rc x1 (i64.wrap (a1-v1)) (i64.wrap (a2-1))).bind λr1=>some (.inl ((i64.wrap (v1+r1)),(i64.wrap (v2+1))))else some (.inr v1))
def Ag(rc:(bU)->(Int)->(Int)->Option Int)(a0:bU)(a1:Int)(a2:Int):Option Int:=
 (bif decide (a2<1)then some (i64.wrap (a1+1))else(iter (uf rc a0 a1 a2) n (1,0)).bind λw1=>some w1)
def Ep(rc:(bU)->(Int)->(Int)->Option Int):ca xx:=⟨[.d (.st SI.Expr),.d (.int .i64),.d (.int .i64)],[.d (.int .i64)],λa=>rc a.1 a.2.1 a.2.2.1,none⟩
def sD(n:Nat):Nat->(bU)->(Int)->(Int)->Option Int
 | 0=>λ_ _ _=>none
 |m+1=>Ag n (sD n m)
def Cq(a0:bU)(a1:Int)(a2:Int):Option Int:=sD n n a0 a1 a2
def Ah(a0:cB):Stp Int (Unit⊕Bool)
 |v1=>((bif decide (v1<a0.rules.length)then some (decide (v1<5))else some false)).bind λv2=>(bif v2 then((b7 a0.rules v1).bind λx1=>(Cq n (bU.mk x1.ky x1.m7 x1.m6 x1.i8 x1.fS) 20 14).bind λr1=>(bif decide (r1>20)then some true else(b7 a0.rules v1).bind λx2=>(bif decide ((x2.zones.length:Int)>6)then some true else(b7 a0.rules v1).bind λx3=>some (decide ((x3.except.length:Int)>6))))).bind λv3=>(bif v3 then(some false).map λa=>.inr (.inr a)else some (.inl (i64.wrap (v1+1))))else some (.inr (.inl ())))
def Ai(a0:cB):Stp Int (Unit⊕Bool)
 |v4=>((bif decide (v4<a0.defs.length)then some (decide (v4<5))else some false)).bind λv5=>(bif v5 then(b7 a0.defs v4).bind λx4=>(Cq n (bU.mk x4.iu x4.ly x4.kq x4.ik x4.el) 20 14).bind λr2=>(bif decide (r2>20)then(some false).map λa=>.inr (.inr a)else some (.inl (i64.wrap (v4+1))))else some (.inr (.inl ())))
def Rc(a0:cB):Stp Int (Unit⊕Bool)
 |v6=>((bif decide (v6<a0.zones.length)then some (decide (v6<5))else some false)).bind λv7=>(bif v7 then(b7 a0.zones v6).bind λx5=>(bif decide ((x5.corners.length:Int)>12)then(some false).map λa=>.inr (.inr a)else some (.inl (i64.wrap (v6+1))))else some (.inr (.inl ())))
def Rf(a0:cB):Stp Int (Unit⊕Bool)
 |v8=>((bif decide (v8<a0.caps.length)then some (decide (v8<4))else some false)).bind λv9=>(bif v9 then(b7 a0.caps v8).bind λx6=>(bif decide ((x6.corners.length:Int)>12)then(some false).map λa=>.inr (.inr a)else some (.inl (i64.wrap (v8+1))))else some (.inr (.inl ())))
def Rh(a0:cB):Stp Int (Unit⊕Bool)
 |v10=>((bif decide (v10<a0.tables.length)then some (decide (v10<3))else some false)).bind λv11=>(bif v11 then(b7 a0.tables v10).bind λx7=>(bif decide ((x7.rows.length:Int)>8)then(some false).map λa=>.inr (.inr a)else some (.inl (i64.wrap (v10+1))))else some (.inr (.inl ())))
def MZ(a0:cB):Option Bool:=
 dS (iter (Ah n a0) n 0) λ()=>dS (iter (Ai n a0) n 0) λ()=>dS (iter (Rc a0) n 0) λ()=>dS (iter (Rf a0) n 0) λ()=>dS (iter (Rh a0) n 0) λ()=>(bif decide ((a0.rules.length:Int)<=4)then(bif decide ((a0.defs.length:Int)<=4)then(bif decide ((a0.zones.length:Int)<=4)then(bif decide ((a0.caps.length:Int)<=3)then some (decide ((a0.tables.length:Int)<=2))else some false)else some false)else some false)else some false)
def vF(a0:au):Option Bool:=
 (bif decide (a0.x0>=0)then(bif decide (a0.x0<a0.x1)then(bif decide (a0.x1<=1048576)then(bif decide (a0.y0>=0)then(bif decide (a0.y0<a0.y1)then some (decide (a0.y1<=1048576))else some false)else some false)else some false)else some false)else some false)
def Er(a0:yp):Option Bool:=
 (vF (au.mk a0.mC a0.mz a0.mA a0.my)).bind λr1=>(bif r1 then(bif decide (a0.z0>=0)then(bif decide (a0.z0<a0.z1)then some (decide (a0.z1<=4096))else some false)else some false)else some false)
def Es(a0:Int)(a1:Int)(a2:Int):Option Bool:=
 (bif decide (a0>=a1)then some (decide (a0<=a2))else some false)
def rC(a0:aC):Option Bool:=
 (Er (yp.mk a0.bm a0.bz a0.bk a0.bx a0.cz a0.cC)).bind λr1=>(bif r1 then(Es a0.use 0 5).bind λr2=>(bif r2 then(Es a0.units 0 1048576).bind λr3=>(bif r3 then(bif (a0.units==0)then some true else some (a0.use==0))else some false)else some false)else some false)
def Et(a0:aC):Option Int:=
 (rC a0).bind λr1=>(bif (!r1)then some 0 else ck (3 !=0)<|some (i64.wrap (Int.tdiv (i64.wrap ((i64.wrap (a0.cC-a0.cz))+2)) 3)))
def pK(a0:aG)(v2:Int):Stp (Int×Int) (Int⊕((Int×Int)⊕(Int⊕Int)))
 |(v3,v4)=>(b7 a0.phases v2).bind λx1=>(bif decide (v4<x1.aE.length)then(b7 a0.phases v2).bind λx2=>(b7 x2.aE v4).bind λx3=>(Et x3).bind λr1=>(bif (decide ((i64.wrap (v3*(i64.wrap (r1+1))))>2001))then((some 2001).map λa=>.inr (.inr a)).map λa=>.inr (.inr a)else some (.inl ((i64.wrap (v3*(i64.wrap (r1+1)))),(i64.wrap (v4+1)))))else some (.inr (.inl v3)))
def pM(a0:aG):Stp (Int×Int) (Int⊕Int)
 |(v1,v2)=>(bif decide (v2<a0.phases.length)then dS (iter (pK a0 v2) n (v1,0)) λw1=>some (.inl (w1,(i64.wrap (v2+1))))else some (.inr (.inl v1)))
def M0(a0:aG):Option Int:=
 dS (iter (pM n a0) n (1,0)) λw2=>some (i64.wrap (w2-1))
def VO(a0:eY):Stp Int (Unit⊕Bool)
 |v1=>((bif decide (v1<a0.land.length)then some (decide (v1<4))else some false)).bind λv2=>(bif v2 then(b7 a0.land v1).bind λx1=>(bif decide ((x1.area.length:Int)>4)then(some false).map λa=>.inr (.inr a)else some (.inl (i64.wrap (v1+1))))else some (.inr (.inl ())))
def VP(a0:eY):Stp Int (Unit⊕Bool)
 |v3=>((bif decide (v3<a0.bj.length)then some (decide (v3<4))else some false)).bind λv4=>(bif v4 then(b7 a0.bj v3).bind λx2=>(bif decide ((x2.area.length:Int)>4)then(some false).map λa=>.inr (.inr a)else some (.inl (i64.wrap (v3+1))))else some (.inr (.inl ())))
def Eu(a1:aG):Stp Int (Unit⊕Bool)
 |v5=>((bif decide (v5<a1.phases.length)then some (decide (v5<4))else some false)).bind λv6=>(bif v6 then((b7 a1.phases v5).bind λx3=>(bif decide ((x3.aE.length:Int)>3)then some true else(b7 a1.phases v5).bind λx4=>some (decide ((x4.gives.length:Int)>3)))).bind λv7=>(bif v7 then(some false).map λa=>.inr (.inr a)else some (.inl (i64.wrap (v5+1))))else some (.inr (.inl ())))
def Ty(a0:eY)(a1:aG):Option Bool:=
 dS (iter (VO a0) n 0) λ()=>dS (iter (VP a0) n 0) λ()=>dS (iter (Eu a1) n 0) λ()=>(MZ n (cB.mk a0.ch a0.b9 a0.b8 a0.az a0.ci a0.cd a0.cp a0.cg)).bind λr1=>(bif r1 then(bif decide ((a0.land.length:Int)<=3)then(bif decide ((a0.bj.length:Int)<=3)then(bif decide ((a0.built.length:Int)<=4)then(bif decide ((a1.phases.length:Int)<=3)then(M0 n a1).bind λr2=>some (decide (r2<=60))else some false)else some false)else some false)else some false)else some false)
def rD(a0:eY)(a1:aG)(a2:Int)(a3:Int):Option Bool:=
 (Jq n).bind λr1=>(Ty n a0 a1).bind λr2=>(bif (!r2)then some r1 else(bT n a0 a1 a2).bind λr3=>(mM n a0 a1 a2).bind λr4=>((bif (r3.2.2==0)then some (!(r4==(r3.2.1==0)))else some (!(r4==false)))).bind λv1=>(bif v1 then some false else ck (sI 0 (max (i64.wrap ((a0.bj.length:Int)-1)) (0:Int)) a0.bj.length)<|(bif decide ((a0.az.length:Int)>0)then ck ((a0.az.length:Int) !=0)<|ck (sI 0 (Int.tmod (i64.wrap a3) (a0.az.length:Int)) a0.az.length)<|ck (bL ([]:List bP).length 0 (sub a0.az 0 (((Int.tmod (i64.wrap a3) (a0.az.length:Int)):Int).toNat)).length ((sub a0.az 0 (((Int.tmod (i64.wrap a3) (a0.az.length:Int)):Int).toNat)).length) 232)<|jy (([]:List bP)++(sub a0.az 0 (((Int.tmod (i64.wrap a3) (a0.az.length:Int)):Int).toNat))) λr5=>ck (sI (i64.wrap ((Int.tmod (i64.wrap a3) (a0.az.length:Int))+1)) (a0.az.length:Int) a0.az.length)<|ck (bL r5.length r5.length (sub a0.az (((i64.wrap ((Int.tmod (i64.wrap a3) (a0.az.length:Int))+1)):Int).toNat) (a0.az.length-((i64.wrap ((Int.tmod (i64.wrap a3) (a0.az.length:Int))+1)):Int).toNat)).length ((sub a0.az (((i64.wrap ((Int.tmod (i64.wrap a3) (a0.az.length:Int))+1)):Int).toNat) (a0.az.length-((i64.wrap ((Int.tmod (i64.wrap a3) (a0.az.length:Int))+1)):Int).toNat)).length) 232)<|jy (r5++(sub a0.az (((i64.wrap ((Int.tmod (i64.wrap a3) (a0.az.length:Int))+1)):Int).toNat) (a0.az.length-((i64.wrap ((Int.tmod (i64.wrap a3) (a0.az.length:Int))+1)):Int).toNat))) λr6=>(bT n (eY.mk a0.ch a0.b9 a0.b8 a0.az a0.ci a0.cd a0.cp a0.cg a0.land (sub a0.bj 0 (((max (i64.wrap ((a0.bj.length:Int)-1)) (0:Int)):Int).toNat)) a0.windows a0.built a0.base) a1 a2).bind λr7=>ck (be (sub r6 0 r6.length).length r6.length)<|(bT n (eY.mk a0.ch a0.b9 a0.b8 (sub r6 0 r6.length) a0.ci a0.cd a0.cp a0.cg a0.land a0.bj a0.windows a0.built a0.base) a1 a2).bind λr8=>(bif r1 then(bif (r3.2.2 !=0)then some true else(bif (r7.2.2==0)then(bif (r8.2.2==0)then(bif decide (r7.2.1<=(r3.2.1:Int))then some (decide (r8.2.1<=(r3.2.1:Int)))else some false)else some false)else some false))else some false)else(bT n (eY.mk a0.ch a0.b9 a0.b8 a0.az a0.ci a0.cd a0.cp a0.cg a0.land (sub a0.bj 0 (((max (i64.wrap ((a0.bj.length:Int)-1)) (0:Int)):Int).toNat)) a0.windows a0.built a0.base) a1 a2).bind λr9=>(bT n a0 a1 a2).bind λvl=>(bif r1 then(bif (r3.2.2 !=0)then some true else(bif (r9.2.2==0)then(bif (vl.2.2==0)then(bif decide (r9.2.1<=(r3.2.1:Int))then some (decide (vl.2.1<=(r3.2.1:Int)))else some false)else some false)else some false))else some false))))
end
end Go.Proofs
