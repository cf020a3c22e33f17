import Derived.Test.YtaelkbidpfffmaaGreatTBase
open Go.IntKind (i64)
namespace Go.Proofs
open Go.Gb Go.RowKit
noncomputable section
variable (n:Nat)
def W6(a0:Int):Option bD:=
 some (bD.mk 0 a0 (⟨#[]⟩) (⟨#[]⟩) ([]))
def AJ(a0:List au):Option (List au):=
 (bif a0.isEmpty then(both (some []) (ck (bQ ([]:List au).length 0 a0.length a0.length 32)<|jk ([]++a0) λr1=>ck (be (sub r1 0 r1.length).length r1.length)<|some (sub r1 0 r1.length)))else ck (bQ ([]:List au).length 0 a0.length a0.length 32)<|jk ([]++a0) λr2=>ck (be (sub r2 0 r2.length).length r2.length)<|some (sub r2 0 r2.length))
def DY(a0:List Int):Option (List Int):=
 (bif a0.isEmpty then(both (some []) (ck (bQ ([]:List Int).length 0 a0.length a0.length 8)<|jk ([]++a0) λr1=>ck (be (sub r1 0 r1.length).length r1.length)<|some (sub r1 0 r1.length)))else ck (bQ ([]:List Int).length 0 a0.length a0.length 8)<|jk ([]++a0) λr2=>ck (be (sub r2 0 r2.length).length r2.length)<|some (sub r2 0 r2.length))
def Mj(a0:dO):Option dO:=
 (AJ a0.area).bind λr1=>(DY a0.from_).bind λr2=>ck (be (sub r1 0 r1.length).length r1.length)<|ck (be (sub r2 0 r2.length).length r2.length)<|some (dO.mk a0.id a0.owner (sub r1 0 r1.length) (sub r2 0 r2.length))
def DZ(a0:List dO)(a1:Int):Stp Int (Unit⊕(dO×Bool))
 |v1=>(bif decide (v1<a0.length)then(cd a0 v1).bind λx1=>(bif (x1.id==a1)then(Mj x1).bind λr1=>(some (r1,true)).map λa=>.inr (.inr a)else some (.inl (i64.wrap (v1+1))))else some (.inr (.inl ())))
def Mk(a0:List dO)(a1:Int):Option (dO×Bool):=
 d9 (iter (DZ a0 a1) n 0) λ()=>some ((dO.mk 0 0 ([]) ([])),false)
def ny(a0:aJ)(a1:Int)(a2:Int):Stp (Int×(List aA)) (List aA)
 |(v1,v2)=>(bif decide (v1<a0.phases.length)then((cd a0.phases v1).bind λx1=>((bif decide (v1>=a1)then some (decide (v1<a2))else some false)).bind λv3=>(bif v3 then ck (bQ v2.length v2.length x1.cp.length x1.cp.length 72)<|jk (v2++x1.cp) λr1=>ck (be r1.length r1.length)<|some r1 else ck (be v2.length v2.length)<|some v2):Option ((List aA))).bind λv4=>ck (be v4.length v4.length)<|some (.inl ((i64.wrap (v1+1)),v4))else ck (be v2.length v2.length)<|some (.inr v2))
def nP(a0:aJ)(a1:Int)(a2:Int):Option (List aA):=
 ck (be 0 ([]:List aA).length)<|(iter (ny a0 a1 a2) n (0,[])).bind λw1=>ck (be (sub w1 0 w1.length).length w1.length)<|some (sub w1 0 w1.length)
def vQ(a0:aJ):Option (List aA):=
 (nP n a0 0 a0.phases.length).bind λr1=>ck (be (sub r1 0 r1.length).length r1.length)<|some (sub r1 0 r1.length)
def oC(a0:au):Option Bool:=
 (bif decide (0<=a0.x0)then(bif decide (a0.x0<a0.x1)then(bif decide (a0.x1<=1048576)then(bif decide (0<=a0.y0)then(bif decide (a0.y0<a0.y1)then some (decide (a0.y1<=1048576))else some false)else some false)else some false)else some false)else some false)
def gq(a0:aA):Option Bool:=
 ((oC (au.mk a0.aE a0.bp a0.az a0.bo)).bind λr1=>(bif (!r1)then some true else(bif decide (a0.c9<0)then some true else(bif decide (a0.c9>=a0.cR)then some true else some (decide (a0.cR>4096)))))).bind λv1=>(bif v1 then some false else((bif (a0.use !=0)then some (a0.units !=0)else some false)).bind λv2=>(bif v2 then some false else(bif decide (a0.use>=0)then(bif decide (a0.use<6)then(bif decide (a0.units>=0)then some (decide (a0.units<=1048576))else some false)else some false)else some false)))
def xQ(a0:au):Option (au×Bool):=
 (oC a0).bind λr1=>(bif r1 then some (a0,true)else some ((au.mk 0 0 0 0),false))
def q9(a0:au)(a1:au):Option (au×Bool):=
 ((oC a0).bind λr1=>(bif (!r1)then some true else(oC a1).bind λr2=>some (!r2))).bind λv1=>(bif v1 then some ((au.mk 0 0 0 0),false)else(xQ (au.mk (max a0.x0 a1.x0) (max a0.y0 a1.y0) (min a0.x1 a1.x1) (min a0.y1 a1.y1))).bind λr3=>some (r3.1,r3.2))
def rZ(a0:B7)(a1:B7):Option Bool:=
 (q9 (au.mk a0.nF a0.nt a0.nw a0.nr) (au.mk a1.nF a1.nt a1.nw a1.nr)).bind λr1=>(bif r1.2 then(bif decide (a0.z0<a1.z1)then some (decide (a1.z0<a0.z1))else some false)else some false)
def iJ(a0:aA)(a1:aA):Option Bool:=
 (rZ (B7.mk a1.aE a1.bp a1.az a1.bo a1.c9 a1.cR) (B7.mk a0.aE a0.bp a0.az a0.bo a0.c9 a0.cR)).bind λr1=>some r1
def jK(a0:List aA)(a1:(aA×Unit)->Option Bool):Stp Int (Unit⊕Int)
 |v1=>(bif decide (v1<a0.length)then(cd a0 v1).bind λx1=>(a1 (x1,())).bind λr1=>(bif r1 then(some v1).map λa=>.inr (.inr a)else some (.inl (i64.wrap (v1+1))))else some (.inr (.inl ())))
def mG(a0:List aA)(a1:(aA×Unit)->Option Bool):Option Int:=
 d9 (iter (jK a0 a1) n 0) λ()=>some (-1)
def dF(a0:List aA)(a1:(aA×Unit)->Option Bool):Option Bool:=
 (mG n a0 a1).bind λr1=>some (decide (r1>=0))
def D5(a0:Int):Option Bool:=
 (bif decide (a0>=97)then some (decide (a0<=122))else some false)
def zM(a0:ByteArray)(a1:(Int×Unit)->Option Bool):Stp Int Int
 |v1=>((bif decide (v1<a0.size)then(Qh a0 v1).bind λx1=>(a1 (x1,())).bind λr1=>some r1 else some false)).bind λv2=>(bif v2 then some (.inl (i64.wrap (v1+1)))else some (.inr v1))
def Ml(a0:ByteArray)(a1:(Int×Unit)->Option Bool):Option Int:=
 (iter (zM a0 a1) n 0).bind λw1=>some w1
def OE(a0:Int):Option Bool:=
 (bif decide (a0>=48)then some (decide (a0<=57))else some false)
def zN(a0:Int):Option Bool:=
 (D5 a0).bind λr1=>(bif r1 then some true else(OE a0).bind λr2=>some r2)
def Mq(a0:ByteArray):Option Bool:=
 ((bif (ByteArray.toList a0==ByteArray.toList (⟨#[]⟩))then some true else(Qh a0 0).bind λx1=>(D5 x1).bind λr1=>(bif (!r1)then some true else some (decide ((a0.size:Int)>20))))).bind λv1=>(bif v1 then some false else(Ml n a0 (λ (y1:Int×Unit)=>zN y1.1)).bind λr2=>some (r2==a0.size))
def strings_Contains(a0 a1:ByteArray):Option Bool:=ck (Nat.ble a0.size 4000000)<|some (Lib.contains a0.data.toList a1.data.toList)
def vR(a0:ByteArray):Option Bool:=
 (Mq n a0).bind λr1=>(bif r1 then ck (Ud (⟨#[32]⟩) a0)<|ck (Ud ((⟨#[32]⟩)++a0) (⟨#[32]⟩))<|(strings_Contains (⟨#[32,97,110,100,32,97,112,97,114,116,32,98,97,115,101,32,99,97,112,32,100,101,102,105,110,101,32,101,108,115,101,32,101,120,99,101,112,116,32,102,114,111,109,32,103,114,97,99,101,32,104,111,117,114,115,32,105,102,32,105,110,32,108,101,97,115,116,32,110,111,116,32,111,114,32,111,118,101,114,108,97,121,32,112,108,97,110,101,32,114,117,108,101,32,115,108,111,112,101,32,115,117,110,32,116,97,98,108,101,32,116,104,101,110,32,117,110,116,105,108,32,117,115,101,115,32,118,97,114,121,32,118,105,101,119,32,122,111,110,101,32]⟩) (((⟨#[32]⟩)++a0)++(⟨#[32]⟩))).bind λr2=>some (!r2)else some false)
def gK(r1:List aA):Stp Int (Unit⊕Bool)
 |v2=>(bif decide (v2<(r1.length:Nat))then ck (cP v2 r1.length)<|(cd r1 ((0:Nat)+v2:Int)).bind λx1=>((gq x1).bind λr2=>(bif (!r2)then some true else ck (Av 0 v2 r1.length)<|ck (be (sub r1 0 (v2.toNat)).length (v2.toNat))<|(dF n (sub r1 0 (v2.toNat)) (λ (y1:aA×Unit)=>iJ y1.1 x1)).bind λr3=>some r3)).bind λv3=>(bif v3 then(some false).map λa=>.inr (.inr a)else some (.inl (i64.wrap (v2+1))))else some (.inr (.inl ())))
def kX(x2:eD):Stp (Int×(List (ByteArray×Bool))) (Unit⊕(Int⊕(Unit⊕Bool)))
 |(v5,v6)=>(bif decide (v5<x2.gives.length)then(cd x2.gives v5).bind λx3=>((bif ((gM ff x3.name v6).getD false)then some true else(vR n x3.name).bind λr4=>(bif (!r4)then some true else(bif decide (x3.n<0)then some true else some (decide (x3.n>1073741824)))))).bind λv7=>(bif v7 then((some false).map λa=>.inr (.inr a)).map λa=>.inr (.inr a)else some (.inl ((i64.wrap (v5+1)),(EX ff x3.name true v6))))else some (.inr (.inl ())))
def gL(a0:aJ):Stp Int (Unit⊕Bool)
 |v4=>(bif decide (v4<a0.phases.length)then(cd a0.phases v4).bind λx2=>d9 (iter (kX n x2) n (0,([]:(List (ByteArray×Bool))))) λ()=>(bif decide ((x2.gives.length:Int)>30)then(some false).map λa=>.inr (.inr a)else some (.inl (i64.wrap (v4+1))))else some (.inr (.inl ())))
def nC(a0:aJ):Option Bool:=
 (vQ n a0).bind λr1=>((bif decide (a0.lot<0)then some true else(bif decide (a0.lot>1073741824)then some true else(bif decide ((a0.phases.length:Int)<1)then some true else(bif decide ((a0.phases.length:Int)>8)then some true else(bif decide ((r1.length:Int)<1)then some true else some (decide ((r1.length:Int)>40)))))))).bind λv1=>(bif v1 then some false else d9 (iter (gK n r1) n 0) λ()=>d9 (iter (gL n a0) n 0) λ()=>some true)
def Mr(a0:Unit)(a1:Int):Option (List au):=
 (bif decide (a1<0)then none else(bif (decide ((i64.wrap (a1-(i64.wrap (0-0))))>0))then ck (ze (i64.wrap (a1-(i64.wrap (0-0)))) 32)<|ck (Av 0 0 ((i64.wrap (a1-(i64.wrap (0-0)))).toNat))<|ck (be (sub (List.replicate (i64.wrap (a1-(i64.wrap (0-0)))).toNat (au.mk 0 0 0 0)) 0 0).length 0)<|some (sub (List.replicate (i64.wrap (a1-(i64.wrap (0-0)))).toNat (au.mk 0 0 0 0)) 0 0)else some []))
def Ms(a0:List (List au)):Stp (Int×Int) Int
 |(v1,v2)=>(bif decide (v2<a0.length)then(cd a0 v2).bind λx1=>(bif decide ((i64.wrap (v1+x1.length))<0)then none else some (.inl ((i64.wrap (v1+x1.length)),(i64.wrap (v2+1)))))else some (.inr v1))
def Mt(a0:List (List au)):Stp (Int×(List au)) (List au)
 |(v3,v4)=>(bif decide (v3<a0.length)then(cd a0 v3).bind λx2=>ck (bQ v4.length v4.length x2.length x2.length 32)<|jk (v4++x2) λr2=>ck (be r2.length r2.length)<|some (.inl ((i64.wrap (v3+1)),r2))else ck (be v4.length v4.length)<|some (.inr v4))
def yD(a0:List (List au)):Option (List au):=
 (iter (Ms a0) n (0,0)).bind λw1=>(Mr () w1).bind λr1=>ck (be r1.length r1.length)<|(iter (Mt a0) n (0,r1)).bind λw2=>ck (be (sub w2 0 w2.length).length w2.length)<|some (sub w2 0 w2.length)
def oN(_:Nat)(a0:List Int):Option (List Int):=H5 a0
def Mv(a0:List Int)(v1:Int):Stp (Int×Int×(List Int)) (Int×(List Int))
 |(v2,v3,v4)=>(bif decide (v3<((a0.length-v1.toNat):Nat))then(ck (cP v3 (a0.length-v1.toNat))<|(cd v4 (((0+v1.toNat):Nat)+v3:Int)).bind λx3=>ck (cP (i64.wrap (v3-1)) (a0.length-v1.toNat))<|(cd v4 (((0+v1.toNat):Nat)+(i64.wrap (v3-1)):Int)).bind λx4=>(bif (x3 !=x4)then ck (cP v3 (a0.length-v1.toNat))<|(cd v4 (((0+v1.toNat):Nat)+v3:Int)).bind λx5=>ck (cP v2 a0.length)<|(cd v4 ((0:Nat)+v2:Int)).bind λx6=>some ((i64.wrap (v2+1)),(v4.set ((0:Nat)+v2:Int).toNat x5))else some (v2,v4)):Option (Int×(List Int))).bind λ(v5,v6)=>some (.inl (v5,(i64.wrap (v3+1)),v6))else some (.inr (v2,v4)))
def Mw(a0:List Int):Stp Int (Unit⊕(Unit×(List Int)))
 |v1=>(bif decide (v1<(a0.length:Nat))then ck (cP v1 a0.length)<|(cd a0 ((0:Nat)+v1:Int)).bind λx1=>ck (cP (i64.wrap (v1-1)) a0.length)<|(cd a0 ((0:Nat)+(i64.wrap (v1-1)):Int)).bind λx2=>(bif (x1==x2)then ck (Av v1 (a0.length:Nat) a0.length)<|(iter (Mv a0 v1) n (v1,1,a0)).bind λ(w1,w2)=>ck (Av w1 (a0.length:Nat) a0.length)<|ck (Av 0 w1 a0.length)<|(ck (be (w1.toNat) (w1.toNat))<|ck (be (sub (w2.take (0+w1.toNat)) 0 (w1.toNat)).length (w1.toNat))<|some ((),(sub (w2.take (0+w1.toNat)) 0 (w1.toNat)))).map λa=>.inr (.inr a)else some (.inl (i64.wrap (v1+1))))else some (.inr (.inl ())))
def oO(a0:List Int):Option (Unit×(List Int)):=
 (bif decide ((a0.length:Int)<2)then ck (be a0.length a0.length)<|ck (be (sub a0 0 a0.length).length a0.length)<|some ((),(sub a0 0 a0.length))else d9 (iter (Mw n a0) n 1) λ()=>ck (be a0.length a0.length)<|ck (be (sub a0 0 a0.length).length a0.length)<|some ((),(sub a0 0 a0.length)))
def uR(_:Nat)(a0:List aH)(a1:(aH×aH×Unit)->Option Int):Option (List aH):=Za a0 a1
def cmp_isNaN_int(a0:Int):Option Bool:=
 some (a0 !=a0)
def cmp_Compare_int(a0:Int)(a1:Int):Option Int:=
 (cmp_isNaN_int a0).bind λr1=>(cmp_isNaN_int a1).bind λr2=>(bif r1 then(bif r2 then some 0 else some (-1))else(bif r2 then some 1 else(bif decide (a0<a1)then some (-1)else(bif decide (a0>a1)then some 1 else some 0))))
def wV(a0:aH)(a1:aH):Option Int:=
 (cmp_Compare_int a0.from_ a1.from_).bind λr1=>some r1
def sj(a0:List au)(a1:Int):Stp (Int×(List aH)) (List aH)
 |(v1,v2)=>(bif decide (v1<a0.length)then((cd a0 v1).bind λx1=>((bif decide (x1.x0<=a1)then some (decide (a1<x1.x1))else some false)).bind λv3=>(bif v3 then ck (bQ v2.length v2.length (sub ([(aH.mk x1.y0 x1.y1)]:List aH) 0 1).length 1 16)<|jk (v2++(sub ([(aH.mk x1.y0 x1.y1)]:List aH) 0 1)) λr1=>ck (be r1.length r1.length)<|some r1 else ck (be v2.length v2.length)<|some v2):Option ((List aH))).bind λv4=>ck (be v4.length v4.length)<|some (.inl ((i64.wrap (v1+1)),v4))else ck (be v2.length v2.length)<|some (.inr v2))
def sw(w1:List aH)(r2:List aH):Stp (Int×(List aH)) (List aH)
 |(v5,v6)=>(bif decide (v5<(w1.length:Nat))then(ck (cP v5 w1.length)<|(cd r2 ((0:Nat)+v5:Int)).bind λx2=>((bif decide ((v6.length:Int)>0)then ck (cP (i64.wrap ((v6.length:Nat)-1)) v6.length)<|(cd v6 ((0:Nat)+(i64.wrap ((v6.length:Nat)-1)):Int)).bind λx3=>some (decide (x2.from_<=x3.to))else some false)).bind λv7=>(bif v7 then ck (cP (i64.wrap ((v6.length:Nat)-1)) v6.length)<|(cd v6 ((0:Nat)+(i64.wrap ((v6.length:Nat)-1)):Int)).bind λx4=>ck (cP (i64.wrap ((v6.length:Nat)-1)) v6.length)<|(cd v6 ((0:Nat)+(i64.wrap ((v6.length:Nat)-1)):Int)).bind λx5=>ck (be v6.length (v6.set ((0:Nat)+(i64.wrap ((v6.length:Nat)-1)):Int).toNat (aH.mk x5.from_ (max x4.to x2.to))).length)<|some (v6.set ((0:Nat)+(i64.wrap ((v6.length:Nat)-1)):Int).toNat (aH.mk x5.from_ (max x4.to x2.to)))else ck (bQ v6.length v6.length (sub ([x2]:List aH) 0 1).length 1 16)<|jk (v6++(sub ([x2]:List aH) 0 1)) λr3=>ck (be r3.length r3.length)<|some r3):Option ((List aH))).bind λv8=>ck (be v8.length v8.length)<|some (.inl ((i64.wrap (v5+1)),v8))else ck (be v6.length v6.length)<|some (.inr v6))
def I7(a0:List au)(a1:Int):Option (List aH):=
 ck (be 0 ([]:List aH).length)<|(iter (sj a0 a1) n (0,[])).bind λw1=>ck (be w1.length w1.length)<|(uR n w1 (λ (y1:aH×aH×Unit)=>wV y1.1 y1.2.1)).bind λr2=>ck (be 0 ([]:List aH).length)<|(iter (sw w1 r2) n (0,[])).bind λw2=>ck (be (sub w2 0 w2.length).length w2.length)<|some (sub w2 0 w2.length)
def sD(r1:List au):Stp (Int×(List Int)) (List Int)
 |(v1,v2)=>(bif decide (v1<(r1.length:Nat))then ck (cP v1 r1.length)<|(cd r1 ((0:Nat)+v1:Int)).bind λx1=>ck (bQ v2.length v2.length (sub ([x1.x0,x1.x1]:List Int) 0 2).length 2 8)<|jk (v2++(sub ([x1.x0,x1.x1]:List Int) 0 2)) λr2=>ck (be r2.length r2.length)<|some (.inl ((i64.wrap (v1+1)),r2))else ck (be v2.length v2.length)<|some (.inr v2))
def sF(r1:List au)(r4:Unit×(List Int)):Stp (Int×(List aY)) (List aY)
 |(v3,v4)=>(bif decide (v3<(r4.2.length:Nat))then ck (cP (i64.wrap (v3-1)) r4.2.length)<|(cd r4.2 ((0:Nat)+(i64.wrap (v3-1)):Int)).bind λx2=>ck (cP v3 r4.2.length)<|(cd r4.2 ((0:Nat)+v3:Int)).bind λx3=>ck (cP (i64.wrap (v3-1)) r4.2.length)<|(cd r4.2 ((0:Nat)+(i64.wrap (v3-1)):Int)).bind λx4=>ck (be (sub r1 0 r1.length).length r1.length)<|(I7 n (sub r1 0 r1.length) x4).bind λr5=>ck (be (sub r5 0 r5.length).length r5.length)<|ck (bQ v4.length v4.length (sub ([(aY.mk x2 x3 (sub r5 0 r5.length))]:List aY) 0 1).length 1 40)<|jk (v4++(sub ([(aY.mk x2 x3 (sub r5 0 r5.length))]:List aY) 0 1)) λr6=>ck (be r6.length r6.length)<|some (.inl ((i64.wrap (v3+1)),r6))else ck (be v4.length v4.length)<|some (.inr v4))
def nX(a0:List (List au)):Option (List aY):=
 (yD n a0).bind λr1=>ck (be 0 ([]:List Int).length)<|(iter (sD r1) n (0,[])).bind λw1=>ck (be w1.length w1.length)<|(oN n w1).bind λr3=>ck (be w1.length r3.length)<|(oO n r3).bind λr4=>ck (be 0 ([]:List aY).length)<|(iter (sF n r1 r4) n (1,[])).bind λw2=>ck (be (sub w2 0 w2.length).length w2.length)<|some (sub w2 0 w2.length)
def OG(a0:List aH)(a1:List aH):Stp Int (Unit⊕Bool)
 |v1=>(bif decide (v1<a0.length)then(cd a0 v1).bind λx1=>(cd a1 v1).bind λx2=>(bif (!((x1.from_==x2.from_)&&((x1.to==x2.to)&&true)))then(some false).map λa=>.inr (.inr a)else some (.inl (i64.wrap (v1+1))))else some (.inr (.inl ())))
def u7(a0:List aH)(a1:List aH):Option Bool:=
 (bif (a0.length !=(a1.length:Int))then some false else d9 (iter (OG a0 a1) n 0) λ()=>some true)
def rf(a0:List aY)(v1:Int):Stp Int Int
 |v3=>((bif decide (v3<a0.length)then(cd a0 v3).bind λx1=>(cd a0 v1).bind λx2=>(u7 n x1.column x2.column).bind λr1=>some r1 else some false)).bind λv4=>(bif v4 then some (.inl (i64.wrap (v3+1)))else some (.inr v3))
def vS(a0:List aY)(v1:Int)(w1:Int)(x3:aY):Stp (Int×(List au)) (List au)
 |(v5,v6)=>(bif decide (v5<x3.column.length)then(cd x3.column v5).bind λx4=>(cd a0 v1).bind λx5=>(cd a0 (i64.wrap (w1-1))).bind λx6=>ck (bQ v6.length v6.length (sub ([(au.mk x5.x0 x4.from_ x6.x1 x4.to)]:List au) 0 1).length 1 32)<|jk (v6++(sub ([(au.mk x5.x0 x4.from_ x6.x1 x4.to)]:List au) 0 1)) λr2=>ck (be r2.length r2.length)<|some (.inl ((i64.wrap (v5+1)),r2))else ck (be v6.length v6.length)<|some (.inr v6))
def vT(a0:List aY):Stp (Int×(List au)) (List au)
 |(v1,v2)=>(bif decide (v1<a0.length)then(iter (rf n a0 v1) n (i64.wrap (v1+1))).bind λw1=>(cd a0 v1).bind λx3=>ck (be v2.length v2.length)<|(iter (vS a0 v1 w1 x3) n (0,v2)).bind λw2=>ck (be w2.length w2.length)<|some (.inl (w1,w2))else ck (be v2.length v2.length)<|some (.inr v2))
def G5(a0:List aY):Option (List au):=
 ck (be 0 ([]:List au).length)<|(iter (vT n a0) n (0,[])).bind λw3=>ck (be (sub w3 0 w3.length).length w3.length)<|some (sub w3 0 w3.length)
def yE(a0:List au):Option ((List au)×Int):=
 (bif decide ((a0.length:Int)>200)then some ([],6)else some (a0,0))
def Mx(a0:List au):Stp Int (Unit⊕((List au)×Int))
 |v1=>(bif decide (v1<a0.length)then(cd a0 v1).bind λx1=>(oC x1).bind λr1=>(bif (!r1)then(some ([],1)).map λa=>.inr (.inr a)else some (.inl (i64.wrap (v1+1))))else some (.inr (.inl ())))
def Lz(a0:List au):Option ((List au)×Int):=
 d9 (iter (Mx a0) n 0) λ()=>(bif decide ((a0.length:Int)>400)then some ([],6)else ck (be (sub ([a0]:List (List au)) 0 1).length 1)<|(nX n (sub ([a0]:List (List au)) 0 1)).bind λr2=>ck (be (sub r2 0 r2.length).length r2.length)<|(G5 n (sub r2 0 r2.length)).bind λr3=>ck (be (sub r3 0 r3.length).length r3.length)<|(yE (sub r3 0 r3.length)).bind λr4=>some (r4.1,r4.2))
def OH(a0:List au)(a1:List au):Stp Int (Unit⊕Bool)
 |v1=>(bif decide (v1<a0.length)then(cd a0 v1).bind λx1=>(cd a1 v1).bind λx2=>(bif (!((x1.x0==x2.x0)&&((x1.y0==x2.y0)&&((x1.x1==x2.x1)&&((x1.y1==x2.y1)&&true)))))then(some false).map λa=>.inr (.inr a)else some (.inl (i64.wrap (v1+1))))else some (.inr (.inl ())))
def nY(a0:List au)(a1:List au):Option Bool:=
 (bif (a0.length !=(a1.length:Int))then some false else d9 (iter (OH a0 a1) n 0) λ()=>some true)
def kr(a0:List au):Option Bool:=
 (Lz n a0).bind λr1=>(bif (r1.2==0)then(nY n r1.1 a0).bind λr2=>some r2 else some false)
def lD(a0:List aY)(a1:Int)(a2:(aY×Int×Unit)->Option Int):Stp (Int×Int) Int
 |(v1,v2)=>(bif decide (v1<v2)then ck (decide (0<=1)&&decide (1<=IntKind.u64.bits))<|(cd a0 (i64.wrap ((IntKind.u64.wrap (i64.wrap (v1+v2)))/2 ^ (1:Int).toNat))).bind λx1=>(a2 (x1,a1,())).bind λr1=>(bif decide (r1<0)then some (.inl ((i64.wrap ((i64.wrap ((IntKind.u64.wrap (i64.wrap (v1+v2)))/2 ^ (1:Int).toNat))+1)),v2))else some (.inl (v1,(i64.wrap ((IntKind.u64.wrap (i64.wrap (v1+v2)))/2 ^ (1:Int).toNat)))))else some (.inr v1))
def jm(a0:List aY)(a1:Int)(a2:(aY×Int×Unit)->Option Int):Option (Int×Bool):=
 (iter (lD a0 a1 a2) n (0,a0.length)).bind λw1=>(bif decide (w1<a0.length)then(cd a0 w1).bind λx2=>(a2 (x2,a1,())).bind λr2=>some (w1,(r2==0))else some (w1,false))
def vU(a0:aY)(a1:Int):Option Int:=
 (bif decide (a0.x1<=a1)then some (-1)else some 1)
def Vj(a0:List aY)(a1:Int):Option (List aH):=
 (jm n a0 a1 (λ (y1:aY×Int×Unit)=>vU y1.1 y1.2.1)).bind λr1=>((bif decide (r1.1<a0.length)then(cd a0 r1.1).bind λx1=>some (decide (x1.x0<=a1))else some false)).bind λv1=>(bif v1 then(cd a0 r1.1).bind λx2=>some x2.column else some [])
def MB(a0:Unit)(a1:Int):Option (List aH):=
 (bif decide (a1<0)then none else(bif (decide ((i64.wrap (a1-(i64.wrap (0-0))))>0))then ck (ze (i64.wrap (a1-(i64.wrap (0-0)))) 16)<|ck (Av 0 0 ((i64.wrap (a1-(i64.wrap (0-0)))).toNat))<|ck (be (sub (List.replicate (i64.wrap (a1-(i64.wrap (0-0)))).toNat (aH.mk 0 0)) 0 0).length 0)<|some (sub (List.replicate (i64.wrap (a1-(i64.wrap (0-0)))).toNat (aH.mk 0 0)) 0 0)else some []))
def MC(a0:List (List aH)):Stp (Int×Int) Int
 |(v1,v2)=>(bif decide (v2<a0.length)then(cd a0 v2).bind λx1=>(bif decide ((i64.wrap (v1+x1.length))<0)then none else some (.inl ((i64.wrap (v1+x1.length)),(i64.wrap (v2+1)))))else some (.inr v1))
def ME(a0:List (List aH)):Stp (Int×(List aH)) (List aH)
 |(v3,v4)=>(bif decide (v3<a0.length)then(cd a0 v3).bind λx2=>ck (bQ v4.length v4.length x2.length x2.length 16)<|jk (v4++x2) λr2=>ck (be r2.length r2.length)<|some (.inl ((i64.wrap (v3+1)),r2))else ck (be v4.length v4.length)<|some (.inr v4))
def yF(a0:List (List aH)):Option (List aH):=
 (iter (MC a0) n (0,0)).bind λw1=>(MB () w1).bind λr1=>ck (be r1.length r1.length)<|(iter (ME a0) n (0,r1)).bind λw2=>ck (be (sub w2 0 w2.length).length w2.length)<|some (sub w2 0 w2.length)
def mE(a0:List aH)(a1:Int)(a2:(aH×Int×Unit)->Option Int):Stp (Int×Int) Int
 |(v1,v2)=>(bif decide (v1<v2)then ck (decide (0<=1)&&decide (1<=IntKind.u64.bits))<|(cd a0 (i64.wrap ((IntKind.u64.wrap (i64.wrap (v1+v2)))/2 ^ (1:Int).toNat))).bind λx1=>(a2 (x1,a1,())).bind λr1=>(bif decide (r1<0)then some (.inl ((i64.wrap ((i64.wrap ((IntKind.u64.wrap (i64.wrap (v1+v2)))/2 ^ (1:Int).toNat))+1)),v2))else some (.inl (v1,(i64.wrap ((IntKind.u64.wrap (i64.wrap (v1+v2)))/2 ^ (1:Int).toNat)))))else some (.inr v1))
def jF(a0:List aH)(a1:Int)(a2:(aH×Int×Unit)->Option Int):Option (Int×Bool):=
 (iter (mE a0 a1 a2) n (0,a0.length)).bind λw1=>(bif decide (w1<a0.length)then(cd a0 w1).bind λx2=>(a2 (x2,a1,())).bind λr2=>some (w1,(r2==0))else some (w1,false))
def lF(a0:aH)(a1:Int):Option Int:=
 (bif decide (a0.to<=a1)then some (-1)else some 1)
def Cj(a0:List aH)(a1:Int):Option Bool:=
 (jF n a0 a1 (λ (y1:aH×Int×Unit)=>lF y1.1 y1.2.1)).bind λr1=>(bif decide (r1.1<a0.length)then(cd a0 r1.1).bind λx1=>some (decide (x1.from_<=a1))else some false)
def vV(r1:List aH):Stp (Int×(List Int)) (List Int)
 |(v1,v2)=>(bif decide (v1<(r1.length:Nat))then ck (cP v1 r1.length)<|(cd r1 ((0:Nat)+v1:Int)).bind λx1=>ck (bQ v2.length v2.length (sub ([x1.from_,x1.to]:List Int) 0 2).length 2 8)<|jk (v2++(sub ([x1.from_,x1.to]:List Int) 0 2)) λr2=>ck (be r2.length r2.length)<|some (.inl ((i64.wrap (v1+1)),r2))else ck (be v2.length v2.length)<|some (.inr v2))
def vW(a0:List aH)(a1:List aH)(a2:(Bool×Bool×Unit)->Option Bool)(r4:Unit×(List Int)):Stp (Int×(List aH)) (List aH)
 |(v3,v4)=>(bif decide (v3<(r4.2.length:Nat))then(ck (cP (i64.wrap (v3-1)) r4.2.length)<|(cd r4.2 ((0:Nat)+(i64.wrap (v3-1)):Int)).bind λx2=>(Cj n a0 x2).bind λr5=>(Cj n a1 x2).bind λr6=>(a2 (r5,r6,())).bind λr7=>(bif (!r7)then ck (be v4.length v4.length)<|some v4 else((bif decide ((v4.length:Int)>0)then ck (cP (i64.wrap ((v4.length:Nat)-1)) v4.length)<|(cd v4 ((0:Nat)+(i64.wrap ((v4.length:Nat)-1)):Int)).bind λx3=>some (x3.to==x2)else some false)).bind λv5=>(bif v5 then ck (cP v3 r4.2.length)<|(cd r4.2 ((0:Nat)+v3:Int)).bind λx4=>ck (cP (i64.wrap ((v4.length:Nat)-1)) v4.length)<|(cd v4 ((0:Nat)+(i64.wrap ((v4.length:Nat)-1)):Int)).bind λx5=>ck (be v4.length (v4.set ((0:Nat)+(i64.wrap ((v4.length:Nat)-1)):Int).toNat (aH.mk x5.from_ x4)).length)<|some (v4.set ((0:Nat)+(i64.wrap ((v4.length:Nat)-1)):Int).toNat (aH.mk x5.from_ x4))else ck (cP v3 r4.2.length)<|(cd r4.2 ((0:Nat)+v3:Int)).bind λx6=>ck (bQ v4.length v4.length (sub ([(aH.mk x2 x6)]:List aH) 0 1).length 1 16)<|jk (v4++(sub ([(aH.mk x2 x6)]:List aH) 0 1)) λr8=>ck (be r8.length r8.length)<|some r8)):Option ((List aH))).bind λv6=>ck (be v6.length v6.length)<|some (.inl ((i64.wrap (v3+1)),v6))else ck (be v4.length v4.length)<|some (.inr v4))
def G6(a0:List aH)(a1:List aH)(a2:(Bool×Bool×Unit)->Option Bool):Option (List aH):=
 ck (be (sub ([a0,a1]:List (List aH)) 0 2).length 2)<|(yF n (sub ([a0,a1]:List (List aH)) 0 2)).bind λr1=>ck (be 0 ([]:List Int).length)<|(iter (vV r1) n (0,[])).bind λw1=>ck (be w1.length w1.length)<|(oN n w1).bind λr3=>ck (be w1.length r3.length)<|(oO n r3).bind λr4=>ck (be 0 ([]:List aH).length)<|(iter (vW n a0 a1 a2 r4) n (1,[])).bind λw2=>ck (be (sub w2 0 w2.length).length w2.length)<|some (sub w2 0 w2.length)
def qi(a2:(Bool×Bool×Unit)->Option Bool)(r3:List aY)(r4:List aY)(r5:List aY):Stp (Int×(List aY)) (List aY)
 |(v2,v3)=>(bif decide (v2<(r5.length:Nat))then ck (cP v2 r5.length)<|(cd v3 ((0:Nat)+v2:Int)).bind λx1=>(Vj n (sub r3 0 r3.length) x1.x0).bind λr6=>(Vj n (sub r4 0 r4.length) x1.x0).bind λr7=>(G6 n r6 r7 a2).bind λr8=>ck (cP v2 r5.length)<|ck (be (sub r8 0 r8.length).length r8.length)<|(cd v3 ((0:Nat)+v2:Int)).bind λx2=>some (.inl ((i64.wrap (v2+1)),(v3.set ((0:Nat)+v2:Int).toNat (aY.mk x2.x0 x2.x1 (sub r8 0 r8.length)))))else some (.inr v3))
def D6(a0:List au)(a1:List au)(a2:(Bool×Bool×Unit)->Option Bool):Option ((List au)×Int):=
 ((kr n a0).bind λr1=>(bif (!r1)then some true else(kr n a1).bind λr2=>some (!r2))).bind λv1=>(bif v1 then some ([],1)else ck (be (sub ([a0]:List (List au)) 0 1).length 1)<|(nX n (sub ([a0]:List (List au)) 0 1)).bind λr3=>ck (be (sub ([a1]:List (List au)) 0 1).length 1)<|(nX n (sub ([a1]:List (List au)) 0 1)).bind λr4=>ck (be (sub r3 0 r3.length).length r3.length)<|ck (be (sub r4 0 r4.length).length r4.length)<|ck (be (sub ([a0,a1]:List (List au)) 0 2).length 2)<|(nX n (sub ([a0,a1]:List (List au)) 0 2)).bind λr5=>(iter (qi n a2 r3 r4 r5) n (0,r5)).bind λw1=>ck (be (sub w1 0 r5.length).length r5.length)<|(G5 n (sub w1 0 r5.length)).bind λr9=>ck (be (sub r9 0 r9.length).length r9.length)<|(yE (sub r9 0 r9.length)).bind λur=>some (ur.1,ur.2))
def wW(a0:Bool)(a1:Bool):Option Bool:=
 (bif a0 then some a1 else some false)
def xR(a0:List au)(a1:List au):Option ((List au)×Int):=
 (D6 n a0 a1 (λ (y1:Bool×Bool×Unit)=>wW y1.1 y1.2.1)).bind λr1=>some (r1.1,r1.2)
def oh(a0:au):Option Int:=
 (xQ a0).bind λr1=>some (i64.wrap ((i64.wrap (r1.1.x1-r1.1.x0))*(i64.wrap (r1.1.y1-r1.1.y0))))
def D7(a0:List au):Stp (Int×Int) Int
 |(v1,v2)=>(bif decide (v2<a0.length)then(cd a0 v2).bind λx1=>(oh x1).bind λr2=>some (.inl ((i64.wrap (v1+r2)),(i64.wrap (v2+1))))else some (.inr v1))
def MF(a0:List au):Option Int:=
 (kr n a0).bind λr1=>(bif (!r1)then some 0 else(iter (D7 a0) n (0,0)).bind λw1=>some w1)
def pE(a0:fE)(a1:bC):Option Bool:=
 some (ByteArray.toList a0.name==ByteArray.toList a1.name)
def mH(a0:List fE)(a1:(fE×Unit)->Option Bool):Stp Int (Unit⊕Int)
 |v1=>(bif decide (v1<a0.length)then(cd a0 v1).bind λx1=>(a1 (x1,())).bind λr1=>(bif r1 then(some v1).map λa=>.inr (.inr a)else some (.inl (i64.wrap (v1+1))))else some (.inr (.inl ())))
def pF(a0:List fE)(a1:(fE×Unit)->Option Bool):Option Int:=
 d9 (iter (mH a0 a1) n 0) λ()=>some (-1)
def gu(a0:List fE)(a1:(fE×Unit)->Option Bool):Option Bool:=
 (pF n a0 a1).bind λr1=>some (decide (r1>=0))
def fP(a1:dO)(r3:List aA):Stp Int (Unit⊕Bool)
 |v2=>(bif decide (v2<(r3.length:Nat))then ck (cP v2 r3.length)<|(cd r3 ((0:Nat)+v2:Int)).bind λx1=>ck (be (sub ([(au.mk x1.aE x1.bp x1.az x1.bo)]:List au) 0 1).length 1)<|(xR n a1.area (sub ([(au.mk x1.aE x1.bp x1.az x1.bo)]:List au) 0 1)).bind λr4=>((bif (r4.2 !=0)then some true else(MF n r4.1).bind λr5=>(oh (au.mk x1.aE x1.bp x1.az x1.bo)).bind λr6=>some (decide (r5<r6)))).bind λv3=>(bif v3 then(some false).map λa=>.inr (.inr a)else some (.inl (i64.wrap (v2+1))))else some (.inr (.inl ())))
def fQ(a0:bW)(x2:eD):Stp Int (Unit⊕(Int⊕(Unit⊕Bool)))
 |v5=>(bif decide (v5<x2.gives.length)then(cd x2.gives v5).bind λx3=>(gu n a0.caps (λ (y1:fE×Unit)=>pE y1.1 x3)).bind λr7=>(bif (!r7)then((some false).map λa=>.inr (.inr a)).map λa=>.inr (.inr a)else some (.inl (i64.wrap (v5+1))))else some (.inr (.inl ())))
def fT(a0:bW)(a2:aJ):Stp Int (Unit⊕Bool)
 |v4=>(bif decide (v4<a2.phases.length)then(cd a2.phases v4).bind λx2=>d9 (iter (fQ n a0 x2) n 0) λ()=>some (.inl (i64.wrap (v4+1)))else some (.inr (.inl ())))
def iq(a0:bW)(a1:dO)(a2:aJ):Option Bool:=
 ((nC n a2).bind λr1=>(bif (!r1)then some true else(bif (a1.id !=a2.lot)then some true else(kr n a1.area).bind λr2=>some (!r2)))).bind λv1=>(bif v1 then some false else(vQ n a2).bind λr3=>d9 (iter (fP n a1 r3) n 0) λ()=>d9 (iter (fT n a0 a2) n 0) λ()=>some true)
def oD(a0:aJ):Stp (Int×(List aA)) (List aA)
 |(v1,v2)=>(bif decide (v1<a0.phases.length)then(cd a0.phases v1).bind λx1=>ck (bQ v2.length v2.length x1.cp.length x1.cp.length 72)<|jk (v2++x1.cp) λr1=>ck (be r1.length r1.length)<|some (.inl ((i64.wrap (v1+1)),r1))else ck (be v2.length v2.length)<|some (.inr v2))
def sG(a0:aJ):Option (List aA):=
 ck (be 0 ([]:List aA).length)<|(iter (oD a0) n (0,[])).bind λw1=>ck (be (sub w1 0 w1.length).length w1.length)<|some (sub w1 0 w1.length)
def oF(a0:List bK):Stp (Int×(List iH)) (List iH)
 |(v1,v2)=>(bif decide (v1<a0.length)then(cd a0 v1).bind λx1=>ck ((a0.length:Int) !=0)<|(cd a0 (Int.tmod (i64.wrap (v1+1)) (a0.length:Int))).bind λx2=>ck (cP v1 ((a0.length:Int).toNat))<|(cd v2 ((0:Nat)+v1:Int)).bind λx3=>some (.inl ((i64.wrap (v1+1)),(v2.set ((0:Nat)+v1:Int).toNat (iH.mk x1.x x1.y x2.x x2.y))))else some (.inr v2))
def oP(a0:List bK):Option (List iH):=
 ck (decide ((a0.length:Int)<=a0.length)&&(decide (0<=(a0.length:Int))&&ze a0.length 32))<|(iter (oF a0) n (0,(List.replicate (a0.length:Int).toNat (iH.mk 0 0 0 0)))).bind λw1=>ck (be (sub w1 0 ((a0.length:Int).toNat)).length ((a0.length:Int).toNat))<|some (sub w1 0 ((a0.length:Int).toNat))
def sH(a0:bK):Option Bool:=
 (bif decide (0<=a0.x)then(bif decide (a0.x<=1048576)then(bif decide (0<=a0.y)then some (decide (a0.y<=1048576))else some false)else some false)else some false)
def gT(a0:iH):Option Bool:=
 some (a0.j0==a0.kA)
def AL(a0:List Int):Stp Int (Unit⊕Int)
 |v1=>(bif decide (v1<a0.length)then(cd a0 v1).bind λx1=>(bif (x1 !=0)then(some x1).map λa=>.inr (.inr a)else some (.inl (i64.wrap (v1+1))))else some (.inr (.inl ())))
def uS(a0:List Int):Option Int:=
 d9 (iter (AL a0) n 0) λ()=>some 0
def qD(a0:bK)(a1:bK):Option Int:=
 (cmp_Compare_int a0.x a1.x).bind λr1=>(cmp_Compare_int a0.y a1.y).bind λr2=>ck (be (sub ([r1,r2]:List Int) 0 2).length 2)<|(uS n (sub ([r1,r2]:List Int) 0 2)).bind λr3=>some r3
def lG(a0:iH)(a1:iH):Option Bool:=
 (bif decide ((max (min a0.j0 a0.kA) (min a1.j0 a1.kA))<=(min (max a0.j0 a0.kA) (max a1.j0 a1.kA)))then some (decide ((max (min a0.nb a0.rI) (min a1.nb a1.rI))<=(min (max a0.nb a0.rI) (max a1.nb a1.rI))))else some false)
def pG(a0:List bK)(r1:List iH):Stp Int (Unit⊕Bool)
 |v2=>(bif decide (v2<(r1.length:Nat))then ck (cP v2 r1.length)<|(cd r1 ((0:Nat)+v2:Int)).bind λx1=>ck ((r1.length:Int) !=0)<|ck (cP (Int.tmod (i64.wrap (v2+1)) (r1.length:Int)) r1.length)<|(cd r1 ((0:Nat)+(Int.tmod (i64.wrap (v2+1)) (r1.length:Int)):Int)).bind λx2=>((sH (bK.mk x1.j0 x1.nb)).bind λr2=>(bif (!r2)then some true else(bif ((x1.j0==x1.kA)==(x1.nb==x1.rI))then some true else(gT x1).bind λr3=>(gT x2).bind λr4=>some (r3==r4)))).bind λv3=>(bif v3 then(some false).map λa=>.inr (.inr a)else((bif decide (v2>0)then(cd a0 0).bind λx3=>(cd a0 v2).bind λx4=>(qD n x3 x4).bind λr5=>some (decide (r5>=0))else some false)).bind λv4=>(bif v4 then(some false).map λa=>.inr (.inr a)else some (.inl (i64.wrap (v2+1)))))else some (.inr (.inl ())))
def ja(r1:List iH)(v5:Int):Stp Int (Unit⊕(Int⊕(Unit⊕Bool)))
 |v6=>(bif decide (v6<(r1.length:Nat))then((bif (decide ((i64.wrap ((i64.wrap (v5+(r1.length:Nat)))-v6))>1))then ck (cP v5 r1.length)<|(cd r1 ((0:Nat)+v5:Int)).bind λx5=>ck (cP v6 r1.length)<|(cd r1 ((0:Nat)+v6:Int)).bind λx6=>(lG x5 x6).bind λr6=>some r6 else some false)).bind λv7=>(bif v7 then((some false).map λa=>.inr (.inr a)).map λa=>.inr (.inr a)else some (.inl (i64.wrap (v6+1))))else some (.inr (.inl ())))
def pI(r1:List iH):Stp Int (Unit⊕Bool)
 |v5=>(bif decide (v5<(r1.length:Nat))then d9 (iter (ja r1 v5) n (i64.wrap (v5+2))) λ()=>some (.inl (i64.wrap (v5+1)))else some (.inr (.inl ())))
def ve(a0:List bK):Option Bool:=
 ((bif decide ((a0.length:Int)<4)then some true else some (decide ((a0.length:Int)>60)))).bind λv1=>(bif v1 then some false else(oP n a0).bind λr1=>d9 (iter (pG n a0 r1) n 0) λ()=>d9 (iter (pI n r1) n 0) λ()=>ck (cP 0 r1.length)<|(cd r1 ((0:Nat)+0:Int)).bind λx7=>(gT x7).bind λr7=>some (!r7))
def lH(a0:List bK):Stp (Int×(List Int)) (List Int)
 |(v1,v2)=>(bif decide (v1<a0.length)then(cd a0 v1).bind λx1=>ck (bQ v2.length v2.length (sub ([x1.x]:List Int) 0 1).length 1 8)<|jk (v2++(sub ([x1.x]:List Int) 0 1)) λr2=>ck (be r2.length r2.length)<|some (.inl ((i64.wrap (v1+1)),r2))else ck (be v2.length v2.length)<|some (.inr v2))
def lI(r4:Unit×(List Int))(r5:List iH)(v3:Int):Stp (Int×(List Int)) (List Int)
 |(v5,v6)=>(bif decide (v5<(r5.length:Nat))then(ck (cP v5 r5.length)<|(cd r5 ((0:Nat)+v5:Int)).bind λx2=>((gT x2).bind λr6=>(bif (!r6)then ck (cP v3 r4.2.length)<|(cd r4.2 ((0:Nat)+v3:Int)).bind λx3=>(bif decide ((min x2.j0 x2.kA)<=x3)then ck (cP v3 r4.2.length)<|(cd r4.2 ((0:Nat)+v3:Int)).bind λx4=>some (decide (x4<(max x2.j0 x2.kA)))else some false)else some false)).bind λv7=>(bif v7 then ck (bQ v6.length v6.length (sub ([x2.nb]:List Int) 0 1).length 1 8)<|jk (v6++(sub ([x2.nb]:List Int) 0 1)) λr7=>ck (be r7.length r7.length)<|some r7 else ck (be v6.length v6.length)<|some v6):Option ((List Int))).bind λv8=>ck (be v8.length v8.length)<|some (.inl ((i64.wrap (v5+1)),v8))else ck (be v6.length v6.length)<|some (.inr v6))
def jy(r4:Unit×(List Int))(v3:Int)(w2:List Int)(r8:List Int):Stp (Int×(List au)) (List au)
 |(v9,v10)=>(bif decide ((i64.wrap (v9+1))<(w2.length:Nat))then ck (cP v3 r4.2.length)<|(cd r4.2 ((0:Nat)+v3:Int)).bind λx5=>ck (cP v9 w2.length)<|(cd r8 ((0:Nat)+v9:Int)).bind λx6=>ck (cP (i64.wrap (v3+1)) r4.2.length)<|(cd r4.2 ((0:Nat)+(i64.wrap (v3+1)):Int)).bind λx7=>ck (cP (i64.wrap (v9+1)) w2.length)<|(cd r8 ((0:Nat)+(i64.wrap (v9+1)):Int)).bind λx8=>ck (bQ v10.length v10.length (sub ([(au.mk x5 x6 x7 x8)]:List au) 0 1).length 1 32)<|jk (v10++(sub ([(au.mk x5 x6 x7 x8)]:List au) 0 1)) λr9=>ck (be r9.length r9.length)<|some (.inl ((i64.wrap (v9+2)),r9))else ck (be v10.length v10.length)<|some (.inr v10))
def lJ(r4:Unit×(List Int))(r5:List iH):Stp (Int×(List au)) (List au)
 |(v3,v4)=>(bif decide (v3<(i64.wrap ((r4.2.length:Nat)-1)))then ck (be 0 ([]:List Int).length)<|(iter (lI r4 r5 v3) n (0,[])).bind λw2=>ck (be w2.length w2.length)<|(oN n w2).bind λr8=>ck (be v4.length v4.length)<|(iter (jy r4 v3 w2 r8) n (0,v4)).bind λw3=>ck (be w3.length w3.length)<|some (.inl ((i64.wrap (v3+1)),w3))else ck (be v4.length v4.length)<|some (.inr v4))
def sI(a0:List bK):Option ((List au)×Int):=
 (ve n a0).bind λr1=>(bif (!r1)then some ([],10)else ck (be 0 ([]:List Int).length)<|(iter (lH a0) n (0,[])).bind λw1=>ck (be w1.length w1.length)<|(oN n w1).bind λr3=>ck (be w1.length r3.length)<|(oO n r3).bind λr4=>(oP n a0).bind λr5=>ck (be 0 ([]:List au).length)<|(iter (lJ n r4 r5) n (0,[])).bind λw4=>(bif decide ((w4.length:Int)>200)then some ([],6)else ck (be (sub w4 0 w4.length).length w4.length)<|some ((sub w4 0 w4.length),0)))
def wX(a0:dh):Option (List au):=
 (sI n a0.corners).bind λr1=>(bif (r1.2 !=0)then some []else ck (be (sub r1.1 0 r1.1.length).length r1.1.length)<|some (sub r1.1 0 r1.1.length))
def pJ(a1:List au)(x1:au):Stp (Int×Int×Int×Int) (Int×Int×Int)
 |(v5,v6,v7,v8)=>(bif decide (v6<a1.length)then((cd a1 v6).bind λx2=>(q9 x1 x2).bind λr1=>(bif (!r1.2)then some (v5,v7,v8)else(oh r1.1).bind λr2=>(cmp_Compare_int r1.1.x0 v7).bind λr3=>(cmp_Compare_int r1.1.y0 v8).bind λr4=>ck (be (sub ([r3,r4]:List Int) 0 2).length 2)<|(uS n (sub ([r3,r4]:List Int) 0 2)).bind λr5=>(bif decide (r5<0)then some ((i64.wrap (v5+r2)),r1.1.x0,r1.1.y0)else some ((i64.wrap (v5+r2)),v7,v8))):Option (Int×Int×Int)).bind λ(v9,v10,v11)=>some (.inl (v9,(i64.wrap (v6+1)),v10,v11))else some (.inr (v5,v7,v8)))
def pK(a0:List au)(a1:List au):Stp (Int×Int×Int×Int) (Int×Int×Int)
 |(v1,v2,v3,v4)=>(bif decide (v2<a0.length)then(cd a0 v2).bind λx1=>(iter (pJ n a1 x1) n (v1,0,v3,v4)).bind λ(w1,w2,w3)=>some (.inl (w1,(i64.wrap (v2+1)),w2,w3))else some (.inr (v1,v3,v4)))
def vg(a0:List au)(a1:List au):Option (Int×bK):=
 (iter (pK n a0 a1) n (0,0,1048576,0)).bind λ(w4,w5,w6)=>some (w4,(bK.mk w5 w6))
def pM(a0:bW)(a1:List au):Stp (Int×(List Int)) (List Int)
 |(v1,v2)=>(bif decide (v1<a0.zones.length)then(cd a0.zones v1).bind λx1=>(wX n x1).bind λr2=>ck (be (sub r2 0 r2.length).length r2.length)<|(vg n a1 (sub r2 0 r2.length)).bind λr3=>ck (bQ v2.length v2.length (sub ([r3.1]:List Int) 0 1).length 1 8)<|jk (v2++(sub ([r3.1]:List Int) 0 1)) λr4=>ck (be r4.length r4.length)<|some (.inl ((i64.wrap (v1+1)),r4))else ck (be v2.length v2.length)<|some (.inr v2))
def vk(a0:bW)(a1:List au):Option (List Int):=
 (kr n a1).bind λr1=>(bif (!r1)then some []else ck (be 0 ([]:List Int).length)<|(iter (pM n a0 a1) n (0,[])).bind λw1=>ck (be (sub w1 0 w1.length).length w1.length)<|some (sub w1 0 w1.length))
def pO(a0:bW)(r1:List Int):Stp (Int×Int) Int
 |(v1,v2)=>(bif decide (v2<(r1.length:Nat))then(ck (cP v2 r1.length)<|(cd r1 ((0:Nat)+v2:Int)).bind λx1=>((cd a0.zones v2).bind λx2=>(bif (!x2.overlay)then(bif decide (x1>0)then(bif decide (v1<0)then some true else ck (cP v1 r1.length)<|(cd r1 ((0:Nat)+v1:Int)).bind λx3=>some (decide (x1>x3)))else some false)else some false)).bind λv3=>(bif v3 then some v2 else some v1):Option Int).bind λv4=>some (.inl (v4,(i64.wrap (v2+1))))else some (.inr v1))
def wY(a0:bW)(r1:List Int)(w1:Int):Stp (Int×(List ByteArray)) (List ByteArray)
 |(v5,v6)=>(bif decide (v5<(r1.length:Nat))then(ck (cP v5 r1.length)<|(cd r1 ((0:Nat)+v5:Int)).bind λx4=>((bif (v5==w1)then some true else(cd a0.zones v5).bind λx5=>(bif x5.overlay then some (decide (x4>0))else some false))).bind λv7=>(bif v7 then(cd a0.zones v5).bind λx6=>ck (bQ v6.length v6.length (sub ([x6.name]:List ByteArray) 0 1).length 1 16)<|jk (v6++(sub ([x6.name]:List ByteArray) 0 1)) λr2=>ck (be r2.length r2.length)<|some r2 else ck (be v6.length v6.length)<|some v6):Option ((List ByteArray))).bind λv8=>ck (be v8.length v8.length)<|some (.inl ((i64.wrap (v5+1)),v8))else ck (be v6.length v6.length)<|some (.inr v6))
def Ck(a0:bW)(a1:List au):Option (List ByteArray):=
 (vk n a0 a1).bind λr1=>(iter (pO a0 r1) n ((-1),0)).bind λw1=>ck (be 0 ([]:List ByteArray).length)<|(iter (wY a0 r1 w1) n (0,[])).bind λw2=>ck (be (sub w2 0 w2.length).length w2.length)<|some (sub w2 0 w2.length)
def vX(a0:dm)(a1:aJ):Option (lZ×Int):=
 (Mk n a0.land a1.lot).bind λr1=>(bif (!r1.2)then some ((lZ.mk ([]) ([]) ([]) ([]) ([]) ([]) ([]) 0 ([]) ([]) ([]) ([]) ([]) 0 0 ([]) ([]) 0 ([]) ([]) ([])),4)else(iq n (bW.mk a0.cj a0.bx a0.bk a0.bj a0.bu a0.cg a0.cz a0.ci) r1.1 a1).bind λr2=>(bif (!r2)then some ((lZ.mk ([]) ([]) ([]) ([]) ([]) ([]) ([]) 0 ([]) ([]) ([]) ([]) ([]) 0 0 ([]) ([]) 0 ([]) ([]) ([])),1)else(sG n a1).bind λr3=>(Ck n (bW.mk a0.cj a0.bx a0.bk a0.bj a0.bu a0.cg a0.cz a0.ci) r1.1.area).bind λr4=>ck (be (sub r3 0 r3.length).length r3.length)<|ck (be (sub r4 0 r4.length).length r4.length)<|some ((lZ.mk a0.cj a0.bx a0.bk a0.bj a0.bu a0.cg a0.cz a0.ci a0.land a0.b8 a0.windows a0.built a0.base r1.1.id r1.1.owner r1.1.area r1.1.from_ a1.lot a1.phases (sub r3 0 r3.length) (sub r4 0 r4.length)),0)))
def nD(a0:List ByteArray)(a1:ByteArray):Stp Int (Unit⊕Int)
 |v1=>(bif decide (v1<a0.length)then(cd a0 v1).bind λx1=>(bif (ByteArray.toList a1==ByteArray.toList x1)then(some v1).map λa=>.inr (.inr a)else some (.inl (i64.wrap (v1+1))))else some (.inr (.inl ())))
def qE(a0:List ByteArray)(a1:ByteArray):Option Int:=
 d9 (iter (nD a0 a1) n 0) λ()=>some (-1)
def fJ(a0:List ByteArray)(a1:ByteArray):Option Bool:=
 (qE n a0 a1).bind λr1=>some (decide (r1>=0))
def j5(a0:ByteArray)(a1:List ByteArray):Option Bool:=
 (fJ n a1 a0).bind λr1=>some r1
def D8(a0:List ByteArray)(a1:(ByteArray×Unit)->Option Bool):Stp Int (Unit⊕Int)
 |v1=>(bif decide (v1<a0.length)then(cd a0 v1).bind λx1=>(a1 (x1,())).bind λr1=>(bif r1 then(some v1).map λa=>.inr (.inr a)else some (.inl (i64.wrap (v1+1))))else some (.inr (.inl ())))
def p8(a0:List ByteArray)(a1:(ByteArray×Unit)->Option Bool):Option Int:=
 d9 (iter (D8 a0 a1) n 0) λ()=>some (-1)
def fU(a0:List ByteArray)(a1:(ByteArray×Unit)->Option Bool):Option Bool:=
 (p8 n a0 a1).bind λr1=>some (decide (r1>=0))
def qj(a0:aL)(a1:List ByteArray):Option Bool:=
 (bif ((a0.zones.length:Int)==0)then(fU n a0.except (λ (y1:ByteArray×Unit)=>j5 n y1.1 a1)).bind λr1=>some (!r1)else(fU n a0.zones (λ (y2:ByteArray×Unit)=>j5 n y2.1 a1)).bind λr2=>(bif r2 then(fU n a0.except (λ (y3:ByteArray×Unit)=>j5 n y3.1 a1)).bind λr3=>some (!r3)else some false))
def qF(a0:bW)(a1:List ByteArray)(a2:Int):Stp (Int×(List Int)) (List Int)
 |(v1,v2)=>(bif decide (v1<a0.rules.length)then((cd a0.rules v1).bind λx1=>((bif decide (x1.from_<=a2)then(bif (x1.j7==0)then(qj n x1 a1).bind λr1=>some r1 else(bif decide (a2<x1.j7)then(qj n x1 a1).bind λr2=>some r2 else some false))else some false)).bind λv3=>(bif v3 then ck (bQ v2.length v2.length (sub ([v1]:List Int) 0 1).length 1 8)<|jk (v2++(sub ([v1]:List Int) 0 1)) λr3=>ck (be r3.length r3.length)<|some r3 else ck (be v2.length v2.length)<|some v2):Option ((List Int))).bind λv4=>ck (be v4.length v4.length)<|some (.inl ((i64.wrap (v1+1)),v4))else ck (be v2.length v2.length)<|some (.inr v2))
def sJ(a0:bW)(a1:List ByteArray)(a2:Int):Option (List Int):=
 ck (be 0 ([]:List Int).length)<|(iter (qF n a0 a1 a2) n (0,[])).bind λw1=>ck (be (sub w1 0 w1.length).length w1.length)<|some (sub w1 0 w1.length)
def uT(_:Nat)(a0:List au)(a1:(au×au×Unit)->Option Int):Option (List au):=Za a0 a1
def iU(a0:au)(a1:au):Option Int:=
 (cmp_Compare_int a0.y0 a1.y0).bind λr1=>some r1
def iK(a0:aA):Option Int:=
 ((bif a0.extra then some true else(gq a0).bind λr1=>some (!r1))).bind λv1=>(bif v1 then some 0 else ck (3 !=0)<|some (i64.wrap (Int.tdiv (i64.wrap ((i64.wrap ((i64.wrap (a0.cR-a0.c9))+3))-1)) 3)))
def l5(a0:aA):Option Int:=
 (gq a0).bind λr1=>(bif (!r1)then some 0 else(oh (au.mk a0.aE a0.bp a0.az a0.bo)).bind λr2=>(iK a0).bind λr3=>some (i64.wrap (r2*r3)))
def nE(a0:aA):Option Int:=
 some a0.cR
def om(a0:aA):Option Int:=
 some a0.units
def AO(a0:au)(a1:Int):Option (au×Bool):=
 (oC (au.mk (i64.wrap (a0.x0-a1)) (i64.wrap (a0.y0-a1)) (i64.wrap (a0.x1+a1)) (i64.wrap (a0.y1+a1)))).bind λr1=>some ((au.mk (i64.wrap (a0.x0-a1)) (i64.wrap (a0.y0-a1)) (i64.wrap (a0.x1+a1)) (i64.wrap (a0.y1+a1))),r1)
def ku(a0:bC)(a1:I6)(a2:Int):Option Bool:=
 ck (cP a2 6)<|(cd ([a1.a0,a1.a1,a1.a2,a1.a3,a1.a4,a1.a5]:List ByteArray) a2).bind λx1=>some (ByteArray.toList a0.name==ByteArray.toList x1)
def EZ(a0:List bC)(a1:(bC×Unit)->Option Bool):Stp Int (Unit⊕Int)
 |v1=>(bif decide (v1<a0.length)then(cd a0 v1).bind λx1=>(a1 (x1,())).bind λr1=>(bif r1 then(some v1).map λa=>.inr (.inr a)else some (.inl (i64.wrap (v1+1))))else some (.inr (.inl ())))
def kz(a0:List bC)(a1:(bC×Unit)->Option Bool):Option Int:=
 d9 (iter (EZ a0 a1) n 0) λ()=>some (-1)
def kC(a0:bW)(a1:Int):Stp Int (Unit⊕Int)
 |v1=>(bif decide (v1<a0.tables.length)then(cd a0.tables v1).bind λx1=>(bif (!(ByteArray.toList x1.name==ByteArray.toList (⟨#[116,114,97,102,102,105,99]⟩)))then some (.inl (i64.wrap (v1+1)))else((kz n x1.rows (λ (y1:bC×Unit)=>ku y1.1 (I6.mk (⟨#[104,111,109,101]⟩) (⟨#[115,104,111,112]⟩) (⟨#[119,111,114,107]⟩) (⟨#[112,97,114,107]⟩) (⟨#[112,108,97,110,116]⟩) (⟨#[104,97,108,108]⟩)) a1)).bind λr1=>(bif decide (r1>=0)then(cd x1.rows r1).bind λx2=>some x2.n else some x1.rh):Option Int).bind λv2=>(some (max 0 (min v2 1048576))).map λa=>.inr (.inr a))else some (.inr (.inl ())))
def zO(a0:bW)(a1:Int):Option Int:=
 d9 (iter (kC n a0 a1) n 0) λ()=>some 0
def iL(a0:bW)(a1:aA):Option Int:=
 (zO n a0 a1.use).bind λr1=>(l5 a1).bind λr2=>((bif decide (r1>0)then ck (r1 !=0)<|some (decide (r2>(i64.wrap (Int.tdiv 109951162777600 r1))))else some false)).bind λv1=>(bif v1 then some 1099511627776 else ck (100 !=0)<|some (i64.wrap (Int.tdiv (i64.wrap ((i64.wrap ((i64.wrap (r1*r2))+100))-1)) 100)))
def mI(a0:List fI)(a1:List bS)(a2:List dh)(a3:List aL)(a4:List fE)(a5:List fD)(a6:List bU)(a7:Int)(a8:List au)(a9:List aA):Option (Int×gX):=
 (MF n a8).bind λr1=>ck (be a9.length a9.length)<|some (r1,a0,a1,a2,a3,a4,a5,a6,a7,a8,a9)
def gF(a9:List aA):Stp (Int×(List au)×(List Int)) ((List au)×(List Int))
 |(v1,v2,v3)=>(bif decide (v1<(a9.length:Nat))then ck (cP v1 a9.length)<|(cd a9 ((0:Nat)+v1:Int)).bind λx1=>ck (cP v1 ((a9.length:Int).toNat))<|(cd v2 ((0:Nat)+v1:Int)).bind λx2=>ck (cP v1 ((a9.length:Int).toNat))<|(cd (v2.set ((0:Nat)+v1:Int).toNat (au.mk x1.aE x1.bp x1.az x1.bo)) ((0:Nat)+v1:Int)).bind λx3=>ck (cP v1 ((a9.length:Int).toNat))<|(cd (v2.set ((0:Nat)+v1:Int).toNat (au.mk x1.aE x1.bp x1.az x1.bo)) ((0:Nat)+v1:Int)).bind λx4=>ck (bQ v3.length v3.length (sub ([x3.x0,x4.x1]:List Int) 0 2).length 2 8)<|jk (v3++(sub ([x3.x0,x4.x1]:List Int) 0 2)) λr1=>ck (be r1.length r1.length)<|some (.inl ((i64.wrap (v1+1)),(v2.set ((0:Nat)+v1:Int).toNat (au.mk x1.aE x1.bp x1.az x1.bo)),r1))else ck (be v3.length v3.length)<|some (.inr (v2,v3)))
def gG(a9:List aA)(w2:List Int)(r2:List au)(r3:List Int)(v5:Int):Stp (Int×Int×Int) Int
 |(v6,v7,v8)=>(bif decide (v8<(((a9.length:Int).toNat:Nat):Int))then(ck (cP v8 ((a9.length:Int).toNat))<|(cd r2 ((0:Nat)+v8:Int)).bind λx5=>(ck (cP v5 w2.length)<|(cd r3 ((0:Nat)+v5:Int)).bind λx6=>(bif decide (x5.x0<=x6)then ck (cP v5 w2.length)<|(cd r3 ((0:Nat)+v5:Int)).bind λx7=>(bif decide (x7<x5.x1)then some (decide (x5.y1>v7))else some false)else some false)).bind λv9=>(bif v9 then ck (cP (i64.wrap (v5+1)) w2.length)<|(cd r3 ((0:Nat)+(i64.wrap (v5+1)):Int)).bind λx8=>ck (cP v5 w2.length)<|(cd r3 ((0:Nat)+v5:Int)).bind λx9=>some ((i64.wrap (v6+(i64.wrap ((i64.wrap (x8-x9))*(i64.wrap (x5.y1-(max v7 x5.y0))))))),x5.y1)else some (v6,v7)):Option (Int×Int)).bind λ(v10,v11)=>some (.inl (v10,v11,(i64.wrap (v8+1))))else some (.inr v6))
def gH(a9:List aA)(w2:List Int)(r2:List au)(r3:List Int):Stp (Int×Int) Int
 |(v4,v5)=>(bif (decide (v5<((max 0 (i64.wrap ((w2.length:Nat)-1))):Int)))then(iter (gG a9 w2 r2 r3 v5) n (v4,0,0)).bind λw3=>some (.inl (w3,(i64.wrap (v5+1))))else some (.inr v4))
def iV(a0:List fI)(a1:List bS)(a2:List dh)(a3:List aL)(a4:List fE)(a5:List fD)(a6:List bU)(a7:Int)(a8:List au)(a9:List aA):Option (Int×gX):=
 ck (decide ((a9.length:Int)<=(a9.length:Nat))&&(decide (0<=(a9.length:Int))&&ze (a9.length:Nat) 32))<|ck (be 0 ([]:List Int).length)<|(iter (gF a9) n (0,(List.replicate (a9.length:Int).toNat (au.mk 0 0 0 0)),[])).bind λ(w1,w2)=>ck (be ((a9.length:Int).toNat) w1.length)<|(uT n w1 (λ (y1:au×au×Unit)=>iU y1.1 y1.2.1)).bind λr2=>ck (be w2.length w2.length)<|(oN n w2).bind λr3=>(iter (gH n a9 w2 r2 r3) n (0,0)).bind λw4=>ck (be a9.length a9.length)<|some (w4,a0,a1,a2,a3,a4,a5,a6,a7,a8,a9)
def jL(a9:List aA):Stp (Int×Int) Int
 |(v1,v2)=>(bif decide (v2<(a9.length:Nat))then ck (cP v2 a9.length)<|(cd a9 ((0:Nat)+v2:Int)).bind λx1=>(l5 x1).bind λr1=>some (.inl ((i64.wrap (v1+r1)),(i64.wrap (v2+1))))else some (.inr v1))
def p9(a0:List fI)(a1:List bS)(a2:List dh)(a3:List aL)(a4:List fE)(a5:List fD)(a6:List bU)(a7:Int)(a8:List au)(a9:List aA):Option (Int×gX):=
 (iter (jL a9) n (0,0)).bind λw1=>ck (be a9.length a9.length)<|some (w1,a0,a1,a2,a3,a4,a5,a6,a7,a8,a9)
def kL(a0:List fI)(a1:List bS)(a2:List dh)(a3:List aL)(a4:List fE)(a5:List fD)(a6:List bU)(a7:Int)(a8:List au)(a9:List aA):Option (Int×gX):=
 ck (be a9.length a9.length)<|(p9 n a0 a1 a2 a3 a4 a5 a6 a7 a8 a9).bind λr1=>ck (be r1.2.2.2.2.2.2.2.2.2.2.length r1.2.2.2.2.2.2.2.2.2.2.length)<|some (r1.1,r1.2.1,r1.2.2.1,r1.2.2.2.1,r1.2.2.2.2.1,r1.2.2.2.2.2.1,r1.2.2.2.2.2.2.1,r1.2.2.2.2.2.2.2.1,r1.2.2.2.2.2.2.2.2.1,r1.2.2.2.2.2.2.2.2.2.1,r1.2.2.2.2.2.2.2.2.2.2)
def gY(a9:List aA):Stp (Int×Int) Int
 |(v1,v2)=>(bif decide (v2<(a9.length:Nat))then ck (cP v2 a9.length)<|(cd a9 ((0:Nat)+v2:Int)).bind λx1=>(iK x1).bind λr1=>some (.inl ((max v1 r1),(i64.wrap (v2+1))))else some (.inr v1))
def l6(a0:List fI)(a1:List bS)(a2:List dh)(a3:List aL)(a4:List fE)(a5:List fD)(a6:List bU)(a7:Int)(a8:List au)(a9:List aA):Option (Int×gX):=
 (iter (gY a9) n (0,0)).bind λw1=>ck (be a9.length a9.length)<|some (w1,a0,a1,a2,a3,a4,a5,a6,a7,a8,a9)
def jM(a0:List fI)(a1:List bS)(a2:List dh)(a3:List aL)(a4:List fE)(a5:List fD)(a6:List bU)(a7:Int)(a8:List au)(a9:List aA):Option (Int×gX):=
 ck (be a9.length a9.length)<|(l6 n a0 a1 a2 a3 a4 a5 a6 a7 a8 a9).bind λr1=>ck (be r1.2.2.2.2.2.2.2.2.2.2.length r1.2.2.2.2.2.2.2.2.2.2.length)<|some (r1.1,r1.2.1,r1.2.2.1,r1.2.2.2.1,r1.2.2.2.2.1,r1.2.2.2.2.2.1,r1.2.2.2.2.2.2.1,r1.2.2.2.2.2.2.2.1,r1.2.2.2.2.2.2.2.2.1,r1.2.2.2.2.2.2.2.2.2.1,r1.2.2.2.2.2.2.2.2.2.2)
def gZ(a9:List aA):Stp (Int×Int) Int
 |(v1,v2)=>(bif decide (v2<(a9.length:Nat))then ck (cP v2 a9.length)<|(cd a9 ((0:Nat)+v2:Int)).bind λx1=>(nE x1).bind λr1=>some (.inl ((max v1 r1),(i64.wrap (v2+1))))else some (.inr v1))
def l7(a0:List fI)(a1:List bS)(a2:List dh)(a3:List aL)(a4:List fE)(a5:List fD)(a6:List bU)(a7:Int)(a8:List au)(a9:List aA):Option (Int×gX):=
 (iter (gZ a9) n (0,0)).bind λw1=>ck (be a9.length a9.length)<|some (w1,a0,a1,a2,a3,a4,a5,a6,a7,a8,a9)
def jN(a0:List fI)(a1:List bS)(a2:List dh)(a3:List aL)(a4:List fE)(a5:List fD)(a6:List bU)(a7:Int)(a8:List au)(a9:List aA):Option (Int×gX):=
 ck (be a9.length a9.length)<|(l7 n a0 a1 a2 a3 a4 a5 a6 a7 a8 a9).bind λr1=>ck (be r1.2.2.2.2.2.2.2.2.2.2.length r1.2.2.2.2.2.2.2.2.2.2.length)<|some (r1.1,r1.2.1,r1.2.2.1,r1.2.2.2.1,r1.2.2.2.2.1,r1.2.2.2.2.2.1,r1.2.2.2.2.2.2.1,r1.2.2.2.2.2.2.2.1,r1.2.2.2.2.2.2.2.2.1,r1.2.2.2.2.2.2.2.2.2.1,r1.2.2.2.2.2.2.2.2.2.2)
def jO(a9:List aA):Stp (Int×Int) Int
 |(v1,v2)=>(bif decide (v2<(a9.length:Nat))then ck (cP v2 a9.length)<|(cd a9 ((0:Nat)+v2:Int)).bind λx1=>(om x1).bind λr1=>some (.inl ((i64.wrap (v1+r1)),(i64.wrap (v2+1))))else some (.inr v1))
def qa(a0:List fI)(a1:List bS)(a2:List dh)(a3:List aL)(a4:List fE)(a5:List fD)(a6:List bU)(a7:Int)(a8:List au)(a9:List aA):Option (Int×gX):=
 (iter (jO a9) n (0,0)).bind λw1=>ck (be a9.length a9.length)<|some (w1,a0,a1,a2,a3,a4,a5,a6,a7,a8,a9)
def kM(a0:List fI)(a1:List bS)(a2:List dh)(a3:List aL)(a4:List fE)(a5:List fD)(a6:List bU)(a7:Int)(a8:List au)(a9:List aA):Option (Int×gX):=
 ck (be a9.length a9.length)<|(qa n a0 a1 a2 a3 a4 a5 a6 a7 a8 a9).bind λr1=>ck (be r1.2.2.2.2.2.2.2.2.2.2.length r1.2.2.2.2.2.2.2.2.2.2.length)<|some (r1.1,r1.2.1,r1.2.2.1,r1.2.2.2.1,r1.2.2.2.2.1,r1.2.2.2.2.2.1,r1.2.2.2.2.2.2.1,r1.2.2.2.2.2.2.2.1,r1.2.2.2.2.2.2.2.2.1,r1.2.2.2.2.2.2.2.2.2.1,r1.2.2.2.2.2.2.2.2.2.2)
def iQ(ju:List au)(r1:au×Bool):Stp (Int×Int) Int
 |(v1,v2)=>(bif decide (v2<ju.length)then((cd ju v2).bind λx1=>(q9 r1.1 x1).bind λr2=>(bif r2.2 then(oh r2.1).bind λr3=>some (i64.wrap (v1+r3))else some v1):Option Int).bind λv3=>some (.inl (v3,(i64.wrap (v2+1))))else some (.inr v1))
def jP(a0:au)(a1:Int)(a2:List fI)(a3:List bS)(a4:List dh)(a5:List aL)(a6:List fE)(a7:List fD)(a8:List bU)(a9:Int)(ju:List au)(sm:List aA):Option (Bool×gX):=
 (AO a0 a1).bind λr1=>(bif (!r1.2)then ck (be sm.length sm.length)<|some (false,a2,a3,a4,a5,a6,a7,a8,a9,ju,sm)else(iter (iQ ju r1) n (0,0)).bind λw1=>(oh r1.1).bind λr4=>ck (be sm.length sm.length)<|some ((w1==r4),a2,a3,a4,a5,a6,a7,a8,a9,ju,sm))
def dY(x1:aA):Stp (Int×Int×gX) (Int×gX)
 |(v13,v14,v15,v16,v17,v18,v19,v20,v21,v22,v23,v24)=>(bif decide (v13<v14)then ck (2 !=0)<|ck (be v24.length v24.length)<|(jP n (au.mk x1.aE x1.bp x1.az x1.bo) (i64.wrap (Int.tdiv (i64.wrap ((i64.wrap (v13+v14))+1)) 2)) v15 v16 v17 v18 v19 v20 v21 v22 v23 v24).bind λr1=>(bif r1.1 then ck (be r1.2.2.2.2.2.2.2.2.2.2.length r1.2.2.2.2.2.2.2.2.2.2.length)<|some (.inl ((i64.wrap (Int.tdiv (i64.wrap ((i64.wrap (v13+v14))+1)) 2)),v14,r1.2.1,r1.2.2.1,r1.2.2.2.1,r1.2.2.2.2.1,r1.2.2.2.2.2.1,r1.2.2.2.2.2.2.1,r1.2.2.2.2.2.2.2.1,r1.2.2.2.2.2.2.2.2.1,r1.2.2.2.2.2.2.2.2.2.1,r1.2.2.2.2.2.2.2.2.2.2))else ck (be r1.2.2.2.2.2.2.2.2.2.2.length r1.2.2.2.2.2.2.2.2.2.2.length)<|some (.inl (v13,(i64.wrap ((i64.wrap (Int.tdiv (i64.wrap ((i64.wrap (v13+v14))+1)) 2))-1)),r1.2.1,r1.2.2.1,r1.2.2.2.1,r1.2.2.2.2.1,r1.2.2.2.2.2.1,r1.2.2.2.2.2.2.1,r1.2.2.2.2.2.2.2.1,r1.2.2.2.2.2.2.2.2.1,r1.2.2.2.2.2.2.2.2.2.1,r1.2.2.2.2.2.2.2.2.2.2)))else ck (be v24.length v24.length)<|some (.inr (v13,v15,v16,v17,v18,v19,v20,v21,v22,v23,v24)))
def iB(a9:List aA):Stp (Int×Int×gX) (Int×gX)
 |(v1,v2,v3,v4,v5,v6,v7,v8,v9,v10,v11,v12)=>(bif decide (v2<(a9.length:Nat))then ck (cP v2 a9.length)<|(cd v12 ((0:Nat)+v2:Int)).bind λx1=>ck (be v12.length v12.length)<|(iter (dY n x1) n (0,v1,v3,v4,v5,v6,v7,v8,v9,v10,v11,v12)).bind λ(w1,w2,w3,w4,w5,w6,w7,w8,w9,wn,uA)=>ck (be uA.length uA.length)<|some (.inl (w1,(i64.wrap (v2+1)),w2,w3,w4,w5,w6,w7,w8,w9,wn,uA))else ck (be v12.length v12.length)<|some (.inr (v1,v3,v4,v5,v6,v7,v8,v9,v10,v11,v12)))
def jA(a0:List fI)(a1:List bS)(a2:List dh)(a3:List aL)(a4:List fE)(a5:List fD)(a6:List bU)(a7:Int)(a8:List au)(a9:List aA):Option (Int×gX):=
 ck (be a9.length a9.length)<|(iter (iB n a9) n (1048576,0,a0,a1,a2,a3,a4,a5,a6,a7,a8,a9)).bind λ(OF,On,Fi,Ok,w16,Of,N6,N5,N4,N3,Fc)=>ck (be Fc.length Fc.length)<|some (OF,On,Fi,Ok,w16,Of,N6,N5,N4,N3,Fc)
def kD(a0:aA)(a1:List fI)(a2:List bS)(a3:List dh)(a4:List aL)(a5:List fE)(a6:List fD)(a7:List bU)(a8:Int)(a9:List au)(ju:List aA):Option (Int×gX):=
 (iL n (bW.mk a1 a2 a3 a4 a5 a6 a7 a8) a0).bind λr1=>ck (be ju.length ju.length)<|some (r1,a1,a2,a3,a4,a5,a6,a7,a8,a9,ju)
def jQ(a9:List aA):Stp (Int×Int×gX) (Int×gX)
 |(v1,v2,v3,v4,v5,v6,v7,v8,v9,v10,v11,v12)=>(bif decide (v2<(a9.length:Nat))then ck (cP v2 a9.length)<|(cd v12 ((0:Nat)+v2:Int)).bind λx1=>ck (be v12.length v12.length)<|(kD n x1 v3 v4 v5 v6 v7 v8 v9 v10 v11 v12).bind λr1=>ck (be r1.2.2.2.2.2.2.2.2.2.2.length r1.2.2.2.2.2.2.2.2.2.2.length)<|some (.inl ((i64.wrap (v1+r1.1)),(i64.wrap (v2+1)),r1.2.1,r1.2.2.1,r1.2.2.2.1,r1.2.2.2.2.1,r1.2.2.2.2.2.1,r1.2.2.2.2.2.2.1,r1.2.2.2.2.2.2.2.1,r1.2.2.2.2.2.2.2.2.1,r1.2.2.2.2.2.2.2.2.2.1,r1.2.2.2.2.2.2.2.2.2.2))else ck (be v12.length v12.length)<|some (.inr (v1,v3,v4,v5,v6,v7,v8,v9,v10,v11,v12)))
def qb(a0:List fI)(a1:List bS)(a2:List dh)(a3:List aL)(a4:List fE)(a5:List fD)(a6:List bU)(a7:Int)(a8:List au)(a9:List aA):Option (Int×gX):=
 ck (be a9.length a9.length)<|(iter (jQ n a9) n (0,0,a0,a1,a2,a3,a4,a5,a6,a7,a8,a9)).bind λ(w1,w2,w3,w4,w5,w6,w7,w8,w9,wn,uA)=>ck (be uA.length uA.length)<|some (w1,w2,w3,w4,w5,w6,w7,w8,w9,wn,uA)
def jB(a0:List fI)(a1:List bS)(a2:List dh)(a3:List aL)(a4:List fE)(a5:List fD)(a6:List bU)(a7:Int)(a8:List au)(a9:List aA):Option (Int×gX):=
 ck (be a9.length a9.length)<|(qb n a0 a1 a2 a3 a4 a5 a6 a7 a8 a9).bind λr1=>ck (be r1.2.2.2.2.2.2.2.2.2.2.length r1.2.2.2.2.2.2.2.2.2.2.length)<|some (r1.1,r1.2.1,r1.2.2.1,r1.2.2.2.1,r1.2.2.2.2.1,r1.2.2.2.2.2.1,r1.2.2.2.2.2.2.1,r1.2.2.2.2.2.2.2.1,r1.2.2.2.2.2.2.2.2.1,r1.2.2.2.2.2.2.2.2.2.1,r1.2.2.2.2.2.2.2.2.2.2)
def ql(r2:List aA):Stp (Int×gX) (gX)
 |(v10,v11,v12,v13,v14,v15,v16,v17,v18,v19,v20)=>(bif decide (v10<(r2.length:Nat))then(ck (cP v10 r2.length)<|(cd r2 ((0:Nat)+v10:Int)).bind λx1=>((bif decide (v10<40)then(gq x1).bind λr3=>some r3 else some false)).bind λv21=>(bif v21 then ck (bQ v20.length v20.length (sub ([x1]:List aA) 0 1).length 1 72)<|jk (v20++(sub ([x1]:List aA) 0 1)) λr4=>ck (be r4.length r4.length)<|some (v11,v12,v13,v14,v15,v16,v17,v18,v19,r4)else ck (be v20.length v20.length)<|some (v11,v12,v13,v14,v15,v16,v17,v18,v19,v20)):Option (gX)).bind λ(v22,v23,v24,v25,v26,v27,v28,v29,v30,v31)=>ck (be v31.length v31.length)<|some (.inl ((i64.wrap (v10+1)),v22,v23,v24,v25,v26,v27,v28,v29,v30,v31))else ck (be v20.length v20.length)<|some (.inr (v11,v12,v13,v14,v15,v16,v17,v18,v19,v20)))
def kE(a0:bW)(a1:dO)(a2:aJ):Option (List bC):=
 ((kr n a1.area).bind λr1=>(bif r1 then some (a0.defs,a0.tables,a0.zones,a0.rules,a0.caps,a0.views,a0.tI,a0.hours,a1.area)else some (a0.defs,a0.tables,a0.zones,a0.rules,a0.caps,a0.views,a0.tI,a0.hours,[])):Option ((List fI)×(List bS)×(List dh)×(List aL)×(List fE)×(List fD)×(List bU)×Int×(List au))).bind λ(v1,v2,v3,v4,v5,v6,v7,v8,v9)=>(nP n a2 0 a2.phases.length).bind λr2=>ck (be 0 ([]:List aA).length)<|(iter (ql r2) n (0,v1,v2,v3,v4,v5,v6,v7,v8,v9,[])).bind λ(w1,w2,w3,w4,w5,w6,w7,w8,w9,wn)=>ck (be wn.length wn.length)<|(mI n w1 w2 w3 w4 w5 w6 w7 w8 w9 wn).bind λr5=>ck (bQ 0 0 (sub ([(bC.mk (⟨#[97,114,101,97]⟩) r5.1)]:List bC) 0 1).length 1 24)<|jk ((sub ([(bC.mk (⟨#[97,114,101,97]⟩) r5.1)]:List bC) 0 1)) λr6=>ck (be r5.2.2.2.2.2.2.2.2.2.2.length r5.2.2.2.2.2.2.2.2.2.2.length)<|(iV n r5.2.1 r5.2.2.1 r5.2.2.2.1 r5.2.2.2.2.1 r5.2.2.2.2.2.1 r5.2.2.2.2.2.2.1 r5.2.2.2.2.2.2.2.1 r5.2.2.2.2.2.2.2.2.1 r5.2.2.2.2.2.2.2.2.2.1 r5.2.2.2.2.2.2.2.2.2.2).bind λr7=>ck (bQ r6.length r6.length (sub ([(bC.mk (⟨#[99,111,118,101,114]⟩) r7.1)]:List bC) 0 1).length 1 24)<|jk (r6++(sub ([(bC.mk (⟨#[99,111,118,101,114]⟩) r7.1)]:List bC) 0 1)) λr8=>ck (be r7.2.2.2.2.2.2.2.2.2.2.length r7.2.2.2.2.2.2.2.2.2.2.length)<|(kL n r7.2.1 r7.2.2.1 r7.2.2.2.1 r7.2.2.2.2.1 r7.2.2.2.2.2.1 r7.2.2.2.2.2.2.1 r7.2.2.2.2.2.2.2.1 r7.2.2.2.2.2.2.2.2.1 r7.2.2.2.2.2.2.2.2.2.1 r7.2.2.2.2.2.2.2.2.2.2).bind λr9=>ck (bQ r8.length r8.length (sub ([(bC.mk (⟨#[102,108,111,111,114]⟩) r9.1)]:List bC) 0 1).length 1 24)<|jk (r8++(sub ([(bC.mk (⟨#[102,108,111,111,114]⟩) r9.1)]:List bC) 0 1)) λur=>ck (be r9.2.2.2.2.2.2.2.2.2.2.length r9.2.2.2.2.2.2.2.2.2.2.length)<|(jM n r9.2.1 r9.2.2.1 r9.2.2.2.1 r9.2.2.2.2.1 r9.2.2.2.2.2.1 r9.2.2.2.2.2.2.1 r9.2.2.2.2.2.2.2.1 r9.2.2.2.2.2.2.2.2.1 r9.2.2.2.2.2.2.2.2.2.1 r9.2.2.2.2.2.2.2.2.2.2).bind λsR=>ck (bQ ur.length ur.length (sub ([(bC.mk (⟨#[102,108,111,111,114,115]⟩) sR.1)]:List bC) 0 1).length 1 24)<|jk (ur++(sub ([(bC.mk (⟨#[102,108,111,111,114,115]⟩) sR.1)]:List bC) 0 1)) λPl=>ck (be sR.2.2.2.2.2.2.2.2.2.2.length sR.2.2.2.2.2.2.2.2.2.2.length)<|(jN n sR.2.1 sR.2.2.1 sR.2.2.2.1 sR.2.2.2.2.1 sR.2.2.2.2.2.1 sR.2.2.2.2.2.2.1 sR.2.2.2.2.2.2.2.1 sR.2.2.2.2.2.2.2.2.1 sR.2.2.2.2.2.2.2.2.2.1 sR.2.2.2.2.2.2.2.2.2.2).bind λsL=>ck (bQ Pl.length Pl.length (sub ([(bC.mk (⟨#[104,101,105,103,104,116]⟩) sL.1)]:List bC) 0 1).length 1 24)<|jk (Pl++(sub ([(bC.mk (⟨#[104,101,105,103,104,116]⟩) sL.1)]:List bC) 0 1)) λPi=>ck (be sL.2.2.2.2.2.2.2.2.2.2.length sL.2.2.2.2.2.2.2.2.2.2.length)<|(kM n sL.2.1 sL.2.2.1 sL.2.2.2.1 sL.2.2.2.2.1 sL.2.2.2.2.2.1 sL.2.2.2.2.2.2.1 sL.2.2.2.2.2.2.2.1 sL.2.2.2.2.2.2.2.2.1 sL.2.2.2.2.2.2.2.2.2.1 sL.2.2.2.2.2.2.2.2.2.2).bind λsE=>ck (bQ Pi.length Pi.length (sub ([(bC.mk (⟨#[104,111,109,101,115]⟩) sE.1)]:List bC) 0 1).length 1 24)<|jk (Pi++(sub ([(bC.mk (⟨#[104,111,109,101,115]⟩) sE.1)]:List bC) 0 1)) λr16=>ck (be sE.2.2.2.2.2.2.2.2.2.2.length sE.2.2.2.2.2.2.2.2.2.2.length)<|(iV n sE.2.1 sE.2.2.1 sE.2.2.2.1 sE.2.2.2.2.1 sE.2.2.2.2.2.1 sE.2.2.2.2.2.2.1 sE.2.2.2.2.2.2.2.1 sE.2.2.2.2.2.2.2.2.1 sE.2.2.2.2.2.2.2.2.2.1 sE.2.2.2.2.2.2.2.2.2.2).bind λsC=>ck (bQ r16.length r16.length (sub ([(bC.mk (⟨#[114,117,110,111,102,102]⟩) sC.1)]:List bC) 0 1).length 1 24)<|jk (r16++(sub ([(bC.mk (⟨#[114,117,110,111,102,102]⟩) sC.1)]:List bC) 0 1)) λPc=>ck (be sC.2.2.2.2.2.2.2.2.2.2.length sC.2.2.2.2.2.2.2.2.2.2.length)<|(jA n sC.2.1 sC.2.2.1 sC.2.2.2.1 sC.2.2.2.2.1 sC.2.2.2.2.2.1 sC.2.2.2.2.2.2.1 sC.2.2.2.2.2.2.2.1 sC.2.2.2.2.2.2.2.2.1 sC.2.2.2.2.2.2.2.2.2.1 sC.2.2.2.2.2.2.2.2.2.2).bind λsB=>ck (bQ Pc.length Pc.length (sub ([(bC.mk (⟨#[115,101,116,98,97,99,107]⟩) sB.1)]:List bC) 0 1).length 1 24)<|jk (Pc++(sub ([(bC.mk (⟨#[115,101,116,98,97,99,107]⟩) sB.1)]:List bC) 0 1)) λPa=>ck (be sB.2.2.2.2.2.2.2.2.2.2.length sB.2.2.2.2.2.2.2.2.2.2.length)<|(jB n sB.2.1 sB.2.2.1 sB.2.2.2.1 sB.2.2.2.2.1 sB.2.2.2.2.2.1 sB.2.2.2.2.2.2.1 sB.2.2.2.2.2.2.2.1 sB.2.2.2.2.2.2.2.2.1 sB.2.2.2.2.2.2.2.2.2.1 sB.2.2.2.2.2.2.2.2.2.2).bind λZD=>ck (bQ Pa.length Pa.length (sub ([(bC.mk (⟨#[116,114,97,102,102,105,99]⟩) ZD.1)]:List bC) 0 1).length 1 24)<|jk (Pa++(sub ([(bC.mk (⟨#[116,114,97,102,102,105,99]⟩) ZD.1)]:List bC) 0 1)) λFA=>ck (be (sub FA 0 FA.length).length FA.length)<|some (sub FA 0 FA.length)
def yG(a0:Int):Option (Int×Bool):=
 ((bif (a0==0)then some (a0==0)else(bif (a0==1)then some (a0==1)else(bif (a0==2)then some (a0==2)else some (a0==3))))).bind λv1=>(bif v1 then some (0,true)else((bif (a0==9)then some (a0==9)else some (a0==15))).bind λv2=>(bif v2 then some (1,true)else(bif (a0==16)then some (3,true)else(bif decide (a0>=0)then some (2,(decide (a0<17)))else some (2,false)))))
def wZ(n:Nat)(rc:(bD)->(Int)->Option Int)(a0:bD)(a1:Int):Stp (Int×Int) Int
 |(v2,v3)=>(bif decide (v3<a0.args.length)then(cd a0.args v3).bind λx1=>(rc (bD.mk x1.op x1.n x1.s x1.key x1.args) (i64.wrap (a1+1))).bind λr2=>some (.inl ((max v2 r2),(i64.wrap (v3+1))))else some (.inr v2))
def zP(rc:(bD)->(Int)->Option Int)(a0:bD)(a1:Int):Option Int:=
 (yG a0.op).bind λr1=>((bif (!r1.2)then some true else(bif (r1.1 !=a0.args.length)then some true else some (decide (a1>=12))))).bind λv1=>(bif v1 then some 13 else(iter (wZ n rc a0 a1) n (0,0)).bind λw1=>some (i64.wrap (w1+1)))
def D9(rc:(bD)->(Int)->Option Int):co xx:=⟨[.d (.st SI.Expr),.d (.int .i64)],[.d (.int .i64)],λa=>rc a.1 a.2.1,none⟩
def rq(n:Nat):Nat->(bD)->(Int)->Option Int
 | 0=>λ_ _=>none
 |m+1=>zP n (rq n m)
def OI(a0:bD)(a1:Int):Option Int:=rq n n a0 a1
def G7(a0:bD):Option Bool:=
 (OI n (bD.mk a0.op a0.n a0.s a0.key a0.args) 0).bind λr1=>some (decide (r1<=12))
def wH:Option (List ByteArray):=
 ck (be (sub ([⟨#[97,114,101,97]⟩,⟨#[99,111,118,101,114]⟩,⟨#[102,108,111,111,114]⟩,⟨#[102,108,111,111,114,115]⟩,⟨#[104,101,105,103,104,116]⟩,⟨#[104,111,109,101,115]⟩,⟨#[114,117,110,111,102,102]⟩,⟨#[115,101,116,98,97,99,107]⟩,⟨#[116,114,97,102,102,105,99]⟩]:List ByteArray) 0 9).length 9)<|some (sub ([⟨#[97,114,101,97]⟩,⟨#[99,111,118,101,114]⟩,⟨#[102,108,111,111,114]⟩,⟨#[102,108,111,111,114,115]⟩,⟨#[104,101,105,103,104,116]⟩,⟨#[104,111,109,101,115]⟩,⟨#[114,117,110,111,102,102]⟩,⟨#[115,101,116,98,97,99,107]⟩,⟨#[116,114,97,102,102,105,99]⟩]:List ByteArray) 0 9)
mutual
def toE:bD->ET
 |⟨op,_,s,_,args⟩=>.mk op s (G8 args)
def G8:List bD->List ET
 |[]=>[]
 |x::xs=>toE x::G8 xs
end
def toD(d:fI):ByteArray×ET:=(d.name,.mk d.iu d.km (G8 d.ek))
def kY(a0:List fI):Option ((List fI)×(List (List Int))):=ck (Nat.ble (qq (a0.map toD)) 4000000)<|some (a0,og (a0.map toD))
def qm(a0:List Int)(a1:Int):Option (List Int):=match a0 with
 |[x]=>ck (decide (0<=a1)&&decide (a1<=1000000000000))<|some (List.replicate a1.toNat x)
 |_=>none
def Q9(a0:List Int)(a1:Int):Stp Int (Unit⊕Int)
 |v1=>(bif decide (v1<a0.length)then(cd a0 v1).bind λx1=>(bif (a1==x1)then(some v1).map λa=>.inr (.inr a)else some (.inl (i64.wrap (v1+1))))else some (.inr (.inl ())))
def Ea(a0:List Int)(a1:Int):Option Int:=
 d9 (iter (Q9 a0 a1) n 0) λ()=>some (-1)
def qG(a0:List Int)(a1:Int):Option Bool:=
 (Ea n a0 a1).bind λr1=>some (decide (r1>=0))
def fV(a0:oM)(r1:List Int)(x2:Int):Stp (Int×Int×(List Int)×(List Int)) (Int×(List Int)×(List Int))
 |(v4,v5,v6,v7)=>(bif decide (v5<a0.uses.length)then((cd a0.uses v5).bind λx3=>(ck (cP v5 r1.length)<|(cd v6 ((0:Nat)+v5:Int)).bind λx4=>(bif decide (x4<0)then(qG n x3 x2).bind λr2=>some r2 else some false)).bind λv8=>(bif v8 then ck (cP x2 r1.length)<|(cd v6 ((0:Nat)+x2:Int)).bind λx5=>ck (cP v5 r1.length)<|(cd v6 ((0:Nat)+v5:Int)).bind λx6=>ck (bQ (Ug (v4.toNat) v7).length (v7.length-v4.toNat) (sub ([v5]:List Int) 0 1).length 1 8)<|jk ((Ug (v4.toNat) v7)++(sub ([v5]:List Int) 0 1)) λr3=>ck (be (0+r3.length) r3.length)<|some ((0:Nat),(v6.set ((0:Nat)+v5:Int).toNat (i64.wrap (x5+1))),r3)else ck (be ((v4.toNat)+(v7.length-v4.toNat)) v7.length)<|some ((v4.toNat:Nat),v6,v7)):Option (Int×(List Int)×(List Int))).bind λ(v9,v10,v11)=>ck (be ((v9.toNat)+(v11.length-v9.toNat)) v11.length)<|some (.inl ((v9.toNat:Nat),(i64.wrap (v5+1)),v10,v11))else ck (be ((v4.toNat)+(v7.length-v4.toNat)) v7.length)<|some (.inr ((v4.toNat:Nat),v6,v7)))
def dL(a0:oM)(r1:List Int):Stp (Int×(List Int)×(List Int)) (List Int)
 |(v1,v2,v3)=>(bif (decide ((((v3.length-(v1:Int).toNat):Nat):Int)>0))then ck (cP 0 (v3.length-v1.toNat))<|(cd v3 ((v1.toNat:Nat)+0:Int)).bind λx2=>ck (Av 1 ((v3.length-v1.toNat):Nat) (v3.length-v1.toNat))<|ck (be ((v1.toNat+1)+((v3.length-v1.toNat)-1)) v3.length)<|(iter (fV n a0 r1 x2) n (((v1.toNat+1):Nat),0,v2,v3)).bind λ(w1,w2,w3)=>ck (be ((w1.toNat)+(w3.length-w1.toNat)) w3.length)<|some (.inl ((w1.toNat:Nat),w2,w3))else some (.inr v2))
def jR(a0:oM)(a1:Int):Option (List Int):=
 ck (be (sub ([(-1)]:List Int) 0 1).length 1)<|(qm (sub ([(-1)]:List Int) 0 1) a0.defs.length).bind λr1=>ck (cP a1 r1.length)<|(cd r1 ((0:Nat)+a1:Int)).bind λx1=>ck (be (0+1) ([a1]:List Int).length)<|(iter (dL n a0 r1) n ((0:Nat),(r1.set ((0:Nat)+a1:Int).toNat 0),([a1]:List Int))).bind λw4=>ck (be (sub w4 0 r1.length).length r1.length)<|some (sub w4 0 r1.length)
def cmp_isNaN_string(a0:ByteArray):Option Bool:=
 some (!(ByteArray.toList a0==ByteArray.toList a0))
def nG(a0:ByteArray)(a1:ByteArray):Option Int:=
 (cmp_isNaN_string a0).bind λr1=>(cmp_isNaN_string a1).bind λr2=>(bif r1 then(bif r2 then some 0 else some (-1))else(bif r2 then some 1 else(bif (Uc a0 a1)then some (-1)else(bif (!(Uc a0 a1 || ByteArray.toList a0==ByteArray.toList a1))then some 1 else some 0))))
def lK(a0:List ByteArray)(a1:List ByteArray):Stp Int (Unit⊕Int)
 |v1=>(bif decide (v1<a0.length)then(cd a0 v1).bind λx1=>(bif decide (v1>=a1.length)then(some 1).map λa=>.inr (.inr a)else(cd a1 v1).bind λx2=>(nG x1 x2).bind λr1=>(bif (r1 !=0)then(some r1).map λa=>.inr (.inr a)else some (.inl (i64.wrap (v1+1)))))else some (.inr (.inl ())))
def lM(a0:List ByteArray)(a1:List ByteArray):Option Int:=
 d9 (iter (lK a0 a1) n 0) λ()=>(bif decide (a0.length<(a1.length:Int))then some (-1)else some 0)
def l8(a0:Int)(a1:List Bool):Option (Bool×(List Bool)):=
 ck (cP a0 a1.length)<|(cd a1 ((0:Nat)+a0:Int)).bind λx1=>ck (be a1.length a1.length)<|some ((!x1),a1)
def jS(a0:List Int):Stp (Int×(List Bool)) ((List Bool)⊕(Int×(List Bool)))
 |(v1,v2)=>(bif decide (v1<a0.length)then(cd a0 v1).bind λx1=>ck (be v2.length v2.length)<|(l8 x1 v2).bind λr1=>(bif r1.1 then(ck (be r1.2.length r1.2.length)<|some (v1,r1.2)).map λa=>.inr (.inr a)else ck (be r1.2.length r1.2.length)<|some (.inl ((i64.wrap (v1+1)),r1.2)))else ck (be v2.length v2.length)<|some (.inr (.inl v2)))
def mJ(a0:List Int)(a1:List Bool):Option (Int×(List Bool)):=
 ck (be a1.length a1.length)<|d9 (iter (jS a0) n (0,a1)) λw1=>ck (be w1.length w1.length)<|some ((-1),w1)
def iC(a0:List Int)(a1:List Bool):Option (Bool×(List Bool)):=
 ck (be a1.length a1.length)<|(mJ n a0 a1).bind λr1=>ck (be r1.2.length r1.2.length)<|some ((decide (r1.1>=0)),r1.2)
def iW(a0:oM):Stp (Int×Int×(List Bool)) (Int×(List Bool))
 |(v4,v5,v6)=>(bif decide (v5<a0.uses.length)then((cd a0.uses v5).bind λx1=>ck (be v6.length v6.length)<|(iC n x1 v6).bind λr1=>(ck (cP v5 r1.2.length)<|(cd r1.2 ((0:Nat)+v5:Int)).bind λx2=>(bif (!x2)then(bif (!r1.1)then(bif decide (v4<0)then some true else(cd a0.defs v5).bind λx3=>(cd a0.defs v4).bind λx4=>some (Uc x3.name x4.name))else some false)else some false)).bind λv7=>(bif v7 then ck (be r1.2.length r1.2.length)<|some (v5,r1.2)else ck (be r1.2.length r1.2.length)<|some (v4,r1.2)):Option (Int×(List Bool))).bind λ(v8,v9)=>ck (be v9.length v9.length)<|some (.inl (v8,(i64.wrap (v5+1)),v9))else ck (be v6.length v6.length)<|some (.inr (v4,v6)))
def kN(a0:oM):Stp (Int×(List Int)×(List Bool)) (List Int)
 |(v1,v2,v3)=>(bif decide (v1<a0.defs.length)then ck (be v3.length v3.length)<|(iter (iW n a0) n ((-1),0,v3)).bind λ(w1,w2)=>ck (cP w1 w2.length)<|(cd w2 ((0:Nat)+w1:Int)).bind λx5=>ck (bQ v2.length v2.length (sub ([w1]:List Int) 0 1).length 1 8)<|jk (v2++(sub ([w1]:List Int) 0 1)) λr2=>ck (be r2.length r2.length)<|ck (be w2.length (w2.set ((0:Nat)+w1:Int).toNat true).length)<|some (.inl ((i64.wrap (v1+1)),r2,(w2.set ((0:Nat)+w1:Int).toNat true)))else ck (be v2.length v2.length)<|some (.inr v2))
def nH(a0:oM):Option (List Int):=
 ck (decide ((a0.defs.length:Int)<=a0.defs.length)&&(decide (0<=(a0.defs.length:Int))&&ze a0.defs.length 1))<|ck (be 0 ([]:List Int).length)<|ck (be ((a0.defs.length:Int).toNat) (List.replicate (a0.defs.length:Int).toNat false).length)<|(iter (kN n a0) n (0,[],(List.replicate (a0.defs.length:Int).toNat false))).bind λw3=>ck (be (sub w3 0 w3.length).length w3.length)<|some (sub w3 0 w3.length)
def iR(r1:List Int)(x2:List Int):Stp (Int×Int) Int
 |(v3,v4)=>(bif decide (v4<x2.length)then((cd x2 v4).bind λx3=>(ck (cP x3 r1.length)<|(cd r1 ((0:Nat)+x3:Int)).bind λx4=>(bif decide (x4>=0)then(bif decide (v3<0)then some true else ck (cP x3 r1.length)<|(cd r1 ((0:Nat)+x3:Int)).bind λx5=>ck (cP v3 r1.length)<|(cd r1 ((0:Nat)+v3:Int)).bind λx6=>some (decide (x5<x6)))else some false)).bind λv5=>(bif v5 then some x3 else some v3):Option Int).bind λv6=>some (.inl (v6,(i64.wrap (v4+1))))else some (.inr v3))
def kU(a0:Int)(a1:List fI)(a2:List (List Int))(r1:List Int):Stp (Int×(List ByteArray)) (Unit⊕((List fI)×(List (List Int))×(List ByteArray)))
 |(v1,v2)=>(cd a1 v1).bind λx1=>ck (bQ v2.length v2.length (sub ([x1.name]:List ByteArray) 0 1).length 1 16)<|jk (v2++(sub ([x1.name]:List ByteArray) 0 1)) λr2=>(cd a2 v1).bind λx2=>(iter (iR r1 x2) n ((-1),0)).bind λw1=>(bif decide (w1<0)then(ck (be 0 ([]:List ByteArray).length)<|some (a1,a2,[])).map λa=>.inr (.inr a)else(bif (w1==a0)then(ck (!(r2.length==0)&&be r2.length r2.length)<|some (a1,a2,r2)).map λa=>.inr (.inr a)else ck (be r2.length r2.length)<|some (.inl (w1,r2))))
def jT(a0:Int)(a1:List fI)(a2:List (List Int)):Option ((List fI)×(List (List Int))×(List ByteArray)):=
 (jR n (oM.mk a1 a2) a0).bind λr1=>ck (be 0 ([]:List ByteArray).length)<|d9 (iter (kU n a0 a1 a2 r1) n (a0,[])) λ()=>none
def ic(a0:List fI):Stp (Int×(List fI)×(List (List Int))×(List ByteArray)) ((List fI)×(List (List Int))×(List ByteArray))
 |(v1,v2,v3,v4)=>(bif decide (v1<a0.length)then((jT n v1 v2 v3).bind λr1=>((bif r1.2.2.length==0 then some true else some false)).bind λv5=>(bif v5 then ck (be v4.length v4.length)<|some (r1.1,r1.2.1,v4)else((bif v4.length==0 then some true else(bif decide ((r1.2.2.length:Nat)<(v4.length:Int))then some true else(bif ((r1.2.2.length:Nat)==(v4.length:Int))then ck (be (sub r1.2.2 0 r1.2.2.length).length r1.2.2.length)<|ck (be (sub v4 0 v4.length).length v4.length)<|(lM n (sub r1.2.2 0 r1.2.2.length) (sub v4 0 v4.length)).bind λr2=>some (decide (r2<0))else some false)))).bind λv6=>(bif v6 then ck (be r1.2.2.length r1.2.2.length)<|some (r1.1,r1.2.1,r1.2.2)else ck (be v4.length v4.length)<|some (r1.1,r1.2.1,v4))):Option ((List fI)×(List (List Int))×(List ByteArray))).bind λ(v7,v8,v9)=>ck (be v9.length v9.length)<|some (.inl ((i64.wrap (v1+1)),v7,v8,v9))else ck (be v4.length v4.length)<|some (.inr (v2,v3,v4)))
def jh(a0:List fI)(a1:List (List Int)):Option ((List fI)×(List (List Int))×(List ByteArray)):=
 ck (be 0 ([]:List ByteArray).length)<|(iter (ic n a0) n (0,a0,a1,[])).bind λ(w1,w2,w3)=>ck (be w3.length w3.length)<|some (w1,w2,w3)
def nQ(r1:List ByteArray):Stp (Int×(List (ByteArray×Bool))) (List (ByteArray×Bool))
 |(v1,v2)=>(bif decide (v1<(r1.length:Nat))then ck (cP v1 r1.length)<|(cd r1 ((0:Nat)+v1:Int)).bind λx1=>some (.inl ((i64.wrap (v1+1)),(EX ff x1 true v2)))else some (.inr v2))
def kZ(a0:bW):Stp (Int×(List (ByteArray×Bool))) (Unit⊕((List Int)×(List ByteArray)×Int))
 |(v3,v4)=>(bif decide (v3<a0.defs.length)then(cd a0.defs v3).bind λx2=>(bif ((gM ff x2.name v4).getD false)then(some ([],[],5)).map λa=>.inr (.inr a)else some (.inl ((i64.wrap (v3+1)),(EX ff x2.name true v4))))else some (.inr (.inl ())))
def nI(a0:bW):Option ((List Int)×(List ByteArray)×Int):=
 (wH).bind λr1=>(iter (nQ r1) n (0,([]:(List (ByteArray×Bool))))).bind λw1=>d9 (iter (kZ a0) n (0,w1)) λ()=>(kY a0.defs).bind λr2=>(jh n r2.1 r2.2).bind λr3=>((bif r3.2.2.length==0 then some false else some true)).bind λv5=>(bif v5 then ck (be (sub r3.2.2 0 r3.2.2.length).length r3.2.2.length)<|some ([],(sub r3.2.2 0 r3.2.2.length),16)else(nH n (oM.mk r3.1 r3.2.1)).bind λr4=>ck (be (sub r4 0 r4.length).length r4.length)<|some ((sub r4 0 r4.length),[],0))
def zQ(a0:bS)(a1:bD):Option Bool:=
 some (ByteArray.toList a0.name==ByteArray.toList a1.s)
def E5(a0:List bS)(a1:(bS×Unit)->Option Bool):Stp Int (Unit⊕Int)
 |v1=>(bif decide (v1<a0.length)then(cd a0 v1).bind λx1=>(a1 (x1,())).bind λr1=>(bif r1 then(some v1).map λa=>.inr (.inr a)else some (.inl (i64.wrap (v1+1))))else some (.inr (.inl ())))
def qP(a0:List bS)(a1:(bS×Unit)->Option Bool):Option Int:=
 d9 (iter (E5 a0 a1) n 0) λ()=>some (-1)
def zR(a0:bC)(a1:bD):Option Bool:=
 some (ByteArray.toList a0.name==ByteArray.toList a1.key)
def yH(a0:Bool):Option Int:=
 (bif a0 then some 1 else some 0)
def vY(a0:Int)(a1:Int):Option Int:=
 (bif (a1==0)then some 0 else ck (a1 !=0)<|(ck (a1 !=0)<|((bif ((Int.tmod a0 a1) !=0)then some (!((decide ((Int.tmod a0 a1)<0))==(decide (a1<0))))else some false)).bind λv1=>(bif v1 then some (i64.wrap ((i64.wrap (Int.tdiv a0 a1))-1))else some (i64.wrap (Int.tdiv a0 a1))):Option Int).bind λv2=>some v2)
def I8(a0:Int)(a1:Int)(a2:Int):Option Int:=
 (bif (a0==4)then some (i64.wrap (a1+a2))else(bif (a0==5)then some (i64.wrap (a1-a2))else(bif (a0==6)then some (i64.wrap (a1*a2))else(bif (a0==7)then(vY a1 a2).bind λr1=>some r1 else(bif (a0==8)then(bif (a2==0)then some 0 else(vY a1 a2).bind λr2=>some (i64.wrap (a1-(i64.wrap (r2*a2)))))else(bif (a0==10)then(yH (a1==a2)).bind λr3=>some r3 else(bif (a0==11)then(yH (decide (a1<a2))).bind λr4=>some r4 else(bif (a0==12)then(yH (decide (a1<=a2))).bind λr5=>some r5 else(bif (a0==13)then(bif (a1 !=0)then(yH (a2 !=0)).bind λr6=>some r6 else(yH false).bind λr7=>some r7)else(bif (a1 !=0)then(yH true).bind λr8=>some r8 else(yH (a2 !=0)).bind λr9=>some r9))))))))))
def jC(a0:List fI)(a1:List bS)(a2:List dh)(a3:List aL)(a4:List fE)(a5:List fD)(a6:List bU)(a7:Int)(a8:List ByteArray)(a9:bD)(ju:List (ByteArray×Int)):Option (Int×(List (ByteArray×Int))):=
 (qP n a1 (λ (y1:bS×Unit)=>zQ y1.1 (bD.mk a9.op a9.n a9.s a9.key a9.args))).bind λr1=>(bif decide (r1<0)then some (0,ju)else(cd a1 r1).bind λx1=>(kz n x1.rows (λ (y2:bC×Unit)=>zR y2.1 (bD.mk a9.op a9.n a9.s a9.key a9.args))).bind λr2=>(bif decide (r2>=0)then(cd x1.rows r2).bind λx2=>some (x2.n,ju)else some (x1.rh,ju)))
def eX(n:Nat)(rc:((List fI))->((List bS))->((List dh))->((List aL))->((List fE))->((List fD))->((List bU))->(Int)->((List ByteArray))->(bD)->((List (ByteArray×Int)))->Option (Int×(List (ByteArray×Int))))(a0:List fI)(a1:List bS)(a2:List dh)(a3:List aL)(a4:List fE)(a5:List fD)(a6:List bU)(a7:Int)(a8:List ByteArray)(a9:bD):Stp (Int×(List (ByteArray×Int))×(List Int)) ((List (ByteArray×Int))×(List Int))
 |(v1,v2,v3)=>(bif decide (v1<a9.args.length)then((cd a9.args v1).bind λx1=>((bif (a9.op==16)then(bif decide (v1>0)then ck (cP 0 v3.length)<|(cd v3 ((0:Nat)+0:Int)).bind λx2=>some (!((x2 !=0)==(v1==1)))else some false)else some false)).bind λv4=>(bif v4 then ck (bQ v3.length v3.length (sub ([0]:List Int) 0 1).length 1 8)<|jk (v3++(sub ([0]:List Int) 0 1)) λr1=>ck (be r1.length r1.length)<|some (v2,r1)else(rc a0 a1 a2 a3 a4 a5 a6 a7 a8 (bD.mk x1.op x1.n x1.s x1.key x1.args) v2).bind λr2=>ck (bQ v3.length v3.length (sub ([r2.1]:List Int) 0 1).length 1 8)<|jk (v3++(sub ([r2.1]:List Int) 0 1)) λr3=>ck (be r3.length r3.length)<|some (r2.2,r3)):Option ((List (ByteArray×Int))×(List Int))).bind λ(v5,v6)=>ck (be v6.length v6.length)<|some (.inl ((i64.wrap (v1+1)),v5,v6))else ck (be v3.length v3.length)<|some (.inr (v2,v3)))
def fw(rc:((List fI))->((List bS))->((List dh))->((List aL))->((List fE))->((List fD))->((List bU))->(Int)->((List ByteArray))->(bD)->((List (ByteArray×Int)))->Option (Int×(List (ByteArray×Int))))(a0:List fI)(a1:List bS)(a2:List dh)(a3:List aL)(a4:List fE)(a5:List fD)(a6:List bU)(a7:Int)(a8:List ByteArray)(a9:bD)(ju:List (ByteArray×Int)):Option (Int×(List (ByteArray×Int))):=
 ck (be 0 ([]:List Int).length)<|(iter (eX n rc a0 a1 a2 a3 a4 a5 a6 a7 a8 a9) n (0,ju,[])).bind λ(w1,w2)=>(bif (a9.op==0)then some (a9.n,w1)else(bif (a9.op==1)then some (((gM ff a9.s w1).getD 0),w1)else(bif (a9.op==2)then(jC n a0 a1 a2 a3 a4 a5 a6 a7 a8 (bD.mk a9.op a9.n a9.s a9.key a9.args) w1).bind λr4=>some (r4.1,r4.2)else(bif (a9.op==3)then(fJ n a8 a9.s).bind λr5=>(yH r5).bind λr6=>some (r6,w1)else(bif (a9.op==9)then ck (cP 0 w2.length)<|(cd w2 ((0:Nat)+0:Int)).bind λx3=>some ((i64.wrap (0-x3)),w1)else(bif (a9.op==15)then ck (cP 0 w2.length)<|(cd w2 ((0:Nat)+0:Int)).bind λx4=>(yH (x4==0)).bind λr7=>some (r7,w1)else(bif (a9.op==16)then ck (cP 0 w2.length)<|(cd w2 ((0:Nat)+0:Int)).bind λx5=>(bif (x5 !=0)then ck (cP 1 w2.length)<|(cd w2 ((0:Nat)+1:Int)).bind λx6=>some (x6,w1)else ck (cP 2 w2.length)<|(cd w2 ((0:Nat)+2:Int)).bind λx7=>some (x7,w1))else ck (cP 0 w2.length)<|(cd w2 ((0:Nat)+0:Int)).bind λx8=>ck (cP 1 w2.length)<|(cd w2 ((0:Nat)+1:Int)).bind λx9=>(I8 a9.op x8 x9).bind λr8=>some (r8,w1))))))))
def Eb(rc:((List fI))->((List bS))->((List dh))->((List aL))->((List fE))->((List fD))->((List bU))->(Int)->((List ByteArray))->(bD)->((List (ByteArray×Int)))->Option (Int×(List (ByteArray×Int)))):cW xx:=⟨[(.a [(.v (.sl (.st SI.Def))),(.v (.sl (.st SI.Table))),(.v (.sl (.st SI.Zone))),(.v (.sl (.st SI.Rule))),(.v (.sl (.st SI.Cap))),(.v (.sl (.st SI.View))),(.v (.sl (.st SI.gA))),(.v (.int .i64)),(.mp 0),(.v (.sl .str))]),(.v (.st SI.Expr))],[(0,.m .str (.int .i64))],[(.v (.int .i64))],[(0,.m .str (.int .i64))],λv=>rc (v.1) (v.2.1) (v.2.2.1) (v.2.2.2.1) (v.2.2.2.2.1) (v.2.2.2.2.2.1) (v.2.2.2.2.2.2.1) (v.2.2.2.2.2.2.2.1) (v.2.2.2.2.2.2.2.2.1) (v.2.2.2.2.2.2.2.2.2.1) (v.2.2.2.2.2.2.2.2.2.2)⟩
def jU(rc:((List fI))->((List bS))->((List dh))->((List aL))->((List fE))->((List fD))->((List bU))->(Int)->((List ByteArray))->(bD)->((List (ByteArray×Int)))->Option (Int×(List (ByteArray×Int)))):co xx:=⟨[],[.d .bool],λ_=>none,some (Eb rc)⟩
def bR(n:Nat):Nat->((List fI))->((List bS))->((List dh))->((List aL))->((List fE))->((List fD))->((List bU))->(Int)->((List ByteArray))->(bD)->((List (ByteArray×Int)))->Option (Int×(List (ByteArray×Int)))
 | 0=>λ_ _ _ _ _ _ _ _ _ _ _=>none
 |m+1=>fw n (bR n m)
def gB(a0:List fI)(a1:List bS)(a2:List dh)(a3:List aL)(a4:List fE)(a5:List fD)(a6:List bU)(a7:Int)(a8:List ByteArray)(a9:bD)(ju:List (ByteArray×Int)):Option (Int×(List (ByteArray×Int))):=bR n n a0 a1 a2 a3 a4 a5 a6 a7 a8 a9 ju
def jb(n:Nat)(a1:List bC):Stp (Int×(List (ByteArray×Int))×(List (ByteArray×Bool))) ((List (ByteArray×Int))×(List (ByteArray×Bool)))
 |(v1,v2,v3)=>(bif decide (v1<a1.length)then((cd a1 v1).bind λx1=>(bif (!((gM ff x1.name v3).getD false))then some ((EX ff x1.name x1.n v2),(EX ff x1.name true v3))else some (v2,v3)):Option ((List (ByteArray×Int))×(List (ByteArray×Bool)))).bind λ(v4,v5)=>some (.inl ((i64.wrap (v1+1)),v4,v5))else some (.inr (v2,v3)))
def gU(a0:bW)(a2:List ByteArray)(w2:List (ByteArray×Bool))(r1:(List Int)×(List ByteArray)×Int):Stp (Int×(List (ByteArray×Int))×(List Int)) ((List (ByteArray×Int))×(List Int))
 |(v6,v7,v8)=>(bif decide (v6<(r1.1.length:Nat))then(ck (cP v6 r1.1.length)<|(cd r1.1 ((0:Nat)+v6:Int)).bind λx2=>(cd a0.defs x2).bind λx3=>((G7 n (bD.mk x3.iu x3.lj x3.km x3.ik x3.ek)).bind λr2=>(bif r2 then(gB n a0.defs a0.tables a0.zones a0.rules a0.caps a0.views a0.tI a0.hours a2 (bD.mk x3.iu x3.lj x3.km x3.ik x3.ek) v7).bind λr3=>ck (cP x2 ((a0.defs.length:Int).toNat))<|(cd v8 ((0:Nat)+x2:Int)).bind λx4=>some (r3.2,(v8.set ((0:Nat)+x2:Int).toNat r3.1))else some (v7,v8)):Option ((List (ByteArray×Int))×(List Int))).bind λ(v9,v10)=>(bif (!((gM ff x3.name w2).getD false))then ck (cP x2 ((a0.defs.length:Int).toNat))<|(cd v10 ((0:Nat)+x2:Int)).bind λx5=>some ((EX ff x3.name x5 v9),v10)else some (v9,v10)):Option ((List (ByteArray×Int))×(List Int))).bind λ(v11,v12)=>some (.inl ((i64.wrap (v6+1)),v11,v12))else some (.inr (v7,v8)))
def l9(a0:bW)(a1:List bC)(a2:List ByteArray):Option ((List fI)×(List bS)×(List dh)×(List aL)×(List fE)×(List fD)×(List bU)×Int×(List ByteArray)×(List (ByteArray×Int))×(List Int)):=
 (iter (jb n a1) n (0,([]:(List (ByteArray×Int))),([]:(List (ByteArray×Bool))))).bind λ(w1,w2)=>ck (decide ((a0.defs.length:Int)<=a0.defs.length)&&(decide (0<=(a0.defs.length:Int))&&ze a0.defs.length 8))<|(nI n a0).bind λr1=>(bif (r1.2.2 !=0)then ck (be ((a0.defs.length:Int).toNat) (List.replicate (a0.defs.length:Int).toNat (0:Int)).length)<|some (a0.defs,a0.tables,a0.zones,a0.rules,a0.caps,a0.views,a0.tI,a0.hours,a2,w1,(List.replicate (a0.defs.length:Int).toNat 0))else(iter (gU n a0 a2 w2 r1) n (0,w1,(List.replicate (a0.defs.length:Int).toNat 0))).bind λ(w3,w4)=>ck (be ((a0.defs.length:Int).toNat) w4.length)<|some (a0.defs,a0.tables,a0.zones,a0.rules,a0.caps,a0.views,a0.tI,a0.hours,a2,w3,w4))
def vo(a0:bW)(a1:List bC)(a2:List ByteArray)(a3:bD):Option Int:=
 (G7 n (bD.mk a3.op a3.n a3.s a3.key a3.args)).bind λr1=>(bif (!r1)then some 0 else(l9 n a0 a1 a2).bind λr2=>(gB n r2.1 r2.2.1 r2.2.2.1 r2.2.2.2.1 r2.2.2.2.2.1 r2.2.2.2.2.2.1 r2.2.2.2.2.2.2.1 r2.2.2.2.2.2.2.2.1 r2.2.2.2.2.2.2.2.2.1 (bD.mk a3.op a3.n a3.s a3.key a3.args) r2.2.2.2.2.2.2.2.2.2.1).bind λr3=>some r3.1)
def zS(a0:List au):Stp (Bool×Int×Int×Int×Int×Int) (Bool×Int×Int×Int×Int)
 |(v1,v2,v3,v4,v5,v6)=>(bif decide (v2<a0.length)then((cd a0 v2).bind λx1=>(oC x1).bind λr1=>(bif (!r1)then some (v1,v3,v4,v5,v6)else(bif (!v1)then some (true,x1.x0,x1.y0,x1.x1,x1.y1)else some (v1,(min v3 x1.x0),(min v4 x1.y0),(max v5 x1.x1),(max v6 x1.y1)))):Option (Bool×Int×Int×Int×Int)).bind λ(v7,v8,v9,v10,v11)=>some (.inl (v7,(i64.wrap (v2+1)),v8,v9,v10,v11))else some (.inr (v1,v3,v4,v5,v6)))
def MH(a0:List au):Option (au×Bool):=
 (iter (zS a0) n (false,0,0,0,0,0)).bind λ(w1,w2,w3,w4,w5)=>some ((au.mk w2 w3 w4 w5),w1)
def I9(a0:List au):Option (au×Bool):=
 ((bif ((a0.length:Int)==0)then some true else(kr n a0).bind λr1=>some (!r1))).bind λv1=>(bif v1 then some ((au.mk 0 0 0 0),false)else(MH n a0).bind λr2=>some (r2.1,r2.2))
def xg(a0:aA):Option (List gD):=
 ck (be (sub ([(au.mk a0.aE a0.bp a0.az a0.bo)]:List au) 0 1).length 1)<|ck (be (sub ([(gD.mk a0.c9 a0.cR (sub ([(au.mk a0.aE a0.bp a0.az a0.bo)]:List au) 0 1))]:List gD) 0 1).length 1)<|some (sub ([(gD.mk a0.c9 a0.cR (sub ([(au.mk a0.aE a0.bp a0.az a0.bo)]:List au) 0 1))]:List gD) 0 1)
def E8(a0:List dI)(a1:(dI×Unit)->Option Bool):Stp Int (Unit⊕Int)
 |v1=>(bif decide (v1<a0.length)then(cd a0 v1).bind λx1=>(a1 (x1,())).bind λr1=>(bif r1 then(some v1).map λa=>.inr (.inr a)else some (.inl (i64.wrap (v1+1))))else some (.inr (.inl ())))
def qQ(a0:List dI)(a1:(dI×Unit)->Option Bool):Option Int:=
 d9 (iter (E8 a0 a1) n 0) λ()=>some (-1)
def kP(a0:List dI)(a1:(dI×Unit)->Option Bool):Option Bool:=
 (qQ n a0 a1).bind λr1=>some (decide (r1>=0))
def nJ(a0:Int)(a1:Int)(a2:Int):Option Bool:=
 (bif decide (a1<=a0)then some (decide (a0<=a2))else some false)
def zT(a0:dI):Option Bool:=
 (nJ a0.side 0 3).bind λr1=>(bif r1 then(nJ a0.base 0 4096).bind λr2=>(bif r2 then(nJ a0.num 0 4096).bind λr3=>(bif r3 then(nJ a0.den 1 4096).bind λr4=>some r4 else some false)else some false)else some false)
def sK(a0:dI):Option Bool:=
 (zT a0).bind λr1=>some (!r1)
def zU(a0:au)(a1:List dI):Option Bool:=
 (oC a0).bind λr1=>(bif r1 then(kP n a1 (λ (y1:dI×Unit)=>sK y1.1)).bind λr2=>some (!r2)else some false)
def Sy(a0:List au)(a1:List au):Option Bool:=
 (nY n a0 a1).bind λr1=>some r1
def zV(a0:List gD):Stp Int (Unit⊕Bool)
 |v1=>(bif decide (v1<a0.length)then d9 ((cd a0 v1).bind λx1=>((bif decide (x1.z0<0)then some true else(bif decide (x1.z0>=x1.z1)then some true else(bif decide (x1.z1>4096)then some true else(bif ((x1.area.length:Int)==0)then some true else(kr n x1.area).bind λr1=>some (!r1)))))).bind λv2=>(bif v2 then((some false).map λa=>.inr (.inr a)).map .inr else(bif (v1==0)then some (.inl ())else(cd a0 (i64.wrap (v1-1))).bind λx2=>((bif decide (x2.z1>x1.z0)then some true else(bif (x2.z1==x1.z0)then(Sy n x2.area x1.area).bind λr2=>some r2 else some false))).bind λv3=>(bif v3 then((some false).map λa=>.inr (.inr a)).map .inr else some (.inl ())))):Option ((Unit)⊕_)) λ()=>some (.inl (i64.wrap (v1+1)))else some (.inr (.inl ())))
def G9(a0:List gD):Option Bool:=
 (bif decide ((a0.length:Int)>80)then some false else d9 (iter (zV n a0) n 0) λ()=>some true)
def wI(a0:au)(a1:Int)(a2:Int):Option Mi:=
 some (Mi.mk (i64.wrap (a1-a0.x0)) (i64.wrap ((i64.wrap (a0.x1-1))-a1)) (i64.wrap (a2-a0.y0)) (i64.wrap ((i64.wrap (a0.y1-1))-a2)))
def sM(a0:Int)(a1:Int):Option Int:=
 ck (a1 !=0)<|(ck (a1 !=0)<|(bif decide ((Int.tmod a0 a1)<0)then some (i64.wrap ((i64.wrap (Int.tdiv a0 a1))-1))else some (i64.wrap (Int.tdiv a0 a1))):Option Int).bind λv1=>some v1
def xh(a0:au)(a1:List dI)(a2:Int)(a3:Int)(r1:Mi):Stp (Int×Int) Int
 |(v1,v2)=>(bif decide (v2<a1.length)then(cd a1 v2).bind λx1=>ck (cP x1.side 4)<|(cd ([r1.a0,r1.a1,r1.a2,r1.a3]:List Int) x1.side).bind λx2=>(sM (i64.wrap (x1.num*x2)) x1.den).bind λr2=>some (.inl ((min v1 (i64.wrap (x1.base+r2))),(i64.wrap (v2+1))))else some (.inr v1))
def Ja(a0:au)(a1:List dI)(a2:Int)(a3:Int):Option Int:=
 (wI a0 a2 a3).bind λr1=>(iter (xh a0 a1 a2 a3 r1) n (4096,0)).bind λw1=>some w1
def nR(a0:au)(a1:List dI)(x1:au)(x2:Int):Stp (Int×Int) Int
 |(v5,v6)=>(bif decide (v6<(2:Nat))then ck (cP v6 2)<|(cd ([x1.y0,(i64.wrap (x1.y1-1))]:List Int) ((0:Nat)+v6:Int)).bind λx3=>(Ja n a0 a1 x2 x3).bind λr1=>some (.inl ((min v5 r1),(i64.wrap (v6+1))))else some (.inr v5))
def nS(a0:au)(a1:List dI)(x1:au):Stp (Int×Int) Int
 |(v3,v4)=>(bif decide (v4<(2:Nat))then ck (cP v4 2)<|(cd ([x1.x0,(i64.wrap (x1.x1-1))]:List Int) ((0:Nat)+v4:Int)).bind λx2=>(iter (nR n a0 a1 x1 x2) n (v3,0)).bind λw1=>some (.inl (w1,(i64.wrap (v4+1))))else some (.inr v3))
def qH(a0:au)(a1:List dI)(a2:List au):Stp (Int×Int) Int
 |(v1,v2)=>(bif decide (v2<a2.length)then(cd a2 v2).bind λx1=>(iter (nS n a0 a1 x1) n (v1,0)).bind λw2=>some (.inl (w2,(i64.wrap (v2+1))))else some (.inr v1))
def xk(a0:au)(a1:List dI)(a2:List au):Option Int:=
 (iter (qH n a0 a1 a2) n (4096,0)).bind λw3=>some w3
def qI(a0:gD)(a1:au)(a2:List dI):Option Bool:=
 (xk n a1 a2 a0.area).bind λr1=>some (decide (r1<a0.z1))
def lN(a0:List gD)(a1:(gD×Unit)->Option Bool):Stp Int (Unit⊕Int)
 |v1=>(bif decide (v1<a0.length)then(cd a0 v1).bind λx1=>(a1 (x1,())).bind λr1=>(bif r1 then(some v1).map λa=>.inr (.inr a)else some (.inl (i64.wrap (v1+1))))else some (.inr (.inl ())))
def sN(a0:List gD)(a1:(gD×Unit)->Option Bool):Option Int:=
 d9 (iter (lN a0 a1) n 0) λ()=>some (-1)
def jo(a0:List gD)(a1:(gD×Unit)->Option Bool):Option Bool:=
 (sN n a0 a1).bind λr1=>some (decide (r1>=0))
def xq(a0:au)(a1:List dI)(a2:List gD):Option Bool:=
 ((zU n a0 a1).bind λr1=>(bif (!r1)then some true else(G9 n a2).bind λr2=>some (!r2))).bind λv1=>(bif v1 then some false else(jo n a2 (λ (y1:gD×Unit)=>qI n y1.1 a0 a1)).bind λr3=>some (!r3))
def jV(a0:aA)(a1:au)(a2:aL):Option Bool:=
 (xg a0).bind λr1=>ck (be (sub ([(dI.mk a2.ie a2.ii a2.i8 a2.i9)]:List dI) 0 1).length 1)<|ck (be (sub r1 0 r1.length).length r1.length)<|(xq n a1 (sub ([(dI.mk a2.ie a2.ii a2.i8 a2.i9)]:List dI) 0 1) (sub r1 0 r1.length)).bind λr2=>some (!r2)
def gV(a0:lZ)(a1:(aA×Unit)->Option Bool):Option Bool:=
 (dF n a0.cp a1).bind λr1=>some r1
def jW(a0:aA)(a1:aL):Option Bool:=
 ck (decide (0<=a0.use)&&decide (a0.use<=i64.bits))<|some ((bits .and .i64 a1.uses (i64.wrap (1*2 ^ a0.use.toNat)))==0)
def akh(a0:au)(a1:au):Option (Int×Int):=
 some ((i64.wrap ((max a0.x0 a1.x0)-(min a0.x1 a1.x1))),(i64.wrap ((max a0.y0 a1.y0)-(min a0.y1 a1.y1))))
def Ly(a0:au)(a1:au):Option Int:=
 ((oC a0).bind λr1=>(bif (!r1)then some true else(oC a1).bind λr2=>some (!r2))).bind λv1=>(bif v1 then some (-1)else(akh a0 a1).bind λr3=>some (max (max 0 r3.1) r3.2))
def dn(a0:bF)(a1:lZ)(a2:aA)(a3:aL):Option Bool:=
 ((bif (a0.lot==a1.d5)then some true else(oC (au.mk a0.cy a0.cw a0.cx a0.ct)).bind λr1=>(bif (!r1)then some true else(bif decide (a0.d6<0)then some true else some (decide (a0.d6>=6)))))).bind λv1=>(bif v1 then some false else((bif (a2.use==a3.uses)then(bif (a0.d6==a3.other)then some true else(bif (a2.use==a3.other)then some (a0.d6==a3.uses)else some false))else(bif (a2.use==a3.other)then some (a0.d6==a3.uses)else some false))).bind λv2=>(bif v2 then(Ly (au.mk a2.aE a2.bp a2.az a2.bo) (au.mk a0.cy a0.cw a0.cx a0.ct)).bind λr2=>some (decide (r2<a3.n))else some false))
def Ec(a0:List bF)(a1:(bF×Unit)->Option Bool):Stp Int (Unit⊕Int)
 |v1=>(bif decide (v1<a0.length)then(cd a0 v1).bind λx1=>(a1 (x1,())).bind λr1=>(bif r1 then(some v1).map λa=>.inr (.inr a)else some (.inl (i64.wrap (v1+1))))else some (.inr (.inl ())))
def qc(a0:List bF)(a1:(bF×Unit)->Option Bool):Option Int:=
 d9 (iter (Ec a0 a1) n 0) λ()=>some (-1)
def jX(a0:List bF)(a1:(bF×Unit)->Option Bool):Option Bool:=
 (qc n a0 a1).bind λr1=>some (decide (r1>=0))
def qR(a0:lZ)(a1:aL)(a2:aA):Option Bool:=
 (jX n a0.fW (λ (y1:bF×Unit)=>dn y1.1 a0 a2 a1)).bind λr1=>some r1
def jY(a0:aA)(a1:lZ)(a2:aL):Option Bool:=
 (qR n a1 a2 a0).bind λr1=>some r1
def jH(a0:lZ)(a1:aL):Option Bool:=
 (bif (a1.kind==0)then(kE n (bW.mk a0.fj a0.ey a0.eM a0.eR a0.fm a0.eQ a0.ga a0.eS) (dO.mk a0.rS a0.mf a0.kf a0.ot) (aJ.mk a0.d5 a0.ij)).bind λr1=>ck (be (sub r1 0 r1.length).length r1.length)<|(vo n (bW.mk a0.fj a0.ey a0.eM a0.eR a0.fm a0.eQ a0.ga a0.eS) (sub r1 0 r1.length) a0.zones (bD.mk a1.kx a1.lR a1.lP a1.i7 a1.fX)).bind λr2=>some (r2==0)else(bif (a1.kind==1)then(I9 n a0.kf).bind λr3=>(gV n a0 (λ (y1:aA×Unit)=>jV n y1.1 r3.1 a1)).bind λr4=>some r4 else(bif (a1.kind==2)then(gV n a0 (λ (y2:aA×Unit)=>jW y2.1 a1)).bind λr5=>some r5 else(bif (a1.kind==3)then(gV n a0 (λ (y3:aA×Unit)=>jY n y3.1 a0 a1)).bind λr6=>some r6 else some false))))
def vv(a0:au)(a1:au):Option Bool:=
 (bif decide ((max a1.x0 a0.x0)<(min a1.x1 a0.x1))then some (decide ((max a1.y0 a0.y0)<(min a1.y1 a0.y1)))else some false)
def He(a0:List au)(a1:(au×Unit)->Option Bool):Stp Int (Unit⊕Int)
 |v1=>(bif decide (v1<a0.length)then(cd a0 v1).bind λx1=>(a1 (x1,())).bind λr1=>(bif r1 then(some v1).map λa=>.inr (.inr a)else some (.inl (i64.wrap (v1+1))))else some (.inr (.inl ())))
def sO(a0:List au)(a1:(au×Unit)->Option Bool):Option Int:=
 d9 (iter (He a0 a1) n 0) λ()=>some (-1)
def jq(a0:List au)(a1:(au×Unit)->Option Bool):Option Bool:=
 (sO n a0 a1).bind λr1=>some (decide (r1>=0))
def Ed(a0:au)(a1:List au):Option Bool:=
 (jq n a1 (λ (y1:au×Unit)=>vv y1.1 a0)).bind λr1=>some r1
def Sz(a0:List au)(a1:List au):Option Bool:=
 (jq n a0 (λ (y1:au×Unit)=>Ed n y1.1 a1)).bind λr1=>some r1
def qo(a0:gD)(a1:cK):Option Bool:=
 (bif decide (a0.z1>a1.top)then(Sz n a0.area a1.area).bind λr1=>some r1 else some false)
def vw(a0:List cK)(a1:Int)(a2:List gD):Stp Int (Unit⊕Bool)
 |v1=>(bif decide (v1<a0.length)then d9 ((cd a0 v1).bind λx1=>((bif (x1.lot !=a1)then some true else(kr n x1.area).bind λr2=>some (!r2))).bind λv2=>(bif v2 then some (.inl ())else(jo n a2 (λ (y1:gD×Unit)=>qo n y1.1 x1)).bind λr3=>(bif r3 then((some false).map λa=>.inr (.inr a)).map .inr else some (.inl ()))):Option ((Unit)⊕_)) λ()=>some (.inl (i64.wrap (v1+1)))else some (.inr (.inl ())))
def Ee(a0:List cK)(a1:Int)(a2:List gD):Option Bool:=
 (G9 n a2).bind λr1=>(bif (!r1)then some false else d9 (iter (vw n a0 a1 a2) n 0) λ()=>some true)
def mQ(a0:aA)(a1:dm)(a2:aJ):Option Bool:=
 (xg a0).bind λr1=>ck (be (sub r1 0 r1.length).length r1.length)<|(Ee n a1.b8 a2.lot (sub r1 0 r1.length)).bind λr2=>some (!r2)
def jI(a0:ByteArray)(a1:Bool)(a2:List ByteArray):Option (List ByteArray):=
 ((bif a1 then ck (be (sub a2 0 a2.length).length a2.length)<|(fJ n (sub a2 0 a2.length) a0).bind λr1=>some (!r1)else some false)).bind λv1=>(bif v1 then ck (bQ a2.length a2.length (sub ([a0]:List ByteArray) 0 1).length 1 16)<|jk (a2++(sub ([a0]:List ByteArray) 0 1)) λr2=>ck (be r2.length r2.length)<|some r2 else ck (be a2.length a2.length)<|some a2)
def mR(a0:dm)(r1:lZ×Int)(r2:List Int):Stp (Int×(List ByteArray)) (List ByteArray)
 |(v1,v2)=>(bif decide (v1<(r2.length:Nat))then ck (cP v1 r2.length)<|(cd r2 ((0:Nat)+v1:Int)).bind λx1=>(cd a0.bj x1).bind λx2=>(cd a0.bj x1).bind λx3=>(jH n r1.1 x3).bind λr3=>ck (be v2.length v2.length)<|(jI n x2.name r3 v2).bind λr4=>ck (be r4.length r4.length)<|some (.inl ((i64.wrap (v1+1)),r4))else ck (be v2.length v2.length)<|some (.inr v2))
def j4(a0:dm)(a1:aJ)(a2:Int):Option ((List ByteArray)×Int):=
 (vX n a0 a1).bind λr1=>(bif (r1.2 !=0)then some ([],r1.2)else(sJ n (bW.mk a0.cj a0.bx a0.bk a0.bj a0.bu a0.cg a0.cz a0.ci) r1.1.zones a2).bind λr2=>ck (be 0 ([]:List ByteArray).length)<|(iter (mR n a0 r1 r2) n (0,[])).bind λw1=>(gV n r1.1 (λ (y1:aA×Unit)=>mQ n y1.1 a0 a1)).bind λr5=>ck (be w1.length w1.length)<|(jI n (⟨#[101,97,115,101,109,101,110,116]⟩) r5 w1).bind λr6=>ck (be (sub r6 0 r6.length).length r6.length)<|some ((sub r6 0 r6.length),0))
def xu(a0:List ByteArray)(a1:List ByteArray):Stp Int (Unit⊕Bool)
 |v1=>(bif decide (v1<a0.length)then(cd a0 v1).bind λx1=>(cd a1 v1).bind λx2=>(bif (!(ByteArray.toList x1==ByteArray.toList x2))then(some false).map λa=>.inr (.inr a)else some (.inl (i64.wrap (v1+1))))else some (.inr (.inl ())))
def xS(a0:List ByteArray)(a1:List ByteArray):Option Bool:=
 (bif (a0.length !=(a1.length:Int))then some false else d9 (iter (xu a0 a1) n 0) λ()=>some true)
def qp(a0:dm)(a1:aJ)(a2:aL):Option Bool:=
 (vX n a0 a1).bind λr1=>(bif (r1.2==0)then(jH n r1.1 a2).bind λr2=>some r2 else some false)
def vz(a0:dm)(a1:aJ)(a2:Int):Option Bool:=
 (j4 n a0 a1 a2).bind λr1=>(bif (r1.2==0)then some ((r1.1.length:Int)==0)else some false)
def Jb:Option Bool:=
 ck (be (sub ([(aA.mk 2 2 8 8 0 14 2 0 false)]:List aA) 0 1).length 1)<|ck (be (sub ([(au.mk 0 0 10 10)]:List au) 0 1).length 1)<|(W6 12).bind λr1=>ck (be (sub ([(bD.mk 1 0 (⟨#[104,101,105,103,104,116]⟩) (⟨#[]⟩) ([])),r1]:List bD) 0 2).length 2)<|ck (be (sub ([(aL.mk (⟨#[97]⟩) ([]) ([]) 0 0 0 false 0 12 0 (⟨#[]⟩) (⟨#[]⟩) (sub ([(bD.mk 1 0 (⟨#[104,101,105,103,104,116]⟩) (⟨#[]⟩) ([])),r1]:List bD) 0 2) 0 0 0 0 0 0 0),(aL.mk (⟨#[98]⟩) ([]) ([]) 0 0 0 false 1 0 0 (⟨#[]⟩) (⟨#[]⟩) ([]) 0 9 3 1 0 0 0),(aL.mk (⟨#[99]⟩) ([]) ([]) 0 0 0 false 1 0 0 (⟨#[]⟩) (⟨#[]⟩) ([]) 0 9 1 1 0 0 0),(aL.mk (⟨#[100]⟩) ([]) ([]) 0 0 0 false 2 0 0 (⟨#[]⟩) (⟨#[]⟩) ([]) 0 0 0 0 5 0 0),(aL.mk (⟨#[101]⟩) ([]) ([]) 0 0 0 false 3 0 0 (⟨#[]⟩) (⟨#[]⟩) ([]) 0 0 0 0 2 0 5)]:List aL) 0 5).length 5)<|ck (be (sub ([(dO.mk 1 0 (sub ([(au.mk 0 0 10 10)]:List au) 0 1) ([]))]:List dO) 0 1).length 1)<|ck (be (sub ([(bF.mk 2 12 2 14 4 0 3 0 0 false)]:List bF) 0 1).length 1)<|ck (be (sub ([(eD.mk (sub ([(aA.mk 2 2 8 8 0 14 2 0 false)]:List aA) 0 1) ([]))]:List eD) 0 1).length 1)<|(j4 n (dm.mk ([]) ([]) ([]) (sub ([(aL.mk (⟨#[97]⟩) ([]) ([]) 0 0 0 false 0 12 0 (⟨#[]⟩) (⟨#[]⟩) (sub ([(bD.mk 1 0 (⟨#[104,101,105,103,104,116]⟩) (⟨#[]⟩) ([])),r1]:List bD) 0 2) 0 0 0 0 0 0 0),(aL.mk (⟨#[98]⟩) ([]) ([]) 0 0 0 false 1 0 0 (⟨#[]⟩) (⟨#[]⟩) ([]) 0 9 3 1 0 0 0),(aL.mk (⟨#[99]⟩) ([]) ([]) 0 0 0 false 1 0 0 (⟨#[]⟩) (⟨#[]⟩) ([]) 0 9 1 1 0 0 0),(aL.mk (⟨#[100]⟩) ([]) ([]) 0 0 0 false 2 0 0 (⟨#[]⟩) (⟨#[]⟩) ([]) 0 0 0 0 5 0 0),(aL.mk (⟨#[101]⟩) ([]) ([]) 0 0 0 false 3 0 0 (⟨#[]⟩) (⟨#[]⟩) ([]) 0 0 0 0 2 0 5)]:List aL) 0 5) ([]) ([]) ([]) 0 (sub ([(dO.mk 1 0 (sub ([(au.mk 0 0 10 10)]:List au) 0 1) ([]))]:List dO) 0 1) ([]) ([]) (sub ([(bF.mk 2 12 2 14 4 0 3 0 0 false)]:List bF) 0 1) ([])) (aJ.mk 1 (sub ([(eD.mk (sub ([(aA.mk 2 2 8 8 0 14 2 0 false)]:List aA) 0 1) ([]))]:List eD) 0 1)) 7).bind λr2=>ck (be (sub ([(aL.mk (⟨#[97]⟩) ([]) ([]) 0 0 0 false 0 12 0 (⟨#[]⟩) (⟨#[]⟩) (sub ([(bD.mk 1 0 (⟨#[104,101,105,103,104,116]⟩) (⟨#[]⟩) ([])),r1]:List bD) 0 2) 0 0 0 0 0 0 0),(aL.mk (⟨#[98]⟩) ([]) ([]) 0 0 0 false 1 0 0 (⟨#[]⟩) (⟨#[]⟩) ([]) 0 9 3 1 0 0 0),(aL.mk (⟨#[99]⟩) ([]) ([]) 0 0 0 false 1 0 0 (⟨#[]⟩) (⟨#[]⟩) ([]) 0 9 1 1 0 0 0),(aL.mk (⟨#[100]⟩) ([]) ([]) 0 0 0 false 2 0 0 (⟨#[]⟩) (⟨#[]⟩) ([]) 0 0 0 0 5 0 0),(aL.mk (⟨#[101]⟩) ([]) ([]) 0 0 0 false 3 0 0 (⟨#[]⟩) (⟨#[]⟩) ([]) 0 0 0 0 2 0 5)]:List aL) 0 5).length 5)<|ck (be (sub ([(dO.mk 1 0 (sub ([(au.mk 0 0 10 10)]:List au) 0 1) ([]))]:List dO) 0 1).length 1)<|ck (be (sub ([(bF.mk 2 12 2 14 4 0 3 0 0 false)]:List bF) 0 1).length 1)<|(j4 n (dm.mk ([]) ([]) ([]) (sub ([(aL.mk (⟨#[97]⟩) ([]) ([]) 0 0 0 false 0 12 0 (⟨#[]⟩) (⟨#[]⟩) (sub ([(bD.mk 1 0 (⟨#[104,101,105,103,104,116]⟩) (⟨#[]⟩) ([])),r1]:List bD) 0 2) 0 0 0 0 0 0 0),(aL.mk (⟨#[98]⟩) ([]) ([]) 0 0 0 false 1 0 0 (⟨#[]⟩) (⟨#[]⟩) ([]) 0 9 3 1 0 0 0),(aL.mk (⟨#[99]⟩) ([]) ([]) 0 0 0 false 1 0 0 (⟨#[]⟩) (⟨#[]⟩) ([]) 0 9 1 1 0 0 0),(aL.mk (⟨#[100]⟩) ([]) ([]) 0 0 0 false 2 0 0 (⟨#[]⟩) (⟨#[]⟩) ([]) 0 0 0 0 5 0 0),(aL.mk (⟨#[101]⟩) ([]) ([]) 0 0 0 false 3 0 0 (⟨#[]⟩) (⟨#[]⟩) ([]) 0 0 0 0 2 0 5)]:List aL) 0 5) ([]) ([]) ([]) 0 (sub ([(dO.mk 1 0 (sub ([(au.mk 0 0 10 10)]:List au) 0 1) ([]))]:List dO) 0 1) ([]) ([]) (sub ([(bF.mk 2 12 2 14 4 0 3 0 0 false)]:List bF) 0 1) ([])) (aJ.mk 3 ([])) 7).bind λr3=>(bif (r2.2==0)then ck (be (sub r2.1 0 r2.1.length).length r2.1.length)<|ck (be (sub ([⟨#[97]⟩,⟨#[99]⟩,⟨#[101]⟩]:List ByteArray) 0 3).length 3)<|(xS n (sub r2.1 0 r2.1.length) (sub ([⟨#[97]⟩,⟨#[99]⟩,⟨#[101]⟩]:List ByteArray) 0 3)).bind λr4=>(bif r4 then(bif (r3.2==4)then ck (cP 0 5)<|(cd ([(aL.mk (⟨#[97]⟩) ([]) ([]) 0 0 0 false 0 12 0 (⟨#[]⟩) (⟨#[]⟩) (sub ([(bD.mk 1 0 (⟨#[104,101,105,103,104,116]⟩) (⟨#[]⟩) ([])),r1]:List bD) 0 2) 0 0 0 0 0 0 0),(aL.mk (⟨#[98]⟩) ([]) ([]) 0 0 0 false 1 0 0 (⟨#[]⟩) (⟨#[]⟩) ([]) 0 9 3 1 0 0 0),(aL.mk (⟨#[99]⟩) ([]) ([]) 0 0 0 false 1 0 0 (⟨#[]⟩) (⟨#[]⟩) ([]) 0 9 1 1 0 0 0),(aL.mk (⟨#[100]⟩) ([]) ([]) 0 0 0 false 2 0 0 (⟨#[]⟩) (⟨#[]⟩) ([]) 0 0 0 0 5 0 0),(aL.mk (⟨#[101]⟩) ([]) ([]) 0 0 0 false 3 0 0 (⟨#[]⟩) (⟨#[]⟩) ([]) 0 0 0 0 2 0 5)]:List aL) ((0:Nat)+0:Int)).bind λx1=>ck (be (sub ([(aL.mk (⟨#[97]⟩) ([]) ([]) 0 0 0 false 0 12 0 (⟨#[]⟩) (⟨#[]⟩) (sub ([(bD.mk 1 0 (⟨#[104,101,105,103,104,116]⟩) (⟨#[]⟩) ([])),r1]:List bD) 0 2) 0 0 0 0 0 0 0),(aL.mk (⟨#[98]⟩) ([]) ([]) 0 0 0 false 1 0 0 (⟨#[]⟩) (⟨#[]⟩) ([]) 0 9 3 1 0 0 0),(aL.mk (⟨#[99]⟩) ([]) ([]) 0 0 0 false 1 0 0 (⟨#[]⟩) (⟨#[]⟩) ([]) 0 9 1 1 0 0 0),(aL.mk (⟨#[100]⟩) ([]) ([]) 0 0 0 false 2 0 0 (⟨#[]⟩) (⟨#[]⟩) ([]) 0 0 0 0 5 0 0),(aL.mk (⟨#[101]⟩) ([]) ([]) 0 0 0 false 3 0 0 (⟨#[]⟩) (⟨#[]⟩) ([]) 0 0 0 0 2 0 5)]:List aL) 0 5).length 5)<|ck (be (sub ([(dO.mk 1 0 (sub ([(au.mk 0 0 10 10)]:List au) 0 1) ([]))]:List dO) 0 1).length 1)<|ck (be (sub ([(bF.mk 2 12 2 14 4 0 3 0 0 false)]:List bF) 0 1).length 1)<|ck (be (sub ([(eD.mk (sub ([(aA.mk 2 2 8 8 0 14 2 0 false)]:List aA) 0 1) ([]))]:List eD) 0 1).length 1)<|(qp n (dm.mk ([]) ([]) ([]) (sub ([(aL.mk (⟨#[97]⟩) ([]) ([]) 0 0 0 false 0 12 0 (⟨#[]⟩) (⟨#[]⟩) (sub ([(bD.mk 1 0 (⟨#[104,101,105,103,104,116]⟩) (⟨#[]⟩) ([])),r1]:List bD) 0 2) 0 0 0 0 0 0 0),(aL.mk (⟨#[98]⟩) ([]) ([]) 0 0 0 false 1 0 0 (⟨#[]⟩) (⟨#[]⟩) ([]) 0 9 3 1 0 0 0),(aL.mk (⟨#[99]⟩) ([]) ([]) 0 0 0 false 1 0 0 (⟨#[]⟩) (⟨#[]⟩) ([]) 0 9 1 1 0 0 0),(aL.mk (⟨#[100]⟩) ([]) ([]) 0 0 0 false 2 0 0 (⟨#[]⟩) (⟨#[]⟩) ([]) 0 0 0 0 5 0 0),(aL.mk (⟨#[101]⟩) ([]) ([]) 0 0 0 false 3 0 0 (⟨#[]⟩) (⟨#[]⟩) ([]) 0 0 0 0 2 0 5)]:List aL) 0 5) ([]) ([]) ([]) 0 (sub ([(dO.mk 1 0 (sub ([(au.mk 0 0 10 10)]:List au) 0 1) ([]))]:List dO) 0 1) ([]) ([]) (sub ([(bF.mk 2 12 2 14 4 0 3 0 0 false)]:List bF) 0 1) ([])) (aJ.mk 1 (sub ([(eD.mk (sub ([(aA.mk 2 2 8 8 0 14 2 0 false)]:List aA) 0 1) ([]))]:List eD) 0 1)) x1).bind λr5=>(bif r5 then ck (cP 1 5)<|(cd ([(aL.mk (⟨#[97]⟩) ([]) ([]) 0 0 0 false 0 12 0 (⟨#[]⟩) (⟨#[]⟩) (sub ([(bD.mk 1 0 (⟨#[104,101,105,103,104,116]⟩) (⟨#[]⟩) ([])),r1]:List bD) 0 2) 0 0 0 0 0 0 0),(aL.mk (⟨#[98]⟩) ([]) ([]) 0 0 0 false 1 0 0 (⟨#[]⟩) (⟨#[]⟩) ([]) 0 9 3 1 0 0 0),(aL.mk (⟨#[99]⟩) ([]) ([]) 0 0 0 false 1 0 0 (⟨#[]⟩) (⟨#[]⟩) ([]) 0 9 1 1 0 0 0),(aL.mk (⟨#[100]⟩) ([]) ([]) 0 0 0 false 2 0 0 (⟨#[]⟩) (⟨#[]⟩) ([]) 0 0 0 0 5 0 0),(aL.mk (⟨#[101]⟩) ([]) ([]) 0 0 0 false 3 0 0 (⟨#[]⟩) (⟨#[]⟩) ([]) 0 0 0 0 2 0 5)]:List aL) ((0:Nat)+1:Int)).bind λx2=>ck (be (sub ([(aL.mk (⟨#[97]⟩) ([]) ([]) 0 0 0 false 0 12 0 (⟨#[]⟩) (⟨#[]⟩) (sub ([(bD.mk 1 0 (⟨#[104,101,105,103,104,116]⟩) (⟨#[]⟩) ([])),r1]:List bD) 0 2) 0 0 0 0 0 0 0),(aL.mk (⟨#[98]⟩) ([]) ([]) 0 0 0 false 1 0 0 (⟨#[]⟩) (⟨#[]⟩) ([]) 0 9 3 1 0 0 0),(aL.mk (⟨#[99]⟩) ([]) ([]) 0 0 0 false 1 0 0 (⟨#[]⟩) (⟨#[]⟩) ([]) 0 9 1 1 0 0 0),(aL.mk (⟨#[100]⟩) ([]) ([]) 0 0 0 false 2 0 0 (⟨#[]⟩) (⟨#[]⟩) ([]) 0 0 0 0 5 0 0),(aL.mk (⟨#[101]⟩) ([]) ([]) 0 0 0 false 3 0 0 (⟨#[]⟩) (⟨#[]⟩) ([]) 0 0 0 0 2 0 5)]:List aL) 0 5).length 5)<|ck (be (sub ([(dO.mk 1 0 (sub ([(au.mk 0 0 10 10)]:List au) 0 1) ([]))]:List dO) 0 1).length 1)<|ck (be (sub ([(bF.mk 2 12 2 14 4 0 3 0 0 false)]:List bF) 0 1).length 1)<|ck (be (sub ([(eD.mk (sub ([(aA.mk 2 2 8 8 0 14 2 0 false)]:List aA) 0 1) ([]))]:List eD) 0 1).length 1)<|(qp n (dm.mk ([]) ([]) ([]) (sub ([(aL.mk (⟨#[97]⟩) ([]) ([]) 0 0 0 false 0 12 0 (⟨#[]⟩) (⟨#[]⟩) (sub ([(bD.mk 1 0 (⟨#[104,101,105,103,104,116]⟩) (⟨#[]⟩) ([])),r1]:List bD) 0 2) 0 0 0 0 0 0 0),(aL.mk (⟨#[98]⟩) ([]) ([]) 0 0 0 false 1 0 0 (⟨#[]⟩) (⟨#[]⟩) ([]) 0 9 3 1 0 0 0),(aL.mk (⟨#[99]⟩) ([]) ([]) 0 0 0 false 1 0 0 (⟨#[]⟩) (⟨#[]⟩) ([]) 0 9 1 1 0 0 0),(aL.mk (⟨#[100]⟩) ([]) ([]) 0 0 0 false 2 0 0 (⟨#[]⟩) (⟨#[]⟩) ([]) 0 0 0 0 5 0 0),(aL.mk (⟨#[101]⟩) ([]) ([]) 0 0 0 false 3 0 0 (⟨#[]⟩) (⟨#[]⟩) ([]) 0 0 0 0 2 0 5)]:List aL) 0 5) ([]) ([]) ([]) 0 (sub ([(dO.mk 1 0 (sub ([(au.mk 0 0 10 10)]:List au) 0 1) ([]))]:List dO) 0 1) ([]) ([]) (sub ([(bF.mk 2 12 2 14 4 0 3 0 0 false)]:List bF) 0 1) ([])) (aJ.mk 1 (sub ([(eD.mk (sub ([(aA.mk 2 2 8 8 0 14 2 0 false)]:List aA) 0 1) ([]))]:List eD) 0 1)) x2).bind λr6=>(bif (!r6)then ck (be (sub ([(aL.mk (⟨#[97]⟩) ([]) ([]) 0 0 0 false 0 12 0 (⟨#[]⟩) (⟨#[]⟩) (sub ([(bD.mk 1 0 (⟨#[104,101,105,103,104,116]⟩) (⟨#[]⟩) ([])),r1]:List bD) 0 2) 0 0 0 0 0 0 0),(aL.mk (⟨#[98]⟩) ([]) ([]) 0 0 0 false 1 0 0 (⟨#[]⟩) (⟨#[]⟩) ([]) 0 9 3 1 0 0 0),(aL.mk (⟨#[99]⟩) ([]) ([]) 0 0 0 false 1 0 0 (⟨#[]⟩) (⟨#[]⟩) ([]) 0 9 1 1 0 0 0),(aL.mk (⟨#[100]⟩) ([]) ([]) 0 0 0 false 2 0 0 (⟨#[]⟩) (⟨#[]⟩) ([]) 0 0 0 0 5 0 0),(aL.mk (⟨#[101]⟩) ([]) ([]) 0 0 0 false 3 0 0 (⟨#[]⟩) (⟨#[]⟩) ([]) 0 0 0 0 2 0 5)]:List aL) 0 5).length 5)<|ck (be (sub ([(dO.mk 1 0 (sub ([(au.mk 0 0 10 10)]:List au) 0 1) ([]))]:List dO) 0 1).length 1)<|ck (be (sub ([(bF.mk 2 12 2 14 4 0 3 0 0 false)]:List bF) 0 1).length 1)<|ck (be (sub ([(eD.mk (sub ([(aA.mk 2 2 8 8 0 14 2 0 false)]:List aA) 0 1) ([]))]:List eD) 0 1).length 1)<|(vz n (dm.mk ([]) ([]) ([]) (sub ([(aL.mk (⟨#[97]⟩) ([]) ([]) 0 0 0 false 0 12 0 (⟨#[]⟩) (⟨#[]⟩) (sub ([(bD.mk 1 0 (⟨#[104,101,105,103,104,116]⟩) (⟨#[]⟩) ([])),r1]:List bD) 0 2) 0 0 0 0 0 0 0),(aL.mk (⟨#[98]⟩) ([]) ([]) 0 0 0 false 1 0 0 (⟨#[]⟩) (⟨#[]⟩) ([]) 0 9 3 1 0 0 0),(aL.mk (⟨#[99]⟩) ([]) ([]) 0 0 0 false 1 0 0 (⟨#[]⟩) (⟨#[]⟩) ([]) 0 9 1 1 0 0 0),(aL.mk (⟨#[100]⟩) ([]) ([]) 0 0 0 false 2 0 0 (⟨#[]⟩) (⟨#[]⟩) ([]) 0 0 0 0 5 0 0),(aL.mk (⟨#[101]⟩) ([]) ([]) 0 0 0 false 3 0 0 (⟨#[]⟩) (⟨#[]⟩) ([]) 0 0 0 0 2 0 5)]:List aL) 0 5) ([]) ([]) ([]) 0 (sub ([(dO.mk 1 0 (sub ([(au.mk 0 0 10 10)]:List au) 0 1) ([]))]:List dO) 0 1) ([]) ([]) (sub ([(bF.mk 2 12 2 14 4 0 3 0 0 false)]:List bF) 0 1) ([])) (aJ.mk 1 (sub ([(eD.mk (sub ([(aA.mk 2 2 8 8 0 14 2 0 false)]:List aA) 0 1) ([]))]:List eD) 0 1)) 7).bind λr7=>some (!r7)else some false)else some false)else some false)else some false)else some false)
def sP(rc:(bD)->(Int)->(Int)->Option Int)(a0:bD)(a1:Int)(a2:Int):Stp (Int×Int) Int
 |(v1,v2)=>((bif decide (v2<a0.args.length)then some (decide (v1<=a1))else some false)).bind λv3=>(bif v3 then(cd a0.args v2).bind λx1=>(rc x1 (i64.wrap (a1-v1)) (i64.wrap (a2-1))).bind λr1=>some (.inl ((i64.wrap (v1+r1)),(i64.wrap (v2+1))))else some (.inr v1))
def zW(rc:(bD)->(Int)->(Int)->Option Int)(a0:bD)(a1:Int)(a2:Int):Option Int:=
 (bif decide (a2<1)then some (i64.wrap (a1+1))else(iter (sP rc a0 a1 a2) n (1,0)).bind λw1=>some w1)
def Ef(rc:(bD)->(Int)->(Int)->Option Int):co xx:=⟨[.d (.st SI.Expr),.d (.int .i64),.d (.int .i64)],[.d (.int .i64)],λa=>rc a.1 a.2.1 a.2.2.1,none⟩
def ru(n:Nat):Nat->(bD)->(Int)->(Int)->Option Int
 | 0=>λ_ _ _=>none
 |m+1=>zW n (ru n m)
def Cm(a0:bD)(a1:Int)(a2:Int):Option Int:=ru n n a0 a1 a2
def xw(a0:List aL):Stp Int (Unit⊕Bool)
 |v1=>((bif decide (v1<a0.length)then some (decide (v1<7))else some false)).bind λv2=>(bif v2 then((cd a0 v1).bind λx1=>(Cm n (bD.mk x1.kx x1.lR x1.lP x1.i7 x1.fX) 40 14).bind λr1=>(bif decide (r1>40)then some true else(cd a0 v1).bind λx2=>(bif decide ((x2.zones.length:Int)>6)then some true else(cd a0 v1).bind λx3=>some (decide ((x3.except.length:Int)>6))))).bind λv3=>(bif v3 then(some false).map λa=>.inr (.inr a)else some (.inl (i64.wrap (v1+1))))else some (.inr (.inl ())))
def Jc(a0:List aL):Option Bool:=
 d9 (iter (xw n a0) n 0) λ()=>some (decide ((a0.length:Int)<=6))
def zX(a0:bW):Stp Int (Unit⊕Bool)
 |v1=>((bif decide (v1<a0.defs.length)then some (decide (v1<6))else some false)).bind λv2=>(bif v2 then(cd a0.defs v1).bind λx1=>(Cm n (bD.mk x1.iu x1.lj x1.km x1.ik x1.ek) 40 14).bind λr1=>(bif decide (r1>40)then(some false).map λa=>.inr (.inr a)else some (.inl (i64.wrap (v1+1))))else some (.inr (.inl ())))
def zY(a0:bW):Stp Int (Unit⊕Bool)
 |v3=>((bif decide (v3<a0.tables.length)then some (decide (v3<5))else some false)).bind λv4=>(bif v4 then(cd a0.tables v3).bind λx2=>(bif decide ((x2.rows.length:Int)>8)then(some false).map λa=>.inr (.inr a)else some (.inl (i64.wrap (v3+1))))else some (.inr (.inl ())))
def zZ(a0:bW):Stp Int (Unit⊕Bool)
 |v5=>((bif decide (v5<a0.zones.length)then some (decide (v5<6))else some false)).bind λv6=>(bif v6 then(cd a0.zones v5).bind λx3=>(bif decide ((x3.corners.length:Int)>12)then(some false).map λa=>.inr (.inr a)else some (.inl (i64.wrap (v5+1))))else some (.inr (.inl ())))
def z8(a0:bW):Stp Int (Unit⊕Bool)
 |v7=>((bif decide (v7<a0.caps.length)then some (decide (v7<4))else some false)).bind λv8=>(bif v8 then(cd a0.caps v7).bind λx4=>(bif decide ((x4.corners.length:Int)>12)then(some false).map λa=>.inr (.inr a)else some (.inl (i64.wrap (v7+1))))else some (.inr (.inl ())))
def MI(a0:bW):Option Bool:=
 d9 (iter (zX n a0) n 0) λ()=>d9 (iter (zY a0) n 0) λ()=>d9 (iter (zZ a0) n 0) λ()=>d9 (iter (z8 a0) n 0) λ()=>(bif decide ((a0.defs.length:Int)<=5)then(bif decide ((a0.tables.length:Int)<=4)then(bif decide ((a0.zones.length:Int)<=5)then(bif decide ((a0.caps.length:Int)<=3)then(Jc n a0.rules).bind λr2=>some r2 else some false)else some false)else some false)else some false)
def Eg(a0:dm):Stp Int (Unit⊕Bool)
 |v1=>((bif decide (v1<a0.land.length)then some (decide (v1<5))else some false)).bind λv2=>(bif v2 then(cd a0.land v1).bind λx1=>(bif decide ((x1.area.length:Int)>6)then(some false).map λa=>.inr (.inr a)else some (.inl (i64.wrap (v1+1))))else some (.inr (.inl ())))
def Eh(a0:dm):Stp Int (Unit⊕Bool)
 |v3=>((bif decide (v3<a0.b8.length)then some (decide (v3<4))else some false)).bind λv4=>(bif v4 then(cd a0.b8 v3).bind λx2=>(bif decide ((x2.area.length:Int)>6)then(some false).map λa=>.inr (.inr a)else some (.inl (i64.wrap (v3+1))))else some (.inr (.inl ())))
def Ei(a1:aJ):Stp Int (Unit⊕Bool)
 |v5=>((bif decide (v5<a1.phases.length)then some (decide (v5<4))else some false)).bind λv6=>(bif v6 then((cd a1.phases v5).bind λx3=>(bif decide ((x3.cp.length:Int)>3)then some true else(cd a1.phases v5).bind λx4=>some (decide ((x4.gives.length:Int)>3)))).bind λv7=>(bif v7 then(some false).map λa=>.inr (.inr a)else some (.inl (i64.wrap (v5+1))))else some (.inr (.inl ())))
def SA(a0:dm)(a1:aJ):Option Bool:=
 d9 (iter (Eg a0) n 0) λ()=>d9 (iter (Eh a0) n 0) λ()=>d9 (iter (Ei a1) n 0) λ()=>(MI n (bW.mk a0.cj a0.bx a0.bk a0.bj a0.bu a0.cg a0.cz a0.ci)).bind λr1=>(bif r1 then(bif decide ((a0.land.length:Int)<=4)then(bif decide ((a0.b8.length:Int)<=3)then(bif decide ((a0.built.length:Int)<=8)then some (decide ((a1.phases.length:Int)<=3))else some false)else some false)else some false)else some false)
def Hf(a0:au):Option Bool:=
 (bif decide ((min (min a0.x0 a0.x1) (min a0.y0 a0.y1))>=0)then some (decide ((max (max a0.x0 a0.x1) (max a0.y0 a0.y1))<=524288))else some false)
def xA(a0:List au)(a1:Int)(a2:Int):Stp (Bool×Int×(List au)) (Bool×(List au))
 |(v1,v2,v3)=>(bif decide (v2<a0.length)then(cd a0 v2).bind λx1=>((bif v1 then(Hf x1).bind λr1=>some r1 else some false)).bind λv4=>ck (bQ v3.length v3.length (sub ([(au.mk (i64.wrap (x1.x0+a1)) (i64.wrap (x1.y0+a2)) (i64.wrap (x1.x1+a1)) (i64.wrap (x1.y1+a2)))]:List au) 0 1).length 1 32)<|jk (v3++(sub ([(au.mk (i64.wrap (x1.x0+a1)) (i64.wrap (x1.y0+a2)) (i64.wrap (x1.x1+a1)) (i64.wrap (x1.y1+a2)))]:List au) 0 1)) λr2=>ck (be r2.length r2.length)<|some (.inl (v4,(i64.wrap (v2+1)),r2))else ck (be v3.length v3.length)<|some (.inr (v1,v3)))
def xU(a0:List au)(a1:Int)(a2:Int):Option ((List au)×Bool):=
 ck (be 0 ([]:List au).length)<|(iter (xA a0 a1 a2) n (true,0,[])).bind λ(w1,w2)=>ck (be (sub w2 0 w2.length).length w2.length)<|some ((sub w2 0 w2.length),w1)
def sQ(a0:List aA)(a1:Int)(a2:Int):Stp (Bool×Int×(List aA)) (Bool×(List aA))
 |(v1,v2,v3)=>(bif decide (v2<a0.length)then(cd a0 v2).bind λx1=>((bif v1 then(Hf (au.mk x1.aE x1.bp x1.az x1.bo)).bind λr1=>some r1 else some false)).bind λv4=>ck (be (sub ([(au.mk x1.aE x1.bp x1.az x1.bo)]:List au) 0 1).length 1)<|(xU n (sub ([(au.mk x1.aE x1.bp x1.az x1.bo)]:List au) 0 1) a1 a2).bind λr2=>ck (cP 0 r2.1.length)<|(cd r2.1 ((0:Nat)+0:Int)).bind λx2=>ck (bQ v3.length v3.length (sub ([(aA.mk x2.x0 x2.y0 x2.x1 x2.y1 x1.c9 x1.cR x1.use x1.units x1.extra)]:List aA) 0 1).length 1 72)<|jk (v3++(sub ([(aA.mk x2.x0 x2.y0 x2.x1 x2.y1 x1.c9 x1.cR x1.use x1.units x1.extra)]:List aA) 0 1)) λr3=>ck (be r3.length r3.length)<|some (.inl (v4,(i64.wrap (v2+1)),r3))else ck (be v3.length v3.length)<|some (.inr (v1,v3)))
def vZ(a0:List aA)(a1:Int)(a2:Int):Option ((List aA)×Bool):=
 ck (be 0 ([]:List aA).length)<|(iter (sQ n a0 a1 a2) n (true,0,[])).bind λ(w1,w2)=>ck (be (sub w2 0 w2.length).length w2.length)<|some ((sub w2 0 w2.length),w1)
def sS(a0:List bK)(a1:Int)(a2:Int):Stp (Bool×Int×(List bK)) (Bool×(List bK))
 |(v1,v2,v3)=>(bif decide (v2<a0.length)then((bif v1 then(cd a0 v2).bind λx1=>(bif decide (x1.x>=0)then(cd a0 v2).bind λx2=>(bif decide (x2.x<=524288)then(cd a0 v2).bind λx3=>(bif decide (x3.y>=0)then(cd a0 v2).bind λx4=>some (decide (x4.y<=524288))else some false)else some false)else some false)else some false)).bind λv4=>(cd a0 v2).bind λx5=>(cd a0 v2).bind λx6=>ck (bQ v3.length v3.length (sub ([(bK.mk (i64.wrap (x5.x+a1)) (i64.wrap (x6.y+a2)))]:List bK) 0 1).length 1 16)<|jk (v3++(sub ([(bK.mk (i64.wrap (x5.x+a1)) (i64.wrap (x6.y+a2)))]:List bK) 0 1)) λr1=>ck (be r1.length r1.length)<|some (.inl (v4,(i64.wrap (v2+1)),r1))else ck (be v3.length v3.length)<|some (.inr (v1,v3)))
def wh(a0:List bK)(a1:Int)(a2:Int):Option ((List bK)×Bool):=
 ck (be 0 ([]:List bK).length)<|(iter (sS a0 a1 a2) n (true,0,[])).bind λ(w1,w2)=>ck (be (sub w2 0 w2.length).length w2.length)<|some ((sub w2 0 w2.length),w1)
def sU(a0:dm)(a1:Int)(a2:Int):Stp (Bool×Int×(List fI)×(List bS)×(List dh)×(List aL)×(List fE)×(List fD)×(List bU)×Int×(List cK)×(List ow)×(List bF)×(List bC)×(List dO)) (Bool×(List fI)×(List bS)×(List dh)×(List aL)×(List fE)×(List fD)×(List bU)×Int×(List cK)×(List ow)×(List bF)×(List bC)×(List dO))
 |(v1,v2,v3,v4,v5,v6,v7,v8,v9,v10,v11,v12,v13,v14,v15)=>(bif decide (v2<a0.land.length)then(cd a0.land v2).bind λx1=>(xU n x1.area a1 a2).bind λr1=>((bif v1 then some r1.2 else some false)).bind λv16=>ck (be (sub r1.1 0 r1.1.length).length r1.1.length)<|ck (bQ v15.length v15.length (sub ([(dO.mk x1.id x1.owner (sub r1.1 0 r1.1.length) x1.from_)]:List dO) 0 1).length 1 64)<|jk (v15++(sub ([(dO.mk x1.id x1.owner (sub r1.1 0 r1.1.length) x1.from_)]:List dO) 0 1)) λr2=>ck (be r2.length r2.length)<|some (.inl (v16,(i64.wrap (v2+1)),v3,v4,v5,v6,v7,v8,v9,v10,v11,v12,v13,v14,r2))else ck (be v15.length v15.length)<|some (.inr (v1,v3,v4,v5,v6,v7,v8,v9,v10,v11,v12,v13,v14,v15)))
def sV(a0:dm)(a1:Int)(a2:Int):Stp (Bool×Int×(List fI)×(List bS)×(List dh)×(List aL)×(List fE)×(List fD)×(List bU)×Int×(List ow)×(List bF)×(List bC)×(List dO)×(List cK)) (Bool×(List fI)×(List bS)×(List dh)×(List aL)×(List fE)×(List fD)×(List bU)×Int×(List ow)×(List bF)×(List bC)×(List dO)×(List cK))
 |(v17,v18,v19,v20,v21,v22,v23,v24,v25,v26,v27,v28,v29,v30,v31)=>(bif decide (v18<a0.b8.length)then(cd a0.b8 v18).bind λx2=>(xU n x2.area a1 a2).bind λr3=>((bif v17 then some r3.2 else some false)).bind λv32=>ck (be (sub r3.1 0 r3.1.length).length r3.1.length)<|ck (bQ v31.length v31.length (sub ([(cK.mk x2.lot (sub r3.1 0 r3.1.length) x2.top)]:List cK) 0 1).length 1 40)<|jk (v31++(sub ([(cK.mk x2.lot (sub r3.1 0 r3.1.length) x2.top)]:List cK) 0 1)) λr4=>ck (be v30.length v30.length)<|ck (be r4.length r4.length)<|some (.inl (v32,(i64.wrap (v18+1)),v19,v20,v21,v22,v23,v24,v25,v26,v27,v28,v29,v30,r4))else ck (be v30.length v30.length)<|ck (be v31.length v31.length)<|some (.inr (v17,v19,v20,v21,v22,v23,v24,v25,v26,v27,v28,v29,v30,v31)))
def sW(a0:dm)(a1:Int)(a2:Int):Stp (Bool×Int×(List fI)×(List bS)×(List dh)×(List aL)×(List fE)×(List fD)×(List bU)×Int×(List ow)×(List bC)×(List dO)×(List cK)×(List bF)) (Bool×(List fI)×(List bS)×(List dh)×(List aL)×(List fE)×(List fD)×(List bU)×Int×(List ow)×(List bC)×(List dO)×(List cK)×(List bF))
 |(v33,v34,v35,v36,v37,v38,v39,v40,v41,v42,v43,v44,v45,v46,v47)=>(bif decide (v34<a0.built.length)then(cd a0.built v34).bind λx3=>ck (be (sub ([(aA.mk x3.cy x3.cw x3.cx x3.ct x3.eE x3.eC x3.d6 x3.fh x3.fi)]:List aA) 0 1).length 1)<|(vZ n (sub ([(aA.mk x3.cy x3.cw x3.cx x3.ct x3.eE x3.eC x3.d6 x3.fh x3.fi)]:List aA) 0 1) a1 a2).bind λr5=>((bif v33 then some r5.2 else some false)).bind λv48=>(cd a0.built v34).bind λx4=>ck (cP 0 r5.1.length)<|(cd r5.1 ((0:Nat)+0:Int)).bind λx5=>ck (bQ v47.length v47.length (sub ([(bF.mk x4.lot x5.aE x5.bp x5.az x5.bo x5.c9 x5.cR x5.use x5.units x5.extra)]:List bF) 0 1).length 1 80)<|jk (v47++(sub ([(bF.mk x4.lot x5.aE x5.bp x5.az x5.bo x5.c9 x5.cR x5.use x5.units x5.extra)]:List bF) 0 1)) λr6=>ck (be v45.length v45.length)<|ck (be v46.length v46.length)<|ck (be r6.length r6.length)<|some (.inl (v48,(i64.wrap (v34+1)),v35,v36,v37,v38,v39,v40,v41,v42,v43,v44,v45,v46,r6))else ck (be v45.length v45.length)<|ck (be v46.length v46.length)<|ck (be v47.length v47.length)<|some (.inr (v33,v35,v36,v37,v38,v39,v40,v41,v42,v43,v44,v45,v46,v47)))
def sZ(a0:dm)(a1:Int)(a2:Int):Stp (Bool×Int×(List fI)×(List bS)×(List aL)×(List fE)×(List fD)×(List bU)×Int×(List ow)×(List bC)×(List dO)×(List cK)×(List bF)×(List dh)) (Bool×(List fI)×(List bS)×(List aL)×(List fE)×(List fD)×(List bU)×Int×(List ow)×(List bC)×(List dO)×(List cK)×(List bF)×(List dh))
 |(v49,v50,v51,v52,v53,v54,v55,v56,v57,v58,v59,v60,v61,v62,v63)=>(bif decide (v50<a0.bk.length)then(cd a0.bk v50).bind λx6=>(wh n x6.corners a1 a2).bind λr7=>((bif v49 then some r7.2 else some false)).bind λv64=>ck (be (sub r7.1 0 r7.1.length).length r7.1.length)<|ck (bQ v63.length v63.length (sub ([(dh.mk x6.name x6.overlay (sub r7.1 0 r7.1.length))]:List dh) 0 1).length 1 48)<|jk (v63++(sub ([(dh.mk x6.name x6.overlay (sub r7.1 0 r7.1.length))]:List dh) 0 1)) λr8=>ck (be r8.length r8.length)<|ck (be v60.length v60.length)<|ck (be v61.length v61.length)<|ck (be v62.length v62.length)<|some (.inl (v64,(i64.wrap (v50+1)),v51,v52,v53,v54,v55,v56,v57,v58,v59,v60,v61,v62,r8))else ck (be v63.length v63.length)<|ck (be v60.length v60.length)<|ck (be v61.length v61.length)<|ck (be v62.length v62.length)<|some (.inr (v49,v51,v52,v53,v54,v55,v56,v57,v58,v59,v60,v61,v62,v63)))
def tq(a0:dm)(a1:Int)(a2:Int):Stp (Bool×Int×(List fI)×(List bS)×(List aL)×(List fD)×(List bU)×Int×(List ow)×(List bC)×(List dO)×(List cK)×(List bF)×(List dh)×(List fE)) (Bool×(List fI)×(List bS)×(List aL)×(List fD)×(List bU)×Int×(List ow)×(List bC)×(List dO)×(List cK)×(List bF)×(List dh)×(List fE))
 |(v65,v66,v67,v68,v69,v70,v71,v72,v73,v74,v75,v76,v77,v78,v79)=>(bif decide (v66<a0.bu.length)then(cd a0.bu v66).bind λx7=>(wh n x7.corners a1 a2).bind λr9=>((bif v65 then some r9.2 else some false)).bind λv80=>ck (be (sub r9.1 0 r9.1.length).length r9.1.length)<|ck (bQ v79.length v79.length (sub ([(fE.mk x7.name x7.load x7.limit (sub r9.1 0 r9.1.length))]:List fE) 0 1).length 1 56)<|jk (v79++(sub ([(fE.mk x7.name x7.load x7.limit (sub r9.1 0 r9.1.length))]:List fE) 0 1)) λur=>ck (be v78.length v78.length)<|ck (be ur.length ur.length)<|ck (be v75.length v75.length)<|ck (be v76.length v76.length)<|ck (be v77.length v77.length)<|some (.inl (v80,(i64.wrap (v66+1)),v67,v68,v69,v70,v71,v72,v73,v74,v75,v76,v77,v78,ur))else ck (be v78.length v78.length)<|ck (be v79.length v79.length)<|ck (be v75.length v75.length)<|ck (be v76.length v76.length)<|ck (be v77.length v77.length)<|some (.inr (v65,v67,v68,v69,v70,v71,v72,v73,v74,v75,v76,v77,v78,v79)))
def Aa(a0:dm)(a1:Int)(a2:Int):Option (dm×Bool):=
 ck (be 0 ([]:List dO).length)<|(iter (sU n a0 a1 a2) n (true,0,a0.cj,a0.bx,a0.bk,a0.bj,a0.bu,a0.cg,a0.cz,a0.ci,a0.b8,a0.windows,a0.built,a0.base,[])).bind λ(w1,w2,w3,w4,w5,w6,w7,w8,w9,wn,uA,OF,On,Fi)=>ck (be Fi.length Fi.length)<|ck (be 0 ([]:List cK).length)<|(iter (sV n a0 a1 a2) n (w1,0,w2,w3,w4,w5,w6,w7,w8,w9,uA,OF,On,Fi,[])).bind λ(Ok,w16,Of,N6,N5,N4,N3,Fc,w23,w24,w25,w26,N2,N1)=>ck (be N2.length N2.length)<|ck (be N1.length N1.length)<|ck (be 0 ([]:List bF).length)<|(iter (sW n a0 a1 a2) n (Ok,0,w16,Of,N6,N5,N4,N3,Fc,w23,w24,w26,N2,N1,[])).bind λ(w29,w30,w31,w32,w33,w34,w35,w36,w37,w38,w39,N0,NX,NO)=>ck (be 0 ([]:List dh).length)<|ck (be N0.length N0.length)<|ck (be NX.length NX.length)<|ck (be NO.length NO.length)<|(iter (sZ n a0 a1 a2) n (w29,0,w30,w31,w33,w34,w35,w36,w37,w38,w39,N0,NX,NO,[])).bind λ(w43,w44,w45,w46,w47,w48,w49,w50,w51,w52,NL,NB,Nx,No)=>ck (be No.length No.length)<|ck (be 0 ([]:List fE).length)<|ck (be NL.length NL.length)<|ck (be NB.length NB.length)<|ck (be Nx.length Nx.length)<|(iter (tq n a0 a1 a2) n (w43,0,w44,w45,w46,w48,w49,w50,w51,w52,NL,NB,Nx,No,[])).bind λ(w57,w58,w59,w60,w61,w62,w63,p6,w65,E7,E6,E4,E3,E2)=>ck (be (sub E3 0 E3.length).length E3.length)<|ck (be (sub E2 0 E2.length).length E2.length)<|ck (be (sub E7 0 E7.length).length E7.length)<|ck (be (sub E6 0 E6.length).length E6.length)<|ck (be (sub E4 0 E4.length).length E4.length)<|some ((dm.mk w58 w59 (sub E3 0 E3.length) w60 (sub E2 0 E2.length) w61 w62 w63 (sub E7 0 E7.length) (sub E6 0 E6.length) p6 (sub E4 0 E4.length) w65),w57)
def kF(a1:aJ)(a3:Int)(a4:Int):Stp (Bool×Int×Int×(List eD)) (Bool×Int×(List eD))
 |(v2,v3,v4,v5)=>(bif decide (v3<a1.phases.length)then(cd a1.phases v3).bind λx1=>(vZ n x1.cp a3 a4).bind λr4=>((bif v2 then some r4.2 else some false)).bind λv6=>ck (be (sub r4.1 0 r4.1.length).length r4.1.length)<|ck (bQ v5.length v5.length (sub ([(eD.mk (sub r4.1 0 r4.1.length) x1.gives)]:List eD) 0 1).length 1 48)<|jk (v5++(sub ([(eD.mk (sub r4.1 0 r4.1.length) x1.gives)]:List eD) 0 1)) λr5=>ck (be r5.length r5.length)<|some (.inl (v6,(i64.wrap (v3+1)),v4,r5))else ck (be v5.length v5.length)<|some (.inr (v2,v4,v5)))
def qJ(a0:dm)(a1:aJ)(a2:Int)(a3:Int)(a4:Int):Option Bool:=
 (Jb n).bind λr1=>((SA n a0 a1).bind λr2=>(bif (!r2)then some true else(bif decide (a3<0)then some true else(bif decide (a3>524288)then some true else(bif decide (a4<0)then some true else some (decide (a4>524288))))))).bind λv1=>(bif v1 then some r1 else(Aa n a0 a3 a4).bind λr3=>ck (be 0 ([]:List eD).length)<|(iter (kF n a1 a3 a4) n (r3.2,0,a1.lot,[])).bind λ(w1,w2,w3)=>(bif (!w1)then some r1 else(j4 n a0 a1 a2).bind λr6=>ck (be (sub w3 0 w3.length).length w3.length)<|(j4 n r3.1 (aJ.mk w2 (sub w3 0 w3.length)) a2).bind λr7=>(bif r1 then(bif (r6.2==r7.2)then ck (be (sub r6.1 0 r6.1.length).length r6.1.length)<|ck (be (sub r7.1 0 r7.1.length).length r7.1.length)<|(xS n (sub r6.1 0 r6.1.length) (sub r7.1 0 r7.1.length)).bind λr8=>some r8 else some false)else some false)))
end
end Go.Proofs
