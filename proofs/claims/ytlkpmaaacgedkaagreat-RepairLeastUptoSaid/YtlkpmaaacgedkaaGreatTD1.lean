import Derived.Test.YtlkpmaaacgedkaaGreatTBase
open Go.IntKind (i64)
namespace Go.Proofs
open Go.Gb Go.RowKit
noncomputable section
variable (n:Nat)
def ZH(a0:ByteArray)(a1:Int):Option cu:=
 ck (aE (sub ([(bR.mk 1 0 a0 (⟨#[]⟩) ([])),(bR.mk 0 a1 (⟨#[]⟩) (⟨#[]⟩) ([]))]:List bR) 0 2).length 2)<|some (cu.mk (⟨#[114]⟩) ([]) ([]) 0 0 0 false 0 12 0 (⟨#[]⟩) (⟨#[]⟩) (sub ([(bR.mk 1 0 a0 (⟨#[]⟩) ([])),(bR.mk 0 a1 (⟨#[]⟩) (⟨#[]⟩) ([]))]:List bR) 0 2) 0 0 0 0 0 0 0)
def yF(a0:Int):Option (fM×aG):=
 ck (aE (sub ([(au.mk 0 0 9 9)]:List au) 0 1).length 1)<|(ZH (⟨#[104,101,105,103,104,116]⟩) a0).bind λr1=>ck (aE (sub ([(aD.mk 1 1 5 6 0 10 1 0 false)]:List aD) 0 1).length 1)<|ck (aE (sub ([r1]:List cu) 0 1).length 1)<|ck (aE (sub ([(jK.mk 1 0 (sub ([(au.mk 0 0 9 9)]:List au) 0 1) ([]))]:List jK) 0 1).length 1)<|ck (aE (sub ([(fA.mk (sub ([(aD.mk 1 1 5 6 0 10 1 0 false)]:List aD) 0 1) ([]))]:List fA) 0 1).length 1)<|some ((fM.mk ([]) ([]) ([]) (sub ([r1]:List cu) 0 1) ([]) ([]) ([]) 0 (sub ([(jK.mk 1 0 (sub ([(au.mk 0 0 9 9)]:List au) 0 1) ([]))]:List jK) 0 1) ([]) ([]) ([]) ([])),(aG.mk 1 (sub ([(fA.mk (sub ([(aD.mk 1 1 5 6 0 10 1 0 false)]:List aD) 0 1) ([]))]:List fA) 0 1)))
def AR(a0:List au):Option (List au):=
 (bif a0.isEmpty then(both (some []) (ck (bL ([]:List au).length 0 a0.length a0.length 32)<|jq ([]++a0) λr1=>ck (aE (sub r1 0 r1.length).length r1.length)<|some (sub r1 0 r1.length)))else ck (bL ([]:List au).length 0 a0.length a0.length 32)<|jq ([]++a0) λr2=>ck (aE (sub r2 0 r2.length).length r2.length)<|some (sub r2 0 r2.length))
def sV(a0:List Int):Option (List Int):=
 (bif a0.isEmpty then(both (some []) (ck (bL ([]:List Int).length 0 a0.length a0.length 8)<|jq ([]++a0) λr1=>ck (aE (sub r1 0 r1.length).length r1.length)<|some (sub r1 0 r1.length)))else ck (bL ([]:List Int).length 0 a0.length a0.length 8)<|jq ([]++a0) λr2=>ck (aE (sub r2 0 r2.length).length r2.length)<|some (sub r2 0 r2.length))
def MH(a0:jK):Option jK:=
 (AR a0.area).bind λr1=>(sV a0.from_).bind λr2=>ck (aE (sub r1 0 r1.length).length r1.length)<|ck (aE (sub r2 0 r2.length).length r2.length)<|some (jK.mk a0.id a0.owner (sub r1 0 r1.length) (sub r2 0 r2.length))
def Ei(a0:List jK)(a1:Int):Stp Int (Unit⊕(jK×Bool))
 |v1=>(bif decide (v1<a0.length)then(bu a0 v1).bind λx1=>(bif (x1.id==a1)then(MH x1).bind λr1=>(some (r1,true)).map λa=>.inr (.inr a)else some (.inl (i64.wrap (v1+1))))else some (.inr (.inl ())))
def MI(a0:List jK)(a1:Int):Option (jK×Bool):=
 dK (iter (Ei a0 a1) n 0) λ()=>some ((jK.mk 0 0 ([]) ([])),false)
def nH(a0:aG)(a1:Int)(a2:Int):Stp (Int×(List aD)) (List aD)
 |(v1,v2)=>(bif decide (v1<a0.phases.length)then((bu a0.phases v1).bind λx1=>((bif decide (v1>=a1)then some (decide (v1<a2))else some false)).bind λv3=>(bif v3 then ck (bL v2.length v2.length x1.az.length x1.az.length 72)<|jq (v2++x1.az) λr1=>ck (aE r1.length r1.length)<|some r1 else ck (aE v2.length v2.length)<|some v2):Option ((List aD))).bind λv4=>ck (aE v4.length v4.length)<|some (.inl ((i64.wrap (v1+1)),v4))else ck (aE v2.length v2.length)<|some (.inr v2))
def nU(a0:aG)(a1:Int)(a2:Int):Option (List aD):=
 ck (aE 0 ([]:List aD).length)<|(iter (nH a0 a1 a2) n (0,[])).bind λw1=>ck (aE (sub w1 0 w1.length).length w1.length)<|some (sub w1 0 w1.length)
def vX(a0:aG):Option (List aD):=
 (nU n a0 0 a0.phases.length).bind λr1=>ck (aE (sub r1 0 r1.length).length r1.length)<|some (sub r1 0 r1.length)
def oO(a0:au):Option Bool:=
 (bif decide (0<=a0.x0)then(bif decide (a0.x0<a0.x1)then(bif decide (a0.x1<=1048576)then(bif decide (0<=a0.y0)then(bif decide (a0.y0<a0.y1)then some (decide (a0.y1<=1048576))else some false)else some false)else some false)else some false)else some false)
def fH(a0:aD):Option Bool:=
 ((oO (au.mk a0.bj a0.bz a0.be a0.bx)).bind λr1=>(bif (!r1)then some true else(bif decide (a0.cx<0)then some true else(bif decide (a0.cx>=a0.cz)then some true else some (decide (a0.cz>4096)))))).bind λv1=>(bif v1 then some false else((bif (a0.use !=0)then some (a0.units !=0)else some false)).bind λv2=>(bif v2 then some false else(bif decide (a0.use>=0)then(bif decide (a0.use<6)then(bif decide (a0.units>=0)then some (decide (a0.units<=1048576))else some false)else some false)else some false)))
def xX(a0:au):Option (au×Bool):=
 (oO a0).bind λr1=>(bif r1 then some (a0,true)else some ((au.mk 0 0 0 0),false))
def rU(a0:au)(a1:au):Option (au×Bool):=
 ((oO a0).bind λr1=>(bif (!r1)then some true else(oO a1).bind λr2=>some (!r2))).bind λv1=>(bif v1 then some ((au.mk 0 0 0 0),false)else(xX (au.mk (max a0.x0 a1.x0) (max a0.y0 a1.y0) (min a0.x1 a1.x1) (min a0.y1 a1.y1))).bind λr3=>some (r3.1,r3.2))
def xk(a0:ym)(a1:ym):Option Bool:=
 (rU (au.mk a0.mA a0.my a0.mz a0.mw) (au.mk a1.mA a1.my a1.mz a1.mw)).bind λr1=>(bif r1.2 then(bif decide (a0.z0<a1.z1)then some (decide (a1.z0<a0.z1))else some false)else some false)
def qW(a0:aD)(a1:aD):Option Bool:=
 (xk (ym.mk a1.bj a1.bz a1.be a1.bx a1.cx a1.cz) (ym.mk a0.bj a0.bz a0.be a0.bx a0.cx a0.cz)).bind λr1=>some r1
def Ej(a0:List aD)(a1:(aD×Unit)->Option Bool):Stp Int (Unit⊕Int)
 |v1=>(bif decide (v1<a0.length)then(bu a0 v1).bind λx1=>(a1 (x1,())).bind λr1=>(bif r1 then(some v1).map λa=>.inr (.inr a)else some (.inl (i64.wrap (v1+1))))else some (.inr (.inl ())))
def qx(a0:List aD)(a1:(aD×Unit)->Option Bool):Option Int:=
 dK (iter (Ej a0 a1) n 0) λ()=>some (-1)
def fU(a0:List aD)(a1:(aD×Unit)->Option Bool):Option Bool:=
 (qx n a0 a1).bind λr1=>some (decide (r1>=0))
def El(a0:Int):Option Bool:=
 (bif decide (a0>=97)then some (decide (a0<=122))else some false)
def zY(a0:ByteArray)(a1:(Int×Unit)->Option Bool):Stp Int Int
 |v1=>((bif decide (v1<a0.size)then(QT a0 v1).bind λx1=>(a1 (x1,())).bind λr1=>some r1 else some false)).bind λv2=>(bif v2 then some (.inl (i64.wrap (v1+1)))else some (.inr v1))
def MJ(a0:ByteArray)(a1:(Int×Unit)->Option Bool):Option Int:=
 (iter (zY a0 a1) n 0).bind λw1=>some w1
def Pk(a0:Int):Option Bool:=
 (bif decide (a0>=48)then some (decide (a0<=57))else some false)
def zZ(a0:Int):Option Bool:=
 (El a0).bind λr1=>(bif r1 then some true else(Pk a0).bind λr2=>some r2)
def MK(a0:ByteArray):Option Bool:=
 ((bif (ByteArray.toList a0==ByteArray.toList (⟨#[]⟩))then some true else(QT a0 0).bind λx1=>(El x1).bind λr1=>(bif (!r1)then some true else some (decide ((a0.size:Int)>20))))).bind λv1=>(bif v1 then some false else(MJ n a0 (λ (y1:Int×Unit)=>zZ y1.1)).bind λr2=>some (r2==a0.size))
def strings_Contains(a0 a1:ByteArray):Option Bool:=ck (Nat.ble a0.size 4000000)<|some (Lib.contains a0.data.toList a1.data.toList)
def vY(a0:ByteArray):Option Bool:=
 (MK n a0).bind λr1=>(bif r1 then ck (UK (⟨#[32]⟩) a0)<|ck (UK ((⟨#[32]⟩)++a0) (⟨#[32]⟩))<|(strings_Contains (⟨#[32,97,110,100,32,97,112,97,114,116,32,98,97,115,101,32,99,97,112,32,100,101,102,105,110,101,32,101,108,115,101,32,101,120,99,101,112,116,32,102,114,111,109,32,103,114,97,99,101,32,104,111,117,114,115,32,105,102,32,105,110,32,108,101,97,115,116,32,110,111,116,32,111,114,32,111,118,101,114,108,97,121,32,112,108,97,110,101,32,114,117,108,101,32,115,108,111,112,101,32,115,117,110,32,116,97,98,108,101,32,116,104,101,110,32,117,110,116,105,108,32,117,115,101,115,32,118,97,114,121,32,118,105,101,119,32,122,111,110,101,32]⟩) (((⟨#[32]⟩)++a0)++(⟨#[32]⟩))).bind λr2=>some (!r2)else some false)
def lC(r1:List aD):Stp Int (Unit⊕Bool)
 |v2=>(bif decide (v2<(r1.length:Nat))then ck (co v2 r1.length)<|(bu r1 ((0:Nat)+v2:Int)).bind λx1=>((fH x1).bind λr2=>(bif (!r2)then some true else ck (AL 0 v2 r1.length)<|ck (aE (sub r1 0 (v2.toNat)).length (v2.toNat))<|(fU n (sub r1 0 (v2.toNat)) (λ (y1:aD×Unit)=>qW y1.1 x1)).bind λr3=>some r3)).bind λv3=>(bif v3 then(some false).map λa=>.inr (.inr a)else some (.inl (i64.wrap (v2+1))))else some (.inr (.inl ())))
def lD(x2:fA):Stp (Int×(List (ByteArray×Bool))) (Unit⊕(Int⊕(Unit⊕Bool)))
 |(v5,v6)=>(bif decide (v5<x2.gives.length)then(bu x2.gives v5).bind λx3=>((bif ((gT fX x3.name v6).getD false)then some true else(vY n x3.name).bind λr4=>(bif (!r4)then some true else(bif decide (x3.n<0)then some true else some (decide (x3.n>1073741824)))))).bind λv7=>(bif v7 then((some false).map λa=>.inr (.inr a)).map λa=>.inr (.inr a)else some (.inl ((i64.wrap (v5+1)),(Fq fX x3.name true v6))))else some (.inr (.inl ())))
def lF(a0:aG):Stp Int (Unit⊕Bool)
 |v4=>(bif decide (v4<a0.phases.length)then(bu a0.phases v4).bind λx2=>dK (iter (lD n x2) n (0,([]:(List (ByteArray×Bool))))) λ()=>(bif decide ((x2.gives.length:Int)>30)then(some false).map λa=>.inr (.inr a)else some (.inl (i64.wrap (v4+1))))else some (.inr (.inl ())))
def lN(a0:aG):Option Bool:=
 (vX n a0).bind λr1=>((bif decide (a0.lot<0)then some true else(bif decide (a0.lot>1073741824)then some true else(bif decide ((a0.phases.length:Int)<1)then some true else(bif decide ((a0.phases.length:Int)>8)then some true else(bif decide ((r1.length:Int)<1)then some true else some (decide ((r1.length:Int)>40)))))))).bind λv1=>(bif v1 then some false else dK (iter (lC n r1) n 0) λ()=>dK (iter (lF n a0) n 0) λ()=>some true)
def ML(a0:Unit)(a1:Int):Option (List au):=
 (bif decide (a1<0)then none else(bif (decide ((i64.wrap (a1-(i64.wrap (0-0))))>0))then ck (uy (i64.wrap (a1-(i64.wrap (0-0)))) 32)<|ck (AL 0 0 ((i64.wrap (a1-(i64.wrap (0-0)))).toNat))<|ck (aE (sub (List.replicate (i64.wrap (a1-(i64.wrap (0-0)))).toNat (au.mk 0 0 0 0)) 0 0).length 0)<|some (sub (List.replicate (i64.wrap (a1-(i64.wrap (0-0)))).toNat (au.mk 0 0 0 0)) 0 0)else some []))
def MN(a0:List (List au)):Stp (Int×Int) Int
 |(v1,v2)=>(bif decide (v2<a0.length)then(bu a0 v2).bind λx1=>(bif decide ((i64.wrap (v1+x1.length))<0)then none else some (.inl ((i64.wrap (v1+x1.length)),(i64.wrap (v2+1)))))else some (.inr v1))
def MO(a0:List (List au)):Stp (Int×(List au)) (List au)
 |(v3,v4)=>(bif decide (v3<a0.length)then(bu a0 v3).bind λx2=>ck (bL v4.length v4.length x2.length x2.length 32)<|jq (v4++x2) λr2=>ck (aE r2.length r2.length)<|some (.inl ((i64.wrap (v3+1)),r2))else ck (aE v4.length v4.length)<|some (.inr v4))
def yG(a0:List (List au)):Option (List au):=
 (iter (MN a0) n (0,0)).bind λw1=>(ML () w1).bind λr1=>ck (aE r1.length r1.length)<|(iter (MO a0) n (0,r1)).bind λw2=>ck (aE (sub w2 0 w2.length).length w2.length)<|some (sub w2 0 w2.length)
def pF(_:Nat)(a0:List Int):Option (List Int):=NB a0
def MP(a0:List Int)(v1:Int):Stp (Int×Int×(List Int)) (Int×(List Int))
 |(v2,v3,v4)=>(bif decide (v3<((a0.length-v1.toNat):Nat))then(ck (co v3 (a0.length-v1.toNat))<|(bu v4 (((0+v1.toNat):Nat)+v3:Int)).bind λx3=>ck (co (i64.wrap (v3-1)) (a0.length-v1.toNat))<|(bu v4 (((0+v1.toNat):Nat)+(i64.wrap (v3-1)):Int)).bind λx4=>(bif (x3 !=x4)then ck (co v3 (a0.length-v1.toNat))<|(bu v4 (((0+v1.toNat):Nat)+v3:Int)).bind λx5=>ck (co v2 a0.length)<|(bu v4 ((0:Nat)+v2:Int)).bind λx6=>some ((i64.wrap (v2+1)),(v4.set ((0:Nat)+v2:Int).toNat x5))else some (v2,v4)):Option (Int×(List Int))).bind λ(v5,v6)=>some (.inl (v5,(i64.wrap (v3+1)),v6))else some (.inr (v2,v4)))
def MQ(a0:List Int):Stp Int (Unit⊕(Unit×(List Int)))
 |v1=>(bif decide (v1<(a0.length:Nat))then ck (co v1 a0.length)<|(bu a0 ((0:Nat)+v1:Int)).bind λx1=>ck (co (i64.wrap (v1-1)) a0.length)<|(bu a0 ((0:Nat)+(i64.wrap (v1-1)):Int)).bind λx2=>(bif (x1==x2)then ck (AL v1 (a0.length:Nat) a0.length)<|(iter (MP a0 v1) n (v1,1,a0)).bind λ(w1,w2)=>ck (AL w1 (a0.length:Nat) a0.length)<|ck (AL 0 w1 a0.length)<|(ck (aE (w1.toNat) (w1.toNat))<|ck (aE (sub (w2.take (0+w1.toNat)) 0 (w1.toNat)).length (w1.toNat))<|some ((),(sub (w2.take (0+w1.toNat)) 0 (w1.toNat)))).map λa=>.inr (.inr a)else some (.inl (i64.wrap (v1+1))))else some (.inr (.inl ())))
def pG(a0:List Int):Option (Unit×(List Int)):=
 (bif decide ((a0.length:Int)<2)then ck (aE a0.length a0.length)<|ck (aE (sub a0 0 a0.length).length a0.length)<|some ((),(sub a0 0 a0.length))else dK (iter (MQ n a0) n 1) λ()=>ck (aE a0.length a0.length)<|ck (aE (sub a0 0 a0.length).length a0.length)<|some ((),(sub a0 0 a0.length)))
def uS(_:Nat)(a0:List aK)(a1:(aK×aK×Unit)->Option Int):Option (List aK):=ZE a0 a1
def cmp_isNaN_int(a0:Int):Option Bool:=
 some (a0 !=a0)
def cmp_Compare_int(a0:Int)(a1:Int):Option Int:=
 (cmp_isNaN_int a0).bind λr1=>(cmp_isNaN_int a1).bind λr2=>(bif r1 then(bif r2 then some 0 else some (-1))else(bif r2 then some 1 else(bif decide (a0<a1)then some (-1)else(bif decide (a0>a1)then some 1 else some 0))))
def xq(a0:aK)(a1:aK):Option Int:=
 (cmp_Compare_int a0.from_ a1.from_).bind λr1=>some r1
def sW(a0:List au)(a1:Int):Stp (Int×(List aK)) (List aK)
 |(v1,v2)=>(bif decide (v1<a0.length)then((bu a0 v1).bind λx1=>((bif decide (x1.x0<=a1)then some (decide (a1<x1.x1))else some false)).bind λv3=>(bif v3 then ck (bL v2.length v2.length (sub ([(aK.mk x1.y0 x1.y1)]:List aK) 0 1).length 1 16)<|jq (v2++(sub ([(aK.mk x1.y0 x1.y1)]:List aK) 0 1)) λr1=>ck (aE r1.length r1.length)<|some r1 else ck (aE v2.length v2.length)<|some v2):Option ((List aK))).bind λv4=>ck (aE v4.length v4.length)<|some (.inl ((i64.wrap (v1+1)),v4))else ck (aE v2.length v2.length)<|some (.inr v2))
def sZ(w1:List aK)(r2:List aK):Stp (Int×(List aK)) (List aK)
 |(v5,v6)=>(bif decide (v5<(w1.length:Nat))then(ck (co v5 w1.length)<|(bu r2 ((0:Nat)+v5:Int)).bind λx2=>((bif decide ((v6.length:Int)>0)then ck (co (i64.wrap ((v6.length:Nat)-1)) v6.length)<|(bu v6 ((0:Nat)+(i64.wrap ((v6.length:Nat)-1)):Int)).bind λx3=>some (decide (x2.from_<=x3.to))else some false)).bind λv7=>(bif v7 then ck (co (i64.wrap ((v6.length:Nat)-1)) v6.length)<|(bu v6 ((0:Nat)+(i64.wrap ((v6.length:Nat)-1)):Int)).bind λx4=>ck (co (i64.wrap ((v6.length:Nat)-1)) v6.length)<|(bu v6 ((0:Nat)+(i64.wrap ((v6.length:Nat)-1)):Int)).bind λx5=>ck (aE v6.length (v6.set ((0:Nat)+(i64.wrap ((v6.length:Nat)-1)):Int).toNat (aK.mk x5.from_ (max x4.to x2.to))).length)<|some (v6.set ((0:Nat)+(i64.wrap ((v6.length:Nat)-1)):Int).toNat (aK.mk x5.from_ (max x4.to x2.to)))else ck (bL v6.length v6.length (sub ([x2]:List aK) 0 1).length 1 16)<|jq (v6++(sub ([x2]:List aK) 0 1)) λr3=>ck (aE r3.length r3.length)<|some r3):Option ((List aK))).bind λv8=>ck (aE v8.length v8.length)<|some (.inl ((i64.wrap (v5+1)),v8))else ck (aE v6.length v6.length)<|some (.inr v6))
def Jp(a0:List au)(a1:Int):Option (List aK):=
 ck (aE 0 ([]:List aK).length)<|(iter (sW a0 a1) n (0,[])).bind λw1=>ck (aE w1.length w1.length)<|(uS n w1 (λ (y1:aK×aK×Unit)=>xq y1.1 y1.2.1)).bind λr2=>ck (aE 0 ([]:List aK).length)<|(iter (sZ w1 r2) n (0,[])).bind λw2=>ck (aE (sub w2 0 w2.length).length w2.length)<|some (sub w2 0 w2.length)
def tq(r1:List au):Stp (Int×(List Int)) (List Int)
 |(v1,v2)=>(bif decide (v1<(r1.length:Nat))then ck (co v1 r1.length)<|(bu r1 ((0:Nat)+v1:Int)).bind λx1=>ck (bL v2.length v2.length (sub ([x1.x0,x1.x1]:List Int) 0 2).length 2 8)<|jq (v2++(sub ([x1.x0,x1.x1]:List Int) 0 2)) λr2=>ck (aE r2.length r2.length)<|some (.inl ((i64.wrap (v1+1)),r2))else ck (aE v2.length v2.length)<|some (.inr v2))
def tu(r1:List au)(r4:Unit×(List Int)):Stp (Int×(List bP)) (List bP)
 |(v3,v4)=>(bif decide (v3<(r4.2.length:Nat))then ck (co (i64.wrap (v3-1)) r4.2.length)<|(bu r4.2 ((0:Nat)+(i64.wrap (v3-1)):Int)).bind λx2=>ck (co v3 r4.2.length)<|(bu r4.2 ((0:Nat)+v3:Int)).bind λx3=>ck (co (i64.wrap (v3-1)) r4.2.length)<|(bu r4.2 ((0:Nat)+(i64.wrap (v3-1)):Int)).bind λx4=>ck (aE (sub r1 0 r1.length).length r1.length)<|(Jp n (sub r1 0 r1.length) x4).bind λr5=>ck (aE (sub r5 0 r5.length).length r5.length)<|ck (bL v4.length v4.length (sub ([(bP.mk x2 x3 (sub r5 0 r5.length))]:List bP) 0 1).length 1 40)<|jq (v4++(sub ([(bP.mk x2 x3 (sub r5 0 r5.length))]:List bP) 0 1)) λr6=>ck (aE r6.length r6.length)<|some (.inl ((i64.wrap (v3+1)),r6))else ck (aE v4.length v4.length)<|some (.inr v4))
def ow(a0:List (List au)):Option (List bP):=
 (yG n a0).bind λr1=>ck (aE 0 ([]:List Int).length)<|(iter (tq r1) n (0,[])).bind λw1=>ck (aE w1.length w1.length)<|(pF n w1).bind λr3=>ck (aE w1.length r3.length)<|(pG n r3).bind λr4=>ck (aE 0 ([]:List bP).length)<|(iter (tu n r1 r4) n (1,[])).bind λw2=>ck (aE (sub w2 0 w2.length).length w2.length)<|some (sub w2 0 w2.length)
def Pm(a0:List aK)(a1:List aK):Stp Int (Unit⊕Bool)
 |v1=>(bif decide (v1<a0.length)then(bu a0 v1).bind λx1=>(bu a1 v1).bind λx2=>(bif (!((x1.from_==x2.from_)&&((x1.to==x2.to)&&true)))then(some false).map λa=>.inr (.inr a)else some (.inl (i64.wrap (v1+1))))else some (.inr (.inl ())))
def vC(a0:List aK)(a1:List aK):Option Bool:=
 (bif (a0.length !=(a1.length:Int))then some false else dK (iter (Pm a0 a1) n 0) λ()=>some true)
def rV(a0:List bP)(v1:Int):Stp Int Int
 |v3=>((bif decide (v3<a0.length)then(bu a0 v3).bind λx1=>(bu a0 v1).bind λx2=>(vC n x1.column x2.column).bind λr1=>some r1 else some false)).bind λv4=>(bif v4 then some (.inl (i64.wrap (v3+1)))else some (.inr v3))
def vZ(a0:List bP)(v1:Int)(w1:Int)(x3:bP):Stp (Int×(List au)) (List au)
 |(v5,v6)=>(bif decide (v5<x3.column.length)then(bu x3.column v5).bind λx4=>(bu a0 v1).bind λx5=>(bu a0 (i64.wrap (w1-1))).bind λx6=>ck (bL v6.length v6.length (sub ([(au.mk x5.x0 x4.from_ x6.x1 x4.to)]:List au) 0 1).length 1 32)<|jq (v6++(sub ([(au.mk x5.x0 x4.from_ x6.x1 x4.to)]:List au) 0 1)) λr2=>ck (aE r2.length r2.length)<|some (.inl ((i64.wrap (v5+1)),r2))else ck (aE v6.length v6.length)<|some (.inr v6))
def wh(a0:List bP):Stp (Int×(List au)) (List au)
 |(v1,v2)=>(bif decide (v1<a0.length)then(iter (rV n a0 v1) n (i64.wrap (v1+1))).bind λw1=>(bu a0 v1).bind λx3=>ck (aE v2.length v2.length)<|(iter (vZ a0 v1 w1 x3) n (0,v2)).bind λw2=>ck (aE w2.length w2.length)<|some (.inl (w1,w2))else ck (aE v2.length v2.length)<|some (.inr v2))
def Hy(a0:List bP):Option (List au):=
 ck (aE 0 ([]:List au).length)<|(iter (wh n a0) n (0,[])).bind λw3=>ck (aE (sub w3 0 w3.length).length w3.length)<|some (sub w3 0 w3.length)
def yH(a0:List au):Option ((List au)×Int):=
 (bif decide ((a0.length:Int)>200)then some ([],6)else some (a0,0))
def MR(a0:List au):Stp Int (Unit⊕((List au)×Int))
 |v1=>(bif decide (v1<a0.length)then(bu a0 v1).bind λx1=>(oO x1).bind λr1=>(bif (!r1)then(some ([],1)).map λa=>.inr (.inr a)else some (.inl (i64.wrap (v1+1))))else some (.inr (.inl ())))
def Ss(a0:List au):Option ((List au)×Int):=
 dK (iter (MR a0) n 0) λ()=>(bif decide ((a0.length:Int)>400)then some ([],6)else ck (aE (sub ([a0]:List (List au)) 0 1).length 1)<|(ow n (sub ([a0]:List (List au)) 0 1)).bind λr2=>ck (aE (sub r2 0 r2.length).length r2.length)<|(Hy n (sub r2 0 r2.length)).bind λr3=>ck (aE (sub r3 0 r3.length).length r3.length)<|(yH (sub r3 0 r3.length)).bind λr4=>some (r4.1,r4.2))
def Pn(a0:List au)(a1:List au):Stp Int (Unit⊕Bool)
 |v1=>(bif decide (v1<a0.length)then(bu a0 v1).bind λx1=>(bu a1 v1).bind λx2=>(bif (!((x1.x0==x2.x0)&&((x1.y0==x2.y0)&&((x1.x1==x2.x1)&&((x1.y1==x2.y1)&&true)))))then(some false).map λa=>.inr (.inr a)else some (.inl (i64.wrap (v1+1))))else some (.inr (.inl ())))
def oC(a0:List au)(a1:List au):Option Bool:=
 (bif (a0.length !=(a1.length:Int))then some false else dK (iter (Pn a0 a1) n 0) λ()=>some true)
def nV(a0:List au):Option Bool:=
 (Ss n a0).bind λr1=>(bif (r1.2==0)then(oC n r1.1 a0).bind λr2=>some r2 else some false)
def lQ(a0:List bP)(a1:Int)(a2:(bP×Int×Unit)->Option Int):Stp (Int×Int) Int
 |(v1,v2)=>(bif decide (v1<v2)then ck (decide (0<=1)&&decide (1<=IntKind.u64.bits))<|(bu a0 (i64.wrap ((IntKind.u64.wrap (i64.wrap (v1+v2)))/2 ^ (1:Int).toNat))).bind λx1=>(a2 (x1,a1,())).bind λr1=>(bif decide (r1<0)then some (.inl ((i64.wrap ((i64.wrap ((IntKind.u64.wrap (i64.wrap (v1+v2)))/2 ^ (1:Int).toNat))+1)),v2))else some (.inl (v1,(i64.wrap ((IntKind.u64.wrap (i64.wrap (v1+v2)))/2 ^ (1:Int).toNat)))))else some (.inr v1))
def jk(a0:List bP)(a1:Int)(a2:(bP×Int×Unit)->Option Int):Option (Int×Bool):=
 (iter (lQ a0 a1 a2) n (0,a0.length)).bind λw1=>(bif decide (w1<a0.length)then(bu a0 w1).bind λx2=>(a2 (x2,a1,())).bind λr2=>some (w1,(r2==0))else some (w1,false))
def wo(a0:bP)(a1:Int):Option Int:=
 (bif decide (a0.x1<=a1)then some (-1)else some 1)
def VU(a0:List bP)(a1:Int):Option (List aK):=
 (jk n a0 a1 (λ (y1:bP×Int×Unit)=>wo y1.1 y1.2.1)).bind λr1=>((bif decide (r1.1<a0.length)then(bu a0 r1.1).bind λx1=>some (decide (x1.x0<=a1))else some false)).bind λv1=>(bif v1 then(bu a0 r1.1).bind λx2=>some x2.column else some [])
def MS(a0:Unit)(a1:Int):Option (List aK):=
 (bif decide (a1<0)then none else(bif (decide ((i64.wrap (a1-(i64.wrap (0-0))))>0))then ck (uy (i64.wrap (a1-(i64.wrap (0-0)))) 16)<|ck (AL 0 0 ((i64.wrap (a1-(i64.wrap (0-0)))).toNat))<|ck (aE (sub (List.replicate (i64.wrap (a1-(i64.wrap (0-0)))).toNat (aK.mk 0 0)) 0 0).length 0)<|some (sub (List.replicate (i64.wrap (a1-(i64.wrap (0-0)))).toNat (aK.mk 0 0)) 0 0)else some []))
def MU(a0:List (List aK)):Stp (Int×Int) Int
 |(v1,v2)=>(bif decide (v2<a0.length)then(bu a0 v2).bind λx1=>(bif decide ((i64.wrap (v1+x1.length))<0)then none else some (.inl ((i64.wrap (v1+x1.length)),(i64.wrap (v2+1)))))else some (.inr v1))
def MV(a0:List (List aK)):Stp (Int×(List aK)) (List aK)
 |(v3,v4)=>(bif decide (v3<a0.length)then(bu a0 v3).bind λx2=>ck (bL v4.length v4.length x2.length x2.length 16)<|jq (v4++x2) λr2=>ck (aE r2.length r2.length)<|some (.inl ((i64.wrap (v3+1)),r2))else ck (aE v4.length v4.length)<|some (.inr v4))
def yI(a0:List (List aK)):Option (List aK):=
 (iter (MU a0) n (0,0)).bind λw1=>(MS () w1).bind λr1=>ck (aE r1.length r1.length)<|(iter (MV a0) n (0,r1)).bind λw2=>ck (aE (sub w2 0 w2.length).length w2.length)<|some (sub w2 0 w2.length)
def mO(a0:List aK)(a1:Int)(a2:(aK×Int×Unit)->Option Int):Stp (Int×Int) Int
 |(v1,v2)=>(bif decide (v1<v2)then ck (decide (0<=1)&&decide (1<=IntKind.u64.bits))<|(bu a0 (i64.wrap ((IntKind.u64.wrap (i64.wrap (v1+v2)))/2 ^ (1:Int).toNat))).bind λx1=>(a2 (x1,a1,())).bind λr1=>(bif decide (r1<0)then some (.inl ((i64.wrap ((i64.wrap ((IntKind.u64.wrap (i64.wrap (v1+v2)))/2 ^ (1:Int).toNat))+1)),v2))else some (.inl (v1,(i64.wrap ((IntKind.u64.wrap (i64.wrap (v1+v2)))/2 ^ (1:Int).toNat)))))else some (.inr v1))
def jD(a0:List aK)(a1:Int)(a2:(aK×Int×Unit)->Option Int):Option (Int×Bool):=
 (iter (mO a0 a1 a2) n (0,a0.length)).bind λw1=>(bif decide (w1<a0.length)then(bu a0 w1).bind λx2=>(a2 (x2,a1,())).bind λr2=>some (w1,(r2==0))else some (w1,false))
def lT(a0:aK)(a1:Int):Option Int:=
 (bif decide (a0.to<=a1)then some (-1)else some 1)
def Cu(a0:List aK)(a1:Int):Option Bool:=
 (jD n a0 a1 (λ (y1:aK×Int×Unit)=>lT y1.1 y1.2.1)).bind λr1=>(bif decide (r1.1<a0.length)then(bu a0 r1.1).bind λx1=>some (decide (x1.from_<=a1))else some false)
def wu(r1:List aK):Stp (Int×(List Int)) (List Int)
 |(v1,v2)=>(bif decide (v1<(r1.length:Nat))then ck (co v1 r1.length)<|(bu r1 ((0:Nat)+v1:Int)).bind λx1=>ck (bL v2.length v2.length (sub ([x1.from_,x1.to]:List Int) 0 2).length 2 8)<|jq (v2++(sub ([x1.from_,x1.to]:List Int) 0 2)) λr2=>ck (aE r2.length r2.length)<|some (.inl ((i64.wrap (v1+1)),r2))else ck (aE v2.length v2.length)<|some (.inr v2))
def wz(a0:List aK)(a1:List aK)(a2:(Bool×Bool×Unit)->Option Bool)(r4:Unit×(List Int)):Stp (Int×(List aK)) (List aK)
 |(v3,v4)=>(bif decide (v3<(r4.2.length:Nat))then(ck (co (i64.wrap (v3-1)) r4.2.length)<|(bu r4.2 ((0:Nat)+(i64.wrap (v3-1)):Int)).bind λx2=>(Cu n a0 x2).bind λr5=>(Cu n a1 x2).bind λr6=>(a2 (r5,r6,())).bind λr7=>(bif (!r7)then ck (aE v4.length v4.length)<|some v4 else((bif decide ((v4.length:Int)>0)then ck (co (i64.wrap ((v4.length:Nat)-1)) v4.length)<|(bu v4 ((0:Nat)+(i64.wrap ((v4.length:Nat)-1)):Int)).bind λx3=>some (x3.to==x2)else some false)).bind λv5=>(bif v5 then ck (co v3 r4.2.length)<|(bu r4.2 ((0:Nat)+v3:Int)).bind λx4=>ck (co (i64.wrap ((v4.length:Nat)-1)) v4.length)<|(bu v4 ((0:Nat)+(i64.wrap ((v4.length:Nat)-1)):Int)).bind λx5=>ck (aE v4.length (v4.set ((0:Nat)+(i64.wrap ((v4.length:Nat)-1)):Int).toNat (aK.mk x5.from_ x4)).length)<|some (v4.set ((0:Nat)+(i64.wrap ((v4.length:Nat)-1)):Int).toNat (aK.mk x5.from_ x4))else ck (co v3 r4.2.length)<|(bu r4.2 ((0:Nat)+v3:Int)).bind λx6=>ck (bL v4.length v4.length (sub ([(aK.mk x2 x6)]:List aK) 0 1).length 1 16)<|jq (v4++(sub ([(aK.mk x2 x6)]:List aK) 0 1)) λr8=>ck (aE r8.length r8.length)<|some r8)):Option ((List aK))).bind λv6=>ck (aE v6.length v6.length)<|some (.inl ((i64.wrap (v3+1)),v6))else ck (aE v4.length v4.length)<|some (.inr v4))
def Hz(a0:List aK)(a1:List aK)(a2:(Bool×Bool×Unit)->Option Bool):Option (List aK):=
 ck (aE (sub ([a0,a1]:List (List aK)) 0 2).length 2)<|(yI n (sub ([a0,a1]:List (List aK)) 0 2)).bind λr1=>ck (aE 0 ([]:List Int).length)<|(iter (wu r1) n (0,[])).bind λw1=>ck (aE w1.length w1.length)<|(pF n w1).bind λr3=>ck (aE w1.length r3.length)<|(pG n r3).bind λr4=>ck (aE 0 ([]:List aK).length)<|(iter (wz n a0 a1 a2 r4) n (1,[])).bind λw2=>ck (aE (sub w2 0 w2.length).length w2.length)<|some (sub w2 0 w2.length)
def qI(a2:(Bool×Bool×Unit)->Option Bool)(r3:List bP)(r4:List bP)(r5:List bP):Stp (Int×(List bP)) (List bP)
 |(v2,v3)=>(bif decide (v2<(r5.length:Nat))then ck (co v2 r5.length)<|(bu v3 ((0:Nat)+v2:Int)).bind λx1=>(VU n (sub r3 0 r3.length) x1.x0).bind λr6=>(VU n (sub r4 0 r4.length) x1.x0).bind λr7=>(Hz n r6 r7 a2).bind λr8=>ck (co v2 r5.length)<|ck (aE (sub r8 0 r8.length).length r8.length)<|(bu v3 ((0:Nat)+v2:Int)).bind λx2=>some (.inl ((i64.wrap (v2+1)),(v3.set ((0:Nat)+v2:Int).toNat (bP.mk x2.x0 x2.x1 (sub r8 0 r8.length)))))else some (.inr v3))
def Em(a0:List au)(a1:List au)(a2:(Bool×Bool×Unit)->Option Bool):Option ((List au)×Int):=
 ((nV n a0).bind λr1=>(bif (!r1)then some true else(nV n a1).bind λr2=>some (!r2))).bind λv1=>(bif v1 then some ([],1)else ck (aE (sub ([a0]:List (List au)) 0 1).length 1)<|(ow n (sub ([a0]:List (List au)) 0 1)).bind λr3=>ck (aE (sub ([a1]:List (List au)) 0 1).length 1)<|(ow n (sub ([a1]:List (List au)) 0 1)).bind λr4=>ck (aE (sub r3 0 r3.length).length r3.length)<|ck (aE (sub r4 0 r4.length).length r4.length)<|ck (aE (sub ([a0,a1]:List (List au)) 0 2).length 2)<|(ow n (sub ([a0,a1]:List (List au)) 0 2)).bind λr5=>(iter (qI n a2 r3 r4 r5) n (0,r5)).bind λw1=>ck (aE (sub w1 0 r5.length).length r5.length)<|(Hy n (sub w1 0 r5.length)).bind λr9=>ck (aE (sub r9 0 r9.length).length r9.length)<|(yH (sub r9 0 r9.length)).bind λyz=>some (yz.1,yz.2))
def xu(a0:Bool)(a1:Bool):Option Bool:=
 (bif a0 then some a1 else some false)
def Jq(a0:List au)(a1:List au):Option ((List au)×Int):=
 (Em n a0 a1 (λ (y1:Bool×Bool×Unit)=>xu y1.1 y1.2.1)).bind λr1=>some (r1.1,r1.2)
def uT(a0:au):Option Int:=
 (xX a0).bind λr1=>some (i64.wrap ((i64.wrap (r1.1.x1-r1.1.x0))*(i64.wrap (r1.1.y1-r1.1.y0))))
def En(a0:List au):Stp (Int×Int) Int
 |(v1,v2)=>(bif decide (v2<a0.length)then(bu a0 v2).bind λx1=>(uT x1).bind λr2=>some (.inl ((i64.wrap (v1+r2)),(i64.wrap (v2+1))))else some (.inr v1))
def MW(a0:List au):Option Int:=
 (nV n a0).bind λr1=>(bif (!r1)then some 0 else(iter (En a0) n (0,0)).bind λw1=>some w1)
def uU(a0:jd)(a1:bD):Option Bool:=
 some (ByteArray.toList a0.name==ByteArray.toList a1.name)
def JC(a0:List jd)(a1:(jd×Unit)->Option Bool):Stp Int (Unit⊕Int)
 |v1=>(bif decide (v1<a0.length)then(bu a0 v1).bind λx1=>(a1 (x1,())).bind λr1=>(bif r1 then(some v1).map λa=>.inr (.inr a)else some (.inl (i64.wrap (v1+1))))else some (.inr (.inl ())))
def uV(a0:List jd)(a1:(jd×Unit)->Option Bool):Option Int:=
 dK (iter (JC a0 a1) n 0) λ()=>some (-1)
def mU(a0:List jd)(a1:(jd×Unit)->Option Bool):Option Bool:=
 (uV n a0 a1).bind λr1=>some (decide (r1>=0))
def kD(a1:jK)(r3:List aD):Stp Int (Unit⊕Bool)
 |v2=>(bif decide (v2<(r3.length:Nat))then ck (co v2 r3.length)<|(bu r3 ((0:Nat)+v2:Int)).bind λx1=>ck (aE (sub ([(au.mk x1.bj x1.bz x1.be x1.bx)]:List au) 0 1).length 1)<|(Jq n a1.area (sub ([(au.mk x1.bj x1.bz x1.be x1.bx)]:List au) 0 1)).bind λr4=>((bif (r4.2 !=0)then some true else(MW n r4.1).bind λr5=>(uT (au.mk x1.bj x1.bz x1.be x1.bx)).bind λr6=>some (decide (r5<r6)))).bind λv3=>(bif v3 then(some false).map λa=>.inr (.inr a)else some (.inl (i64.wrap (v2+1))))else some (.inr (.inl ())))
def kE(a0:bZ)(x2:fA):Stp Int (Unit⊕(Int⊕(Unit⊕Bool)))
 |v5=>(bif decide (v5<x2.gives.length)then(bu x2.gives v5).bind λx3=>(mU n a0.caps (λ (y1:jd×Unit)=>uU y1.1 x3)).bind λr7=>(bif (!r7)then((some false).map λa=>.inr (.inr a)).map λa=>.inr (.inr a)else some (.inl (i64.wrap (v5+1))))else some (.inr (.inl ())))
def kF(a0:bZ)(a2:aG):Stp Int (Unit⊕Bool)
 |v4=>(bif decide (v4<a2.phases.length)then(bu a2.phases v4).bind λx2=>dK (iter (kE n a0 x2) n 0) λ()=>some (.inl (i64.wrap (v4+1)))else some (.inr (.inl ())))
def ku(a0:bZ)(a1:jK)(a2:aG):Option Bool:=
 ((lN n a2).bind λr1=>(bif (!r1)then some true else(bif (a1.id !=a2.lot)then some true else(nV n a1.area).bind λr2=>some (!r2)))).bind λv1=>(bif v1 then some false else(vX n a2).bind λr3=>dK (iter (kD n a1 r3) n 0) λ()=>dK (iter (kF n a0 a2) n 0) λ()=>some true)
def oP(a0:aG):Stp (Int×(List aD)) (List aD)
 |(v1,v2)=>(bif decide (v1<a0.phases.length)then(bu a0.phases v1).bind λx1=>ck (bL v2.length v2.length x1.az.length x1.az.length 72)<|jq (v2++x1.az) λr1=>ck (aE r1.length r1.length)<|some (.inl ((i64.wrap (v1+1)),r1))else ck (aE v2.length v2.length)<|some (.inr v2))
def tC(a0:aG):Option (List aD):=
 ck (aE 0 ([]:List aD).length)<|(iter (oP a0) n (0,[])).bind λw1=>ck (aE (sub w1 0 w1.length).length w1.length)<|some (sub w1 0 w1.length)
def oQ(a0:List dZ):Stp (Int×(List jL)) (List jL)
 |(v1,v2)=>(bif decide (v1<a0.length)then(bu a0 v1).bind λx1=>ck ((a0.length:Int) !=0)<|(bu a0 (Int.tmod (i64.wrap (v1+1)) (a0.length:Int))).bind λx2=>ck (co v1 ((a0.length:Int).toNat))<|(bu v2 ((0:Nat)+v1:Int)).bind λx3=>some (.inl ((i64.wrap (v1+1)),(v2.set ((0:Nat)+v1:Int).toNat (jL.mk x1.x x1.y x2.x x2.y))))else some (.inr v2))
def pI(a0:List dZ):Option (List jL):=
 ck (decide ((a0.length:Int)<=a0.length)&&(decide (0<=(a0.length:Int))&&uy a0.length 32))<|(iter (oQ a0) n (0,(List.replicate (a0.length:Int).toNat (jL.mk 0 0 0 0)))).bind λw1=>ck (aE (sub w1 0 ((a0.length:Int).toNat)).length ((a0.length:Int).toNat))<|some (sub w1 0 ((a0.length:Int).toNat))
def tF(a0:dZ):Option Bool:=
 (bif decide (0<=a0.x)then(bif decide (a0.x<=1048576)then(bif decide (0<=a0.y)then some (decide (a0.y<=1048576))else some false)else some false)else some false)
def gV(a0:jL):Option Bool:=
 some (a0.ly==a0.mC)
def AU(a0:List Int):Stp Int (Unit⊕Int)
 |v1=>(bif decide (v1<a0.length)then(bu a0 v1).bind λx1=>(bif (x1 !=0)then(some x1).map λa=>.inr (.inr a)else some (.inl (i64.wrap (v1+1))))else some (.inr (.inl ())))
def uW(a0:List Int):Option Int:=
 dK (iter (AU a0) n 0) λ()=>some 0
def qX(a0:dZ)(a1:dZ):Option Int:=
 (cmp_Compare_int a0.x a1.x).bind λr1=>(cmp_Compare_int a0.y a1.y).bind λr2=>ck (aE (sub ([r1,r2]:List Int) 0 2).length 2)<|(uW n (sub ([r1,r2]:List Int) 0 2)).bind λr3=>some r3
def lU(a0:jL)(a1:jL):Option Bool:=
 (bif decide ((max (min a0.ly a0.mC) (min a1.ly a1.mC))<=(min (max a0.ly a0.mC) (max a1.ly a1.mC)))then some (decide ((max (min a0.pD a0.uu) (min a1.pD a1.uu))<=(min (max a0.pD a0.uu) (max a1.pD a1.uu))))else some false)
def qb(a0:List dZ)(r1:List jL):Stp Int (Unit⊕Bool)
 |v2=>(bif decide (v2<(r1.length:Nat))then ck (co v2 r1.length)<|(bu r1 ((0:Nat)+v2:Int)).bind λx1=>ck ((r1.length:Int) !=0)<|ck (co (Int.tmod (i64.wrap (v2+1)) (r1.length:Int)) r1.length)<|(bu r1 ((0:Nat)+(Int.tmod (i64.wrap (v2+1)) (r1.length:Int)):Int)).bind λx2=>((tF (dZ.mk x1.ly x1.pD)).bind λr2=>(bif (!r2)then some true else(bif ((x1.ly==x1.mC)==(x1.pD==x1.uu))then some true else(gV x1).bind λr3=>(gV x2).bind λr4=>some (r3==r4)))).bind λv3=>(bif v3 then(some false).map λa=>.inr (.inr a)else((bif decide (v2>0)then(bu a0 0).bind λx3=>(bu a0 v2).bind λx4=>(qX n x3 x4).bind λr5=>some (decide (r5>=0))else some false)).bind λv4=>(bif v4 then(some false).map λa=>.inr (.inr a)else some (.inl (i64.wrap (v2+1)))))else some (.inr (.inl ())))
def iZ(r1:List jL)(v5:Int):Stp Int (Unit⊕(Int⊕(Unit⊕Bool)))
 |v6=>(bif decide (v6<(r1.length:Nat))then((bif (decide ((i64.wrap ((i64.wrap (v5+(r1.length:Nat)))-v6))>1))then ck (co v5 r1.length)<|(bu r1 ((0:Nat)+v5:Int)).bind λx5=>ck (co v6 r1.length)<|(bu r1 ((0:Nat)+v6:Int)).bind λx6=>(lU x5 x6).bind λr6=>some r6 else some false)).bind λv7=>(bif v7 then((some false).map λa=>.inr (.inr a)).map λa=>.inr (.inr a)else some (.inl (i64.wrap (v6+1))))else some (.inr (.inl ())))
def qc(r1:List jL):Stp Int (Unit⊕Bool)
 |v5=>(bif decide (v5<(r1.length:Nat))then dK (iter (iZ r1 v5) n (i64.wrap (v5+2))) λ()=>some (.inl (i64.wrap (v5+1)))else some (.inr (.inl ())))
def vD(a0:List dZ):Option Bool:=
 ((bif decide ((a0.length:Int)<4)then some true else some (decide ((a0.length:Int)>60)))).bind λv1=>(bif v1 then some false else(pI n a0).bind λr1=>dK (iter (qb n a0 r1) n 0) λ()=>dK (iter (qc n r1) n 0) λ()=>ck (co 0 r1.length)<|(bu r1 ((0:Nat)+0:Int)).bind λx7=>(gV x7).bind λr7=>some (!r7))
def lV(a0:List dZ):Stp (Int×(List Int)) (List Int)
 |(v1,v2)=>(bif decide (v1<a0.length)then(bu a0 v1).bind λx1=>ck (bL v2.length v2.length (sub ([x1.x]:List Int) 0 1).length 1 8)<|jq (v2++(sub ([x1.x]:List Int) 0 1)) λr2=>ck (aE r2.length r2.length)<|some (.inl ((i64.wrap (v1+1)),r2))else ck (aE v2.length v2.length)<|some (.inr v2))
def lW(r4:Unit×(List Int))(r5:List jL)(v3:Int):Stp (Int×(List Int)) (List Int)
 |(v5,v6)=>(bif decide (v5<(r5.length:Nat))then(ck (co v5 r5.length)<|(bu r5 ((0:Nat)+v5:Int)).bind λx2=>((gV x2).bind λr6=>(bif (!r6)then ck (co v3 r4.2.length)<|(bu r4.2 ((0:Nat)+v3:Int)).bind λx3=>(bif decide ((min x2.ly x2.mC)<=x3)then ck (co v3 r4.2.length)<|(bu r4.2 ((0:Nat)+v3:Int)).bind λx4=>some (decide (x4<(max x2.ly x2.mC)))else some false)else some false)).bind λv7=>(bif v7 then ck (bL v6.length v6.length (sub ([x2.pD]:List Int) 0 1).length 1 8)<|jq (v6++(sub ([x2.pD]:List Int) 0 1)) λr7=>ck (aE r7.length r7.length)<|some r7 else ck (aE v6.length v6.length)<|some v6):Option ((List Int))).bind λv8=>ck (aE v8.length v8.length)<|some (.inl ((i64.wrap (v5+1)),v8))else ck (aE v6.length v6.length)<|some (.inr v6))
def jy(r4:Unit×(List Int))(v3:Int)(w2:List Int)(r8:List Int):Stp (Int×(List au)) (List au)
 |(v9,v10)=>(bif decide ((i64.wrap (v9+1))<(w2.length:Nat))then ck (co v3 r4.2.length)<|(bu r4.2 ((0:Nat)+v3:Int)).bind λx5=>ck (co v9 w2.length)<|(bu r8 ((0:Nat)+v9:Int)).bind λx6=>ck (co (i64.wrap (v3+1)) r4.2.length)<|(bu r4.2 ((0:Nat)+(i64.wrap (v3+1)):Int)).bind λx7=>ck (co (i64.wrap (v9+1)) w2.length)<|(bu r8 ((0:Nat)+(i64.wrap (v9+1)):Int)).bind λx8=>ck (bL v10.length v10.length (sub ([(au.mk x5 x6 x7 x8)]:List au) 0 1).length 1 32)<|jq (v10++(sub ([(au.mk x5 x6 x7 x8)]:List au) 0 1)) λr9=>ck (aE r9.length r9.length)<|some (.inl ((i64.wrap (v9+2)),r9))else ck (aE v10.length v10.length)<|some (.inr v10))
def lX(r4:Unit×(List Int))(r5:List jL):Stp (Int×(List au)) (List au)
 |(v3,v4)=>(bif decide (v3<(i64.wrap ((r4.2.length:Nat)-1)))then ck (aE 0 ([]:List Int).length)<|(iter (lW r4 r5 v3) n (0,[])).bind λw2=>ck (aE w2.length w2.length)<|(pF n w2).bind λr8=>ck (aE v4.length v4.length)<|(iter (jy r4 v3 w2 r8) n (0,v4)).bind λw3=>ck (aE w3.length w3.length)<|some (.inl ((i64.wrap (v3+1)),w3))else ck (aE v4.length v4.length)<|some (.inr v4))
def tH(a0:List dZ):Option ((List au)×Int):=
 (vD n a0).bind λr1=>(bif (!r1)then some ([],10)else ck (aE 0 ([]:List Int).length)<|(iter (lV a0) n (0,[])).bind λw1=>ck (aE w1.length w1.length)<|(pF n w1).bind λr3=>ck (aE w1.length r3.length)<|(pG n r3).bind λr4=>(pI n a0).bind λr5=>ck (aE 0 ([]:List au).length)<|(iter (lX n r4 r5) n (0,[])).bind λw4=>(bif decide ((w4.length:Int)>200)then some ([],6)else ck (aE (sub w4 0 w4.length).length w4.length)<|some ((sub w4 0 w4.length),0)))
def xw(a0:fD):Option (List au):=
 (tH n a0.corners).bind λr1=>(bif (r1.2 !=0)then some []else ck (aE (sub r1.1 0 r1.1.length).length r1.1.length)<|some (sub r1.1 0 r1.1.length))
def qd(a1:List au)(x1:au):Stp (Int×Int×Int×Int) (Int×Int×Int)
 |(v5,v6,v7,v8)=>(bif decide (v6<a1.length)then((bu a1 v6).bind λx2=>(rU x1 x2).bind λr1=>(bif (!r1.2)then some (v5,v7,v8)else(uT r1.1).bind λr2=>(cmp_Compare_int r1.1.x0 v7).bind λr3=>(cmp_Compare_int r1.1.y0 v8).bind λr4=>ck (aE (sub ([r3,r4]:List Int) 0 2).length 2)<|(uW n (sub ([r3,r4]:List Int) 0 2)).bind λr5=>(bif decide (r5<0)then some ((i64.wrap (v5+r2)),r1.1.x0,r1.1.y0)else some ((i64.wrap (v5+r2)),v7,v8))):Option (Int×Int×Int)).bind λ(v9,v10,v11)=>some (.inl (v9,(i64.wrap (v6+1)),v10,v11))else some (.inr (v5,v7,v8)))
def qf(a0:List au)(a1:List au):Stp (Int×Int×Int×Int) (Int×Int×Int)
 |(v1,v2,v3,v4)=>(bif decide (v2<a0.length)then(bu a0 v2).bind λx1=>(iter (qd n a1 x1) n (v1,0,v3,v4)).bind λ(w1,w2,w3)=>some (.inl (w1,(i64.wrap (v2+1)),w2,w3))else some (.inr (v1,v3,v4)))
def vE(a0:List au)(a1:List au):Option (Int×dZ):=
 (iter (qf n a0 a1) n (0,0,1048576,0)).bind λ(w4,w5,w6)=>some (w4,(dZ.mk w5 w6))
def qg(a0:bZ)(a1:List au):Stp (Int×(List Int)) (List Int)
 |(v1,v2)=>(bif decide (v1<a0.zones.length)then(bu a0.zones v1).bind λx1=>(xw n x1).bind λr2=>ck (aE (sub r2 0 r2.length).length r2.length)<|(vE n a1 (sub r2 0 r2.length)).bind λr3=>ck (bL v2.length v2.length (sub ([r3.1]:List Int) 0 1).length 1 8)<|jq (v2++(sub ([r3.1]:List Int) 0 1)) λr4=>ck (aE r4.length r4.length)<|some (.inl ((i64.wrap (v1+1)),r4))else ck (aE v2.length v2.length)<|some (.inr v2))
def vF(a0:bZ)(a1:List au):Option (List Int):=
 (nV n a1).bind λr1=>(bif (!r1)then some []else ck (aE 0 ([]:List Int).length)<|(iter (qg n a0 a1) n (0,[])).bind λw1=>ck (aE (sub w1 0 w1.length).length w1.length)<|some (sub w1 0 w1.length))
def qh(a0:bZ)(r1:List Int):Stp (Int×Int) Int
 |(v1,v2)=>(bif decide (v2<(r1.length:Nat))then(ck (co v2 r1.length)<|(bu r1 ((0:Nat)+v2:Int)).bind λx1=>((bu a0.zones v2).bind λx2=>(bif (!x2.overlay)then(bif decide (x1>0)then(bif decide (v1<0)then some true else ck (co v1 r1.length)<|(bu r1 ((0:Nat)+v1:Int)).bind λx3=>some (decide (x1>x3)))else some false)else some false)).bind λv3=>(bif v3 then some v2 else some v1):Option Int).bind λv4=>some (.inl (v4,(i64.wrap (v2+1))))else some (.inr v1))
def xA(a0:bZ)(r1:List Int)(w1:Int):Stp (Int×(List ByteArray)) (List ByteArray)
 |(v5,v6)=>(bif decide (v5<(r1.length:Nat))then(ck (co v5 r1.length)<|(bu r1 ((0:Nat)+v5:Int)).bind λx4=>((bif (v5==w1)then some true else(bu a0.zones v5).bind λx5=>(bif x5.overlay then some (decide (x4>0))else some false))).bind λv7=>(bif v7 then(bu a0.zones v5).bind λx6=>ck (bL v6.length v6.length (sub ([x6.name]:List ByteArray) 0 1).length 1 16)<|jq (v6++(sub ([x6.name]:List ByteArray) 0 1)) λr2=>ck (aE r2.length r2.length)<|some r2 else ck (aE v6.length v6.length)<|some v6):Option ((List ByteArray))).bind λv8=>ck (aE v8.length v8.length)<|some (.inl ((i64.wrap (v5+1)),v8))else ck (aE v6.length v6.length)<|some (.inr v6))
def Cv(a0:bZ)(a1:List au):Option (List ByteArray):=
 (vF n a0 a1).bind λr1=>(iter (qh a0 r1) n ((-1),0)).bind λw1=>ck (aE 0 ([]:List ByteArray).length)<|(iter (xA a0 r1 w1) n (0,[])).bind λw2=>ck (aE (sub w2 0 w2.length).length w2.length)<|some (sub w2 0 w2.length)
def z8(a0:fM)(a1:aG):Option (mE×Int):=
 (MI n a0.land a1.lot).bind λr1=>(bif (!r1.2)then some ((mE.mk ([]) ([]) ([]) ([]) ([]) ([]) ([]) 0 ([]) ([]) ([]) ([]) ([]) 0 0 ([]) ([]) 0 ([]) ([]) ([])),4)else(ku n (bZ.mk a0.ci a0.ca a0.b9 a0.bm a0.cj a0.cg a0.cD a0.ch) r1.1 a1).bind λr2=>(bif (!r2)then some ((mE.mk ([]) ([]) ([]) ([]) ([]) ([]) ([]) 0 ([]) ([]) ([]) ([]) ([]) 0 0 ([]) ([]) 0 ([]) ([]) ([])),1)else(tC n a1).bind λr3=>(Cv n (bZ.mk a0.ci a0.ca a0.b9 a0.bm a0.cj a0.cg a0.cD a0.ch) r1.1.area).bind λr4=>ck (aE (sub r3 0 r3.length).length r3.length)<|ck (aE (sub r4 0 r4.length).length r4.length)<|some ((mE.mk a0.ci a0.ca a0.b9 a0.bm a0.cj a0.cg a0.cD a0.ch a0.land a0.cp a0.windows a0.built a0.base r1.1.id r1.1.owner r1.1.area r1.1.from_ a1.lot a1.phases (sub r3 0 r3.length) (sub r4 0 r4.length)),0)))
def nI(a0:List ByteArray)(a1:ByteArray):Stp Int (Unit⊕Int)
 |v1=>(bif decide (v1<a0.length)then(bu a0 v1).bind λx1=>(bif (ByteArray.toList a1==ByteArray.toList x1)then(some v1).map λa=>.inr (.inr a)else some (.inl (i64.wrap (v1+1))))else some (.inr (.inl ())))
def qY(a0:List ByteArray)(a1:ByteArray):Option Int:=
 dK (iter (nI a0 a1) n 0) λ()=>some (-1)
def fQ(a0:List ByteArray)(a1:ByteArray):Option Bool:=
 (qY n a0 a1).bind λr1=>some (decide (r1>=0))
def kG(a0:ByteArray)(a1:List ByteArray):Option Bool:=
 (fQ n a1 a0).bind λr1=>some r1
def Eo(a0:List ByteArray)(a1:(ByteArray×Unit)->Option Bool):Stp Int (Unit⊕Int)
 |v1=>(bif decide (v1<a0.length)then(bu a0 v1).bind λx1=>(a1 (x1,())).bind λr1=>(bif r1 then(some v1).map λa=>.inr (.inr a)else some (.inl (i64.wrap (v1+1))))else some (.inr (.inl ())))
def qy(a0:List ByteArray)(a1:(ByteArray×Unit)->Option Bool):Option Int:=
 dK (iter (Eo a0 a1) n 0) λ()=>some (-1)
def fV(a0:List ByteArray)(a1:(ByteArray×Unit)->Option Bool):Option Bool:=
 (qy n a0 a1).bind λr1=>some (decide (r1>=0))
def qJ(a0:cu)(a1:List ByteArray):Option Bool:=
 (bif ((a0.zones.length:Int)==0)then(fV n a0.except (λ (y1:ByteArray×Unit)=>kG n y1.1 a1)).bind λr1=>some (!r1)else(fV n a0.zones (λ (y2:ByteArray×Unit)=>kG n y2.1 a1)).bind λr2=>(bif r2 then(fV n a0.except (λ (y3:ByteArray×Unit)=>kG n y3.1 a1)).bind λr3=>some (!r3)else some false))
def qZ(a0:bZ)(a1:List ByteArray)(a2:Int):Stp (Int×(List Int)) (List Int)
 |(v1,v2)=>(bif decide (v1<a0.rules.length)then((bu a0.rules v1).bind λx1=>((bif decide (x1.from_<=a2)then(bif (x1.j8==0)then(qJ n x1 a1).bind λr1=>some r1 else(bif decide (a2<x1.j8)then(qJ n x1 a1).bind λr2=>some r2 else some false))else some false)).bind λv3=>(bif v3 then ck (bL v2.length v2.length (sub ([v1]:List Int) 0 1).length 1 8)<|jq (v2++(sub ([v1]:List Int) 0 1)) λr3=>ck (aE r3.length r3.length)<|some r3 else ck (aE v2.length v2.length)<|some v2):Option ((List Int))).bind λv4=>ck (aE v4.length v4.length)<|some (.inl ((i64.wrap (v1+1)),v4))else ck (aE v2.length v2.length)<|some (.inr v2))
def tJ(a0:bZ)(a1:List ByteArray)(a2:Int):Option (List Int):=
 ck (aE 0 ([]:List Int).length)<|(iter (qZ n a0 a1 a2) n (0,[])).bind λw1=>ck (aE (sub w1 0 w1.length).length w1.length)<|some (sub w1 0 w1.length)
def uX(_:Nat)(a0:List au)(a1:(au×au×Unit)->Option Int):Option (List au):=ZE a0 a1
def iU(a0:au)(a1:au):Option Int:=
 (cmp_Compare_int a0.y0 a1.y0).bind λr1=>some r1
def lG(a0:aD):Option Int:=
 ((bif a0.extra then some true else(fH a0).bind λr1=>some (!r1))).bind λv1=>(bif v1 then some 0 else ck (3 !=0)<|some (i64.wrap (Int.tdiv (i64.wrap ((i64.wrap ((i64.wrap (a0.cz-a0.cx))+3))-1)) 3)))
def oD(a0:aD):Option Int:=
 (fH a0).bind λr1=>(bif (!r1)then some 0 else(uT (au.mk a0.bj a0.bz a0.be a0.bx)).bind λr2=>(lG a0).bind λr3=>some (i64.wrap (r2*r3)))
def nJ(a0:aD):Option Int:=
 some a0.cz
def oH(a0:aD):Option Int:=
 some a0.units
def AX(a0:au)(a1:Int):Option (au×Bool):=
 (oO (au.mk (i64.wrap (a0.x0-a1)) (i64.wrap (a0.y0-a1)) (i64.wrap (a0.x1+a1)) (i64.wrap (a0.y1+a1)))).bind λr1=>some ((au.mk (i64.wrap (a0.x0-a1)) (i64.wrap (a0.y0-a1)) (i64.wrap (a0.x1+a1)) (i64.wrap (a0.y1+a1))),r1)
def kM(a0:bD)(a1:Jo)(a2:Int):Option Bool:=
 ck (co a2 6)<|(bu ([a1.a0,a1.a1,a1.a2,a1.a3,a1.a4,a1.a5]:List ByteArray) a2).bind λx1=>some (ByteArray.toList a0.name==ByteArray.toList x1)
def Fu(a0:List bD)(a1:(bD×Unit)->Option Bool):Stp Int (Unit⊕Int)
 |v1=>(bif decide (v1<a0.length)then(bu a0 v1).bind λx1=>(a1 (x1,())).bind λr1=>(bif r1 then(some v1).map λa=>.inr (.inr a)else some (.inl (i64.wrap (v1+1))))else some (.inr (.inl ())))
def kN(a0:List bD)(a1:(bD×Unit)->Option Bool):Option Int:=
 dK (iter (Fu a0 a1) n 0) λ()=>some (-1)
def kP(a0:bZ)(a1:Int):Stp Int (Unit⊕Int)
 |v1=>(bif decide (v1<a0.tables.length)then(bu a0.tables v1).bind λx1=>(bif (!(ByteArray.toList x1.name==ByteArray.toList (⟨#[116,114,97,102,102,105,99]⟩)))then some (.inl (i64.wrap (v1+1)))else((kN n x1.rows (λ (y1:bD×Unit)=>kM y1.1 (Jo.mk (⟨#[104,111,109,101]⟩) (⟨#[115,104,111,112]⟩) (⟨#[119,111,114,107]⟩) (⟨#[112,97,114,107]⟩) (⟨#[112,108,97,110,116]⟩) (⟨#[104,97,108,108]⟩)) a1)).bind λr1=>(bif decide (r1>=0)then(bu x1.rows r1).bind λx2=>some x2.n else some x1.sg):Option Int).bind λv2=>(some (max 0 (min v2 1048576))).map λa=>.inr (.inr a))else some (.inr (.inl ())))
def Aa(a0:bZ)(a1:Int):Option Int:=
 dK (iter (kP n a0 a1) n 0) λ()=>some 0
def jE(a0:bZ)(a1:aD):Option Int:=
 (Aa n a0 a1.use).bind λr1=>(oD a1).bind λr2=>((bif decide (r1>0)then ck (r1 !=0)<|some (decide (r2>(i64.wrap (Int.tdiv 109951162777600 r1))))else some false)).bind λv1=>(bif v1 then some 1099511627776 else ck (100 !=0)<|some (i64.wrap (Int.tdiv (i64.wrap ((i64.wrap ((i64.wrap (r1*r2))+100))-1)) 100)))
def mV(a0:List gI)(a1:List cB)(a2:List fD)(a3:List cu)(a4:List jd)(a5:List gU)(a6:List dn)(a7:Int)(a8:List au)(a9:List aD):Option (Int×ig):=
 (MW n a8).bind λr1=>ck (aE a9.length a9.length)<|some (r1,a0,a1,a2,a3,a4,a5,a6,a7,a8,a9)
def gK(a9:List aD):Stp (Int×(List au)×(List Int)) ((List au)×(List Int))
 |(v1,v2,v3)=>(bif decide (v1<(a9.length:Nat))then ck (co v1 a9.length)<|(bu a9 ((0:Nat)+v1:Int)).bind λx1=>ck (co v1 ((a9.length:Int).toNat))<|(bu v2 ((0:Nat)+v1:Int)).bind λx2=>ck (co v1 ((a9.length:Int).toNat))<|(bu (v2.set ((0:Nat)+v1:Int).toNat (au.mk x1.bj x1.bz x1.be x1.bx)) ((0:Nat)+v1:Int)).bind λx3=>ck (co v1 ((a9.length:Int).toNat))<|(bu (v2.set ((0:Nat)+v1:Int).toNat (au.mk x1.bj x1.bz x1.be x1.bx)) ((0:Nat)+v1:Int)).bind λx4=>ck (bL v3.length v3.length (sub ([x3.x0,x4.x1]:List Int) 0 2).length 2 8)<|jq (v3++(sub ([x3.x0,x4.x1]:List Int) 0 2)) λr1=>ck (aE r1.length r1.length)<|some (.inl ((i64.wrap (v1+1)),(v2.set ((0:Nat)+v1:Int).toNat (au.mk x1.bj x1.bz x1.be x1.bx)),r1))else ck (aE v3.length v3.length)<|some (.inr (v2,v3)))
def gL(a9:List aD)(w2:List Int)(r2:List au)(r3:List Int)(v5:Int):Stp (Int×Int×Int) Int
 |(v6,v7,v8)=>(bif decide (v8<(((a9.length:Int).toNat:Nat):Int))then(ck (co v8 ((a9.length:Int).toNat))<|(bu r2 ((0:Nat)+v8:Int)).bind λx5=>(ck (co v5 w2.length)<|(bu r3 ((0:Nat)+v5:Int)).bind λx6=>(bif decide (x5.x0<=x6)then ck (co v5 w2.length)<|(bu r3 ((0:Nat)+v5:Int)).bind λx7=>(bif decide (x7<x5.x1)then some (decide (x5.y1>v7))else some false)else some false)).bind λv9=>(bif v9 then ck (co (i64.wrap (v5+1)) w2.length)<|(bu r3 ((0:Nat)+(i64.wrap (v5+1)):Int)).bind λx8=>ck (co v5 w2.length)<|(bu r3 ((0:Nat)+v5:Int)).bind λx9=>some ((i64.wrap (v6+(i64.wrap ((i64.wrap (x8-x9))*(i64.wrap (x5.y1-(max v7 x5.y0))))))),x5.y1)else some (v6,v7)):Option (Int×Int)).bind λ(v10,v11)=>some (.inl (v10,v11,(i64.wrap (v8+1))))else some (.inr v6))
def gM(a9:List aD)(w2:List Int)(r2:List au)(r3:List Int):Stp (Int×Int) Int
 |(v4,v5)=>(bif (decide (v5<((max 0 (i64.wrap ((w2.length:Nat)-1))):Int)))then(iter (gL a9 w2 r2 r3 v5) n (v4,0,0)).bind λw3=>some (.inl (w3,(i64.wrap (v5+1))))else some (.inr v4))
def iV(a0:List gI)(a1:List cB)(a2:List fD)(a3:List cu)(a4:List jd)(a5:List gU)(a6:List dn)(a7:Int)(a8:List au)(a9:List aD):Option (Int×ig):=
 ck (decide ((a9.length:Int)<=(a9.length:Nat))&&(decide (0<=(a9.length:Int))&&uy (a9.length:Nat) 32))<|ck (aE 0 ([]:List Int).length)<|(iter (gK a9) n (0,(List.replicate (a9.length:Int).toNat (au.mk 0 0 0 0)),[])).bind λ(w1,w2)=>ck (aE ((a9.length:Int).toNat) w1.length)<|(uX n w1 (λ (y1:au×au×Unit)=>iU y1.1 y1.2.1)).bind λr2=>ck (aE w2.length w2.length)<|(pF n w2).bind λr3=>(iter (gM n a9 w2 r2 r3) n (0,0)).bind λw4=>ck (aE a9.length a9.length)<|some (w4,a0,a1,a2,a3,a4,a5,a6,a7,a8,a9)
def jQ(a9:List aD):Stp (Int×Int) Int
 |(v1,v2)=>(bif decide (v2<(a9.length:Nat))then ck (co v2 a9.length)<|(bu a9 ((0:Nat)+v2:Int)).bind λx1=>(oD x1).bind λr1=>some (.inl ((i64.wrap (v1+r1)),(i64.wrap (v2+1))))else some (.inr v1))
def qz(a0:List gI)(a1:List cB)(a2:List fD)(a3:List cu)(a4:List jd)(a5:List gU)(a6:List dn)(a7:Int)(a8:List au)(a9:List aD):Option (Int×ig):=
 (iter (jQ a9) n (0,0)).bind λw1=>ck (aE a9.length a9.length)<|some (w1,a0,a1,a2,a3,a4,a5,a6,a7,a8,a9)
def kT(a0:List gI)(a1:List cB)(a2:List fD)(a3:List cu)(a4:List jd)(a5:List gU)(a6:List dn)(a7:Int)(a8:List au)(a9:List aD):Option (Int×ig):=
 ck (aE a9.length a9.length)<|(qz n a0 a1 a2 a3 a4 a5 a6 a7 a8 a9).bind λr1=>ck (aE r1.2.2.2.2.2.2.2.2.2.2.length r1.2.2.2.2.2.2.2.2.2.2.length)<|some (r1.1,r1.2.1,r1.2.2.1,r1.2.2.2.1,r1.2.2.2.2.1,r1.2.2.2.2.2.1,r1.2.2.2.2.2.2.1,r1.2.2.2.2.2.2.2.1,r1.2.2.2.2.2.2.2.2.1,r1.2.2.2.2.2.2.2.2.2.1,r1.2.2.2.2.2.2.2.2.2.2)
def iq(a9:List aD):Stp (Int×Int) Int
 |(v1,v2)=>(bif decide (v2<(a9.length:Nat))then ck (co v2 a9.length)<|(bu a9 ((0:Nat)+v2:Int)).bind λx1=>(lG x1).bind λr1=>some (.inl ((max v1 r1),(i64.wrap (v2+1))))else some (.inr v1))
def mF(a0:List gI)(a1:List cB)(a2:List fD)(a3:List cu)(a4:List jd)(a5:List gU)(a6:List dn)(a7:Int)(a8:List au)(a9:List aD):Option (Int×ig):=
 (iter (iq a9) n (0,0)).bind λw1=>ck (aE a9.length a9.length)<|some (w1,a0,a1,a2,a3,a4,a5,a6,a7,a8,a9)
def jR(a0:List gI)(a1:List cB)(a2:List fD)(a3:List cu)(a4:List jd)(a5:List gU)(a6:List dn)(a7:Int)(a8:List au)(a9:List aD):Option (Int×ig):=
 ck (aE a9.length a9.length)<|(mF n a0 a1 a2 a3 a4 a5 a6 a7 a8 a9).bind λr1=>ck (aE r1.2.2.2.2.2.2.2.2.2.2.length r1.2.2.2.2.2.2.2.2.2.2.length)<|some (r1.1,r1.2.1,r1.2.2.1,r1.2.2.2.1,r1.2.2.2.2.1,r1.2.2.2.2.2.1,r1.2.2.2.2.2.2.1,r1.2.2.2.2.2.2.2.1,r1.2.2.2.2.2.2.2.2.1,r1.2.2.2.2.2.2.2.2.2.1,r1.2.2.2.2.2.2.2.2.2.2)
def iw(a9:List aD):Stp (Int×Int) Int
 |(v1,v2)=>(bif decide (v2<(a9.length:Nat))then ck (co v2 a9.length)<|(bu a9 ((0:Nat)+v2:Int)).bind λx1=>(nJ x1).bind λr1=>some (.inl ((max v1 r1),(i64.wrap (v2+1))))else some (.inr v1))
def mG(a0:List gI)(a1:List cB)(a2:List fD)(a3:List cu)(a4:List jd)(a5:List gU)(a6:List dn)(a7:Int)(a8:List au)(a9:List aD):Option (Int×ig):=
 (iter (iw a9) n (0,0)).bind λw1=>ck (aE a9.length a9.length)<|some (w1,a0,a1,a2,a3,a4,a5,a6,a7,a8,a9)
def jS(a0:List gI)(a1:List cB)(a2:List fD)(a3:List cu)(a4:List jd)(a5:List gU)(a6:List dn)(a7:Int)(a8:List au)(a9:List aD):Option (Int×ig):=
 ck (aE a9.length a9.length)<|(mG n a0 a1 a2 a3 a4 a5 a6 a7 a8 a9).bind λr1=>ck (aE r1.2.2.2.2.2.2.2.2.2.2.length r1.2.2.2.2.2.2.2.2.2.2.length)<|some (r1.1,r1.2.1,r1.2.2.1,r1.2.2.2.1,r1.2.2.2.2.1,r1.2.2.2.2.2.1,r1.2.2.2.2.2.2.1,r1.2.2.2.2.2.2.2.1,r1.2.2.2.2.2.2.2.2.1,r1.2.2.2.2.2.2.2.2.2.1,r1.2.2.2.2.2.2.2.2.2.2)
def jT(a9:List aD):Stp (Int×Int) Int
 |(v1,v2)=>(bif decide (v2<(a9.length:Nat))then ck (co v2 a9.length)<|(bu a9 ((0:Nat)+v2:Int)).bind λx1=>(oH x1).bind λr1=>some (.inl ((i64.wrap (v1+r1)),(i64.wrap (v2+1))))else some (.inr v1))
def qC(a0:List gI)(a1:List cB)(a2:List fD)(a3:List cu)(a4:List jd)(a5:List gU)(a6:List dn)(a7:Int)(a8:List au)(a9:List aD):Option (Int×ig):=
 (iter (jT a9) n (0,0)).bind λw1=>ck (aE a9.length a9.length)<|some (w1,a0,a1,a2,a3,a4,a5,a6,a7,a8,a9)
def kU(a0:List gI)(a1:List cB)(a2:List fD)(a3:List cu)(a4:List jd)(a5:List gU)(a6:List dn)(a7:Int)(a8:List au)(a9:List aD):Option (Int×ig):=
 ck (aE a9.length a9.length)<|(qC n a0 a1 a2 a3 a4 a5 a6 a7 a8 a9).bind λr1=>ck (aE r1.2.2.2.2.2.2.2.2.2.2.length r1.2.2.2.2.2.2.2.2.2.2.length)<|some (r1.1,r1.2.1,r1.2.2.1,r1.2.2.2.1,r1.2.2.2.2.1,r1.2.2.2.2.2.1,r1.2.2.2.2.2.2.1,r1.2.2.2.2.2.2.2.1,r1.2.2.2.2.2.2.2.2.1,r1.2.2.2.2.2.2.2.2.2.1,r1.2.2.2.2.2.2.2.2.2.2)
def iQ(jz:List au)(r1:au×Bool):Stp (Int×Int) Int
 |(v1,v2)=>(bif decide (v2<jz.length)then((bu jz v2).bind λx1=>(rU r1.1 x1).bind λr2=>(bif r2.2 then(uT r2.1).bind λr3=>some (i64.wrap (v1+r3))else some v1):Option Int).bind λv3=>some (.inl (v3,(i64.wrap (v2+1))))else some (.inr v1))
def jU(a0:au)(a1:Int)(a2:List gI)(a3:List cB)(a4:List fD)(a5:List cu)(a6:List jd)(a7:List gU)(a8:List dn)(a9:Int)(jz:List au)(ta:List aD):Option (Bool×ig):=
 (AX a0 a1).bind λr1=>(bif (!r1.2)then ck (aE ta.length ta.length)<|some (false,a2,a3,a4,a5,a6,a7,a8,a9,jz,ta)else(iter (iQ jz r1) n (0,0)).bind λw1=>(uT r1.1).bind λr4=>ck (aE ta.length ta.length)<|some ((w1==r4),a2,a3,a4,a5,a6,a7,a8,a9,jz,ta))
def eH(x1:aD):Stp (Int×Int×ig) (Int×ig)
 |(v13,v14,v15,v16,v17,v18,v19,v20,v21,v22,v23,v24)=>(bif decide (v13<v14)then ck (2 !=0)<|ck (aE v24.length v24.length)<|(jU n (au.mk x1.bj x1.bz x1.be x1.bx) (i64.wrap (Int.tdiv (i64.wrap ((i64.wrap (v13+v14))+1)) 2)) v15 v16 v17 v18 v19 v20 v21 v22 v23 v24).bind λr1=>(bif r1.1 then ck (aE r1.2.2.2.2.2.2.2.2.2.2.length r1.2.2.2.2.2.2.2.2.2.2.length)<|some (.inl ((i64.wrap (Int.tdiv (i64.wrap ((i64.wrap (v13+v14))+1)) 2)),v14,r1.2.1,r1.2.2.1,r1.2.2.2.1,r1.2.2.2.2.1,r1.2.2.2.2.2.1,r1.2.2.2.2.2.2.1,r1.2.2.2.2.2.2.2.1,r1.2.2.2.2.2.2.2.2.1,r1.2.2.2.2.2.2.2.2.2.1,r1.2.2.2.2.2.2.2.2.2.2))else ck (aE r1.2.2.2.2.2.2.2.2.2.2.length r1.2.2.2.2.2.2.2.2.2.2.length)<|some (.inl (v13,(i64.wrap ((i64.wrap (Int.tdiv (i64.wrap ((i64.wrap (v13+v14))+1)) 2))-1)),r1.2.1,r1.2.2.1,r1.2.2.2.1,r1.2.2.2.2.1,r1.2.2.2.2.2.1,r1.2.2.2.2.2.2.1,r1.2.2.2.2.2.2.2.1,r1.2.2.2.2.2.2.2.2.1,r1.2.2.2.2.2.2.2.2.2.1,r1.2.2.2.2.2.2.2.2.2.2)))else ck (aE v24.length v24.length)<|some (.inr (v13,v15,v16,v17,v18,v19,v20,v21,v22,v23,v24)))
def iF(a9:List aD):Stp (Int×Int×ig) (Int×ig)
 |(v1,v2,v3,v4,v5,v6,v7,v8,v9,v10,v11,v12)=>(bif decide (v2<(a9.length:Nat))then ck (co v2 a9.length)<|(bu v12 ((0:Nat)+v2:Int)).bind λx1=>ck (aE v12.length v12.length)<|(iter (eH n x1) n (0,v1,v3,v4,v5,v6,v7,v8,v9,v10,v11,v12)).bind λ(w1,w2,w3,w4,w5,w6,w7,w8,w9,vi,vh)=>ck (aE vh.length vh.length)<|some (.inl (w1,(i64.wrap (v2+1)),w2,w3,w4,w5,w6,w7,w8,w9,vi,vh))else ck (aE v12.length v12.length)<|some (.inr (v1,v3,v4,v5,v6,v7,v8,v9,v10,v11,v12)))
def jA(a0:List gI)(a1:List cB)(a2:List fD)(a3:List cu)(a4:List jd)(a5:List gU)(a6:List dn)(a7:Int)(a8:List au)(a9:List aD):Option (Int×ig):=
 ck (aE a9.length a9.length)<|(iter (iF n a9) n (1048576,0,a0,a1,a2,a3,a4,a5,a6,a7,a8,a9)).bind λ(HC,HB,HA,Hx,w16,xc,w18,w19,w20,w21,TC)=>ck (aE TC.length TC.length)<|some (HC,HB,HA,Hx,w16,xc,w18,w19,w20,w21,TC)
def kQ(a0:aD)(a1:List gI)(a2:List cB)(a3:List fD)(a4:List cu)(a5:List jd)(a6:List gU)(a7:List dn)(a8:Int)(a9:List au)(jz:List aD):Option (Int×ig):=
 (jE n (bZ.mk a1 a2 a3 a4 a5 a6 a7 a8) a0).bind λr1=>ck (aE jz.length jz.length)<|some (r1,a1,a2,a3,a4,a5,a6,a7,a8,a9,jz)
def jV(a9:List aD):Stp (Int×Int×ig) (Int×ig)
 |(v1,v2,v3,v4,v5,v6,v7,v8,v9,v10,v11,v12)=>(bif decide (v2<(a9.length:Nat))then ck (co v2 a9.length)<|(bu v12 ((0:Nat)+v2:Int)).bind λx1=>ck (aE v12.length v12.length)<|(kQ n x1 v3 v4 v5 v6 v7 v8 v9 v10 v11 v12).bind λr1=>ck (aE r1.2.2.2.2.2.2.2.2.2.2.length r1.2.2.2.2.2.2.2.2.2.2.length)<|some (.inl ((i64.wrap (v1+r1.1)),(i64.wrap (v2+1)),r1.2.1,r1.2.2.1,r1.2.2.2.1,r1.2.2.2.2.1,r1.2.2.2.2.2.1,r1.2.2.2.2.2.2.1,r1.2.2.2.2.2.2.2.1,r1.2.2.2.2.2.2.2.2.1,r1.2.2.2.2.2.2.2.2.2.1,r1.2.2.2.2.2.2.2.2.2.2))else ck (aE v12.length v12.length)<|some (.inr (v1,v3,v4,v5,v6,v7,v8,v9,v10,v11,v12)))
def qD(a0:List gI)(a1:List cB)(a2:List fD)(a3:List cu)(a4:List jd)(a5:List gU)(a6:List dn)(a7:Int)(a8:List au)(a9:List aD):Option (Int×ig):=
 ck (aE a9.length a9.length)<|(iter (jV n a9) n (0,0,a0,a1,a2,a3,a4,a5,a6,a7,a8,a9)).bind λ(w1,w2,w3,w4,w5,w6,w7,w8,w9,vi,vh)=>ck (aE vh.length vh.length)<|some (w1,w2,w3,w4,w5,w6,w7,w8,w9,vi,vh)
def jB(a0:List gI)(a1:List cB)(a2:List fD)(a3:List cu)(a4:List jd)(a5:List gU)(a6:List dn)(a7:Int)(a8:List au)(a9:List aD):Option (Int×ig):=
 ck (aE a9.length a9.length)<|(qD n a0 a1 a2 a3 a4 a5 a6 a7 a8 a9).bind λr1=>ck (aE r1.2.2.2.2.2.2.2.2.2.2.length r1.2.2.2.2.2.2.2.2.2.2.length)<|some (r1.1,r1.2.1,r1.2.2.1,r1.2.2.2.1,r1.2.2.2.2.1,r1.2.2.2.2.2.1,r1.2.2.2.2.2.2.1,r1.2.2.2.2.2.2.2.1,r1.2.2.2.2.2.2.2.2.1,r1.2.2.2.2.2.2.2.2.2.1,r1.2.2.2.2.2.2.2.2.2.2)
def qK(r2:List aD):Stp (Int×ig) (ig)
 |(v10,v11,v12,v13,v14,v15,v16,v17,v18,v19,v20)=>(bif decide (v10<(r2.length:Nat))then(ck (co v10 r2.length)<|(bu r2 ((0:Nat)+v10:Int)).bind λx1=>((bif decide (v10<40)then(fH x1).bind λr3=>some r3 else some false)).bind λv21=>(bif v21 then ck (bL v20.length v20.length (sub ([x1]:List aD) 0 1).length 1 72)<|jq (v20++(sub ([x1]:List aD) 0 1)) λr4=>ck (aE r4.length r4.length)<|some (v11,v12,v13,v14,v15,v16,v17,v18,v19,r4)else ck (aE v20.length v20.length)<|some (v11,v12,v13,v14,v15,v16,v17,v18,v19,v20)):Option (ig)).bind λ(v22,v23,v24,v25,v26,v27,v28,v29,v30,v31)=>ck (aE v31.length v31.length)<|some (.inl ((i64.wrap (v10+1)),v22,v23,v24,v25,v26,v27,v28,v29,v30,v31))else ck (aE v20.length v20.length)<|some (.inr (v11,v12,v13,v14,v15,v16,v17,v18,v19,v20)))
def nK(a0:bZ)(a1:jK)(a2:aG):Option (List bD):=
 ((nV n a1.area).bind λr1=>(bif r1 then some (a0.defs,a0.tables,a0.zones,a0.rules,a0.caps,a0.views,a0.vl,a0.hours,a1.area)else some (a0.defs,a0.tables,a0.zones,a0.rules,a0.caps,a0.views,a0.vl,a0.hours,[])):Option ((List gI)×(List cB)×(List fD)×(List cu)×(List jd)×(List gU)×(List dn)×Int×(List au))).bind λ(v1,v2,v3,v4,v5,v6,v7,v8,v9)=>(nU n a2 0 a2.phases.length).bind λr2=>ck (aE 0 ([]:List aD).length)<|(iter (qK r2) n (0,v1,v2,v3,v4,v5,v6,v7,v8,v9,[])).bind λ(w1,w2,w3,w4,w5,w6,w7,w8,w9,vi)=>ck (aE vi.length vi.length)<|(mV n w1 w2 w3 w4 w5 w6 w7 w8 w9 vi).bind λr5=>ck (bL 0 0 (sub ([(bD.mk (⟨#[97,114,101,97]⟩) r5.1)]:List bD) 0 1).length 1 24)<|jq ((sub ([(bD.mk (⟨#[97,114,101,97]⟩) r5.1)]:List bD) 0 1)) λr6=>ck (aE r5.2.2.2.2.2.2.2.2.2.2.length r5.2.2.2.2.2.2.2.2.2.2.length)<|(iV n r5.2.1 r5.2.2.1 r5.2.2.2.1 r5.2.2.2.2.1 r5.2.2.2.2.2.1 r5.2.2.2.2.2.2.1 r5.2.2.2.2.2.2.2.1 r5.2.2.2.2.2.2.2.2.1 r5.2.2.2.2.2.2.2.2.2.1 r5.2.2.2.2.2.2.2.2.2.2).bind λr7=>ck (bL r6.length r6.length (sub ([(bD.mk (⟨#[99,111,118,101,114]⟩) r7.1)]:List bD) 0 1).length 1 24)<|jq (r6++(sub ([(bD.mk (⟨#[99,111,118,101,114]⟩) r7.1)]:List bD) 0 1)) λr8=>ck (aE r7.2.2.2.2.2.2.2.2.2.2.length r7.2.2.2.2.2.2.2.2.2.2.length)<|(kT n r7.2.1 r7.2.2.1 r7.2.2.2.1 r7.2.2.2.2.1 r7.2.2.2.2.2.1 r7.2.2.2.2.2.2.1 r7.2.2.2.2.2.2.2.1 r7.2.2.2.2.2.2.2.2.1 r7.2.2.2.2.2.2.2.2.2.1 r7.2.2.2.2.2.2.2.2.2.2).bind λr9=>ck (bL r8.length r8.length (sub ([(bD.mk (⟨#[102,108,111,111,114]⟩) r9.1)]:List bD) 0 1).length 1 24)<|jq (r8++(sub ([(bD.mk (⟨#[102,108,111,111,114]⟩) r9.1)]:List bD) 0 1)) λyz=>ck (aE r9.2.2.2.2.2.2.2.2.2.2.length r9.2.2.2.2.2.2.2.2.2.2.length)<|(jR n r9.2.1 r9.2.2.1 r9.2.2.2.1 r9.2.2.2.2.1 r9.2.2.2.2.2.1 r9.2.2.2.2.2.2.1 r9.2.2.2.2.2.2.2.1 r9.2.2.2.2.2.2.2.2.1 r9.2.2.2.2.2.2.2.2.2.1 r9.2.2.2.2.2.2.2.2.2.2).bind λtt=>ck (bL yz.length yz.length (sub ([(bD.mk (⟨#[102,108,111,111,114,115]⟩) tt.1)]:List bD) 0 1).length 1 24)<|jq (yz++(sub ([(bD.mk (⟨#[102,108,111,111,114,115]⟩) tt.1)]:List bD) 0 1)) λT4=>ck (aE tt.2.2.2.2.2.2.2.2.2.2.length tt.2.2.2.2.2.2.2.2.2.2.length)<|(jS n tt.2.1 tt.2.2.1 tt.2.2.2.1 tt.2.2.2.2.1 tt.2.2.2.2.2.1 tt.2.2.2.2.2.2.1 tt.2.2.2.2.2.2.2.1 tt.2.2.2.2.2.2.2.2.1 tt.2.2.2.2.2.2.2.2.2.1 tt.2.2.2.2.2.2.2.2.2.2).bind λtj=>ck (bL T4.length T4.length (sub ([(bD.mk (⟨#[104,101,105,103,104,116]⟩) tj.1)]:List bD) 0 1).length 1 24)<|jq (T4++(sub ([(bD.mk (⟨#[104,101,105,103,104,116]⟩) tj.1)]:List bD) 0 1)) λT3=>ck (aE tj.2.2.2.2.2.2.2.2.2.2.length tj.2.2.2.2.2.2.2.2.2.2.length)<|(kU n tj.2.1 tj.2.2.1 tj.2.2.2.1 tj.2.2.2.2.1 tj.2.2.2.2.2.1 tj.2.2.2.2.2.2.1 tj.2.2.2.2.2.2.2.1 tj.2.2.2.2.2.2.2.2.1 tj.2.2.2.2.2.2.2.2.2.1 tj.2.2.2.2.2.2.2.2.2.2).bind λth=>ck (bL T3.length T3.length (sub ([(bD.mk (⟨#[104,111,109,101,115]⟩) th.1)]:List bD) 0 1).length 1 24)<|jq (T3++(sub ([(bD.mk (⟨#[104,111,109,101,115]⟩) th.1)]:List bD) 0 1)) λr16=>ck (aE th.2.2.2.2.2.2.2.2.2.2.length th.2.2.2.2.2.2.2.2.2.2.length)<|(iV n th.2.1 th.2.2.1 th.2.2.2.1 th.2.2.2.2.1 th.2.2.2.2.2.1 th.2.2.2.2.2.2.1 th.2.2.2.2.2.2.2.1 th.2.2.2.2.2.2.2.2.1 th.2.2.2.2.2.2.2.2.2.1 th.2.2.2.2.2.2.2.2.2.2).bind λtg=>ck (bL r16.length r16.length (sub ([(bD.mk (⟨#[114,117,110,111,102,102]⟩) tg.1)]:List bD) 0 1).length 1 24)<|jq (r16++(sub ([(bD.mk (⟨#[114,117,110,111,102,102]⟩) tg.1)]:List bD) 0 1)) λT2=>ck (aE tg.2.2.2.2.2.2.2.2.2.2.length tg.2.2.2.2.2.2.2.2.2.2.length)<|(jA n tg.2.1 tg.2.2.1 tg.2.2.2.1 tg.2.2.2.2.1 tg.2.2.2.2.2.1 tg.2.2.2.2.2.2.1 tg.2.2.2.2.2.2.2.1 tg.2.2.2.2.2.2.2.2.1 tg.2.2.2.2.2.2.2.2.2.1 tg.2.2.2.2.2.2.2.2.2.2).bind λtf=>ck (bL T2.length T2.length (sub ([(bD.mk (⟨#[115,101,116,98,97,99,107]⟩) tf.1)]:List bD) 0 1).length 1 24)<|jq (T2++(sub ([(bD.mk (⟨#[115,101,116,98,97,99,107]⟩) tf.1)]:List bD) 0 1)) λT1=>ck (aE tf.2.2.2.2.2.2.2.2.2.2.length tf.2.2.2.2.2.2.2.2.2.2.length)<|(jB n tf.2.1 tf.2.2.1 tf.2.2.2.1 tf.2.2.2.2.1 tf.2.2.2.2.2.1 tf.2.2.2.2.2.2.1 tf.2.2.2.2.2.2.2.1 tf.2.2.2.2.2.2.2.2.1 tf.2.2.2.2.2.2.2.2.2.1 tf.2.2.2.2.2.2.2.2.2.2).bind λr21=>ck (bL T1.length T1.length (sub ([(bD.mk (⟨#[116,114,97,102,102,105,99]⟩) r21.1)]:List bD) 0 1).length 1 24)<|jq (T1++(sub ([(bD.mk (⟨#[116,114,97,102,102,105,99]⟩) r21.1)]:List bD) 0 1)) λHJ=>ck (aE (sub HJ 0 HJ.length).length HJ.length)<|some (sub HJ 0 HJ.length)
def yJ(a0:Int):Option (Int×Bool):=
 ((bif (a0==0)then some (a0==0)else(bif (a0==1)then some (a0==1)else(bif (a0==2)then some (a0==2)else some (a0==3))))).bind λv1=>(bif v1 then some (0,true)else((bif (a0==9)then some (a0==9)else some (a0==15))).bind λv2=>(bif v2 then some (1,true)else(bif (a0==16)then some (3,true)else(bif decide (a0>=0)then some (2,(decide (a0<17)))else some (2,false)))))
def xB(n:Nat)(rc:(bR)->(Int)->Option Int)(a0:bR)(a1:Int):Stp (Int×Int) Int
 |(v2,v3)=>(bif decide (v3<a0.args.length)then(bu a0.args v3).bind λx1=>(rc (bR.mk x1.op x1.n x1.s x1.key x1.args) (i64.wrap (a1+1))).bind λr2=>some (.inl ((max v2 r2),(i64.wrap (v3+1))))else some (.inr v2))
def Ab(rc:(bR)->(Int)->Option Int)(a0:bR)(a1:Int):Option Int:=
 (yJ a0.op).bind λr1=>((bif (!r1.2)then some true else(bif (r1.1 !=a0.args.length)then some true else some (decide (a1>=12))))).bind λv1=>(bif v1 then some 13 else(iter (xB n rc a0 a1) n (0,0)).bind λw1=>some (i64.wrap (w1+1)))
def Ep(rc:(bR)->(Int)->Option Int):b7 xx:=⟨[.d (.st SI.Expr),.d (.int .i64)],[.d (.int .i64)],λa=>rc a.1 a.2.1,none⟩
def rW(n:Nat):Nat->(bR)->(Int)->Option Int
 | 0=>λ_ _=>none
 |m+1=>Ab n (rW n m)
def Po(a0:bR)(a1:Int):Option Int:=rW n n a0 a1
def HV(a0:bR):Option Bool:=
 (Po n (bR.mk a0.op a0.n a0.s a0.key a0.args) 0).bind λr1=>some (decide (r1<=12))
def wI:Option (List ByteArray):=
 ck (aE (sub ([⟨#[97,114,101,97]⟩,⟨#[99,111,118,101,114]⟩,⟨#[102,108,111,111,114]⟩,⟨#[102,108,111,111,114,115]⟩,⟨#[104,101,105,103,104,116]⟩,⟨#[104,111,109,101,115]⟩,⟨#[114,117,110,111,102,102]⟩,⟨#[115,101,116,98,97,99,107]⟩,⟨#[116,114,97,102,102,105,99]⟩]:List ByteArray) 0 9).length 9)<|some (sub ([⟨#[97,114,101,97]⟩,⟨#[99,111,118,101,114]⟩,⟨#[102,108,111,111,114]⟩,⟨#[102,108,111,111,114,115]⟩,⟨#[104,101,105,103,104,116]⟩,⟨#[104,111,109,101,115]⟩,⟨#[114,117,110,111,102,102]⟩,⟨#[115,101,116,98,97,99,107]⟩,⟨#[116,114,97,102,102,105,99]⟩]:List ByteArray) 0 9)
mutual
def toE:bR->ET
 |⟨op,_,s,_,args⟩=>.mk op s (HY args)
def HY:List bR->List ET
 |[]=>[]
 |x::xs=>toE x::HY xs
end
def toD(d:gI):ByteArray×ET:=(d.name,.mk d.iu d.km (HY d.ek))
def lH(a0:List gI):Option ((List gI)×(List (List Int))):=ck (Nat.ble (rm (a0.map toD)) 4000000)<|some (a0,oG (a0.map toD))
def qL(a0:List Int)(a1:Int):Option (List Int):=match a0 with
 |[x]=>ck (decide (0<=a1)&&decide (a1<=1000000000000))<|some (List.replicate a1.toNat x)
 |_=>none
def RH(a0:List Int)(a1:Int):Stp Int (Unit⊕Int)
 |v1=>(bif decide (v1<a0.length)then(bu a0 v1).bind λx1=>(bif (a1==x1)then(some v1).map λa=>.inr (.inr a)else some (.inl (i64.wrap (v1+1))))else some (.inr (.inl ())))
def Er(a0:List Int)(a1:Int):Option Int:=
 dK (iter (RH a0 a1) n 0) λ()=>some (-1)
def q8(a0:List Int)(a1:Int):Option Bool:=
 (Er n a0 a1).bind λr1=>some (decide (r1>=0))
def fZ(a0:pE)(r1:List Int)(x2:Int):Stp (Int×Int×(List Int)×(List Int)) (Int×(List Int)×(List Int))
 |(v4,v5,v6,v7)=>(bif decide (v5<a0.uses.length)then((bu a0.uses v5).bind λx3=>(ck (co v5 r1.length)<|(bu v6 ((0:Nat)+v5:Int)).bind λx4=>(bif decide (x4<0)then(q8 n x3 x2).bind λr2=>some r2 else some false)).bind λv8=>(bif v8 then ck (co x2 r1.length)<|(bu v6 ((0:Nat)+x2:Int)).bind λx5=>ck (co v5 r1.length)<|(bu v6 ((0:Nat)+v5:Int)).bind λx6=>ck (bL (UN (v4.toNat) v7).length (v7.length-v4.toNat) (sub ([v5]:List Int) 0 1).length 1 8)<|jq ((UN (v4.toNat) v7)++(sub ([v5]:List Int) 0 1)) λr3=>ck (aE (0+r3.length) r3.length)<|some ((0:Nat),(v6.set ((0:Nat)+v5:Int).toNat (i64.wrap (x5+1))),r3)else ck (aE ((v4.toNat)+(v7.length-v4.toNat)) v7.length)<|some ((v4.toNat:Nat),v6,v7)):Option (Int×(List Int)×(List Int))).bind λ(v9,v10,v11)=>ck (aE ((v9.toNat)+(v11.length-v9.toNat)) v11.length)<|some (.inl ((v9.toNat:Nat),(i64.wrap (v5+1)),v10,v11))else ck (aE ((v4.toNat)+(v7.length-v4.toNat)) v7.length)<|some (.inr ((v4.toNat:Nat),v6,v7)))
def dU(a0:pE)(r1:List Int):Stp (Int×(List Int)×(List Int)) (List Int)
 |(v1,v2,v3)=>(bif (decide ((((v3.length-(v1:Int).toNat):Nat):Int)>0))then ck (co 0 (v3.length-v1.toNat))<|(bu v3 ((v1.toNat:Nat)+0:Int)).bind λx2=>ck (AL 1 ((v3.length-v1.toNat):Nat) (v3.length-v1.toNat))<|ck (aE ((v1.toNat+1)+((v3.length-v1.toNat)-1)) v3.length)<|(iter (fZ n a0 r1 x2) n (((v1.toNat+1):Nat),0,v2,v3)).bind λ(w1,w2,w3)=>ck (aE ((w1.toNat)+(w3.length-w1.toNat)) w3.length)<|some (.inl ((w1.toNat:Nat),w2,w3))else some (.inr v2))
def jW(a0:pE)(a1:Int):Option (List Int):=
 ck (aE (sub ([(-1)]:List Int) 0 1).length 1)<|(qL (sub ([(-1)]:List Int) 0 1) a0.defs.length).bind λr1=>ck (co a1 r1.length)<|(bu r1 ((0:Nat)+a1:Int)).bind λx1=>ck (aE (0+1) ([a1]:List Int).length)<|(iter (dU n a0 r1) n ((0:Nat),(r1.set ((0:Nat)+a1:Int).toNat 0),([a1]:List Int))).bind λw4=>ck (aE (sub w4 0 r1.length).length r1.length)<|some (sub w4 0 r1.length)
def cmp_isNaN_string(a0:ByteArray):Option Bool:=
 some (!(ByteArray.toList a0==ByteArray.toList a0))
def nL(a0:ByteArray)(a1:ByteArray):Option Int:=
 (cmp_isNaN_string a0).bind λr1=>(cmp_isNaN_string a1).bind λr2=>(bif r1 then(bif r2 then some 0 else some (-1))else(bif r2 then some 1 else(bif (UJ a0 a1)then some (-1)else(bif (!(UJ a0 a1 || ByteArray.toList a0==ByteArray.toList a1))then some 1 else some 0))))
def lY(a0:List ByteArray)(a1:List ByteArray):Stp Int (Unit⊕Int)
 |v1=>(bif decide (v1<a0.length)then(bu a0 v1).bind λx1=>(bif decide (v1>=a1.length)then(some 1).map λa=>.inr (.inr a)else(bu a1 v1).bind λx2=>(nL x1 x2).bind λr1=>(bif (r1 !=0)then(some r1).map λa=>.inr (.inr a)else some (.inl (i64.wrap (v1+1)))))else some (.inr (.inl ())))
def lZ(a0:List ByteArray)(a1:List ByteArray):Option Int:=
 dK (iter (lY a0 a1) n 0) λ()=>(bif decide (a0.length<(a1.length:Int))then some (-1)else some 0)
def mH(a0:Int)(a1:List Bool):Option (Bool×(List Bool)):=
 ck (co a0 a1.length)<|(bu a1 ((0:Nat)+a0:Int)).bind λx1=>ck (aE a1.length a1.length)<|some ((!x1),a1)
def jX(a0:List Int):Stp (Int×(List Bool)) ((List Bool)⊕(Int×(List Bool)))
 |(v1,v2)=>(bif decide (v1<a0.length)then(bu a0 v1).bind λx1=>ck (aE v2.length v2.length)<|(mH x1 v2).bind λr1=>(bif r1.1 then(ck (aE r1.2.length r1.2.length)<|some (v1,r1.2)).map λa=>.inr (.inr a)else ck (aE r1.2.length r1.2.length)<|some (.inl ((i64.wrap (v1+1)),r1.2)))else ck (aE v2.length v2.length)<|some (.inr (.inl v2)))
def mW(a0:List Int)(a1:List Bool):Option (Int×(List Bool)):=
 ck (aE a1.length a1.length)<|dK (iter (jX a0) n (0,a1)) λw1=>ck (aE w1.length w1.length)<|some ((-1),w1)
def iG(a0:List Int)(a1:List Bool):Option (Bool×(List Bool)):=
 ck (aE a1.length a1.length)<|(mW n a0 a1).bind λr1=>ck (aE r1.2.length r1.2.length)<|some ((decide (r1.1>=0)),r1.2)
def iW(a0:pE):Stp (Int×Int×(List Bool)) (Int×(List Bool))
 |(v4,v5,v6)=>(bif decide (v5<a0.uses.length)then((bu a0.uses v5).bind λx1=>ck (aE v6.length v6.length)<|(iG n x1 v6).bind λr1=>(ck (co v5 r1.2.length)<|(bu r1.2 ((0:Nat)+v5:Int)).bind λx2=>(bif (!x2)then(bif (!r1.1)then(bif decide (v4<0)then some true else(bu a0.defs v5).bind λx3=>(bu a0.defs v4).bind λx4=>some (UJ x3.name x4.name))else some false)else some false)).bind λv7=>(bif v7 then ck (aE r1.2.length r1.2.length)<|some (v5,r1.2)else ck (aE r1.2.length r1.2.length)<|some (v4,r1.2)):Option (Int×(List Bool))).bind λ(v8,v9)=>ck (aE v9.length v9.length)<|some (.inl (v8,(i64.wrap (v5+1)),v9))else ck (aE v6.length v6.length)<|some (.inr (v4,v6)))
def kV(a0:pE):Stp (Int×(List Int)×(List Bool)) (List Int)
 |(v1,v2,v3)=>(bif decide (v1<a0.defs.length)then ck (aE v3.length v3.length)<|(iter (iW n a0) n ((-1),0,v3)).bind λ(w1,w2)=>ck (co w1 w2.length)<|(bu w2 ((0:Nat)+w1:Int)).bind λx5=>ck (bL v2.length v2.length (sub ([w1]:List Int) 0 1).length 1 8)<|jq (v2++(sub ([w1]:List Int) 0 1)) λr2=>ck (aE r2.length r2.length)<|ck (aE w2.length (w2.set ((0:Nat)+w1:Int).toNat true).length)<|some (.inl ((i64.wrap (v1+1)),r2,(w2.set ((0:Nat)+w1:Int).toNat true)))else ck (aE v2.length v2.length)<|some (.inr v2))
def nM(a0:pE):Option (List Int):=
 ck (decide ((a0.defs.length:Int)<=a0.defs.length)&&(decide (0<=(a0.defs.length:Int))&&uy a0.defs.length 1))<|ck (aE 0 ([]:List Int).length)<|ck (aE ((a0.defs.length:Int).toNat) (List.replicate (a0.defs.length:Int).toNat false).length)<|(iter (kV n a0) n (0,[],(List.replicate (a0.defs.length:Int).toNat false))).bind λw3=>ck (aE (sub w3 0 w3.length).length w3.length)<|some (sub w3 0 w3.length)
def iR(r1:List Int)(x2:List Int):Stp (Int×Int) Int
 |(v3,v4)=>(bif decide (v4<x2.length)then((bu x2 v4).bind λx3=>(ck (co x3 r1.length)<|(bu r1 ((0:Nat)+x3:Int)).bind λx4=>(bif decide (x4>=0)then(bif decide (v3<0)then some true else ck (co x3 r1.length)<|(bu r1 ((0:Nat)+x3:Int)).bind λx5=>ck (co v3 r1.length)<|(bu r1 ((0:Nat)+v3:Int)).bind λx6=>some (decide (x5<x6)))else some false)).bind λv5=>(bif v5 then some x3 else some v3):Option Int).bind λv6=>some (.inl (v6,(i64.wrap (v4+1))))else some (.inr v3))
def lq(a0:Int)(a1:List gI)(a2:List (List Int))(r1:List Int):Stp (Int×(List ByteArray)) (Unit⊕((List gI)×(List (List Int))×(List ByteArray)))
 |(v1,v2)=>(bu a1 v1).bind λx1=>ck (bL v2.length v2.length (sub ([x1.name]:List ByteArray) 0 1).length 1 16)<|jq (v2++(sub ([x1.name]:List ByteArray) 0 1)) λr2=>(bu a2 v1).bind λx2=>(iter (iR r1 x2) n ((-1),0)).bind λw1=>(bif decide (w1<0)then(ck (aE 0 ([]:List ByteArray).length)<|some (a1,a2,[])).map λa=>.inr (.inr a)else(bif (w1==a0)then(ck (!(r2.length==0)&&aE r2.length r2.length)<|some (a1,a2,r2)).map λa=>.inr (.inr a)else ck (aE r2.length r2.length)<|some (.inl (w1,r2))))
def jY(a0:Int)(a1:List gI)(a2:List (List Int)):Option ((List gI)×(List (List Int))×(List ByteArray)):=
 (jW n (pE.mk a1 a2) a0).bind λr1=>ck (aE 0 ([]:List ByteArray).length)<|dK (iter (lq n a0 a1 a2 r1) n (a0,[])) λ()=>none
def iy(a0:List gI):Stp (Int×(List gI)×(List (List Int))×(List ByteArray)) ((List gI)×(List (List Int))×(List ByteArray))
 |(v1,v2,v3,v4)=>(bif decide (v1<a0.length)then((jY n v1 v2 v3).bind λr1=>((bif r1.2.2.length==0 then some true else some false)).bind λv5=>(bif v5 then ck (aE v4.length v4.length)<|some (r1.1,r1.2.1,v4)else((bif v4.length==0 then some true else(bif decide ((r1.2.2.length:Nat)<(v4.length:Int))then some true else(bif ((r1.2.2.length:Nat)==(v4.length:Int))then ck (aE (sub r1.2.2 0 r1.2.2.length).length r1.2.2.length)<|ck (aE (sub v4 0 v4.length).length v4.length)<|(lZ n (sub r1.2.2 0 r1.2.2.length) (sub v4 0 v4.length)).bind λr2=>some (decide (r2<0))else some false)))).bind λv6=>(bif v6 then ck (aE r1.2.2.length r1.2.2.length)<|some (r1.1,r1.2.1,r1.2.2)else ck (aE v4.length v4.length)<|some (r1.1,r1.2.1,v4))):Option ((List gI)×(List (List Int))×(List ByteArray))).bind λ(v7,v8,v9)=>ck (aE v9.length v9.length)<|some (.inl ((i64.wrap (v1+1)),v7,v8,v9))else ck (aE v4.length v4.length)<|some (.inr (v2,v3,v4)))
def je(a0:List gI)(a1:List (List Int)):Option ((List gI)×(List (List Int))×(List ByteArray)):=
 ck (aE 0 ([]:List ByteArray).length)<|(iter (iy n a0) n (0,a0,a1,[])).bind λ(w1,w2,w3)=>ck (aE w3.length w3.length)<|some (w1,w2,w3)
def nW(r1:List ByteArray):Stp (Int×(List (ByteArray×Bool))) (List (ByteArray×Bool))
 |(v1,v2)=>(bif decide (v1<(r1.length:Nat))then ck (co v1 r1.length)<|(bu r1 ((0:Nat)+v1:Int)).bind λx1=>some (.inl ((i64.wrap (v1+1)),(Fq fX x1 true v2)))else some (.inr v2))
def lI(a0:bZ):Stp (Int×(List (ByteArray×Bool))) (Unit⊕((List Int)×(List ByteArray)×Int))
 |(v3,v4)=>(bif decide (v3<a0.defs.length)then(bu a0.defs v3).bind λx2=>(bif ((gT fX x2.name v4).getD false)then(some ([],[],5)).map λa=>.inr (.inr a)else some (.inl ((i64.wrap (v3+1)),(Fq fX x2.name true v4))))else some (.inr (.inl ())))
def nN(a0:bZ):Option ((List Int)×(List ByteArray)×Int):=
 (wI).bind λr1=>(iter (nW r1) n (0,([]:(List (ByteArray×Bool))))).bind λw1=>dK (iter (lI a0) n (0,w1)) λ()=>(lH a0.defs).bind λr2=>(je n r2.1 r2.2).bind λr3=>((bif r3.2.2.length==0 then some false else some true)).bind λv5=>(bif v5 then ck (aE (sub r3.2.2 0 r3.2.2.length).length r3.2.2.length)<|some ([],(sub r3.2.2 0 r3.2.2.length),16)else(nM n (pE.mk r3.1 r3.2.1)).bind λr4=>ck (aE (sub r4 0 r4.length).length r4.length)<|some ((sub r4 0 r4.length),[],0))
def Ac(a0:cB)(a1:bR):Option Bool:=
 some (ByteArray.toList a0.name==ByteArray.toList a1.s)
def Fv(a0:List cB)(a1:(cB×Unit)->Option Bool):Stp Int (Unit⊕Int)
 |v1=>(bif decide (v1<a0.length)then(bu a0 v1).bind λx1=>(a1 (x1,())).bind λr1=>(bif r1 then(some v1).map λa=>.inr (.inr a)else some (.inl (i64.wrap (v1+1))))else some (.inr (.inl ())))
def rF(a0:List cB)(a1:(cB×Unit)->Option Bool):Option Int:=
 dK (iter (Fv a0 a1) n 0) λ()=>some (-1)
def Ad(a0:bD)(a1:bR):Option Bool:=
 some (ByteArray.toList a0.name==ByteArray.toList a1.key)
def yK(a0:Bool):Option Int:=
 (bif a0 then some 1 else some 0)
def wB(a0:Int)(a1:Int):Option Int:=
 (bif (a1==0)then some 0 else ck (a1 !=0)<|(ck (a1 !=0)<|((bif ((Int.tmod a0 a1) !=0)then some (!((decide ((Int.tmod a0 a1)<0))==(decide (a1<0))))else some false)).bind λv1=>(bif v1 then some (i64.wrap ((i64.wrap (Int.tdiv a0 a1))-1))else some (i64.wrap (Int.tdiv a0 a1))):Option Int).bind λv2=>some v2)
def Jr(a0:Int)(a1:Int)(a2:Int):Option Int:=
 (bif (a0==4)then some (i64.wrap (a1+a2))else(bif (a0==5)then some (i64.wrap (a1-a2))else(bif (a0==6)then some (i64.wrap (a1*a2))else(bif (a0==7)then(wB a1 a2).bind λr1=>some r1 else(bif (a0==8)then(bif (a2==0)then some 0 else(wB a1 a2).bind λr2=>some (i64.wrap (a1-(i64.wrap (r2*a2)))))else(bif (a0==10)then(yK (a1==a2)).bind λr3=>some r3 else(bif (a0==11)then(yK (decide (a1<a2))).bind λr4=>some r4 else(bif (a0==12)then(yK (decide (a1<=a2))).bind λr5=>some r5 else(bif (a0==13)then(bif (a1 !=0)then(yK (a2 !=0)).bind λr6=>some r6 else(yK false).bind λr7=>some r7)else(bif (a1 !=0)then(yK true).bind λr8=>some r8 else(yK (a2 !=0)).bind λr9=>some r9))))))))))
def jC(a0:List gI)(a1:List cB)(a2:List fD)(a3:List cu)(a4:List jd)(a5:List gU)(a6:List dn)(a7:Int)(a8:List ByteArray)(a9:bR)(jz:List (ByteArray×Int)):Option (Int×(List (ByteArray×Int))):=
 (rF n a1 (λ (y1:cB×Unit)=>Ac y1.1 (bR.mk a9.op a9.n a9.s a9.key a9.args))).bind λr1=>(bif decide (r1<0)then some (0,jz)else(bu a1 r1).bind λx1=>(kN n x1.rows (λ (y2:bD×Unit)=>Ad y2.1 (bR.mk a9.op a9.n a9.s a9.key a9.args))).bind λr2=>(bif decide (r2>=0)then(bu x1.rows r2).bind λx2=>some (x2.n,jz)else some (x1.sg,jz)))
def fB(n:Nat)(rc:((List gI))->((List cB))->((List fD))->((List cu))->((List jd))->((List gU))->((List dn))->(Int)->((List ByteArray))->(bR)->((List (ByteArray×Int)))->Option (Int×(List (ByteArray×Int))))(a0:List gI)(a1:List cB)(a2:List fD)(a3:List cu)(a4:List jd)(a5:List gU)(a6:List dn)(a7:Int)(a8:List ByteArray)(a9:bR):Stp (Int×(List (ByteArray×Int))×(List Int)) ((List (ByteArray×Int))×(List Int))
 |(v1,v2,v3)=>(bif decide (v1<a9.args.length)then((bu a9.args v1).bind λx1=>((bif (a9.op==16)then(bif decide (v1>0)then ck (co 0 v3.length)<|(bu v3 ((0:Nat)+0:Int)).bind λx2=>some (!((x2 !=0)==(v1==1)))else some false)else some false)).bind λv4=>(bif v4 then ck (bL v3.length v3.length (sub ([0]:List Int) 0 1).length 1 8)<|jq (v3++(sub ([0]:List Int) 0 1)) λr1=>ck (aE r1.length r1.length)<|some (v2,r1)else(rc a0 a1 a2 a3 a4 a5 a6 a7 a8 (bR.mk x1.op x1.n x1.s x1.key x1.args) v2).bind λr2=>ck (bL v3.length v3.length (sub ([r2.1]:List Int) 0 1).length 1 8)<|jq (v3++(sub ([r2.1]:List Int) 0 1)) λr3=>ck (aE r3.length r3.length)<|some (r2.2,r3)):Option ((List (ByteArray×Int))×(List Int))).bind λ(v5,v6)=>ck (aE v6.length v6.length)<|some (.inl ((i64.wrap (v1+1)),v5,v6))else ck (aE v3.length v3.length)<|some (.inr (v2,v3)))
def fI(rc:((List gI))->((List cB))->((List fD))->((List cu))->((List jd))->((List gU))->((List dn))->(Int)->((List ByteArray))->(bR)->((List (ByteArray×Int)))->Option (Int×(List (ByteArray×Int))))(a0:List gI)(a1:List cB)(a2:List fD)(a3:List cu)(a4:List jd)(a5:List gU)(a6:List dn)(a7:Int)(a8:List ByteArray)(a9:bR)(jz:List (ByteArray×Int)):Option (Int×(List (ByteArray×Int))):=
 ck (aE 0 ([]:List Int).length)<|(iter (fB n rc a0 a1 a2 a3 a4 a5 a6 a7 a8 a9) n (0,jz,[])).bind λ(w1,w2)=>(bif (a9.op==0)then some (a9.n,w1)else(bif (a9.op==1)then some (((gT fX a9.s w1).getD 0),w1)else(bif (a9.op==2)then(jC n a0 a1 a2 a3 a4 a5 a6 a7 a8 (bR.mk a9.op a9.n a9.s a9.key a9.args) w1).bind λr4=>some (r4.1,r4.2)else(bif (a9.op==3)then(fQ n a8 a9.s).bind λr5=>(yK r5).bind λr6=>some (r6,w1)else(bif (a9.op==9)then ck (co 0 w2.length)<|(bu w2 ((0:Nat)+0:Int)).bind λx3=>some ((i64.wrap (0-x3)),w1)else(bif (a9.op==15)then ck (co 0 w2.length)<|(bu w2 ((0:Nat)+0:Int)).bind λx4=>(yK (x4==0)).bind λr7=>some (r7,w1)else(bif (a9.op==16)then ck (co 0 w2.length)<|(bu w2 ((0:Nat)+0:Int)).bind λx5=>(bif (x5 !=0)then ck (co 1 w2.length)<|(bu w2 ((0:Nat)+1:Int)).bind λx6=>some (x6,w1)else ck (co 2 w2.length)<|(bu w2 ((0:Nat)+2:Int)).bind λx7=>some (x7,w1))else ck (co 0 w2.length)<|(bu w2 ((0:Nat)+0:Int)).bind λx8=>ck (co 1 w2.length)<|(bu w2 ((0:Nat)+1:Int)).bind λx9=>(Jr a9.op x8 x9).bind λr8=>some (r8,w1))))))))
def Es(rc:((List gI))->((List cB))->((List fD))->((List cu))->((List jd))->((List gU))->((List dn))->(Int)->((List ByteArray))->(bR)->((List (ByteArray×Int)))->Option (Int×(List (ByteArray×Int)))):cM xx:=⟨[(.a [(.v (.sl (.st SI.Def))),(.v (.sl (.st SI.Table))),(.v (.sl (.st SI.Zone))),(.v (.sl (.st SI.Rule))),(.v (.sl (.st SI.Cap))),(.v (.sl (.st SI.View))),(.v (.sl (.st SI.gi))),(.v (.int .i64)),(.mp 0),(.v (.sl .str))]),(.v (.st SI.Expr))],[(0,.m .str (.int .i64))],[(.v (.int .i64))],[(0,.m .str (.int .i64))],λv=>rc (v.1) (v.2.1) (v.2.2.1) (v.2.2.2.1) (v.2.2.2.2.1) (v.2.2.2.2.2.1) (v.2.2.2.2.2.2.1) (v.2.2.2.2.2.2.2.1) (v.2.2.2.2.2.2.2.2.1) (v.2.2.2.2.2.2.2.2.2.1) (v.2.2.2.2.2.2.2.2.2.2)⟩
def jZ(rc:((List gI))->((List cB))->((List fD))->((List cu))->((List jd))->((List gU))->((List dn))->(Int)->((List ByteArray))->(bR)->((List (ByteArray×Int)))->Option (Int×(List (ByteArray×Int)))):b7 xx:=⟨[],[.d .bool],λ_=>none,some (Es rc)⟩
def bQ(n:Nat):Nat->((List gI))->((List cB))->((List fD))->((List cu))->((List jd))->((List gU))->((List dn))->(Int)->((List ByteArray))->(bR)->((List (ByteArray×Int)))->Option (Int×(List (ByteArray×Int)))
 | 0=>λ_ _ _ _ _ _ _ _ _ _ _=>none
 |m+1=>fI n (bQ n m)
def gu(a0:List gI)(a1:List cB)(a2:List fD)(a3:List cu)(a4:List jd)(a5:List gU)(a6:List dn)(a7:Int)(a8:List ByteArray)(a9:bR)(jz:List (ByteArray×Int)):Option (Int×(List (ByteArray×Int))):=bQ n n a0 a1 a2 a3 a4 a5 a6 a7 a8 a9 jz
def ja(n:Nat)(a1:List bD):Stp (Int×(List (ByteArray×Int))×(List (ByteArray×Bool))) ((List (ByteArray×Int))×(List (ByteArray×Bool)))
 |(v1,v2,v3)=>(bif decide (v1<a1.length)then((bu a1 v1).bind λx1=>(bif (!((gT fX x1.name v3).getD false))then some ((Fq fX x1.name x1.n v2),(Fq fX x1.name true v3))else some (v2,v3)):Option ((List (ByteArray×Int))×(List (ByteArray×Bool)))).bind λ(v4,v5)=>some (.inl ((i64.wrap (v1+1)),v4,v5))else some (.inr (v2,v3)))
def gW(a0:bZ)(a2:List ByteArray)(w2:List (ByteArray×Bool))(r1:(List Int)×(List ByteArray)×Int):Stp (Int×(List (ByteArray×Int))×(List Int)) ((List (ByteArray×Int))×(List Int))
 |(v6,v7,v8)=>(bif decide (v6<(r1.1.length:Nat))then(ck (co v6 r1.1.length)<|(bu r1.1 ((0:Nat)+v6:Int)).bind λx2=>(bu a0.defs x2).bind λx3=>((HV n (bR.mk x3.iu x3.lw x3.km x3.ii x3.ek)).bind λr2=>(bif r2 then(gu n a0.defs a0.tables a0.zones a0.rules a0.caps a0.views a0.vl a0.hours a2 (bR.mk x3.iu x3.lw x3.km x3.ii x3.ek) v7).bind λr3=>ck (co x2 ((a0.defs.length:Int).toNat))<|(bu v8 ((0:Nat)+x2:Int)).bind λx4=>some (r3.2,(v8.set ((0:Nat)+x2:Int).toNat r3.1))else some (v7,v8)):Option ((List (ByteArray×Int))×(List Int))).bind λ(v9,v10)=>(bif (!((gT fX x3.name w2).getD false))then ck (co x2 ((a0.defs.length:Int).toNat))<|(bu v10 ((0:Nat)+x2:Int)).bind λx5=>some ((Fq fX x3.name x5 v9),v10)else some (v9,v10)):Option ((List (ByteArray×Int))×(List Int))).bind λ(v11,v12)=>some (.inl ((i64.wrap (v6+1)),v11,v12))else some (.inr (v7,v8)))
def mI(a0:bZ)(a1:List bD)(a2:List ByteArray):Option ((List gI)×(List cB)×(List fD)×(List cu)×(List jd)×(List gU)×(List dn)×Int×(List ByteArray)×(List (ByteArray×Int))×(List Int)):=
 (iter (ja n a1) n (0,([]:(List (ByteArray×Int))),([]:(List (ByteArray×Bool))))).bind λ(w1,w2)=>ck (decide ((a0.defs.length:Int)<=a0.defs.length)&&(decide (0<=(a0.defs.length:Int))&&uy a0.defs.length 8))<|(nN n a0).bind λr1=>(bif (r1.2.2 !=0)then ck (aE ((a0.defs.length:Int).toNat) (List.replicate (a0.defs.length:Int).toNat (0:Int)).length)<|some (a0.defs,a0.tables,a0.zones,a0.rules,a0.caps,a0.views,a0.vl,a0.hours,a2,w1,(List.replicate (a0.defs.length:Int).toNat 0))else(iter (gW n a0 a2 w2 r1) n (0,w1,(List.replicate (a0.defs.length:Int).toNat 0))).bind λ(w3,w4)=>ck (aE ((a0.defs.length:Int).toNat) w4.length)<|some (a0.defs,a0.tables,a0.zones,a0.rules,a0.caps,a0.views,a0.vl,a0.hours,a2,w3,w4))
def Ae(a0:bZ)(a1:List bD)(a2:List ByteArray)(a3:bR):Option Int:=
 (HV n (bR.mk a3.op a3.n a3.s a3.key a3.args)).bind λr1=>(bif (!r1)then some 0 else(mI n a0 a1 a2).bind λr2=>(gu n r2.1 r2.2.1 r2.2.2.1 r2.2.2.2.1 r2.2.2.2.2.1 r2.2.2.2.2.2.1 r2.2.2.2.2.2.2.1 r2.2.2.2.2.2.2.2.1 r2.2.2.2.2.2.2.2.2.1 (bR.mk a3.op a3.n a3.s a3.key a3.args) r2.2.2.2.2.2.2.2.2.2.1).bind λr3=>some r3.1)
def Af(a0:List au):Stp (Bool×Int×Int×Int×Int×Int) (Bool×Int×Int×Int×Int)
 |(v1,v2,v3,v4,v5,v6)=>(bif decide (v2<a0.length)then((bu a0 v2).bind λx1=>(oO x1).bind λr1=>(bif (!r1)then some (v1,v3,v4,v5,v6)else(bif (!v1)then some (true,x1.x0,x1.y0,x1.x1,x1.y1)else some (v1,(min v3 x1.x0),(min v4 x1.y0),(max v5 x1.x1),(max v6 x1.y1)))):Option (Bool×Int×Int×Int×Int)).bind λ(v7,v8,v9,v10,v11)=>some (.inl (v7,(i64.wrap (v2+1)),v8,v9,v10,v11))else some (.inr (v1,v3,v4,v5,v6)))
def MX(a0:List au):Option (au×Bool):=
 (iter (Af a0) n (false,0,0,0,0,0)).bind λ(w1,w2,w3,w4,w5)=>some ((au.mk w2 w3 w4 w5),w1)
def Js(a0:List au):Option (au×Bool):=
 ((bif ((a0.length:Int)==0)then some true else(nV n a0).bind λr1=>some (!r1))).bind λv1=>(bif v1 then some ((au.mk 0 0 0 0),false)else(MX n a0).bind λr2=>some (r2.1,r2.2))
def xC(a0:aD):Option (List gJ):=
 ck (aE (sub ([(au.mk a0.bj a0.bz a0.be a0.bx)]:List au) 0 1).length 1)<|ck (aE (sub ([(gJ.mk a0.cx a0.cz (sub ([(au.mk a0.bj a0.bz a0.be a0.bx)]:List au) 0 1))]:List gJ) 0 1).length 1)<|some (sub ([(gJ.mk a0.cx a0.cz (sub ([(au.mk a0.bj a0.bz a0.be a0.bx)]:List au) 0 1))]:List gJ) 0 1)
def Fx(a0:List dW)(a1:(dW×Unit)->Option Bool):Stp Int (Unit⊕Int)
 |v1=>(bif decide (v1<a0.length)then(bu a0 v1).bind λx1=>(a1 (x1,())).bind λr1=>(bif r1 then(some v1).map λa=>.inr (.inr a)else some (.inl (i64.wrap (v1+1))))else some (.inr (.inl ())))
def rG(a0:List dW)(a1:(dW×Unit)->Option Bool):Option Int:=
 dK (iter (Fx a0 a1) n 0) λ()=>some (-1)
def kW(a0:List dW)(a1:(dW×Unit)->Option Bool):Option Bool:=
 (rG n a0 a1).bind λr1=>some (decide (r1>=0))
def nO(a0:Int)(a1:Int)(a2:Int):Option Bool:=
 (bif decide (a1<=a0)then some (decide (a0<=a2))else some false)
def Ag(a0:dW):Option Bool:=
 (nO a0.side 0 3).bind λr1=>(bif r1 then(nO a0.base 0 4096).bind λr2=>(bif r2 then(nO a0.num 0 4096).bind λr3=>(bif r3 then(nO a0.den 1 4096).bind λr4=>some r4 else some false)else some false)else some false)
def tK(a0:dW):Option Bool:=
 (Ag a0).bind λr1=>some (!r1)
def Ah(a0:au)(a1:List dW):Option Bool:=
 (oO a0).bind λr1=>(bif r1 then(kW n a1 (λ (y1:dW×Unit)=>tK y1.1)).bind λr2=>some (!r2)else some false)
def Tz(a0:List au)(a1:List au):Option Bool:=
 (oC n a0 a1).bind λr1=>some r1
def Ai(a0:List gJ):Stp Int (Unit⊕Bool)
 |v1=>(bif decide (v1<a0.length)then dK ((bu a0 v1).bind λx1=>((bif decide (x1.z0<0)then some true else(bif decide (x1.z0>=x1.z1)then some true else(bif decide (x1.z1>4096)then some true else(bif ((x1.area.length:Int)==0)then some true else(nV n x1.area).bind λr1=>some (!r1)))))).bind λv2=>(bif v2 then((some false).map λa=>.inr (.inr a)).map .inr else(bif (v1==0)then some (.inl ())else(bu a0 (i64.wrap (v1-1))).bind λx2=>((bif decide (x2.z1>x1.z0)then some true else(bif (x2.z1==x1.z0)then(Tz n x2.area x1.area).bind λr2=>some r2 else some false))).bind λv3=>(bif v3 then((some false).map λa=>.inr (.inr a)).map .inr else some (.inl ())))):Option ((Unit)⊕_)) λ()=>some (.inl (i64.wrap (v1+1)))else some (.inr (.inl ())))
def HZ(a0:List gJ):Option Bool:=
 (bif decide ((a0.length:Int)>80)then some false else dK (iter (Ai n a0) n 0) λ()=>some true)
def wJ(a0:au)(a1:Int)(a2:Int):Option MF:=
 some (MF.mk (i64.wrap (a1-a0.x0)) (i64.wrap ((i64.wrap (a0.x1-1))-a1)) (i64.wrap (a2-a0.y0)) (i64.wrap ((i64.wrap (a0.y1-1))-a2)))
def tL(a0:Int)(a1:Int):Option Int:=
 ck (a1 !=0)<|(ck (a1 !=0)<|(bif decide ((Int.tmod a0 a1)<0)then some (i64.wrap ((i64.wrap (Int.tdiv a0 a1))-1))else some (i64.wrap (Int.tdiv a0 a1))):Option Int).bind λv1=>some v1
def xD(a0:au)(a1:List dW)(a2:Int)(a3:Int)(r1:MF):Stp (Int×Int) Int
 |(v1,v2)=>(bif decide (v2<a1.length)then(bu a1 v2).bind λx1=>ck (co x1.side 4)<|(bu ([r1.a0,r1.a1,r1.a2,r1.a3]:List Int) x1.side).bind λx2=>(tL (i64.wrap (x1.num*x2)) x1.den).bind λr2=>some (.inl ((min v1 (i64.wrap (x1.base+r2))),(i64.wrap (v2+1))))else some (.inr v1))
def Jt(a0:au)(a1:List dW)(a2:Int)(a3:Int):Option Int:=
 (wJ a0 a2 a3).bind λr1=>(iter (xD a0 a1 a2 a3 r1) n (4096,0)).bind λw1=>some w1
def nX(a0:au)(a1:List dW)(x1:au)(x2:Int):Stp (Int×Int) Int
 |(v5,v6)=>(bif decide (v6<(2:Nat))then ck (co v6 2)<|(bu ([x1.y0,(i64.wrap (x1.y1-1))]:List Int) ((0:Nat)+v6:Int)).bind λx3=>(Jt n a0 a1 x2 x3).bind λr1=>some (.inl ((min v5 r1),(i64.wrap (v6+1))))else some (.inr v5))
def nY(a0:au)(a1:List dW)(x1:au):Stp (Int×Int) Int
 |(v3,v4)=>(bif decide (v4<(2:Nat))then ck (co v4 2)<|(bu ([x1.x0,(i64.wrap (x1.x1-1))]:List Int) ((0:Nat)+v4:Int)).bind λx2=>(iter (nX n a0 a1 x1 x2) n (v3,0)).bind λw1=>some (.inl (w1,(i64.wrap (v4+1))))else some (.inr v3))
def q9(a0:au)(a1:List dW)(a2:List au):Stp (Int×Int) Int
 |(v1,v2)=>(bif decide (v2<a2.length)then(bu a2 v2).bind λx1=>(iter (nY n a0 a1 x1) n (v1,0)).bind λw2=>some (.inl (w2,(i64.wrap (v2+1))))else some (.inr v1))
def xE(a0:au)(a1:List dW)(a2:List au):Option Int:=
 (iter (q9 n a0 a1 a2) n (4096,0)).bind λw3=>some w3
def rf(a0:gJ)(a1:au)(a2:List dW):Option Bool:=
 (xE n a1 a2 a0.area).bind λr1=>some (decide (r1<a0.z1))
def l5(a0:List gJ)(a1:(gJ×Unit)->Option Bool):Stp Int (Unit⊕Int)
 |v1=>(bif decide (v1<a0.length)then(bu a0 v1).bind λx1=>(a1 (x1,())).bind λr1=>(bif r1 then(some v1).map λa=>.inr (.inr a)else some (.inl (i64.wrap (v1+1))))else some (.inr (.inl ())))
def tN(a0:List gJ)(a1:(gJ×Unit)->Option Bool):Option Int:=
 dK (iter (l5 a0 a1) n 0) λ()=>some (-1)
def jl(a0:List gJ)(a1:(gJ×Unit)->Option Bool):Option Bool:=
 (tN n a0 a1).bind λr1=>some (decide (r1>=0))
def xG(a0:au)(a1:List dW)(a2:List gJ):Option Bool:=
 ((Ah n a0 a1).bind λr1=>(bif (!r1)then some true else(HZ n a2).bind λr2=>some (!r2))).bind λv1=>(bif v1 then some false else(jl n a2 (λ (y1:gJ×Unit)=>rf n y1.1 a0 a1)).bind λr3=>some (!r3))
def j5(a0:aD)(a1:au)(a2:cu):Option Bool:=
 (xC a0).bind λr1=>ck (aE (sub ([(dW.mk a2.gR a2.gS a2.i9 a2.jj)]:List dW) 0 1).length 1)<|ck (aE (sub r1 0 r1.length).length r1.length)<|(xG n a1 (sub ([(dW.mk a2.gR a2.gS a2.i9 a2.jj)]:List dW) 0 1) (sub r1 0 r1.length)).bind λr2=>some (!r2)
def gX(a0:mE)(a1:(aD×Unit)->Option Bool):Option Bool:=
 (fU n a0.az a1).bind λr1=>some r1
def j6(a0:aD)(a1:cu):Option Bool:=
 ck (decide (0<=a0.use)&&decide (a0.use<=i64.bits))<|some ((bits .and .i64 a1.uses (i64.wrap (1*2 ^ a0.use.toNat)))==0)
def akL(a0:au)(a1:au):Option (Int×Int):=
 some ((i64.wrap ((max a0.x0 a1.x0)-(min a0.x1 a1.x1))),(i64.wrap ((max a0.y0 a1.y0)-(min a0.y1 a1.y1))))
def Sp(a0:au)(a1:au):Option Int:=
 ((oO a0).bind λr1=>(bif (!r1)then some true else(oO a1).bind λr2=>some (!r2))).bind λv1=>(bif v1 then some (-1)else(akL a0 a1).bind λr3=>some (max (max 0 r3.1) r3.2))
def dP(a0:iE)(a1:mE)(a2:aD)(a3:cu):Option Bool:=
 ((bif (a0.lot==a1.dE)then some true else(oO (au.mk a0.eh a0.ee a0.ef a0.ed)).bind λr1=>(bif (!r1)then some true else(bif decide (a0.eQ<0)then some true else some (decide (a0.eQ>=6)))))).bind λv1=>(bif v1 then some false else((bif (a2.use==a3.uses)then(bif (a0.eQ==a3.other)then some true else(bif (a2.use==a3.other)then some (a0.eQ==a3.uses)else some false))else(bif (a2.use==a3.other)then some (a0.eQ==a3.uses)else some false))).bind λv2=>(bif v2 then(Sp (au.mk a2.bj a2.bz a2.be a2.bx) (au.mk a0.eh a0.ee a0.ef a0.ed)).bind λr2=>some (decide (r2<a3.n))else some false))
def Et(a0:List iE)(a1:(iE×Unit)->Option Bool):Stp Int (Unit⊕Int)
 |v1=>(bif decide (v1<a0.length)then(bu a0 v1).bind λx1=>(a1 (x1,())).bind λr1=>(bif r1 then(some v1).map λa=>.inr (.inr a)else some (.inl (i64.wrap (v1+1))))else some (.inr (.inl ())))
def qE(a0:List iE)(a1:(iE×Unit)->Option Bool):Option Int:=
 dK (iter (Et a0 a1) n 0) λ()=>some (-1)
def kg(a0:List iE)(a1:(iE×Unit)->Option Bool):Option Bool:=
 (qE n a0 a1).bind λr1=>some (decide (r1>=0))
def rH(a0:mE)(a1:cu)(a2:aD):Option Bool:=
 (kg n a0.fy (λ (y1:iE×Unit)=>dP y1.1 a0 a2 a1)).bind λr1=>some r1
def ko(a0:aD)(a1:mE)(a2:cu):Option Bool:=
 (rH n a1 a2 a0).bind λr1=>some r1
def mX(a0:mE)(a1:cu):Option Bool:=
 (bif (a1.kind==0)then(nK n (bZ.mk a0.ff a0.ey a0.eI a0.eK a0.fg a0.eJ a0.fW a0.eM) (jK.mk a0.sL a0.m8 a0.ke a0.pc) (aG.mk a0.dE a0.ie)).bind λr1=>ck (aE (sub r1 0 r1.length).length r1.length)<|(Ae n (bZ.mk a0.ff a0.ey a0.eI a0.eK a0.fg a0.eJ a0.fW a0.eM) (sub r1 0 r1.length) a0.zones (bR.mk a1.kx a1.m5 a1.mT a1.i8 a1.fL)).bind λr2=>some (r2==0)else(bif (a1.kind==1)then(Js n a0.ke).bind λr3=>(gX n a0 (λ (y1:aD×Unit)=>j5 n y1.1 r3.1 a1)).bind λr4=>some r4 else(bif (a1.kind==2)then(gX n a0 (λ (y2:aD×Unit)=>j6 y2.1 a1)).bind λr5=>some r5 else(bif (a1.kind==3)then(gX n a0 (λ (y3:aD×Unit)=>ko n y3.1 a0 a1)).bind λr6=>some r6 else some false))))
def vG(a0:au)(a1:au):Option Bool:=
 (bif decide ((max a1.x0 a0.x0)<(min a1.x1 a0.x1))then some (decide ((max a1.y0 a0.y0)<(min a1.y1 a0.y1)))else some false)
def H6(a0:List au)(a1:(au×Unit)->Option Bool):Stp Int (Unit⊕Int)
 |v1=>(bif decide (v1<a0.length)then(bu a0 v1).bind λx1=>(a1 (x1,())).bind λr1=>(bif r1 then(some v1).map λa=>.inr (.inr a)else some (.inl (i64.wrap (v1+1))))else some (.inr (.inl ())))
def tO(a0:List au)(a1:(au×Unit)->Option Bool):Option Int:=
 dK (iter (H6 a0 a1) n 0) λ()=>some (-1)
def jm(a0:List au)(a1:(au×Unit)->Option Bool):Option Bool:=
 (tO n a0 a1).bind λr1=>some (decide (r1>=0))
def Eu(a0:au)(a1:List au):Option Bool:=
 (jm n a1 (λ (y1:au×Unit)=>vG y1.1 a0)).bind λr1=>some r1
def TA(a0:List au)(a1:List au):Option Bool:=
 (jm n a0 (λ (y1:au×Unit)=>Eu n y1.1 a1)).bind λr1=>some r1
def qM(a0:gJ)(a1:jw):Option Bool:=
 (bif decide (a0.z1>a1.top)then(TA n a0.area a1.area).bind λr1=>some r1 else some false)
def vH(a0:List jw)(a1:Int)(a2:List gJ):Stp Int (Unit⊕Bool)
 |v1=>(bif decide (v1<a0.length)then dK ((bu a0 v1).bind λx1=>((bif (x1.lot !=a1)then some true else(nV n x1.area).bind λr2=>some (!r2))).bind λv2=>(bif v2 then some (.inl ())else(jl n a2 (λ (y1:gJ×Unit)=>qM n y1.1 x1)).bind λr3=>(bif r3 then((some false).map λa=>.inr (.inr a)).map .inr else some (.inl ()))):Option ((Unit)⊕_)) λ()=>some (.inl (i64.wrap (v1+1)))else some (.inr (.inl ())))
def Ew(a0:List jw)(a1:Int)(a2:List gJ):Option Bool:=
 (HZ n a2).bind λr1=>(bif (!r1)then some false else dK (iter (vH n a0 a1 a2) n 0) λ()=>some true)
def mZ(a0:aD)(a1:fM)(a2:aG):Option Bool:=
 (xC a0).bind λr1=>ck (aE (sub r1 0 r1.length).length r1.length)<|(Ew n a1.cp a2.lot (sub r1 0 r1.length)).bind λr2=>some (!r2)
def jM(a0:ByteArray)(a1:Bool)(a2:List ByteArray):Option (List ByteArray):=
 ((bif a1 then ck (aE (sub a2 0 a2.length).length a2.length)<|(fQ n (sub a2 0 a2.length) a0).bind λr1=>some (!r1)else some false)).bind λv1=>(bif v1 then ck (bL a2.length a2.length (sub ([a0]:List ByteArray) 0 1).length 1 16)<|jq (a2++(sub ([a0]:List ByteArray) 0 1)) λr2=>ck (aE r2.length r2.length)<|some r2 else ck (aE a2.length a2.length)<|some a2)
def ng(a0:fM)(r1:mE×Int)(r2:List Int):Stp (Int×(List ByteArray)) (List ByteArray)
 |(v1,v2)=>(bif decide (v1<(r2.length:Nat))then ck (co v1 r2.length)<|(bu r2 ((0:Nat)+v1:Int)).bind λx1=>(bu a0.bm x1).bind λx2=>(bu a0.bm x1).bind λx3=>(mX n r1.1 x3).bind λr3=>ck (aE v2.length v2.length)<|(jM n x2.name r3 v2).bind λr4=>ck (aE r4.length r4.length)<|some (.inl ((i64.wrap (v1+1)),r4))else ck (aE v2.length v2.length)<|some (.inr v2))
def oF(a0:fM)(a1:aG)(a2:Int):Option ((List ByteArray)×Int):=
 (z8 n a0 a1).bind λr1=>(bif (r1.2 !=0)then some ([],r1.2)else(tJ n (bZ.mk a0.ci a0.ca a0.b9 a0.bm a0.cj a0.cg a0.cD a0.ch) r1.1.zones a2).bind λr2=>ck (aE 0 ([]:List ByteArray).length)<|(iter (ng n a0 r1 r2) n (0,[])).bind λw1=>(gX n r1.1 (λ (y1:aD×Unit)=>mZ n y1.1 a0 a1)).bind λr5=>ck (aE w1.length w1.length)<|(jM n (⟨#[101,97,115,101,109,101,110,116]⟩) r5 w1).bind λr6=>ck (aE (sub r6 0 r6.length).length r6.length)<|some ((sub r6 0 r6.length),0))
def MZ(a0:aG):Stp (Int×(List aD)) (List aD)
 |(v1,v2)=>(bif decide (v1<a0.phases.length)then(bu a0.phases v1).bind λx1=>ck (bL v2.length v2.length x1.az.length x1.az.length 72)<|jq (v2++x1.az) λr1=>ck (aE r1.length r1.length)<|some (.inl ((i64.wrap (v1+1)),r1))else ck (aE v2.length v2.length)<|some (.inr v2))
def ni(a0:aG):Option (List aD):=
 ck (aE 0 ([]:List aD).length)<|(iter (MZ a0) n (0,[])).bind λw1=>ck (aE (sub w1 0 w1.length).length w1.length)<|some (sub w1 0 w1.length)
def mJ(a0:aD):Option Int:=
 (fH a0).bind λr1=>(bif (!r1)then some 0 else ck (3 !=0)<|some (i64.wrap (Int.tdiv (i64.wrap ((i64.wrap ((i64.wrap (a0.cz-a0.cx))+3))-1)) 3)))
def pJ(a0:List aD):Stp (Int×Int) (Unit⊕Bool)
 |(v1,v2)=>(bif decide (v2<a0.length)then(bu a0 v2).bind λx1=>(mJ x1).bind λr1=>(bif (decide ((i64.wrap (v1*(i64.wrap (r1+1))))>2001))then(some true).map λa=>.inr (.inr a)else some (.inl ((i64.wrap (v1*(i64.wrap (r1+1)))),(i64.wrap (v2+1)))))else some (.inr (.inl ())))
def Aj(a0:List aD):Option Bool:=
 dK (iter (pJ a0) n (1,0)) λ()=>some false
def yL(a0:List bD):Option (List bD):=
 (bif a0.isEmpty then(both (some []) (ck (bL ([]:List bD).length 0 a0.length a0.length 24)<|jq ([]++a0) λr1=>ck (aE (sub r1 0 r1.length).length r1.length)<|some (sub r1 0 r1.length)))else ck (bL ([]:List bD).length 0 a0.length a0.length 24)<|jq ([]++a0) λr2=>ck (aE (sub r2 0 r2.length).length r2.length)<|some (sub r2 0 r2.length))
def kH(a1:List Int)(x1:fA):Stp (Int×Int×Int×(List bD)×(List aD)) ((Int×Int×(List bD)×(List aD))⊕((Int×Int×Int×Int×(List fA))⊕((Int×Int×(List fA))⊕(aG×Int×Int))))
 |(v7,v8,v9,v10,v11)=>(bif decide (v9<x1.az.length)then dK ((bu x1.az v9).bind λx2=>(mJ x2).bind λr4=>(bu a1 v8).bind λx3=>((bif decide (x3<0)then some true else some (decide (x3>r4)))).bind λv12=>(bif v12 then(((some ((aG.mk 0 ([])),(0:Int),(1:Int))).map λa=>.inr (.inr a)).map λa=>.inr (.inr a)).map .inr else(uT (au.mk x2.bj x2.bz x2.be x2.bx)).bind λr5=>((bif decide (x3>0)then some (x2.bj,x2.bz,x2.be,x2.bx,x2.cx,(i64.wrap (x2.cx+(i64.wrap (3*(i64.wrap (r4-x3)))))),x2.use,x2.units,x2.extra)else some (x2.bj,x2.bz,x2.be,x2.bx,x2.cx,x2.cz,x2.use,x2.units,x2.extra)):Option (Int×Int×Int×Int×Int×Int×Int×Int×Bool)).bind λ(v13,v14,v15,v16,v17,v18,v19,v20,v21)=>(bif decide (x3<r4)then ck (bL v11.length v11.length (sub ([(aD.mk v13 v14 v15 v16 v17 v18 v19 v20 v21)]:List aD) 0 1).length 1 72)<|jq (v11++(sub ([(aD.mk v13 v14 v15 v16 v17 v18 v19 v20 v21)]:List aD) 0 1)) λr6=>ck (aE r6.length r6.length)<|ck (aE v10.length v10.length)<|some (.inl ((i64.wrap (v7+(i64.wrap (x3*r5)))),(i64.wrap (v8+1)),v10,r6))else ck (aE v11.length v11.length)<|ck (aE v10.length v10.length)<|some (.inl ((i64.wrap (v7+(i64.wrap (x3*r5)))),(i64.wrap (v8+1)),v10,v11)))):Option ((Int×Int×(List bD)×(List aD))⊕_)) λ(v22,v23,v24,v25)=>ck (aE v25.length v25.length)<|ck (aE v24.length v24.length)<|some (.inl (v22,v23,(i64.wrap (v9+1)),v24,v25))else ck (aE v11.length v11.length)<|ck (aE v10.length v10.length)<|some (.inr (.inl (v7,v8,v10,v11))))
def kI(a0:aG)(a1:List Int):Stp (Int×Int×Int×Int×(List fA)) ((Int×Int×(List fA))⊕(aG×Int×Int))
 |(v2,v3,v4,v5,v6)=>(bif decide (v4<a0.phases.length)then(bu a0.phases v4).bind λx1=>(yL x1.gives).bind λr3=>ck (aE 0 ([]:List aD).length)<|ck (aE r3.length r3.length)<|dK (iter (kH a1 x1) n (v2,v3,0,r3,[])) λ(w1,w2,w3,w4)=>ck (aE (sub w4 0 w4.length).length w4.length)<|ck (aE (sub w3 0 w3.length).length w3.length)<|ck (bL v6.length v6.length (sub ([(fA.mk (sub w4 0 w4.length) (sub w3 0 w3.length))]:List fA) 0 1).length 1 48)<|jq (v6++(sub ([(fA.mk (sub w4 0 w4.length) (sub w3 0 w3.length))]:List fA) 0 1)) λr7=>ck (aE r7.length r7.length)<|some (.inl (w1,w2,(i64.wrap (v4+1)),v5,r7))else ck (aE v6.length v6.length)<|some (.inr (.inl (v2,v5,v6))))
def eU(a0:aG)(a1:List Int):Option (aG×Int×Int):=
 (ni n a0).bind λr1=>((lN n a0).bind λr2=>(bif (!r2)then some true else some (a1.length !=(r1.length:Int)))).bind λv1=>(bif v1 then some ((aG.mk 0 ([])),0,1)else ck (aE 0 ([]:List fA).length)<|dK (iter (kI n a0 a1) n (0,0,0,a0.lot,[])) λ(w5,w6,w7)=>ck (aE (sub w7 0 w7.length).length w7.length)<|(ni n (aG.mk w6 (sub w7 0 w7.length))).bind λr8=>(bif ((r8.length:Int)==0)then some ((aG.mk 0 ([])),0,1)else ck (aE (sub w7 0 w7.length).length w7.length)<|some ((aG.mk w6 (sub w7 0 w7.length)),w5,0)))
def dw(a0:List aC)(a1:Int)(a3:(aC×aC×Unit)->Option Int):Stp (Int×(List aC)) (List aC)
 |(v3,v4)=>((bif decide (v3>(a1:Int))then ck (co v3 a0.length)<|(bu v4 ((0:Nat)+v3:Int)).bind λx1=>ck (co (i64.wrap (v3-1)) a0.length)<|(bu v4 ((0:Nat)+(i64.wrap (v3-1)):Int)).bind λx2=>(a3 (x1,x2,())).bind λr1=>some (decide (r1<0))else some false)).bind λv5=>(bif v5 then ck (co (i64.wrap (v3-1)) a0.length)<|(bu v4 ((0:Nat)+(i64.wrap (v3-1)):Int)).bind λx3=>ck (co v3 a0.length)<|(bu v4 ((0:Nat)+v3:Int)).bind λx4=>ck (co v3 a0.length)<|(bu v4 ((0:Nat)+v3:Int)).bind λx5=>ck (co (i64.wrap (v3-1)) a0.length)<|(bu (v4.set ((0:Nat)+v3:Int).toNat x3) ((0:Nat)+(i64.wrap (v3-1)):Int)).bind λx6=>some (.inl ((i64.wrap (v3-1)),((v4.set ((0:Nat)+v3:Int).toNat x3).set ((0:Nat)+(i64.wrap (v3-1)):Int).toNat x4)))else some (.inr v4))
def dx(a0:List aC)(a1:Int)(a2:Int)(a3:(aC×aC×Unit)->Option Int):Stp (Int×(List aC)) (List aC)
 |(v1,v2)=>(bif decide (v1<(a2:Int))then(iter (dw a0 a1 a3) n (v1,v2)).bind λw1=>some (.inl ((i64.wrap (v1+1)),w1))else some (.inr v2))
def dm(a0:List aC)(a1:Int)(a2:Int)(a3:(aC×aC×Unit)->Option Int):Option (List aC):=
 (iter (dx n a0 a1 a2 a3) n ((i64.wrap (a1+1)),a0)).bind λw2=>some w2
def fe(a0:List aC)(a1:Int)(a2:Int)(a3:Int):Stp (Int×(List aC)) (List aC)
 |(v1,v2)=>(bif decide (v1<a3)then ck (co (i64.wrap (a2+v1)) a0.length)<|(bu v2 ((0:Nat)+(i64.wrap (a2+v1)):Int)).bind λx1=>ck (co (i64.wrap (a1+v1)) a0.length)<|(bu v2 ((0:Nat)+(i64.wrap (a1+v1)):Int)).bind λx2=>ck (co (i64.wrap (a1+v1)) a0.length)<|(bu v2 ((0:Nat)+(i64.wrap (a1+v1)):Int)).bind λx3=>ck (co (i64.wrap (a2+v1)) a0.length)<|(bu (v2.set ((0:Nat)+(i64.wrap (a1+v1)):Int).toNat x1) ((0:Nat)+(i64.wrap (a2+v1)):Int)).bind λx4=>some (.inl ((i64.wrap (v1+1)),((v2.set ((0:Nat)+(i64.wrap (a1+v1)):Int).toNat x1).set ((0:Nat)+(i64.wrap (a2+v1)):Int).toNat x2)))else some (.inr v2))
def dN(a0:List aC)(a1:Int)(a2:Int)(a3:Int)(a4:(aC×aC×Unit)->Option Int):Option (List aC):=
 (iter (fe a0 a1 a2 a3) n (0,a0)).bind λw1=>some w1
def dO(a0:List aC)(a2:Int)(a4:(aC×aC×Unit)->Option Int):Stp (Int×Int×(List aC)) (Int×(List aC))
 |(v1,v2,v3)=>(bif (v1 !=v2)then(bif decide (v1>v2)then ck (aE a0.length v3.length)<|(dN n v3 (i64.wrap (a2-v1)) a2 v2 a4).bind λr1=>some (.inl ((i64.wrap (v1-v2)),v2,r1))else ck (aE a0.length v3.length)<|(dN n v3 (i64.wrap (a2-v1)) (i64.wrap ((i64.wrap (a2+v2))-v1)) v1 a4).bind λr2=>some (.inl (v1,(i64.wrap (v2-v1)),r2)))else some (.inr (v1,v3)))
def gY(a0:List aC)(a1:Int)(a2:Int)(a3:Int)(a4:(aC×aC×Unit)->Option Int):Option (List aC):=
 (iter (dO n a0 a2 a4) n ((i64.wrap (a2-a1)),(i64.wrap (a3-a2)),a0)).bind λ(w1,w2)=>ck (aE a0.length w2.length)<|(dN n w2 (i64.wrap (a2-w1)) a2 w1 a4).bind λr3=>some r3
def gP(a0:List aC)(a1:Int)(a4:(aC×aC×Unit)->Option Int):Stp (Int×Int) Int
 |(v1,v2)=>(bif decide (v1<v2)then ck (decide (0<=1)&&decide (1<=IntKind.u64.bits))<|ck (co (i64.wrap ((IntKind.u64.wrap (i64.wrap (v1+v2)))/2 ^ (1:Int).toNat)) a0.length)<|(bu a0 ((0:Nat)+(i64.wrap ((IntKind.u64.wrap (i64.wrap (v1+v2)))/2 ^ (1:Int).toNat)):Int)).bind λx1=>ck (co a1 a0.length)<|(bu a0 ((0:Nat)+a1:Int)).bind λx2=>(a4 (x1,x2,())).bind λr1=>(bif decide (r1<0)then some (.inl ((i64.wrap ((i64.wrap ((IntKind.u64.wrap (i64.wrap (v1+v2)))/2 ^ (1:Int).toNat))+1)),v2))else some (.inl (v1,(i64.wrap ((IntKind.u64.wrap (i64.wrap (v1+v2)))/2 ^ (1:Int).toNat)))))else some (.inr v1))
def fE(a0:List aC)(w1:Int):Stp (Int×(List aC)) (List aC)
 |(v3,v4)=>(bif decide (v3<(i64.wrap (w1-1)))then ck (co (i64.wrap (v3+1)) a0.length)<|(bu v4 ((0:Nat)+(i64.wrap (v3+1)):Int)).bind λx3=>ck (co v3 a0.length)<|(bu v4 ((0:Nat)+v3:Int)).bind λx4=>ck (co v3 a0.length)<|(bu v4 ((0:Nat)+v3:Int)).bind λx5=>ck (co (i64.wrap (v3+1)) a0.length)<|(bu (v4.set ((0:Nat)+v3:Int).toNat x3) ((0:Nat)+(i64.wrap (v3+1)):Int)).bind λx6=>some (.inl ((i64.wrap (v3+1)),((v4.set ((0:Nat)+v3:Int).toNat x3).set ((0:Nat)+(i64.wrap (v3+1)):Int).toNat x4)))else some (.inr v4))
def gQ(a0:List aC)(a2:Int)(a4:(aC×aC×Unit)->Option Int):Stp (Int×Int) Int
 |(v5,v6)=>(bif decide (v5<v6)then ck (decide (0<=1)&&decide (1<=IntKind.u64.bits))<|ck (co a2 a0.length)<|(bu a0 ((0:Nat)+a2:Int)).bind λx7=>ck (co (i64.wrap ((IntKind.u64.wrap (i64.wrap (v5+v6)))/2 ^ (1:Int).toNat)) a0.length)<|(bu a0 ((0:Nat)+(i64.wrap ((IntKind.u64.wrap (i64.wrap (v5+v6)))/2 ^ (1:Int).toNat)):Int)).bind λx8=>(a4 (x7,x8,())).bind λr2=>(bif (!(decide (r2<0)))then some (.inl ((i64.wrap ((i64.wrap ((IntKind.u64.wrap (i64.wrap (v5+v6)))/2 ^ (1:Int).toNat))+1)),v6))else some (.inl (v5,(i64.wrap ((IntKind.u64.wrap (i64.wrap (v5+v6)))/2 ^ (1:Int).toNat)))))else some (.inr v5))
def fF(a0:List aC)(w3:Int):Stp (Int×(List aC)) (List aC)
 |(v7,v8)=>(bif decide (v7>w3)then ck (co (i64.wrap (v7-1)) a0.length)<|(bu v8 ((0:Nat)+(i64.wrap (v7-1)):Int)).bind λx9=>ck (co v7 a0.length)<|(bu v8 ((0:Nat)+v7:Int)).bind λx10=>ck (co v7 a0.length)<|(bu v8 ((0:Nat)+v7:Int)).bind λx11=>ck (co (i64.wrap (v7-1)) a0.length)<|(bu (v8.set ((0:Nat)+v7:Int).toNat x9) ((0:Nat)+(i64.wrap (v7-1)):Int)).bind λx12=>some (.inl ((i64.wrap (v7-1)),((v8.set ((0:Nat)+v7:Int).toNat x9).set ((0:Nat)+(i64.wrap (v7-1)):Int).toNat x10)))else some (.inr v8))
def fG(a0:List aC)(a1:Int)(a2:Int)(a3:Int)(a4:(aC×aC×Unit)->Option Int):Stp (Int×Int) Int
 |(v11,v12)=>(bif decide (v11<v12)then ck (decide (0<=1)&&decide (1<=IntKind.u64.bits))<|ck (co (i64.wrap ((i64.wrap ((i64.wrap ((i64.wrap ((IntKind.u64.wrap (i64.wrap (a1+a3)))/2 ^ (1:Int).toNat))+a2))-1))-(i64.wrap ((IntKind.u64.wrap (i64.wrap (v11+v12)))/2 ^ (1:Int).toNat)))) a0.length)<|(bu a0 ((0:Nat)+(i64.wrap ((i64.wrap ((i64.wrap ((i64.wrap ((IntKind.u64.wrap (i64.wrap (a1+a3)))/2 ^ (1:Int).toNat))+a2))-1))-(i64.wrap ((IntKind.u64.wrap (i64.wrap (v11+v12)))/2 ^ (1:Int).toNat)))):Int)).bind λx13=>ck (co (i64.wrap ((IntKind.u64.wrap (i64.wrap (v11+v12)))/2 ^ (1:Int).toNat)) a0.length)<|(bu a0 ((0:Nat)+(i64.wrap ((IntKind.u64.wrap (i64.wrap (v11+v12)))/2 ^ (1:Int).toNat)):Int)).bind λx14=>(a4 (x13,x14,())).bind λr3=>(bif (!(decide (r3<0)))then some (.inl ((i64.wrap ((i64.wrap ((IntKind.u64.wrap (i64.wrap (v11+v12)))/2 ^ (1:Int).toNat))+1)),v12))else some (.inl (v11,(i64.wrap ((IntKind.u64.wrap (i64.wrap (v11+v12)))/2 ^ (1:Int).toNat)))))else some (.inr v11))
def dh(rc:((List aC))->(Int)->(Int)->(Int)->((aC×aC×Unit)->Option Int)->Option (List aC))(a0:List aC)(a1:Int)(a2:Int)(a3:Int)(a4:(aC×aC×Unit)->Option Int):Option (List aC):=
 (bif ((i64.wrap (a2-a1))==1)then(iter (gP a0 a1 a4) n (a2,a3)).bind λw1=>(iter (fE a0 w1) n (a1,a0)).bind λw2=>some w2 else(bif ((i64.wrap (a3-a2))==1)then(iter (gQ a0 a2 a4) n (a1,a2)).bind λw3=>(iter (fF a0 w3) n (a2,a0)).bind λw4=>some w4 else ck (decide (0<=1)&&decide (1<=IntKind.u64.bits))<|((bif (decide (a2>((i64.wrap ((IntKind.u64.wrap (i64.wrap (a1+a3)))/2 ^ (1:Int).toNat)):Int)))then some ((i64.wrap ((i64.wrap ((i64.wrap ((IntKind.u64.wrap (i64.wrap (a1+a3)))/2 ^ (1:Int).toNat))+a2))-a3)),(i64.wrap ((IntKind.u64.wrap (i64.wrap (a1+a3)))/2 ^ (1:Int).toNat)))else some (a1,a2)):Option (Int×Int)).bind λ(v9,v10)=>(iter (fG a0 a1 a2 a3 a4) n (v9,v10)).bind λw5=>(((bif decide (w5<a2)then some (decide (a2<((i64.wrap ((i64.wrap ((i64.wrap ((IntKind.u64.wrap (i64.wrap (a1+a3)))/2 ^ (1:Int).toNat))+a2))-w5)):Int)))else some false)).bind λv13=>(bif v13 then ck (aE a0.length a0.length)<|(gY n a0 w5 a2 (i64.wrap ((i64.wrap ((i64.wrap ((IntKind.u64.wrap (i64.wrap (a1+a3)))/2 ^ (1:Int).toNat))+a2))-w5)) a4).bind λr4=>some r4 else some a0):Option ((List aC))).bind λv14=>(((bif decide (a1<w5)then some (decide (w5<((i64.wrap ((IntKind.u64.wrap (i64.wrap (a1+a3)))/2 ^ (1:Int).toNat)):Int)))else some false)).bind λv15=>(bif v15 then ck (aE a0.length v14.length)<|(rc v14 a1 w5 (i64.wrap ((IntKind.u64.wrap (i64.wrap (a1+a3)))/2 ^ (1:Int).toNat)) a4).bind λr5=>some r5 else some v14):Option ((List aC))).bind λv16=>((bif (decide ((i64.wrap ((IntKind.u64.wrap (i64.wrap (a1+a3)))/2 ^ (1:Int).toNat))<((i64.wrap ((i64.wrap ((i64.wrap ((IntKind.u64.wrap (i64.wrap (a1+a3)))/2 ^ (1:Int).toNat))+a2))-w5)):Int)))then some (decide ((i64.wrap ((i64.wrap ((i64.wrap ((IntKind.u64.wrap (i64.wrap (a1+a3)))/2 ^ (1:Int).toNat))+a2))-w5))<a3))else some false)).bind λv17=>(bif v17 then ck (aE a0.length v16.length)<|(rc v16 (i64.wrap ((IntKind.u64.wrap (i64.wrap (a1+a3)))/2 ^ (1:Int).toNat)) (i64.wrap ((i64.wrap ((i64.wrap ((IntKind.u64.wrap (i64.wrap (a1+a3)))/2 ^ (1:Int).toNat))+a2))-w5)) a3 a4).bind λr6=>some r6 else some v16)))
def jF(rc:((List aC))->(Int)->(Int)->(Int)->((aC×aC×Unit)->Option Int)->Option (List aC)):b7 xx:=⟨[.mut (.st SI.Change),.d (.int .i64),.d (.int .i64),.d (.int .i64),.du [(.st SI.Change),(.st SI.Change)] (.int .i64)],[.mu (.st SI.Change)],λa=>rc a.1 a.2.1 a.2.2.1 a.2.2.2.1 a.2.2.2.2.1,none⟩
def bU(n:Nat):Nat->((List aC))->(Int)->(Int)->(Int)->((aC×aC×Unit)->Option Int)->Option (List aC)
 | 0=>λ_ _ _ _ _=>none
 |m+1=>dh n (bU n m)
def fw(a0:List aC)(a1:Int)(a2:Int)(a3:Int)(a4:(aC×aC×Unit)->Option Int):Option (List aC):=bU n n a0 a1 a2 a3 a4
def dG(a0:List aC)(a1:Int)(a2:(aC×aC×Unit)->Option Int):Stp (Int×Int×(List aC)) (Int×(List aC))
 |(v1,v2,v3)=>(bif decide (v2<=a1)then ck (aE a0.length v3.length)<|(dm n v3 v1 v2 a2).bind λr1=>some (.inl (v2,(i64.wrap (v2+20)),r1))else some (.inr (v1,v3)))
def dH(a0:List aC)(a1:Int)(a2:(aC×aC×Unit)->Option Int)(v4:Int):Stp (Int×Int×(List aC)) (Int×(List aC))
 |(v6,v7,v8)=>(bif decide (v7<=a1)then ck (aE a0.length v8.length)<|(fw n v8 v6 (i64.wrap (v6+v4)) v7 a2).bind λr3=>some (.inl (v7,(i64.wrap (v7+(i64.wrap (2*v4)))),r3))else some (.inr (v6,v8)))
def fT(a0:List aC)(a1:Int)(a2:(aC×aC×Unit)->Option Int):Stp (Int×(List aC)) (List aC)
 |(v4,v5)=>(bif decide (v4<a1)then(iter (dH n a0 a1 a2 v4) n (0,(i64.wrap (2*v4)),v5)).bind λ(w3,w4)=>((bif decide ((i64.wrap (w3+v4))<a1)then ck (aE a0.length w4.length)<|(fw n w4 w3 (i64.wrap (w3+v4)) a1 a2).bind λr4=>some r4 else some w4):Option ((List aC))).bind λv9=>some (.inl ((i64.wrap (v4*2)),v9))else some (.inr v5))
def nk(a0:List aC)(a1:Int)(a2:(aC×aC×Unit)->Option Int):Option (List aC):=
 (iter (dG n a0 a1 a2) n (0,20,a0)).bind λ(w1,w2)=>ck (aE a0.length w2.length)<|(dm n w2 w1 a1 a2).bind λr2=>(iter (fT n a0 a1 a2) n (20,r2)).bind λw5=>some w5
def jf(a0:List aC)(a1:(aC×aC×Unit)->Option Int):Option (List aC):=
 ck (aE a0.length a0.length)<|(nk n a0 (a0.length:Nat) a1).bind λr1=>some r1
def nZ(a0:aC)(a1:aC):Option Int:=
 (cmp_Compare_int a0.cost a1.cost).bind λr1=>some r1
def kz(a0:fM)(a1:aG)(a2:Int):Option Bool:=
 (oF n a0 a1 a2).bind λr1=>(bif (r1.2==0)then some ((r1.1.length:Int)==0)else some false)
def oU(a0:List aD):Option (List aD):=
 some a0
def dX(x:(List aD))(l:(List Int)):Stp (Int×(List Int)) (Int×(List Int))
 |(v1,v2)=>((bif decide (v1>=0)then ck (co v1 l.length)<|(bu v2 ((0:Nat)+v1:Int)).bind λx1=>(bu x v1).bind λx2=>(mJ x2).bind λr1=>some (x1==(r1:Int))else some false)).bind λv3=>(bif v3 then ck (co v1 l.length)<|(bu v2 ((0:Nat)+v1:Int)).bind λx3=>some (.inl ((i64.wrap (v1-1)),(v2.set ((0:Nat)+v1:Int).toNat 0)))else some (.inr (v1,v2)))
def oI(x:List aD):Option (List Int):=
 ck (decide ((x.length:Int)<=(x.length:Int))&&(decide (0<=(x.length:Int))&&uy (x.length:Int) 8))<|ck (aE ((x.length:Int).toNat) (List.replicate (x.length:Int).toNat (0:Int)).length)<|some (List.replicate (x.length:Int).toNat (0:Int))
def kX(x:List aD)(l:List Int):Option (List Int⊕Unit):=
 (iter (dX x l) n ((i64.wrap ((l.length:Int)-1)),l)).bind λ(w1,w2)=>(bif decide (w1<0)then some (.inr ())else ck (co w1 l.length)<|(bu w2 ((0:Nat)+w1:Int)).bind λx4=>ck (co w1 l.length)<|(bu w2 ((0:Nat)+w1:Int)).bind λx5=>ck (aE l.length (w2.set ((0:Nat)+w1:Int).toNat (i64.wrap (x4+1))).length)<|some (.inl (w2.set ((0:Nat)+w1:Int).toNat (i64.wrap (x4+1)))))
def jN(x:List aD):Option (List (List Int)):=Pl (sV) (oI) (kX n) n x
def nP:((List gI)×(List cB)×(List fD)×(List cu)×(List jd)×(List gU)×(List dn)×Int×(List jK)×(List jw)×(List zX)×(List iE)×(List bD)×Int×(List fA)×Int×(List aC))->List Int->Option ((List gI)×(List cB)×(List fD)×(List cu)×(List jd)×(List gU)×(List dn)×Int×(List jK)×(List jw)×(List zX)×(List iE)×(List bD)×Int×(List fA)×Int×(List aC))
 |(v1,v2,v3,v4,v5,v6,v7,v8,v9,v10,v11,v12,v13,v14,v15,v16,v17),yx=>(eU n (aG.mk v14 v15) yx).bind λr6=>(bif (r6.2.2==0)then ck (bL v17.length v17.length (sub ([(aC.mk yx r6.2.1)]:List aC) 0 1).length 1 32)<|jq (v17++(sub ([(aC.mk yx r6.2.1)]:List aC) 0 1)) λr7=>ck (aE r7.length r7.length)<|some (v1,v2,v3,v4,v5,v6,v7,v8,v9,v10,v11,v12,v13,v14,v15,v16,r7)else ck (aE v17.length v17.length)<|some (v1,v2,v3,v4,v5,v6,v7,v8,v9,v10,v11,v12,v13,v14,v15,v16,v17))
def kR(a2:Int)(w1:List gI)(w2:List cB)(w3:List fD)(w4:List cu)(w5:List jd)(w6:List gU)(w7:List dn)(w8:Int)(w9:List jK)(vi:List jw)(vh:List zX)(HC:List iE)(HB:List bD)(HA:Int)(Hx:List fA)(xc:List aC)(r8:List aC):Stp Int (Unit⊕((List Int)×Int×Int))
 |v18=>(bif decide (v18<(xc.length:Int))then ck (co v18 xc.length)<|(bu r8 ((0:Nat)+v18:Int)).bind λx1=>(eU n (aG.mk HA Hx) x1.floors).bind λr9=>(kz n (fM.mk w1 w2 w3 w4 w5 w6 w7 w8 w9 vi vh HC HB) r9.1 a2).bind λyz=>(bif yz then(some (x1.floors,x1.cost,(0:Int))).map λa=>.inr (.inr a)else some (.inl (i64.wrap (v18+1))))else some (.inr (.inl ())))
def iO(a0:fM)(a1:aG)(a2:Int):Option ((List Int)×Int×Int):=
 (oF n a0 a1 a2).bind λr1=>(bif (r1.2 !=0)then some (([]:(List Int)),(0:Int),r1.2)else(ni n a1).bind λr2=>ck (aE (sub r2 0 r2.length).length r2.length)<|(Aj n (sub r2 0 r2.length)).bind λr3=>(bif r3 then some (([]:(List Int)),(0:Int),(6:Int))else(ni n a1).bind λr4=>ck (aE (sub r4 0 r4.length).length r4.length)<|(oU (sub r4 0 r4.length)).bind λr5=>ck (aE 0 ([]:List aC).length)<|(jN n r5).bind λys=>(Q6 (nP n) ys (a0.ci,a0.ca,a0.b9,a0.bm,a0.cj,a0.cg,a0.cD,a0.ch,a0.land,a0.cp,a0.windows,a0.built,a0.base,a1.lot,a1.phases,(0:Int),([]:List aC))).bind λ(ww:(List gI)×(List cB)×(List fD)×(List cu)×(List jd)×(List gU)×(List dn)×Int×(List jK)×(List jw)×(List zX)×(List iE)×(List bD)×Int×(List fA)×Int×(List aC))=>match ww with|(w1,w2,w3,w4,w5,w6,w7,w8,w9,vi,vh,HC,HB,HA,Hx,w16,xc)=>ck (aE xc.length xc.length)<|(jf n xc (λ (y1:aC×aC×Unit)=>nZ y1.1 y1.2.1)).bind λr8=>dK (iter (kR n a2 w1 w2 w3 w4 w5 w6 w7 w8 w9 vi vh HC HB HA Hx xc r8) n (0:Int)) λ()=>some (([]:(List Int)),(0:Int),(4:Int))))
def Ju:Option Bool:=
 (yF 8).bind λr1=>(yF 2).bind λr2=>(iO n r1.1 r1.2 0).bind λr3=>(iO n r2.1 r1.2 0).bind λr4=>ck (aE (sub ([1]:List Int) 0 1).length 1)<|(eU n r1.2 (sub ([1]:List Int) 0 1)).bind λr5=>ck (aE (sub ([4]:List Int) 0 1).length 1)<|(eU n r1.2 (sub ([4]:List Int) 0 1)).bind λr6=>((bif ((r5.1.phases.length:Int) !=1)then some true else(bif ((r3.1.length:Int) !=1)then some true else(bif (r3.2.2 !=0)then some true else(bif (r4.2.2 !=4)then some true else(bif (r5.2.2 !=0)then some true else some (r6.2.2 !=1))))))).bind λv1=>(bif v1 then some false else(bu r5.1.phases 0).bind λx1=>(bif ((x1.az.length:Int) !=1)then some false else(bu r3.1 0).bind λx2=>(bif (x2==2)then(bif (r3.2.1==40)then(bif (r5.2.1==20)then(bu r5.1.phases 0).bind λx3=>(bu x3.az 0).bind λx4=>(bif (x4.cz==9)then(bu r1.2.phases 0).bind λx5=>(bu x5.az 0).bind λx6=>(mJ x6).bind λr7=>some (r7==4)else some false)else some false)else some false)else some false)))
def tQ(rc:(bR)->(Int)->(Int)->Option Int)(a0:bR)(a1:Int)(a2:Int):Stp (Int×Int) Int
 |(v1,v2)=>((bif decide (v2<a0.args.length)then some (decide (v1<=a1))else some false)).bind λv3=>(bif v3 then(bu a0.args v2).bind λx1=>(rc x1 (i64.wrap (a1-v1)) (i64.wrap (a2-1))).bind λr1=>some (.inl ((i64.wrap (v1+r1)),(i64.wrap (v2+1))))else some (.inr v1))
def Ak(rc:(bR)->(Int)->(Int)->Option Int)(a0:bR)(a1:Int)(a2:Int):Option Int:=
 (bif decide (a2<1)then some (i64.wrap (a1+1))else(iter (tQ rc a0 a1 a2) n (1,0)).bind λw1=>some w1)
def Ey(rc:(bR)->(Int)->(Int)->Option Int):b7 xx:=⟨[.d (.st SI.Expr),.d (.int .i64),.d (.int .i64)],[.d (.int .i64)],λa=>rc a.1 a.2.1 a.2.2.1,none⟩
def rX(n:Nat):Nat->(bR)->(Int)->(Int)->Option Int
 | 0=>λ_ _ _=>none
 |m+1=>Ak n (rX n m)
def Cw(a0:bR)(a1:Int)(a2:Int):Option Int:=rX n n a0 a1 a2
def Al(a0:bZ):Stp Int (Unit⊕Bool)
 |v1=>((bif decide (v1<a0.rules.length)then some (decide (v1<5))else some false)).bind λv2=>(bif v2 then((bu a0.rules v1).bind λx1=>(Cw n (bR.mk x1.kx x1.m5 x1.mT x1.i8 x1.fL) 20 14).bind λr1=>(bif decide (r1>20)then some true else(bu a0.rules v1).bind λx2=>(bif decide ((x2.zones.length:Int)>6)then some true else(bu a0.rules v1).bind λx3=>some (decide ((x3.except.length:Int)>6))))).bind λv3=>(bif v3 then(some false).map λa=>.inr (.inr a)else some (.inl (i64.wrap (v1+1))))else some (.inr (.inl ())))
def Am(a0:bZ):Stp Int (Unit⊕Bool)
 |v4=>((bif decide (v4<a0.defs.length)then some (decide (v4<5))else some false)).bind λv5=>(bif v5 then(bu a0.defs v4).bind λx4=>(Cw n (bR.mk x4.iu x4.lw x4.km x4.ii x4.ek) 20 14).bind λr2=>(bif decide (r2>20)then(some false).map λa=>.inr (.inr a)else some (.inl (i64.wrap (v4+1))))else some (.inr (.inl ())))
def Rh(a0:bZ):Stp Int (Unit⊕Bool)
 |v6=>((bif decide (v6<a0.zones.length)then some (decide (v6<5))else some false)).bind λv7=>(bif v7 then(bu a0.zones v6).bind λx5=>(bif decide ((x5.corners.length:Int)>12)then(some false).map λa=>.inr (.inr a)else some (.inl (i64.wrap (v6+1))))else some (.inr (.inl ())))
def Ri(a0:bZ):Stp Int (Unit⊕Bool)
 |v8=>((bif decide (v8<a0.caps.length)then some (decide (v8<4))else some false)).bind λv9=>(bif v9 then(bu a0.caps v8).bind λx6=>(bif decide ((x6.corners.length:Int)>12)then(some false).map λa=>.inr (.inr a)else some (.inl (i64.wrap (v8+1))))else some (.inr (.inl ())))
def Rj(a0:bZ):Stp Int (Unit⊕Bool)
 |v10=>((bif decide (v10<a0.tables.length)then some (decide (v10<3))else some false)).bind λv11=>(bif v11 then(bu a0.tables v10).bind λx7=>(bif decide ((x7.rows.length:Int)>8)then(some false).map λa=>.inr (.inr a)else some (.inl (i64.wrap (v10+1))))else some (.inr (.inl ())))
def M0(a0:bZ):Option Bool:=
 dK (iter (Al n a0) n 0) λ()=>dK (iter (Am n a0) n 0) λ()=>dK (iter (Rh a0) n 0) λ()=>dK (iter (Ri a0) n 0) λ()=>dK (iter (Rj a0) n 0) λ()=>(bif decide ((a0.rules.length:Int)<=4)then(bif decide ((a0.defs.length:Int)<=4)then(bif decide ((a0.zones.length:Int)<=4)then(bif decide ((a0.caps.length:Int)<=3)then some (decide ((a0.tables.length:Int)<=2))else some false)else some false)else some false)else some false)
def vI(a0:au):Option Bool:=
 (bif decide (a0.x0>=0)then(bif decide (a0.x0<a0.x1)then(bif decide (a0.x1<=1048576)then(bif decide (a0.y0>=0)then(bif decide (a0.y0<a0.y1)then some (decide (a0.y1<=1048576))else some false)else some false)else some false)else some false)else some false)
def Ez(a0:ym):Option Bool:=
 (vI (au.mk a0.mA a0.my a0.mz a0.mw)).bind λr1=>(bif r1 then(bif decide (a0.z0>=0)then(bif decide (a0.z0<a0.z1)then some (decide (a0.z1<=4096))else some false)else some false)else some false)
def EA(a0:Int)(a1:Int)(a2:Int):Option Bool:=
 (bif decide (a0>=a1)then some (decide (a0<=a2))else some false)
def rq(a0:aD):Option Bool:=
 (Ez (ym.mk a0.bj a0.bz a0.be a0.bx a0.cx a0.cz)).bind λr1=>(bif r1 then(EA a0.use 0 5).bind λr2=>(bif r2 then(EA a0.units 0 1048576).bind λr3=>(bif r3 then(bif (a0.units==0)then some true else some (a0.use==0))else some false)else some false)else some false)
def yM(a0:aD):Option Int:=
 (rq a0).bind λr1=>(bif (!r1)then some 0 else ck (3 !=0)<|some (i64.wrap (Int.tdiv (i64.wrap ((i64.wrap (a0.cz-a0.cx))+2)) 3)))
def pK(a0:aG)(v2:Int):Stp (Int×Int) (Int⊕((Int×Int)⊕(Int⊕Int)))
 |(v3,v4)=>(bu a0.phases v2).bind λx1=>(bif decide (v4<x1.az.length)then(bu a0.phases v2).bind λx2=>(bu x2.az v4).bind λx3=>(yM x3).bind λr1=>(bif (decide ((i64.wrap (v3*(i64.wrap (r1+1))))>2001))then((some 2001).map λa=>.inr (.inr a)).map λa=>.inr (.inr a)else some (.inl ((i64.wrap (v3*(i64.wrap (r1+1)))),(i64.wrap (v4+1)))))else some (.inr (.inl v3)))
def pM(a0:aG):Stp (Int×Int) (Int⊕Int)
 |(v1,v2)=>(bif decide (v2<a0.phases.length)then dK (iter (pK a0 v2) n (v1,0)) λw1=>some (.inl (w1,(i64.wrap (v2+1))))else some (.inr (.inl v1)))
def M4(a0:aG):Option Int:=
 dK (iter (pM n a0) n (1,0)) λw2=>some (i64.wrap (w2-1))
def VW(a0:fM):Stp Int (Unit⊕Bool)
 |v1=>((bif decide (v1<a0.land.length)then some (decide (v1<4))else some false)).bind λv2=>(bif v2 then(bu a0.land v1).bind λx1=>(bif decide ((x1.area.length:Int)>4)then(some false).map λa=>.inr (.inr a)else some (.inl (i64.wrap (v1+1))))else some (.inr (.inl ())))
def VX(a0:fM):Stp Int (Unit⊕Bool)
 |v3=>((bif decide (v3<a0.cp.length)then some (decide (v3<4))else some false)).bind λv4=>(bif v4 then(bu a0.cp v3).bind λx2=>(bif decide ((x2.area.length:Int)>4)then(some false).map λa=>.inr (.inr a)else some (.inl (i64.wrap (v3+1))))else some (.inr (.inl ())))
def EB(a1:aG):Stp Int (Unit⊕Bool)
 |v5=>((bif decide (v5<a1.phases.length)then some (decide (v5<4))else some false)).bind λv6=>(bif v6 then((bu a1.phases v5).bind λx3=>(bif decide ((x3.az.length:Int)>3)then some true else(bu a1.phases v5).bind λx4=>some (decide ((x4.gives.length:Int)>3)))).bind λv7=>(bif v7 then(some false).map λa=>.inr (.inr a)else some (.inl (i64.wrap (v5+1))))else some (.inr (.inl ())))
def TB(a0:fM)(a1:aG):Option Bool:=
 dK (iter (VW a0) n 0) λ()=>dK (iter (VX a0) n 0) λ()=>dK (iter (EB a1) n 0) λ()=>(M0 n (bZ.mk a0.ci a0.ca a0.b9 a0.bm a0.cj a0.cg a0.cD a0.ch)).bind λr1=>(bif r1 then(bif decide ((a0.land.length:Int)<=3)then(bif decide ((a0.cp.length:Int)<=3)then(bif decide ((a0.built.length:Int)<=4)then(bif decide ((a1.phases.length:Int)<=3)then(M4 n a1).bind λr2=>some (decide (r2<=60))else some false)else some false)else some false)else some false)else some false)
def VY(a0:aG):Stp (Int×(List aD)) (List aD)
 |(v1,v2)=>(bif decide (v1<a0.phases.length)then(bu a0.phases v1).bind λx1=>ck (bL v2.length v2.length x1.az.length x1.az.length 72)<|jq (v2++x1.az) λr1=>ck (aE r1.length r1.length)<|some (.inl ((i64.wrap (v1+1)),r1))else ck (aE v2.length v2.length)<|some (.inr v2))
def Ao(a0:aG):Option (List aD):=
 ck (aE 0 ([]:List aD).length)<|(iter (VY a0) n (0,[])).bind λw1=>ck (aE (sub w1 0 w1.length).length w1.length)<|some (sub w1 0 w1.length)
def Ap(a0:aC)(a1:aC):Stp Int (Unit⊕Bool)
 |v2=>(bif decide (v2<a0.floors.length)then(bu a0.floors v2).bind λx1=>(bu a1.floors v2).bind λx2=>(bif (x1 !=x2)then(some false).map λa=>.inr (.inr a)else some (.inl (i64.wrap (v2+1))))else some (.inr (.inl ())))
def M5(a0:aC)(a1:aC):Option Bool:=
 ((bif (a0.cost !=a1.cost)then some true else some (a0.floors.length !=(a1.floors.length:Int)))).bind λv1=>(bif v1 then some false else dK (iter (Ap a0 a1) n 0) λ()=>some true)
def pO(r1:List aD)(r2:List Int):Stp (Int×(List Int)) (Unit⊕(List Int))
 |(v1,v2)=>(bif decide (v1>=0)then ck (co v1 r2.length)<|(bu v2 ((0:Nat)+v1:Int)).bind λx1=>ck (co v1 r1.length)<|(bu r1 ((0:Nat)+v1:Int)).bind λx2=>(yM x2).bind λr3=>(bif decide (x1<r3)then ck (co v1 r2.length)<|(bu v2 ((0:Nat)+v1:Int)).bind λx3=>ck (co v1 r2.length)<|(bu v2 ((0:Nat)+v1:Int)).bind λx4=>(ck (aE (sub (v2.set ((0:Nat)+v1:Int).toNat (i64.wrap (x3+1))) 0 r2.length).length r2.length)<|some (sub (v2.set ((0:Nat)+v1:Int).toNat (i64.wrap (x3+1))) 0 r2.length)).map λa=>.inr (.inr a)else ck (co v1 r2.length)<|(bu v2 ((0:Nat)+v1:Int)).bind λx5=>some (.inl ((i64.wrap (v1-1)),(v2.set ((0:Nat)+v1:Int).toNat 0))))else some (.inr (.inl ())))
def H7(a0:aG)(a1:List Int):Option (List Int):=
 (Ao n a0).bind λr1=>ck (bL ([]:List Int).length 0 a1.length a1.length 8)<|jq ([]++a1) λr2=>dK (iter (pO r1 r2) n ((i64.wrap ((r2.length:Nat)-1)),r2)) λ()=>some []
def nQ(a0:fM)(a1:aG)(a2:Int)(r3:(List Int)×Int×Int):Stp (Bool×Bool×(List Int)) (Bool⊕Bool)
 |(v2,v3,v4)=>(bif decide ((v4.length:Int)>0)then(M5 n (aC.mk v4 0) (aC.mk r3.1 0)).bind λr6=>(eU n a1 v4).bind λr7=>((bif (r7.2.2==0)then(kz n a0 r7.1 a2).bind λr8=>some r8 else some false)).bind λv5=>((bif r6 then(bif v5 then some (false,(r7.2.1==(r3.2.1:Int)))else some (false,false))else some (v2,v3)):Option (Bool×Bool)).bind λ(v6,v7)=>((bif v5 then(bif (r3.2.2 !=0)then some true else(bif decide (r7.2.1<(r3.2.1:Int))then some true else(bif (r7.2.1==(r3.2.1:Int))then(bif v6 then some (!r6)else some false)else some false)))else some false)).bind λv8=>(bif v8 then(some false).map λa=>.inr (.inr a)else(H7 n a1 v4).bind λr9=>ck (aE (sub r9 0 r9.length).length r9.length)<|some (.inl (v6,v7,(sub r9 0 r9.length))))else some (.inr (.inl v3)))
def ru(a0:fM)(a1:aG)(a2:Int):Option Bool:=
 (Ju n).bind λr1=>(TB n a0 a1).bind λr2=>(bif (!r2)then some r1 else(iO n a0 a1 a2).bind λr3=>(oF n a0 a1 a2).bind λr4=>((bif (r4.2 !=0)then some true else(bif (r3.2.2 !=0)then some (r3.2.2 !=4)else some false))).bind λv1=>(bif v1 then(bif r1 then(bif (r4.2 !=0)then some (r3.2.2==(r4.2:Int))else some false)else some false)else(Ao n a1).bind λr5=>ck (decide ((r5.length:Int)<=(r5.length:Int))&&(decide (0<=(r5.length:Int))&&uy (r5.length:Int) 8))<|ck (aE (sub (List.replicate (r5.length:Int).toNat (0:Int)) 0 ((r5.length:Int).toNat)).length ((r5.length:Int).toNat))<|dK (iter (nQ n a0 a1 a2 r3) n (true,false,(sub (List.replicate (r5.length:Int).toNat (0:Int)) 0 ((r5.length:Int).toNat)))) λw1=>(bif r1 then(bif w1 then some true else some (r3.2.2==4))else some false)))
end
end Go.Proofs
