import Derived.Test.YthkmffljjjfbjaaGreatTBase
open Go.IntKind (i64)
namespace Go.Proofs
open Go.Gb Go.RowKit
noncomputable section
variable (n:Nat)
def Ym(a0:Int):Option bH:=
 some (bH.mk 0 a0 (⟨#[]⟩) (⟨#[]⟩) ([]))
def zf(a0:List ax):Option (List ax):=
 (bif a0.isEmpty then(both (some ([]:(List ax))) (ck (bP ([]:List ax).length 0 a0.length a0.length 32)<|jc (([]:List ax)++a0) λr1=>ck (bj (sub r1 0 r1.length).length r1.length)<|some (sub r1 0 r1.length)))else ck (bP ([]:List ax).length 0 a0.length a0.length 32)<|jc (([]:List ax)++a0) λr2=>ck (bj (sub r2 0 r2.length).length r2.length)<|some (sub r2 0 r2.length))
def Ce(a0:List Int):Option (List Int):=
 (bif a0.isEmpty then(both (some ([]:(List Int))) (ck (bP ([]:List Int).length 0 a0.length a0.length 8)<|jc (([]:List Int)++a0) λr1=>ck (bj (sub r1 0 r1.length).length r1.length)<|some (sub r1 0 r1.length)))else ck (bP ([]:List Int).length 0 a0.length a0.length 8)<|jc (([]:List Int)++a0) λr2=>ck (bj (sub r2 0 r2.length).length r2.length)<|some (sub r2 0 r2.length))
def Kg(a0:fU):Option fU:=
 (zf a0.area).bind λr1=>(Ce a0.from_).bind λr2=>ck (bj (sub r1 0 r1.length).length r1.length)<|ck (bj (sub r2 0 r2.length).length r2.length)<|some (fU.mk a0.id a0.owner (sub r1 0 r1.length) (sub r2 0 r2.length))
def Cf(a0:List fU)(a1:Int):Stp Int (Unit⊕(fU×Bool))
 |v1=>(bif decide (v1<(a0.length:Int))then(bz a0 v1).bind λx1=>(bif (x1.id==(a1:Int))then(Kg x1).bind λr1=>(some (r1,true)).map λa=> .inr (.inr a)else some (.inl (i64.wrap (v1+1))))else some (.inr (.inl ())))
def Kh(a0:List fU)(a1:Int):Option (fU×Bool):=
 dx (iter (Cf a0 a1) n (0:Int)) λ()=>some ((fU.mk 0 0 ([]) ([])),false)
def mh(a0:aP)(a1:Int)(a2:Int):Stp (Int×(List aC)) (List aC)
 |(v1,v2)=>(bif decide (v1<(a0.phases.length:Int))then((bz a0.phases v1).bind λx1=>((bif decide (v1>=(a1:Int))then some (decide (v1<(a2:Int)))else some false)).bind λv3=>(bif v3 then ck (bP v2.length v2.length x1.az.length x1.az.length 72)<|jc (v2++x1.az) λr1=>ck (bj r1.length r1.length)<|some r1 else ck (bj v2.length v2.length)<|some v2):Option ((List aC))).bind λv4=>ck (bj v4.length v4.length)<|some (.inl ((i64.wrap (v1+1)),v4))else ck (bj v2.length v2.length)<|some (.inr v2))
def mO(a0:aP)(a1:Int)(a2:Int):Option (List aC):=
 ck (bj 0 ([]:List aC).length)<|(iter (mh a0 a1 a2) n ((0:Int),([]:List aC))).bind λw1=>ck (bj (sub w1 0 w1.length).length w1.length)<|some (sub w1 0 w1.length)
def uo(a0:aP):Option (List aC):=
 (mO n a0 0 (a0.phases.length:Int)).bind λr1=>ck (bj (sub r1 0 r1.length).length r1.length)<|some (sub r1 0 r1.length)
def nE(a0:ax):Option Bool:=
 (bif decide (0<=(a0.x0:Int))then(bif decide (a0.x0<(a0.x1:Int))then(bif decide (a0.x1<=1048576)then(bif decide (0<=(a0.y0:Int))then(bif decide (a0.y0<(a0.y1:Int))then some (decide (a0.y1<=1048576))else some false)else some false)else some false)else some false)else some false)
def fF(a0:aC):Option Bool:=
 ((nE (ax.mk a0.bm a0.bx a0.bk a0.bu)).bind λr1=>(bif (!r1)then some true else(bif decide (a0.cP<0)then some true else(bif decide (a0.cP>=(a0.cz:Int))then some true else some (decide (a0.cz>4096)))))).bind λv1=>(bif v1 then some false else((bif (a0.use !=0)then some (a0.units !=0)else some false)).bind λv2=>(bif v2 then some false else(bif decide (a0.use>=0)then(bif decide (a0.use<6)then(bif decide (a0.units>=0)then some (decide (a0.units<=1048576))else some false)else some false)else some false)))
def vW(a0:ax):Option (ax×Bool):=
 (nE a0).bind λr1=>(bif r1 then some (a0,true)else some ((ax.mk 0 0 0 0),false))
def qC(a0:ax)(a1:ax):Option (ax×Bool):=
 ((nE a0).bind λr1=>(bif (!r1)then some true else(nE a1).bind λr2=>some (!r2))).bind λv1=>(bif v1 then some ((ax.mk 0 0 0 0),false)else(vW (ax.mk (max a0.x0 a1.x0) (max a0.y0 a1.y0) (min a0.x1 a1.x1) (min a0.y1 a1.y1))).bind λr3=>some (r3.1,r3.2))
def vv(a0:At)(a1:At):Option Bool:=
 (qC (ax.mk a0.m7 a0.m5 a0.m6 a0.m4) (ax.mk a1.m7 a1.m5 a1.m6 a1.m4)).bind λr1=>(bif r1.2 then(bif decide (a0.z0<(a1.z1:Int))then some (decide (a1.z0<(a0.z1:Int)))else some false)else some false)
def pR(a0:aC)(a1:aC):Option Bool:=
 (vv (At.mk a1.bm a1.bx a1.bk a1.bu a1.cP a1.cz) (At.mk a0.bm a0.bx a0.bk a0.bu a0.cP a0.cz)).bind λr1=>some r1
def Cg(a0:List aC)(a1:(aC×Unit)->Option Bool):Stp Int (Unit⊕Int)
 |v1=>(bif decide (v1<(a0.length:Int))then(bz a0 v1).bind λx1=>(a1 (x1,())).bind λr1=>(bif r1 then(some v1).map λa=> .inr (.inr a)else some (.inl (i64.wrap (v1+1))))else some (.inr (.inl ())))
def oU(a0:List aC)(a1:(aC×Unit)->Option Bool):Option Int:=
 dx (iter (Cg a0 a1) n (0:Int)) λ()=>some ((-1):Int)
def fw(a0:List aC)(a1:(aC×Unit)->Option Bool):Option Bool:=
 (oU n a0 a1).bind λr1=>some (decide (r1>=0))
def Ch(a0:Int):Option Bool:=
 (bif decide (a0>=97)then some (decide (a0<=122))else some false)
def yx(a0:ByteArray)(a1:(Int×Unit)->Option Bool):Stp Int Int
 |v1=>((bif decide (v1<(a0.size:Int))then(N8 a0 v1).bind λx1=>(a1 (x1,())).bind λr1=>some r1 else some false)).bind λv2=>(bif v2 then some (.inl (i64.wrap (v1+1)))else some (.inr v1))
def Ki(a0:ByteArray)(a1:(Int×Unit)->Option Bool):Option Int:=
 (iter (yx a0 a1) n (0:Int)).bind λw1=>some w1
def MH(a0:Int):Option Bool:=
 (bif decide (a0>=48)then some (decide (a0<=57))else some false)
def yA(a0:Int):Option Bool:=
 (Ch a0).bind λr1=>(bif r1 then some true else(MH a0).bind λr2=>some r2)
def Kj(a0:ByteArray):Option Bool:=
 ((bif (ByteArray.toList a0==ByteArray.toList (⟨#[]⟩))then some true else(N8 a0 0).bind λx1=>(Ch x1).bind λr1=>(bif (!r1)then some true else some (decide ((a0.size:Int)>20))))).bind λv1=>(bif v1 then some false else(Ki n a0 (λ (y1:Int×Unit)=>yA y1.1)).bind λr2=>some (r2==(a0.size:Int)))
def strings_Contains(a0 a1:ByteArray):Option Bool:=ck (Nat.ble a0.size 4000000)<|some (Lib.contains a0.data.toList a1.data.toList)
def uq(a0:ByteArray):Option Bool:=
 (Kj n a0).bind λr1=>(bif r1 then ck (Rj (⟨#[32]⟩) a0)<|ck (Rj ((⟨#[32]⟩)++a0) (⟨#[32]⟩))<|(strings_Contains (⟨#[32,97,110,100,32,97,112,97,114,116,32,98,97,115,101,32,99,97,112,32,100,101,102,105,110,101,32,101,108,115,101,32,101,120,99,101,112,116,32,102,114,111,109,32,103,114,97,99,101,32,104,111,117,114,115,32,105,102,32,105,110,32,108,101,97,115,116,32,110,111,116,32,111,114,32,111,118,101,114,108,97,121,32,112,108,97,110,101,32,114,117,108,101,32,115,108,111,112,101,32,115,117,110,32,116,97,98,108,101,32,116,104,101,110,32,117,110,116,105,108,32,117,115,101,115,32,118,97,114,121,32,118,105,101,119,32,122,111,110,101,32]⟩) (((⟨#[32]⟩)++a0)++(⟨#[32]⟩))).bind λr2=>some (!r2)else some false)
def j5(r1:List aC):Stp Int (Unit⊕Bool)
 |v2=>(bif decide (v2<(r1.length:Int))then ck (cH v2 r1.length)<|(bz r1 ((0:Nat)+v2:Int)).bind λx1=>((fF x1).bind λr2=>(bif (!r2)then some true else ck (uL 0 v2 r1.length)<|ck (bj (sub r1 0 ((v2:Int).toNat)).length ((v2:Int).toNat))<|(fw n (sub r1 0 ((v2:Int).toNat)) (λ (y1:aC×Unit)=>pR y1.1 x1)).bind λr3=>some r3)).bind λv3=>(bif v3 then(some false).map λa=> .inr (.inr a)else some (.inl (i64.wrap (v2+1))))else some (.inr (.inl ())))
def j6(x2:bU):Stp (Int×(List (ByteArray×Bool))) (Unit⊕(Int⊕(Unit⊕Bool)))
 |(v5,v6)=>(bif decide (v5<(x2.gives.length:Int))then(bz x2.gives v5).bind λx3=>((bif ((oJ iz x3.name v6).getD false)then some true else(uq n x3.name).bind λr4=>(bif (!r4)then some true else(bif decide (x3.n<0)then some true else some (decide (x3.n>1073741824)))))).bind λv7=>(bif v7 then((some false).map λa=> .inr (.inr a)).map λa=> .inr (.inr a)else some (.inl ((i64.wrap (v5+1)),(IC iz x3.name true v6))))else some (.inr (.inl ())))
def kg(a0:aP):Stp Int (Unit⊕Bool)
 |v4=>(bif decide (v4<(a0.phases.length:Int))then(bz a0.phases v4).bind λx2=>dx (iter (j6 n x2) n ((0:Int),([]:(List (ByteArray×Bool))))) λ()=>(bif decide ((x2.gives.length:Int)>30)then(some false).map λa=> .inr (.inr a)else some (.inl (i64.wrap (v4+1))))else some (.inr (.inl ())))
def vw(a0:aP):Option Bool:=
 (uo n a0).bind λr1=>((bif decide (a0.lot<0)then some true else(bif decide (a0.lot>1073741824)then some true else(bif decide ((a0.phases.length:Int)<1)then some true else(bif decide ((a0.phases.length:Int)>8)then some true else(bif decide ((r1.length:Int)<1)then some true else some (decide ((r1.length:Int)>40)))))))).bind λv1=>(bif v1 then some false else dx (iter (j5 n r1) n (0:Int)) λ()=>dx (iter (kg n a0) n (0:Int)) λ()=>some true)
def Kk(a0:Unit)(a1:Int):Option (List ax):=
 (bif decide (a1<0)then none else(bif (decide ((i64.wrap (a1 -(i64.wrap (0 -0))))>0))then ck (xG (i64.wrap (a1 -(i64.wrap (0 -0)))) 32)<|ck (uL 0 0 ((i64.wrap (a1 -(i64.wrap (0 -0)))).toNat))<|ck (bj (sub (List.replicate (i64.wrap (a1 -(i64.wrap (0 -0)))).toNat (ax.mk 0 0 0 0)) 0 0).length 0)<|some (sub (List.replicate (i64.wrap (a1 -(i64.wrap (0 -0)))).toNat (ax.mk 0 0 0 0)) 0 0)else some ([]:(List ax))))
def Kl(a0:List (List ax)):Stp (Int×Int) Int
 |(v1,v2)=>(bif decide (v2<(a0.length:Int))then(bz a0 v2).bind λx1=>(bif decide ((i64.wrap (v1+(x1.length:Int)))<0)then none else some (.inl ((i64.wrap (v1+(x1.length:Int))),(i64.wrap (v2+1)))))else some (.inr v1))
def Km(a0:List (List ax)):Stp (Int×(List ax)) (List ax)
 |(v3,v4)=>(bif decide (v3<(a0.length:Int))then(bz a0 v3).bind λx2=>ck (bP v4.length v4.length x2.length x2.length 32)<|jc (v4++x2) λr2=>ck (bj r2.length r2.length)<|some (.inl ((i64.wrap (v3+1)),r2))else ck (bj v4.length v4.length)<|some (.inr v4))
def wK(a0:List (List ax)):Option (List ax):=
 (iter (Kl a0) n ((0:Int),(0:Int))).bind λw1=>(Kk () w1).bind λr1=>ck (bj r1.length r1.length)<|(iter (Km a0) n ((0:Int),r1)).bind λw2=>ck (bj (sub w2 0 w2.length).length w2.length)<|some (sub w2 0 w2.length)
def nQ(_:Nat)(a0:List Int):Option (List Int):=GC a0
def Kn(a0:List Int)(v1:Int):Stp (Int×Int×(List Int)) (Int×(List Int))
 |(v2,v3,v4)=>(bif (decide (v3<((((a0.length -(v1:Int).toNat):Nat):Int):Int)))then(ck (cH v3 (a0.length -(v1:Int).toNat))<|(bz v4 (((0+(v1:Int).toNat):Nat)+v3:Int)).bind λx3=>ck (cH (i64.wrap (v3 -1)) (a0.length -(v1:Int).toNat))<|(bz v4 (((0+(v1:Int).toNat):Nat)+(i64.wrap (v3 -1)):Int)).bind λx4=>(bif (x3 !=(x4:Int))then ck (cH v3 (a0.length -(v1:Int).toNat))<|(bz v4 (((0+(v1:Int).toNat):Nat)+v3:Int)).bind λx5=>ck (cH v2 a0.length)<|(bz v4 ((0:Nat)+v2:Int)).bind λx6=>some ((i64.wrap (v2+1)),(v4.set ((0:Nat)+v2:Int).toNat x5))else some (v2,v4)):Option (Int×(List Int))).bind λ(v5,v6)=>some (.inl (v5,(i64.wrap (v3+1)),v6))else some (.inr (v2,v4)))
def Ko(a0:List Int):Stp Int (Unit⊕(Unit×(List Int)))
 |v1=>(bif decide (v1<(a0.length:Int))then ck (cH v1 a0.length)<|(bz a0 ((0:Nat)+v1:Int)).bind λx1=>ck (cH (i64.wrap (v1 -1)) a0.length)<|(bz a0 ((0:Nat)+(i64.wrap (v1 -1)):Int)).bind λx2=>(bif (x1==(x2:Int))then ck (uL v1 (a0.length:Int) a0.length)<|(iter (Kn a0 v1) n (v1,(1:Int),a0)).bind λ(w1,w2)=>ck (uL w1 (a0.length:Int) a0.length)<|ck (uL 0 w1 a0.length)<|(ck (bj ((w1:Int).toNat) ((w1:Int).toNat))<|ck (bj (sub (w2.take (0+(w1:Int).toNat)) 0 ((w1:Int).toNat)).length ((w1:Int).toNat))<|some ((),(sub (w2.take (0+(w1:Int).toNat)) 0 ((w1:Int).toNat)))).map λa=> .inr (.inr a)else some (.inl (i64.wrap (v1+1))))else some (.inr (.inl ())))
def nR(a0:List Int):Option (Unit×(List Int)):=
 (bif decide ((a0.length:Int)<2)then ck (bj a0.length a0.length)<|ck (bj (sub a0 0 a0.length).length a0.length)<|some ((),(sub a0 0 a0.length))else dx (iter (Ko n a0) n (1:Int)) λ()=>ck (bj a0.length a0.length)<|ck (bj (sub a0 0 a0.length).length a0.length)<|some ((),(sub a0 0 a0.length)))
def sN(_:Nat)(a0:List aL)(a1:(aL×aL×Unit)->Option Int):Option (List aL):=WQ a0 a1
def cmp_isNaN_int(a0:Int):Option Bool:=
 some (a0 !=(a0:Int))
def cmp_Compare_int(a0:Int)(a1:Int):Option Int:=
 (cmp_isNaN_int a0).bind λr1=>(cmp_isNaN_int a1).bind λr2=>(bif r1 then(bif r2 then some (0:Int)else some ((-1):Int))else(bif r2 then some (1:Int)else(bif decide (a0<(a1:Int))then some ((-1):Int)else(bif decide (a0>(a1:Int))then some (1:Int)else some (0:Int)))))
def vz(a0:aL)(a1:aL):Option Int:=
 (cmp_Compare_int a0.from_ a1.from_).bind λr1=>some r1
def qX(a0:List ax)(a1:Int):Stp (Int×(List aL)) (List aL)
 |(v1,v2)=>(bif decide (v1<(a0.length:Int))then((bz a0 v1).bind λx1=>((bif decide (x1.x0<=(a1:Int))then some (decide (a1<(x1.x1:Int)))else some false)).bind λv3=>(bif v3 then ck (bP v2.length v2.length (sub ([(aL.mk x1.y0 x1.y1)]:List aL) 0 1).length 1 16)<|jc (v2++(sub ([(aL.mk x1.y0 x1.y1)]:List aL) 0 1)) λr1=>ck (bj r1.length r1.length)<|some r1 else ck (bj v2.length v2.length)<|some v2):Option ((List aL))).bind λv4=>ck (bj v4.length v4.length)<|some (.inl ((i64.wrap (v1+1)),v4))else ck (bj v2.length v2.length)<|some (.inr v2))
def qY(w1:List aL)(r2:List aL):Stp (Int×(List aL)) (List aL)
 |(v5,v6)=>(bif decide (v5<(w1.length:Int))then(ck (cH v5 w1.length)<|(bz r2 ((0:Nat)+v5:Int)).bind λx2=>((bif decide ((v6.length:Int)>0)then ck (cH (i64.wrap ((v6.length:Int) -1)) v6.length)<|(bz v6 ((0:Nat)+(i64.wrap ((v6.length:Int) -1)):Int)).bind λx3=>some (decide (x2.from_<=(x3.to:Int)))else some false)).bind λv7=>(bif v7 then ck (cH (i64.wrap ((v6.length:Int) -1)) v6.length)<|(bz v6 ((0:Nat)+(i64.wrap ((v6.length:Int) -1)):Int)).bind λx4=>ck (cH (i64.wrap ((v6.length:Int) -1)) v6.length)<|(bz v6 ((0:Nat)+(i64.wrap ((v6.length:Int) -1)):Int)).bind λx5=>ck (bj v6.length (v6.set ((0:Nat)+(i64.wrap ((v6.length:Int) -1)):Int).toNat (aL.mk x5.from_ (max x4.to x2.to))).length)<|some (v6.set ((0:Nat)+(i64.wrap ((v6.length:Int) -1)):Int).toNat (aL.mk x5.from_ (max x4.to x2.to)))else ck (bP v6.length v6.length (sub ([x2]:List aL) 0 1).length 1 16)<|jc (v6++(sub ([x2]:List aL) 0 1)) λr3=>ck (bj r3.length r3.length)<|some r3):Option ((List aL))).bind λv8=>ck (bj v8.length v8.length)<|some (.inl ((i64.wrap (v5+1)),v8))else ck (bj v6.length v6.length)<|some (.inr v6))
def Gt(a0:List ax)(a1:Int):Option (List aL):=
 ck (bj 0 ([]:List aL).length)<|(iter (qX a0 a1) n ((0:Int),([]:List aL))).bind λw1=>ck (bj w1.length w1.length)<|(sN n w1 (λ (y1:aL×aL×Unit)=>vz y1.1 y1.2.1)).bind λr2=>ck (bj 0 ([]:List aL).length)<|(iter (qY w1 r2) n ((0:Int),([]:List aL))).bind λw2=>ck (bj (sub w2 0 w2.length).length w2.length)<|some (sub w2 0 w2.length)
def qZ(r1:List ax):Stp (Int×(List Int)) (List Int)
 |(v1,v2)=>(bif decide (v1<(r1.length:Int))then ck (cH v1 r1.length)<|(bz r1 ((0:Nat)+v1:Int)).bind λx1=>ck (bP v2.length v2.length (sub ([x1.x0,x1.x1]:List Int) 0 2).length 2 8)<|jc (v2++(sub ([x1.x0,x1.x1]:List Int) 0 2)) λr2=>ck (bj r2.length r2.length)<|some (.inl ((i64.wrap (v1+1)),r2))else ck (bj v2.length v2.length)<|some (.inr v2))
def q8(r1:List ax)(r4:Unit×(List Int)):Stp (Int×(List bM)) (List bM)
 |(v3,v4)=>(bif decide (v3<(r4.2.length:Int))then ck (cH (i64.wrap (v3 -1)) r4.2.length)<|(bz r4.2 ((0:Nat)+(i64.wrap (v3 -1)):Int)).bind λx2=>ck (cH v3 r4.2.length)<|(bz r4.2 ((0:Nat)+v3:Int)).bind λx3=>ck (cH (i64.wrap (v3 -1)) r4.2.length)<|(bz r4.2 ((0:Nat)+(i64.wrap (v3 -1)):Int)).bind λx4=>ck (bj (sub r1 0 r1.length).length r1.length)<|(Gt n (sub r1 0 r1.length) x4).bind λr5=>ck (bj (sub r5 0 r5.length).length r5.length)<|ck (bP v4.length v4.length (sub ([(bM.mk x2 x3 (sub r5 0 r5.length))]:List bM) 0 1).length 1 40)<|jc (v4++(sub ([(bM.mk x2 x3 (sub r5 0 r5.length))]:List bM) 0 1)) λr6=>ck (bj r6.length r6.length)<|some (.inl ((i64.wrap (v3+1)),r6))else ck (bj v4.length v4.length)<|some (.inr v4))
def ng(a0:List (List ax)):Option (List bM):=
 (wK n a0).bind λr1=>ck (bj 0 ([]:List Int).length)<|(iter (qZ r1) n ((0:Int),([]:List Int))).bind λw1=>ck (bj w1.length w1.length)<|(nQ n w1).bind λr3=>ck (bj w1.length r3.length)<|(nR n r3).bind λr4=>ck (bj 0 ([]:List bM).length)<|(iter (q8 n r1 r4) n ((1:Int),([]:List bM))).bind λw2=>ck (bj (sub w2 0 w2.length).length w2.length)<|some (sub w2 0 w2.length)
def MI(a0:List aL)(a1:List aL):Stp Int (Unit⊕Bool)
 |v1=>(bif decide (v1<(a0.length:Int))then(bz a0 v1).bind λx1=>(bz a1 v1).bind λx2=>(bif (!((x1.from_==(x2.from_:Int))&&((x1.to==(x2.to:Int))&&true)))then(some false).map λa=> .inr (.inr a)else some (.inl (i64.wrap (v1+1))))else some (.inr (.inl ())))
def tu(a0:List aL)(a1:List aL):Option Bool:=
 (bif ((a0.length:Int) !=(a1.length:Int))then some false else dx (iter (MI a0 a1) n (0:Int)) λ()=>some true)
def qD(a0:List bM)(v1:Int):Stp Int Int
 |v3=>((bif decide (v3<(a0.length:Int))then(bz a0 v3).bind λx1=>(bz a0 v1).bind λx2=>(tu n x1.column x2.column).bind λr1=>some r1 else some false)).bind λv4=>(bif v4 then some (.inl (i64.wrap (v3+1)))else some (.inr v3))
def uw(a0:List bM)(v1:Int)(w1:Int)(x3:bM):Stp (Int×(List ax)) (List ax)
 |(v5,v6)=>(bif decide (v5<(x3.column.length:Int))then(bz x3.column v5).bind λx4=>(bz a0 v1).bind λx5=>(bz a0 (i64.wrap (w1 -1))).bind λx6=>ck (bP v6.length v6.length (sub ([(ax.mk x5.x0 x4.from_ x6.x1 x4.to)]:List ax) 0 1).length 1 32)<|jc (v6++(sub ([(ax.mk x5.x0 x4.from_ x6.x1 x4.to)]:List ax) 0 1)) λr2=>ck (bj r2.length r2.length)<|some (.inl ((i64.wrap (v5+1)),r2))else ck (bj v6.length v6.length)<|some (.inr v6))
def uy(a0:List bM):Stp (Int×(List ax)) (List ax)
 |(v1,v2)=>(bif decide (v1<(a0.length:Int))then(iter (qD n a0 v1) n (i64.wrap (v1+1))).bind λw1=>(bz a0 v1).bind λx3=>ck (bj v2.length v2.length)<|(iter (uw a0 v1 w1 x3) n ((0:Int),v2)).bind λw2=>ck (bj w2.length w2.length)<|some (.inl (w1,w2))else ck (bj v2.length v2.length)<|some (.inr v2))
def Fe(a0:List bM):Option (List ax):=
 ck (bj 0 ([]:List ax).length)<|(iter (uy n a0) n ((0:Int),([]:List ax))).bind λw3=>ck (bj (sub w3 0 w3.length).length w3.length)<|some (sub w3 0 w3.length)
def wL(a0:List ax):Option ((List ax)×Int):=
 (bif decide ((a0.length:Int)>200)then some (([]:(List ax)),(6:Int))else some (a0,(0:Int)))
def Kq(a0:List ax):Stp Int (Unit⊕((List ax)×Int))
 |v1=>(bif decide (v1<(a0.length:Int))then(bz a0 v1).bind λx1=>(nE x1).bind λr1=>(bif (!r1)then(some (([]:(List ax)),(1:Int))).map λa=> .inr (.inr a)else some (.inl (i64.wrap (v1+1))))else some (.inr (.inl ())))
def HC(a0:List ax):Option ((List ax)×Int):=
 dx (iter (Kq a0) n (0:Int)) λ()=>(bif decide ((a0.length:Int)>400)then some (([]:(List ax)),(6:Int))else ck (bj (sub ([a0]:List (List ax)) 0 1).length 1)<|(ng n (sub ([a0]:List (List ax)) 0 1)).bind λr2=>ck (bj (sub r2 0 r2.length).length r2.length)<|(Fe n (sub r2 0 r2.length)).bind λr3=>ck (bj (sub r3 0 r3.length).length r3.length)<|(wL (sub r3 0 r3.length)).bind λr4=>some (r4.1,r4.2))
def MJ(a0:List ax)(a1:List ax):Stp Int (Unit⊕Bool)
 |v1=>(bif decide (v1<(a0.length:Int))then(bz a0 v1).bind λx1=>(bz a1 v1).bind λx2=>(bif (!((x1.x0==(x2.x0:Int))&&((x1.y0==(x2.y0:Int))&&((x1.x1==(x2.x1:Int))&&((x1.y1==(x2.y1:Int))&&true)))))then(some false).map λa=> .inr (.inr a)else some (.inl (i64.wrap (v1+1))))else some (.inr (.inl ())))
def ni(a0:List ax)(a1:List ax):Option Bool:=
 (bif ((a0.length:Int) !=(a1.length:Int))then some false else dx (iter (MJ a0 a1) n (0:Int)) λ()=>some true)
def mQ(a0:List ax):Option Bool:=
 (HC n a0).bind λr1=>(bif (r1.2==0)then(ni n r1.1 a0).bind λr2=>some r2 else some false)
def kI(a0:List bM)(a1:Int)(a2:(bM×Int×Unit)->Option Int):Stp (Int×Int) Int
 |(v1,v2)=>(bif decide (v1<(v2:Int))then ck (decide (0<=1)&&decide (1<=IntKind.u64.bits))<|(bz a0 (i64.wrap ((IntKind.u64.wrap (i64.wrap (v1+v2)))/2 ^ (1:Int).toNat))).bind λx1=>(a2 (x1,a1,())).bind λr1=>(bif decide (r1<0)then some (.inl ((i64.wrap ((i64.wrap ((IntKind.u64.wrap (i64.wrap (v1+v2)))/2 ^ (1:Int).toNat))+1)),v2))else some (.inl (v1,(i64.wrap ((IntKind.u64.wrap (i64.wrap (v1+v2)))/2 ^ (1:Int).toNat)))))else some (.inr v1))
def iF(a0:List bM)(a1:Int)(a2:(bM×Int×Unit)->Option Int):Option (Int×Bool):=
 (iter (kI a0 a1 a2) n ((0:Int),(a0.length:Int))).bind λw1=>(bif decide (w1<(a0.length:Int))then(bz a0 w1).bind λx2=>(a2 (x2,a1,())).bind λr2=>some (w1,(r2==0))else some (w1,false))
def uz(a0:bM)(a1:Int):Option Int:=
 (bif decide (a0.x1<=(a1:Int))then some ((-1):Int)else some (1:Int))
def SQ(a0:List bM)(a1:Int):Option (List aL):=
 (iF n a0 a1 (λ (y1:bM×Int×Unit)=>uz y1.1 y1.2.1)).bind λr1=>((bif decide (r1.1<(a0.length:Int))then(bz a0 r1.1).bind λx1=>some (decide (x1.x0<=(a1:Int)))else some false)).bind λv1=>(bif v1 then(bz a0 r1.1).bind λx2=>some x2.column else some ([]:(List aL)))
def Kr(a0:Unit)(a1:Int):Option (List aL):=
 (bif decide (a1<0)then none else(bif (decide ((i64.wrap (a1 -(i64.wrap (0 -0))))>0))then ck (xG (i64.wrap (a1 -(i64.wrap (0 -0)))) 16)<|ck (uL 0 0 ((i64.wrap (a1 -(i64.wrap (0 -0)))).toNat))<|ck (bj (sub (List.replicate (i64.wrap (a1 -(i64.wrap (0 -0)))).toNat (aL.mk 0 0)) 0 0).length 0)<|some (sub (List.replicate (i64.wrap (a1 -(i64.wrap (0 -0)))).toNat (aL.mk 0 0)) 0 0)else some ([]:(List aL))))
def Kt(a0:List (List aL)):Stp (Int×Int) Int
 |(v1,v2)=>(bif decide (v2<(a0.length:Int))then(bz a0 v2).bind λx1=>(bif decide ((i64.wrap (v1+(x1.length:Int)))<0)then none else some (.inl ((i64.wrap (v1+(x1.length:Int))),(i64.wrap (v2+1)))))else some (.inr v1))
def Ku(a0:List (List aL)):Stp (Int×(List aL)) (List aL)
 |(v3,v4)=>(bif decide (v3<(a0.length:Int))then(bz a0 v3).bind λx2=>ck (bP v4.length v4.length x2.length x2.length 16)<|jc (v4++x2) λr2=>ck (bj r2.length r2.length)<|some (.inl ((i64.wrap (v3+1)),r2))else ck (bj v4.length v4.length)<|some (.inr v4))
def wM(a0:List (List aL)):Option (List aL):=
 (iter (Kt a0) n ((0:Int),(0:Int))).bind λw1=>(Kr () w1).bind λr1=>ck (bj r1.length r1.length)<|(iter (Ku a0) n ((0:Int),r1)).bind λw2=>ck (bj (sub w2 0 w2.length).length w2.length)<|some (sub w2 0 w2.length)
def lG(a0:List aL)(a1:Int)(a2:(aL×Int×Unit)->Option Int):Stp (Int×Int) Int
 |(v1,v2)=>(bif decide (v1<(v2:Int))then ck (decide (0<=1)&&decide (1<=IntKind.u64.bits))<|(bz a0 (i64.wrap ((IntKind.u64.wrap (i64.wrap (v1+v2)))/2 ^ (1:Int).toNat))).bind λx1=>(a2 (x1,a1,())).bind λr1=>(bif decide (r1<0)then some (.inl ((i64.wrap ((i64.wrap ((IntKind.u64.wrap (i64.wrap (v1+v2)))/2 ^ (1:Int).toNat))+1)),v2))else some (.inl (v1,(i64.wrap ((IntKind.u64.wrap (i64.wrap (v1+v2)))/2 ^ (1:Int).toNat)))))else some (.inr v1))
def iU(a0:List aL)(a1:Int)(a2:(aL×Int×Unit)->Option Int):Option (Int×Bool):=
 (iter (lG a0 a1 a2) n ((0:Int),(a0.length:Int))).bind λw1=>(bif decide (w1<(a0.length:Int))then(bz a0 w1).bind λx2=>(a2 (x2,a1,())).bind λr2=>some (w1,(r2==0))else some (w1,false))
def kJ(a0:aL)(a1:Int):Option Int:=
 (bif decide (a0.to<=(a1:Int))then some ((-1):Int)else some (1:Int))
def Az(a0:List aL)(a1:Int):Option Bool:=
 (iU n a0 a1 (λ (y1:aL×Int×Unit)=>kJ y1.1 y1.2.1)).bind λr1=>(bif decide (r1.1<(a0.length:Int))then(bz a0 r1.1).bind λx1=>some (decide (x1.from_<=(a1:Int)))else some false)
def uD(r1:List aL):Stp (Int×(List Int)) (List Int)
 |(v1,v2)=>(bif decide (v1<(r1.length:Int))then ck (cH v1 r1.length)<|(bz r1 ((0:Nat)+v1:Int)).bind λx1=>ck (bP v2.length v2.length (sub ([x1.from_,x1.to]:List Int) 0 2).length 2 8)<|jc (v2++(sub ([x1.from_,x1.to]:List Int) 0 2)) λr2=>ck (bj r2.length r2.length)<|some (.inl ((i64.wrap (v1+1)),r2))else ck (bj v2.length v2.length)<|some (.inr v2))
def uE(a0:List aL)(a1:List aL)(a2:(Bool×Bool×Unit)->Option Bool)(r4:Unit×(List Int)):Stp (Int×(List aL)) (List aL)
 |(v3,v4)=>(bif decide (v3<(r4.2.length:Int))then(ck (cH (i64.wrap (v3 -1)) r4.2.length)<|(bz r4.2 ((0:Nat)+(i64.wrap (v3 -1)):Int)).bind λx2=>(Az n a0 x2).bind λr5=>(Az n a1 x2).bind λr6=>(a2 (r5,r6,())).bind λr7=>(bif (!r7)then ck (bj v4.length v4.length)<|some v4 else((bif decide ((v4.length:Int)>0)then ck (cH (i64.wrap ((v4.length:Int) -1)) v4.length)<|(bz v4 ((0:Nat)+(i64.wrap ((v4.length:Int) -1)):Int)).bind λx3=>some (x3.to==(x2:Int))else some false)).bind λv5=>(bif v5 then ck (cH v3 r4.2.length)<|(bz r4.2 ((0:Nat)+v3:Int)).bind λx4=>ck (cH (i64.wrap ((v4.length:Int) -1)) v4.length)<|(bz v4 ((0:Nat)+(i64.wrap ((v4.length:Int) -1)):Int)).bind λx5=>ck (bj v4.length (v4.set ((0:Nat)+(i64.wrap ((v4.length:Int) -1)):Int).toNat (aL.mk x5.from_ x4)).length)<|some (v4.set ((0:Nat)+(i64.wrap ((v4.length:Int) -1)):Int).toNat (aL.mk x5.from_ x4))else ck (cH v3 r4.2.length)<|(bz r4.2 ((0:Nat)+v3:Int)).bind λx6=>ck (bP v4.length v4.length (sub ([(aL.mk x2 x6)]:List aL) 0 1).length 1 16)<|jc (v4++(sub ([(aL.mk x2 x6)]:List aL) 0 1)) λr8=>ck (bj r8.length r8.length)<|some r8)):Option ((List aL))).bind λv6=>ck (bj v6.length v6.length)<|some (.inl ((i64.wrap (v3+1)),v6))else ck (bj v4.length v4.length)<|some (.inr v4))
def Ff(a0:List aL)(a1:List aL)(a2:(Bool×Bool×Unit)->Option Bool):Option (List aL):=
 ck (bj (sub ([a0,a1]:List (List aL)) 0 2).length 2)<|(wM n (sub ([a0,a1]:List (List aL)) 0 2)).bind λr1=>ck (bj 0 ([]:List Int).length)<|(iter (uD r1) n ((0:Int),([]:List Int))).bind λw1=>ck (bj w1.length w1.length)<|(nQ n w1).bind λr3=>ck (bj w1.length r3.length)<|(nR n r3).bind λr4=>ck (bj 0 ([]:List aL).length)<|(iter (uE n a0 a1 a2 r4) n ((1:Int),([]:List aL))).bind λw2=>ck (bj (sub w2 0 w2.length).length w2.length)<|some (sub w2 0 w2.length)
def pu(a2:(Bool×Bool×Unit)->Option Bool)(r3:List bM)(r4:List bM)(r5:List bM):Stp (Int×(List bM)) (List bM)
 |(v2,v3)=>(bif decide (v2<(r5.length:Int))then ck (cH v2 r5.length)<|(bz v3 ((0:Nat)+v2:Int)).bind λx1=>(SQ n (sub r3 0 r3.length) x1.x0).bind λr6=>(SQ n (sub r4 0 r4.length) x1.x0).bind λr7=>(Ff n r6 r7 a2).bind λr8=>ck (cH v2 r5.length)<|ck (bj (sub r8 0 r8.length).length r8.length)<|(bz v3 ((0:Nat)+v2:Int)).bind λx2=>some (.inl ((i64.wrap (v2+1)),(v3.set ((0:Nat)+v2:Int).toNat (bM.mk x2.x0 x2.x1 (sub r8 0 r8.length)))))else some (.inr v3))
def Ci(a0:List ax)(a1:List ax)(a2:(Bool×Bool×Unit)->Option Bool):Option ((List ax)×Int):=
 ((mQ n a0).bind λr1=>(bif (!r1)then some true else(mQ n a1).bind λr2=>some (!r2))).bind λv1=>(bif v1 then some (([]:(List ax)),(1:Int))else ck (bj (sub ([a0]:List (List ax)) 0 1).length 1)<|(ng n (sub ([a0]:List (List ax)) 0 1)).bind λr3=>ck (bj (sub ([a1]:List (List ax)) 0 1).length 1)<|(ng n (sub ([a1]:List (List ax)) 0 1)).bind λr4=>ck (bj (sub r3 0 r3.length).length r3.length)<|ck (bj (sub r4 0 r4.length).length r4.length)<|ck (bj (sub ([a0,a1]:List (List ax)) 0 2).length 2)<|(ng n (sub ([a0,a1]:List (List ax)) 0 2)).bind λr5=>(iter (pu n a2 r3 r4 r5) n ((0:Int),r5)).bind λw1=>ck (bj (sub w1 0 r5.length).length r5.length)<|(Fe n (sub w1 0 r5.length)).bind λr9=>ck (bj (sub r9 0 r9.length).length r9.length)<|(wL (sub r9 0 r9.length)).bind λtd=>some (td.1,td.2))
def vB(a0:Bool)(a1:Bool):Option Bool:=
 (bif a0 then some a1 else some false)
def Gu(a0:List ax)(a1:List ax):Option ((List ax)×Int):=
 (Ci n a0 a1 (λ (y1:Bool×Bool×Unit)=>vB y1.1 y1.2.1)).bind λr1=>some (r1.1,r1.2)
def wN(a0:ax):Option Int:=
 (vW a0).bind λr1=>some (i64.wrap ((i64.wrap (r1.1.x1 -r1.1.x0))*(i64.wrap (r1.1.y1 -r1.1.y0))))
def Cj(a0:List ax):Stp (Int×Int) Int
 |(v1,v2)=>(bif decide (v2<(a0.length:Int))then(bz a0 v2).bind λx1=>(wN x1).bind λr2=>some (.inl ((i64.wrap (v1+r2)),(i64.wrap (v2+1))))else some (.inr v1))
def Kv(a0:List ax):Option Int:=
 (mQ n a0).bind λr1=>(bif (!r1)then some (0:Int)else(iter (Cj a0) n ((0:Int),(0:Int))).bind λw1=>some w1)
def sO(a0:fM)(a1:bL):Option Bool:=
 some (ByteArray.toList a0.name==ByteArray.toList a1.name)
def GV(a0:List fM)(a1:(fM×Unit)->Option Bool):Stp Int (Unit⊕Int)
 |v1=>(bif decide (v1<(a0.length:Int))then(bz a0 v1).bind λx1=>(a1 (x1,())).bind λr1=>(bif r1 then(some v1).map λa=> .inr (.inr a)else some (.inl (i64.wrap (v1+1))))else some (.inr (.inl ())))
def sP(a0:List fM)(a1:(fM×Unit)->Option Bool):Option Int:=
 dx (iter (GV a0 a1) n (0:Int)) λ()=>some ((-1):Int)
def lI(a0:List fM)(a1:(fM×Unit)->Option Bool):Option Bool:=
 (sP n a0 a1).bind λr1=>some (decide (r1>=0))
def jE(a1:fU)(r3:List aC):Stp Int (Unit⊕Bool)
 |v2=>(bif decide (v2<(r3.length:Int))then ck (cH v2 r3.length)<|(bz r3 ((0:Nat)+v2:Int)).bind λx1=>ck (bj (sub ([(ax.mk x1.bm x1.bx x1.bk x1.bu)]:List ax) 0 1).length 1)<|(Gu n a1.area (sub ([(ax.mk x1.bm x1.bx x1.bk x1.bu)]:List ax) 0 1)).bind λr4=>((bif (r4.2 !=0)then some true else(Kv n r4.1).bind λr5=>(wN (ax.mk x1.bm x1.bx x1.bk x1.bu)).bind λr6=>some (decide (r5<(r6:Int))))).bind λv3=>(bif v3 then(some false).map λa=> .inr (.inr a)else some (.inl (i64.wrap (v2+1))))else some (.inr (.inl ())))
def jF(a0:bZ)(x2:bU):Stp Int (Unit⊕(Int⊕(Unit⊕Bool)))
 |v5=>(bif decide (v5<(x2.gives.length:Int))then(bz x2.gives v5).bind λx3=>(lI n a0.caps (λ (y1:fM×Unit)=>sO y1.1 x3)).bind λr7=>(bif (!r7)then((some false).map λa=> .inr (.inr a)).map λa=> .inr (.inr a)else some (.inl (i64.wrap (v5+1))))else some (.inr (.inl ())))
def jG(a0:bZ)(a2:aP):Stp Int (Unit⊕Bool)
 |v4=>(bif decide (v4<(a2.phases.length:Int))then(bz a2.phases v4).bind λx2=>dx (iter (jF n a0 x2) n (0:Int)) λ()=>some (.inl (i64.wrap (v4+1)))else some (.inr (.inl ())))
def nk(a0:bZ)(a1:fU)(a2:aP):Option Bool:=
 ((vw n a2).bind λr1=>(bif (!r1)then some true else(bif (a1.id !=(a2.lot:Int))then some true else(mQ n a1.area).bind λr2=>some (!r2)))).bind λv1=>(bif v1 then some false else(uo n a2).bind λr3=>dx (iter (jE n a1 r3) n (0:Int)) λ()=>dx (iter (jG n a0 a2) n (0:Int)) λ()=>some true)
def nG(a0:aP):Stp (Int×(List aC)) (List aC)
 |(v1,v2)=>(bif decide (v1<(a0.phases.length:Int))then(bz a0.phases v1).bind λx1=>ck (bP v2.length v2.length x1.az.length x1.az.length 72)<|jc (v2++x1.az) λr1=>ck (bj r1.length r1.length)<|some (.inl ((i64.wrap (v1+1)),r1))else ck (bj v2.length v2.length)<|some (.inr v2))
def q9(a0:aP):Option (List aC):=
 ck (bj 0 ([]:List aC).length)<|(iter (nG a0) n ((0:Int),([]:List aC))).bind λw1=>ck (bj (sub w1 0 w1.length).length w1.length)<|some (sub w1 0 w1.length)
def nH(a0:List dn):Stp (Int×(List iY)) (List iY)
 |(v1,v2)=>(bif decide (v1<(a0.length:Int))then(bz a0 v1).bind λx1=>ck ((a0.length:Int) !=0)<|(bz a0 (Int.tmod (i64.wrap (v1+1)) (a0.length:Int))).bind λx2=>ck (cH v1 ((a0.length:Int).toNat))<|(bz v2 ((0:Nat)+v1:Int)).bind λx3=>some (.inl ((i64.wrap (v1+1)),(v2.set ((0:Nat)+v1:Int).toNat (iY.mk x1.x x1.y x2.x x2.y))))else some (.inr v2))
def nS(a0:List dn):Option (List iY):=
 ck (decide ((a0.length:Int)<=(a0.length:Int))&&(decide (0<=(a0.length:Int))&&xG (a0.length:Int) 32))<|(iter (nH a0) n ((0:Int),(List.replicate (a0.length:Int).toNat (iY.mk 0 0 0 0)))).bind λw1=>ck (bj (sub w1 0 ((a0.length:Int).toNat)).length ((a0.length:Int).toNat))<|some (sub w1 0 ((a0.length:Int).toNat))
def rf(a0:dn):Option Bool:=
 (bif decide (0<=(a0.x:Int))then(bif decide (a0.x<=1048576)then(bif decide (0<=(a0.y:Int))then some (decide (a0.y<=1048576))else some false)else some false)else some false)
def fV(a0:iY):Option Bool:=
 some (a0.kO==(a0.li:Int))
def tC(a0:List Int):Stp Int (Unit⊕Int)
 |v1=>(bif decide (v1<(a0.length:Int))then(bz a0 v1).bind λx1=>(bif (x1 !=0)then(some x1).map λa=> .inr (.inr a)else some (.inl (i64.wrap (v1+1))))else some (.inr (.inl ())))
def qf(a0:List Int):Option Int:=
 dx (iter (tC a0) n (0:Int)) λ()=>some (0:Int)
def pU(a0:dn)(a1:dn):Option Int:=
 (cmp_Compare_int a0.x a1.x).bind λr1=>(cmp_Compare_int a0.y a1.y).bind λr2=>ck (bj (sub ([r1,r2]:List Int) 0 2).length 2)<|(qf n (sub ([r1,r2]:List Int) 0 2)).bind λr3=>some r3
def kK(a0:iY)(a1:iY):Option Bool:=
 (bif decide ((max (min a0.kO a0.li) (min a1.kO a1.li))<=((min (max a0.kO a0.li) (max a1.kO a1.li)):Int))then some (decide ((max (min a0.oy a0.sR) (min a1.oy a1.sR))<=((min (max a0.oy a0.sR) (max a1.oy a1.sR)):Int)))else some false)
def oq(a0:List dn)(r1:List iY):Stp Int (Unit⊕Bool)
 |v2=>(bif decide (v2<(r1.length:Int))then ck (cH v2 r1.length)<|(bz r1 ((0:Nat)+v2:Int)).bind λx1=>ck ((r1.length:Int) !=0)<|ck (cH (Int.tmod (i64.wrap (v2+1)) (r1.length:Int)) r1.length)<|(bz r1 ((0:Nat)+(Int.tmod (i64.wrap (v2+1)) (r1.length:Int)):Int)).bind λx2=>((rf (dn.mk x1.kO x1.oy)).bind λr2=>(bif (!r2)then some true else(bif ((x1.kO==(x1.li:Int))==(x1.oy==(x1.sR:Int)))then some true else(fV x1).bind λr3=>(fV x2).bind λr4=>some (r3==r4)))).bind λv3=>(bif v3 then(some false).map λa=> .inr (.inr a)else((bif decide (v2>0)then(bz a0 0).bind λx3=>(bz a0 v2).bind λx4=>(pU n x3 x4).bind λr5=>some (decide (r5>=0))else some false)).bind λv4=>(bif v4 then(some false).map λa=> .inr (.inr a)else some (.inl (i64.wrap (v2+1)))))else some (.inr (.inl ())))
def ig(r1:List iY)(v5:Int):Stp Int (Unit⊕(Int⊕(Unit⊕Bool)))
 |v6=>(bif decide (v6<(r1.length:Int))then((bif (decide ((i64.wrap ((i64.wrap (v5+(r1.length:Int))) -v6))>1))then ck (cH v5 r1.length)<|(bz r1 ((0:Nat)+v5:Int)).bind λx5=>ck (cH v6 r1.length)<|(bz r1 ((0:Nat)+v6:Int)).bind λx6=>(kK x5 x6).bind λr6=>some r6 else some false)).bind λv7=>(bif v7 then((some false).map λa=> .inr (.inr a)).map λa=> .inr (.inr a)else some (.inl (i64.wrap (v6+1))))else some (.inr (.inl ())))
def ow(r1:List iY):Stp Int (Unit⊕Bool)
 |v5=>(bif decide (v5<(r1.length:Int))then dx (iter (ig r1 v5) n (i64.wrap (v5+2))) λ()=>some (.inl (i64.wrap (v5+1)))else some (.inr (.inl ())))
def tF(a0:List dn):Option Bool:=
 ((bif decide ((a0.length:Int)<4)then some true else some (decide ((a0.length:Int)>60)))).bind λv1=>(bif v1 then some false else(nS n a0).bind λr1=>dx (iter (oq n a0 r1) n (0:Int)) λ()=>dx (iter (ow n r1) n (0:Int)) λ()=>ck (cH 0 r1.length)<|(bz r1 ((0:Nat)+0:Int)).bind λx7=>(fV x7).bind λr7=>some (!r7))
def kL(a0:List dn):Stp (Int×(List Int)) (List Int)
 |(v1,v2)=>(bif decide (v1<(a0.length:Int))then(bz a0 v1).bind λx1=>ck (bP v2.length v2.length (sub ([x1.x]:List Int) 0 1).length 1 8)<|jc (v2++(sub ([x1.x]:List Int) 0 1)) λr2=>ck (bj r2.length r2.length)<|some (.inl ((i64.wrap (v1+1)),r2))else ck (bj v2.length v2.length)<|some (.inr v2))
def kM(r4:Unit×(List Int))(r5:List iY)(v3:Int):Stp (Int×(List Int)) (List Int)
 |(v5,v6)=>(bif decide (v5<(r5.length:Int))then(ck (cH v5 r5.length)<|(bz r5 ((0:Nat)+v5:Int)).bind λx2=>((fV x2).bind λr6=>(bif (!r6)then ck (cH v3 r4.2.length)<|(bz r4.2 ((0:Nat)+v3:Int)).bind λx3=>(bif decide ((min x2.kO x2.li)<=(x3:Int))then ck (cH v3 r4.2.length)<|(bz r4.2 ((0:Nat)+v3:Int)).bind λx4=>some (decide (x4<((max x2.kO x2.li):Int)))else some false)else some false)).bind λv7=>(bif v7 then ck (bP v6.length v6.length (sub ([x2.oy]:List Int) 0 1).length 1 8)<|jc (v6++(sub ([x2.oy]:List Int) 0 1)) λr7=>ck (bj r7.length r7.length)<|some r7 else ck (bj v6.length v6.length)<|some v6):Option ((List Int))).bind λv8=>ck (bj v8.length v8.length)<|some (.inl ((i64.wrap (v5+1)),v8))else ck (bj v6.length v6.length)<|some (.inr v6))
def iO(r4:Unit×(List Int))(v3:Int)(w2:List Int)(r8:List Int):Stp (Int×(List ax)) (List ax)
 |(v9,v10)=>(bif decide ((i64.wrap (v9+1))<(w2.length:Int))then ck (cH v3 r4.2.length)<|(bz r4.2 ((0:Nat)+v3:Int)).bind λx5=>ck (cH v9 w2.length)<|(bz r8 ((0:Nat)+v9:Int)).bind λx6=>ck (cH (i64.wrap (v3+1)) r4.2.length)<|(bz r4.2 ((0:Nat)+(i64.wrap (v3+1)):Int)).bind λx7=>ck (cH (i64.wrap (v9+1)) w2.length)<|(bz r8 ((0:Nat)+(i64.wrap (v9+1)):Int)).bind λx8=>ck (bP v10.length v10.length (sub ([(ax.mk x5 x6 x7 x8)]:List ax) 0 1).length 1 32)<|jc (v10++(sub ([(ax.mk x5 x6 x7 x8)]:List ax) 0 1)) λr9=>ck (bj r9.length r9.length)<|some (.inl ((i64.wrap (v9+2)),r9))else ck (bj v10.length v10.length)<|some (.inr v10))
def kN(r4:Unit×(List Int))(r5:List iY):Stp (Int×(List ax)) (List ax)
 |(v3,v4)=>(bif (decide (v3<((i64.wrap ((r4.2.length:Int) -1)):Int)))then ck (bj 0 ([]:List Int).length)<|(iter (kM r4 r5 v3) n ((0:Int),([]:List Int))).bind λw2=>ck (bj w2.length w2.length)<|(nQ n w2).bind λr8=>ck (bj v4.length v4.length)<|(iter (iO r4 v3 w2 r8) n ((0:Int),v4)).bind λw3=>ck (bj w3.length w3.length)<|some (.inl ((i64.wrap (v3+1)),w3))else ck (bj v4.length v4.length)<|some (.inr v4))
def rq(a0:List dn):Option ((List ax)×Int):=
 (tF n a0).bind λr1=>(bif (!r1)then some (([]:(List ax)),(10:Int))else ck (bj 0 ([]:List Int).length)<|(iter (kL a0) n ((0:Int),([]:List Int))).bind λw1=>ck (bj w1.length w1.length)<|(nQ n w1).bind λr3=>ck (bj w1.length r3.length)<|(nR n r3).bind λr4=>(nS n a0).bind λr5=>ck (bj 0 ([]:List ax).length)<|(iter (kN n r4 r5) n ((0:Int),([]:List ax))).bind λw4=>(bif decide ((w4.length:Int)>200)then some (([]:(List ax)),(6:Int))else ck (bj (sub w4 0 w4.length).length w4.length)<|some ((sub w4 0 w4.length),(0:Int))))
def vC(a0:dH):Option (List ax):=
 (rq n a0.corners).bind λr1=>(bif (r1.2 !=0)then some ([]:(List ax))else ck (bj (sub r1.1 0 r1.1.length).length r1.1.length)<|some (sub r1.1 0 r1.1.length))
def oC(a1:List ax)(x1:ax):Stp (Int×Int×Int×Int) (Int×Int×Int)
 |(v5,v6,v7,v8)=>(bif decide (v6<(a1.length:Int))then((bz a1 v6).bind λx2=>(qC x1 x2).bind λr1=>(bif (!r1.2)then some (v5,v7,v8)else(wN r1.1).bind λr2=>(cmp_Compare_int r1.1.x0 v7).bind λr3=>(cmp_Compare_int r1.1.y0 v8).bind λr4=>ck (bj (sub ([r3,r4]:List Int) 0 2).length 2)<|(qf n (sub ([r3,r4]:List Int) 0 2)).bind λr5=>(bif decide (r5<0)then some ((i64.wrap (v5+r2)),r1.1.x0,r1.1.y0)else some ((i64.wrap (v5+r2)),v7,v8))):Option (Int×Int×Int)).bind λ(v9,v10,v11)=>some (.inl (v9,(i64.wrap (v6+1)),v10,v11))else some (.inr (v5,v7,v8)))
def oD(a0:List ax)(a1:List ax):Stp (Int×Int×Int×Int) (Int×Int×Int)
 |(v1,v2,v3,v4)=>(bif decide (v2<(a0.length:Int))then(bz a0 v2).bind λx1=>(iter (oC n a1 x1) n (v1,(0:Int),v3,v4)).bind λ(w1,w2,w3)=>some (.inl (w1,(i64.wrap (v2+1)),w2,w3))else some (.inr (v1,v3,v4)))
def tH(a0:List ax)(a1:List ax):Option (Int×dn):=
 (iter (oD n a0 a1) n ((0:Int),(0:Int),(1048576:Int),(0:Int))).bind λ(w4,w5,w6)=>some (w4,(dn.mk w5 w6))
def oF(a0:bZ)(a1:List ax):Stp (Int×(List Int)) (List Int)
 |(v1,v2)=>(bif decide (v1<(a0.zones.length:Int))then(bz a0.zones v1).bind λx1=>(vC n x1).bind λr2=>ck (bj (sub r2 0 r2.length).length r2.length)<|(tH n a1 (sub r2 0 r2.length)).bind λr3=>ck (bP v2.length v2.length (sub ([r3.1]:List Int) 0 1).length 1 8)<|jc (v2++(sub ([r3.1]:List Int) 0 1)) λr4=>ck (bj r4.length r4.length)<|some (.inl ((i64.wrap (v1+1)),r4))else ck (bj v2.length v2.length)<|some (.inr v2))
def tJ(a0:bZ)(a1:List ax):Option (List Int):=
 (mQ n a1).bind λr1=>(bif (!r1)then some ([]:(List Int))else ck (bj 0 ([]:List Int).length)<|(iter (oF n a0 a1) n ((0:Int),([]:List Int))).bind λw1=>ck (bj (sub w1 0 w1.length).length w1.length)<|some (sub w1 0 w1.length))
def oG(a0:bZ)(r1:List Int):Stp (Int×Int) Int
 |(v1,v2)=>(bif decide (v2<(r1.length:Int))then(ck (cH v2 r1.length)<|(bz r1 ((0:Nat)+v2:Int)).bind λx1=>((bz a0.zones v2).bind λx2=>(bif (!x2.overlay)then(bif decide (x1>0)then(bif decide (v1<0)then some true else ck (cH v1 r1.length)<|(bz r1 ((0:Nat)+v1:Int)).bind λx3=>some (decide (x1>(x3:Int))))else some false)else some false)).bind λv3=>(bif v3 then some v2 else some v1):Option Int).bind λv4=>some (.inl (v4,(i64.wrap (v2+1))))else some (.inr v1))
def vD(a0:bZ)(r1:List Int)(w1:Int):Stp (Int×(List ByteArray)) (List ByteArray)
 |(v5,v6)=>(bif decide (v5<(r1.length:Int))then(ck (cH v5 r1.length)<|(bz r1 ((0:Nat)+v5:Int)).bind λx4=>((bif (v5==(w1:Int))then some true else(bz a0.zones v5).bind λx5=>(bif x5.overlay then some (decide (x4>0))else some false))).bind λv7=>(bif v7 then(bz a0.zones v5).bind λx6=>ck (bP v6.length v6.length (sub ([x6.name]:List ByteArray) 0 1).length 1 16)<|jc (v6++(sub ([x6.name]:List ByteArray) 0 1)) λr2=>ck (bj r2.length r2.length)<|some r2 else ck (bj v6.length v6.length)<|some v6):Option ((List ByteArray))).bind λv8=>ck (bj v8.length v8.length)<|some (.inl ((i64.wrap (v5+1)),v8))else ck (bj v6.length v6.length)<|some (.inr v6))
def AA(a0:bZ)(a1:List ax):Option (List ByteArray):=
 (tJ n a0 a1).bind λr1=>(iter (oG a0 r1) n (((-1):Int),(0:Int))).bind λw1=>ck (bj 0 ([]:List ByteArray).length)<|(iter (vD a0 r1 w1) n ((0:Int),([]:List ByteArray))).bind λw2=>ck (bj (sub w2 0 w2.length).length w2.length)<|some (sub w2 0 w2.length)
def uF(a0:dS)(a1:aP):Option (kX×Int):=
 (Kh n a0.land a1.lot).bind λr1=>(bif (!r1.2)then some ((kX.mk ([]) ([]) ([]) ([]) ([]) ([]) ([]) 0 ([]) ([]) ([]) ([]) ([]) 0 0 ([]) ([]) 0 ([]) ([]) ([])),(4:Int))else(nk n (bZ.mk a0.ci a0.b7 a0.b8 a0.aE a0.cm a0.cd a0.cw a0.cg) r1.1 a1).bind λr2=>(bif (!r2)then some ((kX.mk ([]) ([]) ([]) ([]) ([]) ([]) ([]) 0 ([]) ([]) ([]) ([]) ([]) 0 0 ([]) ([]) 0 ([]) ([]) ([])),(1:Int))else(q9 n a1).bind λr3=>(AA n (bZ.mk a0.ci a0.b7 a0.b8 a0.aE a0.cm a0.cd a0.cw a0.cg) r1.1.area).bind λr4=>ck (bj (sub r3 0 r3.length).length r3.length)<|ck (bj (sub r4 0 r4.length).length r4.length)<|some ((kX.mk a0.ci a0.b7 a0.b8 a0.aE a0.cm a0.cd a0.cw a0.cg a0.land a0.b9 a0.windows a0.built a0.base r1.1.id r1.1.owner r1.1.area r1.1.from_ a1.lot a1.phases (sub r3 0 r3.length) (sub r4 0 r4.length)),(0:Int))))
def mq(a0:List ByteArray)(a1:ByteArray):Stp Int (Unit⊕Int)
 |v1=>(bif decide (v1<(a0.length:Int))then(bz a0 v1).bind λx1=>(bif (ByteArray.toList a1==ByteArray.toList x1)then(some v1).map λa=> .inr (.inr a)else some (.inl (i64.wrap (v1+1))))else some (.inr (.inl ())))
def pV(a0:List ByteArray)(a1:ByteArray):Option Int:=
 dx (iter (mq a0 a1) n (0:Int)) λ()=>some ((-1):Int)
def eZ(a0:List ByteArray)(a1:ByteArray):Option Bool:=
 (pV n a0 a1).bind λr1=>some (decide (r1>=0))
def jH(a0:ByteArray)(a1:List ByteArray):Option Bool:=
 (eZ n a1 a0).bind λr1=>some r1
def Ck(a0:List ByteArray)(a1:(ByteArray×Unit)->Option Bool):Stp Int (Unit⊕Int)
 |v1=>(bif decide (v1<(a0.length:Int))then(bz a0 v1).bind λx1=>(a1 (x1,())).bind λr1=>(bif r1 then(some v1).map λa=> .inr (.inr a)else some (.inl (i64.wrap (v1+1))))else some (.inr (.inl ())))
def oV(a0:List ByteArray)(a1:(ByteArray×Unit)->Option Bool):Option Int:=
 dx (iter (Ck a0 a1) n (0:Int)) λ()=>some ((-1):Int)
def fA(a0:List ByteArray)(a1:(ByteArray×Unit)->Option Bool):Option Bool:=
 (oV n a0 a1).bind λr1=>some (decide (r1>=0))
def pz(a0:aO)(a1:List ByteArray):Option Bool:=
 (bif ((a0.zones.length:Int)==0)then(fA n a0.except (λ (y1:ByteArray×Unit)=>jH n y1.1 a1)).bind λr1=>some (!r1)else(fA n a0.zones (λ (y2:ByteArray×Unit)=>jH n y2.1 a1)).bind λr2=>(bif r2 then(fA n a0.except (λ (y3:ByteArray×Unit)=>jH n y3.1 a1)).bind λr3=>some (!r3)else some false))
def pW(a0:bZ)(a1:List ByteArray)(a2:Int):Stp (Int×(List Int)) (List Int)
 |(v1,v2)=>(bif decide (v1<(a0.rules.length:Int))then((bz a0.rules v1).bind λx1=>((bif decide (x1.from_<=(a2:Int))then(bif (x1.i6==0)then(pz n x1 a1).bind λr1=>some r1 else(bif decide (a2<(x1.i6:Int))then(pz n x1 a1).bind λr2=>some r2 else some false))else some false)).bind λv3=>(bif v3 then ck (bP v2.length v2.length (sub ([v1]:List Int) 0 1).length 1 8)<|jc (v2++(sub ([v1]:List Int) 0 1)) λr3=>ck (bj r3.length r3.length)<|some r3 else ck (bj v2.length v2.length)<|some v2):Option ((List Int))).bind λv4=>ck (bj v4.length v4.length)<|some (.inl ((i64.wrap (v1+1)),v4))else ck (bj v2.length v2.length)<|some (.inr v2))
def ru(a0:bZ)(a1:List ByteArray)(a2:Int):Option (List Int):=
 ck (bj 0 ([]:List Int).length)<|(iter (pW n a0 a1 a2) n ((0:Int),([]:List Int))).bind λw1=>ck (bj (sub w1 0 w1.length).length w1.length)<|some (sub w1 0 w1.length)
def sQ(_:Nat)(a0:List ax)(a1:(ax×ax×Unit)->Option Int):Option (List ax):=WQ a0 a1
def gX(a0:ax)(a1:ax):Option Int:=
 (cmp_Compare_int a0.y0 a1.y0).bind λr1=>some r1
def ko(a0:aC):Option Int:=
 ((bif a0.extra then some true else(fF a0).bind λr1=>some (!r1))).bind λv1=>(bif v1 then some (0:Int)else ck (3 !=0)<|some (i64.wrap (Int.tdiv (i64.wrap ((i64.wrap ((i64.wrap (a0.cz -a0.cP))+3)) -1)) 3)))
def nu(a0:aC):Option Int:=
 (fF a0).bind λr1=>(bif (!r1)then some (0:Int)else(wN (ax.mk a0.bm a0.bx a0.bk a0.bu)).bind λr2=>(ko a0).bind λr3=>some (i64.wrap (r2*r3)))
def mD(a0:aC):Option Int:=
 some a0.cz
def nC(a0:aC):Option Int:=
 some a0.units
def zh(a0:ax)(a1:Int):Option (ax×Bool):=
 (nE (ax.mk (i64.wrap (a0.x0 -a1)) (i64.wrap (a0.y0 -a1)) (i64.wrap (a0.x1+a1)) (i64.wrap (a0.y1+a1)))).bind λr1=>some ((ax.mk (i64.wrap (a0.x0 -a1)) (i64.wrap (a0.y0 -a1)) (i64.wrap (a0.x1+a1)) (i64.wrap (a0.y1+a1))),r1)
def jO(a0:bL)(a1:Gs)(a2:Int):Option Bool:=
 ck (cH a2 6)<|(bz ([a1.a0,a1.a1,a1.a2,a1.a3,a1.a4,a1.a5]:List ByteArray) a2).bind λx1=>some (ByteArray.toList a0.name==ByteArray.toList x1)
def Dm(a0:List bL)(a1:(bL×Unit)->Option Bool):Stp Int (Unit⊕Int)
 |v1=>(bif decide (v1<(a0.length:Int))then(bz a0 v1).bind λx1=>(a1 (x1,())).bind λr1=>(bif r1 then(some v1).map λa=> .inr (.inr a)else some (.inl (i64.wrap (v1+1))))else some (.inr (.inl ())))
def jP(a0:List bL)(a1:(bL×Unit)->Option Bool):Option Int:=
 dx (iter (Dm a0 a1) n (0:Int)) λ()=>some ((-1):Int)
def jQ(a0:bZ)(a1:Int):Stp Int (Unit⊕Int)
 |v1=>(bif decide (v1<(a0.tables.length:Int))then(bz a0.tables v1).bind λx1=>(bif (!(ByteArray.toList x1.name==ByteArray.toList (⟨#[116,114,97,102,102,105,99]⟩)))then some (.inl (i64.wrap (v1+1)))else((jP n x1.rows (λ (y1:bL×Unit)=>jO y1.1 (Gs.mk (⟨#[104,111,109,101]⟩) (⟨#[115,104,111,112]⟩) (⟨#[119,111,114,107]⟩) (⟨#[112,97,114,107]⟩) (⟨#[112,108,97,110,116]⟩) (⟨#[104,97,108,108]⟩)) a1)).bind λr1=>(bif decide (r1>=0)then(bz x1.rows r1).bind λx2=>some x2.n else some x1.p7):Option Int).bind λv2=>(some (max (0:Int) (min v2 (1048576:Int)))).map λa=> .inr (.inr a))else some (.inr (.inl ())))
def yB(a0:bZ)(a1:Int):Option Int:=
 dx (iter (jQ n a0 a1) n (0:Int)) λ()=>some (0:Int)
def kr(a0:bZ)(a1:aC):Option Int:=
 (yB n a0 a1.use).bind λr1=>(nu a1).bind λr2=>((bif decide (r1>0)then ck (r1 !=0)<|some (decide (r2>((i64.wrap (Int.tdiv 109951162777600 r1)):Int)))else some false)).bind λv1=>(bif v1 then some (1099511627776:Int)else ck (100 !=0)<|some (i64.wrap (Int.tdiv (i64.wrap ((i64.wrap ((i64.wrap (r1*r2))+100)) -1)) 100)))
def lJ(a0:List eH)(a1:List bS)(a2:List dH)(a3:List aO)(a4:List fM)(a5:List eD)(a6:List bO)(a7:Int)(a8:List ax)(a9:List aC):Option (Int×gB):=
 (Kv n a8).bind λr1=>ck (bj a9.length a9.length)<|some (r1,a0,a1,a2,a3,a4,a5,a6,a7,a8,a9)
def fJ(a9:List aC):Stp (Int×(List ax)×(List Int)) ((List ax)×(List Int))
 |(v1,v2,v3)=>(bif decide (v1<(a9.length:Int))then ck (cH v1 a9.length)<|(bz a9 ((0:Nat)+v1:Int)).bind λx1=>ck (cH v1 ((a9.length:Int).toNat))<|(bz v2 ((0:Nat)+v1:Int)).bind λx2=>ck (cH v1 ((a9.length:Int).toNat))<|(bz (v2.set ((0:Nat)+v1:Int).toNat (ax.mk x1.bm x1.bx x1.bk x1.bu)) ((0:Nat)+v1:Int)).bind λx3=>ck (cH v1 ((a9.length:Int).toNat))<|(bz (v2.set ((0:Nat)+v1:Int).toNat (ax.mk x1.bm x1.bx x1.bk x1.bu)) ((0:Nat)+v1:Int)).bind λx4=>ck (bP v3.length v3.length (sub ([x3.x0,x4.x1]:List Int) 0 2).length 2 8)<|jc (v3++(sub ([x3.x0,x4.x1]:List Int) 0 2)) λr1=>ck (bj r1.length r1.length)<|some (.inl ((i64.wrap (v1+1)),(v2.set ((0:Nat)+v1:Int).toNat (ax.mk x1.bm x1.bx x1.bk x1.bu)),r1))else ck (bj v3.length v3.length)<|some (.inr (v2,v3)))
def iy(a9:List aC)(w2:List Int)(r2:List ax)(r3:List Int)(v5:Int):Stp (Int×Int×Int) Int
 |(v6,v7,v8)=>(bif (decide (v8<((((a9.length:Int).toNat:Nat):Int):Int)))then(ck (cH v8 ((a9.length:Int).toNat))<|(bz r2 ((0:Nat)+v8:Int)).bind λx5=>(ck (cH v5 w2.length)<|(bz r3 ((0:Nat)+v5:Int)).bind λx6=>(bif decide (x5.x0<=(x6:Int))then ck (cH v5 w2.length)<|(bz r3 ((0:Nat)+v5:Int)).bind λx7=>(bif decide (x7<(x5.x1:Int))then some (decide (x5.y1>(v7:Int)))else some false)else some false)).bind λv9=>(bif v9 then ck (cH (i64.wrap (v5+1)) w2.length)<|(bz r3 ((0:Nat)+(i64.wrap (v5+1)):Int)).bind λx8=>ck (cH v5 w2.length)<|(bz r3 ((0:Nat)+v5:Int)).bind λx9=>some ((i64.wrap (v6+(i64.wrap ((i64.wrap (x8 -x9))*(i64.wrap (x5.y1 -(max v7 x5.y0))))))),x5.y1)else some (v6,v7)):Option (Int×Int)).bind λ(v10,v11)=>some (.inl (v10,v11,(i64.wrap (v8+1))))else some (.inr v6))
def iA(a9:List aC)(w2:List Int)(r2:List ax)(r3:List Int):Stp (Int×Int) Int
 |(v4,v5)=>(bif (decide (v5<((max (0:Int) (i64.wrap ((w2.length:Int) -1))):Int)))then(iter (iy a9 w2 r2 r3 v5) n (v4,(0:Int),(0:Int))).bind λw3=>some (.inl (w3,(i64.wrap (v5+1))))else some (.inr v4))
def gY(a0:List eH)(a1:List bS)(a2:List dH)(a3:List aO)(a4:List fM)(a5:List eD)(a6:List bO)(a7:Int)(a8:List ax)(a9:List aC):Option (Int×gB):=
 ck (decide ((a9.length:Int)<=(a9.length:Int))&&(decide (0<=(a9.length:Int))&&xG (a9.length:Int) 32))<|ck (bj 0 ([]:List Int).length)<|(iter (fJ a9) n ((0:Int),(List.replicate (a9.length:Int).toNat (ax.mk 0 0 0 0)),([]:List Int))).bind λ(w1,w2)=>ck (bj ((a9.length:Int).toNat) w1.length)<|(sQ n w1 (λ (y1:ax×ax×Unit)=>gX y1.1 y1.2.1)).bind λr2=>ck (bj w2.length w2.length)<|(nQ n w2).bind λr3=>(iter (iA n a9 w2 r2 r3) n ((0:Int),(0:Int))).bind λw4=>ck (bj a9.length a9.length)<|some (w4,a0,a1,a2,a3,a4,a5,a6,a7,a8,a9)
def je(a9:List aC):Stp (Int×Int) Int
 |(v1,v2)=>(bif decide (v2<(a9.length:Int))then ck (cH v2 a9.length)<|(bz a9 ((0:Nat)+v2:Int)).bind λx1=>(nu x1).bind λr1=>some (.inl ((i64.wrap (v1+r1)),(i64.wrap (v2+1))))else some (.inr v1))
def oW(a0:List eH)(a1:List bS)(a2:List dH)(a3:List aO)(a4:List fM)(a5:List eD)(a6:List bO)(a7:Int)(a8:List ax)(a9:List aC):Option (Int×gB):=
 (iter (je a9) n ((0:Int),(0:Int))).bind λw1=>ck (bj a9.length a9.length)<|some (w1,a0,a1,a2,a3,a4,a5,a6,a7,a8,a9)
def jU(a0:List eH)(a1:List bS)(a2:List dH)(a3:List aO)(a4:List fM)(a5:List eD)(a6:List bO)(a7:Int)(a8:List ax)(a9:List aC):Option (Int×gB):=
 ck (bj a9.length a9.length)<|(oW n a0 a1 a2 a3 a4 a5 a6 a7 a8 a9).bind λr1=>ck (bj r1.2.2.2.2.2.2.2.2.2.2.length r1.2.2.2.2.2.2.2.2.2.2.length)<|some (r1.1,r1.2.1,r1.2.2.1,r1.2.2.2.1,r1.2.2.2.2.1,r1.2.2.2.2.2.1,r1.2.2.2.2.2.2.1,r1.2.2.2.2.2.2.2.1,r1.2.2.2.2.2.2.2.2.1,r1.2.2.2.2.2.2.2.2.2.1,r1.2.2.2.2.2.2.2.2.2.2)
def gD(a9:List aC):Stp (Int×Int) Int
 |(v1,v2)=>(bif decide (v2<(a9.length:Int))then ck (cH v2 a9.length)<|(bz a9 ((0:Nat)+v2:Int)).bind λx1=>(ko x1).bind λr1=>some (.inl ((max v1 r1),(i64.wrap (v2+1))))else some (.inr v1))
def kY(a0:List eH)(a1:List bS)(a2:List dH)(a3:List aO)(a4:List fM)(a5:List eD)(a6:List bO)(a7:Int)(a8:List ax)(a9:List aC):Option (Int×gB):=
 (iter (gD a9) n ((0:Int),(0:Int))).bind λw1=>ck (bj a9.length a9.length)<|some (w1,a0,a1,a2,a3,a4,a5,a6,a7,a8,a9)
def jf(a0:List eH)(a1:List bS)(a2:List dH)(a3:List aO)(a4:List fM)(a5:List eD)(a6:List bO)(a7:Int)(a8:List ax)(a9:List aC):Option (Int×gB):=
 ck (bj a9.length a9.length)<|(kY n a0 a1 a2 a3 a4 a5 a6 a7 a8 a9).bind λr1=>ck (bj r1.2.2.2.2.2.2.2.2.2.2.length r1.2.2.2.2.2.2.2.2.2.2.length)<|some (r1.1,r1.2.1,r1.2.2.1,r1.2.2.2.1,r1.2.2.2.2.1,r1.2.2.2.2.2.1,r1.2.2.2.2.2.2.1,r1.2.2.2.2.2.2.2.1,r1.2.2.2.2.2.2.2.2.1,r1.2.2.2.2.2.2.2.2.2.1,r1.2.2.2.2.2.2.2.2.2.2)
def gF(a9:List aC):Stp (Int×Int) Int
 |(v1,v2)=>(bif decide (v2<(a9.length:Int))then ck (cH v2 a9.length)<|(bz a9 ((0:Nat)+v2:Int)).bind λx1=>(mD x1).bind λr1=>some (.inl ((max v1 r1),(i64.wrap (v2+1))))else some (.inr v1))
def kZ(a0:List eH)(a1:List bS)(a2:List dH)(a3:List aO)(a4:List fM)(a5:List eD)(a6:List bO)(a7:Int)(a8:List ax)(a9:List aC):Option (Int×gB):=
 (iter (gF a9) n ((0:Int),(0:Int))).bind λw1=>ck (bj a9.length a9.length)<|some (w1,a0,a1,a2,a3,a4,a5,a6,a7,a8,a9)
def jg(a0:List eH)(a1:List bS)(a2:List dH)(a3:List aO)(a4:List fM)(a5:List eD)(a6:List bO)(a7:Int)(a8:List ax)(a9:List aC):Option (Int×gB):=
 ck (bj a9.length a9.length)<|(kZ n a0 a1 a2 a3 a4 a5 a6 a7 a8 a9).bind λr1=>ck (bj r1.2.2.2.2.2.2.2.2.2.2.length r1.2.2.2.2.2.2.2.2.2.2.length)<|some (r1.1,r1.2.1,r1.2.2.1,r1.2.2.2.1,r1.2.2.2.2.1,r1.2.2.2.2.2.1,r1.2.2.2.2.2.2.1,r1.2.2.2.2.2.2.2.1,r1.2.2.2.2.2.2.2.2.1,r1.2.2.2.2.2.2.2.2.2.1,r1.2.2.2.2.2.2.2.2.2.2)
def jh(a9:List aC):Stp (Int×Int) Int
 |(v1,v2)=>(bif decide (v2<(a9.length:Int))then ck (cH v2 a9.length)<|(bz a9 ((0:Nat)+v2:Int)).bind λx1=>(nC x1).bind λr1=>some (.inl ((i64.wrap (v1+r1)),(i64.wrap (v2+1))))else some (.inr v1))
def oZ(a0:List eH)(a1:List bS)(a2:List dH)(a3:List aO)(a4:List fM)(a5:List eD)(a6:List bO)(a7:Int)(a8:List ax)(a9:List aC):Option (Int×gB):=
 (iter (jh a9) n ((0:Int),(0:Int))).bind λw1=>ck (bj a9.length a9.length)<|some (w1,a0,a1,a2,a3,a4,a5,a6,a7,a8,a9)
def jV(a0:List eH)(a1:List bS)(a2:List dH)(a3:List aO)(a4:List fM)(a5:List eD)(a6:List bO)(a7:Int)(a8:List ax)(a9:List aC):Option (Int×gB):=
 ck (bj a9.length a9.length)<|(oZ n a0 a1 a2 a3 a4 a5 a6 a7 a8 a9).bind λr1=>ck (bj r1.2.2.2.2.2.2.2.2.2.2.length r1.2.2.2.2.2.2.2.2.2.2.length)<|some (r1.1,r1.2.1,r1.2.2.1,r1.2.2.2.1,r1.2.2.2.2.1,r1.2.2.2.2.2.1,r1.2.2.2.2.2.2.1,r1.2.2.2.2.2.2.2.1,r1.2.2.2.2.2.2.2.2.1,r1.2.2.2.2.2.2.2.2.2.1,r1.2.2.2.2.2.2.2.2.2.2)
def gU(iv:List ax)(r1:ax×Bool):Stp (Int×Int) Int
 |(v1,v2)=>(bif decide (v2<(iv.length:Int))then((bz iv v2).bind λx1=>(qC r1.1 x1).bind λr2=>(bif r2.2 then(wN r2.1).bind λr3=>some (i64.wrap (v1+r3))else some v1):Option Int).bind λv3=>some (.inl (v3,(i64.wrap (v2+1))))else some (.inr v1))
def ji(a0:ax)(a1:Int)(a2:List eH)(a3:List bS)(a4:List dH)(a5:List aO)(a6:List fM)(a7:List eD)(a8:List bO)(a9:Int)(iv:List ax)(ri:List aC):Option (Bool×gB):=
 (zh a0 a1).bind λr1=>(bif (!r1.2)then ck (bj ri.length ri.length)<|some (false,a2,a3,a4,a5,a6,a7,a8,a9,iv,ri)else(iter (gU iv r1) n ((0:Int),(0:Int))).bind λw1=>(wN r1.1).bind λr4=>ck (bj ri.length ri.length)<|some ((w1==(r4:Int)),a2,a3,a4,a5,a6,a7,a8,a9,iv,ri))
def dX(x1:aC):Stp (Int×Int×gB) (Int×gB)
 |(v13,v14,v15,v16,v17,v18,v19,v20,v21,v22,v23,v24)=>(bif decide (v13<(v14:Int))then ck (2 !=0)<|ck (bj v24.length v24.length)<|(ji n (ax.mk x1.bm x1.bx x1.bk x1.bu) (i64.wrap (Int.tdiv (i64.wrap ((i64.wrap (v13+v14))+1)) 2)) v15 v16 v17 v18 v19 v20 v21 v22 v23 v24).bind λr1=>(bif r1.1 then ck (bj r1.2.2.2.2.2.2.2.2.2.2.length r1.2.2.2.2.2.2.2.2.2.2.length)<|some (.inl ((i64.wrap (Int.tdiv (i64.wrap ((i64.wrap (v13+v14))+1)) 2)),v14,r1.2.1,r1.2.2.1,r1.2.2.2.1,r1.2.2.2.2.1,r1.2.2.2.2.2.1,r1.2.2.2.2.2.2.1,r1.2.2.2.2.2.2.2.1,r1.2.2.2.2.2.2.2.2.1,r1.2.2.2.2.2.2.2.2.2.1,r1.2.2.2.2.2.2.2.2.2.2))else ck (bj r1.2.2.2.2.2.2.2.2.2.2.length r1.2.2.2.2.2.2.2.2.2.2.length)<|some (.inl (v13,(i64.wrap ((i64.wrap (Int.tdiv (i64.wrap ((i64.wrap (v13+v14))+1)) 2)) -1)),r1.2.1,r1.2.2.1,r1.2.2.2.1,r1.2.2.2.2.1,r1.2.2.2.2.2.1,r1.2.2.2.2.2.2.1,r1.2.2.2.2.2.2.2.1,r1.2.2.2.2.2.2.2.2.1,r1.2.2.2.2.2.2.2.2.2.1,r1.2.2.2.2.2.2.2.2.2.2)))else ck (bj v24.length v24.length)<|some (.inr (v13,v15,v16,v17,v18,v19,v20,v21,v22,v23,v24)))
def gK(a9:List aC):Stp (Int×Int×gB) (Int×gB)
 |(v1,v2,v3,v4,v5,v6,v7,v8,v9,v10,v11,v12)=>(bif decide (v2<(a9.length:Int))then ck (cH v2 a9.length)<|(bz v12 ((0:Nat)+v2:Int)).bind λx1=>ck (bj v12.length v12.length)<|(iter (dX n x1) n ((0:Int),v1,v3,v4,v5,v6,v7,v8,v9,v10,v11,v12)).bind λ(w1,w2,w3,w4,w5,w6,w7,w8,w9,wg,we)=>ck (bj we.length we.length)<|some (.inl (w1,(i64.wrap (v2+1)),w2,w3,w4,w5,w6,w7,w8,w9,wg,we))else ck (bj v12.length v12.length)<|some (.inr (v1,v3,v4,v5,v6,v7,v8,v9,v10,v11,v12)))
def iP(a0:List eH)(a1:List bS)(a2:List dH)(a3:List aO)(a4:List fM)(a5:List eD)(a6:List bO)(a7:Int)(a8:List ax)(a9:List aC):Option (Int×gB):=
 ck (bj a9.length a9.length)<|(iter (gK n a9) n ((1048576:Int),(0:Int),a0,a1,a2,a3,a4,a5,a6,a7,a8,a9)).bind λ(w12,w13,w14,w15,w16,w17,w18,w19,w20,w21,HS)=>ck (bj HS.length HS.length)<|some (w12,w13,w14,w15,w16,w17,w18,w19,w20,w21,HS)
def jR(a0:aC)(a1:List eH)(a2:List bS)(a3:List dH)(a4:List aO)(a5:List fM)(a6:List eD)(a7:List bO)(a8:Int)(a9:List ax)(iv:List aC):Option (Int×gB):=
 (kr n (bZ.mk a1 a2 a3 a4 a5 a6 a7 a8) a0).bind λr1=>ck (bj iv.length iv.length)<|some (r1,a1,a2,a3,a4,a5,a6,a7,a8,a9,iv)
def jk(a9:List aC):Stp (Int×Int×gB) (Int×gB)
 |(v1,v2,v3,v4,v5,v6,v7,v8,v9,v10,v11,v12)=>(bif decide (v2<(a9.length:Int))then ck (cH v2 a9.length)<|(bz v12 ((0:Nat)+v2:Int)).bind λx1=>ck (bj v12.length v12.length)<|(jR n x1 v3 v4 v5 v6 v7 v8 v9 v10 v11 v12).bind λr1=>ck (bj r1.2.2.2.2.2.2.2.2.2.2.length r1.2.2.2.2.2.2.2.2.2.2.length)<|some (.inl ((i64.wrap (v1+r1.1)),(i64.wrap (v2+1)),r1.2.1,r1.2.2.1,r1.2.2.2.1,r1.2.2.2.2.1,r1.2.2.2.2.2.1,r1.2.2.2.2.2.2.1,r1.2.2.2.2.2.2.2.1,r1.2.2.2.2.2.2.2.2.1,r1.2.2.2.2.2.2.2.2.2.1,r1.2.2.2.2.2.2.2.2.2.2))else ck (bj v12.length v12.length)<|some (.inr (v1,v3,v4,v5,v6,v7,v8,v9,v10,v11,v12)))
def o6(a0:List eH)(a1:List bS)(a2:List dH)(a3:List aO)(a4:List fM)(a5:List eD)(a6:List bO)(a7:Int)(a8:List ax)(a9:List aC):Option (Int×gB):=
 ck (bj a9.length a9.length)<|(iter (jk n a9) n ((0:Int),(0:Int),a0,a1,a2,a3,a4,a5,a6,a7,a8,a9)).bind λ(w1,w2,w3,w4,w5,w6,w7,w8,w9,wg,we)=>ck (bj we.length we.length)<|some (w1,w2,w3,w4,w5,w6,w7,w8,w9,wg,we)
def iQ(a0:List eH)(a1:List bS)(a2:List dH)(a3:List aO)(a4:List fM)(a5:List eD)(a6:List bO)(a7:Int)(a8:List ax)(a9:List aC):Option (Int×gB):=
 ck (bj a9.length a9.length)<|(o6 n a0 a1 a2 a3 a4 a5 a6 a7 a8 a9).bind λr1=>ck (bj r1.2.2.2.2.2.2.2.2.2.2.length r1.2.2.2.2.2.2.2.2.2.2.length)<|some (r1.1,r1.2.1,r1.2.2.1,r1.2.2.2.1,r1.2.2.2.2.1,r1.2.2.2.2.2.1,r1.2.2.2.2.2.2.1,r1.2.2.2.2.2.2.2.1,r1.2.2.2.2.2.2.2.2.1,r1.2.2.2.2.2.2.2.2.2.1,r1.2.2.2.2.2.2.2.2.2.2)
def pE(r2:List aC):Stp (Int×gB) (gB)
 |(v10,v11,v12,v13,v14,v15,v16,v17,v18,v19,v20)=>(bif decide (v10<(r2.length:Int))then(ck (cH v10 r2.length)<|(bz r2 ((0:Nat)+v10:Int)).bind λx1=>((bif decide (v10<40)then(fF x1).bind λr3=>some r3 else some false)).bind λv21=>(bif v21 then ck (bP v20.length v20.length (sub ([x1]:List aC) 0 1).length 1 72)<|jc (v20++(sub ([x1]:List aC) 0 1)) λr4=>ck (bj r4.length r4.length)<|some (v11,v12,v13,v14,v15,v16,v17,v18,v19,r4)else ck (bj v20.length v20.length)<|some (v11,v12,v13,v14,v15,v16,v17,v18,v19,v20)):Option (gB)).bind λ(v22,v23,v24,v25,v26,v27,v28,v29,v30,v31)=>ck (bj v31.length v31.length)<|some (.inl ((i64.wrap (v10+1)),v22,v23,v24,v25,v26,v27,v28,v29,v30,v31))else ck (bj v20.length v20.length)<|some (.inr (v11,v12,v13,v14,v15,v16,v17,v18,v19,v20)))
def nT(a0:bZ)(a1:fU)(a2:aP):Option (List bL):=
 ((mQ n a1.area).bind λr1=>(bif r1 then some (a0.defs,a0.tables,a0.zones,a0.rules,a0.caps,a0.views,a0.ta,a0.hours,a1.area)else some (a0.defs,a0.tables,a0.zones,a0.rules,a0.caps,a0.views,a0.ta,a0.hours,([]:(List ax)))):Option ((List eH)×(List bS)×(List dH)×(List aO)×(List fM)×(List eD)×(List bO)×Int×(List ax))).bind λ(v1,v2,v3,v4,v5,v6,v7,v8,v9)=>(mO n a2 0 (a2.phases.length:Int)).bind λr2=>ck (bj 0 ([]:List aC).length)<|(iter (pE r2) n ((0:Int),v1,v2,v3,v4,v5,v6,v7,v8,v9,([]:List aC))).bind λ(w1,w2,w3,w4,w5,w6,w7,w8,w9,wg)=>ck (bj wg.length wg.length)<|(lJ n w1 w2 w3 w4 w5 w6 w7 w8 w9 wg).bind λr5=>ck (bP 0 0 (sub ([(bL.mk (⟨#[97,114,101,97]⟩) r5.1)]:List bL) 0 1).length 1 24)<|jc ((sub ([(bL.mk (⟨#[97,114,101,97]⟩) r5.1)]:List bL) 0 1)) λr6=>ck (bj r5.2.2.2.2.2.2.2.2.2.2.length r5.2.2.2.2.2.2.2.2.2.2.length)<|(gY n r5.2.1 r5.2.2.1 r5.2.2.2.1 r5.2.2.2.2.1 r5.2.2.2.2.2.1 r5.2.2.2.2.2.2.1 r5.2.2.2.2.2.2.2.1 r5.2.2.2.2.2.2.2.2.1 r5.2.2.2.2.2.2.2.2.2.1 r5.2.2.2.2.2.2.2.2.2.2).bind λr7=>ck (bP r6.length r6.length (sub ([(bL.mk (⟨#[99,111,118,101,114]⟩) r7.1)]:List bL) 0 1).length 1 24)<|jc (r6++(sub ([(bL.mk (⟨#[99,111,118,101,114]⟩) r7.1)]:List bL) 0 1)) λr8=>ck (bj r7.2.2.2.2.2.2.2.2.2.2.length r7.2.2.2.2.2.2.2.2.2.2.length)<|(jU n r7.2.1 r7.2.2.1 r7.2.2.2.1 r7.2.2.2.2.1 r7.2.2.2.2.2.1 r7.2.2.2.2.2.2.1 r7.2.2.2.2.2.2.2.1 r7.2.2.2.2.2.2.2.2.1 r7.2.2.2.2.2.2.2.2.2.1 r7.2.2.2.2.2.2.2.2.2.2).bind λr9=>ck (bP r8.length r8.length (sub ([(bL.mk (⟨#[102,108,111,111,114]⟩) r9.1)]:List bL) 0 1).length 1 24)<|jc (r8++(sub ([(bL.mk (⟨#[102,108,111,111,114]⟩) r9.1)]:List bL) 0 1)) λtd=>ck (bj r9.2.2.2.2.2.2.2.2.2.2.length r9.2.2.2.2.2.2.2.2.2.2.length)<|(jf n r9.2.1 r9.2.2.1 r9.2.2.2.1 r9.2.2.2.2.1 r9.2.2.2.2.2.1 r9.2.2.2.2.2.2.1 r9.2.2.2.2.2.2.2.1 r9.2.2.2.2.2.2.2.2.1 r9.2.2.2.2.2.2.2.2.2.1 r9.2.2.2.2.2.2.2.2.2.2).bind λqq=>ck (bP td.length td.length (sub ([(bL.mk (⟨#[102,108,111,111,114,115]⟩) qq.1)]:List bL) 0 1).length 1 24)<|jc (td++(sub ([(bL.mk (⟨#[102,108,111,111,114,115]⟩) qq.1)]:List bL) 0 1)) λCA=>ck (bj qq.2.2.2.2.2.2.2.2.2.2.length qq.2.2.2.2.2.2.2.2.2.2.length)<|(jg n qq.2.1 qq.2.2.1 qq.2.2.2.1 qq.2.2.2.2.1 qq.2.2.2.2.2.1 qq.2.2.2.2.2.2.1 qq.2.2.2.2.2.2.2.1 qq.2.2.2.2.2.2.2.2.1 qq.2.2.2.2.2.2.2.2.2.1 qq.2.2.2.2.2.2.2.2.2.2).bind λqn=>ck (bP CA.length CA.length (sub ([(bL.mk (⟨#[104,101,105,103,104,116]⟩) qn.1)]:List bL) 0 1).length 1 24)<|jc (CA++(sub ([(bL.mk (⟨#[104,101,105,103,104,116]⟩) qn.1)]:List bL) 0 1)) λCp=>ck (bj qn.2.2.2.2.2.2.2.2.2.2.length qn.2.2.2.2.2.2.2.2.2.2.length)<|(jV n qn.2.1 qn.2.2.1 qn.2.2.2.1 qn.2.2.2.2.1 qn.2.2.2.2.2.1 qn.2.2.2.2.2.2.1 qn.2.2.2.2.2.2.2.1 qn.2.2.2.2.2.2.2.2.1 qn.2.2.2.2.2.2.2.2.2.1 qn.2.2.2.2.2.2.2.2.2.2).bind λrK=>ck (bP Cp.length Cp.length (sub ([(bL.mk (⟨#[104,111,109,101,115]⟩) rK.1)]:List bL) 0 1).length 1 24)<|jc (Cp++(sub ([(bL.mk (⟨#[104,111,109,101,115]⟩) rK.1)]:List bL) 0 1)) λr16=>ck (bj rK.2.2.2.2.2.2.2.2.2.2.length rK.2.2.2.2.2.2.2.2.2.2.length)<|(gY n rK.2.1 rK.2.2.1 rK.2.2.2.1 rK.2.2.2.2.1 rK.2.2.2.2.2.1 rK.2.2.2.2.2.2.1 rK.2.2.2.2.2.2.2.1 rK.2.2.2.2.2.2.2.2.1 rK.2.2.2.2.2.2.2.2.2.1 rK.2.2.2.2.2.2.2.2.2.2).bind λrI=>ck (bP r16.length r16.length (sub ([(bL.mk (⟨#[114,117,110,111,102,102]⟩) rI.1)]:List bL) 0 1).length 1 24)<|jc (r16++(sub ([(bL.mk (⟨#[114,117,110,111,102,102]⟩) rI.1)]:List bL) 0 1)) λH2=>ck (bj rI.2.2.2.2.2.2.2.2.2.2.length rI.2.2.2.2.2.2.2.2.2.2.length)<|(iP n rI.2.1 rI.2.2.1 rI.2.2.2.1 rI.2.2.2.2.1 rI.2.2.2.2.2.1 rI.2.2.2.2.2.2.1 rI.2.2.2.2.2.2.2.1 rI.2.2.2.2.2.2.2.2.1 rI.2.2.2.2.2.2.2.2.2.1 rI.2.2.2.2.2.2.2.2.2.2).bind λry=>ck (bP H2.length H2.length (sub ([(bL.mk (⟨#[115,101,116,98,97,99,107]⟩) ry.1)]:List bL) 0 1).length 1 24)<|jc (H2++(sub ([(bL.mk (⟨#[115,101,116,98,97,99,107]⟩) ry.1)]:List bL) 0 1)) λH0=>ck (bj ry.2.2.2.2.2.2.2.2.2.2.length ry.2.2.2.2.2.2.2.2.2.2.length)<|(iQ n ry.2.1 ry.2.2.1 ry.2.2.2.1 ry.2.2.2.2.1 ry.2.2.2.2.2.1 ry.2.2.2.2.2.2.1 ry.2.2.2.2.2.2.2.1 ry.2.2.2.2.2.2.2.2.1 ry.2.2.2.2.2.2.2.2.2.1 ry.2.2.2.2.2.2.2.2.2.2).bind λPT=>ck (bP H0.length H0.length (sub ([(bL.mk (⟨#[116,114,97,102,102,105,99]⟩) PT.1)]:List bL) 0 1).length 1 24)<|jc (H0++(sub ([(bL.mk (⟨#[116,114,97,102,102,105,99]⟩) PT.1)]:List bL) 0 1)) λCl=>ck (bj (sub Cl 0 Cl.length).length Cl.length)<|some (sub Cl 0 Cl.length)
def wO(a0:Int):Option (Int×Bool):=
 ((bif (a0==0)then some (a0==0)else(bif (a0==1)then some (a0==1)else(bif (a0==2)then some (a0==2)else some (a0==3))))).bind λv1=>(bif v1 then some ((0:Int),true)else((bif (a0==9)then some (a0==9)else some (a0==15))).bind λv2=>(bif v2 then some ((1:Int),true)else(bif (a0==16)then some ((3:Int),true)else(bif decide (a0>=0)then some ((2:Int),(decide (a0<17)))else some ((2:Int),false)))))
def vE(n:Nat)(rc:(bH)->(Int)->Option Int)(a0:bH)(a1:Int):Stp (Int×Int) Int
 |(v2,v3)=>(bif decide (v3<(a0.args.length:Int))then(bz a0.args v3).bind λx1=>(rc (bH.mk x1.op x1.n x1.s x1.key x1.args) (i64.wrap (a1+1))).bind λr2=>some (.inl ((max v2 r2),(i64.wrap (v3+1))))else some (.inr v2))
def yC(rc:(bH)->(Int)->Option Int)(a0:bH)(a1:Int):Option Int:=
 (wO a0.op).bind λr1=>((bif (!r1.2)then some true else(bif (r1.1 !=(a0.args.length:Int))then some true else some (decide (a1>=12))))).bind λv1=>(bif v1 then some (13:Int)else(iter (vE n rc a0 a1) n ((0:Int),(0:Int))).bind λw1=>some (i64.wrap (w1+1)))
def Cm(rc:(bH)->(Int)->Option Int):ca xx:=⟨[.d (.st SI.Expr),.d (.int .i64)],[.d (.int .i64)],λa=>rc a.1 a.2.1,none⟩
def qE(n:Nat):Nat->(bH)->(Int)->Option Int
 | 0=>λ_ _=>none
 |m+1=>yC n (qE n m)
def MK(a0:bH)(a1:Int):Option Int:=qE n n a0 a1
def Fg(a0:bH):Option Bool:=
 (MK n (bH.mk a0.op a0.n a0.s a0.key a0.args) 0).bind λr1=>some (decide (r1<=12))
def uP:Option (List ByteArray):=
 ck (bj (sub ([⟨#[97,114,101,97]⟩,⟨#[99,111,118,101,114]⟩,⟨#[102,108,111,111,114]⟩,⟨#[102,108,111,111,114,115]⟩,⟨#[104,101,105,103,104,116]⟩,⟨#[104,111,109,101,115]⟩,⟨#[114,117,110,111,102,102]⟩,⟨#[115,101,116,98,97,99,107]⟩,⟨#[116,114,97,102,102,105,99]⟩]:List ByteArray) 0 9).length 9)<|some (sub ([⟨#[97,114,101,97]⟩,⟨#[99,111,118,101,114]⟩,⟨#[102,108,111,111,114]⟩,⟨#[102,108,111,111,114,115]⟩,⟨#[104,101,105,103,104,116]⟩,⟨#[104,111,109,101,115]⟩,⟨#[114,117,110,111,102,102]⟩,⟨#[115,101,116,98,97,99,107]⟩,⟨#[116,114,97,102,102,105,99]⟩]:List ByteArray) 0 9)
mutual
def toE:bH->ET
 |⟨op,_,s,_,args⟩=> .mk op s (Fh args)
def Fh:List bH->List ET
 |[]=>[]
 |x::xs=>toE x::Fh xs
end
def toD(d:eH):ByteArray×ET:=(d.name,.mk d.gR d.jp (Fh d.ed))
def ku(a0:List eH):Option ((List eH)×(List (List Int))):=ck (Nat.ble (pN (a0.map toD)) 4000000)<|some (a0,ny (a0.map toD))
def pF(a0:List Int)(a1:Int):Option (List Int):=match a0 with
 |[x]=>ck (decide (0<=a1)&&decide (a1<=1000000000000))<|some (List.replicate a1.toNat x)
 |_=>none
def OY(a0:List Int)(a1:Int):Stp Int (Unit⊕Int)
 |v1=>(bif decide (v1<(a0.length:Int))then(bz a0 v1).bind λx1=>(bif (a1==(x1:Int))then(some v1).map λa=> .inr (.inr a)else some (.inl (i64.wrap (v1+1))))else some (.inr (.inl ())))
def Cn(a0:List Int)(a1:Int):Option Int:=
 dx (iter (OY a0 a1) n (0:Int)) λ()=>some ((-1):Int)
def pX(a0:List Int)(a1:Int):Option Bool:=
 (Cn n a0 a1).bind λr1=>some (decide (r1>=0))
def fC(a0:nP)(r1:List Int)(x2:Int):Stp (Int×Int×(List Int)×(List Int)) (Int×(List Int)×(List Int))
 |(v4,v5,v6,v7)=>(bif decide (v5<(a0.uses.length:Int))then((bz a0.uses v5).bind λx3=>(ck (cH v5 r1.length)<|(bz v6 ((0:Nat)+v5:Int)).bind λx4=>(bif decide (x4<0)then(pX n x3 x2).bind λr2=>some r2 else some false)).bind λv8=>(bif v8 then ck (cH x2 r1.length)<|(bz v6 ((0:Nat)+x2:Int)).bind λx5=>ck (cH v5 r1.length)<|(bz v6 ((0:Nat)+v5:Int)).bind λx6=>ck (bP (Rm ((v4:Int).toNat) v7).length (v7.length -(v4:Int).toNat) (sub ([v5]:List Int) 0 1).length 1 8)<|jc ((Rm ((v4:Int).toNat) v7)++(sub ([v5]:List Int) 0 1)) λr3=>ck (bj (0+r3.length) r3.length)<|some ((0:Int),(v6.set ((0:Nat)+v5:Int).toNat (i64.wrap (x5+1))),r3)else ck (bj (((v4:Int).toNat)+(v7.length -(v4:Int).toNat)) v7.length)<|some ((((v4:Int).toNat:Nat):Int),v6,v7)):Option (Int×(List Int)×(List Int))).bind λ(v9,v10,v11)=>ck (bj (((v9:Int).toNat)+(v11.length -(v9:Int).toNat)) v11.length)<|some (.inl ((((v9:Int).toNat:Nat):Int),(i64.wrap (v5+1)),v10,v11))else ck (bj (((v4:Int).toNat)+(v7.length -(v4:Int).toNat)) v7.length)<|some (.inr ((((v4:Int).toNat:Nat):Int),v6,v7)))
def dN(a0:nP)(r1:List Int):Stp (Int×(List Int)×(List Int)) (List Int)
 |(v1,v2,v3)=>(bif (decide ((((v3.length -(v1:Int).toNat):Nat):Int)>0))then ck (cH 0 (v3.length -(v1:Int).toNat))<|(bz v3 (((v1:Int).toNat:Nat)+0:Int)).bind λx2=>ck (uL 1 (((v3.length -(v1:Int).toNat):Nat):Int) (v3.length -(v1:Int).toNat))<|ck (bj (((v1:Int).toNat+1)+((v3.length -(v1:Int).toNat) -1)) v3.length)<|(iter (fC n a0 r1 x2) n (((((v1:Int).toNat+1):Nat):Int),(0:Int),v2,v3)).bind λ(w1,w2,w3)=>ck (bj (((w1:Int).toNat)+(w3.length -(w1:Int).toNat)) w3.length)<|some (.inl ((((w1:Int).toNat:Nat):Int),w2,w3))else some (.inr v2))
def jl(a0:nP)(a1:Int):Option (List Int):=
 ck (bj (sub ([(-1)]:List Int) 0 1).length 1)<|(pF (sub ([(-1)]:List Int) 0 1) (a0.defs.length:Int)).bind λr1=>ck (cH a1 r1.length)<|(bz r1 ((0:Nat)+a1:Int)).bind λx1=>ck (bj (0+1) ([a1]:List Int).length)<|(iter (dN n a0 r1) n ((0:Int),(r1.set ((0:Nat)+a1:Int).toNat 0),([a1]:List Int))).bind λw4=>ck (bj (sub w4 0 r1.length).length r1.length)<|some (sub w4 0 r1.length)
def cmp_isNaN_string(a0:ByteArray):Option Bool:=
 some (!(ByteArray.toList a0==ByteArray.toList a0))
def mE(a0:ByteArray)(a1:ByteArray):Option Int:=
 (cmp_isNaN_string a0).bind λr1=>(cmp_isNaN_string a1).bind λr2=>(bif r1 then(bif r2 then some (0:Int)else some ((-1):Int))else(bif r2 then some (1:Int)else(bif (Ri a0 a1)then some ((-1):Int)else(bif (!(Ri a0 a1 || ByteArray.toList a0==ByteArray.toList a1))then some (1:Int)else some (0:Int)))))
def kP(a0:List ByteArray)(a1:List ByteArray):Stp Int (Unit⊕Int)
 |v1=>(bif decide (v1<(a0.length:Int))then(bz a0 v1).bind λx1=>(bif decide (v1>=(a1.length:Int))then(some (1:Int)).map λa=> .inr (.inr a)else(bz a1 v1).bind λx2=>(mE x1 x2).bind λr1=>(bif (r1 !=0)then(some r1).map λa=> .inr (.inr a)else some (.inl (i64.wrap (v1+1)))))else some (.inr (.inl ())))
def kQ(a0:List ByteArray)(a1:List ByteArray):Option Int:=
 dx (iter (kP a0 a1) n (0:Int)) λ()=>(bif decide ((a0.length:Int)<(a1.length:Int))then some ((-1):Int)else some (0:Int))
def lg(a0:Int)(a1:List Bool):Option (Bool×(List Bool)):=
 ck (cH a0 a1.length)<|(bz a1 ((0:Nat)+a0:Int)).bind λx1=>ck (bj a1.length a1.length)<|some ((!x1),a1)
def jm(a0:List Int):Stp (Int×(List Bool)) ((List Bool)⊕(Int×(List Bool)))
 |(v1,v2)=>(bif decide (v1<(a0.length:Int))then(bz a0 v1).bind λx1=>ck (bj v2.length v2.length)<|(lg x1 v2).bind λr1=>(bif r1.1 then(ck (bj r1.2.length r1.2.length)<|some (v1,r1.2)).map λa=> .inr (.inr a)else ck (bj r1.2.length r1.2.length)<|some (.inl ((i64.wrap (v1+1)),r1.2)))else ck (bj v2.length v2.length)<|some (.inr (.inl v2)))
def lK(a0:List Int)(a1:List Bool):Option (Int×(List Bool)):=
 ck (bj a1.length a1.length)<|dx (iter (jm a0) n ((0:Int),a1)) λw1=>ck (bj w1.length w1.length)<|some (((-1):Int),w1)
def gL(a0:List Int)(a1:List Bool):Option (Bool×(List Bool)):=
 ck (bj a1.length a1.length)<|(lK n a0 a1).bind λr1=>ck (bj r1.2.length r1.2.length)<|some ((decide (r1.1>=0)),r1.2)
def gZ(a0:nP):Stp (Int×Int×(List Bool)) (Int×(List Bool))
 |(v4,v5,v6)=>(bif decide (v5<(a0.uses.length:Int))then((bz a0.uses v5).bind λx1=>ck (bj v6.length v6.length)<|(gL n x1 v6).bind λr1=>(ck (cH v5 r1.2.length)<|(bz r1.2 ((0:Nat)+v5:Int)).bind λx2=>(bif (!x2)then(bif (!r1.1)then(bif decide (v4<0)then some true else(bz a0.defs v5).bind λx3=>(bz a0.defs v4).bind λx4=>some (Ri x3.name x4.name))else some false)else some false)).bind λv7=>(bif v7 then ck (bj r1.2.length r1.2.length)<|some (v5,r1.2)else ck (bj r1.2.length r1.2.length)<|some (v4,r1.2)):Option (Int×(List Bool))).bind λ(v8,v9)=>ck (bj v9.length v9.length)<|some (.inl (v8,(i64.wrap (v5+1)),v9))else ck (bj v6.length v6.length)<|some (.inr (v4,v6)))
def jW(a0:nP):Stp (Int×(List Int)×(List Bool)) (List Int)
 |(v1,v2,v3)=>(bif decide (v1<(a0.defs.length:Int))then ck (bj v3.length v3.length)<|(iter (gZ n a0) n (((-1):Int),(0:Int),v3)).bind λ(w1,w2)=>ck (cH w1 w2.length)<|(bz w2 ((0:Nat)+w1:Int)).bind λx5=>ck (bP v2.length v2.length (sub ([w1]:List Int) 0 1).length 1 8)<|jc (v2++(sub ([w1]:List Int) 0 1)) λr2=>ck (bj r2.length r2.length)<|ck (bj w2.length (w2.set ((0:Nat)+w1:Int).toNat true).length)<|some (.inl ((i64.wrap (v1+1)),r2,(w2.set ((0:Nat)+w1:Int).toNat true)))else ck (bj v2.length v2.length)<|some (.inr v2))
def mF(a0:nP):Option (List Int):=
 ck (decide ((a0.defs.length:Int)<=(a0.defs.length:Int))&&(decide (0<=(a0.defs.length:Int))&&xG (a0.defs.length:Int) 1))<|ck (bj 0 ([]:List Int).length)<|ck (bj ((a0.defs.length:Int).toNat) (List.replicate (a0.defs.length:Int).toNat false).length)<|(iter (jW n a0) n ((0:Int),([]:List Int),(List.replicate (a0.defs.length:Int).toNat false))).bind λw3=>ck (bj (sub w3 0 w3.length).length w3.length)<|some (sub w3 0 w3.length)
def gV(r1:List Int)(x2:List Int):Stp (Int×Int) Int
 |(v3,v4)=>(bif decide (v4<(x2.length:Int))then((bz x2 v4).bind λx3=>(ck (cH x3 r1.length)<|(bz r1 ((0:Nat)+x3:Int)).bind λx4=>(bif decide (x4>=0)then(bif decide (v3<0)then some true else ck (cH x3 r1.length)<|(bz r1 ((0:Nat)+x3:Int)).bind λx5=>ck (cH v3 r1.length)<|(bz r1 ((0:Nat)+v3:Int)).bind λx6=>some (decide (x5<(x6:Int))))else some false)).bind λv5=>(bif v5 then some x3 else some v3):Option Int).bind λv6=>some (.inl (v6,(i64.wrap (v4+1))))else some (.inr v3))
def j3(a0:Int)(a1:List eH)(a2:List (List Int))(r1:List Int):Stp (Int×(List ByteArray)) (Unit⊕((List eH)×(List (List Int))×(List ByteArray)))
 |(v1,v2)=>(bz a1 v1).bind λx1=>ck (bP v2.length v2.length (sub ([x1.name]:List ByteArray) 0 1).length 1 16)<|jc (v2++(sub ([x1.name]:List ByteArray) 0 1)) λr2=>(bz a2 v1).bind λx2=>(iter (gV r1 x2) n (((-1):Int),(0:Int))).bind λw1=>(bif decide (w1<0)then(ck (bj 0 ([]:List ByteArray).length)<|some (a1,a2,([]:List ByteArray))).map λa=> .inr (.inr a)else(bif (w1==(a0:Int))then(ck (!(r2.length==0)&&bj r2.length r2.length)<|some (a1,a2,r2)).map λa=> .inr (.inr a)else ck (bj r2.length r2.length)<|some (.inl (w1,r2))))
def jo(a0:Int)(a1:List eH)(a2:List (List Int)):Option ((List eH)×(List (List Int))×(List ByteArray)):=
 (jl n (nP.mk a1 a2) a0).bind λr1=>ck (bj 0 ([]:List ByteArray).length)<|dx (iter (j3 n a0 a1 a2 r1) n (a0,([]:List ByteArray))) λ()=>none
def gG(a0:List eH):Stp (Int×(List eH)×(List (List Int))×(List ByteArray)) ((List eH)×(List (List Int))×(List ByteArray))
 |(v1,v2,v3,v4)=>(bif decide (v1<(a0.length:Int))then((jo n v1 v2 v3).bind λr1=>((bif r1.2.2.length==0 then some true else some false)).bind λv5=>(bif v5 then ck (bj v4.length v4.length)<|some (r1.1,r1.2.1,v4)else((bif v4.length==0 then some true else(bif decide ((r1.2.2.length:Int)<(v4.length:Int))then some true else(bif ((r1.2.2.length:Int)==(v4.length:Int))then ck (bj (sub r1.2.2 0 r1.2.2.length).length r1.2.2.length)<|ck (bj (sub v4 0 v4.length).length v4.length)<|(kQ n (sub r1.2.2 0 r1.2.2.length) (sub v4 0 v4.length)).bind λr2=>some (decide (r2<0))else some false)))).bind λv6=>(bif v6 then ck (bj r1.2.2.length r1.2.2.length)<|some (r1.1,r1.2.1,r1.2.2)else ck (bj v4.length v4.length)<|some (r1.1,r1.2.1,v4))):Option ((List eH)×(List (List Int))×(List ByteArray))).bind λ(v7,v8,v9)=>ck (bj v9.length v9.length)<|some (.inl ((i64.wrap (v1+1)),v7,v8,v9))else ck (bj v4.length v4.length)<|some (.inr (v2,v3,v4)))
def iB(a0:List eH)(a1:List (List Int)):Option ((List eH)×(List (List Int))×(List ByteArray)):=
 ck (bj 0 ([]:List ByteArray).length)<|(iter (gG n a0) n ((0:Int),a0,a1,([]:List ByteArray))).bind λ(w1,w2,w3)=>ck (bj w3.length w3.length)<|some (w1,w2,w3)
def mR(r1:List ByteArray):Stp (Int×(List (ByteArray×Bool))) (List (ByteArray×Bool))
 |(v1,v2)=>(bif decide (v1<(r1.length:Int))then ck (cH v1 r1.length)<|(bz r1 ((0:Nat)+v1:Int)).bind λx1=>some (.inl ((i64.wrap (v1+1)),(IC iz x1 true v2)))else some (.inr v2))
def kz(a0:bZ):Stp (Int×(List (ByteArray×Bool))) (Unit⊕((List Int)×(List ByteArray)×Int))
 |(v3,v4)=>(bif decide (v3<(a0.defs.length:Int))then(bz a0.defs v3).bind λx2=>(bif ((oJ iz x2.name v4).getD false)then(some (([]:(List Int)),([]:(List ByteArray)),(5:Int))).map λa=> .inr (.inr a)else some (.inl ((i64.wrap (v3+1)),(IC iz x2.name true v4))))else some (.inr (.inl ())))
def mG(a0:bZ):Option ((List Int)×(List ByteArray)×Int):=
 (uP).bind λr1=>(iter (mR r1) n ((0:Int),([]:(List (ByteArray×Bool))))).bind λw1=>dx (iter (kz a0) n ((0:Int),w1)) λ()=>(ku a0.defs).bind λr2=>(iB n r2.1 r2.2).bind λr3=>((bif r3.2.2.length==0 then some false else some true)).bind λv5=>(bif v5 then ck (bj (sub r3.2.2 0 r3.2.2.length).length r3.2.2.length)<|some (([]:(List Int)),(sub r3.2.2 0 r3.2.2.length),(16:Int))else(mF n (nP.mk r3.1 r3.2.1)).bind λr4=>ck (bj (sub r4 0 r4.length).length r4.length)<|some ((sub r4 0 r4.length),([]:(List ByteArray)),(0:Int)))
def yD(a0:bS)(a1:bH):Option Bool:=
 some (ByteArray.toList a0.name==ByteArray.toList a1.s)
def Dn(a0:List bS)(a1:(bS×Unit)->Option Bool):Stp Int (Unit⊕Int)
 |v1=>(bif decide (v1<(a0.length:Int))then(bz a0 v1).bind λx1=>(a1 (x1,())).bind λr1=>(bif r1 then(some v1).map λa=> .inr (.inr a)else some (.inl (i64.wrap (v1+1))))else some (.inr (.inl ())))
def qg(a0:List bS)(a1:(bS×Unit)->Option Bool):Option Int:=
 dx (iter (Dn a0 a1) n (0:Int)) λ()=>some ((-1):Int)
def yE(a0:bL)(a1:bH):Option Bool:=
 some (ByteArray.toList a0.name==ByteArray.toList a1.key)
def wP(a0:Bool):Option Int:=
 (bif a0 then some (1:Int)else some (0:Int))
def uG(a0:Int)(a1:Int):Option Int:=
 (bif (a1==0)then some (0:Int)else ck (a1 !=0)<|(ck (a1 !=0)<|((bif ((Int.tmod a0 a1) !=0)then some (!((decide ((Int.tmod a0 a1)<0))==(decide (a1<0))))else some false)).bind λv1=>(bif v1 then some (i64.wrap ((i64.wrap (Int.tdiv a0 a1)) -1))else some (i64.wrap (Int.tdiv a0 a1))):Option Int).bind λv2=>some v2)
def Gv(a0:Int)(a1:Int)(a2:Int):Option Int:=
 (bif (a0==4)then some (i64.wrap (a1+a2))else(bif (a0==5)then some (i64.wrap (a1 -a2))else(bif (a0==6)then some (i64.wrap (a1*a2))else(bif (a0==7)then(uG a1 a2).bind λr1=>some r1 else(bif (a0==8)then(bif (a2==0)then some (0:Int)else(uG a1 a2).bind λr2=>some (i64.wrap (a1 -(i64.wrap (r2*a2)))))else(bif (a0==10)then(wP (a1==(a2:Int))).bind λr3=>some r3 else(bif (a0==11)then(wP (decide (a1<(a2:Int)))).bind λr4=>some r4 else(bif (a0==12)then(wP (decide (a1<=(a2:Int)))).bind λr5=>some r5 else(bif (a0==13)then(bif (a1 !=0)then(wP (a2 !=0)).bind λr6=>some r6 else(wP false).bind λr7=>some r7)else(bif (a1 !=0)then(wP true).bind λr8=>some r8 else(wP (a2 !=0)).bind λr9=>some r9))))))))))
def iR(a0:List eH)(a1:List bS)(a2:List dH)(a3:List aO)(a4:List fM)(a5:List eD)(a6:List bO)(a7:Int)(a8:List ByteArray)(a9:bH)(iv:List (ByteArray×Int)):Option (Int×(List (ByteArray×Int))):=
 (qg n a1 (λ (y1:bS×Unit)=>yD y1.1 (bH.mk a9.op a9.n a9.s a9.key a9.args))).bind λr1=>(bif decide (r1<0)then some ((0:Int),iv)else(bz a1 r1).bind λx1=>(jP n x1.rows (λ (y2:bL×Unit)=>yE y2.1 (bH.mk a9.op a9.n a9.s a9.key a9.args))).bind λr2=>(bif decide (r2>=0)then(bz x1.rows r2).bind λx2=>some (x2.n,iv)else some (x1.p7,iv)))
def eu(n:Nat)(rc:((List eH))->((List bS))->((List dH))->((List aO))->((List fM))->((List eD))->((List bO))->(Int)->((List ByteArray))->(bH)->((List (ByteArray×Int)))->Option (Int×(List (ByteArray×Int))))(a0:List eH)(a1:List bS)(a2:List dH)(a3:List aO)(a4:List fM)(a5:List eD)(a6:List bO)(a7:Int)(a8:List ByteArray)(a9:bH):Stp (Int×(List (ByteArray×Int))×(List Int)) ((List (ByteArray×Int))×(List Int))
 |(v1,v2,v3)=>(bif decide (v1<(a9.args.length:Int))then((bz a9.args v1).bind λx1=>((bif (a9.op==16)then(bif decide (v1>0)then ck (cH 0 v3.length)<|(bz v3 ((0:Nat)+0:Int)).bind λx2=>some (!((x2 !=0)==(v1==1)))else some false)else some false)).bind λv4=>(bif v4 then ck (bP v3.length v3.length (sub ([0]:List Int) 0 1).length 1 8)<|jc (v3++(sub ([0]:List Int) 0 1)) λr1=>ck (bj r1.length r1.length)<|some (v2,r1)else(rc a0 a1 a2 a3 a4 a5 a6 a7 a8 (bH.mk x1.op x1.n x1.s x1.key x1.args) v2).bind λr2=>ck (bP v3.length v3.length (sub ([r2.1]:List Int) 0 1).length 1 8)<|jc (v3++(sub ([r2.1]:List Int) 0 1)) λr3=>ck (bj r3.length r3.length)<|some (r2.2,r3)):Option ((List (ByteArray×Int))×(List Int))).bind λ(v5,v6)=>ck (bj v6.length v6.length)<|some (.inl ((i64.wrap (v1+1)),v5,v6))else ck (bj v3.length v3.length)<|some (.inr (v2,v3)))
def eO(rc:((List eH))->((List bS))->((List dH))->((List aO))->((List fM))->((List eD))->((List bO))->(Int)->((List ByteArray))->(bH)->((List (ByteArray×Int)))->Option (Int×(List (ByteArray×Int))))(a0:List eH)(a1:List bS)(a2:List dH)(a3:List aO)(a4:List fM)(a5:List eD)(a6:List bO)(a7:Int)(a8:List ByteArray)(a9:bH)(iv:List (ByteArray×Int)):Option (Int×(List (ByteArray×Int))):=
 ck (bj 0 ([]:List Int).length)<|(iter (eu n rc a0 a1 a2 a3 a4 a5 a6 a7 a8 a9) n ((0:Int),iv,([]:List Int))).bind λ(w1,w2)=>(bif (a9.op==0)then some (a9.n,w1)else(bif (a9.op==1)then some (((oJ iz a9.s w1).getD 0),w1)else(bif (a9.op==2)then(iR n a0 a1 a2 a3 a4 a5 a6 a7 a8 (bH.mk a9.op a9.n a9.s a9.key a9.args) w1).bind λr4=>some (r4.1,r4.2)else(bif (a9.op==3)then(eZ n a8 a9.s).bind λr5=>(wP r5).bind λr6=>some (r6,w1)else(bif (a9.op==9)then ck (cH 0 w2.length)<|(bz w2 ((0:Nat)+0:Int)).bind λx3=>some ((i64.wrap (0 -x3)),w1)else(bif (a9.op==15)then ck (cH 0 w2.length)<|(bz w2 ((0:Nat)+0:Int)).bind λx4=>(wP (x4==0)).bind λr7=>some (r7,w1)else(bif (a9.op==16)then ck (cH 0 w2.length)<|(bz w2 ((0:Nat)+0:Int)).bind λx5=>(bif (x5 !=0)then ck (cH 1 w2.length)<|(bz w2 ((0:Nat)+1:Int)).bind λx6=>some (x6,w1)else ck (cH 2 w2.length)<|(bz w2 ((0:Nat)+2:Int)).bind λx7=>some (x7,w1))else ck (cH 0 w2.length)<|(bz w2 ((0:Nat)+0:Int)).bind λx8=>ck (cH 1 w2.length)<|(bz w2 ((0:Nat)+1:Int)).bind λx9=>(Gv a9.op x8 x9).bind λr8=>some (r8,w1))))))))
def Co(rc:((List eH))->((List bS))->((List dH))->((List aO))->((List fM))->((List eD))->((List bO))->(Int)->((List ByteArray))->(bH)->((List (ByteArray×Int)))->Option (Int×(List (ByteArray×Int)))):cN xx:=⟨[(.a [(.v (.sl (.st SI.Def))),(.v (.sl (.st SI.Table))),(.v (.sl (.st SI.Zone))),(.v (.sl (.st SI.Rule))),(.v (.sl (.st SI.Cap))),(.v (.sl (.st SI.View))),(.v (.sl (.st SI.ga))),(.v (.int .i64)),(.mp 0),(.v (.sl .str))]),(.v (.st SI.Expr))],[(0,.m .str (.int .i64))],[(.v (.int .i64))],[(0,.m .str (.int .i64))],λv=>rc (v.1) (v.2.1) (v.2.2.1) (v.2.2.2.1) (v.2.2.2.2.1) (v.2.2.2.2.2.1) (v.2.2.2.2.2.2.1) (v.2.2.2.2.2.2.2.1) (v.2.2.2.2.2.2.2.2.1) (v.2.2.2.2.2.2.2.2.2.1) (v.2.2.2.2.2.2.2.2.2.2)⟩
def jq(rc:((List eH))->((List bS))->((List dH))->((List aO))->((List fM))->((List eD))->((List bO))->(Int)->((List ByteArray))->(bH)->((List (ByteArray×Int)))->Option (Int×(List (ByteArray×Int)))):ca xx:=⟨[],[.d .bool],λ_=>none,some (Co rc)⟩
def bQ(n:Nat):Nat->((List eH))->((List bS))->((List dH))->((List aO))->((List fM))->((List eD))->((List bO))->(Int)->((List ByteArray))->(bH)->((List (ByteArray×Int)))->Option (Int×(List (ByteArray×Int)))
 | 0=>λ_ _ _ _ _ _ _ _ _ _ _=>none
 |m+1=>eO n (bQ n m)
def fG(a0:List eH)(a1:List bS)(a2:List dH)(a3:List aO)(a4:List fM)(a5:List eD)(a6:List bO)(a7:Int)(a8:List ByteArray)(a9:bH)(iv:List (ByteArray×Int)):Option (Int×(List (ByteArray×Int))):=bQ n n a0 a1 a2 a3 a4 a5 a6 a7 a8 a9 iv
def jI(n:Nat)(a1:List bL):Stp (Int×(List (ByteArray×Int))×(List (ByteArray×Bool))) ((List (ByteArray×Int))×(List (ByteArray×Bool)))
 |(v1,v2,v3)=>(bif decide (v1<(a1.length:Int))then((bz a1 v1).bind λx1=>(bif (!((oJ iz x1.name v3).getD false))then some ((IC iz x1.name x1.n v2),(IC iz x1.name true v3))else some (v2,v3)):Option ((List (ByteArray×Int))×(List (ByteArray×Bool)))).bind λ(v4,v5)=>some (.inl ((i64.wrap (v1+1)),v4,v5))else some (.inr (v2,v3)))
def fZ(a0:bZ)(a2:List ByteArray)(w2:List (ByteArray×Bool))(r1:(List Int)×(List ByteArray)×Int):Stp (Int×(List (ByteArray×Int))×(List Int)) ((List (ByteArray×Int))×(List Int))
 |(v6,v7,v8)=>(bif decide (v6<(r1.1.length:Int))then(ck (cH v6 r1.1.length)<|(bz r1.1 ((0:Nat)+v6:Int)).bind λx2=>(bz a0.defs x2).bind λx3=>((Fg n (bH.mk x3.gR x3.kB x3.jp x3.gz x3.ed)).bind λr2=>(bif r2 then(fG n a0.defs a0.tables a0.zones a0.rules a0.caps a0.views a0.ta a0.hours a2 (bH.mk x3.gR x3.kB x3.jp x3.gz x3.ed) v7).bind λr3=>ck (cH x2 ((a0.defs.length:Int).toNat))<|(bz v8 ((0:Nat)+x2:Int)).bind λx4=>some (r3.2,(v8.set ((0:Nat)+x2:Int).toNat r3.1))else some (v7,v8)):Option ((List (ByteArray×Int))×(List Int))).bind λ(v9,v10)=>(bif (!((oJ iz x3.name w2).getD false))then ck (cH x2 ((a0.defs.length:Int).toNat))<|(bz v10 ((0:Nat)+x2:Int)).bind λx5=>some ((IC iz x3.name x5 v9),v10)else some (v9,v10)):Option ((List (ByteArray×Int))×(List Int))).bind λ(v11,v12)=>some (.inl ((i64.wrap (v6+1)),v11,v12))else some (.inr (v7,v8)))
def lq(a0:bZ)(a1:List bL)(a2:List ByteArray):Option ((List eH)×(List bS)×(List dH)×(List aO)×(List fM)×(List eD)×(List bO)×Int×(List ByteArray)×(List (ByteArray×Int))×(List Int)):=
 (iter (jI n a1) n ((0:Int),([]:(List (ByteArray×Int))),([]:(List (ByteArray×Bool))))).bind λ(w1,w2)=>ck (decide ((a0.defs.length:Int)<=(a0.defs.length:Int))&&(decide (0<=(a0.defs.length:Int))&&xG (a0.defs.length:Int) 8))<|(mG n a0).bind λr1=>(bif (r1.2.2 !=0)then ck (bj ((a0.defs.length:Int).toNat) (List.replicate (a0.defs.length:Int).toNat (0:Int)).length)<|some (a0.defs,a0.tables,a0.zones,a0.rules,a0.caps,a0.views,a0.ta,a0.hours,a2,w1,(List.replicate (a0.defs.length:Int).toNat (0:Int)))else(iter (fZ n a0 a2 w2 r1) n ((0:Int),w1,(List.replicate (a0.defs.length:Int).toNat (0:Int)))).bind λ(w3,w4)=>ck (bj ((a0.defs.length:Int).toNat) w4.length)<|some (a0.defs,a0.tables,a0.zones,a0.rules,a0.caps,a0.views,a0.ta,a0.hours,a2,w3,w4))
def yF(a0:bZ)(a1:List bL)(a2:List ByteArray)(a3:bH):Option Int:=
 (Fg n (bH.mk a3.op a3.n a3.s a3.key a3.args)).bind λr1=>(bif (!r1)then some (0:Int)else(lq n a0 a1 a2).bind λr2=>(fG n r2.1 r2.2.1 r2.2.2.1 r2.2.2.2.1 r2.2.2.2.2.1 r2.2.2.2.2.2.1 r2.2.2.2.2.2.2.1 r2.2.2.2.2.2.2.2.1 r2.2.2.2.2.2.2.2.2.1 (bH.mk a3.op a3.n a3.s a3.key a3.args) r2.2.2.2.2.2.2.2.2.2.1).bind λr3=>some r3.1)
def yG(a0:List ax):Stp (Bool×Int×Int×Int×Int×Int) (Bool×Int×Int×Int×Int)
 |(v1,v2,v3,v4,v5,v6)=>(bif decide (v2<(a0.length:Int))then((bz a0 v2).bind λx1=>(nE x1).bind λr1=>(bif (!r1)then some (v1,v3,v4,v5,v6)else(bif (!v1)then some (true,x1.x0,x1.y0,x1.x1,x1.y1)else some (v1,(min v3 x1.x0),(min v4 x1.y0),(max v5 x1.x1),(max v6 x1.y1)))):Option (Bool×Int×Int×Int×Int)).bind λ(v7,v8,v9,v10,v11)=>some (.inl (v7,(i64.wrap (v2+1)),v8,v9,v10,v11))else some (.inr (v1,v3,v4,v5,v6)))
def Kw(a0:List ax):Option (ax×Bool):=
 (iter (yG a0) n (false,(0:Int),(0:Int),(0:Int),(0:Int),(0:Int))).bind λ(w1,w2,w3,w4,w5)=>some ((ax.mk w2 w3 w4 w5),w1)
def Gw(a0:List ax):Option (ax×Bool):=
 ((bif ((a0.length:Int)==0)then some true else(mQ n a0).bind λr1=>some (!r1))).bind λv1=>(bif v1 then some ((ax.mk 0 0 0 0),false)else(Kw n a0).bind λr2=>some (r2.1,r2.2))
def vF(a0:aC):Option (List fB):=
 ck (bj (sub ([(ax.mk a0.bm a0.bx a0.bk a0.bu)]:List ax) 0 1).length 1)<|ck (bj (sub ([(fB.mk a0.cP a0.cz (sub ([(ax.mk a0.bm a0.bx a0.bk a0.bu)]:List ax) 0 1))]:List fB) 0 1).length 1)<|some (sub ([(fB.mk a0.cP a0.cz (sub ([(ax.mk a0.bm a0.bx a0.bk a0.bu)]:List ax) 0 1))]:List fB) 0 1)
def Dp(a0:List dI)(a1:(dI×Unit)->Option Bool):Stp Int (Unit⊕Int)
 |v1=>(bif decide (v1<(a0.length:Int))then(bz a0 v1).bind λx1=>(a1 (x1,())).bind λr1=>(bif r1 then(some v1).map λa=> .inr (.inr a)else some (.inl (i64.wrap (v1+1))))else some (.inr (.inl ())))
def qh(a0:List dI)(a1:(dI×Unit)->Option Bool):Option Int:=
 dx (iter (Dp a0 a1) n (0:Int)) λ()=>some ((-1):Int)
def jX(a0:List dI)(a1:(dI×Unit)->Option Bool):Option Bool:=
 (qh n a0 a1).bind λr1=>some (decide (r1>=0))
def mH(a0:Int)(a1:Int)(a2:Int):Option Bool:=
 (bif decide (a1<=(a0:Int))then some (decide (a0<=(a2:Int)))else some false)
def yH(a0:dI):Option Bool:=
 (mH a0.side 0 3).bind λr1=>(bif r1 then(mH a0.base 0 4096).bind λr2=>(bif r2 then(mH a0.num 0 4096).bind λr3=>(bif r3 then(mH a0.den 1 4096).bind λr4=>some r4 else some false)else some false)else some false)
def rz(a0:dI):Option Bool:=
 (yH a0).bind λr1=>some (!r1)
def yI(a0:ax)(a1:List dI):Option Bool:=
 (nE a0).bind λr1=>(bif r1 then(jX n a1 (λ (y1:dI×Unit)=>rz y1.1)).bind λr2=>some (!r2)else some false)
def Qm(a0:List ax)(a1:List ax):Option Bool:=
 (ni n a0 a1).bind λr1=>some r1
def yJ(a0:List fB):Stp Int (Unit⊕Bool)
 |v1=>(bif decide (v1<(a0.length:Int))then dx ((bz a0 v1).bind λx1=>((bif decide (x1.z0<0)then some true else(bif decide (x1.z0>=(x1.z1:Int))then some true else(bif decide (x1.z1>4096)then some true else(bif ((x1.area.length:Int)==0)then some true else(mQ n x1.area).bind λr1=>some (!r1)))))).bind λv2=>(bif v2 then((some false).map λa=> .inr (.inr a)).map .inr else(bif (v1==0)then some (.inl ())else(bz a0 (i64.wrap (v1 -1))).bind λx2=>((bif decide (x2.z1>(x1.z0:Int))then some true else(bif (x2.z1==(x1.z0:Int))then(Qm n x2.area x1.area).bind λr2=>some r2 else some false))).bind λv3=>(bif v3 then((some false).map λa=> .inr (.inr a)).map .inr else some (.inl ())))):Option ((Unit)⊕_)) λ()=>some (.inl (i64.wrap (v1+1)))else some (.inr (.inl ())))
def Fj(a0:List fB):Option Bool:=
 (bif decide ((a0.length:Int)>80)then some false else dx (iter (yJ n a0) n (0:Int)) λ()=>some true)
def uQ(a0:ax)(a1:Int)(a2:Int):Option Ke:=
 some (Ke.mk (i64.wrap (a1 -a0.x0)) (i64.wrap ((i64.wrap (a0.x1 -1)) -a1)) (i64.wrap (a2 -a0.y0)) (i64.wrap ((i64.wrap (a0.y1 -1)) -a2)))
def rC(a0:Int)(a1:Int):Option Int:=
 ck (a1 !=0)<|(ck (a1 !=0)<|(bif decide ((Int.tmod a0 a1)<0)then some (i64.wrap ((i64.wrap (Int.tdiv a0 a1)) -1))else some (i64.wrap (Int.tdiv a0 a1))):Option Int).bind λv1=>some v1
def vG(a0:ax)(a1:List dI)(a2:Int)(a3:Int)(r1:Ke):Stp (Int×Int) Int
 |(v1,v2)=>(bif decide (v2<(a1.length:Int))then(bz a1 v2).bind λx1=>ck (cH x1.side 4)<|(bz ([r1.a0,r1.a1,r1.a2,r1.a3]:List Int) x1.side).bind λx2=>(rC (i64.wrap (x1.num*x2)) x1.den).bind λr2=>some (.inl ((min v1 (i64.wrap (x1.base+r2))),(i64.wrap (v2+1))))else some (.inr v1))
def Gx(a0:ax)(a1:List dI)(a2:Int)(a3:Int):Option Int:=
 (uQ a0 a2 a3).bind λr1=>(iter (vG a0 a1 a2 a3 r1) n ((4096:Int),(0:Int))).bind λw1=>some w1
def mU(a0:ax)(a1:List dI)(x1:ax)(x2:Int):Stp (Int×Int) Int
 |(v5,v6)=>(bif decide (v6<2)then ck (cH v6 2)<|(bz ([x1.y0,(i64.wrap (x1.y1 -1))]:List Int) ((0:Nat)+v6:Int)).bind λx3=>(Gx n a0 a1 x2 x3).bind λr1=>some (.inl ((min v5 r1),(i64.wrap (v6+1))))else some (.inr v5))
def mV(a0:ax)(a1:List dI)(x1:ax):Stp (Int×Int) Int
 |(v3,v4)=>(bif decide (v4<2)then ck (cH v4 2)<|(bz ([x1.x0,(i64.wrap (x1.x1 -1))]:List Int) ((0:Nat)+v4:Int)).bind λx2=>(iter (mU n a0 a1 x1 x2) n (v3,(0:Int))).bind λw1=>some (.inl (w1,(i64.wrap (v4+1))))else some (.inr v3))
def pY(a0:ax)(a1:List dI)(a2:List ax):Stp (Int×Int) Int
 |(v1,v2)=>(bif decide (v2<(a2.length:Int))then(bz a2 v2).bind λx1=>(iter (mV n a0 a1 x1) n (v1,(0:Int))).bind λw2=>some (.inl (w2,(i64.wrap (v2+1))))else some (.inr v1))
def vH(a0:ax)(a1:List dI)(a2:List ax):Option Int:=
 (iter (pY n a0 a1 a2) n ((4096:Int),(0:Int))).bind λw3=>some w3
def p8(a0:fB)(a1:ax)(a2:List dI):Option Bool:=
 (vH n a1 a2 a0.area).bind λr1=>some (decide (r1<(a0.z1:Int)))
def kR(a0:List fB)(a1:(fB×Unit)->Option Bool):Stp Int (Unit⊕Int)
 |v1=>(bif decide (v1<(a0.length:Int))then(bz a0 v1).bind λx1=>(a1 (x1,())).bind λr1=>(bif r1 then(some v1).map λa=> .inr (.inr a)else some (.inl (i64.wrap (v1+1))))else some (.inr (.inl ())))
def rD(a0:List fB)(a1:(fB×Unit)->Option Bool):Option Int:=
 dx (iter (kR a0 a1) n (0:Int)) λ()=>some ((-1):Int)
def iG(a0:List fB)(a1:(fB×Unit)->Option Bool):Option Bool:=
 (rD n a0 a1).bind λr1=>some (decide (r1>=0))
def vI(a0:ax)(a1:List dI)(a2:List fB):Option Bool:=
 ((yI n a0 a1).bind λr1=>(bif (!r1)then some true else(Fj n a2).bind λr2=>some (!r2))).bind λv1=>(bif v1 then some false else(iG n a2 (λ (y1:fB×Unit)=>p8 n y1.1 a0 a1)).bind λr3=>some (!r3))
def jr(a0:aC)(a1:ax)(a2:aO):Option Bool:=
 (vF a0).bind λr1=>ck (bj (sub ([(dI.mk a2.gi a2.gj a2.il a2.io)]:List dI) 0 1).length 1)<|ck (bj (sub r1 0 r1.length).length r1.length)<|(vI n a1 (sub ([(dI.mk a2.gi a2.gj a2.il a2.io)]:List dI) 0 1) (sub r1 0 r1.length)).bind λr2=>some (!r2)
def gm(a0:kX)(a1:(aC×Unit)->Option Bool):Option Bool:=
 (fw n a0.az a1).bind λr1=>some r1
def jv(a0:aC)(a1:aO):Option Bool:=
 ck (decide (0<=a0.use)&&decide (a0.use<=i64.bits))<|some ((bits .and .i64 a1.uses (i64.wrap (1*2 ^ (a0.use:Int).toNat)))==0)
def US(a0:ax)(a1:ax):Option (Int×Int):=
 some ((i64.wrap ((max a0.x0 a1.x0) -(min a0.x1 a1.x1))),(i64.wrap ((max a0.y0 a1.y0) -(min a0.y1 a1.y1))))
def HB(a0:ax)(a1:ax):Option Int:=
 ((nE a0).bind λr1=>(bif (!r1)then some true else(nE a1).bind λr2=>some (!r2))).bind λv1=>(bif v1 then some ((-1):Int)else(US a0 a1).bind λr3=>some (max (max (0:Int) r3.1) r3.2))
def dJ(a0:cO)(a1:kX)(a2:aC)(a3:aO):Option Bool:=
 ((bif (a0.lot==(a1.dt:Int))then some true else(nE (ax.mk a0.d7 a0.d5 a0.d6 a0.dE)).bind λr1=>(bif (!r1)then some true else(bif decide (a0.eC<0)then some true else some (decide (a0.eC>=6)))))).bind λv1=>(bif v1 then some false else((bif (a2.use==(a3.uses:Int))then(bif (a0.eC==(a3.other:Int))then some true else(bif (a2.use==(a3.other:Int))then some (a0.eC==(a3.uses:Int))else some false))else(bif (a2.use==(a3.other:Int))then some (a0.eC==(a3.uses:Int))else some false))).bind λv2=>(bif v2 then(HB (ax.mk a2.bm a2.bx a2.bk a2.bu) (ax.mk a0.d7 a0.d5 a0.d6 a0.dE)).bind λr2=>some (decide (r2<(a3.n:Int)))else some false))
def Cq(a0:List cO)(a1:(cO×Unit)->Option Bool):Stp Int (Unit⊕Int)
 |v1=>(bif decide (v1<(a0.length:Int))then(bz a0 v1).bind λx1=>(a1 (x1,())).bind λr1=>(bif r1 then(some v1).map λa=> .inr (.inr a)else some (.inl (i64.wrap (v1+1))))else some (.inr (.inl ())))
def o7(a0:List cO)(a1:(cO×Unit)->Option Bool):Option Int:=
 dx (iter (Cq a0 a1) n (0:Int)) λ()=>some ((-1):Int)
def jw(a0:List cO)(a1:(cO×Unit)->Option Bool):Option Bool:=
 (o7 n a0 a1).bind λr1=>some (decide (r1>=0))
def qi(a0:kX)(a1:aO)(a2:aC):Option Bool:=
 (jw n a0.fi (λ (y1:cO×Unit)=>dJ y1.1 a0 a2 a1)).bind λr1=>some r1
def jy(a0:aC)(a1:kX)(a2:aO):Option Bool:=
 (qi n a1 a2 a0).bind λr1=>some r1
def iZ(a0:kX)(a1:aO):Option Bool:=
 (bif (a1.kind==0)then(nT n (bZ.mk a0.eM a0.ej a0.er a0.ey a0.eQ a0.ev a0.fx a0.ez) (fU.mk a0.q7 a0.lz a0.jj a0.nh) (aP.mk a0.dt a0.gx)).bind λr1=>ck (bj (sub r1 0 r1.length).length r1.length)<|(yF n (bZ.mk a0.eM a0.ej a0.er a0.ey a0.eQ a0.ev a0.fx a0.ez) (sub r1 0 r1.length) a0.zones (bH.mk a1.j7 a1.lr a1.lp a1.ik a1.fj)).bind λr2=>some (r2==0)else(bif (a1.kind==1)then(Gw n a0.jj).bind λr3=>(gm n a0 (λ (y1:aC×Unit)=>jr n y1.1 r3.1 a1)).bind λr4=>some r4 else(bif (a1.kind==2)then(gm n a0 (λ (y2:aC×Unit)=>jv y2.1 a1)).bind λr5=>some r5 else(bif (a1.kind==3)then(gm n a0 (λ (y3:aC×Unit)=>jy n y3.1 a0 a1)).bind λr6=>some r6 else some false))))
def tK(a0:ax)(a1:ax):Option Bool:=
 (bif decide ((max a1.x0 a0.x0)<((min a1.x1 a0.x1):Int))then some (decide ((max a1.y0 a0.y0)<((min a1.y1 a0.y1):Int)))else some false)
def Fp(a0:List ax)(a1:(ax×Unit)->Option Bool):Stp Int (Unit⊕Int)
 |v1=>(bif decide (v1<(a0.length:Int))then(bz a0 v1).bind λx1=>(a1 (x1,())).bind λr1=>(bif r1 then(some v1).map λa=> .inr (.inr a)else some (.inl (i64.wrap (v1+1))))else some (.inr (.inl ())))
def rE(a0:List ax)(a1:(ax×Unit)->Option Bool):Option Int:=
 dx (iter (Fp a0 a1) n (0:Int)) λ()=>some ((-1):Int)
def iH(a0:List ax)(a1:(ax×Unit)->Option Bool):Option Bool:=
 (rE n a0 a1).bind λr1=>some (decide (r1>=0))
def Cr(a0:ax)(a1:List ax):Option Bool:=
 (iH n a1 (λ (y1:ax×Unit)=>tK y1.1 a0)).bind λr1=>some r1
def Qn(a0:List ax)(a1:List ax):Option Bool:=
 (iH n a0 (λ (y1:ax×Unit)=>Cr n y1.1 a1)).bind λr1=>some r1
def pG(a0:fB)(a1:lV):Option Bool:=
 (bif decide (a0.z1>(a1.top:Int))then(Qn n a0.area a1.area).bind λr1=>some r1 else some false)
def tL(a0:List lV)(a1:Int)(a2:List fB):Stp Int (Unit⊕Bool)
 |v1=>(bif decide (v1<(a0.length:Int))then dx ((bz a0 v1).bind λx1=>((bif (x1.lot !=(a1:Int))then some true else(mQ n x1.area).bind λr2=>some (!r2))).bind λv2=>(bif v2 then some (.inl ())else(iG n a2 (λ (y1:fB×Unit)=>pG n y1.1 x1)).bind λr3=>(bif r3 then((some false).map λa=> .inr (.inr a)).map .inr else some (.inl ()))):Option ((Unit)⊕_)) λ()=>some (.inl (i64.wrap (v1+1)))else some (.inr (.inl ())))
def Cs(a0:List lV)(a1:Int)(a2:List fB):Option Bool:=
 (Fj n a2).bind λr1=>(bif (!r1)then some false else dx (iter (tL n a0 a1 a2) n (0:Int)) λ()=>some true)
def lW(a0:aC)(a1:dS)(a2:aP):Option Bool:=
 (vF a0).bind λr1=>ck (bj (sub r1 0 r1.length).length r1.length)<|(Cs n a1.b9 a2.lot (sub r1 0 r1.length)).bind λr2=>some (!r2)
def ja(a0:ByteArray)(a1:Bool)(a2:List ByteArray):Option (List ByteArray):=
 ((bif a1 then ck (bj (sub a2 0 a2.length).length a2.length)<|(eZ n (sub a2 0 a2.length) a0).bind λr1=>some (!r1)else some false)).bind λv1=>(bif v1 then ck (bP a2.length a2.length (sub ([a0]:List ByteArray) 0 1).length 1 16)<|jc (a2++(sub ([a0]:List ByteArray) 0 1)) λr2=>ck (bj r2.length r2.length)<|some r2 else ck (bj a2.length a2.length)<|some a2)
def lX(a0:dS)(r1:kX×Int)(r2:List Int):Stp (Int×(List ByteArray)) (List ByteArray)
 |(v1,v2)=>(bif decide (v1<(r2.length:Int))then ck (cH v1 r2.length)<|(bz r2 ((0:Nat)+v1:Int)).bind λx1=>(bz a0.aE x1).bind λx2=>(bz a0.aE x1).bind λx3=>(iZ n r1.1 x3).bind λr3=>ck (bj v2.length v2.length)<|(ja n x2.name r3 v2).bind λr4=>ck (bj r4.length r4.length)<|some (.inl ((i64.wrap (v1+1)),r4))else ck (bj v2.length v2.length)<|some (.inr v2))
def fq(a0:dS)(a1:aP)(a2:Int):Option ((List ByteArray)×Int):=
 (uF n a0 a1).bind λr1=>(bif (r1.2 !=0)then some (([]:(List ByteArray)),r1.2)else(ru n (bZ.mk a0.ci a0.b7 a0.b8 a0.aE a0.cm a0.cd a0.cw a0.cg) r1.1.zones a2).bind λr2=>ck (bj 0 ([]:List ByteArray).length)<|(iter (lX n a0 r1 r2) n ((0:Int),([]:List ByteArray))).bind λw1=>(gm n r1.1 (λ (y1:aC×Unit)=>lW n y1.1 a0 a1)).bind λr5=>ck (bj w1.length w1.length)<|(ja n (⟨#[101,97,115,101,109,101,110,116]⟩) r5 w1).bind λr6=>ck (bj (sub r6 0 r6.length).length r6.length)<|some ((sub r6 0 r6.length),(0:Int)))
def vJ(a0:List ByteArray)(a1:List ByteArray):Stp Int (Unit⊕Bool)
 |v1=>(bif decide (v1<(a0.length:Int))then(bz a0 v1).bind λx1=>(bz a1 v1).bind λx2=>(bif (!(ByteArray.toList x1==ByteArray.toList x2))then(some false).map λa=> .inr (.inr a)else some (.inl (i64.wrap (v1+1))))else some (.inr (.inl ())))
def AB(a0:List ByteArray)(a1:List ByteArray):Option Bool:=
 (bif ((a0.length:Int) !=(a1.length:Int))then some false else dx (iter (vJ a0 a1) n (0:Int)) λ()=>some true)
def fu(a0:dS)(a1:aP)(a2:aO):Option Bool:=
 (uF n a0 a1).bind λr1=>(bif (r1.2==0)then(iZ n r1.1 a2).bind λr2=>some r2 else some false)
def tN(a0:dS)(a1:aP)(a2:Int):Option Bool:=
 (fq n a0 a1 a2).bind λr1=>(bif (r1.2==0)then some ((r1.1.length:Int)==0)else some false)
def Gy:Option Bool:=
 ck (bj (sub ([(aC.mk 2 2 8 8 0 14 2 0 false)]:List aC) 0 1).length 1)<|ck (bj (sub ([(ax.mk 0 0 10 10)]:List ax) 0 1).length 1)<|(Ym 12).bind λr1=>ck (bj (sub ([(bH.mk 1 0 (⟨#[104,101,105,103,104,116]⟩) (⟨#[]⟩) ([])),r1]:List bH) 0 2).length 2)<|ck (bj (sub ([(aO.mk (⟨#[97]⟩) ([]) ([]) 0 0 0 false 0 12 0 (⟨#[]⟩) (⟨#[]⟩) (sub ([(bH.mk 1 0 (⟨#[104,101,105,103,104,116]⟩) (⟨#[]⟩) ([])),r1]:List bH) 0 2) 0 0 0 0 0 0 0),(aO.mk (⟨#[98]⟩) ([]) ([]) 0 0 0 false 1 0 0 (⟨#[]⟩) (⟨#[]⟩) ([]) 0 9 3 1 0 0 0),(aO.mk (⟨#[99]⟩) ([]) ([]) 0 0 0 false 1 0 0 (⟨#[]⟩) (⟨#[]⟩) ([]) 0 9 1 1 0 0 0),(aO.mk (⟨#[100]⟩) ([]) ([]) 0 0 0 false 2 0 0 (⟨#[]⟩) (⟨#[]⟩) ([]) 0 0 0 0 5 0 0),(aO.mk (⟨#[101]⟩) ([]) ([]) 0 0 0 false 3 0 0 (⟨#[]⟩) (⟨#[]⟩) ([]) 0 0 0 0 2 0 5)]:List aO) 0 5).length 5)<|ck (bj (sub ([(fU.mk 1 0 (sub ([(ax.mk 0 0 10 10)]:List ax) 0 1) ([]))]:List fU) 0 1).length 1)<|ck (bj (sub ([(cO.mk 2 12 2 14 4 0 3 0 0 false)]:List cO) 0 1).length 1)<|ck (bj (sub ([(bU.mk (sub ([(aC.mk 2 2 8 8 0 14 2 0 false)]:List aC) 0 1) ([]))]:List bU) 0 1).length 1)<|(fq n (dS.mk ([]) ([]) ([]) (sub ([(aO.mk (⟨#[97]⟩) ([]) ([]) 0 0 0 false 0 12 0 (⟨#[]⟩) (⟨#[]⟩) (sub ([(bH.mk 1 0 (⟨#[104,101,105,103,104,116]⟩) (⟨#[]⟩) ([])),r1]:List bH) 0 2) 0 0 0 0 0 0 0),(aO.mk (⟨#[98]⟩) ([]) ([]) 0 0 0 false 1 0 0 (⟨#[]⟩) (⟨#[]⟩) ([]) 0 9 3 1 0 0 0),(aO.mk (⟨#[99]⟩) ([]) ([]) 0 0 0 false 1 0 0 (⟨#[]⟩) (⟨#[]⟩) ([]) 0 9 1 1 0 0 0),(aO.mk (⟨#[100]⟩) ([]) ([]) 0 0 0 false 2 0 0 (⟨#[]⟩) (⟨#[]⟩) ([]) 0 0 0 0 5 0 0),(aO.mk (⟨#[101]⟩) ([]) ([]) 0 0 0 false 3 0 0 (⟨#[]⟩) (⟨#[]⟩) ([]) 0 0 0 0 2 0 5)]:List aO) 0 5) ([]) ([]) ([]) 0 (sub ([(fU.mk 1 0 (sub ([(ax.mk 0 0 10 10)]:List ax) 0 1) ([]))]:List fU) 0 1) ([]) ([]) (sub ([(cO.mk 2 12 2 14 4 0 3 0 0 false)]:List cO) 0 1) ([])) (aP.mk 1 (sub ([(bU.mk (sub ([(aC.mk 2 2 8 8 0 14 2 0 false)]:List aC) 0 1) ([]))]:List bU) 0 1)) 7).bind λr2=>ck (bj (sub ([(aO.mk (⟨#[97]⟩) ([]) ([]) 0 0 0 false 0 12 0 (⟨#[]⟩) (⟨#[]⟩) (sub ([(bH.mk 1 0 (⟨#[104,101,105,103,104,116]⟩) (⟨#[]⟩) ([])),r1]:List bH) 0 2) 0 0 0 0 0 0 0),(aO.mk (⟨#[98]⟩) ([]) ([]) 0 0 0 false 1 0 0 (⟨#[]⟩) (⟨#[]⟩) ([]) 0 9 3 1 0 0 0),(aO.mk (⟨#[99]⟩) ([]) ([]) 0 0 0 false 1 0 0 (⟨#[]⟩) (⟨#[]⟩) ([]) 0 9 1 1 0 0 0),(aO.mk (⟨#[100]⟩) ([]) ([]) 0 0 0 false 2 0 0 (⟨#[]⟩) (⟨#[]⟩) ([]) 0 0 0 0 5 0 0),(aO.mk (⟨#[101]⟩) ([]) ([]) 0 0 0 false 3 0 0 (⟨#[]⟩) (⟨#[]⟩) ([]) 0 0 0 0 2 0 5)]:List aO) 0 5).length 5)<|ck (bj (sub ([(fU.mk 1 0 (sub ([(ax.mk 0 0 10 10)]:List ax) 0 1) ([]))]:List fU) 0 1).length 1)<|ck (bj (sub ([(cO.mk 2 12 2 14 4 0 3 0 0 false)]:List cO) 0 1).length 1)<|(fq n (dS.mk ([]) ([]) ([]) (sub ([(aO.mk (⟨#[97]⟩) ([]) ([]) 0 0 0 false 0 12 0 (⟨#[]⟩) (⟨#[]⟩) (sub ([(bH.mk 1 0 (⟨#[104,101,105,103,104,116]⟩) (⟨#[]⟩) ([])),r1]:List bH) 0 2) 0 0 0 0 0 0 0),(aO.mk (⟨#[98]⟩) ([]) ([]) 0 0 0 false 1 0 0 (⟨#[]⟩) (⟨#[]⟩) ([]) 0 9 3 1 0 0 0),(aO.mk (⟨#[99]⟩) ([]) ([]) 0 0 0 false 1 0 0 (⟨#[]⟩) (⟨#[]⟩) ([]) 0 9 1 1 0 0 0),(aO.mk (⟨#[100]⟩) ([]) ([]) 0 0 0 false 2 0 0 (⟨#[]⟩) (⟨#[]⟩) ([]) 0 0 0 0 5 0 0),(aO.mk (⟨#[101]⟩) ([]) ([]) 0 0 0 false 3 0 0 (⟨#[]⟩) (⟨#[]⟩) ([]) 0 0 0 0 2 0 5)]:List aO) 0 5) ([]) ([]) ([]) 0 (sub ([(fU.mk 1 0 (sub ([(ax.mk 0 0 10 10)]:List ax) 0 1) ([]))]:List fU) 0 1) ([]) ([]) (sub ([(cO.mk 2 12 2 14 4 0 3 0 0 false)]:List cO) 0 1) ([])) (aP.mk 3 ([])) 7).bind λr3=>(bif (r2.2==0)then ck (bj (sub r2.1 0 r2.1.length).length r2.1.length)<|ck (bj (sub ([⟨#[97]⟩,⟨#[99]⟩,⟨#[101]⟩]:List ByteArray) 0 3).length 3)<|(AB n (sub r2.1 0 r2.1.length) (sub ([⟨#[97]⟩,⟨#[99]⟩,⟨#[101]⟩]:List ByteArray) 0 3)).bind λr4=>(bif r4 then(bif (r3.2==4)then ck (cH 0 5)<|(bz ([(aO.mk (⟨#[97]⟩) ([]) ([]) 0 0 0 false 0 12 0 (⟨#[]⟩) (⟨#[]⟩) (sub ([(bH.mk 1 0 (⟨#[104,101,105,103,104,116]⟩) (⟨#[]⟩) ([])),r1]:List bH) 0 2) 0 0 0 0 0 0 0),(aO.mk (⟨#[98]⟩) ([]) ([]) 0 0 0 false 1 0 0 (⟨#[]⟩) (⟨#[]⟩) ([]) 0 9 3 1 0 0 0),(aO.mk (⟨#[99]⟩) ([]) ([]) 0 0 0 false 1 0 0 (⟨#[]⟩) (⟨#[]⟩) ([]) 0 9 1 1 0 0 0),(aO.mk (⟨#[100]⟩) ([]) ([]) 0 0 0 false 2 0 0 (⟨#[]⟩) (⟨#[]⟩) ([]) 0 0 0 0 5 0 0),(aO.mk (⟨#[101]⟩) ([]) ([]) 0 0 0 false 3 0 0 (⟨#[]⟩) (⟨#[]⟩) ([]) 0 0 0 0 2 0 5)]:List aO) ((0:Nat)+0:Int)).bind λx1=>ck (bj (sub ([(aO.mk (⟨#[97]⟩) ([]) ([]) 0 0 0 false 0 12 0 (⟨#[]⟩) (⟨#[]⟩) (sub ([(bH.mk 1 0 (⟨#[104,101,105,103,104,116]⟩) (⟨#[]⟩) ([])),r1]:List bH) 0 2) 0 0 0 0 0 0 0),(aO.mk (⟨#[98]⟩) ([]) ([]) 0 0 0 false 1 0 0 (⟨#[]⟩) (⟨#[]⟩) ([]) 0 9 3 1 0 0 0),(aO.mk (⟨#[99]⟩) ([]) ([]) 0 0 0 false 1 0 0 (⟨#[]⟩) (⟨#[]⟩) ([]) 0 9 1 1 0 0 0),(aO.mk (⟨#[100]⟩) ([]) ([]) 0 0 0 false 2 0 0 (⟨#[]⟩) (⟨#[]⟩) ([]) 0 0 0 0 5 0 0),(aO.mk (⟨#[101]⟩) ([]) ([]) 0 0 0 false 3 0 0 (⟨#[]⟩) (⟨#[]⟩) ([]) 0 0 0 0 2 0 5)]:List aO) 0 5).length 5)<|ck (bj (sub ([(fU.mk 1 0 (sub ([(ax.mk 0 0 10 10)]:List ax) 0 1) ([]))]:List fU) 0 1).length 1)<|ck (bj (sub ([(cO.mk 2 12 2 14 4 0 3 0 0 false)]:List cO) 0 1).length 1)<|ck (bj (sub ([(bU.mk (sub ([(aC.mk 2 2 8 8 0 14 2 0 false)]:List aC) 0 1) ([]))]:List bU) 0 1).length 1)<|(fu n (dS.mk ([]) ([]) ([]) (sub ([(aO.mk (⟨#[97]⟩) ([]) ([]) 0 0 0 false 0 12 0 (⟨#[]⟩) (⟨#[]⟩) (sub ([(bH.mk 1 0 (⟨#[104,101,105,103,104,116]⟩) (⟨#[]⟩) ([])),r1]:List bH) 0 2) 0 0 0 0 0 0 0),(aO.mk (⟨#[98]⟩) ([]) ([]) 0 0 0 false 1 0 0 (⟨#[]⟩) (⟨#[]⟩) ([]) 0 9 3 1 0 0 0),(aO.mk (⟨#[99]⟩) ([]) ([]) 0 0 0 false 1 0 0 (⟨#[]⟩) (⟨#[]⟩) ([]) 0 9 1 1 0 0 0),(aO.mk (⟨#[100]⟩) ([]) ([]) 0 0 0 false 2 0 0 (⟨#[]⟩) (⟨#[]⟩) ([]) 0 0 0 0 5 0 0),(aO.mk (⟨#[101]⟩) ([]) ([]) 0 0 0 false 3 0 0 (⟨#[]⟩) (⟨#[]⟩) ([]) 0 0 0 0 2 0 5)]:List aO) 0 5) ([]) ([]) ([]) 0 (sub ([(fU.mk 1 0 (sub ([(ax.mk 0 0 10 10)]:List ax) 0 1) ([]))]:List fU) 0 1) ([]) ([]) (sub ([(cO.mk 2 12 2 14 4 0 3 0 0 false)]:List cO) 0 1) ([])) (aP.mk 1 (sub ([(bU.mk (sub ([(aC.mk 2 2 8 8 0 14 2 0 false)]:List aC) 0 1) ([]))]:List bU) 0 1)) x1).bind λr5=>(bif r5 then ck (cH 1 5)<|(bz ([(aO.mk (⟨#[97]⟩) ([]) ([]) 0 0 0 false 0 12 0 (⟨#[]⟩) (⟨#[]⟩) (sub ([(bH.mk 1 0 (⟨#[104,101,105,103,104,116]⟩) (⟨#[]⟩) ([])),r1]:List bH) 0 2) 0 0 0 0 0 0 0),(aO.mk (⟨#[98]⟩) ([]) ([]) 0 0 0 false 1 0 0 (⟨#[]⟩) (⟨#[]⟩) ([]) 0 9 3 1 0 0 0),(aO.mk (⟨#[99]⟩) ([]) ([]) 0 0 0 false 1 0 0 (⟨#[]⟩) (⟨#[]⟩) ([]) 0 9 1 1 0 0 0),(aO.mk (⟨#[100]⟩) ([]) ([]) 0 0 0 false 2 0 0 (⟨#[]⟩) (⟨#[]⟩) ([]) 0 0 0 0 5 0 0),(aO.mk (⟨#[101]⟩) ([]) ([]) 0 0 0 false 3 0 0 (⟨#[]⟩) (⟨#[]⟩) ([]) 0 0 0 0 2 0 5)]:List aO) ((0:Nat)+1:Int)).bind λx2=>ck (bj (sub ([(aO.mk (⟨#[97]⟩) ([]) ([]) 0 0 0 false 0 12 0 (⟨#[]⟩) (⟨#[]⟩) (sub ([(bH.mk 1 0 (⟨#[104,101,105,103,104,116]⟩) (⟨#[]⟩) ([])),r1]:List bH) 0 2) 0 0 0 0 0 0 0),(aO.mk (⟨#[98]⟩) ([]) ([]) 0 0 0 false 1 0 0 (⟨#[]⟩) (⟨#[]⟩) ([]) 0 9 3 1 0 0 0),(aO.mk (⟨#[99]⟩) ([]) ([]) 0 0 0 false 1 0 0 (⟨#[]⟩) (⟨#[]⟩) ([]) 0 9 1 1 0 0 0),(aO.mk (⟨#[100]⟩) ([]) ([]) 0 0 0 false 2 0 0 (⟨#[]⟩) (⟨#[]⟩) ([]) 0 0 0 0 5 0 0),(aO.mk (⟨#[101]⟩) ([]) ([]) 0 0 0 false 3 0 0 (⟨#[]⟩) (⟨#[]⟩) ([]) 0 0 0 0 2 0 5)]:List aO) 0 5).length 5)<|ck (bj (sub ([(fU.mk 1 0 (sub ([(ax.mk 0 0 10 10)]:List ax) 0 1) ([]))]:List fU) 0 1).length 1)<|ck (bj (sub ([(cO.mk 2 12 2 14 4 0 3 0 0 false)]:List cO) 0 1).length 1)<|ck (bj (sub ([(bU.mk (sub ([(aC.mk 2 2 8 8 0 14 2 0 false)]:List aC) 0 1) ([]))]:List bU) 0 1).length 1)<|(fu n (dS.mk ([]) ([]) ([]) (sub ([(aO.mk (⟨#[97]⟩) ([]) ([]) 0 0 0 false 0 12 0 (⟨#[]⟩) (⟨#[]⟩) (sub ([(bH.mk 1 0 (⟨#[104,101,105,103,104,116]⟩) (⟨#[]⟩) ([])),r1]:List bH) 0 2) 0 0 0 0 0 0 0),(aO.mk (⟨#[98]⟩) ([]) ([]) 0 0 0 false 1 0 0 (⟨#[]⟩) (⟨#[]⟩) ([]) 0 9 3 1 0 0 0),(aO.mk (⟨#[99]⟩) ([]) ([]) 0 0 0 false 1 0 0 (⟨#[]⟩) (⟨#[]⟩) ([]) 0 9 1 1 0 0 0),(aO.mk (⟨#[100]⟩) ([]) ([]) 0 0 0 false 2 0 0 (⟨#[]⟩) (⟨#[]⟩) ([]) 0 0 0 0 5 0 0),(aO.mk (⟨#[101]⟩) ([]) ([]) 0 0 0 false 3 0 0 (⟨#[]⟩) (⟨#[]⟩) ([]) 0 0 0 0 2 0 5)]:List aO) 0 5) ([]) ([]) ([]) 0 (sub ([(fU.mk 1 0 (sub ([(ax.mk 0 0 10 10)]:List ax) 0 1) ([]))]:List fU) 0 1) ([]) ([]) (sub ([(cO.mk 2 12 2 14 4 0 3 0 0 false)]:List cO) 0 1) ([])) (aP.mk 1 (sub ([(bU.mk (sub ([(aC.mk 2 2 8 8 0 14 2 0 false)]:List aC) 0 1) ([]))]:List bU) 0 1)) x2).bind λr6=>(bif (!r6)then ck (bj (sub ([(aO.mk (⟨#[97]⟩) ([]) ([]) 0 0 0 false 0 12 0 (⟨#[]⟩) (⟨#[]⟩) (sub ([(bH.mk 1 0 (⟨#[104,101,105,103,104,116]⟩) (⟨#[]⟩) ([])),r1]:List bH) 0 2) 0 0 0 0 0 0 0),(aO.mk (⟨#[98]⟩) ([]) ([]) 0 0 0 false 1 0 0 (⟨#[]⟩) (⟨#[]⟩) ([]) 0 9 3 1 0 0 0),(aO.mk (⟨#[99]⟩) ([]) ([]) 0 0 0 false 1 0 0 (⟨#[]⟩) (⟨#[]⟩) ([]) 0 9 1 1 0 0 0),(aO.mk (⟨#[100]⟩) ([]) ([]) 0 0 0 false 2 0 0 (⟨#[]⟩) (⟨#[]⟩) ([]) 0 0 0 0 5 0 0),(aO.mk (⟨#[101]⟩) ([]) ([]) 0 0 0 false 3 0 0 (⟨#[]⟩) (⟨#[]⟩) ([]) 0 0 0 0 2 0 5)]:List aO) 0 5).length 5)<|ck (bj (sub ([(fU.mk 1 0 (sub ([(ax.mk 0 0 10 10)]:List ax) 0 1) ([]))]:List fU) 0 1).length 1)<|ck (bj (sub ([(cO.mk 2 12 2 14 4 0 3 0 0 false)]:List cO) 0 1).length 1)<|ck (bj (sub ([(bU.mk (sub ([(aC.mk 2 2 8 8 0 14 2 0 false)]:List aC) 0 1) ([]))]:List bU) 0 1).length 1)<|(tN n (dS.mk ([]) ([]) ([]) (sub ([(aO.mk (⟨#[97]⟩) ([]) ([]) 0 0 0 false 0 12 0 (⟨#[]⟩) (⟨#[]⟩) (sub ([(bH.mk 1 0 (⟨#[104,101,105,103,104,116]⟩) (⟨#[]⟩) ([])),r1]:List bH) 0 2) 0 0 0 0 0 0 0),(aO.mk (⟨#[98]⟩) ([]) ([]) 0 0 0 false 1 0 0 (⟨#[]⟩) (⟨#[]⟩) ([]) 0 9 3 1 0 0 0),(aO.mk (⟨#[99]⟩) ([]) ([]) 0 0 0 false 1 0 0 (⟨#[]⟩) (⟨#[]⟩) ([]) 0 9 1 1 0 0 0),(aO.mk (⟨#[100]⟩) ([]) ([]) 0 0 0 false 2 0 0 (⟨#[]⟩) (⟨#[]⟩) ([]) 0 0 0 0 5 0 0),(aO.mk (⟨#[101]⟩) ([]) ([]) 0 0 0 false 3 0 0 (⟨#[]⟩) (⟨#[]⟩) ([]) 0 0 0 0 2 0 5)]:List aO) 0 5) ([]) ([]) ([]) 0 (sub ([(fU.mk 1 0 (sub ([(ax.mk 0 0 10 10)]:List ax) 0 1) ([]))]:List fU) 0 1) ([]) ([]) (sub ([(cO.mk 2 12 2 14 4 0 3 0 0 false)]:List cO) 0 1) ([])) (aP.mk 1 (sub ([(bU.mk (sub ([(aC.mk 2 2 8 8 0 14 2 0 false)]:List aC) 0 1) ([]))]:List bU) 0 1)) 7).bind λr7=>some (!r7)else some false)else some false)else some false)else some false)else some false)
def rF(rc:(bH)->(Int)->(Int)->Option Int)(a0:bH)(a1:Int)(a2:Int):Stp (Int×Int) Int
 |(v1,v2)=>((bif decide (v2<(a0.args.length:Int))then some (decide (v1<=(a1:Int)))else some false)).bind λv3=>(bif v3 then(bz a0.args v2).bind λx1=>(rc x1 (i64.wrap (a1 -v1)) (i64.wrap (a2 -1))).bind λr1=>some (.inl ((i64.wrap (v1+r1)),(i64.wrap (v2+1))))else some (.inr v1))
def yK(rc:(bH)->(Int)->(Int)->Option Int)(a0:bH)(a1:Int)(a2:Int):Option Int:=
 (bif decide (a2<1)then some (i64.wrap (a1+1))else(iter (rF rc a0 a1 a2) n ((1:Int),(0:Int))).bind λw1=>some w1)
def Ct(rc:(bH)->(Int)->(Int)->Option Int):ca xx:=⟨[.d (.st SI.Expr),.d (.int .i64),.d (.int .i64)],[.d (.int .i64)],λa=>rc a.1 a.2.1 a.2.2.1,none⟩
def qF(n:Nat):Nat->(bH)->(Int)->(Int)->Option Int
 | 0=>λ_ _ _=>none
 |m+1=>yK n (qF n m)
def AJ(a0:bH)(a1:Int)(a2:Int):Option Int:=qF n n a0 a1 a2
def vK(a0:List aO):Stp Int (Unit⊕Bool)
 |v1=>((bif decide (v1<(a0.length:Int))then some (decide (v1<7))else some false)).bind λv2=>(bif v2 then((bz a0 v1).bind λx1=>(AJ n (bH.mk x1.j7 x1.lr x1.lp x1.ik x1.fj) 40 14).bind λr1=>(bif decide (r1>40)then some true else(bz a0 v1).bind λx2=>(bif decide ((x2.zones.length:Int)>6)then some true else(bz a0 v1).bind λx3=>some (decide ((x3.except.length:Int)>6))))).bind λv3=>(bif v3 then(some false).map λa=> .inr (.inr a)else some (.inl (i64.wrap (v1+1))))else some (.inr (.inl ())))
def Gz(a0:List aO):Option Bool:=
 dx (iter (vK n a0) n (0:Int)) λ()=>some (decide ((a0.length:Int)<=6))
def yL(a0:bZ):Stp Int (Unit⊕Bool)
 |v1=>((bif decide (v1<(a0.defs.length:Int))then some (decide (v1<6))else some false)).bind λv2=>(bif v2 then(bz a0.defs v1).bind λx1=>(AJ n (bH.mk x1.gR x1.kB x1.jp x1.gz x1.ed) 40 14).bind λr1=>(bif decide (r1>40)then(some false).map λa=> .inr (.inr a)else some (.inl (i64.wrap (v1+1))))else some (.inr (.inl ())))
def yM(a0:bZ):Stp Int (Unit⊕Bool)
 |v3=>((bif decide (v3<(a0.tables.length:Int))then some (decide (v3<5))else some false)).bind λv4=>(bif v4 then(bz a0.tables v3).bind λx2=>(bif decide ((x2.rows.length:Int)>8)then(some false).map λa=> .inr (.inr a)else some (.inl (i64.wrap (v3+1))))else some (.inr (.inl ())))
def yN(a0:bZ):Stp Int (Unit⊕Bool)
 |v5=>((bif decide (v5<(a0.zones.length:Int))then some (decide (v5<6))else some false)).bind λv6=>(bif v6 then(bz a0.zones v5).bind λx3=>(bif decide ((x3.corners.length:Int)>12)then(some false).map λa=> .inr (.inr a)else some (.inl (i64.wrap (v5+1))))else some (.inr (.inl ())))
def yO(a0:bZ):Stp Int (Unit⊕Bool)
 |v7=>((bif decide (v7<(a0.caps.length:Int))then some (decide (v7<4))else some false)).bind λv8=>(bif v8 then(bz a0.caps v7).bind λx4=>(bif decide ((x4.corners.length:Int)>12)then(some false).map λa=> .inr (.inr a)else some (.inl (i64.wrap (v7+1))))else some (.inr (.inl ())))
def Ky(a0:bZ):Option Bool:=
 dx (iter (yL n a0) n (0:Int)) λ()=>dx (iter (yM a0) n (0:Int)) λ()=>dx (iter (yN a0) n (0:Int)) λ()=>dx (iter (yO a0) n (0:Int)) λ()=>(bif decide ((a0.defs.length:Int)<=5)then(bif decide ((a0.tables.length:Int)<=4)then(bif decide ((a0.zones.length:Int)<=5)then(bif decide ((a0.caps.length:Int)<=3)then(Gz n a0.rules).bind λr2=>some r2 else some false)else some false)else some false)else some false)
def Cu(a0:dS):Stp Int (Unit⊕Bool)
 |v1=>((bif decide (v1<(a0.land.length:Int))then some (decide (v1<5))else some false)).bind λv2=>(bif v2 then(bz a0.land v1).bind λx1=>(bif decide ((x1.area.length:Int)>6)then(some false).map λa=> .inr (.inr a)else some (.inl (i64.wrap (v1+1))))else some (.inr (.inl ())))
def Cv(a0:dS):Stp Int (Unit⊕Bool)
 |v3=>((bif decide (v3<(a0.b9.length:Int))then some (decide (v3<4))else some false)).bind λv4=>(bif v4 then(bz a0.b9 v3).bind λx2=>(bif decide ((x2.area.length:Int)>6)then(some false).map λa=> .inr (.inr a)else some (.inl (i64.wrap (v3+1))))else some (.inr (.inl ())))
def Cw(a1:aP):Stp Int (Unit⊕Bool)
 |v5=>((bif decide (v5<(a1.phases.length:Int))then some (decide (v5<4))else some false)).bind λv6=>(bif v6 then((bz a1.phases v5).bind λx3=>(bif decide ((x3.az.length:Int)>3)then some true else(bz a1.phases v5).bind λx4=>some (decide ((x4.gives.length:Int)>3)))).bind λv7=>(bif v7 then(some false).map λa=> .inr (.inr a)else some (.inl (i64.wrap (v5+1))))else some (.inr (.inl ())))
def Qo(a0:dS)(a1:aP):Option Bool:=
 dx (iter (Cu a0) n (0:Int)) λ()=>dx (iter (Cv a0) n (0:Int)) λ()=>dx (iter (Cw a1) n (0:Int)) λ()=>(Ky n (bZ.mk a0.ci a0.b7 a0.b8 a0.aE a0.cm a0.cd a0.cw a0.cg)).bind λr1=>(bif r1 then(bif decide ((a0.land.length:Int)<=4)then(bif decide ((a0.b9.length:Int)<=3)then(bif decide ((a0.built.length:Int)<=8)then some (decide ((a1.phases.length:Int)<=3))else some false)else some false)else some false)else some false)
def jS(a0:dS)(a1:aP)(a3:Int)(a4:Int)(r3:List bU)(r5:List aC)(x3:bU)(r6:List bU)(r7:List aC)(x6:aC)(x7:aC)(x8:bU):Stp Int (Unit⊕Bool)
 |v3=>(bif decide (v3<(a0.aE.length:Int))then dx ((bz a0.aE v3).bind λx9=>(bif (x9.kind==0)then some (.inl ())else(ck (bj (sub (r3.set ((0:Nat)+a3:Int).toNat (bU.mk (sub r5 0 r5.length) x3.gives)) 0 r3.length).length r3.length)<|(fu n a0 (aP.mk a1.lot (sub (r3.set ((0:Nat)+a3:Int).toNat (bU.mk (sub r5 0 r5.length) x3.gives)) 0 r3.length)) x9).bind λqq=>(bif qq then(fu n a0 a1 x9).bind λCA=>some (!CA)else ck (bj (sub (r6.set ((0:Nat)+a3:Int).toNat (bU.mk (sub (r7.set ((0:Nat)+a4:Int).toNat (aC.mk x7.bm x7.bx x7.bk x7.bu x7.cP (i64.wrap (x6.cz -1)) x7.use x7.units x7.extra)) 0 r7.length) x8.gives)) 0 r6.length).length r6.length)<|(fu n a0 (aP.mk a1.lot (sub (r6.set ((0:Nat)+a3:Int).toNat (bU.mk (sub (r7.set ((0:Nat)+a4:Int).toNat (aC.mk x7.bm x7.bx x7.bk x7.bu x7.cP (i64.wrap (x6.cz -1)) x7.use x7.units x7.extra)) 0 r7.length) x8.gives)) 0 r6.length)) x9).bind λqn=>(bif qn then(fu n a0 a1 x9).bind λCp=>some (!Cp)else some false))).bind λv4=>(bif v4 then((some false).map λa=> .inr (.inr a)).map .inr else some (.inl ()))):Option ((Unit)⊕_)) λ()=>some (.inl (i64.wrap (v3+1)))else some (.inr (.inl ())))
def p9(a0:dS)(a1:aP)(a2:Int)(a3:Int)(a4:Int):Option Bool:=
 (Gy n).bind λr1=>((Qo n a0 a1).bind λr2=>(bif (!r2)then some true else(bif decide (a3<0)then some true else(bif decide (a3>=(a1.phases.length:Int))then some true else(bif decide (a4<0)then some true else(bz a1.phases a3).bind λx1=>some (decide (a4>=(x1.az.length:Int)))))))).bind λv1=>(bif v1 then some r1 else(bz a1.phases a3).bind λx2=>ck (bP ([]:List bU).length 0 a1.phases.length a1.phases.length 48)<|jc (([]:List bU)++a1.phases) λr3=>ck (uL 0 a4 x2.az.length)<|ck (bP ([]:List aC).length 0 (sub x2.az 0 ((a4:Int).toNat)).length ((sub x2.az 0 ((a4:Int).toNat)).length) 72)<|jc (([]:List aC)++(sub x2.az 0 ((a4:Int).toNat))) λr4=>ck (uL (i64.wrap (a4+1)) (x2.az.length:Int) x2.az.length)<|ck (bP r4.length r4.length (sub x2.az (((i64.wrap (a4+1)):Int).toNat) (x2.az.length -((i64.wrap (a4+1)):Int).toNat)).length ((sub x2.az (((i64.wrap (a4+1)):Int).toNat) (x2.az.length -((i64.wrap (a4+1)):Int).toNat)).length) 72)<|jc (r4++(sub x2.az (((i64.wrap (a4+1)):Int).toNat) (x2.az.length -((i64.wrap (a4+1)):Int).toNat))) λr5=>ck (cH a3 r3.length)<|ck (bj (sub r5 0 r5.length).length r5.length)<|(bz r3 ((0:Nat)+a3:Int)).bind λx3=>ck (bP ([]:List bU).length 0 a1.phases.length a1.phases.length 48)<|jc (([]:List bU)++a1.phases) λr6=>ck (bP ([]:List aC).length 0 x2.az.length x2.az.length 72)<|jc (([]:List aC)++x2.az) λr7=>ck (cH a3 r6.length)<|(bz r6 ((0:Nat)+a3:Int)).bind λx4=>ck (cH a3 r6.length)<|(bz r6 ((0:Nat)+a3:Int)).bind λx5=>ck (((0:Nat)+a3:Int)==((0:Nat)+a3:Int))<|ck (cH a4 r7.length)<|(bz r7 ((0:Nat)+a4:Int)).bind λx6=>ck (cH a4 r7.length)<|(bz r7 ((0:Nat)+a4:Int)).bind λx7=>(bz r6 ((0:Nat)+a3:Int)).bind λx8=>ck (bj (sub (r7.set ((0:Nat)+a4:Int).toNat (aC.mk x7.bm x7.bx x7.bk x7.bu x7.cP (i64.wrap (x6.cz -1)) x7.use x7.units x7.extra)) 0 r7.length).length r7.length)<|(fq n (dS.mk a0.ci a0.b7 a0.b8 ([]) a0.cm a0.cd a0.cw a0.cg a0.land a0.b9 a0.windows a0.built a0.base) a1 a2).bind λr8=>ck (bj (sub (r3.set ((0:Nat)+a3:Int).toNat (bU.mk (sub r5 0 r5.length) x3.gives)) 0 r3.length).length r3.length)<|(fq n (dS.mk a0.ci a0.b7 a0.b8 ([]) a0.cm a0.cd a0.cw a0.cg a0.land a0.b9 a0.windows a0.built a0.base) (aP.mk a1.lot (sub (r3.set ((0:Nat)+a3:Int).toNat (bU.mk (sub r5 0 r5.length) x3.gives)) 0 r3.length)) a2).bind λr9=>ck (bj (sub (r6.set ((0:Nat)+a3:Int).toNat (bU.mk (sub (r7.set ((0:Nat)+a4:Int).toNat (aC.mk x7.bm x7.bx x7.bk x7.bu x7.cP (i64.wrap (x6.cz -1)) x7.use x7.units x7.extra)) 0 r7.length) x8.gives)) 0 r6.length).length r6.length)<|(fq n (dS.mk a0.ci a0.b7 a0.b8 ([]) a0.cm a0.cd a0.cw a0.cg a0.land a0.b9 a0.windows a0.built a0.base) (aP.mk a1.lot (sub (r6.set ((0:Nat)+a3:Int).toNat (bU.mk (sub (r7.set ((0:Nat)+a4:Int).toNat (aC.mk x7.bm x7.bx x7.bk x7.bu x7.cP (i64.wrap (x6.cz -1)) x7.use x7.units x7.extra)) 0 r7.length) x8.gives)) 0 r6.length)) a2).bind λtd=>(bif (r8.2 !=0)then some r1 else((bif (r9.2==0)then(bif decide ((r9.1.length:Int)>(r8.1.length:Int))then some true else(bif (td.2==0)then some (decide ((td.1.length:Int)>(r8.1.length:Int)))else some false))else(bif (td.2==0)then some (decide ((td.1.length:Int)>(r8.1.length:Int)))else some false))).bind λv2=>(bif v2 then some false else dx (iter (jS n a0 a1 a3 a4 r3 r5 x3 r6 r7 x6 x7 x8) n (0:Int)) λ()=>some r1)))
end
end Go.Proofs
