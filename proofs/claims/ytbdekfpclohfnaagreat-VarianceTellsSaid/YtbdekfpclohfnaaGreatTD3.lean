import Derived.Test.YtbdekfpclohfnaaGreatTD2
open Go.IntKind (i64)
namespace Go.Proofs
open Go.Gb Go.RowKit
noncomputable section
variable (n:Nat)
def BU(a0:gQ)(a1:List ByteArray)(v1:Int):Stp (Bool×Int) (Bool⊕(Int⊕(Unit⊕Bool)))
 |(v2,v3)=>(bif decide (v3<(a0.rules.length:Int))then dM ((bh a0.rules v3).bind λx1=>(bh a1 v1).bind λx2=>(bif (!(ByteArray.toList x1.name==ByteArray.toList x2))then some (.inl v2)else(bh a0.rules v3).bind λx3=>(bif (!x3.vary)then(((some false).map λa=> .inr (.inr a)).map λa=> .inr (.inr a)).map .inr else some (.inl true)))) λ(v4:Bool)=>some (.inl (v4,(i64.wrap (v3+1))))else some (.inr (.inl v2)))
def I9(a0:gQ)(a1:List ByteArray):Stp Int (Unit⊕Bool)
 |v1=>(bif decide (v1<(a1.length:Int))then dM (iter (BU a0 a1 v1) n (false,(0:Int))) λw1=>(bif (!w1)then(some false).map λa=> .inr (.inr a)else some (.inl (i64.wrap (v1+1))))else some (.inr (.inl ())))
def WS(a0:gQ)(a1:List ByteArray):Option Bool:=
 dM (iter (I9 n a0 a1) n (0:Int)) λ()=>some (decide ((a1.length:Int)>0))
def xU(a0:List aU)(a1:List Int):Stp Int (Unit⊕Bool)
 |v1=>(bif decide (v1<(a0.length:Int))then((bh a1 v1).bind λx1=>(bif decide (x1<0)then some true else(bh a1 v1).bind λx2=>(bh a0 v1).bind λx3=>some (decide (x2>=(x3.values:Int))))).bind λv2=>(bif v2 then(some false).map λa=> .inr (.inr a)else some (.inl (i64.wrap (v1+1))))else some (.inr (.inl ())))
def tq(a0:List aU)(a1:List Int):Option Bool:=
 (bif ((a1.length:Int) !=(a0.length:Int))then some false else dM (iter (xU a0 a1) n (0:Int)) λ()=>some true)
def vv(a1:List aH)(v2:Int):Stp Int (Unit⊕(Int⊕(Unit⊕Bool)))
 |v3=>(bif decide (v3<(v2:Int))then(bh a1 v3).bind λx2=>(bh a1 v2).bind λx3=>(bif (x2.id==(x3.id:Int))then((some false).map λa=> .inr (.inr a)).map λa=> .inr (.inr a)else some (.inl (i64.wrap (v3+1))))else some (.inr (.inl ())))
def Ao(a0:List aU)(a1:List aH):Stp Int (Unit⊕Bool)
 |v2=>(bif decide (v2<(a1.length:Int))then(bh a1 v2).bind λx1=>(tq n a0 x1.values).bind λr2=>(bif (!r2)then(some false).map λa=> .inr (.inr a)else dM (iter (vv a1 v2) n (0:Int)) λ()=>some (.inl (i64.wrap (v2+1))))else some (.inr (.inl ())))
def GI(a0:List aU)(a1:List aH):Option Bool:=
 ((Gy n a0).bind λr1=>(bif (!r1)then some true else some (decide ((a1.length:Int)>2000)))).bind λv1=>(bif v1 then some false else dM (iter (Ao n a0 a1) n (0:Int)) λ()=>some true)
def Ja(a0:aU)(a1:Int)(a2:Int):Option Bool:=
 (bif (a1==(a2:Int))then some true else(IY n a0 a1 a2 0).bind λr1=>some (decide (r1>0)))
def pF(a0:aU)(v1:Int):Stp (Int×(List Bool)) (List Bool)
 |(v3,v4)=>(bif decide (v3<(a0.values:Int))then(Ja n a0 v1 v3).bind λr3=>ck (bD v4.length v4.length (sub ([r3]:List Bool) 0 1).length 1 1)<|fK (v4++(sub ([r3]:List Bool) 0 1)) λr4=>ck (bb r4.length r4.length)<|some (.inl ((i64.wrap (v3+1)),r4))else ck (bb v4.length v4.length)<|some (.inr v4))
def pG(a0:aU):Stp (Int×(List (List Bool))) (List (List Bool))
 |(v1,v2)=>(bif decide (v1<(a0.values:Int))then ck (bb 0 ([]:List Bool).length)<|(iter (pF n a0 v1) n ((0:Int),([]:List Bool))).bind λw1=>ck (bb (sub w1 0 w1.length).length w1.length)<|ck (bD v2.length v2.length (sub ([(sub w1 0 w1.length)]:List (List Bool)) 0 1).length 1 24)<|fK (v2++(sub ([(sub w1 0 w1.length)]:List (List Bool)) 0 1)) λr5=>ck (bb r5.length r5.length)<|some (.inl ((i64.wrap (v1+1)),r5))else ck (bb v2.length v2.length)<|some (.inr v2))
def Et(a0:aU):Option ((List (List Bool))×(List Int)×Int):=
 (Gx n a0).bind λr1=>(bif (!r1)then some (([]:(List (List Bool))),([]:(List Int)),(1:Int))else(BO n a0).bind λr2=>(bif decide ((r2.length:Int)>0)then ck (bb (sub r2 0 r2.length).length r2.length)<|some (([]:(List (List Bool))),(sub r2 0 r2.length),(16:Int))else ck (bb 0 ([]:List (List Bool)).length)<|(iter (pG n a0) n ((0:Int),([]:List (List Bool)))).bind λw2=>ck (bb (sub w2 0 w2.length).length w2.length)<|some ((sub w2 0 w2.length),([]:(List Int)),(0:Int))))
def sN(a0:List aU):Stp (Int×(List (List (List Bool)))) (List (List (List Bool)))
 |(v1,v2)=>(bif decide (v1<(a0.length:Int))then(bh a0 v1).bind λx1=>(Et n x1).bind λr1=>ck (bb (sub r1.1 0 r1.1.length).length r1.1.length)<|ck (bD v2.length v2.length (sub ([(sub r1.1 0 r1.1.length)]:List (List (List Bool))) 0 1).length 1 24)<|fK (v2++(sub ([(sub r1.1 0 r1.1.length)]:List (List (List Bool))) 0 1)) λr2=>ck (bb r2.length r2.length)<|some (.inl ((i64.wrap (v1+1)),r2))else ck (bb v2.length v2.length)<|some (.inr v2))
def vw(a0:List aU):Option (List (List (List Bool))):=
 ck (bb 0 ([]:List (List (List Bool))).length)<|(iter (sN n a0) n ((0:Int),([]:List (List (List Bool))))).bind λw1=>ck (bb (sub w1 0 w1.length).length w1.length)<|some (sub w1 0 w1.length)
def xV(a0:(List (List (List Bool))))(a1:List Int)(a2:List Int):Stp (Int×(List Int)) (List Int)
 |(v1,v2)=>(bif decide (v1<(a0.length:Int))then((bh a0 v1).bind λx1=>(bh a1 v1).bind λx2=>(bh x1 x2).bind λx3=>(bh a2 v1).bind λx4=>(bh x3 x4).bind λx5=>(bif (!x5)then ck (bD v2.length v2.length (sub ([v1]:List Int) 0 1).length 1 8)<|fK (v2++(sub ([v1]:List Int) 0 1)) λr1=>ck (bb r1.length r1.length)<|some r1 else ck (bb v2.length v2.length)<|some v2):Option ((List Int))).bind λv3=>ck (bb v3.length v3.length)<|some (.inl ((i64.wrap (v1+1)),v3))else ck (bb v2.length v2.length)<|some (.inr v2))
def BV(a0:(List (List (List Bool))))(a1:List Int)(a2:List Int):Option (List Int):=
 ck (bb 0 ([]:List Int).length)<|(iter (xV a0 a1 a2) n ((0:Int),([]:List Int))).bind λw1=>ck (bb (sub w1 0 w1.length).length w1.length)<|some (sub w1 0 w1.length)
def yR(a0:(List (List (List Bool))))(a1:aH)(a2:List Int):Option (List Int):=
 (bif a1.grant then(BV n a0 a1.values a2).bind λr1=>ck (bb (sub r1 0 r1.length).length r1.length)<|some (sub r1 0 r1.length)else(BV n a0 a2 a1.values).bind λr2=>ck (bb (sub r2 0 r2.length).length r2.length)<|some (sub r2 0 r2.length))
def xW(a0:(List (List (List Bool))))(a1:List aH)(a2:List Int)(a3:Int):Stp (Int×Int×(List Int)) (Int×(List Int))
 |(v1,v2,v3)=>(bif decide (v2<(a1.length:Int))then(((bif (v2==(a3:Int))then some true else(bh a1 v2).bind λx1=>(yR n a0 x1 a2).bind λr1=>some (decide ((r1.length:Int)>0)))).bind λv4=>(bif v4 then ck (bb v3.length v3.length)<|some (v1,v3)else ck (bD v3.length v3.length (sub ([v2]:List Int) 0 1).length 1 8)<|fK (v3++(sub ([v2]:List Int) 0 1)) λr2=>(bh a1 v2).bind λx2=>(bif x2.grant then ck (bb r2.length r2.length)<|some ((i64.wrap (v1+1)),r2)else ck (bb r2.length r2.length)<|some (v1,r2))):Option (Int×(List Int))).bind λ(v5,v6)=>ck (bb v6.length v6.length)<|some (.inl (v5,(i64.wrap (v2+1)),v6))else ck (bb v3.length v3.length)<|some (.inr (v1,v3)))
def Jb(a0:(List (List (List Bool))))(a1:List aH)(a2:List Int)(a3:Int):Option (Int×(List Int)):=
 ck (bb 0 ([]:List Int).length)<|(iter (xW n a0 a1 a2 a3) n ((0:Int),(0:Int),([]:List Int))).bind λ(w1,w2)=>(bif ((w2.length:Int)==0)then some ((0:Int),([]:(List Int)))else(bif (w1==(w2.length:Int))then ck (bb (sub w2 0 w2.length).length w2.length)<|some ((1:Int),(sub w2 0 w2.length))else(bif (w1==0)then ck (bb (sub w2 0 w2.length).length w2.length)<|some ((2:Int),(sub w2 0 w2.length))else ck (bb (sub w2 0 w2.length).length w2.length)<|some ((3:Int),(sub w2 0 w2.length)))))
def Jc(a0:List aU)(a1:List aH)(a2:List Int):Option (Int×(List Int)×Int):=
 ((GI n a0 a1).bind λr1=>(bif (!r1)then some true else(tq n a0 a2).bind λr2=>some (!r2))).bind λv1=>(bif v1 then some ((0:Int),([]:(List Int)),(1:Int))else(vw n a0).bind λr3=>ck (bb (sub r3 0 r3.length).length r3.length)<|(Jb n (sub r3 0 r3.length) a1 a2 (-1)).bind λr4=>ck (bb (sub r4.2 0 r4.2.length).length r4.2.length)<|some (r4.1,(sub r4.2 0 r4.2.length),(0:Int)))
def Ob(a0:List aH):Stp (Int×(List aH)) (List aH)
 |(v1,v2)=>(bif decide (v1<(a0.length:Int))then(bh a0 v1).bind λx1=>(bh a0 v1).bind λx2=>ck (bD ([]:List Int).length 0 x2.values.length x2.values.length 8)<|fK (([]:List Int)++x2.values) λr1=>(bh a0 v1).bind λx3=>ck (bb (sub r1 0 r1.length).length r1.length)<|ck (bD v2.length v2.length (sub ([(aH.mk x1.id (sub r1 0 r1.length) x3.grant)]:List aH) 0 1).length 1 40)<|fK (v2++(sub ([(aH.mk x1.id (sub r1 0 r1.length) x3.grant)]:List aH) 0 1)) λr2=>ck (bb r2.length r2.length)<|some (.inl ((i64.wrap (v1+1)),r2))else ck (bb v2.length v2.length)<|some (.inr v2))
def tu(a0:List aH):Option (List aH):=
 ck (bb 0 ([]:List aH).length)<|(iter (Ob a0) n ((0:Int),([]:List aH))).bind λw1=>ck (bb (sub w1 0 w1.length).length w1.length)<|some (sub w1 0 w1.length)
def vz(a0:List aH):Stp (Int×(List aH)) (List aH)
 |(v1,v2)=>(bif decide (v1<(a0.length:Int))then(bh a0 v1).bind λx1=>(bh a0 v1).bind λx2=>ck (bD ([]:List Int).length 0 x2.values.length x2.values.length 8)<|fK (([]:List Int)++x2.values) λr1=>(bh a0 v1).bind λx3=>ck (bb (sub r1 0 r1.length).length r1.length)<|ck (bD v2.length v2.length (sub ([(aH.mk x1.id (sub r1 0 r1.length) x3.grant)]:List aH) 0 1).length 1 40)<|fK (v2++(sub ([(aH.mk x1.id (sub r1 0 r1.length) x3.grant)]:List aH) 0 1)) λr2=>ck (bb r2.length r2.length)<|some (.inl ((i64.wrap (v1+1)),r2))else ck (bb v2.length v2.length)<|some (.inr v2))
def wV(a0:List aH):Option (List aH):=
 ck (bb 0 ([]:List aH).length)<|(iter (vz a0) n ((0:Int),([]:List aH))).bind λw1=>ck (bb (sub w1 0 w1.length).length w1.length)<|some (sub w1 0 w1.length)
def Jd(a1:List aH)(a2:aH):Stp Int (Unit⊕((List aH)×Int))
 |v2=>(bif decide (v2<(a1.length:Int))then(bh a1 v2).bind λx1=>(bif (x1.id==(a2.id:Int))then(some (([]:(List aH)),(5:Int))).map λa=> .inr (.inr a)else some (.inl (i64.wrap (v2+1))))else some (.inr (.inl ())))
def Je(a1:List aH)(a2:aH)(r3:(List (List (List Bool)))):Stp Int (Unit⊕((List aH)×Int))
 |v3=>(bif decide (v3<(a1.length:Int))then((bh a1 v3).bind λx2=>(bif (!(x2.grant==a2.grant))then(bh a1 v3).bind λx3=>ck (bb (sub r3 0 r3.length).length r3.length)<|(yR n (sub r3 0 r3.length) x3 a2.values).bind λr4=>some ((r4.length:Int)==0)else some false)).bind λv4=>(bif v4 then(some (([]:(List aH)),(25:Int))).map λa=> .inr (.inr a)else some (.inl (i64.wrap (v3+1))))else some (.inr (.inl ())))
def WT(a0:List aU)(a1:List aH)(a2:aH):Option ((List aH)×Int):=
 ((GI n a0 a1).bind λr1=>(bif (!r1)then some true else(tq n a0 a2.values).bind λr2=>some (!r2))).bind λv1=>(bif v1 then some (([]:(List aH)),(1:Int))else dM (iter (Jd a1 a2) n (0:Int)) λ()=>(bif decide ((a1.length:Int)>=2000)then some (([]:(List aH)),(6:Int))else(vw n a0).bind λr3=>dM (iter (Je n a1 a2 r3) n (0:Int)) λ()=>ck (bD ([]:List aH).length 0 a1.length a1.length 40)<|fK (([]:List aH)++a1) λr5=>ck (bD r5.length r5.length (sub ([a2]:List aH) 0 1).length 1 40)<|fK (r5++(sub ([a2]:List aH) 0 1)) λr6=>ck (bb (sub r6 0 r6.length).length r6.length)<|(wV n (sub r6 0 r6.length)).bind λr7=>ck (bb (sub r7 0 r7.length).length r7.length)<|some ((sub r7 0 r7.length),(0:Int))))
def BX(a0:List aU)(a1:List aH)(a2:Int)(a3:List Int)(a4:Bool):Option (Bool×(List aH)×Int):=
 (Jc n a0 a1 a3).bind λr1=>(bif (r1.2.2 !=0)then(tu n a1).bind λr2=>ck (bb (sub r2 0 r2.length).length r2.length)<|some (false,(sub r2 0 r2.length),(1:Int))else(bif (r1.1==3)then(tu n a1).bind λr3=>ck (bb (sub r3 0 r3.length).length r3.length)<|some (false,(sub r3 0 r3.length),(25:Int))else((bif (r1.1==1)then some true else(bif (r1.1==0)then some a4 else some false))).bind λv1=>(WT n a0 a1 (aH.mk a2 a3 v1)).bind λr4=>(bif (r4.2 !=0)then(tu n a1).bind λr5=>ck (bb (sub r5 0 r5.length).length r5.length)<|some (false,(sub r5 0 r5.length),r4.2)else ck (bb (sub r4.1 0 r4.1.length).length r4.1.length)<|some (v1,(sub r4.1 0 r4.1.length),(0:Int)))))
def Eu(a0:List Int)(a1:List Int):Stp Int (Unit⊕Bool)
 |v1=>(bif decide (v1<(a0.length:Int))then(bh a0 v1).bind λx1=>(bh a1 v1).bind λx2=>(bif (x1 !=(x2:Int))then(some false).map λa=> .inr (.inr a)else some (.inl (i64.wrap (v1+1))))else some (.inr (.inl ())))
def Q8(a0:List Int)(a1:List Int):Option Bool:=
 (bif ((a0.length:Int) !=(a1.length:Int))then some false else dM (iter (Eu a0 a1) n (0:Int)) λ()=>some true)
def Ew(a0:List aH)(a1:List aH):Stp Int (Unit⊕Bool)
 |v1=>(bif decide (v1<(a0.length:Int))then((bh a0 v1).bind λx1=>(bh a1 v1).bind λx2=>(bif (x1.id !=(x2.id:Int))then some true else(bh a0 v1).bind λx3=>(bh a1 v1).bind λx4=>(bif (!(x3.grant==x4.grant))then some true else(bh a0 v1).bind λx5=>(bh a1 v1).bind λx6=>(Q8 n x5.values x6.values).bind λr1=>some (!r1)))).bind λv2=>(bif v2 then(some false).map λa=> .inr (.inr a)else some (.inl (i64.wrap (v1+1))))else some (.inr (.inl ())))
def LU(a0:List aH)(a1:List aH):Option Bool:=
 (bif ((a0.length:Int) !=(a1.length:Int))then some false else dM (iter (Ew n a0 a1) n (0:Int)) λ()=>some true)
def oL(a0:gU)(a1:bi)(a2:List ByteArray)(a3:List aU)(a4:List aH)(a5:E7):Option Bool:=
 (M0 n).bind λr1=>((WL n a0 a1 a2).bind λr2=>(bif (!r2)then some true else(Ak n a3 a4).bind λr3=>(bif (!r3)then some true else some (decide ((a5.values.length:Int)>8))))).bind λv1=>(bif v1 then some r1 else(jE n a0 a3 a1 a2).bind λr4=>(I8 n a0 a3 a1 a2).bind λr5=>ck (bb (sub r5 0 r5.length).length r5.length)<|(ck (bb (sub r4 0 r4.length).length r4.length)<|(nJ n (sub r4 0 r4.length) (sub r5 0 r5.length)).bind λr6=>(bif (!r6)then some true else(mJ n a0 a1 a2).bind λr7=>(yQ n a0 a1 a2).bind λr8=>ck (bb (sub r7 0 r7.length).length r7.length)<|ck (bb (sub r8 0 r8.length).length r8.length)<|(nJ n (sub r7 0 r7.length) (sub r8 0 r8.length)).bind λr9=>(bif (!r9)then some true else(nL n (gQ.mk a0.cy a0.bu a0.b9 a0.bp a0.c9 a0.cT a0.dt a0.cU) a2).bind λrh=>(WS n (gQ.mk a0.cy a0.bu a0.b9 a0.bp a0.c9 a0.cT a0.dt a0.cU) a2).bind λmy=>some (!(rh==my))))).bind λv2=>(bif v2 then some false else(gG n a3 a4 a5.id a5.values a5.cm).bind λrb=>(BX n a3 a4 a5.id a5.values a5.cm).bind λmc=>(gG n a3 a4 a5.id (sub r5 0 r5.length) a5.cm).bind λra=>(BX n a3 a4 a5.id (sub r5 0 r5.length) a5.cm).bind λmb=>(bif r1 then(bif (rb.1==mc.1)then(bif (rb.2.2==(mc.2.2:Int))then ck (bb (sub rb.2.1 0 rb.2.1.length).length rb.2.1.length)<|ck (bb (sub mc.2.1 0 mc.2.1.length).length mc.2.1.length)<|(LU n (sub rb.2.1 0 rb.2.1.length) (sub mc.2.1 0 mc.2.1.length)).bind λr16=>(bif r16 then(bif (ra.1==mb.1)then(bif (ra.2.2==(mb.2.2:Int))then ck (bb (sub ra.2.1 0 ra.2.1.length).length ra.2.1.length)<|ck (bb (sub mb.2.1 0 mb.2.1.length).length mb.2.1.length)<|(LU n (sub ra.2.1 0 ra.2.1.length) (sub mb.2.1 0 mb.2.1.length)).bind λoT=>some oT else some false)else some false)else some false)else some false)else some false)else some false)))
end
end Go.Proofs
