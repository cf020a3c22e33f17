import Derived.Test.YtlhamcjimbeggaaGreatDoorTBase
open Go.IntKind (i64)
namespace Go.Proofs
open Go.Gb Go.RowKit
noncomputable section
variable (n:Nat)
def JR:J dK:=
 ck (bk (sub ([dD.mk 0 2 (⟨#[]⟩) (⟨#[]⟩) ([]),dD.mk 1 0 (⟨#[115,101,116,98,97,99,107]⟩) (⟨#[]⟩) ([])]:U dD) 0 2).length 2)<|ck (bk (sub ([aj.mk 4 2 6 3]:U aj) 0 1).length 1)<|ck (bk (sub ([aj.mk 0 0 10 8]:U aj) 0 1).length 1)<|ck (bk (sub ([bO.mk (⟨#[97]⟩) ([]) ([]) 0 0 0 false 0 12 0 (⟨#[]⟩) (⟨#[]⟩) (sub ([dD.mk 0 2 (⟨#[]⟩) (⟨#[]⟩) ([]),dD.mk 1 0 (⟨#[115,101,116,98,97,99,107]⟩) (⟨#[]⟩) ([])]:U dD) 0 2) 0 0 0 0 0 0 0,bO.mk (⟨#[98]⟩) ([]) ([]) 0 0 0 false 1 0 0 (⟨#[]⟩) (⟨#[]⟩) ([]) 0 3 1 1 0 0 0]:U bO) 0 2).length 2)<|ck (bk (sub ([j6.mk 1 0 (sub ([aj.mk 0 0 10 8]:U aj) 0 1) ([])]:U j6) 0 1).length 1)<|ck (bk (sub ([dI.mk 1 (sub ([aj.mk 4 2 6 3]:U aj) 0 1) 5]:U dI) 0 1).length 1)<|some (dK.mk ([]) ([]) ([]) (sub ([bO.mk (⟨#[97]⟩) ([]) ([]) 0 0 0 false 0 12 0 (⟨#[]⟩) (⟨#[]⟩) (sub ([dD.mk 0 2 (⟨#[]⟩) (⟨#[]⟩) ([]),dD.mk 1 0 (⟨#[115,101,116,98,97,99,107]⟩) (⟨#[]⟩) ([])]:U dD) 0 2) 0 0 0 0 0 0 0,bO.mk (⟨#[98]⟩) ([]) ([]) 0 0 0 false 1 0 0 (⟨#[]⟩) (⟨#[]⟩) ([]) 0 3 1 1 0 0 0]:U bO) 0 2) ([]) ([]) ([]) 0 (sub ([j6.mk 1 0 (sub ([aj.mk 0 0 10 8]:U aj) 0 1) ([])]:U j6) 0 1) (sub ([dI.mk 1 (sub ([aj.mk 4 2 6 3]:U aj) 0 1) 5]:U dI) 0 1) ([]) ([]) ([]))
def xh(a0:U aj):J (List aj):=
 bif a0.isEmpty then(both (some []) (ck (bP ([]:U aj).length 0 a0.length a0.length 32)<|iU ([]++a0) λr1=>ck (bk (sub r1 0 r1.length).length r1.length)<|some (sub r1 0 r1.length)))else ck (bP ([]:U aj).length 0 a0.length a0.length 32)<|iU ([]++a0) λr2=>ck (bk (sub r2 0 r2.length).length r2.length)<|some (sub r2 0 r2.length)
def Gd(a0:U Int):J (List Int):=
 bif a0.isEmpty then(both (some []) (ck (bP ([]:U Int).length 0 a0.length a0.length 8)<|iU ([]++a0) λr1=>ck (bk (sub r1 0 r1.length).length r1.length)<|some (sub r1 0 r1.length)))else ck (bP ([]:U Int).length 0 a0.length a0.length 8)<|iU ([]++a0) λr2=>ck (bk (sub r2 0 r2.length).length r2.length)<|some (sub r2 0 r2.length)
def PX(a0:j6):J j6:=
 (xh a0.area).bind λr1=>(Gd a0.from_).bind λr2=>ck (bk (sub r1 0 r1.length).length r1.length)<|ck (bk (sub r2 0 r2.length).length r2.length)<|some (j6.mk a0.id a0.owner (sub r1 0 r1.length) (sub r2 0 r2.length))
def Gf(a0:U j6)(a1:Int):Stp Int (Unit⊕(j6×Bool))
 |v1=>bif decide (v1<a0.length)then(ci a0 v1).bind λx1=>(bif (x1.id==a1)then(PX x1).bind λr1=>(some (r1,true)).map λa=>.inr (.inr a)else some (.inl (i64.wrap (v1+1))))else some (.inr (.inl ()))
def za(a0:U j6)(a1:Int):J (j6×Bool):=
 fe (iter (Gf a0 a1) n 0) λ()=>some (j6.mk 0 0 ([]) ([]),false)
def qC(a0:aj):J Bool:=
 bif decide (0<=a0.x0)then(bif decide (a0.x0<a0.x1)then(bif decide (a0.x1<=1048576)then(bif decide (0<=a0.y0)then(bif decide (a0.y0<a0.y1)then some (decide (a0.y1<=1048576))else some false)else some false)else some false)else some false)else some false
def PY(_:Unit)(a1:Int):J (List aj):=
 bif decide (a1<0)then none else bif (decide ((i64.wrap (a1-(i64.wrap (0-0))))>0))then ck (Bn (i64.wrap (a1-(i64.wrap (0-0)))) 32)<|ck (z8 0 0 ((i64.wrap (a1-(i64.wrap (0-0)))).toNat))<|ck (bk (sub (List.replicate (i64.wrap (a1-(i64.wrap (0-0)))).toNat (aj.mk 0 0 0 0)) 0 0).length 0)<|some (sub (List.replicate (i64.wrap (a1-(i64.wrap (0-0)))).toNat (aj.mk 0 0 0 0)) 0 0)else some []
def PZ(a0:U (List aj)):Stp (Int×Int) Int
 |(v1,v2)=>bif decide (v2<a0.length)then(ci a0 v2).bind λx1=>(bif decide ((i64.wrap (v1+x1.length))<0)then none else some (.inl (i64.wrap (v1+x1.length),i64.wrap (v2+1))))else some (.inr v1)
def P5(a0:U (List aj)):Stp (Int×(List aj)) (List aj)
 |(v3,v4)=>bif decide (v3<a0.length)then(ci a0 v3).bind λx2=>ck (bP v4.length v4.length x2.length x2.length 32)<|iU (v4++x2) λr2=>ck (bk r2.length r2.length)<|some (.inl (i64.wrap (v3+1),r2))else ck (bk v4.length v4.length)<|some (.inr v4)
def Al(a0:U (List aj)):J (List aj):=
 (iter (PZ a0) n (0,0)).bind λw1=>(PY () w1).bind λr1=>ck (bk r1.length r1.length)<|(iter (P5 a0) n (0,r1)).bind λw2=>ck (bk (sub w2 0 w2.length).length w2.length)<|some (sub w2 0 w2.length)
def mO(_:Nat)(a0:U Int):J (List Int):=NB a0
def P6(a0:U Int)(v1:Int):Stp (Int×Int×(List Int)) (Int×(List Int))
 |(v2,v3,v4)=>bif decide (v3<((a0.length-v1.toNat):Nat))then(ck (cR v3 (a0.length-v1.toNat))<|(ci v4 (((0+v1.toNat):Nat)+v3:Int)).bind λx3=>ck (cR (i64.wrap (v3-1)) (a0.length-v1.toNat))<|(ci v4 (((0+v1.toNat):Nat)+(i64.wrap (v3-1)):Int)).bind λx4=>(bif (x3 !=x4)then ck (cR v3 (a0.length-v1.toNat))<|(ci v4 (((0+v1.toNat):Nat)+v3:Int)).bind λx5=>ck (cR v2 a0.length)<|(ci v4 ((0:Nat)+v2:Int)).bind λ_=>some (i64.wrap (v2+1),v4.set ((0:Nat)+v2:Int).toNat x5)else some (v2,v4)):J (Int×(List Int))).bind λ(v5,v6)=>some (.inl (v5,i64.wrap (v3+1),v6))else some (.inr (v2,v4))
def P7(a0:U Int):Stp Int (Unit⊕(Unit×(List Int)))
 |v1=>bif decide (v1<(a0.length:Nat))then ck (cR v1 a0.length)<|(ci a0 ((0:Nat)+v1:Int)).bind λx1=>ck (cR (i64.wrap (v1-1)) a0.length)<|(ci a0 ((0:Nat)+(i64.wrap (v1-1)):Int)).bind λx2=>(bif (x1==x2)then ck (z8 v1 (a0.length:Nat) a0.length)<|(iter (P6 a0 v1) n (v1,1,a0)).bind λ(w1,w2)=>ck (z8 w1 (a0.length:Nat) a0.length)<|ck (z8 0 w1 a0.length)<|(ck (bk (w1.toNat) (w1.toNat))<|ck (bk (sub (w2.take (0+w1.toNat)) 0 (w1.toNat)).length (w1.toNat))<|some ((),sub (w2.take (0+w1.toNat)) 0 (w1.toNat))).map λa=>.inr (.inr a)else some (.inl (i64.wrap (v1+1))))else some (.inr (.inl ()))
def lF(a0:U Int):J (Unit×(List Int)):=
 bif decide ((a0.length:Int)<2)then ck (bk a0.length a0.length)<|ck (bk (sub a0 0 a0.length).length a0.length)<|some ((),sub a0 0 a0.length)else fe (iter (P7 n a0) n 1) λ()=>ck (bk a0.length a0.length)<|ck (bk (sub a0 0 a0.length).length a0.length)<|some ((),sub a0 0 a0.length)
def wO(_:Nat)(a0:U aN)(a1:(aN×aN×Unit)->J Int):J (List aN):=HP a0 a1
def cmp_isNaN_int(a0:Int):J Bool:=
 some (a0 !=a0)
def cmp_Compare_int(a0 a1:Int):J Int:=
 (cmp_isNaN_int a0).bind λr1=>(cmp_isNaN_int a1).bind λr2=>(bif r1 then(bif r2 then some 0 else some (-1))else bif r2 then some 1 else bif decide (a0<a1)then some (-1)else bif decide (a0>a1)then some 1 else some 0)
def zb(a0 a1:aN):J Int:=
 (cmp_Compare_int a0.from_ a1.from_).bind λr1=>some r1
def vg(a0:U aj)(a1:Int):Stp (Int×(List aN)) (List aN)
 |(v1,v2)=>bif decide (v1<a0.length)then((ci a0 v1).bind λx1=>((bif decide (x1.x0<=a1)then some (decide (a1<x1.x1))else some false)).bind λv3=>(bif v3 then ck (bP v2.length v2.length (sub ([aN.mk x1.y0 x1.y1]:U aN) 0 1).length 1 16)<|iU (v2++(sub ([aN.mk x1.y0 x1.y1]:U aN) 0 1)) λr1=>ck (bk r1.length r1.length)<|some r1 else ck (bk v2.length v2.length)<|some v2):J ((List aN))).bind λv4=>ck (bk v4.length v4.length)<|some (.inl (i64.wrap (v1+1),v4))else ck (bk v2.length v2.length)<|some (.inr v2)
def vk(w1 r2:U aN):Stp (Int×(List aN)) (List aN)
 |(v5,v6)=>bif decide (v5<(w1.length:Nat))then(ck (cR v5 w1.length)<|(ci r2 ((0:Nat)+v5:Int)).bind λx2=>((bif decide ((v6.length:Int)>0)then ck (cR (i64.wrap ((v6.length:Nat)-1)) v6.length)<|(ci v6 ((0:Nat)+(i64.wrap ((v6.length:Nat)-1)):Int)).bind λx3=>some (decide (x2.from_<=x3.to))else some false)).bind λv7=>(bif v7 then ck (cR (i64.wrap ((v6.length:Nat)-1)) v6.length)<|(ci v6 ((0:Nat)+(i64.wrap ((v6.length:Nat)-1)):Int)).bind λx4=>ck (cR (i64.wrap ((v6.length:Nat)-1)) v6.length)<|(ci v6 ((0:Nat)+(i64.wrap ((v6.length:Nat)-1)):Int)).bind λx5=>ck (bk v6.length (v6.set ((0:Nat)+(i64.wrap ((v6.length:Nat)-1)):Int).toNat (aN.mk x5.from_ (max x4.to x2.to))).length)<|some (v6.set ((0:Nat)+(i64.wrap ((v6.length:Nat)-1)):Int).toNat (aN.mk x5.from_ (max x4.to x2.to)))else ck (bP v6.length v6.length (sub ([x2]:U aN) 0 1).length 1 16)<|iU (v6++(sub ([x2]:U aN) 0 1)) λr3=>ck (bk r3.length r3.length)<|some r3):J ((List aN))).bind λv8=>ck (bk v8.length v8.length)<|some (.inl (i64.wrap (v5+1),v8))else ck (bk v6.length v6.length)<|some (.inr v6)
def Lr(a0:U aj)(a1:Int):J (List aN):=
 ck (bk 0 ([]:U aN).length)<|(iter (vg a0 a1) n (0,[])).bind λw1=>ck (bk w1.length w1.length)<|(wO n w1 (λ (y1:aN×aN×Unit)=>zb y1.1 y1.2.1)).bind λr2=>ck (bk 0 ([]:U aN).length)<|(iter (vk w1 r2) n (0,[])).bind λw2=>ck (bk (sub w2 0 w2.length).length w2.length)<|some (sub w2 0 w2.length)
def vo(r1:U aj):Stp (Int×(List Int)) (List Int)
 |(v1,v2)=>bif decide (v1<(r1.length:Nat))then ck (cR v1 r1.length)<|(ci r1 ((0:Nat)+v1:Int)).bind λx1=>ck (bP v2.length v2.length (sub ([x1.x0,x1.x1]:U Int) 0 2).length 2 8)<|iU (v2++(sub ([x1.x0,x1.x1]:U Int) 0 2)) λr2=>ck (bk r2.length r2.length)<|some (.inl (i64.wrap (v1+1),r2))else ck (bk v2.length v2.length)<|some (.inr v2)
def vv(r1:U aj)(r4:Unit×(List Int)):Stp (Int×(List aV)) (List aV)
 |(v3,v4)=>bif decide (v3<(r4.2.length:Nat))then ck (cR (i64.wrap (v3-1)) r4.2.length)<|(ci r4.2 ((0:Nat)+(i64.wrap (v3-1)):Int)).bind λx2=>ck (cR v3 r4.2.length)<|(ci r4.2 ((0:Nat)+v3:Int)).bind λx3=>ck (cR (i64.wrap (v3-1)) r4.2.length)<|(ci r4.2 ((0:Nat)+(i64.wrap (v3-1)):Int)).bind λx4=>ck (bk (sub r1 0 r1.length).length r1.length)<|(Lr n (sub r1 0 r1.length) x4).bind λr5=>ck (bk (sub r5 0 r5.length).length r5.length)<|ck (bP v4.length v4.length (sub ([aV.mk x2 x3 (sub r5 0 r5.length)]:U aV) 0 1).length 1 40)<|iU (v4++(sub ([aV.mk x2 x3 (sub r5 0 r5.length)]:U aV) 0 1)) λr6=>ck (bk r6.length r6.length)<|some (.inl (i64.wrap (v3+1),r6))else ck (bk v4.length v4.length)<|some (.inr v4)
def qj(a0:U (List aj)):J (List aV):=
 (Al n a0).bind λr1=>ck (bk 0 ([]:U Int).length)<|(iter (vo r1) n (0,[])).bind λw1=>ck (bk w1.length w1.length)<|(mO n w1).bind λr3=>ck (bk w1.length r3.length)<|(lF n r3).bind λr4=>ck (bk 0 ([]:U aV).length)<|(iter (vv n r1 r4) n (1,[])).bind λw2=>ck (bk (sub w2 0 w2.length).length w2.length)<|some (sub w2 0 w2.length)
def Sr(a0 a1:U aN):Stp Int (Unit⊕Bool)
 |v1=>bif decide (v1<a0.length)then(ci a0 v1).bind λx1=>(ci a1 v1).bind λx2=>(bif (!((x1.from_==x2.from_)&&((x1.to==x2.to)&&true)))then(some false).map λa=>.inr (.inr a)else some (.inl (i64.wrap (v1+1))))else some (.inr (.inl ()))
def xk(a0 a1:U aN):J Bool:=
 bif (a0.length !=(a1.length:Int))then some false else fe (iter (Sr a0 a1) n 0) λ()=>some true
def uz(a0:U aV)(v1:Int):Stp Int Int
 |v3=>((bif decide (v3<a0.length)then(ci a0 v3).bind λx1=>(ci a0 v1).bind λx2=>(xk n x1.column x2.column).bind λr1=>some r1 else some false)).bind λv4=>bif v4 then some (.inl (i64.wrap (v3+1)))else some (.inr v3)
def xV(a0:U aV)(v1 w1:Int)(x3:aV):Stp (Int×(List aj)) (List aj)
 |(v5,v6)=>bif decide (v5<x3.column.length)then(ci x3.column v5).bind λx4=>(ci a0 v1).bind λx5=>(ci a0 (i64.wrap (w1-1))).bind λx6=>ck (bP v6.length v6.length (sub ([aj.mk x5.x0 x4.from_ x6.x1 x4.to]:U aj) 0 1).length 1 32)<|iU (v6++(sub ([aj.mk x5.x0 x4.from_ x6.x1 x4.to]:U aj) 0 1)) λr2=>ck (bk r2.length r2.length)<|some (.inl (i64.wrap (v5+1),r2))else ck (bk v6.length v6.length)<|some (.inr v6)
def xW(a0:U aV):Stp (Int×(List aj)) (List aj)
 |(v1,v2)=>bif decide (v1<a0.length)then(iter (uz n a0 v1) n (i64.wrap (v1+1))).bind λw1=>(ci a0 v1).bind λx3=>ck (bk v2.length v2.length)<|(iter (xV a0 v1 w1 x3) n (0,v2)).bind λw2=>ck (bk w2.length w2.length)<|some (.inl (w1,w2))else ck (bk v2.length v2.length)<|some (.inr v2)
def JS(a0:U aV):J (List aj):=
 ck (bk 0 ([]:U aj).length)<|(iter (xW n a0) n (0,[])).bind λw3=>ck (bk (sub w3 0 w3.length).length w3.length)<|some (sub w3 0 w3.length)
def Am(a0:U aj):J ((List aj)×Int):=
 bif decide ((a0.length:Int)>200)then some ([],6)else some (a0,0)
def P8(a0:U aj):Stp Int (Unit⊕((List aj)×Int))
 |v1=>bif decide (v1<a0.length)then(ci a0 v1).bind λx1=>(qC x1).bind λr1=>(bif (!r1)then(some ([],1)).map λa=>.inr (.inr a)else some (.inl (i64.wrap (v1+1))))else some (.inr (.inl ()))
def RK(a0:U aj):J ((List aj)×Int):=
 fe (iter (P8 a0) n 0) λ()=>(bif decide ((a0.length:Int)>400)then some ([],6)else ck (bk (sub ([a0]:U (List aj)) 0 1).length 1)<|(qj n (sub ([a0]:U (List aj)) 0 1)).bind λr2=>ck (bk (sub r2 0 r2.length).length r2.length)<|(JS n (sub r2 0 r2.length)).bind λr3=>ck (bk (sub r3 0 r3.length).length r3.length)<|(Am (sub r3 0 r3.length)).bind λr4=>some (r4.1,r4.2))
def Sv(a0 a1:U aj):Stp Int (Unit⊕Bool)
 |v1=>bif decide (v1<a0.length)then(ci a0 v1).bind λx1=>(ci a1 v1).bind λx2=>(bif (!((x1.x0==x2.x0)&&((x1.y0==x2.y0)&&((x1.x1==x2.x1)&&((x1.y1==x2.y1)&&true)))))then(some false).map λa=>.inr (.inr a)else some (.inl (i64.wrap (v1+1))))else some (.inr (.inl ()))
def nP(a0 a1:U aj):J Bool:=
 bif (a0.length !=(a1.length:Int))then some false else fe (iter (Sv a0 a1) n 0) λ()=>some true
def ko(a0:U aj):J Bool:=
 (RK n a0).bind λr1=>(bif (r1.2==0)then(nP n r1.1 a0).bind λr2=>some r2 else some false)
def qD(a0:U eZ):Stp (Int×(List kg)) (List kg)
 |(v1,v2)=>bif decide (v1<a0.length)then(ci a0 v1).bind λx1=>ck ((a0.length:Int) !=0)<|(ci a0 (Int.tmod (i64.wrap (v1+1)) (a0.length:Int))).bind λx2=>ck (cR v1 ((a0.length:Int).toNat))<|(ci v2 ((0:Nat)+v1:Int)).bind λ_=>some (.inl (i64.wrap (v1+1),v2.set ((0:Nat)+v1:Int).toNat (kg.mk x1.x x1.y x2.x x2.y)))else some (.inr v2)
def qQ(a0:U eZ):J (List kg):=
 ck (decide ((a0.length:Int)<=a0.length)&&(decide (0<=(a0.length:Int))&&Bn a0.length 32))<|(iter (qD a0) n (0,List.replicate (a0.length:Int).toNat (kg.mk 0 0 0 0))).bind λw1=>ck (bk (sub w1 0 ((a0.length:Int).toNat)).length ((a0.length:Int).toNat))<|some (sub w1 0 ((a0.length:Int).toNat))
def vw(a0:eZ):J Bool:=
 bif decide (0<=a0.x)then(bif decide (a0.x<=1048576)then(bif decide (0<=a0.y)then some (decide (a0.y<=1048576))else some false)else some false)else some false
def iF(a0:kg):J Bool:=
 some (a0.mf==a0.mA)
def CW(a0:U Int):Stp Int (Unit⊕Int)
 |v1=>bif decide (v1<a0.length)then(ci a0 v1).bind λx1=>(bif (x1 !=0)then(some x1).map λa=>.inr (.inr a)else some (.inl (i64.wrap (v1+1))))else some (.inr (.inl ()))
def wP(a0:U Int):J Int:=
 fe (iter (CW a0) n 0) λ()=>some 0
def tK(a0 a1:eZ):J Int:=
 (cmp_Compare_int a0.x a1.x).bind λr1=>(cmp_Compare_int a0.y a1.y).bind λr2=>ck (bk (sub ([r1,r2]:U Int) 0 2).length 2)<|(wP n (sub ([r1,r2]:U Int) 0 2)).bind λr3=>some r3
def mQ(a0 a1:kg):J Bool:=
 bif decide ((max (min a0.mf a0.mA) (min a1.mf a1.mA))<=(min (max a0.mf a0.mA) (max a1.mf a1.mA)))then some (decide ((max (min a0.p4 a0.vn) (min a1.p4 a1.vn))<=(min (max a0.p4 a0.vn) (max a1.p4 a1.vn))))else some false
def rE(a0:U eZ)(r1:U kg):Stp Int (Unit⊕Bool)
 |v2=>bif decide (v2<(r1.length:Nat))then ck (cR v2 r1.length)<|(ci r1 ((0:Nat)+v2:Int)).bind λx1=>ck ((r1.length:Int) !=0)<|ck (cR (Int.tmod (i64.wrap (v2+1)) (r1.length:Int)) r1.length)<|(ci r1 ((0:Nat)+(Int.tmod (i64.wrap (v2+1)) (r1.length:Int)):Int)).bind λx2=>((vw (eZ.mk x1.mf x1.p4)).bind λr2=>(bif (!r2)then some true else bif ((x1.mf==x1.mA)==(x1.p4==x1.vn))then some true else(iF x1).bind λr3=>(iF x2).bind λr4=>some (r3==r4))).bind λv3=>(bif v3 then(some false).map λa=>.inr (.inr a)else((bif decide (v2>0)then(ci a0 0).bind λx3=>(ci a0 v2).bind λx4=>(tK n x3 x4).bind λr5=>some (decide (r5>=0))else some false)).bind λv4=>(bif v4 then(some false).map λa=>.inr (.inr a)else some (.inl (i64.wrap (v2+1)))))else some (.inr (.inl ()))
def jy(r1:U kg)(v5:Int):Stp Int (Unit⊕(Int⊕(Unit⊕Bool)))
 |v6=>bif decide (v6<(r1.length:Nat))then((bif (decide ((i64.wrap ((i64.wrap (v5+(r1.length:Nat)))-v6))>1))then ck (cR v5 r1.length)<|(ci r1 ((0:Nat)+v5:Int)).bind λx5=>ck (cR v6 r1.length)<|(ci r1 ((0:Nat)+v6:Int)).bind λx6=>(mQ x5 x6).bind λr6=>some r6 else some false)).bind λv7=>(bif v7 then((some false).map λa=>.inr (.inr a)).map λa=>.inr (.inr a)else some (.inl (i64.wrap (v6+1))))else some (.inr (.inl ()))
def rF(r1:U kg):Stp Int (Unit⊕Bool)
 |v5=>bif decide (v5<(r1.length:Nat))then fe (iter (jy r1 v5) n (i64.wrap (v5+2))) λ()=>some (.inl (i64.wrap (v5+1)))else some (.inr (.inl ()))
def xq(a0:U eZ):J Bool:=
 ((bif decide ((a0.length:Int)<4)then some true else some (decide ((a0.length:Int)>60)))).bind λv1=>(bif v1 then some false else(qQ n a0).bind λr1=>fe (iter (rE n a0 r1) n 0) λ()=>fe (iter (rF n r1) n 0) λ()=>ck (cR 0 r1.length)<|(ci r1 ((0:Nat)+0:Int)).bind λx7=>(iF x7).bind λr7=>some (!r7))
def mR(a0:U eZ):Stp (Int×(List Int)) (List Int)
 |(v1,v2)=>bif decide (v1<a0.length)then(ci a0 v1).bind λx1=>ck (bP v2.length v2.length (sub ([x1.x]:U Int) 0 1).length 1 8)<|iU (v2++(sub ([x1.x]:U Int) 0 1)) λr2=>ck (bk r2.length r2.length)<|some (.inl (i64.wrap (v1+1),r2))else ck (bk v2.length v2.length)<|some (.inr v2)
def mU(r4:Unit×(List Int))(r5:U kg)(v3:Int):Stp (Int×(List Int)) (List Int)
 |(v5,v6)=>bif decide (v5<(r5.length:Nat))then(ck (cR v5 r5.length)<|(ci r5 ((0:Nat)+v5:Int)).bind λx2=>((iF x2).bind λr6=>(bif (!r6)then ck (cR v3 r4.2.length)<|(ci r4.2 ((0:Nat)+v3:Int)).bind λx3=>(bif decide ((min x2.mf x2.mA)<=x3)then ck (cR v3 r4.2.length)<|(ci r4.2 ((0:Nat)+v3:Int)).bind λx4=>some (decide (x4<(max x2.mf x2.mA)))else some false)else some false)).bind λv7=>(bif v7 then ck (bP v6.length v6.length (sub ([x2.p4]:U Int) 0 1).length 1 8)<|iU (v6++(sub ([x2.p4]:U Int) 0 1)) λr7=>ck (bk r7.length r7.length)<|some r7 else ck (bk v6.length v6.length)<|some v6):J ((List Int))).bind λv8=>ck (bk v8.length v8.length)<|some (.inl (i64.wrap (v5+1),v8))else ck (bk v6.length v6.length)<|some (.inr v6)
def jR(r4:Unit×(List Int))(v3:Int)(w2 r8:U Int):Stp (Int×(List aj)) (List aj)
 |(v9,v10)=>bif decide ((i64.wrap (v9+1))<(w2.length:Nat))then ck (cR v3 r4.2.length)<|(ci r4.2 ((0:Nat)+v3:Int)).bind λx5=>ck (cR v9 w2.length)<|(ci r8 ((0:Nat)+v9:Int)).bind λx6=>ck (cR (i64.wrap (v3+1)) r4.2.length)<|(ci r4.2 ((0:Nat)+(i64.wrap (v3+1)):Int)).bind λx7=>ck (cR (i64.wrap (v9+1)) w2.length)<|(ci r8 ((0:Nat)+(i64.wrap (v9+1)):Int)).bind λx8=>ck (bP v10.length v10.length (sub ([aj.mk x5 x6 x7 x8]:U aj) 0 1).length 1 32)<|iU (v10++(sub ([aj.mk x5 x6 x7 x8]:U aj) 0 1)) λr9=>ck (bk r9.length r9.length)<|some (.inl (i64.wrap (v9+2),r9))else ck (bk v10.length v10.length)<|some (.inr v10)
def mV(r4:Unit×(List Int))(r5:U kg):Stp (Int×(List aj)) (List aj)
 |(v3,v4)=>bif decide (v3<(i64.wrap ((r4.2.length:Nat)-1)))then ck (bk 0 ([]:U Int).length)<|(iter (mU r4 r5 v3) n (0,[])).bind λw2=>ck (bk w2.length w2.length)<|(mO n w2).bind λr8=>ck (bk v4.length v4.length)<|(iter (jR r4 v3 w2 r8) n (0,v4)).bind λw3=>ck (bk w3.length w3.length)<|some (.inl (i64.wrap (v3+1),w3))else ck (bk v4.length v4.length)<|some (.inr v4)
def vz(a0:U eZ):J ((List aj)×Int):=
 (xq n a0).bind λr1=>(bif (!r1)then some ([],10)else ck (bk 0 ([]:U Int).length)<|(iter (mR a0) n (0,[])).bind λw1=>ck (bk w1.length w1.length)<|(mO n w1).bind λr3=>ck (bk w1.length r3.length)<|(lF n r3).bind λr4=>(qQ n a0).bind λr5=>ck (bk 0 ([]:U aj).length)<|(iter (mV n r4 r5) n (0,[])).bind λw4=>(bif decide ((w4.length:Int)>200)then some ([],6)else ck (bk (sub w4 0 w4.length).length w4.length)<|some (sub w4 0 w4.length,0)))
def ze(a0:gm):J (List aj):=
 (vz n a0.corners).bind λr1=>(bif (r1.2 !=0)then some []else ck (bk (sub r1.1 0 r1.1.length).length r1.1.length)<|some (sub r1.1 0 r1.1.length))
def zP(a0:aj):J (aj×Bool):=
 (qC a0).bind λr1=>(bif r1 then some (a0,true)else some (aj.mk 0 0 0 0,false))
def uD(a0 a1:aj):J (aj×Bool):=
 ((qC a0).bind λr1=>(bif (!r1)then some true else(qC a1).bind λr2=>some (!r2))).bind λv1=>(bif v1 then some (aj.mk 0 0 0 0,false)else(zP (aj.mk (max a0.x0 a1.x0) (max a0.y0 a1.y0) (min a0.x1 a1.x1) (min a0.y1 a1.y1))).bind λr3=>some (r3.1,r3.2))
def Ao(a0:aj):J Int:=
 (zP a0).bind λr1=>some (i64.wrap ((i64.wrap (r1.1.x1-r1.1.x0))*(i64.wrap (r1.1.y1-r1.1.y0))))
def rG(a1:U aj)(x1:aj):Stp (Int×Int×Int×Int) (Int×Int×Int)
 |(v5,v6,v7,v8)=>bif decide (v6<a1.length)then((ci a1 v6).bind λx2=>(uD x1 x2).bind λr1=>(bif (!r1.2)then some (v5,v7,v8)else(Ao r1.1).bind λr2=>(cmp_Compare_int r1.1.x0 v7).bind λr3=>(cmp_Compare_int r1.1.y0 v8).bind λr4=>ck (bk (sub ([r3,r4]:U Int) 0 2).length 2)<|(wP n (sub ([r3,r4]:U Int) 0 2)).bind λr5=>(bif decide (r5<0)then some (i64.wrap (v5+r2),r1.1.x0,r1.1.y0)else some (i64.wrap (v5+r2),v7,v8))):J (Int×Int×Int)).bind λ(v9,v10,v11)=>some (.inl (v9,i64.wrap (v6+1),v10,v11))else some (.inr (v5,v7,v8))
def rH(a0 a1:U aj):Stp (Int×Int×Int×Int) (Int×Int×Int)
 |(v1,v2,v3,v4)=>bif decide (v2<a0.length)then(ci a0 v2).bind λx1=>(iter (rG n a1 x1) n (v1,0,v3,v4)).bind λ(w1,w2,w3)=>some (.inl (w1,i64.wrap (v2+1),w2,w3))else some (.inr (v1,v3,v4))
def xu(a0 a1:U aj):J (Int×eZ):=
 (iter (rH n a0 a1) n (0,0,1048576,0)).bind λ(w4,w5,w6)=>some (w4,eZ.mk w5 w6)
def rJ(a0:dJ)(a1:U aj):Stp (Int×(List Int)) (List Int)
 |(v1,v2)=>bif decide (v1<a0.zones.length)then(ci a0.zones v1).bind λx1=>(ze n x1).bind λr2=>ck (bk (sub r2 0 r2.length).length r2.length)<|(xu n a1 (sub r2 0 r2.length)).bind λr3=>ck (bP v2.length v2.length (sub ([r3.1]:U Int) 0 1).length 1 8)<|iU (v2++(sub ([r3.1]:U Int) 0 1)) λr4=>ck (bk r4.length r4.length)<|some (.inl (i64.wrap (v1+1),r4))else ck (bk v2.length v2.length)<|some (.inr v2)
def xw(a0:dJ)(a1:U aj):J (List Int):=
 (ko n a1).bind λr1=>(bif (!r1)then some []else ck (bk 0 ([]:U Int).length)<|(iter (rJ n a0 a1) n (0,[])).bind λw1=>ck (bk (sub w1 0 w1.length).length w1.length)<|some (sub w1 0 w1.length))
def rM(a0:dJ)(r1:U Int):Stp (Int×Int) Int
 |(v1,v2)=>bif decide (v2<(r1.length:Nat))then(ck (cR v2 r1.length)<|(ci r1 ((0:Nat)+v2:Int)).bind λx1=>((ci a0.zones v2).bind λx2=>(bif (!x2.overlay)then(bif decide (x1>0)then(bif decide (v1<0)then some true else ck (cR v1 r1.length)<|(ci r1 ((0:Nat)+v1:Int)).bind λx3=>some (decide (x1>x3)))else some false)else some false)).bind λv3=>(bif v3 then some v2 else some v1):J Int).bind λv4=>some (.inl (v4,i64.wrap (v2+1)))else some (.inr v1)
def zf(a0:dJ)(r1:U Int)(w1:Int):Stp (Int×(List ByteArray)) (List ByteArray)
 |(v5,v6)=>bif decide (v5<(r1.length:Nat))then(ck (cR v5 r1.length)<|(ci r1 ((0:Nat)+v5:Int)).bind λx4=>((bif (v5==w1)then some true else(ci a0.zones v5).bind λx5=>(bif x5.overlay then some (decide (x4>0))else some false))).bind λv7=>(bif v7 then(ci a0.zones v5).bind λx6=>ck (bP v6.length v6.length (sub ([x6.name]:U ByteArray) 0 1).length 1 16)<|iU (v6++(sub ([x6.name]:U ByteArray) 0 1)) λr2=>ck (bk r2.length r2.length)<|some r2 else ck (bk v6.length v6.length)<|some v6):J ((List ByteArray))).bind λv8=>ck (bk v8.length v8.length)<|some (.inl (i64.wrap (v5+1),v8))else ck (bk v6.length v6.length)<|some (.inr v6)
def zQ(a0:dJ)(a1:U aj):J (List ByteArray):=
 (xw n a0 a1).bind λr1=>(iter (rM a0 r1) n ((-1),0)).bind λw1=>ck (bk 0 ([]:U ByteArray).length)<|(iter (zf a0 r1 w1) n (0,[])).bind λw2=>ck (bk (sub w2 0 w2.length).length w2.length)<|some (sub w2 0 w2.length)
def pz(a0:U ByteArray)(a1:ByteArray):Stp Int (Unit⊕Int)
 |v1=>bif decide (v1<a0.length)then(ci a0 v1).bind λx1=>(bif (ByteArray.toList a1==ByteArray.toList x1)then(some v1).map λa=>.inr (.inr a)else some (.inl (i64.wrap (v1+1))))else some (.inr (.inl ()))
def tL(a0:U ByteArray)(a1:ByteArray):J Int:=
 fe (iter (pz a0 a1) n 0) λ()=>some (-1)
def gu(a0:U ByteArray)(a1:ByteArray):J Bool:=
 (tL n a0 a1).bind λr1=>some (decide (r1>=0))
def lg(a0:ByteArray)(a1:U ByteArray):J Bool:=
 (gu n a1 a0).bind λr1=>some r1
def Gg(a0:U ByteArray)(a1:(ByteArray×Unit)->J Bool):Stp Int (Unit⊕Int)
 |v1=>bif decide (v1<a0.length)then(ci a0 v1).bind λx1=>(a1 (x1,())).bind λr1=>(bif r1 then(some v1).map λa=>.inr (.inr a)else some (.inl (i64.wrap (v1+1))))else some (.inr (.inl ()))
def sD(a0:U ByteArray)(a1:(ByteArray×Unit)->J Bool):J Int:=
 fe (iter (Gg a0 a1) n 0) λ()=>some (-1)
def gG(a0:U ByteArray)(a1:(ByteArray×Unit)->J Bool):J Bool:=
 (sD n a0 a1).bind λr1=>some (decide (r1>=0))
def sP(a0:bO)(a1:U ByteArray):J Bool:=
 bif ((a0.zones.length:Int)==0)then(gG n a0.except (λ (y1:ByteArray×Unit)=>lg n y1.1 a1)).bind λr1=>some (!r1)else(gG n a0.zones (λ (y2:ByteArray×Unit)=>lg n y2.1 a1)).bind λr2=>(bif r2 then(gG n a0.except (λ (y3:ByteArray×Unit)=>lg n y3.1 a1)).bind λr3=>some (!r3)else some false)
def tN(a0:dJ)(a1:U ByteArray)(a2:Int):Stp (Int×(List Int)) (List Int)
 |(v1,v2)=>bif decide (v1<a0.rules.length)then((ci a0.rules v1).bind λx1=>((bif decide (x1.from_<=a2)then(bif (x1.k7==0)then(sP n x1 a1).bind λr1=>some r1 else bif decide (a2<x1.k7)then(sP n x1 a1).bind λr2=>some r2 else some false)else some false)).bind λv3=>(bif v3 then ck (bP v2.length v2.length (sub ([v1]:U Int) 0 1).length 1 8)<|iU (v2++(sub ([v1]:U Int) 0 1)) λr3=>ck (bk r3.length r3.length)<|some r3 else ck (bk v2.length v2.length)<|some v2):J ((List Int))).bind λv4=>ck (bk v4.length v4.length)<|some (.inl (i64.wrap (v1+1),v4))else ck (bk v2.length v2.length)<|some (.inr v2)
def rO(a0:dJ)(a1:U ByteArray)(a2:Int):J (List Int):=
 ck (bk 0 ([]:U Int).length)<|(iter (tN n a0 a1 a2) n (0,[])).bind λw1=>ck (bk (sub w1 0 w1.length).length w1.length)<|some (sub w1 0 w1.length)
def qE(a0:dK)(r3:U Int):Stp (Int×(List bO)) (List bO)
 |(v1,v2)=>bif decide (v1<(r3.length:Nat))then ck (cR v1 r3.length)<|(ci r3 ((0:Nat)+v1:Int)).bind λx1=>(ci a0.aw x1).bind λx2=>ck (bP v2.length v2.length (sub ([x2]:U bO) 0 1).length 1 232)<|iU (v2++(sub ([x2]:U bO) 0 1)) λr4=>ck (bk r4.length r4.length)<|some (.inl (i64.wrap (v1+1),r4))else ck (bk v2.length v2.length)<|some (.inr v2)
def qR(a0:dK)(a1 a2:Int):J (List bO):=
 (za n a0.land a1).bind λr1=>(bif (!r1.2)then some []else(zQ n (dJ.mk a0.cz a0.cm a0.bu a0.aw a0.cH a0.cI a0.cV a0.cJ) r1.1.area).bind λr2=>ck (bk (sub r2 0 r2.length).length r2.length)<|(rO n (dJ.mk a0.cz a0.cm a0.bu a0.aw a0.cH a0.cI a0.cV a0.cJ) (sub r2 0 r2.length) a2).bind λr3=>ck (bk 0 ([]:U bO).length)<|(iter (qE a0 r3) n (0,[])).bind λw1=>ck (bk (sub w1 0 w1.length).length w1.length)<|some (sub w1 0 w1.length))
def rP(a0:bO):J (Int×Bool):=
 ((bif (a0.kind !=0)then some true else bif (a0.ga !=12)then some true else some ((a0.cM.length:Int) !=2))).bind λv1=>(bif v1 then some (0,false)else(ci a0.cM 0).bind λx1=>(ci a0.cM 1).bind λx2=>((bif (x1.op==0)then(bif ((x1.args.length:Int)==0)then(bif (x2.op==1)then(bif (ByteArray.toList x2.s==ByteArray.toList (⟨#[115,101,116,98,97,99,107]⟩))then some ((x2.args.length:Int)==0)else some false)else some false)else some false)else some false)).bind λv2=>some (x1.n,v2))
def mW(r1:U bO):Stp (Int×Int) Int
 |(v1,v2)=>bif decide (v2<(r1.length:Nat))then(ck (cR v2 r1.length)<|(ci r1 ((0:Nat)+v2:Int)).bind λx1=>(rP x1).bind λr2=>(bif r2.2 then some (max v1 r2.1)else some v1):J Int).bind λv3=>some (.inl (v3,i64.wrap (v2+1)))else some (.inr v1)
def mX(a0:dK)(a1 a2:Int):J Int:=
 (qR n a0 a1 a2).bind λr1=>(iter (mW r1) n (0,0)).bind λw1=>some w1
def Zc(a0:U aj)(a1:Int):J Bool:=
 bif decide (a1>=0)then(bif decide (a1<=1048576)then(ko n a0).bind λr1=>some r1 else some false)else some false
noncomputable def jG(d:Int)(l:U dh)(r:aj):U dh:=
 let l1:=match l.getLast? with
  |some c=>if c.x0=r.x0 then l else l++[⟨r.x0,r.x1,[]⟩]
  |none=>[⟨r.x0,r.x1,[]⟩]
 if i64.wrap (r.y0+d)<i64.wrap (r.y1-d)then
  match l1.getLast? with
  |some c=>l1.dropLast++[⟨c.x0,c.x1,c.column++[⟨i64.wrap (r.y0+d),i64.wrap (r.y1-d)⟩]⟩]
  |none=>l1
 else l1
noncomputable def JU(a:U aj)(d:Int):J (List dh):=if a.length<500000 then some (a.foldl (jG d) [])else none
def vB(a1:U cZ)(x1:cZ):Stp (Int×(List cZ)) (List cZ)
 |(v3,v4)=>bif decide (v3<a1.length)then((ci a1 v3).bind λx2=>(bif decide ((max x1.from_ x2.from_)<(min x1.to x2.to))then ck (bP v4.length v4.length (sub ([cZ.mk (max x1.from_ x2.from_) (min x1.to x2.to)]:U cZ) 0 1).length 1 16)<|iU (v4++(sub ([cZ.mk (max x1.from_ x2.from_) (min x1.to x2.to)]:U cZ) 0 1)) λr1=>ck (bk r1.length r1.length)<|some r1 else ck (bk v4.length v4.length)<|some v4):J ((List cZ))).bind λv5=>ck (bk v5.length v5.length)<|some (.inl (i64.wrap (v3+1),v5))else ck (bk v4.length v4.length)<|some (.inr v4)
def zh(a0 a1:U cZ):Stp (Int×(List cZ)) (List cZ)
 |(v1,v2)=>bif decide (v1<a0.length)then(ci a0 v1).bind λx1=>ck (bk v2.length v2.length)<|(iter (vB a1 x1) n (0,v2)).bind λw1=>ck (bk w1.length w1.length)<|some (.inl (i64.wrap (v1+1),w1))else ck (bk v2.length v2.length)<|some (.inr v2)
def Ls(a0 a1:U cZ):J (List cZ):=
 ck (bk 0 ([]:U cZ).length)<|(iter (zh n a0 a1) n (0,[])).bind λw2=>ck (bk (sub w2 0 w2.length).length w2.length)<|some (sub w2 0 w2.length)
def Gh(a0:dh)(a1:Bool)(a2 a3 a4:Int)(a5:Bool)(a6:U cZ):J (Bool×Int×Int×Int×Bool×(List cZ)):=
 ((bif a1 then some true else bif decide (a0.x1<=a2)then some true else some (decide (a0.x0>(i64.wrap (a3+a4)))))).bind λv1=>(bif v1 then some (a1,a2,a3,a4,a5,a6)else bif decide (a0.x0>a2)then some (true,a2,a3,a4,a5,a6)else bif a5 then some (a1,a0.x1,a3,a4,false,a0.column)else(Ls n a6 a0.column).bind λr1=>ck (bk (sub r1 0 r1.length).length r1.length)<|some (a1,a0.x1,a3,a4,a5,sub r1 0 r1.length))
def vC(a0:U dh):Stp (Int×Int×Int×Int×Bool×Bool×(List cZ)) (Int×Int×Int×Bool×(List cZ))
 |(v1,v2,v3,v4,v5,v6,v7)=>bif decide (v1<a0.length)then(ci a0 v1).bind λx1=>(Gh n x1 v5 v4 v2 v3 v6 v7).bind λr1=>some (.inl (i64.wrap (v1+1),r1.2.2.1,r1.2.2.2.1,r1.2.1,r1.1,r1.2.2.2.2.1,r1.2.2.2.2.2))else some (.inr (v2,v3,v4,v5,v7))
def ED(a0:U dh)(a1 a2:Int):J (List cZ):=
 (iter (vC n a0) n (0,a1,a2,i64.wrap (a1-a2),false,true,[])).bind λ(w1,w2,w3,w4,w5)=>((bif w4 then some true else some (decide (w3<=(i64.wrap (w1+w2)))))).bind λv8=>(bif v8 then some []else some w5)
def P9(a0 a1:U cZ):Stp Int (Unit⊕Bool)
 |v1=>bif decide (v1<a0.length)then(ci a0 v1).bind λx1=>(ci a1 v1).bind λx2=>(bif (!((x1.from_==x2.from_)&&((x1.to==x2.to)&&true)))then(some false).map λa=>.inr (.inr a)else some (.inl (i64.wrap (v1+1))))else some (.inr (.inl ()))
def vD(a0 a1:U cZ):J Bool:=
 bif (a0.length !=(a1.length:Int))then some false else fe (iter (P9 a0 a1) n 0) λ()=>some true
def vE(a1:Int)(r2:U dh):Stp (Int×(List Int)) (List Int)
 |(v1,v2)=>bif decide (v1<((sub r2 0 r2.length).length:Int))then(ci (sub r2 0 r2.length) v1).bind λx1=>ck (bP v2.length v2.length (sub ([i64.wrap (x1.x0+a1),i64.wrap (x1.x1+a1),i64.wrap (x1.x0-a1),i64.wrap (x1.x1-a1)]:U Int) 0 4).length 4 8)<|iU (v2++(sub ([i64.wrap (x1.x0+a1),i64.wrap (x1.x1+a1),i64.wrap (x1.x0-a1),i64.wrap (x1.x1-a1)]:U Int) 0 4)) λr3=>ck (bk r3.length r3.length)<|some (.inl (i64.wrap (v1+1),r3))else ck (bk v2.length v2.length)<|some (.inr v2)
def vF(r5:Unit×(List Int))(v5:Int)(v6:U aj):Stp (Int×(List aj)) (List aj)
 |(v8,v9)=>bif decide (v8<(v6.length:Nat))then(ci (sub r5.2 0 r5.2.length) v5).bind λx3=>ck (cR v8 v6.length)<|(ci v9 ((0:Nat)+v8:Int)).bind λx4=>some (.inl (i64.wrap (v8+1),v9.set ((0:Nat)+v8:Int).toNat (aj.mk x4.x0 x4.y0 x3 x4.y1)))else some (.inr v9)
def vG(r5:Unit×(List Int))(v5:Int)(r6:U cZ):Stp (Int×(List aj)) (List aj)
 |(v10,v11)=>bif decide (v10<r6.length)then(ci r6 v10).bind λx5=>(ci (sub r5.2 0 r5.2.length) (i64.wrap (v5-1))).bind λx6=>(ci (sub r5.2 0 r5.2.length) v5).bind λx7=>ck (bP v11.length v11.length (sub ([aj.mk x6 x5.from_ x7 x5.to]:U aj) 0 1).length 1 32)<|iU (v11++(sub ([aj.mk x6 x5.from_ x7 x5.to]:U aj) 0 1)) λr8=>ck (bk r8.length r8.length)<|some (.inl (i64.wrap (v10+1),r8))else ck (bk v11.length v11.length)<|some (.inr v11)
def rQ(a1:Int)(r2:U dh)(r5:Unit×(List Int)):Stp ((List cZ)×Int×Int×(List aj)) (List aj)
 |(v3,v4,v5,v6)=>bif decide (v5<((sub r5.2 0 r5.2.length).length:Int))then((ci (sub r5.2 0 r5.2.length) (i64.wrap (v5-1))).bind λx2=>(ED n (sub r2 0 r2.length) x2 a1).bind λr6=>((bif decide (v5>1)then(bif decide ((r6.length:Int)>0)then(vD n r6 v3).bind λr7=>some r7 else some false)else some false)).bind λv7=>(bif v7 then(iter (vF r5 v5 v6) n (v4,v6)).bind λw2=>ck (bk v6.length w2.length)<|some (v3,v4,w2)else ck (bk v6.length v6.length)<|(iter (vG r5 v5 r6) n (0,v6)).bind λw3=>ck (bk w3.length w3.length)<|some (r6,(v6.length:Nat),w3)):J ((List cZ)×Int×(List aj))).bind λ(v12,v13,v14)=>ck (bk v14.length v14.length)<|some (.inl (v12,v13,i64.wrap (v5+1),v14))else ck (bk v6.length v6.length)<|some (.inr v6)
def Lu(a0:U aj)(a1:Int):J ((List aj)×Int):=
 (Zc n a0 a1).bind λr1=>(bif (!r1)then some ([],1)else(JU a0 a1).bind λr2=>ck (bk (sub r2 0 r2.length).length r2.length)<|ck (bk 0 ([]:U Int).length)<|(iter (vE a1 r2) n (0,[])).bind λw1=>ck (bk w1.length w1.length)<|(mO n w1).bind λr4=>ck (bk w1.length r4.length)<|(lF n r4).bind λr5=>ck (bk (sub r5.2 0 r5.2.length).length r5.2.length)<|ck (bk 0 ([]:U aj).length)<|(iter (rQ n a1 r2 r5) n ([],0,1,[])).bind λw4=>(bif decide ((w4.length:Int)>200)then some ([],6)else ck (bk (sub w4 0 w4.length).length w4.length)<|some (sub w4 0 w4.length,0)))
def Cb(a0:U aj):Stp (Bool×Int×Int×Int×Int×Int) (Bool×Int×Int×Int×Int)
 |(v1,v2,v3,v4,v5,v6)=>bif decide (v2<a0.length)then((ci a0 v2).bind λx1=>(qC x1).bind λr1=>(bif (!r1)then some (v1,v3,v4,v5,v6)else bif (!v1)then some (true,x1.x0,x1.y0,x1.x1,x1.y1)else some (v1,min v3 x1.x0,min v4 x1.y0,max v5 x1.x1,max v6 x1.y1)):J (Bool×Int×Int×Int×Int)).bind λ(v7,v8,v9,v10,v11)=>some (.inl (v7,i64.wrap (v2+1),v8,v9,v10,v11))else some (.inr (v1,v3,v4,v5,v6))
def Qa(a0:U aj):J (aj×Bool):=
 (iter (Cb a0) n (false,0,0,0,0,0)).bind λ(w1,w2,w3,w4,w5)=>some (aj.mk w2 w3 w4 w5,w1)
def zR(a0:U aj):J (aj×Bool):=
 ((bif ((a0.length:Int)==0)then some true else(ko n a0).bind λr1=>some (!r1))).bind λv1=>(bif v1 then some (aj.mk 0 0 0 0,false)else(Qa n a0).bind λr2=>some (r2.1,r2.2))
def pE(r1:U bO):Stp (Int×(List bU)) (List bU)
 |(v1,v2)=>bif decide (v1<(r1.length:Nat))then(ck (cR v1 r1.length)<|(ci r1 ((0:Nat)+v1:Int)).bind λx1=>(bif (x1.kind==1)then ck (bP v2.length v2.length (sub ([bU.mk x1.eM x1.eQ x1.fi x1.fj]:U bU) 0 1).length 1 32)<|iU (v2++(sub ([bU.mk x1.eM x1.eQ x1.fi x1.fj]:U bU) 0 1)) λr2=>ck (bk r2.length r2.length)<|some r2 else ck (bk v2.length v2.length)<|some v2):J ((List bU))).bind λv3=>ck (bk v3.length v3.length)<|some (.inl (i64.wrap (v1+1),v3))else ck (bk v2.length v2.length)<|some (.inr v2)
def l9(a0:dK)(a1 a2:Int):J (List bU):=
 (qR n a0 a1 a2).bind λr1=>ck (bk 0 ([]:U bU).length)<|(iter (pE r1) n (0,[])).bind λw1=>ck (bk (sub w1 0 w1.length).length w1.length)<|some (sub w1 0 w1.length)
def HY(a0:U bU)(a1:(bU×Unit)->J Bool):Stp Int (Unit⊕Int)
 |v1=>bif decide (v1<a0.length)then(ci a0 v1).bind λx1=>(a1 (x1,())).bind λr1=>(bif r1 then(some v1).map λa=>.inr (.inr a)else some (.inl (i64.wrap (v1+1))))else some (.inr (.inl ()))
def ug(a0:U bU)(a1:(bU×Unit)->J Bool):J Int:=
 fe (iter (HY a0 a1) n 0) λ()=>some (-1)
def lW(a0:U bU)(a1:(bU×Unit)->J Bool):J Bool:=
 (ug n a0 a1).bind λr1=>some (decide (r1>=0))
def mY(a0 a1 a2:Int):J Bool:=
 bif decide (a1<=a0)then some (decide (a0<=a2))else some false
def Cc(a0:bU):J Bool:=
 (mY a0.side 0 3).bind λr1=>(bif r1 then(mY a0.base 0 4096).bind λr2=>(bif r2 then(mY a0.num 0 4096).bind λr3=>(bif r3 then(mY a0.den 1 4096).bind λr4=>some r4 else some false)else some false)else some false)
def vH(a0:bU):J Bool:=
 (Cc a0).bind λr1=>some (!r1)
def xX(a0:aj)(a1:U bU):J Bool:=
 (qC a0).bind λr1=>(bif r1 then(lW n a1 (λ (y1:bU×Unit)=>vH y1.1)).bind λr2=>some (!r2)else some false)
def qU(a0 a1:Int):J Int:=
 ck (a1 !=0)<|(ck (a1 !=0)<|(bif decide ((Int.tmod a0 a1)<0)then some (i64.wrap ((i64.wrap (Int.tdiv a0 a1))-1))else some (i64.wrap (Int.tdiv a0 a1))):J Int).bind λv1=>some v1
def sQ(a0:aj)(a1:U bU)(a2:Int):Stp (Int×Int×Int×Int×Int) ((Int×Int×Int×Int)⊕(aj×Bool))
 |(v1,v2,v3,v4,v5)=>bif decide (v1<a1.length)then fe ((ci a1 v1).bind λx1=>(bif (x1.num==0)then(bif decide (a2>x1.base)then((some (aj.mk 0 0 0 0,false)).map λa=>.inr (.inr a)).map .inr else some (.inl (v2,v3,v4,v5)))else(qU (i64.wrap ((i64.wrap (x1.base-a2))*x1.den)) x1.num).bind λr1=>(bif (x1.side==0)then some (.inl (max v2 (i64.wrap (a0.x0+(i64.wrap (0-r1)))),v3,v4,v5))else bif (x1.side==1)then some (.inl (v2,v3,min v4 (i64.wrap (a0.x1-(i64.wrap (0-r1)))),v5))else bif (x1.side==2)then some (.inl (v2,max v3 (i64.wrap (a0.y0+(i64.wrap (0-r1)))),v4,v5))else bif (x1.side==3)then some (.inl (v2,v3,v4,min v5 (i64.wrap (a0.y1-(i64.wrap (0-r1))))))else some (.inl (v2,v3,v4,v5)))):J ((Int×Int×Int×Int)⊕_)) λ(v6,v7,v8,v9)=>some (.inl (i64.wrap (v1+1),v6,v7,v8,v9))else some (.inr (.inl (v2,v3,v4,v5)))
def NC(a0:aj)(a1:U bU)(a2:Int):J (aj×Bool):=
 fe (iter (sQ a0 a1 a2) n (0,xd.x0,xd.y0,xd.x1,xd.y1)) λ(w1,w2,w3,w4)=>(bif decide (w1<w3)then some (aj.mk w1 w2 w3 w4,decide (w2<w4))else some (aj.mk w1 w2 w3 w4,false))
def Gi(a0:aj)(a1:U bU)(a2:Int):J ((List aj)×Int):=
 (xX n a0 a1).bind λr1=>(bif (!r1)then some ([],1)else(mY a2 0 4096).bind λr2=>(bif (!r2)then some ([],3)else bif (a2==0)then ck (bk (sub ([xd]:U aj) 0 1).length 1)<|some (sub ([xd]:U aj) 0 1,0)else(NC n a0 a1 a2).bind λr3=>(bif r3.2 then ck (bk (sub ([r3.1]:U aj) 0 1).length 1)<|some (sub ([r3.1]:U aj) 0 1,0)else some ([],0))))
def sS(a0 a1:aj):J (aj×Bool):=
 bif decide ((max a0.x0 a1.x0)<(min a0.x1 a1.x1))then some (aj.mk (max a0.x0 a1.x0) (max a0.y0 a1.y0) (min a0.x1 a1.x1) (min a0.y1 a1.y1),decide ((max a0.y0 a1.y0)<(min a0.y1 a1.y1)))else some (aj.mk (max a0.x0 a1.x0) (max a0.y0 a1.y0) (min a0.x1 a1.x1) (min a0.y1 a1.y1),false)
def p9(x1:aj)(r1:aj×Bool):Stp (Int×(List aj)) (List aj)
 |(v3,v4)=>bif decide (v3<(4:Nat))then(ck (cR v3 4)<|(ci ([aj.mk x1.x0 x1.y0 r1.1.x0 x1.y1,aj.mk r1.1.x1 x1.y0 x1.x1 x1.y1,aj.mk r1.1.x0 x1.y0 r1.1.x1 r1.1.y0,aj.mk r1.1.x0 r1.1.y1 r1.1.x1 x1.y1]:U aj) ((0:Nat)+v3:Int)).bind λx2=>((bif decide (x2.x0<x2.x1)then some (decide (x2.y0<x2.y1))else some false)).bind λv5=>(bif v5 then ck (bP v4.length v4.length (sub ([x2]:U aj) 0 1).length 1 32)<|iU (v4++(sub ([x2]:U aj) 0 1)) λr3=>ck (bk r3.length r3.length)<|some r3 else ck (bk v4.length v4.length)<|some v4):J ((List aj))).bind λv6=>ck (bk v6.length v6.length)<|some (.inl (i64.wrap (v3+1),v6))else ck (bk v4.length v4.length)<|some (.inr v4)
def tO(a0:U aj)(a1:aj):Stp (Int×(List aj)) (List aj)
 |(v1,v2)=>bif decide (v1<a0.length)then((ci a0 v1).bind λx1=>(sS x1 a1).bind λr1=>(bif (!r1.2)then ck (bP v2.length v2.length (sub ([x1]:U aj) 0 1).length 1 32)<|iU (v2++(sub ([x1]:U aj) 0 1)) λr2=>ck (bk r2.length r2.length)<|some r2 else ck (bk v2.length v2.length)<|(iter (p9 x1 r1) n (0,v2)).bind λw1=>ck (bk w1.length w1.length)<|some w1):J ((List aj))).bind λv7=>ck (bk v7.length v7.length)<|some (.inl (i64.wrap (v1+1),v7))else ck (bk v2.length v2.length)<|some (.inr v2)
def zi(a0:U aj)(a1:aj):J (List aj):=
 ck (bk 0 ([]:U aj).length)<|(iter (tO n a0 a1) n (0,[])).bind λw2=>ck (bk (sub w2 0 w2.length).length w2.length)<|some (sub w2 0 w2.length)
def oG(a0 a1:aj):J Bool:=
 bif (a0.y0==a1.y0)then some (a0.y1==a1.y1)else some false
def rR(_:Nat)(a0:U aj)(a1:(aj×aj×Unit)->J Int):J (List aj):=HP a0 a1
def pF(a0 a1:aj):J Int:=
 (cmp_Compare_int a0.y0 a1.y0).bind λr1=>some r1
def lG(a0:U aj)(a1 a2:Int):Stp (Int×(List aj)) (List aj)
 |(v1,v2)=>bif decide (v1<a0.length)then((ci a0 v1).bind λx1=>((bif decide (x1.x0<=a1)then some (decide (a2<=x1.x1))else some false)).bind λv3=>(bif v3 then ck (bP v2.length v2.length (sub ([aj.mk a1 x1.y0 a2 x1.y1]:U aj) 0 1).length 1 32)<|iU (v2++(sub ([aj.mk a1 x1.y0 a2 x1.y1]:U aj) 0 1)) λr1=>ck (bk r1.length r1.length)<|some r1 else ck (bk v2.length v2.length)<|some v2):J ((List aj))).bind λv4=>ck (bk v4.length v4.length)<|some (.inl (i64.wrap (v1+1),v4))else ck (bk v2.length v2.length)<|some (.inr v2)
def lH(w1:U aj):Stp (Int×Int×(List aj)) (Int×(List aj))
 |(v5,v6,v7)=>bif decide (v6<(w1.length:Nat))then(ck (cR v6 w1.length)<|(ci v7 ((0:Nat)+v6:Int)).bind λx2=>((bif decide (v5>0)then ck (cR (i64.wrap (v5-1)) w1.length)<|(ci v7 ((0:Nat)+(i64.wrap (v5-1)):Int)).bind λx3=>some (x3.y1==x2.y0)else some false)).bind λv8=>(bif v8 then ck (cR (i64.wrap (v5-1)) w1.length)<|(ci v7 ((0:Nat)+(i64.wrap (v5-1)):Int)).bind λx4=>some (v5,v7.set ((0:Nat)+(i64.wrap (v5-1)):Int).toNat (aj.mk x4.x0 x4.y0 x4.x1 x2.y1))else ck (cR v5 w1.length)<|(ci v7 ((0:Nat)+v5:Int)).bind λ_=>some (i64.wrap (v5+1),v7.set ((0:Nat)+v5:Int).toNat x2)):J (Int×(List aj))).bind λ(v9,v10)=>some (.inl (v9,i64.wrap (v6+1),v10))else some (.inr (v5,v7))
def tQ(a0:U aj)(a1 a2:Int):J (List aj):=
 ck (bk 0 ([]:U aj).length)<|(iter (lG a0 a1 a2) n (0,[])).bind λw1=>ck (bk w1.length w1.length)<|(rR n w1 (λ (y1:aj×aj×Unit)=>pF y1.1 y1.2.1)).bind λr2=>(iter (lH w1) n (0,0,r2)).bind λ(w2,w3)=>ck (z8 0 w2 w1.length)<|ck (bk (sub w3 0 (w2.toNat)).length (w2.toNat))<|some (sub w3 0 (w2.toNat))
def jh(a0 a1:U aj)(a2:(aj×aj×Unit)->J Bool):Stp Int (Unit⊕Bool)
 |v1=>bif decide (v1<a0.length)then(ci a0 v1).bind λx1=>(ci a1 v1).bind λx2=>(a2 (x1,x2,())).bind λr1=>(bif (!r1)then(some false).map λa=>.inr (.inr a)else some (.inl (i64.wrap (v1+1))))else some (.inr (.inl ()))
def kF(a0 a1:U aj)(a2:(aj×aj×Unit)->J Bool):J Bool:=
 bif (a0.length !=(a1.length:Int))then some false else fe (iter (jh a0 a1 a2) n 0) λ()=>some true
def oH(a0:U aj):Stp (Int×(List Int)) (List Int)
 |(v1,v2)=>bif decide (v1<a0.length)then(ci a0 v1).bind λx1=>ck (bP v2.length v2.length (sub ([x1.x0,x1.x1]:U Int) 0 2).length 2 8)<|iU (v2++(sub ([x1.x0,x1.x1]:U Int) 0 2)) λr1=>ck (bk r1.length r1.length)<|some (.inl (i64.wrap (v1+1),r1))else ck (bk v2.length v2.length)<|some (.inr v2)
def oI(r3:Unit×(List Int))(v3:Int)(v4:U aj):Stp (Int×(List aj)) (List aj)
 |(v7,v8)=>bif decide (v7<(v4.length:Nat))then ck (cR (i64.wrap (v3+1)) r3.2.length)<|(ci r3.2 ((0:Nat)+(i64.wrap (v3+1)):Int)).bind λx4=>ck (cR v7 v4.length)<|(ci v8 ((0:Nat)+v7:Int)).bind λx5=>some (.inl (i64.wrap (v7+1),v8.set ((0:Nat)+v7:Int).toNat (aj.mk x5.x0 x5.y0 x4 x5.y1)))else some (.inr v8)
def oJ(a0:U aj)(r3:Unit×(List Int)):Stp (Int×(List aj)×(List aj)) (List aj)
 |(v3,v4,v5)=>bif (decide (v3<((max 0 (i64.wrap ((r3.2.length:Nat)-1))):Int)))then ck (cR v3 r3.2.length)<|(ci r3.2 ((0:Nat)+v3:Int)).bind λx2=>ck (cR (i64.wrap (v3+1)) r3.2.length)<|(ci r3.2 ((0:Nat)+(i64.wrap (v3+1)):Int)).bind λx3=>(tQ n a0 x2 x3).bind λr4=>(((bif decide ((r4.length:Int)>0)then ck (bk (sub r4 0 r4.length).length r4.length)<|ck (bk (sub v5 0 v5.length).length v5.length)<|(kF n (sub r4 0 r4.length) (sub v5 0 v5.length) (λ (y1:aj×aj×Unit)=>oG y1.1 y1.2.1)).bind λr5=>some r5 else some false)).bind λv6=>(bif v6 then(iter (oI r3 v3 v4) n (i64.wrap ((v4.length:Nat)-(r4.length:Nat)),v4)).bind λw2=>ck (bk v4.length w2.length)<|some w2 else ck (bP v4.length v4.length (sub r4 0 r4.length).length r4.length 32)<|iU (v4++(sub r4 0 r4.length)) λr6=>ck (bk r6.length r6.length)<|some r6):J ((List aj))).bind λv9=>ck (bk v9.length v9.length)<|ck (bk r4.length r4.length)<|some (.inl (i64.wrap (v3+1),v9,r4))else ck (bk v4.length v4.length)<|some (.inr v4)
def xA(a0:U aj):J (List aj):=
 ck (bk 0 ([]:U Int).length)<|(iter (oH a0) n (0,[])).bind λw1=>ck (bk w1.length w1.length)<|(mO n w1).bind λr2=>ck (bk w1.length r2.length)<|(lF n r2).bind λr3=>ck (bk 0 ([]:U aj).length)<|ck (bk 0 ([]:U aj).length)<|(iter (oJ n a0 r3) n (0,[],[])).bind λw3=>ck (bk (sub w3 0 w3.length).length w3.length)<|some (sub w3 0 w3.length)
def oK(r1:(List aj)×Int)(x1:aj):Stp (Int×(List aj)) (List aj)
 |(v3,v4)=>bif decide (v3<(r1.1.length:Nat))then(ck (cR v3 r1.1.length)<|(ci r1.1 ((0:Nat)+v3:Int)).bind λx2=>(sS x1 x2).bind λr2=>(bif r2.2 then ck (bP v4.length v4.length (sub ([r2.1]:U aj) 0 1).length 1 32)<|iU (v4++(sub ([r2.1]:U aj) 0 1)) λr3=>ck (bk r3.length r3.length)<|some r3 else ck (bk v4.length v4.length)<|some v4):J ((List aj))).bind λv5=>ck (bk v5.length v5.length)<|some (.inl (i64.wrap (v3+1),v5))else ck (bk v4.length v4.length)<|some (.inr v4)
def oL(a0:U aj)(r1:(List aj)×Int):Stp (Int×(List aj)) (List aj)
 |(v1,v2)=>bif decide (v1<a0.length)then(ci a0 v1).bind λx1=>ck (bk v2.length v2.length)<|(iter (oK r1 x1) n (0,v2)).bind λw1=>ck (bk w1.length w1.length)<|some (.inl (i64.wrap (v1+1),w1))else ck (bk v2.length v2.length)<|some (.inr v2)
def oM(x3:dI):Stp (Int×(List aj)) (List aj)
 |(v8,v9)=>bif decide (v8<x3.area.length)then(ci x3.area v8).bind λx4=>ck (bk (sub v9 0 v9.length).length v9.length)<|(zi n (sub v9 0 v9.length) x4).bind λr4=>ck (bk r4.length r4.length)<|some (.inl (i64.wrap (v8+1),r4))else ck (bk v9.length v9.length)<|some (.inr v9)
def oN(a3:U dI)(a4:Int):Stp (Int×(List aj)) (List aj)
 |(v6,v7)=>bif decide (v6<a3.length)then((ci a3 v6).bind λx3=>(bif decide (x3.top>=a4)then ck (bk v7.length v7.length)<|some v7 else ck (bk v7.length v7.length)<|(iter (oM n x3) n (0,v7)).bind λw3=>ck (bk w3.length w3.length)<|some w3):J ((List aj))).bind λv10=>ck (bk v10.length v10.length)<|some (.inl (i64.wrap (v6+1),v10))else ck (bk v7.length v7.length)<|some (.inr v7)
def ql(a0:U aj)(a1:aj)(a2:U bU)(a3:U dI)(a4:Int):J ((List aj)×Int):=
 bif ((a0.length:Int)==0)then some ([],0)else(Gi n a1 a2 a4).bind λr1=>ck (bk 0 ([]:U aj).length)<|(iter (oL n a0 r1) n (0,[])).bind λw2=>ck (bk w2.length w2.length)<|(iter (oN n a3 a4) n (0,w2)).bind λw4=>ck (bk (sub w4 0 w4.length).length w4.length)<|(xA n (sub w4 0 w4.length)).bind λr5=>(bif decide ((r5.length:Int)>200)then some ([],6)else ck (bk (sub r5 0 r5.length).length r5.length)<|some (sub r5 0 r5.length,0))
def jS(a0:dK)(a1:Int):Stp (Int×(List dI)) (List dI)
 |(v3,v4)=>bif decide (v3<a0.bz.length)then((ci a0.bz v3).bind λx1=>((bif (x1.lot==a1)then(ko n x1.area).bind λr5=>some r5 else some false)).bind λv5=>(bif v5 then ck (bP v4.length v4.length (sub ([x1]:U dI) 0 1).length 1 40)<|iU (v4++(sub ([x1]:U dI) 0 1)) λr6=>ck (bk r6.length r6.length)<|some r6 else ck (bk v4.length v4.length)<|some v4):J ((List dI))).bind λv6=>ck (bk v6.length v6.length)<|some (.inl (i64.wrap (v3+1),v6))else ck (bk v4.length v4.length)<|some (.inr v4)
def gW(a3:Int)(v2:U aj)(w1:U dI)(r7:aj×Bool)(r8:U bU):Stp (Int×(List (List aj))) ((List (List aj))⊕((List (List aj))×Int))
 |(v7,v8)=>bif decide (v7<a3)then ck (bk (sub v2 0 v2.length).length v2.length)<|ck (bk (sub r8 0 r8.length).length r8.length)<|ck (bk (sub w1 0 w1.length).length w1.length)<|(ql n (sub v2 0 v2.length) r7.1 (sub r8 0 r8.length) (sub w1 0 w1.length) (i64.wrap (3*(i64.wrap (v7+1))))).bind λr9=>(bif (r9.2 !=0)then(some (([]:(List (List aj))),r9.2)).map λa=>.inr (.inr a)else ck (bk (sub r9.1 0 r9.1.length).length r9.1.length)<|ck (bP v8.length v8.length (sub ([sub r9.1 0 r9.1.length]:U (List aj)) 0 1).length 1 24)<|iU (v8++(sub ([sub r9.1 0 r9.1.length]:U (List aj)) 0 1)) λxp=>ck (bk xp.length xp.length)<|some (.inl (i64.wrap (v7+1),xp)))else ck (bk v8.length v8.length)<|some (.inr (.inl v8))
def gX(a0:dK)(a1 a2 a3:Int):J ((List (List aj))×Int):=
 (za n a0.land a1).bind λr1=>(bif (!r1.2)then some (([]:(List (List aj))),4)else((bif decide (a3<0)then some true else bif decide (a3>12)then some true else(ko n r1.1.area).bind λr2=>some (!r2))).bind λv1=>(bif v1 then some (([]:(List (List aj))),1)else fe ((mX n a0 a1 a2).bind λr3=>(bif decide (r3<=1048576)then(Lu n r1.1.area r3).bind λr4=>(bif (r4.2 !=0)then(some (([]:(List (List aj))),r4.2)).map .inr else ck (bk r4.1.length r4.1.length)<|some (.inl r4.1))else ck (bk 0 ([]:U aj).length)<|some (.inl []))) λv2=>ck (bk 0 ([]:U dI).length)<|(iter (jS n a0 a1) n (0,[])).bind λw1=>(zR n r1.1.area).bind λr7=>(l9 n a0 a1 a2).bind λr8=>ck (bk 0 ([]:U (List aj)).length)<|fe (iter (gW n a3 v2 w1 r7 r8) n (0,[])) λw2=>ck (bk (sub w2 0 w2.length).length w2.length)<|some (sub w2 0 w2.length,0)))
def agK(a0 a1:U aj):Stp Int (Unit⊕Bool)
 |v1=>bif decide (v1<a0.length)then(ci a0 v1).bind λx1=>(ci a1 v1).bind λx2=>(bif (!((x1.x0==x2.x0)&&((x1.y0==x2.y0)&&((x1.x1==x2.x1)&&((x1.y1==x2.y1)&&true)))))then(some false).map λa=>.inr (.inr a)else some (.inl (i64.wrap (v1+1))))else some (.inr (.inl ()))
def Qb(a0 a1:U aj):J Bool:=
 bif (a0.length !=(a1.length:Int))then some false else fe (iter (agK a0 a1) n 0) λ()=>some true
def HZ(a0:U (List aj))(a1:((List aj)×Unit)->J Bool):Stp Int (Unit⊕Int)
 |v1=>bif decide (v1<a0.length)then(ci a0 v1).bind λx1=>(a1 (x1,())).bind λr1=>(bif r1 then(some v1).map λa=>.inr (.inr a)else some (.inl (i64.wrap (v1+1))))else some (.inr (.inl ()))
def Ap(a0:U (List aj))(a1:((List aj)×Unit)->J Bool):J Int:=
 fe (iter (HZ a0 a1) n 0) λ()=>some (-1)
def wC(a0:U (List aj))(a1:((List aj)×Unit)->J Bool):J Bool:=
 (Ap n a0 a1).bind λr1=>some (decide (r1>=0))
def Ce(a0:U aj):J Bool:=
 (ko n a0).bind λr1=>some (!r1)
def Qc(a0:U (List aj)):Stp (Int×(List fu)) (List fu)
 |(v2,v3)=>bif decide (v2<a0.length)then((ci a0 v2).bind λx1=>(bif ((x1.length:Int)==0)then ck (bk v3.length v3.length)<|some v3 else((bif decide ((v3.length:Int)>0)then ck (cR (i64.wrap ((v3.length:Nat)-1)) v3.length)<|(ci v3 ((0:Nat)+(i64.wrap ((v3.length:Nat)-1)):Int)).bind λx2=>(bif (x2.z1==(i64.wrap (3*v2)))then ck (cR (i64.wrap ((v3.length:Nat)-1)) v3.length)<|(ci v3 ((0:Nat)+(i64.wrap ((v3.length:Nat)-1)):Int)).bind λx3=>(nP n x3.area x1).bind λr2=>some r2 else some false)else some false)).bind λv4=>(bif v4 then ck (cR (i64.wrap ((v3.length:Nat)-1)) v3.length)<|(ci v3 ((0:Nat)+(i64.wrap ((v3.length:Nat)-1)):Int)).bind λx4=>ck (cR (i64.wrap ((v3.length:Nat)-1)) v3.length)<|(ci v3 ((0:Nat)+(i64.wrap ((v3.length:Nat)-1)):Int)).bind λx5=>ck (bk v3.length (v3.set ((0:Nat)+(i64.wrap ((v3.length:Nat)-1)):Int).toNat (fu.mk x5.z0 (i64.wrap (x4.z1+3)) x5.area)).length)<|some (v3.set ((0:Nat)+(i64.wrap ((v3.length:Nat)-1)):Int).toNat (fu.mk x5.z0 (i64.wrap (x4.z1+3)) x5.area))else(xh x1).bind λr3=>ck (bk (sub r3 0 r3.length).length r3.length)<|ck (bP v3.length v3.length (sub ([fu.mk (i64.wrap (3*v2)) (i64.wrap (3*(i64.wrap (v2+1)))) (sub r3 0 r3.length)]:U fu) 0 1).length 1 40)<|iU (v3++(sub ([fu.mk (i64.wrap (3*v2)) (i64.wrap (3*(i64.wrap (v2+1)))) (sub r3 0 r3.length)]:U fu) 0 1)) λr4=>ck (bk r4.length r4.length)<|some r4)):J ((List fu))).bind λv5=>ck (bk v5.length v5.length)<|some (.inl (i64.wrap (v2+1),v5))else ck (bk v3.length v3.length)<|some (.inr v3)
def JV(a0:U (List aj)):J ((List fu)×Int):=
 ((bif decide ((a0.length:Int)>12)then some true else(wC n a0 (λ (y1:(List aj)×Unit)=>Ce n y1.1)).bind λr1=>some r1)).bind λv1=>(bif v1 then some ([],1)else ck (bk 0 ([]:U fu).length)<|(iter (Qc n a0) n (0,[])).bind λw1=>ck (bk (sub w1 0 w1.length).length w1.length)<|some (sub w1 0 w1.length,0))
def Lv:J Bool:=
 (JR).bind λr1=>(gX n r1 1 0 3).bind λr2=>ck (bk (sub r2.1 0 r2.1.length).length r2.1.length)<|(bif (((sub r2.1 0 r2.1.length).length:Int) !=3)then some false else((ci (sub r2.1 0 r2.1.length) 0).bind λx1=>ck (bk (sub ([aj.mk 2 2 8 6]:U aj) 0 1).length 1)<|(Qb n x1 (sub ([aj.mk 2 2 8 6]:U aj) 0 1)).bind λr3=>(bif r3 then(ci (sub r2.1 0 r2.1.length) 1).bind λx2=>ck (bk (sub ([aj.mk 3 2 4 6,aj.mk 4 3 6 6,aj.mk 6 2 8 6]:U aj) 0 3).length 3)<|(Qb n x2 (sub ([aj.mk 3 2 4 6,aj.mk 4 3 6 6,aj.mk 6 2 8 6]:U aj) 0 3)).bind λr4=>(bif r4 then(ci (sub r2.1 0 r2.1.length) 2).bind λx3=>ck (bk (sub ([aj.mk 6 2 8 6]:U aj) 0 1).length 1)<|(Qb n x3 (sub ([aj.mk 6 2 8 6]:U aj) 0 1)).bind λr5=>some r5 else some false)else some false)).bind λv1=>(JV n (sub r2.1 0 r2.1.length)).bind λr6=>(bif (r2.2==0)then(bif (r6.2==0)then(bif v1 then(mX n r1 1 0).bind λr7=>(bif (r7==2)then(l9 n r1 1 0).bind λr8=>(bif ((r8.length:Int)==1)then some ((r6.1.length:Int)==3)else some false)else some false)else some false)else some false)else some false))
def ND(a0:dK):Stp Int (Unit⊕Bool)
 |v2=>bif decide (v2<a0.aw.length)then((ci a0.aw v2).bind λx1=>(bif decide ((x1.zones.length:Int)>5)then some true else(ci a0.aw v2).bind λx2=>some (decide ((x2.except.length:Int)>5)))).bind λv3=>(bif v3 then(some false).map λa=>.inr (.inr a)else some (.inl (i64.wrap (v2+1))))else some (.inr (.inl ()))
def NE(a0:dK):Stp Int (Unit⊕Bool)
 |v4=>bif decide (v4<a0.land.length)then(ci a0.land v4).bind λx3=>(bif decide ((x3.area.length:Int)>10)then(some false).map λa=>.inr (.inr a)else some (.inl (i64.wrap (v4+1))))else some (.inr (.inl ()))
def NF(a0:dK):Stp Int (Unit⊕Bool)
 |v5=>bif decide (v5<a0.bz.length)then(ci a0.bz v5).bind λx4=>(bif decide ((x4.area.length:Int)>10)then(some false).map λa=>.inr (.inr a)else some (.inl (i64.wrap (v5+1))))else some (.inr (.inl ()))
def Xd(a0:dK):J Bool:=
 ((bif decide ((a0.aw.length:Int)>10)then some true else bif decide ((a0.bu.length:Int)>6)then some true else bif decide ((a0.cz.length:Int)>20)then some true else bif decide ((a0.cm.length:Int)>20)then some true else bif decide ((a0.land.length:Int)>5)then some true else bif decide ((a0.bz.length:Int)>5)then some true else some (decide ((a0.built.length:Int)>6)))).bind λv1=>(bif v1 then some false else fe (iter (ND a0) n 0) λ()=>fe (iter (NE a0) n 0) λ()=>fe (iter (NF a0) n 0) λ()=>some true)
def Cf(a0:bO):J Bool:=
 ((bif (a0.kind !=0)then some true else bif (a0.ga !=12)then some true else some ((a0.cM.length:Int) !=2))).bind λv1=>(bif v1 then some false else(ci a0.cM 0).bind λx1=>(ci a0.cM 1).bind λx2=>(bif (x1.op==0)then(bif ((x1.args.length:Int)==0)then(bif (x2.op==1)then(bif (ByteArray.toList x2.s==ByteArray.toList (⟨#[115,101,116,98,97,99,107]⟩))then some ((x2.args.length:Int)==0)else some false)else some false)else some false)else some false))
def xY(a0:dJ):Stp (Int×(List bO)) (List bO)
 |(v1,v2)=>bif decide (v1<a0.rules.length)then(((ci a0.rules v1).bind λx1=>(bif (x1.kind==1)then some true else(ci a0.rules v1).bind λx2=>(Cf x2).bind λr1=>some r1)).bind λv3=>(bif v3 then(ci a0.rules v1).bind λx3=>ck (bP v2.length v2.length (sub ([x3]:U bO) 0 1).length 1 232)<|iU (v2++(sub ([x3]:U bO) 0 1)) λr2=>ck (bk r2.length r2.length)<|some r2 else ck (bk v2.length v2.length)<|some v2):J ((List bO))).bind λv4=>ck (bk v4.length v4.length)<|some (.inl (i64.wrap (v1+1),v4))else ck (bk v2.length v2.length)<|some (.inr v2)
def Qd(a0:dJ):J dJ:=
 ck (bk 0 ([]:U bO).length)<|(iter (xY a0) n (0,[])).bind λw1=>ck (bk (sub w1 0 w1.length).length w1.length)<|some (dJ.mk a0.defs a0.tables a0.zones (sub w1 0 w1.length) a0.caps a0.views a0.tf a0.hours)
def pG(a0:bL)(a1 a2:Int):Stp (Int×(List aF)) (List aF)
 |(v1,v2)=>bif decide (v1<a0.phases.length)then((ci a0.phases v1).bind λx1=>((bif decide (v1>=a1)then some (decide (v1<a2))else some false)).bind λv3=>(bif v3 then ck (bP v2.length v2.length x1.cP.length x1.cP.length 72)<|iU (v2++x1.cP) λr1=>ck (bk r1.length r1.length)<|some r1 else ck (bk v2.length v2.length)<|some v2):J ((List aF))).bind λv4=>ck (bk v4.length v4.length)<|some (.inl (i64.wrap (v1+1),v4))else ck (bk v2.length v2.length)<|some (.inr v2)
def qa(a0:bL)(a1 a2:Int):J (List aF):=
 ck (bk 0 ([]:U aF).length)<|(iter (pG a0 a1 a2) n (0,[])).bind λw1=>ck (bk (sub w1 0 w1.length).length w1.length)<|some (sub w1 0 w1.length)
def xZ(a0:bL):J (List aF):=
 (qa n a0 0 a0.phases.length).bind λr1=>ck (bk (sub r1 0 r1.length).length r1.length)<|some (sub r1 0 r1.length)
def gT(a0:aF):J Bool:=
 ((qC (aj.mk a0.b9 a0.cy a0.b8 a0.cw)).bind λr1=>(bif (!r1)then some true else bif decide (a0.ev<0)then some true else bif decide (a0.ev>=a0.de)then some true else some (decide (a0.de>4096)))).bind λv1=>(bif v1 then some false else((bif (a0.use !=0)then some (a0.units !=0)else some false)).bind λv2=>(bif v2 then some false else bif decide (a0.use>=0)then(bif decide (a0.use<6)then(bif decide (a0.units>=0)then some (decide (a0.units<=1048576))else some false)else some false)else some false))
def zk(a0 a1:Fo):J Bool:=
 (uD (aj.mk a0.oY a0.oS a0.oX a0.oR) (aj.mk a1.oY a1.oS a1.oX a1.oR)).bind λr1=>(bif r1.2 then(bif decide (a0.z0<a1.z1)then some (decide (a1.z0<a0.z1))else some false)else some false)
def tT(a0 a1:aF):J Bool:=
 (zk (Fo.mk a1.b9 a1.cy a1.b8 a1.cw a1.ev a1.de) (Fo.mk a0.b9 a0.cy a0.b8 a0.cw a0.ev a0.de)).bind λr1=>some r1
def Gj(a0:U aF)(a1:(aF×Unit)->J Bool):Stp Int (Unit⊕Int)
 |v1=>bif decide (v1<a0.length)then(ci a0 v1).bind λx1=>(a1 (x1,())).bind λr1=>(bif r1 then(some v1).map λa=>.inr (.inr a)else some (.inl (i64.wrap (v1+1))))else some (.inr (.inl ()))
def sF(a0:U aF)(a1:(aF×Unit)->J Bool):J Int:=
 fe (iter (Gj a0 a1) n 0) λ()=>some (-1)
def gH(a0:U aF)(a1:(aF×Unit)->J Bool):J Bool:=
 (sF n a0 a1).bind λr1=>some (decide (r1>=0))
def Gl(a0:Int):J Bool:=
 bif decide (a0>=97)then some (decide (a0<=122))else some false
def Cg(a0:ByteArray)(a1:(Int×Unit)->J Bool):Stp Int Int
 |v1=>((bif decide (v1<a0.size)then(UQ a0 v1).bind λx1=>(a1 (x1,())).bind λr1=>some r1 else some false)).bind λv2=>bif v2 then some (.inl (i64.wrap (v1+1)))else some (.inr v1)
def Qe(a0:ByteArray)(a1:(Int×Unit)->J Bool):J Int:=
 (iter (Cg a0 a1) n 0).bind λw1=>some w1
def Sw(a0:Int):J Bool:=
 bif decide (a0>=48)then some (decide (a0<=57))else some false
def Ch(a0:Int):J Bool:=
 (Gl a0).bind λr1=>(bif r1 then some true else(Sw a0).bind λr2=>some r2)
def Qf(a0:ByteArray):J Bool:=
 ((bif (ByteArray.toList a0==ByteArray.toList (⟨#[]⟩))then some true else(UQ a0 0).bind λx1=>(Gl x1).bind λr1=>(bif (!r1)then some true else some (decide ((a0.size:Int)>20))))).bind λv1=>(bif v1 then some false else(Qe n a0 (λ (y1:Int×Unit)=>Ch y1.1)).bind λr2=>some (r2==a0.size))
def strings_Contains(a0 a1:ByteArray):J Bool:=ck (Nat.ble a0.size 4000000)<|some (Lib.contains a0.data.toList a1.data.toList)
def yc(a0:ByteArray):J Bool:=
 (Qf n a0).bind λr1=>(bif r1 then ck (Ya (⟨#[32]⟩) a0)<|ck (Ya ((⟨#[32]⟩)++a0) (⟨#[32]⟩))<|(strings_Contains (⟨#[32,97,110,100,32,97,112,97,114,116,32,98,97,115,101,32,99,97,112,32,100,101,102,105,110,101,32,101,108,115,101,32,101,120,99,101,112,116,32,102,114,111,109,32,103,114,97,99,101,32,104,111,117,114,115,32,105,102,32,105,110,32,108,101,97,115,116,32,110,111,116,32,111,114,32,111,118,101,114,108,97,121,32,112,108,97,110,101,32,114,117,108,101,32,115,108,111,112,101,32,115,117,110,32,116,97,98,108,101,32,116,104,101,110,32,117,110,116,105,108,32,117,115,101,115,32,118,97,114,121,32,118,105,101,119,32,122,111,110,101,32]⟩) (((⟨#[32]⟩)++a0)++(⟨#[32]⟩))).bind λr2=>some (!r2)else some false)
def mh(r1:U aF):Stp Int (Unit⊕Bool)
 |v2=>bif decide (v2<(r1.length:Nat))then ck (cR v2 r1.length)<|(ci r1 ((0:Nat)+v2:Int)).bind λx1=>((gT x1).bind λr2=>(bif (!r2)then some true else ck (z8 0 v2 r1.length)<|ck (bk (sub r1 0 (v2.toNat)).length (v2.toNat))<|(gH n (sub r1 0 (v2.toNat)) (λ (y1:aF×Unit)=>tT y1.1 x1)).bind λr3=>some r3)).bind λv3=>(bif v3 then(some false).map λa=>.inr (.inr a)else some (.inl (i64.wrap (v2+1))))else some (.inr (.inl ()))
def mq(x2:pu):Stp (Int×(List (ByteArray×Bool))) (Unit⊕(Int⊕(Unit⊕Bool)))
 |(v5,v6)=>bif decide (v5<x2.gives.length)then(ci x2.gives v5).bind λx3=>((bif ((fV fp x3.name v6).getD false)then some true else(yc n x3.name).bind λr4=>(bif (!r4)then some true else bif decide (x3.n<0)then some true else some (decide (x3.n>1073741824))))).bind λv7=>(bif v7 then((some false).map λa=>.inr (.inr a)).map λa=>.inr (.inr a)else some (.inl (i64.wrap (v5+1),Hz fp x3.name true v6)))else some (.inr (.inl ()))
def mD(a0:bL):Stp Int (Unit⊕Bool)
 |v4=>bif decide (v4<a0.phases.length)then(ci a0.phases v4).bind λx2=>fe (iter (mq n x2) n (0,([]:(List (ByteArray×Bool))))) λ()=>(bif decide ((x2.gives.length:Int)>30)then(some false).map λa=>.inr (.inr a)else some (.inl (i64.wrap (v4+1))))else some (.inr (.inl ()))
def zm(a0:bL):J Bool:=
 (xZ n a0).bind λr1=>((bif decide (a0.lot<0)then some true else bif decide (a0.lot>1073741824)then some true else bif decide ((a0.phases.length:Int)<1)then some true else bif decide ((a0.phases.length:Int)>8)then some true else bif decide ((r1.length:Int)<1)then some true else some (decide ((r1.length:Int)>40)))).bind λv1=>(bif v1 then some false else fe (iter (mh n r1) n 0) λ()=>fe (iter (mD n a0) n 0) λ()=>some true)
def mZ(a0:U aV)(a1:Int)(a2:(aV×Int×Unit)->J Int):Stp (Int×Int) Int
 |(v1,v2)=>bif decide (v1<v2)then ck (decide (0<=1)&&decide (1<=IntKind.u64.bits))<|(ci a0 (i64.wrap ((IntKind.u64.wrap (i64.wrap (v1+v2)))/2 ^ (1:Int).toNat))).bind λx1=>(a2 (x1,a1,())).bind λr1=>(bif decide (r1<0)then some (.inl (i64.wrap ((i64.wrap ((IntKind.u64.wrap (i64.wrap (v1+v2)))/2 ^ (1:Int).toNat))+1),v2))else some (.inl (v1,i64.wrap ((IntKind.u64.wrap (i64.wrap (v1+v2)))/2 ^ (1:Int).toNat))))else some (.inr v1)
def jH(a0:U aV)(a1:Int)(a2:(aV×Int×Unit)->J Int):J (Int×Bool):=
 (iter (mZ a0 a1 a2) n (0,a0.length)).bind λw1=>(bif decide (w1<a0.length)then(ci a0 w1).bind λx2=>(a2 (x2,a1,())).bind λr2=>some (w1,r2==0)else some (w1,false))
def yg(a0:aV)(a1:Int):J Int:=
 bif decide (a0.x1<=a1)then some (-1)else some 1
def Zd(a0:U aV)(a1:Int):J (List aN):=
 (jH n a0 a1 (λ (y1:aV×Int×Unit)=>yg y1.1 y1.2.1)).bind λr1=>((bif decide (r1.1<a0.length)then(ci a0 r1.1).bind λx1=>some (decide (x1.x0<=a1))else some false)).bind λv1=>(bif v1 then(ci a0 r1.1).bind λx2=>some x2.column else some [])
def Qg(_:Unit)(a1:Int):J (List aN):=
 bif decide (a1<0)then none else bif (decide ((i64.wrap (a1-(i64.wrap (0-0))))>0))then ck (Bn (i64.wrap (a1-(i64.wrap (0-0)))) 16)<|ck (z8 0 0 ((i64.wrap (a1-(i64.wrap (0-0)))).toNat))<|ck (bk (sub (List.replicate (i64.wrap (a1-(i64.wrap (0-0)))).toNat (aN.mk 0 0)) 0 0).length 0)<|some (sub (List.replicate (i64.wrap (a1-(i64.wrap (0-0)))).toNat (aN.mk 0 0)) 0 0)else some []
def Qh(a0:U (List aN)):Stp (Int×Int) Int
 |(v1,v2)=>bif decide (v2<a0.length)then(ci a0 v2).bind λx1=>(bif decide ((i64.wrap (v1+x1.length))<0)then none else some (.inl (i64.wrap (v1+x1.length),i64.wrap (v2+1))))else some (.inr v1)
def Qi(a0:U (List aN)):Stp (Int×(List aN)) (List aN)
 |(v3,v4)=>bif decide (v3<a0.length)then(ci a0 v3).bind λx2=>ck (bP v4.length v4.length x2.length x2.length 16)<|iU (v4++x2) λr2=>ck (bk r2.length r2.length)<|some (.inl (i64.wrap (v3+1),r2))else ck (bk v4.length v4.length)<|some (.inr v4)
def Aq(a0:U (List aN)):J (List aN):=
 (iter (Qh a0) n (0,0)).bind λw1=>(Qg () w1).bind λr1=>ck (bk r1.length r1.length)<|(iter (Qi a0) n (0,r1)).bind λw2=>ck (bk (sub w2 0 w2.length).length w2.length)<|some (sub w2 0 w2.length)
def nY(a0:U aN)(a1:Int)(a2:(aN×Int×Unit)->J Int):Stp (Int×Int) Int
 |(v1,v2)=>bif decide (v1<v2)then ck (decide (0<=1)&&decide (1<=IntKind.u64.bits))<|(ci a0 (i64.wrap ((IntKind.u64.wrap (i64.wrap (v1+v2)))/2 ^ (1:Int).toNat))).bind λx1=>(a2 (x1,a1,())).bind λr1=>(bif decide (r1<0)then some (.inl (i64.wrap ((i64.wrap ((IntKind.u64.wrap (i64.wrap (v1+v2)))/2 ^ (1:Int).toNat))+1),v2))else some (.inl (v1,i64.wrap ((IntKind.u64.wrap (i64.wrap (v1+v2)))/2 ^ (1:Int).toNat))))else some (.inr v1)
def jY(a0:U aN)(a1:Int)(a2:(aN×Int×Unit)->J Int):J (Int×Bool):=
 (iter (nY a0 a1 a2) n (0,a0.length)).bind λw1=>(bif decide (w1<a0.length)then(ci a0 w1).bind λx2=>(a2 (x2,a1,())).bind λr2=>some (w1,r2==0)else some (w1,false))
def ng(a0:aN)(a1:Int):J Int:=
 bif decide (a0.to<=a1)then some (-1)else some 1
def EF(a0:U aN)(a1:Int):J Bool:=
 (jY n a0 a1 (λ (y1:aN×Int×Unit)=>ng y1.1 y1.2.1)).bind λr1=>(bif decide (r1.1<a0.length)then(ci a0 r1.1).bind λx1=>some (decide (x1.from_<=a1))else some false)
def yh(r1:U aN):Stp (Int×(List Int)) (List Int)
 |(v1,v2)=>bif decide (v1<(r1.length:Nat))then ck (cR v1 r1.length)<|(ci r1 ((0:Nat)+v1:Int)).bind λx1=>ck (bP v2.length v2.length (sub ([x1.from_,x1.to]:U Int) 0 2).length 2 8)<|iU (v2++(sub ([x1.from_,x1.to]:U Int) 0 2)) λr2=>ck (bk r2.length r2.length)<|some (.inl (i64.wrap (v1+1),r2))else ck (bk v2.length v2.length)<|some (.inr v2)
def yj(a0 a1:U aN)(a2:(Bool×Bool×Unit)->J Bool)(r4:Unit×(List Int)):Stp (Int×(List aN)) (List aN)
 |(v3,v4)=>bif decide (v3<(r4.2.length:Nat))then(ck (cR (i64.wrap (v3-1)) r4.2.length)<|(ci r4.2 ((0:Nat)+(i64.wrap (v3-1)):Int)).bind λx2=>(EF n a0 x2).bind λr5=>(EF n a1 x2).bind λr6=>(a2 (r5,r6,())).bind λr7=>(bif (!r7)then ck (bk v4.length v4.length)<|some v4 else((bif decide ((v4.length:Int)>0)then ck (cR (i64.wrap ((v4.length:Nat)-1)) v4.length)<|(ci v4 ((0:Nat)+(i64.wrap ((v4.length:Nat)-1)):Int)).bind λx3=>some (x3.to==x2)else some false)).bind λv5=>(bif v5 then ck (cR v3 r4.2.length)<|(ci r4.2 ((0:Nat)+v3:Int)).bind λx4=>ck (cR (i64.wrap ((v4.length:Nat)-1)) v4.length)<|(ci v4 ((0:Nat)+(i64.wrap ((v4.length:Nat)-1)):Int)).bind λx5=>ck (bk v4.length (v4.set ((0:Nat)+(i64.wrap ((v4.length:Nat)-1)):Int).toNat (aN.mk x5.from_ x4)).length)<|some (v4.set ((0:Nat)+(i64.wrap ((v4.length:Nat)-1)):Int).toNat (aN.mk x5.from_ x4))else ck (cR v3 r4.2.length)<|(ci r4.2 ((0:Nat)+v3:Int)).bind λx6=>ck (bP v4.length v4.length (sub ([aN.mk x2 x6]:U aN) 0 1).length 1 16)<|iU (v4++(sub ([aN.mk x2 x6]:U aN) 0 1)) λr8=>ck (bk r8.length r8.length)<|some r8)):J ((List aN))).bind λv6=>ck (bk v6.length v6.length)<|some (.inl (i64.wrap (v3+1),v6))else ck (bk v4.length v4.length)<|some (.inr v4)
def JW(a0 a1:U aN)(a2:(Bool×Bool×Unit)->J Bool):J (List aN):=
 ck (bk (sub ([a0,a1]:U (List aN)) 0 2).length 2)<|(Aq n (sub ([a0,a1]:U (List aN)) 0 2)).bind λr1=>ck (bk 0 ([]:U Int).length)<|(iter (yh r1) n (0,[])).bind λw1=>ck (bk w1.length w1.length)<|(mO n w1).bind λr3=>ck (bk w1.length r3.length)<|(lF n r3).bind λr4=>ck (bk 0 ([]:U aN).length)<|(iter (yj n a0 a1 a2 r4) n (1,[])).bind λw2=>ck (bk (sub w2 0 w2.length).length w2.length)<|some (sub w2 0 w2.length)
def sU(a2:(Bool×Bool×Unit)->J Bool)(r3 r4 r5:U aV):Stp (Int×(List aV)) (List aV)
 |(v2,v3)=>bif decide (v2<(r5.length:Nat))then ck (cR v2 r5.length)<|(ci v3 ((0:Nat)+v2:Int)).bind λx1=>(Zd n (sub r3 0 r3.length) x1.x0).bind λr6=>(Zd n (sub r4 0 r4.length) x1.x0).bind λr7=>(JW n r6 r7 a2).bind λr8=>ck (cR v2 r5.length)<|ck (bk (sub r8 0 r8.length).length r8.length)<|(ci v3 ((0:Nat)+v2:Int)).bind λx2=>some (.inl (i64.wrap (v2+1),v3.set ((0:Nat)+v2:Int).toNat (aV.mk x2.x0 x2.x1 (sub r8 0 r8.length))))else some (.inr v3)
def Ar(a0 a1:U aj)(a2:(Bool×Bool×Unit)->J Bool):J ((List aj)×Int):=
 ((ko n a0).bind λr1=>(bif (!r1)then some true else(ko n a1).bind λr2=>some (!r2))).bind λv1=>(bif v1 then some ([],1)else ck (bk (sub ([a0]:U (List aj)) 0 1).length 1)<|(qj n (sub ([a0]:U (List aj)) 0 1)).bind λr3=>ck (bk (sub ([a1]:U (List aj)) 0 1).length 1)<|(qj n (sub ([a1]:U (List aj)) 0 1)).bind λr4=>ck (bk (sub r3 0 r3.length).length r3.length)<|ck (bk (sub r4 0 r4.length).length r4.length)<|ck (bk (sub ([a0,a1]:U (List aj)) 0 2).length 2)<|(qj n (sub ([a0,a1]:U (List aj)) 0 2)).bind λr5=>(iter (sU n a2 r3 r4 r5) n (0,r5)).bind λw1=>ck (bk (sub w1 0 r5.length).length r5.length)<|(JS n (sub w1 0 r5.length)).bind λr9=>ck (bk (sub r9 0 r9.length).length r9.length)<|(Am (sub r9 0 r9.length)).bind λxp=>some (xp.1,xp.2))
def zn(a0 a1:Bool):J Bool:=
 bif a0 then some a1 else some false
def Lx(a0 a1:U aj):J ((List aj)×Int):=
 (Ar n a0 a1 (λ (y1:Bool×Bool×Unit)=>zn y1.1 y1.2.1)).bind λr1=>some (r1.1,r1.2)
def Gm(a0:U aj):Stp (Int×Int) Int
 |(v1,v2)=>bif decide (v2<a0.length)then(ci a0 v2).bind λx1=>(Ao x1).bind λr2=>some (.inl (i64.wrap (v1+r2),i64.wrap (v2+1)))else some (.inr v1)
def Qj(a0:U aj):J Int:=
 (ko n a0).bind λr1=>(bif (!r1)then some 0 else(iter (Gm a0) n (0,0)).bind λw1=>some w1)
def wQ(a0:j5)(a1:bZ):J Bool:=
 some (ByteArray.toList a0.name==ByteArray.toList a1.name)
def LM(a0:U j5)(a1:(j5×Unit)->J Bool):Stp Int (Unit⊕Int)
 |v1=>bif decide (v1<a0.length)then(ci a0 v1).bind λx1=>(a1 (x1,())).bind λr1=>(bif r1 then(some v1).map λa=>.inr (.inr a)else some (.inl (i64.wrap (v1+1))))else some (.inr (.inl ()))
def wR(a0:U j5)(a1:(j5×Unit)->J Bool):J Int:=
 fe (iter (LM a0 a1) n 0) λ()=>some (-1)
def oh(a0:U j5)(a1:(j5×Unit)->J Bool):J Bool:=
 (wR n a0 a1).bind λr1=>some (decide (r1>=0))
def gI(a1:j6)(r3:U aF):Stp Int (Unit⊕Bool)
 |v2=>bif decide (v2<(r3.length:Nat))then ck (cR v2 r3.length)<|(ci r3 ((0:Nat)+v2:Int)).bind λx1=>ck (bk (sub ([aj.mk x1.b9 x1.cy x1.b8 x1.cw]:U aj) 0 1).length 1)<|(Lx n a1.area (sub ([aj.mk x1.b9 x1.cy x1.b8 x1.cw]:U aj) 0 1)).bind λr4=>((bif (r4.2 !=0)then some true else(Qj n r4.1).bind λr5=>(Ao (aj.mk x1.b9 x1.cy x1.b8 x1.cw)).bind λr6=>some (decide (r5<r6)))).bind λv3=>(bif v3 then(some false).map λa=>.inr (.inr a)else some (.inl (i64.wrap (v2+1))))else some (.inr (.inl ()))
def lq(a0:dJ)(x2:pu):Stp Int (Unit⊕(Int⊕(Unit⊕Bool)))
 |v5=>bif decide (v5<x2.gives.length)then(ci x2.gives v5).bind λx3=>(oh n a0.caps (λ (y1:j5×Unit)=>wQ y1.1 x3)).bind λr7=>(bif (!r7)then((some false).map λa=>.inr (.inr a)).map λa=>.inr (.inr a)else some (.inl (i64.wrap (v5+1))))else some (.inr (.inl ()))
def lu(a0:dJ)(a2:bL):Stp Int (Unit⊕Bool)
 |v4=>bif decide (v4<a2.phases.length)then(ci a2.phases v4).bind λx2=>fe (iter (lq n a0 x2) n 0) λ()=>some (.inl (i64.wrap (v4+1)))else some (.inr (.inl ()))
def gF(a0:dJ)(a1:j6)(a2:bL):J Bool:=
 ((zm n a2).bind λr1=>(bif (!r1)then some true else bif (a1.id !=a2.lot)then some true else(ko n a1.area).bind λr2=>some (!r2))).bind λv1=>(bif v1 then some false else(xZ n a2).bind λr3=>fe (iter (gI n a1 r3) n 0) λ()=>fe (iter (lu n a0 a2) n 0) λ()=>some true)
def qF(a0:bL):Stp (Int×(List aF)) (List aF)
 |(v1,v2)=>bif decide (v1<a0.phases.length)then(ci a0.phases v1).bind λx1=>ck (bP v2.length v2.length x1.cP.length x1.cP.length 72)<|iU (v2++x1.cP) λr1=>ck (bk r1.length r1.length)<|some (.inl (i64.wrap (v1+1),r1))else ck (bk v2.length v2.length)<|some (.inr v2)
def vI(a0:bL):J (List aF):=
 ck (bk 0 ([]:U aF).length)<|(iter (qF a0) n (0,[])).bind λw1=>ck (bk (sub w1 0 w1.length).length w1.length)<|some (sub w1 0 w1.length)
def Ci(a0:dK)(a1:bL):J (nO×Int):=
 (za n a0.land a1.lot).bind λr1=>(bif (!r1.2)then some (nO.mk ([]) ([]) ([]) ([]) ([]) ([]) ([]) 0 ([]) ([]) ([]) ([]) ([]) 0 0 ([]) ([]) 0 ([]) ([]) ([]),4)else(gF n (dJ.mk a0.cz a0.cm a0.bu a0.aw a0.cH a0.cI a0.cV a0.cJ) r1.1 a1).bind λr2=>(bif (!r2)then some (nO.mk ([]) ([]) ([]) ([]) ([]) ([]) ([]) 0 ([]) ([]) ([]) ([]) ([]) 0 0 ([]) ([]) 0 ([]) ([]) ([]),1)else(vI n a1).bind λr3=>(zQ n (dJ.mk a0.cz a0.cm a0.bu a0.aw a0.cH a0.cI a0.cV a0.cJ) r1.1.area).bind λr4=>ck (bk (sub r3 0 r3.length).length r3.length)<|ck (bk (sub r4 0 r4.length).length r4.length)<|some (nO.mk a0.cz a0.cm a0.bu a0.aw a0.cH a0.cI a0.cV a0.cJ a0.land a0.bz a0.windows a0.built a0.base r1.1.id r1.1.owner r1.1.area r1.1.from_ a1.lot a1.phases (sub r3 0 r3.length) (sub r4 0 r4.length),0)))
def jl(a0 a1:aj):J Int:=
 (cmp_Compare_int a0.y0 a1.y0).bind λr1=>some r1
def mE(a0:aF):J Int:=
 ((bif a0.extra then some true else(gT a0).bind λr1=>some (!r1))).bind λv1=>(bif v1 then some 0 else ck (3 !=0)<|some (i64.wrap (Int.tdiv (i64.wrap ((i64.wrap ((i64.wrap (a0.de-a0.ev))+3))-1)) 3)))
def qm(a0:aF):J Int:=
 (gT a0).bind λr1=>(bif (!r1)then some 0 else(Ao (aj.mk a0.b9 a0.cy a0.b8 a0.cw)).bind λr2=>(mE a0).bind λr3=>some (i64.wrap (r2*r3)))
def pI(a0:aF):J Int:=
 some a0.de
def qy(a0:aF):J Int:=
 some a0.units
def CX(a0:aj)(a1:Int):J (aj×Bool):=
 (qC (aj.mk (i64.wrap (a0.x0-a1)) (i64.wrap (a0.y0-a1)) (i64.wrap (a0.x1+a1)) (i64.wrap (a0.y1+a1)))).bind λr1=>some (aj.mk (i64.wrap (a0.x0-a1)) (i64.wrap (a0.y0-a1)) (i64.wrap (a0.x1+a1)) (i64.wrap (a0.y1+a1)),r1)
def lI(a0:bZ)(a1:Lp)(a2:Int):J Bool:=
 ck (cR a2 6)<|(ci ([a1.a0,a1.a1,a1.a2,a1.a3,a1.a4,a1.a5]:U ByteArray) a2).bind λx1=>some (ByteArray.toList a0.name==ByteArray.toList x1)
def H6(a0:U bZ)(a1:(bZ×Unit)->J Bool):Stp Int (Unit⊕Int)
 |v1=>bif decide (v1<a0.length)then(ci a0 v1).bind λx1=>(a1 (x1,())).bind λr1=>(bif r1 then(some v1).map λa=>.inr (.inr a)else some (.inl (i64.wrap (v1+1))))else some (.inr (.inl ()))
def lJ(a0:U bZ)(a1:(bZ×Unit)->J Bool):J Int:=
 fe (iter (H6 a0 a1) n 0) λ()=>some (-1)
def lK(a0:dJ)(a1:Int):Stp Int (Unit⊕Int)
 |v1=>bif decide (v1<a0.tables.length)then(ci a0.tables v1).bind λx1=>(bif (!(ByteArray.toList x1.name==ByteArray.toList (⟨#[116,114,97,102,102,105,99]⟩)))then some (.inl (i64.wrap (v1+1)))else((lJ n x1.rows (λ (y1:bZ×Unit)=>lI y1.1 (Lp.mk (⟨#[104,111,109,101]⟩) (⟨#[115,104,111,112]⟩) (⟨#[119,111,114,107]⟩) (⟨#[112,97,114,107]⟩) (⟨#[112,108,97,110,116]⟩) (⟨#[104,97,108,108]⟩)) a1)).bind λr1=>(bif decide (r1>=0)then(ci x1.rows r1).bind λx2=>some x2.n else some x1.sY):J Int).bind λv2=>(some (max 0 (min v2 1048576))).map λa=>.inr (.inr a))else some (.inr (.inl ()))
def Cj(a0:dJ)(a1:Int):J Int:=
 fe (iter (lK n a0 a1) n 0) λ()=>some 0
def jZ(a0:dJ)(a1:aF):J Int:=
 (Cj n a0 a1.use).bind λr1=>(qm a1).bind λr2=>((bif decide (r1>0)then ck (r1 !=0)<|some (decide (r2>(i64.wrap (Int.tdiv 109951162777600 r1))))else some false)).bind λv1=>(bif v1 then some 1099511627776 else ck (100 !=0)<|some (i64.wrap (Int.tdiv (i64.wrap ((i64.wrap ((i64.wrap (r1*r2))+100))-1)) 100)))
def om(a0:U iQ)(a1:U dX)(a2:U gm)(a3:U bO)(a4:U j5)(a5:U jd)(a6:U d9)(a7:Int)(a8:U aj)(a9:U aF):J (Int×iL):=
 (Qj n a8).bind λr1=>ck (bk a9.length a9.length)<|some (r1,a0,a1,a2,a3,a4,a5,a6,a7,a8,a9)
def gY(a9:U aF):Stp (Int×(List aj)×(List Int)) ((List aj)×(List Int))
 |(v1,v2,v3)=>bif decide (v1<(a9.length:Nat))then ck (cR v1 a9.length)<|(ci a9 ((0:Nat)+v1:Int)).bind λx1=>ck (cR v1 ((a9.length:Int).toNat))<|(ci v2 ((0:Nat)+v1:Int)).bind λ_=>ck (cR v1 ((a9.length:Int).toNat))<|(ci (v2.set ((0:Nat)+v1:Int).toNat (aj.mk x1.b9 x1.cy x1.b8 x1.cw)) ((0:Nat)+v1:Int)).bind λx3=>ck (cR v1 ((a9.length:Int).toNat))<|(ci (v2.set ((0:Nat)+v1:Int).toNat (aj.mk x1.b9 x1.cy x1.b8 x1.cw)) ((0:Nat)+v1:Int)).bind λx4=>ck (bP v3.length v3.length (sub ([x3.x0,x4.x1]:U Int) 0 2).length 2 8)<|iU (v3++(sub ([x3.x0,x4.x1]:U Int) 0 2)) λr1=>ck (bk r1.length r1.length)<|some (.inl (i64.wrap (v1+1),v2.set ((0:Nat)+v1:Int).toNat (aj.mk x1.b9 x1.cy x1.b8 x1.cw),r1))else ck (bk v3.length v3.length)<|some (.inr (v2,v3))
def gZ(a9:U aF)(w2:U Int)(r2:U aj)(r3:U Int)(v5:Int):Stp (Int×Int×Int) Int
 |(v6,v7,v8)=>bif decide (v8<(((a9.length:Int).toNat:Nat):Int))then(ck (cR v8 ((a9.length:Int).toNat))<|(ci r2 ((0:Nat)+v8:Int)).bind λx5=>(ck (cR v5 w2.length)<|(ci r3 ((0:Nat)+v5:Int)).bind λx6=>(bif decide (x5.x0<=x6)then ck (cR v5 w2.length)<|(ci r3 ((0:Nat)+v5:Int)).bind λx7=>(bif decide (x7<x5.x1)then some (decide (x5.y1>v7))else some false)else some false)).bind λv9=>(bif v9 then ck (cR (i64.wrap (v5+1)) w2.length)<|(ci r3 ((0:Nat)+(i64.wrap (v5+1)):Int)).bind λx8=>ck (cR v5 w2.length)<|(ci r3 ((0:Nat)+v5:Int)).bind λx9=>some (i64.wrap (v6+(i64.wrap ((i64.wrap (x8-x9))*(i64.wrap (x5.y1-(max v7 x5.y0)))))),x5.y1)else some (v6,v7)):J (Int×Int)).bind λ(v10,v11)=>some (.inl (v10,v11,i64.wrap (v8+1)))else some (.inr v6)
def ic(a9:U aF)(w2:U Int)(r2:U aj)(r3:U Int):Stp (Int×Int) Int
 |(v4,v5)=>bif (decide (v5<((max 0 (i64.wrap ((w2.length:Nat)-1))):Int)))then(iter (gZ a9 w2 r2 r3 v5) n (v4,0,0)).bind λw3=>some (.inl (w3,i64.wrap (v5+1)))else some (.inr v4)
def jm(a0:U iQ)(a1:U dX)(a2:U gm)(a3:U bO)(a4:U j5)(a5:U jd)(a6:U d9)(a7:Int)(a8:U aj)(a9:U aF):J (Int×iL):=
 ck (decide ((a9.length:Int)<=(a9.length:Nat))&&(decide (0<=(a9.length:Int))&&Bn (a9.length:Nat) 32))<|ck (bk 0 ([]:U Int).length)<|(iter (gY a9) n (0,List.replicate (a9.length:Int).toNat (aj.mk 0 0 0 0),[])).bind λ(w1,w2)=>ck (bk ((a9.length:Int).toNat) w1.length)<|(rR n w1 (λ (y1:aj×aj×Unit)=>jl y1.1 y1.2.1)).bind λr2=>ck (bk w2.length w2.length)<|(mO n w2).bind λr3=>(iter (ic n a9 w2 r2 r3) n (0,0)).bind λw4=>ck (bk a9.length a9.length)<|some (w4,a0,a1,a2,a3,a4,a5,a6,a7,a8,a9)
def kG(a9:U aF):Stp (Int×Int) Int
 |(v1,v2)=>bif decide (v2<(a9.length:Nat))then ck (cR v2 a9.length)<|(ci a9 ((0:Nat)+v2:Int)).bind λx1=>(qm x1).bind λr1=>some (.inl (i64.wrap (v1+r1),i64.wrap (v2+1)))else some (.inr v1)
def sG(a0:U iQ)(a1:U dX)(a2:U gm)(a3:U bO)(a4:U j5)(a5:U jd)(a6:U d9)(a7:Int)(a8:U aj)(a9:U aF):J (Int×iL):=
 (iter (kG a9) n (0,0)).bind λw1=>ck (bk a9.length a9.length)<|some (w1,a0,a1,a2,a3,a4,a5,a6,a7,a8,a9)
def lX(a0:U iQ)(a1:U dX)(a2:U gm)(a3:U bO)(a4:U j5)(a5:U jd)(a6:U d9)(a7:Int)(a8:U aj)(a9:U aF):J (Int×iL):=
 ck (bk a9.length a9.length)<|(sG n a0 a1 a2 a3 a4 a5 a6 a7 a8 a9).bind λr1=>ck (bk r1.2.2.2.2.2.2.2.2.2.2.length r1.2.2.2.2.2.2.2.2.2.2.length)<|some (r1.1,r1.2.1,r1.2.2.1,r1.2.2.2.1,r1.2.2.2.2.1,r1.2.2.2.2.2.1,r1.2.2.2.2.2.2.1,r1.2.2.2.2.2.2.2.1,r1.2.2.2.2.2.2.2.2.1,r1.2.2.2.2.2.2.2.2.2.1,r1.2.2.2.2.2.2.2.2.2.2)
def iM(a9:U aF):Stp (Int×Int) Int
 |(v1,v2)=>bif decide (v2<(a9.length:Nat))then ck (cR v2 a9.length)<|(ci a9 ((0:Nat)+v2:Int)).bind λx1=>(mE x1).bind λr1=>some (.inl (max v1 r1,i64.wrap (v2+1)))else some (.inr v1)
def nQ(a0:U iQ)(a1:U dX)(a2:U gm)(a3:U bO)(a4:U j5)(a5:U jd)(a6:U d9)(a7:Int)(a8:U aj)(a9:U aF):J (Int×iL):=
 (iter (iM a9) n (0,0)).bind λw1=>ck (bk a9.length a9.length)<|some (w1,a0,a1,a2,a3,a4,a5,a6,a7,a8,a9)
def kH(a0:U iQ)(a1:U dX)(a2:U gm)(a3:U bO)(a4:U j5)(a5:U jd)(a6:U d9)(a7:Int)(a8:U aj)(a9:U aF):J (Int×iL):=
 ck (bk a9.length a9.length)<|(nQ n a0 a1 a2 a3 a4 a5 a6 a7 a8 a9).bind λr1=>ck (bk r1.2.2.2.2.2.2.2.2.2.2.length r1.2.2.2.2.2.2.2.2.2.2.length)<|some (r1.1,r1.2.1,r1.2.2.1,r1.2.2.2.1,r1.2.2.2.2.1,r1.2.2.2.2.2.1,r1.2.2.2.2.2.2.1,r1.2.2.2.2.2.2.2.1,r1.2.2.2.2.2.2.2.2.1,r1.2.2.2.2.2.2.2.2.2.1,r1.2.2.2.2.2.2.2.2.2.2)
def iO(a9:U aF):Stp (Int×Int) Int
 |(v1,v2)=>bif decide (v2<(a9.length:Nat))then ck (cR v2 a9.length)<|(ci a9 ((0:Nat)+v2:Int)).bind λx1=>(pI x1).bind λr1=>some (.inl (max v1 r1,i64.wrap (v2+1)))else some (.inr v1)
def nR(a0:U iQ)(a1:U dX)(a2:U gm)(a3:U bO)(a4:U j5)(a5:U jd)(a6:U d9)(a7:Int)(a8:U aj)(a9:U aF):J (Int×iL):=
 (iter (iO a9) n (0,0)).bind λw1=>ck (bk a9.length a9.length)<|some (w1,a0,a1,a2,a3,a4,a5,a6,a7,a8,a9)
def kI(a0:U iQ)(a1:U dX)(a2:U gm)(a3:U bO)(a4:U j5)(a5:U jd)(a6:U d9)(a7:Int)(a8:U aj)(a9:U aF):J (Int×iL):=
 ck (bk a9.length a9.length)<|(nR n a0 a1 a2 a3 a4 a5 a6 a7 a8 a9).bind λr1=>ck (bk r1.2.2.2.2.2.2.2.2.2.2.length r1.2.2.2.2.2.2.2.2.2.2.length)<|some (r1.1,r1.2.1,r1.2.2.1,r1.2.2.2.1,r1.2.2.2.2.1,r1.2.2.2.2.2.1,r1.2.2.2.2.2.2.1,r1.2.2.2.2.2.2.2.1,r1.2.2.2.2.2.2.2.2.1,r1.2.2.2.2.2.2.2.2.2.1,r1.2.2.2.2.2.2.2.2.2.2)
def kJ(a9:U aF):Stp (Int×Int) Int
 |(v1,v2)=>bif decide (v2<(a9.length:Nat))then ck (cR v2 a9.length)<|(ci a9 ((0:Nat)+v2:Int)).bind λx1=>(qy x1).bind λr1=>some (.inl (i64.wrap (v1+r1),i64.wrap (v2+1)))else some (.inr v1)
def sH(a0:U iQ)(a1:U dX)(a2:U gm)(a3:U bO)(a4:U j5)(a5:U jd)(a6:U d9)(a7:Int)(a8:U aj)(a9:U aF):J (Int×iL):=
 (iter (kJ a9) n (0,0)).bind λw1=>ck (bk a9.length a9.length)<|some (w1,a0,a1,a2,a3,a4,a5,a6,a7,a8,a9)
def lY(a0:U iQ)(a1:U dX)(a2:U gm)(a3:U bO)(a4:U j5)(a5:U jd)(a6:U d9)(a7:Int)(a8:U aj)(a9:U aF):J (Int×iL):=
 ck (bk a9.length a9.length)<|(sH n a0 a1 a2 a3 a4 a5 a6 a7 a8 a9).bind λr1=>ck (bk r1.2.2.2.2.2.2.2.2.2.2.length r1.2.2.2.2.2.2.2.2.2.2.length)<|some (r1.1,r1.2.1,r1.2.2.1,r1.2.2.2.1,r1.2.2.2.2.1,r1.2.2.2.2.2.1,r1.2.2.2.2.2.2.1,r1.2.2.2.2.2.2.2.1,r1.2.2.2.2.2.2.2.2.1,r1.2.2.2.2.2.2.2.2.2.1,r1.2.2.2.2.2.2.2.2.2.2)
def ji(ky:U aj)(r1:aj×Bool):Stp (Int×Int) Int
 |(v1,v2)=>bif decide (v2<ky.length)then((ci ky v2).bind λx1=>(uD r1.1 x1).bind λr2=>(bif r2.2 then(Ao r2.1).bind λr3=>some (i64.wrap (v1+r3))else some v1):J Int).bind λv3=>some (.inl (v3,i64.wrap (v2+1)))else some (.inr v1)
def kK(a0:aj)(a1:Int)(a2:U iQ)(a3:U dX)(a4:U gm)(a5:U bO)(a6:U j5)(a7:U jd)(a8:U d9)(a9:Int)(ky:U aj)(tA:U aF):J (Bool×iL):=
 (CX a0 a1).bind λr1=>(bif (!r1.2)then ck (bk tA.length tA.length)<|some (false,a2,a3,a4,a5,a6,a7,a8,a9,ky,tA)else(iter (ji ky r1) n (0,0)).bind λw1=>(Ao r1.1).bind λr4=>ck (bk tA.length tA.length)<|some (w1==r4,a2,a3,a4,a5,a6,a7,a8,a9,ky,tA))
def fA(x1:aF):Stp (Int×Int×iL) (Int×iL)
 |(v13,v14,v15,v16,v17,v18,v19,v20,v21,v22,v23,v24)=>bif decide (v13<v14)then ck (2 !=0)<|ck (bk v24.length v24.length)<|(kK n (aj.mk x1.b9 x1.cy x1.b8 x1.cw) (i64.wrap (Int.tdiv (i64.wrap ((i64.wrap (v13+v14))+1)) 2)) v15 v16 v17 v18 v19 v20 v21 v22 v23 v24).bind λr1=>(bif r1.1 then ck (bk r1.2.2.2.2.2.2.2.2.2.2.length r1.2.2.2.2.2.2.2.2.2.2.length)<|some (.inl (i64.wrap (Int.tdiv (i64.wrap ((i64.wrap (v13+v14))+1)) 2),v14,r1.2.1,r1.2.2.1,r1.2.2.2.1,r1.2.2.2.2.1,r1.2.2.2.2.2.1,r1.2.2.2.2.2.2.1,r1.2.2.2.2.2.2.2.1,r1.2.2.2.2.2.2.2.2.1,r1.2.2.2.2.2.2.2.2.2.1,r1.2.2.2.2.2.2.2.2.2.2))else ck (bk r1.2.2.2.2.2.2.2.2.2.2.length r1.2.2.2.2.2.2.2.2.2.2.length)<|some (.inl (v13,i64.wrap ((i64.wrap (Int.tdiv (i64.wrap ((i64.wrap (v13+v14))+1)) 2))-1),r1.2.1,r1.2.2.1,r1.2.2.2.1,r1.2.2.2.2.1,r1.2.2.2.2.2.1,r1.2.2.2.2.2.2.1,r1.2.2.2.2.2.2.2.1,r1.2.2.2.2.2.2.2.2.1,r1.2.2.2.2.2.2.2.2.2.1,r1.2.2.2.2.2.2.2.2.2.2)))else ck (bk v24.length v24.length)<|some (.inr (v13,v15,v16,v17,v18,v19,v20,v21,v22,v23,v24))
def iW(a9:U aF):Stp (Int×Int×iL) (Int×iL)
 |(v1,v2,v3,v4,v5,v6,v7,v8,v9,v10,v11,v12)=>bif decide (v2<(a9.length:Nat))then ck (cR v2 a9.length)<|(ci v12 ((0:Nat)+v2:Int)).bind λx1=>ck (bk v12.length v12.length)<|(iter (fA n x1) n (0,v1,v3,v4,v5,v6,v7,v8,v9,v10,v11,v12)).bind λ(w1,w2,w3,w4,w5,w6,w7,w8,w9,B9,B8)=>ck (bk B8.length B8.length)<|some (.inl (w1,i64.wrap (v2+1),w2,w3,w4,w5,w6,w7,w8,w9,B9,B8))else ck (bk v12.length v12.length)<|some (.inr (v1,v3,v4,v5,v6,v7,v8,v9,v10,v11,v12))
def jT(a0:U iQ)(a1:U dX)(a2:U gm)(a3:U bO)(a4:U j5)(a5:U jd)(a6:U d9)(a7:Int)(a8:U aj)(a9:U aF):J (Int×iL):=
 ck (bk a9.length a9.length)<|(iter (iW n a9) n (1048576,0,a0,a1,a2,a3,a4,a5,a6,a7,a8,a9)).bind λ(w12,w13,w14,w15,w16,w17,w18,w19,w20,w21,SM)=>ck (bk SM.length SM.length)<|some (w12,w13,w14,w15,w16,w17,w18,w19,w20,w21,SM)
def lM(a0:aF)(a1:U iQ)(a2:U dX)(a3:U gm)(a4:U bO)(a5:U j5)(a6:U jd)(a7:U d9)(a8:Int)(a9:U aj)(ky:U aF):J (Int×iL):=
 (jZ n (dJ.mk a1 a2 a3 a4 a5 a6 a7 a8) a0).bind λr1=>ck (bk ky.length ky.length)<|some (r1,a1,a2,a3,a4,a5,a6,a7,a8,a9,ky)
def kL(a9:U aF):Stp (Int×Int×iL) (Int×iL)
 |(v1,v2,v3,v4,v5,v6,v7,v8,v9,v10,v11,v12)=>bif decide (v2<(a9.length:Nat))then ck (cR v2 a9.length)<|(ci v12 ((0:Nat)+v2:Int)).bind λx1=>ck (bk v12.length v12.length)<|(lM n x1 v3 v4 v5 v6 v7 v8 v9 v10 v11 v12).bind λr1=>ck (bk r1.2.2.2.2.2.2.2.2.2.2.length r1.2.2.2.2.2.2.2.2.2.2.length)<|some (.inl (i64.wrap (v1+r1.1),i64.wrap (v2+1),r1.2.1,r1.2.2.1,r1.2.2.2.1,r1.2.2.2.2.1,r1.2.2.2.2.2.1,r1.2.2.2.2.2.2.1,r1.2.2.2.2.2.2.2.1,r1.2.2.2.2.2.2.2.2.1,r1.2.2.2.2.2.2.2.2.2.1,r1.2.2.2.2.2.2.2.2.2.2))else ck (bk v12.length v12.length)<|some (.inr (v1,v3,v4,v5,v6,v7,v8,v9,v10,v11,v12))
def sI(a0:U iQ)(a1:U dX)(a2:U gm)(a3:U bO)(a4:U j5)(a5:U jd)(a6:U d9)(a7:Int)(a8:U aj)(a9:U aF):J (Int×iL):=
 ck (bk a9.length a9.length)<|(iter (kL n a9) n (0,0,a0,a1,a2,a3,a4,a5,a6,a7,a8,a9)).bind λ(w1,w2,w3,w4,w5,w6,w7,w8,w9,B9,B8)=>ck (bk B8.length B8.length)<|some (w1,w2,w3,w4,w5,w6,w7,w8,w9,B9,B8)
def jU(a0:U iQ)(a1:U dX)(a2:U gm)(a3:U bO)(a4:U j5)(a5:U jd)(a6:U d9)(a7:Int)(a8:U aj)(a9:U aF):J (Int×iL):=
 ck (bk a9.length a9.length)<|(sI n a0 a1 a2 a3 a4 a5 a6 a7 a8 a9).bind λr1=>ck (bk r1.2.2.2.2.2.2.2.2.2.2.length r1.2.2.2.2.2.2.2.2.2.2.length)<|some (r1.1,r1.2.1,r1.2.2.1,r1.2.2.2.1,r1.2.2.2.2.1,r1.2.2.2.2.2.1,r1.2.2.2.2.2.2.1,r1.2.2.2.2.2.2.2.1,r1.2.2.2.2.2.2.2.2.1,r1.2.2.2.2.2.2.2.2.2.1,r1.2.2.2.2.2.2.2.2.2.2)
def sV(r2:U aF):Stp (Int×iL) (iL)
 |(v10,v11,v12,v13,v14,v15,v16,v17,v18,v19,v20)=>bif decide (v10<(r2.length:Nat))then(ck (cR v10 r2.length)<|(ci r2 ((0:Nat)+v10:Int)).bind λx1=>((bif decide (v10<40)then(gT x1).bind λr3=>some r3 else some false)).bind λv21=>(bif v21 then ck (bP v20.length v20.length (sub ([x1]:U aF) 0 1).length 1 72)<|iU (v20++(sub ([x1]:U aF) 0 1)) λr4=>ck (bk r4.length r4.length)<|some (v11,v12,v13,v14,v15,v16,v17,v18,v19,r4)else ck (bk v20.length v20.length)<|some (v11,v12,v13,v14,v15,v16,v17,v18,v19,v20)):J (iL)).bind λ(v22,v23,v24,v25,v26,v27,v28,v29,v30,v31)=>ck (bk v31.length v31.length)<|some (.inl (i64.wrap (v10+1),v22,v23,v24,v25,v26,v27,v28,v29,v30,v31))else ck (bk v20.length v20.length)<|some (.inr (v11,v12,v13,v14,v15,v16,v17,v18,v19,v20))
def nS(a0:dJ)(a1:j6)(a2:bL):J (List bZ):=
 ((ko n a1.area).bind λr1=>(bif r1 then some (a0.defs,a0.tables,a0.zones,a0.rules,a0.caps,a0.views,a0.tf,a0.hours,a1.area)else some (a0.defs,a0.tables,a0.zones,a0.rules,a0.caps,a0.views,a0.tf,a0.hours,[])):J ((List iQ)×(List dX)×(List gm)×(List bO)×(List j5)×(List jd)×(List d9)×Int×(List aj))).bind λ(v1,v2,v3,v4,v5,v6,v7,v8,v9)=>(qa n a2 0 a2.phases.length).bind λr2=>ck (bk 0 ([]:U aF).length)<|(iter (sV r2) n (0,v1,v2,v3,v4,v5,v6,v7,v8,v9,[])).bind λ(w1,w2,w3,w4,w5,w6,w7,w8,w9,B9)=>ck (bk B9.length B9.length)<|(om n w1 w2 w3 w4 w5 w6 w7 w8 w9 B9).bind λr5=>ck (bP 0 0 (sub ([bZ.mk (⟨#[97,114,101,97]⟩) r5.1]:U bZ) 0 1).length 1 24)<|iU ((sub ([bZ.mk (⟨#[97,114,101,97]⟩) r5.1]:U bZ) 0 1)) λr6=>ck (bk r5.2.2.2.2.2.2.2.2.2.2.length r5.2.2.2.2.2.2.2.2.2.2.length)<|(jm n r5.2.1 r5.2.2.1 r5.2.2.2.1 r5.2.2.2.2.1 r5.2.2.2.2.2.1 r5.2.2.2.2.2.2.1 r5.2.2.2.2.2.2.2.1 r5.2.2.2.2.2.2.2.2.1 r5.2.2.2.2.2.2.2.2.2.1 r5.2.2.2.2.2.2.2.2.2.2).bind λr7=>ck (bP r6.length r6.length (sub ([bZ.mk (⟨#[99,111,118,101,114]⟩) r7.1]:U bZ) 0 1).length 1 24)<|iU (r6++(sub ([bZ.mk (⟨#[99,111,118,101,114]⟩) r7.1]:U bZ) 0 1)) λr8=>ck (bk r7.2.2.2.2.2.2.2.2.2.2.length r7.2.2.2.2.2.2.2.2.2.2.length)<|(lX n r7.2.1 r7.2.2.1 r7.2.2.2.1 r7.2.2.2.2.1 r7.2.2.2.2.2.1 r7.2.2.2.2.2.2.1 r7.2.2.2.2.2.2.2.1 r7.2.2.2.2.2.2.2.2.1 r7.2.2.2.2.2.2.2.2.2.1 r7.2.2.2.2.2.2.2.2.2.2).bind λr9=>ck (bP r8.length r8.length (sub ([bZ.mk (⟨#[102,108,111,111,114]⟩) r9.1]:U bZ) 0 1).length 1 24)<|iU (r8++(sub ([bZ.mk (⟨#[102,108,111,111,114]⟩) r9.1]:U bZ) 0 1)) λxp=>ck (bk r9.2.2.2.2.2.2.2.2.2.2.length r9.2.2.2.2.2.2.2.2.2.2.length)<|(kH n r9.2.1 r9.2.2.1 r9.2.2.2.1 r9.2.2.2.2.1 r9.2.2.2.2.2.1 r9.2.2.2.2.2.2.1 r9.2.2.2.2.2.2.2.1 r9.2.2.2.2.2.2.2.2.1 r9.2.2.2.2.2.2.2.2.2.1 r9.2.2.2.2.2.2.2.2.2.2).bind λtW=>ck (bP xp.length xp.length (sub ([bZ.mk (⟨#[102,108,111,111,114,115]⟩) tW.1]:U bZ) 0 1).length 1 24)<|iU (xp++(sub ([bZ.mk (⟨#[102,108,111,111,114,115]⟩) tW.1]:U bZ) 0 1)) λS5=>ck (bk tW.2.2.2.2.2.2.2.2.2.2.length tW.2.2.2.2.2.2.2.2.2.2.length)<|(kI n tW.2.1 tW.2.2.1 tW.2.2.2.1 tW.2.2.2.2.1 tW.2.2.2.2.2.1 tW.2.2.2.2.2.2.1 tW.2.2.2.2.2.2.2.1 tW.2.2.2.2.2.2.2.2.1 tW.2.2.2.2.2.2.2.2.2.1 tW.2.2.2.2.2.2.2.2.2.2).bind λtU=>ck (bP S5.length S5.length (sub ([bZ.mk (⟨#[104,101,105,103,104,116]⟩) tU.1]:U bZ) 0 1).length 1 24)<|iU (S5++(sub ([bZ.mk (⟨#[104,101,105,103,104,116]⟩) tU.1]:U bZ) 0 1)) λS4=>ck (bk tU.2.2.2.2.2.2.2.2.2.2.length tU.2.2.2.2.2.2.2.2.2.2.length)<|(lY n tU.2.1 tU.2.2.1 tU.2.2.2.1 tU.2.2.2.2.1 tU.2.2.2.2.2.1 tU.2.2.2.2.2.2.1 tU.2.2.2.2.2.2.2.1 tU.2.2.2.2.2.2.2.2.1 tU.2.2.2.2.2.2.2.2.2.1 tU.2.2.2.2.2.2.2.2.2.2).bind λtR=>ck (bP S4.length S4.length (sub ([bZ.mk (⟨#[104,111,109,101,115]⟩) tR.1]:U bZ) 0 1).length 1 24)<|iU (S4++(sub ([bZ.mk (⟨#[104,111,109,101,115]⟩) tR.1]:U bZ) 0 1)) λr16=>ck (bk tR.2.2.2.2.2.2.2.2.2.2.length tR.2.2.2.2.2.2.2.2.2.2.length)<|(jm n tR.2.1 tR.2.2.1 tR.2.2.2.1 tR.2.2.2.2.1 tR.2.2.2.2.2.1 tR.2.2.2.2.2.2.1 tR.2.2.2.2.2.2.2.1 tR.2.2.2.2.2.2.2.2.1 tR.2.2.2.2.2.2.2.2.2.1 tR.2.2.2.2.2.2.2.2.2.2).bind λtP=>ck (bP r16.length r16.length (sub ([bZ.mk (⟨#[114,117,110,111,102,102]⟩) tP.1]:U bZ) 0 1).length 1 24)<|iU (r16++(sub ([bZ.mk (⟨#[114,117,110,111,102,102]⟩) tP.1]:U bZ) 0 1)) λS3=>ck (bk tP.2.2.2.2.2.2.2.2.2.2.length tP.2.2.2.2.2.2.2.2.2.2.length)<|(jT n tP.2.1 tP.2.2.1 tP.2.2.2.1 tP.2.2.2.2.1 tP.2.2.2.2.2.1 tP.2.2.2.2.2.2.1 tP.2.2.2.2.2.2.2.1 tP.2.2.2.2.2.2.2.2.1 tP.2.2.2.2.2.2.2.2.2.1 tP.2.2.2.2.2.2.2.2.2.2).bind λtM=>ck (bP S3.length S3.length (sub ([bZ.mk (⟨#[115,101,116,98,97,99,107]⟩) tM.1]:U bZ) 0 1).length 1 24)<|iU (S3++(sub ([bZ.mk (⟨#[115,101,116,98,97,99,107]⟩) tM.1]:U bZ) 0 1)) λS0=>ck (bk tM.2.2.2.2.2.2.2.2.2.2.length tM.2.2.2.2.2.2.2.2.2.2.length)<|(jU n tM.2.1 tM.2.2.1 tM.2.2.2.1 tM.2.2.2.2.1 tM.2.2.2.2.2.1 tM.2.2.2.2.2.2.1 tM.2.2.2.2.2.2.2.1 tM.2.2.2.2.2.2.2.2.1 tM.2.2.2.2.2.2.2.2.2.1 tM.2.2.2.2.2.2.2.2.2.2).bind λr21=>ck (bP S0.length S0.length (sub ([bZ.mk (⟨#[116,114,97,102,102,105,99]⟩) r21.1]:U bZ) 0 1).length 1 24)<|iU (S0++(sub ([bZ.mk (⟨#[116,114,97,102,102,105,99]⟩) r21.1]:U bZ) 0 1)) λH3=>ck (bk (sub H3 0 H3.length).length H3.length)<|some (sub H3 0 H3.length)
def Au(a0:Int):J (Int×Bool):=
 ((bif (a0==0)then some (a0==0)else bif (a0==1)then some (a0==1)else bif (a0==2)then some (a0==2)else some (a0==3))).bind λv1=>(bif v1 then some (0,true)else((bif (a0==9)then some (a0==9)else some (a0==15))).bind λv2=>(bif v2 then some (1,true)else bif (a0==16)then some (3,true)else bif decide (a0>=0)then some (2,decide (a0<17))else some (2,false)))
def zq(_:Nat)(rc:(dD)->(Int)->J Int)(a0:dD)(a1:Int):Stp (Int×Int) Int
 |(v2,v3)=>bif decide (v3<a0.args.length)then(ci a0.args v3).bind λx1=>(rc (dD.mk x1.op x1.n x1.s x1.key x1.args) (i64.wrap (a1+1))).bind λr2=>some (.inl (max v2 r2,i64.wrap (v3+1)))else some (.inr v2)
def Ck(rc:(dD)->(Int)->J Int)(a0:dD)(a1:Int):J Int:=
 (Au a0.op).bind λr1=>((bif (!r1.2)then some true else bif (r1.1 !=a0.args.length)then some true else some (decide (a1>=12)))).bind λv1=>(bif v1 then some 13 else(iter (zq n rc a0 a1) n (0,0)).bind λw1=>some (i64.wrap (w1+1)))
def Gn(rc:(dD)->(Int)->J Int):ct xx:=⟨[.d (.st SI.Expr),.d (.int .i64)],[.d (.int .i64)],λa=>rc a.1 a.2.1,none⟩
def uE(n:Nat):Nat->(dD)->(Int)->J Int
 | 0=>λ_ _=>none
 |m+1=>Ck n (uE n m)
def Sy(a0:dD)(a1:Int):J Int:=uE n n a0 a1
def EG(a0:dD):J Bool:=
 (Sy n (dD.mk a0.op a0.n a0.s a0.key a0.args) 0).bind λr1=>some (decide (r1<=12))
def yJ:J (List ByteArray):=
 ck (bk (sub ([⟨#[97,114,101,97]⟩,⟨#[99,111,118,101,114]⟩,⟨#[102,108,111,111,114]⟩,⟨#[102,108,111,111,114,115]⟩,⟨#[104,101,105,103,104,116]⟩,⟨#[104,111,109,101,115]⟩,⟨#[114,117,110,111,102,102]⟩,⟨#[115,101,116,98,97,99,107]⟩,⟨#[116,114,97,102,102,105,99]⟩]:U ByteArray) 0 9).length 9)<|some (sub ([⟨#[97,114,101,97]⟩,⟨#[99,111,118,101,114]⟩,⟨#[102,108,111,111,114]⟩,⟨#[102,108,111,111,114,115]⟩,⟨#[104,101,105,103,104,116]⟩,⟨#[104,111,109,101,115]⟩,⟨#[114,117,110,111,102,102]⟩,⟨#[115,101,116,98,97,99,107]⟩,⟨#[116,114,97,102,102,105,99]⟩]:U ByteArray) 0 9)
mutual
def toE:dD->ET
 |⟨op,_,s,_,args⟩=>.mk op s (JX args)
def JX:List dD->List ET
 |[]=>[]
 |x::xs=>toE x::JX xs
end
def toD(d:iQ):ByteArray×ET:=(d.name,.mk d.lr d.m7 (JX d.gh))
def mF(a0:U iQ):J ((List iQ)×(List (List Int))):=ck (Nat.ble (sk (a0.map toD)) 4000000)<|some (a0,qx (a0.map toD))
def sW(a0:U Int)(a1:Int):J (List Int):=match a0 with
 |[x]=>ck (decide (0<=a1)&&decide (a1<=1000000000000))<|some (List.replicate a1.toNat x)
 |_=>none
def VH(a0:U Int)(a1:Int):Stp Int (Unit⊕Int)
 |v1=>bif decide (v1<a0.length)then(ci a0 v1).bind λx1=>(bif (a1==x1)then(some v1).map λa=>.inr (.inr a)else some (.inl (i64.wrap (v1+1))))else some (.inr (.inl ()))
def Gp(a0:U Int)(a1:Int):J Int:=
 fe (iter (VH a0 a1) n 0) λ()=>some (-1)
def tV(a0:U Int)(a1:Int):J Bool:=
 (Gp n a0 a1).bind λr1=>some (decide (r1>=0))
def gM(a0:qO)(r1:U Int)(x2:Int):Stp (Int×Int×(List Int)×(List Int)) (Int×(List Int)×(List Int))
 |(v4,v5,v6,v7)=>bif decide (v5<a0.uses.length)then((ci a0.uses v5).bind λx3=>(ck (cR v5 r1.length)<|(ci v6 ((0:Nat)+v5:Int)).bind λx4=>(bif decide (x4<0)then(tV n x3 x2).bind λr2=>some r2 else some false)).bind λv8=>(bif v8 then ck (cR x2 r1.length)<|(ci v6 ((0:Nat)+x2:Int)).bind λx5=>ck (cR v5 r1.length)<|(ci v6 ((0:Nat)+v5:Int)).bind λ_=>ck (bP (Yd (v4.toNat) v7).length (v7.length-v4.toNat) (sub ([v5]:U Int) 0 1).length 1 8)<|iU ((Yd (v4.toNat) v7)++(sub ([v5]:U Int) 0 1)) λr3=>ck (bk (0+r3.length) r3.length)<|some ((0:Nat),v6.set ((0:Nat)+v5:Int).toNat (i64.wrap (x5+1)),r3)else ck (bk ((v4.toNat)+(v7.length-v4.toNat)) v7.length)<|some ((v4.toNat:Nat),v6,v7)):J (Int×(List Int)×(List Int))).bind λ(v9,v10,v11)=>ck (bk ((v9.toNat)+(v11.length-v9.toNat)) v11.length)<|some (.inl ((v9.toNat:Nat),i64.wrap (v5+1),v10,v11))else ck (bk ((v4.toNat)+(v7.length-v4.toNat)) v7.length)<|some (.inr ((v4.toNat:Nat),v6,v7))
def eT(a0:qO)(r1:U Int):Stp (Int×(List Int)×(List Int)) (List Int)
 |(v1,v2,v3)=>bif (decide ((((v3.length-(v1:Int).toNat):Nat):Int)>0))then ck (cR 0 (v3.length-v1.toNat))<|(ci v3 ((v1.toNat:Nat)+0:Int)).bind λx2=>ck (z8 1 ((v3.length-v1.toNat):Nat) (v3.length-v1.toNat))<|ck (bk ((v1.toNat+1)+((v3.length-v1.toNat)-1)) v3.length)<|(iter (gM n a0 r1 x2) n (((v1.toNat+1):Nat),0,v2,v3)).bind λ(w1,w2,w3)=>ck (bk ((w1.toNat)+(w3.length-w1.toNat)) w3.length)<|some (.inl ((w1.toNat:Nat),w2,w3))else some (.inr v2)
def kM(a0:qO)(a1:Int):J (List Int):=
 ck (bk (sub ([(-1)]:U Int) 0 1).length 1)<|(sW (sub ([(-1)]:U Int) 0 1) a0.defs.length).bind λr1=>ck (cR a1 r1.length)<|(ci r1 ((0:Nat)+a1:Int)).bind λ_=>ck (bk (0+1) ([a1]:U Int).length)<|(iter (eT n a0 r1) n ((0:Nat),r1.set ((0:Nat)+a1:Int).toNat 0,([a1]:U Int))).bind λw4=>ck (bk (sub w4 0 r1.length).length r1.length)<|some (sub w4 0 r1.length)
def cmp_isNaN_string(a0:ByteArray):J Bool:=
 some (!(ByteArray.toList a0==ByteArray.toList a0))
def pJ(a0 a1:ByteArray):J Int:=
 (cmp_isNaN_string a0).bind λr1=>(cmp_isNaN_string a1).bind λr2=>(bif r1 then(bif r2 then some 0 else some (-1))else bif r2 then some 1 else bif (X9 a0 a1)then some (-1)else bif (!(X9 a0 a1 || ByteArray.toList a0==ByteArray.toList a1))then some 1 else some 0)
def ni(a0 a1:U ByteArray):Stp Int (Unit⊕Int)
 |v1=>bif decide (v1<a0.length)then(ci a0 v1).bind λx1=>(bif decide (v1>=a1.length)then(some 1).map λa=>.inr (.inr a)else(ci a1 v1).bind λx2=>(pJ x1 x2).bind λr1=>(bif (r1 !=0)then(some r1).map λa=>.inr (.inr a)else some (.inl (i64.wrap (v1+1)))))else some (.inr (.inl ()))
def nk(a0 a1:U ByteArray):J Int:=
 fe (iter (ni a0 a1) n 0) λ()=>(bif decide (a0.length<(a1.length:Int))then some (-1)else some 0)
def nT(a0:Int)(a1:U Bool):J (Bool×(List Bool)):=
 ck (cR a0 a1.length)<|(ci a1 ((0:Nat)+a0:Int)).bind λx1=>ck (bk a1.length a1.length)<|some ((!x1),a1)
def kN(a0:U Int):Stp (Int×(List Bool)) ((List Bool)⊕(Int×(List Bool)))
 |(v1,v2)=>bif decide (v1<a0.length)then(ci a0 v1).bind λx1=>ck (bk v2.length v2.length)<|(nT x1 v2).bind λr1=>(bif r1.1 then(ck (bk r1.2.length r1.2.length)<|some (v1,r1.2)).map λa=>.inr (.inr a)else ck (bk r1.2.length r1.2.length)<|some (.inl (i64.wrap (v1+1),r1.2)))else ck (bk v2.length v2.length)<|some (.inr (.inl v2))
def oo(a0:U Int)(a1:U Bool):J (Int×(List Bool)):=
 ck (bk a1.length a1.length)<|fe (iter (kN a0) n (0,a1)) λw1=>ck (bk w1.length w1.length)<|some ((-1),w1)
def iX(a0:U Int)(a1:U Bool):J (Bool×(List Bool)):=
 ck (bk a1.length a1.length)<|(oo n a0 a1).bind λr1=>ck (bk r1.2.length r1.2.length)<|some (decide (r1.1>=0),r1.2)
def jo(a0:qO):Stp (Int×Int×(List Bool)) (Int×(List Bool))
 |(v4,v5,v6)=>bif decide (v5<a0.uses.length)then((ci a0.uses v5).bind λx1=>ck (bk v6.length v6.length)<|(iX n x1 v6).bind λr1=>(ck (cR v5 r1.2.length)<|(ci r1.2 ((0:Nat)+v5:Int)).bind λx2=>(bif (!x2)then(bif (!r1.1)then(bif decide (v4<0)then some true else(ci a0.defs v5).bind λx3=>(ci a0.defs v4).bind λx4=>some (X9 x3.name x4.name))else some false)else some false)).bind λv7=>(bif v7 then ck (bk r1.2.length r1.2.length)<|some (v5,r1.2)else ck (bk r1.2.length r1.2.length)<|some (v4,r1.2)):J (Int×(List Bool))).bind λ(v8,v9)=>ck (bk v9.length v9.length)<|some (.inl (v8,i64.wrap (v5+1),v9))else ck (bk v6.length v6.length)<|some (.inr (v4,v6))
def lZ(a0:qO):Stp (Int×(List Int)×(List Bool)) (List Int)
 |(v1,v2,v3)=>bif decide (v1<a0.defs.length)then ck (bk v3.length v3.length)<|(iter (jo n a0) n ((-1),0,v3)).bind λ(w1,w2)=>ck (cR w1 w2.length)<|(ci w2 ((0:Nat)+w1:Int)).bind λ_=>ck (bP v2.length v2.length (sub ([w1]:U Int) 0 1).length 1 8)<|iU (v2++(sub ([w1]:U Int) 0 1)) λr2=>ck (bk r2.length r2.length)<|ck (bk w2.length (w2.set ((0:Nat)+w1:Int).toNat true).length)<|some (.inl (i64.wrap (v1+1),r2,w2.set ((0:Nat)+w1:Int).toNat true))else ck (bk v2.length v2.length)<|some (.inr v2)
def pK(a0:qO):J (List Int):=
 ck (decide ((a0.defs.length:Int)<=a0.defs.length)&&(decide (0<=(a0.defs.length:Int))&&Bn a0.defs.length 1))<|ck (bk 0 ([]:U Int).length)<|ck (bk ((a0.defs.length:Int).toNat) (List.replicate (a0.defs.length:Int).toNat false).length)<|(iter (lZ n a0) n (0,[],List.replicate (a0.defs.length:Int).toNat false)).bind λw3=>ck (bk (sub w3 0 w3.length).length w3.length)<|some (sub w3 0 w3.length)
def jk(r1 x2:U Int):Stp (Int×Int) Int
 |(v3,v4)=>bif decide (v4<x2.length)then((ci x2 v4).bind λx3=>(ck (cR x3 r1.length)<|(ci r1 ((0:Nat)+x3:Int)).bind λx4=>(bif decide (x4>=0)then(bif decide (v3<0)then some true else ck (cR x3 r1.length)<|(ci r1 ((0:Nat)+x3:Int)).bind λx5=>ck (cR v3 r1.length)<|(ci r1 ((0:Nat)+v3:Int)).bind λx6=>some (decide (x5<x6)))else some false)).bind λv5=>(bif v5 then some x3 else some v3):J Int).bind λv6=>some (.inl (v6,i64.wrap (v4+1)))else some (.inr v3)
def l7(a0:Int)(a1:U iQ)(a2:U (List Int))(r1:U Int):Stp (Int×(List ByteArray)) (Unit⊕((List iQ)×(List (List Int))×(List ByteArray)))
 |(v1,v2)=>(ci a1 v1).bind λx1=>ck (bP v2.length v2.length (sub ([x1.name]:U ByteArray) 0 1).length 1 16)<|iU (v2++(sub ([x1.name]:U ByteArray) 0 1)) λr2=>(ci a2 v1).bind λx2=>(iter (jk r1 x2) n ((-1),0)).bind λw1=>(bif decide (w1<0)then(ck (bk 0 ([]:U ByteArray).length)<|some (a1,a2,[])).map λa=>.inr (.inr a)else bif (w1==a0)then(ck (!(r2.length==0)&&bk r2.length r2.length)<|some (a1,a2,r2)).map λa=>.inr (.inr a)else ck (bk r2.length r2.length)<|some (.inl (w1,r2)))
def kP(a0:Int)(a1:U iQ)(a2:U (List Int)):J ((List iQ)×(List (List Int))×(List ByteArray)):=
 (kM n (qO.mk a1 a2) a0).bind λr1=>ck (bk 0 ([]:U ByteArray).length)<|fe (iter (l7 n a0 a1 a2 r1) n (a0,[])) λ()=>none
def iP(a0:U iQ):Stp (Int×(List iQ)×(List (List Int))×(List ByteArray)) ((List iQ)×(List (List Int))×(List ByteArray))
 |(v1,v2,v3,v4)=>bif decide (v1<a0.length)then((kP n v1 v2 v3).bind λr1=>((bif r1.2.2.length==0 then some true else some false)).bind λv5=>(bif v5 then ck (bk v4.length v4.length)<|some (r1.1,r1.2.1,v4)else((bif v4.length==0 then some true else bif decide ((r1.2.2.length:Nat)<(v4.length:Int))then some true else bif ((r1.2.2.length:Nat)==(v4.length:Int))then ck (bk (sub r1.2.2 0 r1.2.2.length).length r1.2.2.length)<|ck (bk (sub v4 0 v4.length).length v4.length)<|(nk n (sub r1.2.2 0 r1.2.2.length) (sub v4 0 v4.length)).bind λr2=>some (decide (r2<0))else some false)).bind λv6=>(bif v6 then ck (bk r1.2.2.length r1.2.2.length)<|some (r1.1,r1.2.1,r1.2.2)else ck (bk v4.length v4.length)<|some (r1.1,r1.2.1,v4))):J ((List iQ)×(List (List Int))×(List ByteArray))).bind λ(v7,v8,v9)=>ck (bk v9.length v9.length)<|some (.inl (i64.wrap (v1+1),v7,v8,v9))else ck (bk v4.length v4.length)<|some (.inr (v2,v3,v4))
def jE(a0:U iQ)(a1:U (List Int)):J ((List iQ)×(List (List Int))×(List ByteArray)):=
 ck (bk 0 ([]:U ByteArray).length)<|(iter (iP n a0) n (0,a0,a1,[])).bind λ(w1,w2,w3)=>ck (bk w3.length w3.length)<|some (w1,w2,w3)
def qb(r1:U ByteArray):Stp (Int×(List (ByteArray×Bool))) (List (ByteArray×Bool))
 |(v1,v2)=>bif decide (v1<(r1.length:Nat))then ck (cR v1 r1.length)<|(ci r1 ((0:Nat)+v1:Int)).bind λx1=>some (.inl (i64.wrap (v1+1),Hz fp x1 true v2))else some (.inr v2)
def mG(a0:dJ):Stp (Int×(List (ByteArray×Bool))) (Unit⊕((List Int)×(List ByteArray)×Int))
 |(v3,v4)=>bif decide (v3<a0.defs.length)then(ci a0.defs v3).bind λx2=>(bif ((fV fp x2.name v4).getD false)then(some ([],[],5)).map λa=>.inr (.inr a)else some (.inl (i64.wrap (v3+1),Hz fp x2.name true v4)))else some (.inr (.inl ()))
def pM(a0:dJ):J ((List Int)×(List ByteArray)×Int):=
 (yJ).bind λr1=>(iter (qb r1) n (0,([]:(List (ByteArray×Bool))))).bind λw1=>fe (iter (mG a0) n (0,w1)) λ()=>(mF a0.defs).bind λr2=>(jE n r2.1 r2.2).bind λr3=>((bif r3.2.2.length==0 then some false else some true)).bind λv5=>(bif v5 then ck (bk (sub r3.2.2 0 r3.2.2.length).length r3.2.2.length)<|some ([],sub r3.2.2 0 r3.2.2.length,16)else(pK n (qO.mk r3.1 r3.2.1)).bind λr4=>ck (bk (sub r4 0 r4.length).length r4.length)<|some (sub r4 0 r4.length,[],0))
def Cm(a0:dX)(a1:dD):J Bool:=
 some (ByteArray.toList a0.name==ByteArray.toList a1.s)
def H7(a0:U dX)(a1:(dX×Unit)->J Bool):Stp Int (Unit⊕Int)
 |v1=>bif decide (v1<a0.length)then(ci a0 v1).bind λx1=>(a1 (x1,())).bind λr1=>(bif r1 then(some v1).map λa=>.inr (.inr a)else some (.inl (i64.wrap (v1+1))))else some (.inr (.inl ()))
def uh(a0:U dX)(a1:(dX×Unit)->J Bool):J Int:=
 fe (iter (H7 a0 a1) n 0) λ()=>some (-1)
def Cn(a0:bZ)(a1:dD):J Bool:=
 some (ByteArray.toList a0.name==ByteArray.toList a1.key)
def yK(a0:Bool):J Int:=
 bif a0 then some 1 else some 0
def yu(a0 a1:Int):J Int:=
 bif (a1==0)then some 0 else ck (a1 !=0)<|(ck (a1 !=0)<|((bif ((Int.tmod a0 a1) !=0)then some (!((decide ((Int.tmod a0 a1)<0))==(decide (a1<0))))else some false)).bind λv1=>(bif v1 then some (i64.wrap ((i64.wrap (Int.tdiv a0 a1))-1))else some (i64.wrap (Int.tdiv a0 a1))):J Int).bind λv2=>some v2
def LA(a0 a1 a2:Int):J Int:=
 bif (a0==4)then some (i64.wrap (a1+a2))else bif (a0==5)then some (i64.wrap (a1-a2))else bif (a0==6)then some (i64.wrap (a1*a2))else bif (a0==7)then(yu a1 a2).bind λr1=>some r1 else bif (a0==8)then(bif (a2==0)then some 0 else(yu a1 a2).bind λr2=>some (i64.wrap (a1-(i64.wrap (r2*a2)))))else bif (a0==10)then(yK (a1==a2)).bind λr3=>some r3 else bif (a0==11)then(yK (decide (a1<a2))).bind λr4=>some r4 else bif (a0==12)then(yK (decide (a1<=a2))).bind λr5=>some r5 else bif (a0==13)then(bif (a1 !=0)then(yK (a2 !=0)).bind λr6=>some r6 else(yK false).bind λr7=>some r7)else bif (a1 !=0)then(yK true).bind λr8=>some r8 else(yK (a2 !=0)).bind λr9=>some r9
def jV(_:U iQ)(a1:U dX)(_:U gm)(_:U bO)(_:U j5)(_:U jd)(_:U d9)(_:Int)(_:U ByteArray)(a9:dD)(ky:U (ByteArray×Int)):J (Int×(List (ByteArray×Int))):=
 (uh n a1 (λ (y1:dX×Unit)=>Cm y1.1 (dD.mk a9.op a9.n a9.s a9.key a9.args))).bind λr1=>(bif decide (r1<0)then some (0,ky)else(ci a1 r1).bind λx1=>(lJ n x1.rows (λ (y2:bZ×Unit)=>Cn y2.1 (dD.mk a9.op a9.n a9.s a9.key a9.args))).bind λr2=>(bif decide (r2>=0)then(ci x1.rows r2).bind λx2=>some (x2.n,ky)else some (x1.sY,ky)))
def fH(_:Nat)(rc:((List iQ))->((List dX))->((List gm))->((List bO))->((List j5))->((List jd))->((List d9))->(Int)->((List ByteArray))->(dD)->((List (ByteArray×Int)))->J (Int×(List (ByteArray×Int))))(a0:U iQ)(a1:U dX)(a2:U gm)(a3:U bO)(a4:U j5)(a5:U jd)(a6:U d9)(a7:Int)(a8:U ByteArray)(a9:dD):Stp (Int×(List (ByteArray×Int))×(List Int)) ((List (ByteArray×Int))×(List Int))
 |(v1,v2,v3)=>bif decide (v1<a9.args.length)then((ci a9.args v1).bind λx1=>((bif (a9.op==16)then(bif decide (v1>0)then ck (cR 0 v3.length)<|(ci v3 ((0:Nat)+0:Int)).bind λx2=>some (!((x2 !=0)==(v1==1)))else some false)else some false)).bind λv4=>(bif v4 then ck (bP v3.length v3.length (sub ([0]:U Int) 0 1).length 1 8)<|iU (v3++(sub ([0]:U Int) 0 1)) λr1=>ck (bk r1.length r1.length)<|some (v2,r1)else(rc a0 a1 a2 a3 a4 a5 a6 a7 a8 (dD.mk x1.op x1.n x1.s x1.key x1.args) v2).bind λr2=>ck (bP v3.length v3.length (sub ([r2.1]:U Int) 0 1).length 1 8)<|iU (v3++(sub ([r2.1]:U Int) 0 1)) λr3=>ck (bk r3.length r3.length)<|some (r2.2,r3)):J ((List (ByteArray×Int))×(List Int))).bind λ(v5,v6)=>ck (bk v6.length v6.length)<|some (.inl (i64.wrap (v1+1),v5,v6))else ck (bk v3.length v3.length)<|some (.inr (v2,v3))
def fM(rc:((List iQ))->((List dX))->((List gm))->((List bO))->((List j5))->((List jd))->((List d9))->(Int)->((List ByteArray))->(dD)->((List (ByteArray×Int)))->J (Int×(List (ByteArray×Int))))(a0:U iQ)(a1:U dX)(a2:U gm)(a3:U bO)(a4:U j5)(a5:U jd)(a6:U d9)(a7:Int)(a8:U ByteArray)(a9:dD)(ky:U (ByteArray×Int)):J (Int×(List (ByteArray×Int))):=
 ck (bk 0 ([]:U Int).length)<|(iter (fH n rc a0 a1 a2 a3 a4 a5 a6 a7 a8 a9) n (0,ky,[])).bind λ(w1,w2)=>(bif (a9.op==0)then some (a9.n,w1)else bif (a9.op==1)then some ((fV fp a9.s w1).getD 0,w1)else bif (a9.op==2)then(jV n a0 a1 a2 a3 a4 a5 a6 a7 a8 (dD.mk a9.op a9.n a9.s a9.key a9.args) w1).bind λr4=>some (r4.1,r4.2)else bif (a9.op==3)then(gu n a8 a9.s).bind λr5=>(yK r5).bind λr6=>some (r6,w1)else bif (a9.op==9)then ck (cR 0 w2.length)<|(ci w2 ((0:Nat)+0:Int)).bind λx3=>some (i64.wrap (0-x3),w1)else bif (a9.op==15)then ck (cR 0 w2.length)<|(ci w2 ((0:Nat)+0:Int)).bind λx4=>(yK (x4==0)).bind λr7=>some (r7,w1)else bif (a9.op==16)then ck (cR 0 w2.length)<|(ci w2 ((0:Nat)+0:Int)).bind λx5=>(bif (x5 !=0)then ck (cR 1 w2.length)<|(ci w2 ((0:Nat)+1:Int)).bind λx6=>some (x6,w1)else ck (cR 2 w2.length)<|(ci w2 ((0:Nat)+2:Int)).bind λx7=>some (x7,w1))else ck (cR 0 w2.length)<|(ci w2 ((0:Nat)+0:Int)).bind λx8=>ck (cR 1 w2.length)<|(ci w2 ((0:Nat)+1:Int)).bind λx9=>(LA a9.op x8 x9).bind λr8=>some (r8,w1))
def Gq(rc:((List iQ))->((List dX))->((List gm))->((List bO))->((List j5))->((List jd))->((List d9))->(Int)->((List ByteArray))->(dD)->((List (ByteArray×Int)))->J (Int×(List (ByteArray×Int)))):dg xx:=⟨[.a [.v (.sl (.st SI.Def)),.v (.sl (.st SI.Table)),.v (.sl (.st SI.Zone)),.v (.sl (.st SI.Rule)),.v (.sl (.st SI.Cap)),.v (.sl (.st SI.View)),.v (.sl (.st SI.iu)),.v (.int .i64),.mp 0,.v (.sl .str)],.v (.st SI.Expr)],[(0,.m .str (.int .i64))],[.v (.int .i64)],[(0,.m .str (.int .i64))],λv=>rc (v.1) (v.2.1) (v.2.2.1) (v.2.2.2.1) (v.2.2.2.2.1) (v.2.2.2.2.2.1) (v.2.2.2.2.2.2.1) (v.2.2.2.2.2.2.2.1) (v.2.2.2.2.2.2.2.2.1) (v.2.2.2.2.2.2.2.2.2.1) (v.2.2.2.2.2.2.2.2.2.2)⟩
def kQ(rc:((List iQ))->((List dX))->((List gm))->((List bO))->((List j5))->((List jd))->((List d9))->(Int)->((List ByteArray))->(dD)->((List (ByteArray×Int)))->J (Int×(List (ByteArray×Int)))):ct xx:=⟨[],[.d .bool],λ_=>none,some (Gq rc)⟩
def dm(n:Nat):Nat->((List iQ))->((List dX))->((List gm))->((List bO))->((List j5))->((List jd))->((List d9))->(Int)->((List ByteArray))->(dD)->((List (ByteArray×Int)))->J (Int×(List (ByteArray×Int)))
 | 0=>λ_ _ _ _ _ _ _ _ _ _ _=>none
 |m+1=>fM n (dm n m)
def fK(a0:U iQ)(a1:U dX)(a2:U gm)(a3:U bO)(a4:U j5)(a5:U jd)(a6:U d9)(a7:Int)(a8:U ByteArray)(a9:dD)(ky:U (ByteArray×Int)):J (Int×(List (ByteArray×Int))):=dm n n a0 a1 a2 a3 a4 a5 a6 a7 a8 a9 ky
def gK(_:Nat)(a1:U bZ):Stp (Int×(List (ByteArray×Int))×(List (ByteArray×Bool))) ((List (ByteArray×Int))×(List (ByteArray×Bool)))
 |(v1,v2,v3)=>bif decide (v1<a1.length)then((ci a1 v1).bind λx1=>(bif (!((fV fp x1.name v3).getD false))then some (Hz fp x1.name x1.n v2,Hz fp x1.name true v3)else some (v2,v3)):J ((List (ByteArray×Int))×(List (ByteArray×Bool)))).bind λ(v4,v5)=>some (.inl (i64.wrap (v1+1),v4,v5))else some (.inr (v2,v3))
def iG(a0:dJ)(a2:U ByteArray)(w2:U (ByteArray×Bool))(r1:(List Int)×(List ByteArray)×Int):Stp (Int×(List (ByteArray×Int))×(List Int)) ((List (ByteArray×Int))×(List Int))
 |(v6,v7,v8)=>bif decide (v6<(r1.1.length:Nat))then(ck (cR v6 r1.1.length)<|(ci r1.1 ((0:Nat)+v6:Int)).bind λx2=>(ci a0.defs x2).bind λx3=>((EG n (dD.mk x3.lr x3.pC x3.m7 x3.li x3.gh)).bind λr2=>(bif r2 then(fK n a0.defs a0.tables a0.zones a0.rules a0.caps a0.views a0.tf a0.hours a2 (dD.mk x3.lr x3.pC x3.m7 x3.li x3.gh) v7).bind λr3=>ck (cR x2 ((a0.defs.length:Int).toNat))<|(ci v8 ((0:Nat)+x2:Int)).bind λ_=>some (r3.2,v8.set ((0:Nat)+x2:Int).toNat r3.1)else some (v7,v8)):J ((List (ByteArray×Int))×(List Int))).bind λ(v9,v10)=>(bif (!((fV fp x3.name w2).getD false))then ck (cR x2 ((a0.defs.length:Int).toNat))<|(ci v10 ((0:Nat)+x2:Int)).bind λx5=>some (Hz fp x3.name x5 v9,v10)else some (v9,v10)):J ((List (ByteArray×Int))×(List Int))).bind λ(v11,v12)=>some (.inl (i64.wrap (v6+1),v11,v12))else some (.inr (v7,v8))
def nU(a0:dJ)(a1:U bZ)(a2:U ByteArray):J ((List iQ)×(List dX)×(List gm)×(List bO)×(List j5)×(List jd)×(List d9)×Int×(List ByteArray)×(List (ByteArray×Int))×(List Int)):=
 (iter (gK n a1) n (0,([]:(List (ByteArray×Int))),([]:(List (ByteArray×Bool))))).bind λ(w1,w2)=>ck (decide ((a0.defs.length:Int)<=a0.defs.length)&&(decide (0<=(a0.defs.length:Int))&&Bn a0.defs.length 8))<|(pM n a0).bind λr1=>(bif (r1.2.2 !=0)then ck (bk ((a0.defs.length:Int).toNat) (List.replicate (a0.defs.length:Int).toNat (0:Int)).length)<|some (a0.defs,a0.tables,a0.zones,a0.rules,a0.caps,a0.views,a0.tf,a0.hours,a2,w1,List.replicate (a0.defs.length:Int).toNat 0)else(iter (iG n a0 a2 w2 r1) n (0,w1,List.replicate (a0.defs.length:Int).toNat 0)).bind λ(w3,w4)=>ck (bk ((a0.defs.length:Int).toNat) w4.length)<|some (a0.defs,a0.tables,a0.zones,a0.rules,a0.caps,a0.views,a0.tf,a0.hours,a2,w3,w4))
def xB(a0:dJ)(a1:U bZ)(a2:U ByteArray)(a3:dD):J Int:=
 (EG n (dD.mk a3.op a3.n a3.s a3.key a3.args)).bind λr1=>(bif (!r1)then some 0 else(nU n a0 a1 a2).bind λr2=>(fK n r2.1 r2.2.1 r2.2.2.1 r2.2.2.2.1 r2.2.2.2.2.1 r2.2.2.2.2.2.1 r2.2.2.2.2.2.2.1 r2.2.2.2.2.2.2.2.1 r2.2.2.2.2.2.2.2.2.1 (dD.mk a3.op a3.n a3.s a3.key a3.args) r2.2.2.2.2.2.2.2.2.2.1).bind λr3=>some r3.1)
def zu(a0:aF):J (List fu):=
 ck (bk (sub ([aj.mk a0.b9 a0.cy a0.b8 a0.cw]:U aj) 0 1).length 1)<|ck (bk (sub ([fu.mk a0.ev a0.de (sub ([aj.mk a0.b9 a0.cy a0.b8 a0.cw]:U aj) 0 1)]:U fu) 0 1).length 1)<|some (sub ([fu.mk a0.ev a0.de (sub ([aj.mk a0.b9 a0.cy a0.b8 a0.cw]:U aj) 0 1)]:U fu) 0 1)
def Xe(a0 a1:U aj):J Bool:=
 (nP n a0 a1).bind λr1=>some r1
def Co(a0:U fu):Stp Int (Unit⊕Bool)
 |v1=>bif decide (v1<a0.length)then fe ((ci a0 v1).bind λx1=>((bif decide (x1.z0<0)then some true else bif decide (x1.z0>=x1.z1)then some true else bif decide (x1.z1>4096)then some true else bif ((x1.area.length:Int)==0)then some true else(ko n x1.area).bind λr1=>some (!r1))).bind λv2=>(bif v2 then((some false).map λa=>.inr (.inr a)).map .inr else bif (v1==0)then some (.inl ())else(ci a0 (i64.wrap (v1-1))).bind λx2=>((bif decide (x2.z1>x1.z0)then some true else bif (x2.z1==x1.z0)then(Xe n x2.area x1.area).bind λr2=>some r2 else some false)).bind λv3=>(bif v3 then((some false).map λa=>.inr (.inr a)).map .inr else some (.inl ()))):J ((Unit)⊕_)) λ()=>some (.inl (i64.wrap (v1+1)))else some (.inr (.inl ()))
def JY(a0:U fu):J Bool:=
 bif decide ((a0.length:Int)>80)then some false else fe (iter (Co n a0) n 0) λ()=>some true
def yL(a0:aj)(a1 a2:Int):J PW:=
 some (PW.mk (i64.wrap (a1-a0.x0)) (i64.wrap ((i64.wrap (a0.x1-1))-a1)) (i64.wrap (a2-a0.y0)) (i64.wrap ((i64.wrap (a0.y1-1))-a2)))
def zw(_:aj)(a1:U bU)(_ _:Int)(r1:PW):Stp (Int×Int) Int
 |(v1,v2)=>bif decide (v2<a1.length)then(ci a1 v2).bind λx1=>ck (cR x1.side 4)<|(ci ([r1.a0,r1.a1,r1.a2,r1.a3]:U Int) x1.side).bind λx2=>(qU (i64.wrap (x1.num*x2)) x1.den).bind λr2=>some (.inl (min v1 (i64.wrap (x1.base+r2)),i64.wrap (v2+1)))else some (.inr v1)
def LB(a0:aj)(a1:U bU)(a2 a3:Int):J Int:=
 (yL a0 a2 a3).bind λr1=>(iter (zw a0 a1 a2 a3 r1) n (4096,0)).bind λw1=>some w1
def qc(a0:aj)(a1:U bU)(x1:aj)(x2:Int):Stp (Int×Int) Int
 |(v5,v6)=>bif decide (v6<(2:Nat))then ck (cR v6 2)<|(ci ([x1.y0,i64.wrap (x1.y1-1)]:U Int) ((0:Nat)+v6:Int)).bind λx3=>(LB n a0 a1 x2 x3).bind λr1=>some (.inl (min v5 r1,i64.wrap (v6+1)))else some (.inr v5)
def qd(a0:aj)(a1:U bU)(x1:aj):Stp (Int×Int) Int
 |(v3,v4)=>bif decide (v4<(2:Nat))then ck (cR v4 2)<|(ci ([x1.x0,i64.wrap (x1.x1-1)]:U Int) ((0:Nat)+v4:Int)).bind λx2=>(iter (qc n a0 a1 x1 x2) n (v3,0)).bind λw1=>some (.inl (w1,i64.wrap (v4+1)))else some (.inr v3)
def tX(a0:aj)(a1:U bU)(a2:U aj):Stp (Int×Int) Int
 |(v1,v2)=>bif decide (v2<a2.length)then(ci a2 v2).bind λx1=>(iter (qd n a0 a1 x1) n (v1,0)).bind λw2=>some (.inl (w2,i64.wrap (v2+1)))else some (.inr v1)
def zx(a0:aj)(a1:U bU)(a2:U aj):J Int:=
 (iter (tX n a0 a1 a2) n (4096,0)).bind λw3=>some w3
def tY(a0:fu)(a1:aj)(a2:U bU):J Bool:=
 (zx n a1 a2 a0.area).bind λr1=>some (decide (r1<a0.z1))
def nu(a0:U fu)(a1:(fu×Unit)->J Bool):Stp Int (Unit⊕Int)
 |v1=>bif decide (v1<a0.length)then(ci a0 v1).bind λx1=>(a1 (x1,())).bind λr1=>(bif r1 then(some v1).map λa=>.inr (.inr a)else some (.inl (i64.wrap (v1+1))))else some (.inr (.inl ()))
def vJ(a0:U fu)(a1:(fu×Unit)->J Bool):J Int:=
 fe (iter (nu a0 a1) n 0) λ()=>some (-1)
def jI(a0:U fu)(a1:(fu×Unit)->J Bool):J Bool:=
 (vJ n a0 a1).bind λr1=>some (decide (r1>=0))
def zy(a0:aj)(a1:U bU)(a2:U fu):J Bool:=
 ((xX n a0 a1).bind λr1=>(bif (!r1)then some true else(JY n a2).bind λr2=>some (!r2))).bind λv1=>(bif v1 then some false else(jI n a2 (λ (y1:fu×Unit)=>tY n y1.1 a0 a1)).bind λr3=>some (!r3))
def kR(a0:aF)(a1:aj)(a2:bO):J Bool:=
 (zu a0).bind λr1=>ck (bk (sub ([bU.mk a2.eM a2.eQ a2.fi a2.fj]:U bU) 0 1).length 1)<|ck (bk (sub r1 0 r1.length).length r1.length)<|(zy n a1 (sub ([bU.mk a2.eM a2.eQ a2.fi a2.fj]:U bU) 0 1) (sub r1 0 r1.length)).bind λr2=>some (!r2)
def iH(a0:nO)(a1:(aF×Unit)->J Bool):J Bool:=
 (gH n a0.cP a1).bind λr1=>some r1
def kS(a0:aF)(a1:bO):J Bool:=
 ck (decide (0<=a0.use)&&decide (a0.use<=i64.bits))<|some ((bits .and .i64 a1.uses (i64.wrap (1*2 ^ a0.use.toNat)))==0)
def aoi(a0 a1:aj):J (Int×Int):=
 some (i64.wrap ((max a0.x0 a1.x0)-(min a0.x1 a1.x1)),i64.wrap ((max a0.y0 a1.y0)-(min a0.y1 a1.y1)))
def RE(a0 a1:aj):J Int:=
 ((qC a0).bind λr1=>(bif (!r1)then some true else(qC a1).bind λr2=>some (!r2))).bind λv1=>(bif v1 then some (-1)else(aoi a0 a1).bind λr3=>some (max (max 0 r3.1) r3.2))
def eO(a0:kE)(a1:nO)(a2:aF)(a3:bO):J Bool:=
 ((bif (a0.lot==a1.ek)then some true else(qC (aj.mk a0.eK a0.eI a0.eJ a0.eE)).bind λr1=>(bif (!r1)then some true else bif decide (a0.gb<0)then some true else some (decide (a0.gb>=6))))).bind λv1=>(bif v1 then some false else((bif (a2.use==a3.uses)then(bif (a0.gb==a3.other)then some true else bif (a2.use==a3.other)then some (a0.gb==a3.uses)else some false)else bif (a2.use==a3.other)then some (a0.gb==a3.uses)else some false)).bind λv2=>(bif v2 then(RE (aj.mk a2.b9 a2.cy a2.b8 a2.cw) (aj.mk a0.eK a0.eI a0.eJ a0.eE)).bind λr2=>some (decide (r2<a3.n))else some false))
def Gr(a0:U kE)(a1:(kE×Unit)->J Bool):Stp Int (Unit⊕Int)
 |v1=>bif decide (v1<a0.length)then(ci a0 v1).bind λx1=>(a1 (x1,())).bind λr1=>(bif r1 then(some v1).map λa=>.inr (.inr a)else some (.inl (i64.wrap (v1+1))))else some (.inr (.inl ()))
def sJ(a0:U kE)(a1:(kE×Unit)->J Bool):J Int:=
 fe (iter (Gr a0 a1) n 0) λ()=>some (-1)
def kT(a0:U kE)(a1:(kE×Unit)->J Bool):J Bool:=
 (sJ n a0 a1).bind λr1=>some (decide (r1>=0))
def uj(a0:nO)(a1:bO)(a2:aF):J Bool:=
 (kT n a0.gR (λ (y1:kE×Unit)=>eO y1.1 a0 a2 a1)).bind λr1=>some r1
def kU(a0:aF)(a1:nO)(a2:bO):J Bool:=
 (uj n a1 a2 a0).bind λr1=>some r1
def oq(a0:nO)(a1:bO):J Bool:=
 bif (a1.kind==0)then(nS n (dJ.mk a0.gp a0.fh a0.fS a0.fX a0.gx a0.fW a0.ia a0.fY) (j6.mk a0.tj a0.m5 a0.lf a0.pg) (bL.mk a0.ek a0.jn)).bind λr1=>ck (bk (sub r1 0 r1.length).length r1.length)<|(xB n (dJ.mk a0.gp a0.fh a0.fS a0.fX a0.gx a0.fW a0.ia a0.fY) (sub r1 0 r1.length) a0.zones (dD.mk a1.ga a1.rh a1.rb a1.my a1.cM)).bind λr2=>some (r2==0)else bif (a1.kind==1)then(zR n a0.lf).bind λr3=>(iH n a0 (λ (y1:aF×Unit)=>kR n y1.1 r3.1 a1)).bind λr4=>some r4 else bif (a1.kind==2)then(iH n a0 (λ (y2:aF×Unit)=>kS y2.1 a1)).bind λr5=>some r5 else bif (a1.kind==3)then(iH n a0 (λ (y3:aF×Unit)=>kU n y3.1 a0 a1)).bind λr6=>some r6 else some false
def xC(a0 a1:aj):J Bool:=
 bif decide ((max a1.x0 a0.x0)<(min a1.x1 a0.x1))then some (decide ((max a1.y0 a0.y0)<(min a1.y1 a0.y1)))else some false
def JZ(a0:U aj)(a1:(aj×Unit)->J Bool):Stp Int (Unit⊕Int)
 |v1=>bif decide (v1<a0.length)then(ci a0 v1).bind λx1=>(a1 (x1,())).bind λr1=>(bif r1 then(some v1).map λa=>.inr (.inr a)else some (.inl (i64.wrap (v1+1))))else some (.inr (.inl ()))
def vK(a0:U aj)(a1:(aj×Unit)->J Bool):J Int:=
 fe (iter (JZ a0 a1) n 0) λ()=>some (-1)
def jJ(a0:U aj)(a1:(aj×Unit)->J Bool):J Bool:=
 (vK n a0 a1).bind λr1=>some (decide (r1>=0))
def Gs(a0:aj)(a1:U aj):J Bool:=
 (jJ n a1 (λ (y1:aj×Unit)=>xC y1.1 a0)).bind λr1=>some r1
def Xf(a0 a1:U aj):J Bool:=
 (jJ n a0 (λ (y1:aj×Unit)=>Gs n y1.1 a1)).bind λr1=>some r1
def sZ(a0:fu)(a1:dI):J Bool:=
 bif decide (a0.z1>a1.top)then(Xf n a0.area a1.area).bind λr1=>some r1 else some false
def xD(a0:U dI)(a1:Int)(a2:U fu):Stp Int (Unit⊕Bool)
 |v1=>bif decide (v1<a0.length)then fe ((ci a0 v1).bind λx1=>((bif (x1.lot !=a1)then some true else(ko n x1.area).bind λr2=>some (!r2))).bind λv2=>(bif v2 then some (.inl ())else(jI n a2 (λ (y1:fu×Unit)=>sZ n y1.1 x1)).bind λr3=>(bif r3 then((some false).map λa=>.inr (.inr a)).map .inr else some (.inl ()))):J ((Unit)⊕_)) λ()=>some (.inl (i64.wrap (v1+1)))else some (.inr (.inl ()))
def Gt(a0:U dI)(a1:Int)(a2:U fu):J Bool:=
 (JY n a2).bind λr1=>(bif (!r1)then some false else fe (iter (xD n a0 a1 a2) n 0) λ()=>some true)
def oO(a0:aF)(a1:dK)(a2:bL):J Bool:=
 (zu a0).bind λr1=>ck (bk (sub r1 0 r1.length).length r1.length)<|(Gt n a1.bz a2.lot (sub r1 0 r1.length)).bind λr2=>some (!r2)
def kr(a0:ByteArray)(a1:Bool)(a2:U ByteArray):J (List ByteArray):=
 ((bif a1 then ck (bk (sub a2 0 a2.length).length a2.length)<|(gu n (sub a2 0 a2.length) a0).bind λr1=>some (!r1)else some false)).bind λv1=>(bif v1 then ck (bP a2.length a2.length (sub ([a0]:U ByteArray) 0 1).length 1 16)<|iU (a2++(sub ([a0]:U ByteArray) 0 1)) λr2=>ck (bk r2.length r2.length)<|some r2 else ck (bk a2.length a2.length)<|some a2)
def oP(a0:dK)(r1:nO×Int)(r2:U Int):Stp (Int×(List ByteArray)) (List ByteArray)
 |(v1,v2)=>bif decide (v1<(r2.length:Nat))then ck (cR v1 r2.length)<|(ci r2 ((0:Nat)+v1:Int)).bind λx1=>(ci a0.aw x1).bind λx2=>(ci a0.aw x1).bind λx3=>(oq n r1.1 x3).bind λr3=>ck (bk v2.length v2.length)<|(kr n x2.name r3 v2).bind λr4=>ck (bk r4.length r4.length)<|some (.inl (i64.wrap (v1+1),r4))else ck (bk v2.length v2.length)<|some (.inr v2)
def xE(a0:dK)(a1:bL)(a2:Int):J ((List ByteArray)×Int):=
 (Ci n a0 a1).bind λr1=>(bif (r1.2 !=0)then some ([],r1.2)else(rO n (dJ.mk a0.cz a0.cm a0.bu a0.aw a0.cH a0.cI a0.cV a0.cJ) r1.1.zones a2).bind λr2=>ck (bk 0 ([]:U ByteArray).length)<|(iter (oP n a0 r1 r2) n (0,[])).bind λw1=>(iH n r1.1 (λ (y1:aF×Unit)=>oO n y1.1 a0 a1)).bind λr5=>ck (bk w1.length w1.length)<|(kr n (⟨#[101,97,115,101,109,101,110,116]⟩) r5 w1).bind λr6=>ck (bk (sub r6 0 r6.length).length r6.length)<|some (sub r6 0 r6.length,0))
def Cq(a0 a1:Bool):J Bool:=
 bif a0 then some (!a1)else some false
def Qk(a0 a1:U aj):J ((List aj)×Int):=
 (Ar n a0 a1 (λ (y1:Bool×Bool×Unit)=>Cq y1.1 y1.2.1)).bind λr1=>some (r1.1,r1.2)
def NG(a0:aj)(a1:U aj):J (Bool×Bool):=
 ck (bk (sub ([a0]:U aj) 0 1).length 1)<|(Qk n (sub ([a0]:U aj) 0 1) a1).bind λr1=>(bif (r1.2==0)then some ((r1.1.length:Int)==0,r1.2==0)else some (false,r1.2==0))
def qG(a0:dK)(a1 a2 a3:Int)(a4:aj):J Bool:=
 (Lv n).bind λr1=>((Xd n a0).bind λr2=>(bif (!r2)then some true else bif decide (a3<0)then some true else some (decide (a3>=12)))).bind λv1=>(bif v1 then some r1 else(Qd n (dJ.mk a0.cz a0.cm a0.bu a0.aw a0.cH a0.cI a0.cV a0.cJ)).bind λr3=>(za n a0.land a1).bind λr4=>ck (bk (sub ([aF.mk a4.x0 a4.y0 a4.x1 a4.y1 0 (i64.wrap (3*(i64.wrap (a3+1)))) 2 0 false]:U aF) 0 1).length 1)<|(gX n a0 a1 a2 (i64.wrap (a3+1))).bind λr5=>ck (bk (sub ([pu.mk (sub ([aF.mk a4.x0 a4.y0 a4.x1 a4.y1 0 (i64.wrap (3*(i64.wrap (a3+1)))) 2 0 false]:U aF) 0 1) ([])]:U pu) 0 1).length 1)<|(xE n (dK.mk r3.defs r3.tables r3.zones r3.rules r3.caps r3.views r3.tf r3.hours a0.land a0.bz a0.windows a0.built a0.base) (bL.mk a1 (sub ([pu.mk (sub ([aF.mk a4.x0 a4.y0 a4.x1 a4.y1 0 (i64.wrap (3*(i64.wrap (a3+1)))) 2 0 false]:U aF) 0 1) ([])]:U pu) 0 1)) a2).bind λr6=>((bif (r5.2 !=0)then some true else bif (r6.2 !=0)then some true else ck (bk (sub ([pu.mk (sub ([aF.mk a4.x0 a4.y0 a4.x1 a4.y1 0 (i64.wrap (3*(i64.wrap (a3+1)))) 2 0 false]:U aF) 0 1) ([])]:U pu) 0 1).length 1)<|(gF n r3 r4.1 (bL.mk a1 (sub ([pu.mk (sub ([aF.mk a4.x0 a4.y0 a4.x1 a4.y1 0 (i64.wrap (3*(i64.wrap (a3+1)))) 2 0 false]:U aF) 0 1) ([])]:U pu) 0 1))).bind λr7=>some (!r7))).bind λv2=>(bif v2 then(bif r1 then(bif (r5.2==0)then some true else some ((r5.1.length:Int)==0))else some false)else bif ((r5.1.length:Nat) !=(i64.wrap (a3+1)))then some false else ck (cR a3 r5.1.length)<|(ci r5.1 ((0:Nat)+a3:Int)).bind λx1=>(NG n a4 x1).bind λr8=>(bif r1 then(bif (!r8.2)then some true else some (r8.1==((r6.1.length:Int)==0)))else some false)))
end
end Go.Proofs
