import Derived.Test.YtdpcmnckfpgejaaGreatTBase
open Go.IntKind (i64)
namespace Go.Proofs
open Go.Gb Go.RowKit
noncomputable section
variable (n:Nat)
def V0(a0:Int):Option bK:=
 some (bK.mk 0 a0 (⟨#[]⟩) (⟨#[]⟩) ([]))
def Dw(a0:List ay):Option (List ay):=
 (bif a0.isEmpty then(both (some ([]:(List ay))) (ck (bW ([]:List ay).length 0 a0.length a0.length 32)<|kX (([]:List ay)++a0) λr1=>ck (bm (sub r1 0 r1.length).length r1.length)<|some (sub r1 0 r1.length)))else ck (bW ([]:List ay).length 0 a0.length a0.length 32)<|kX (([]:List ay)++a0) λr2=>ck (bm (sub r2 0 r2.length).length r2.length)<|some (sub r2 0 r2.length))
def GV(a0:List Int):Option (List Int):=
 (bif a0.isEmpty then(both (some ([]:(List Int))) (ck (bW ([]:List Int).length 0 a0.length a0.length 8)<|kX (([]:List Int)++a0) λr1=>ck (bm (sub r1 0 r1.length).length r1.length)<|some (sub r1 0 r1.length)))else ck (bW ([]:List Int).length 0 a0.length a0.length 8)<|kX (([]:List Int)++a0) λr2=>ck (bm (sub r2 0 r2.length).length r2.length)<|some (sub r2 0 r2.length))
def Pk(a0:gZ):Option gZ:=
 (Dw a0.area).bind λr1=>(GV a0.from_).bind λr2=>ck (bm (sub r1 0 r1.length).length r1.length)<|ck (bm (sub r2 0 r2.length).length r2.length)<|some (gZ.mk a0.id a0.owner (sub r1 0 r1.length) (sub r2 0 r2.length))
def GX(a0:List gZ)(a1:Int):Stp Int (Unit⊕(gZ×Bool))
 |v1=>(bif decide (v1<(a0.length:Int))then(bp a0 v1).bind λx1=>(bif (x1.id==(a1:Int))then(Pk x1).bind λr1=>(some (r1,true)).map λa=> .inr (.inr a)else some (.inl (i64.wrap (v1+1))))else some (.inr (.inl ())))
def Pm(a0:List gZ)(a1:Int):Option (gZ×Bool):=
 dh (iter (GX a0 a1) n (0:Int)) λ()=>some ((gZ.mk 0 0 ([]) ([])),false)
def nV(a0:aV)(a1:Int)(a2:Int):Stp (Int×(List aF)) (List aF)
 |(v1,v2)=>(bif decide (v1<(a0.phases.length:Int))then((bp a0.phases v1).bind λx1=>((bif decide (v1>=(a1:Int))then some (decide (v1<(a2:Int)))else some false)).bind λv3=>(bif v3 then ck (bW v2.length v2.length x1.cx.length x1.cx.length 72)<|kX (v2++x1.cx) λr1=>ck (bm r1.length r1.length)<|some r1 else ck (bm v2.length v2.length)<|some v2):Option ((List aF))).bind λv4=>ck (bm v4.length v4.length)<|some (.inl ((i64.wrap (v1+1)),v4))else ck (bm v2.length v2.length)<|some (.inr v2))
def oD(a0:aV)(a1:Int)(a2:Int):Option (List aF):=
 ck (bm 0 ([]:List aF).length)<|(iter (nV a0 a1 a2) n ((0:Int),([]:List aF))).bind λw1=>ck (bm (sub w1 0 w1.length).length w1.length)<|some (sub w1 0 w1.length)
def xD(a0:aV):Option (List aF):=
 (oD n a0 0 (a0.phases.length:Int)).bind λr1=>ck (bm (sub r1 0 r1.length).length r1.length)<|some (sub r1 0 r1.length)
def pu(a0:ay):Option Bool:=
 (bif decide (0<=(a0.x0:Int))then(bif decide (a0.x0<(a0.x1:Int))then(bif decide (a0.x1<=1048576)then(bif decide (0<=(a0.y0:Int))then(bif decide (a0.y0<(a0.y1:Int))then some (decide (a0.y1<=1048576))else some false)else some false)else some false)else some false)else some false)
def gm(a0:aF):Option Bool:=
 ((pu (ay.mk a0.bz a0.cj a0.bx a0.ci)).bind λr1=>(bif (!r1)then some true else(bif decide (a0.ek<0)then some true else(bif decide (a0.ek>=(a0.dE:Int))then some true else some (decide (a0.dE>4096)))))).bind λv1=>(bif v1 then some false else((bif (a0.use !=0)then some (a0.units !=0)else some false)).bind λv2=>(bif v2 then some false else(bif decide (a0.use>=0)then(bif decide (a0.use<6)then(bif decide (a0.units>=0)then some (decide (a0.units<=1048576))else some false)else some false)else some false)))
def z8(a0:ay):Option (ay×Bool):=
 (pu a0).bind λr1=>(bif r1 then some (a0,true)else some ((ay.mk 0 0 0 0),false))
def tN(a0:ay)(a1:ay):Option (ay×Bool):=
 ((pu a0).bind λr1=>(bif (!r1)then some true else(pu a1).bind λr2=>some (!r2))).bind λv1=>(bif v1 then some ((ay.mk 0 0 0 0),false)else(z8 (ay.mk (max a0.x0 a1.x0) (max a0.y0 a1.y0) (min a0.x1 a1.x1) (min a0.y1 a1.y1))).bind λr3=>some (r3.1,r3.2))
def zi(a0:BY)(a1:BY):Option Bool:=
 (tN (ay.mk a0.ov a0.oe a0.ot a0.oc) (ay.mk a1.ov a1.oe a1.ot a1.oc)).bind λr1=>(bif r1.2 then(bif decide (a0.z0<(a1.z1:Int))then some (decide (a1.z0<(a0.z1:Int)))else some false)else some false)
def rX(a0:aF)(a1:aF):Option Bool:=
 (zi (BY.mk a1.bz a1.cj a1.bx a1.ci a1.ek a1.dE) (BY.mk a0.bz a0.cj a0.bx a0.ci a0.ek a0.dE)).bind λr1=>some r1
def GY(a0:List aF)(a1:(aF×Unit)->Option Bool):Stp Int (Unit⊕Int)
 |v1=>(bif decide (v1<(a0.length:Int))then(bp a0 v1).bind λx1=>(a1 (x1,())).bind λr1=>(bif r1 then(some v1).map λa=> .inr (.inr a)else some (.inl (i64.wrap (v1+1))))else some (.inr (.inl ())))
def qP(a0:List aF)(a1:(aF×Unit)->Option Bool):Option Int:=
 dh (iter (GY a0 a1) n (0:Int)) λ()=>some ((-1):Int)
def fP(a0:List aF)(a1:(aF×Unit)->Option Bool):Option Bool:=
 (qP n a0 a1).bind λr1=>some (decide (r1>=0))
def GZ(a0:Int):Option Bool:=
 (bif decide (a0>=97)then some (decide (a0<=122))else some false)
def CB(a0:ByteArray)(a1:(Int×Unit)->Option Bool):Stp Int Int
 |v1=>((bif decide (v1<(a0.size:Int))then(J3 a0 v1).bind λx1=>(a1 (x1,())).bind λr1=>some r1 else some false)).bind λv2=>(bif v2 then some (.inl (i64.wrap (v1+1)))else some (.inr v1))
def Pn(a0:ByteArray)(a1:(Int×Unit)->Option Bool):Option Int:=
 (iter (CB a0 a1) n (0:Int)).bind λw1=>some w1
def Rz(a0:Int):Option Bool:=
 (bif decide (a0>=48)then some (decide (a0<=57))else some false)
def CF(a0:Int):Option Bool:=
 (GZ a0).bind λr1=>(bif r1 then some true else(Rz a0).bind λr2=>some r2)
def Po(a0:ByteArray):Option Bool:=
 ((bif (ByteArray.toList a0==ByteArray.toList (⟨#[]⟩))then some true else(J3 a0 0).bind λx1=>(GZ x1).bind λr1=>(bif (!r1)then some true else some (decide ((a0.size:Int)>20))))).bind λv1=>(bif v1 then some false else(Pn n a0 (λ (y1:Int×Unit)=>CF y1.1)).bind λr2=>some (r2==(a0.size:Int)))
def strings_Contains(a0 a1:ByteArray):Option Bool:=ck (Nat.ble a0.size 4000000)<|some (Lib.contains a0.data.toList a1.data.toList)
def xE(a0:ByteArray):Option Bool:=
 (Po n a0).bind λr1=>(bif r1 then ck (WG (⟨#[32]⟩) a0)<|ck (WG ((⟨#[32]⟩)++a0) (⟨#[32]⟩))<|(strings_Contains (⟨#[32,97,110,100,32,97,112,97,114,116,32,98,97,115,101,32,99,97,112,32,100,101,102,105,110,101,32,101,108,115,101,32,101,120,99,101,112,116,32,102,114,111,109,32,103,114,97,99,101,32,104,111,117,114,115,32,105,102,32,105,110,32,108,101,97,115,116,32,110,111,116,32,111,114,32,111,118,101,114,108,97,121,32,112,108,97,110,101,32,114,117,108,101,32,115,108,111,112,101,32,115,117,110,32,116,97,98,108,101,32,116,104,101,110,32,117,110,116,105,108,32,117,115,101,115,32,118,97,114,121,32,118,105,101,119,32,122,111,110,101,32]⟩) (((⟨#[32]⟩)++a0)++(⟨#[32]⟩))).bind λr2=>some (!r2)else some false)
def lD(r1:List aF):Stp Int (Unit⊕Bool)
 |v2=>(bif decide (v2<(r1.length:Int))then ck (ca v2 r1.length)<|(bp r1 ((0:Nat)+v2:Int)).bind λx1=>((gm x1).bind λr2=>(bif (!r2)then some true else ck (Ag 0 v2 r1.length)<|ck (bm (sub r1 0 ((v2:Int).toNat)).length ((v2:Int).toNat))<|(fP n (sub r1 0 ((v2:Int).toNat)) (λ (y1:aF×Unit)=>rX y1.1 x1)).bind λr3=>some r3)).bind λv3=>(bif v3 then(some false).map λa=> .inr (.inr a)else some (.inl (i64.wrap (v2+1))))else some (.inr (.inl ())))
def lF(x2:iH):Stp (Int×(List (ByteArray×Bool))) (Unit⊕(Int⊕(Unit⊕Bool)))
 |(v5,v6)=>(bif decide (v5<(x2.gives.length:Int))then(bp x2.gives v5).bind λx3=>((bif ((qH gS x3.name v6).getD false)then some true else(xE n x3.name).bind λr4=>(bif (!r4)then some true else(bif decide (x3.n<0)then some true else some (decide (x3.n>1073741824)))))).bind λv7=>(bif v7 then((some false).map λa=> .inr (.inr a)).map λa=> .inr (.inr a)else some (.inl ((i64.wrap (v5+1)),(Ng gS x3.name true v6))))else some (.inr (.inl ())))
def lG(a0:aV):Stp Int (Unit⊕Bool)
 |v4=>(bif decide (v4<(a0.phases.length:Int))then(bp a0.phases v4).bind λx2=>dh (iter (lF n x2) n ((0:Int),([]:(List (ByteArray×Bool))))) λ()=>(bif decide ((x2.gives.length:Int)>30)then(some false).map λa=> .inr (.inr a)else some (.inl (i64.wrap (v4+1))))else some (.inr (.inl ())))
def zk(a0:aV):Option Bool:=
 (xD n a0).bind λr1=>((bif decide (a0.lot<0)then some true else(bif decide (a0.lot>1073741824)then some true else(bif decide ((a0.phases.length:Int)<1)then some true else(bif decide ((a0.phases.length:Int)>8)then some true else(bif decide ((r1.length:Int)<1)then some true else some (decide ((r1.length:Int)>40)))))))).bind λv1=>(bif v1 then some false else dh (iter (lD n r1) n (0:Int)) λ()=>dh (iter (lG n a0) n (0:Int)) λ()=>some true)
def Pp(a0:Unit)(a1:Int):Option (List ay):=
 (bif decide (a1<0)then none else(bif (decide ((i64.wrap (a1 -(i64.wrap (0 -0))))>0))then ck (Bz (i64.wrap (a1 -(i64.wrap (0 -0)))) 32)<|ck (Ag 0 0 ((i64.wrap (a1 -(i64.wrap (0 -0)))).toNat))<|ck (bm (sub (List.replicate (i64.wrap (a1 -(i64.wrap (0 -0)))).toNat (ay.mk 0 0 0 0)) 0 0).length 0)<|some (sub (List.replicate (i64.wrap (a1 -(i64.wrap (0 -0)))).toNat (ay.mk 0 0 0 0)) 0 0)else some ([]:(List ay))))
def Pq(a0:List (List ay)):Stp (Int×Int) Int
 |(v1,v2)=>(bif decide (v2<(a0.length:Int))then(bp a0 v2).bind λx1=>(bif decide ((i64.wrap (v1+(x1.length:Int)))<0)then none else some (.inl ((i64.wrap (v1+(x1.length:Int))),(i64.wrap (v2+1)))))else some (.inr v1))
def Ps(a0:List (List ay)):Stp (Int×(List ay)) (List ay)
 |(v3,v4)=>(bif decide (v3<(a0.length:Int))then(bp a0 v3).bind λx2=>ck (bW v4.length v4.length x2.length x2.length 32)<|kX (v4++x2) λr2=>ck (bm r2.length r2.length)<|some (.inl ((i64.wrap (v3+1)),r2))else ck (bm v4.length v4.length)<|some (.inr v4))
def Ay(a0:List (List ay)):Option (List ay):=
 (iter (Pq a0) n ((0:Int),(0:Int))).bind λw1=>(Pp () w1).bind λr1=>ck (bm r1.length r1.length)<|(iter (Ps a0) n ((0:Int),r1)).bind λw2=>ck (bm (sub w2 0 w2.length).length w2.length)<|some (sub w2 0 w2.length)
def bits_Len64(a0:Int):Option Int:=
 ((bif decide (a0>=4294967296)then ck (decide (0<=32)&&decide (32<=IntKind.u64.bits))<|some ((a0/2 ^ (32:Int).toNat),(32:Int))else some (a0,(0:Int))):Option (Int×Int)).bind λ(v1,v2)=>((bif decide (v1>=65536)then ck (decide (0<=16)&&decide (16<=IntKind.u64.bits))<|some ((v1/2 ^ (16:Int).toNat),(i64.wrap (v2+16)))else some (v1,v2)):Option (Int×Int)).bind λ(v3,v4)=>((bif decide (v3>=256)then ck (decide (0<=8)&&decide (8<=IntKind.u64.bits))<|some ((v3/2 ^ (8:Int).toNat),(i64.wrap (v4+8)))else some (v3,v4)):Option (Int×Int)).bind λ(v5,v6)=>(J3 (⟨#[0,1,2,2,3,3,3,3,4,4,4,4,4,4,4,4,5,5,5,5,5,5,5,5,5,5,5,5,5,5,5,5,6,6,6,6,6,6,6,6,6,6,6,6,6,6,6,6,6,6,6,6,6,6,6,6,6,6,6,6,6,6,6,6,7,7,7,7,7,7,7,7,7,7,7,7,7,7,7,7,7,7,7,7,7,7,7,7,7,7,7,7,7,7,7,7,7,7,7,7,7,7,7,7,7,7,7,7,7,7,7,7,7,7,7,7,7,7,7,7,7,7,7,7,7,7,7,7,8,8,8,8,8,8,8,8,8,8,8,8,8,8,8,8,8,8,8,8,8,8,8,8,8,8,8,8,8,8,8,8,8,8,8,8,8,8,8,8,8,8,8,8,8,8,8,8,8,8,8,8,8,8,8,8,8,8,8,8,8,8,8,8,8,8,8,8,8,8,8,8,8,8,8,8,8,8,8,8,8,8,8,8,8,8,8,8,8,8,8,8,8,8,8,8,8,8,8,8,8,8,8,8,8,8,8,8,8,8,8,8,8,8,8,8,8,8,8,8,8,8,8,8,8,8,8,8]⟩) (IntKind.u8.wrap v5)).bind λx1=>some (i64.wrap (v6+(i64.wrap x1)))
def bits_Len(a0:Int):Option Int:=
 (bits_Len64 a0).bind λr1=>some r1
def cmp_isNaN_int(a0:Int):Option Bool:=
 some (a0 !=(a0:Int))
def cmp_Less_int(a0:Int)(a1:Int):Option Bool:=
 (cmp_isNaN_int a0).bind λr1=>(bif r1 then(cmp_isNaN_int a1).bind λr2=>(bif (!r2)then some true else some (decide (a0<(a1:Int))))else some (decide (a0<(a1:Int))))
def zl(a0:List Int)(a1:Int)(a2:Int):Option (List Int):=
 nE cmp_Less_int (λ r=>r) n a0 a1 a2
def G5(a0:List Int)(a1:Int)(a2:Int)(a3:Int):Option (List Int):=
 tK cmp_Less_int (λ r=>r) n a0 a1 a2 a3
def G6(a0:List Int)(a1:Int)(a2:Int):Option (List Int):=
 zY cmp_Less_int (λ r=>r) n a0 a1 a2
def bA(a0:Int):Option Int:=
 (bits_Len (IntKind.u64.wrap a0)).bind λr1=>ck (decide (0<=r1)&&decide (r1<=IntKind.u64.bits))<|some (IntKind.u64.wrap (1*2 ^ (r1:Int).toNat))
def bH(a0:Int):Option (Int×Int):=
 ck (decide (0<=13)&&decide (13<=IntKind.u64.bits))<|ck (decide (0<=7)&&decide (7<=IntKind.u64.bits))<|ck (decide (0<=17)&&decide (17<=IntKind.u64.bits))<|some ((bits .xor .u64 (bits .xor .u64 (bits .xor .u64 a0 (IntKind.u64.wrap (a0*2 ^ (13:Int).toNat))) ((bits .xor .u64 a0 (IntKind.u64.wrap (a0*2 ^ (13:Int).toNat)))/2 ^ (7:Int).toNat)) (IntKind.u64.wrap ((bits .xor .u64 (bits .xor .u64 a0 (IntKind.u64.wrap (a0*2 ^ (13:Int).toNat))) ((bits .xor .u64 a0 (IntKind.u64.wrap (a0*2 ^ (13:Int).toNat)))/2 ^ (7:Int).toNat))*2 ^ (17:Int).toNat))),(bits .xor .u64 (bits .xor .u64 (bits .xor .u64 a0 (IntKind.u64.wrap (a0*2 ^ (13:Int).toNat))) ((bits .xor .u64 a0 (IntKind.u64.wrap (a0*2 ^ (13:Int).toNat)))/2 ^ (7:Int).toNat)) (IntKind.u64.wrap ((bits .xor .u64 (bits .xor .u64 a0 (IntKind.u64.wrap (a0*2 ^ (13:Int).toNat))) ((bits .xor .u64 a0 (IntKind.u64.wrap (a0*2 ^ (13:Int).toNat)))/2 ^ (7:Int).toNat))*2 ^ (17:Int).toNat))))
def zm(a0:List Int)(a1:Int)(a2:Int):Option (List Int):=
 kE bA bH n a0 a1 a2
def Ku(a0:List Int)(a1:Int)(a2:Int)(a3:Int):Option (Int×Int×Int):=
 Cz cmp_Less_int (λ r=>r) a0 a1 a2 a3
def Kv(a0:List Int)(a1:Int)(a2:Int)(a3:Int)(a4:Int):Option (Int×Int):=
 zf cmp_Less_int (λ r=>r) a0 a1 a2 a3 a4
def yC(a0:List Int)(a1:Int)(a2:Int):Option (Int×Int):=
 eT cmp_Less_int (λ r=>r) a0 a1 a2
def BB(a0:List Int)(a1:Int)(a2:Int):Option (Int×Int):=
 qf cmp_Less_int (λ r=>r) a0 a1 a2
def Az(a0:List Int)(a1:Int)(a2:Int):Option (List Int):=
 mJ n a0 a1 a2
def sO(a0:List Int)(a1:Int)(a2:Int):Option (Bool×(List Int)):=
 fD cmp_Less_int (λ r=>r) n a0 a1 a2
def yD(a0:List Int)(a1:Int)(a2:Int)(a3:Int):Option (Int×(List Int)):=
 jB cmp_Less_int (λ r=>r) n a0 a1 a2 a3
def Fq(a0:List Int)(a1:Int)(a2:Int)(a3:Int):Option (Int×Bool×(List Int)):=
 sM cmp_Less_int (λ r=>r) n a0 a1 a2 a3
def nG(rc:((List Int))->(Int)->(Int)->(Int)->Option (List Int))(a0:List Int)(a1:Int)(a2:Int)(a3:Int):Option (List Int):=
 kF cmp_Less_int (λ r=>r) bA bH n rc a0 a1 a2 a3
def mQ(rc:((List Int))->(Int)->(Int)->(Int)->Option (List Int)):b9 xx:=⟨[.mut (.int .i64),.d (.int .i64),.d (.int .i64),.d (.int .i64)],[.mu (.int .i64)],λa=>rc a.1 a.2.1 a.2.2.1 a.2.2.2.1,none⟩
def gM(n:Nat):Nat->((List Int))->(Int)->(Int)->(Int)->Option (List Int)
 | 0=>λ_ _ _ _=>none
 |m+1=>nG n (gM n m)
def o6(a0:List Int)(a1:Int)(a2:Int)(a3:Int):Option (List Int):=gM n n a0 a1 a2 a3
def nM(a0:List Int):Option (List Int):=
 (bits_Len (IntKind.u64.wrap (a0.length:Int))).bind λr1=>ck (bm a0.length a0.length)<|(o6 n a0 0 (a0.length:Int) r1).bind λr2=>some r2
def Pv(a0:List Int)(v1:Int):Stp (Int×Int×(List Int)) (Int×(List Int))
 |(v2,v3,v4)=>(bif (decide (v3<((((a0.length -(v1:Int).toNat):Nat):Int):Int)))then(ck (ca v3 (a0.length -(v1:Int).toNat))<|(bp v4 (((0+(v1:Int).toNat):Nat)+v3:Int)).bind λx3=>ck (ca (i64.wrap (v3 -1)) (a0.length -(v1:Int).toNat))<|(bp v4 (((0+(v1:Int).toNat):Nat)+(i64.wrap (v3 -1)):Int)).bind λx4=>(bif (x3 !=(x4:Int))then ck (ca v3 (a0.length -(v1:Int).toNat))<|(bp v4 (((0+(v1:Int).toNat):Nat)+v3:Int)).bind λx5=>ck (ca v2 a0.length)<|(bp v4 ((0:Nat)+v2:Int)).bind λx6=>some ((i64.wrap (v2+1)),(v4.set ((0:Nat)+v2:Int).toNat x5))else some (v2,v4)):Option (Int×(List Int))).bind λ(v5,v6)=>some (.inl (v5,(i64.wrap (v3+1)),v6))else some (.inr (v2,v4)))
def Pw(a0:List Int):Stp Int (Unit⊕(Unit×(List Int)))
 |v1=>(bif decide (v1<(a0.length:Int))then ck (ca v1 a0.length)<|(bp a0 ((0:Nat)+v1:Int)).bind λx1=>ck (ca (i64.wrap (v1 -1)) a0.length)<|(bp a0 ((0:Nat)+(i64.wrap (v1 -1)):Int)).bind λx2=>(bif (x1==(x2:Int))then ck (Ag v1 (a0.length:Int) a0.length)<|(iter (Pv a0 v1) n (v1,(1:Int),a0)).bind λ(w1,w2)=>ck (Ag w1 (a0.length:Int) a0.length)<|ck (Ag 0 w1 a0.length)<|(ck (bm ((w1:Int).toNat) ((w1:Int).toNat))<|ck (bm (sub (w2.take (0+(w1:Int).toNat)) 0 ((w1:Int).toNat)).length ((w1:Int).toNat))<|some ((),(sub (w2.take (0+(w1:Int).toNat)) 0 ((w1:Int).toNat)))).map λa=> .inr (.inr a)else some (.inl (i64.wrap (v1+1))))else some (.inr (.inl ())))
def pU(a0:List Int):Option (Unit×(List Int)):=
 (bif decide ((a0.length:Int)<2)then ck (bm a0.length a0.length)<|ck (bm (sub a0 0 a0.length).length a0.length)<|some ((),(sub a0 0 a0.length))else dh (iter (Pw n a0) n (1:Int)) λ()=>ck (bm a0.length a0.length)<|ck (bm (sub a0 0 a0.length).length a0.length)<|some ((),(sub a0 0 a0.length)))
def yE(a0:List aD)(a1:Int)(a2:Int)(a3:(aD×aD×Unit)->Option Int):Option (List aD):=
 nE (λ x y=>a3 (x,y,())) (λ r=>decide (r<0)) n a0 a1 a2
def Fs(a0:List aD)(a1:Int)(a2:Int)(a3:Int)(a4:(aD×aD×Unit)->Option Int):Option (List aD):=
 tK (λ x y=>a4 (x,y,())) (λ r=>decide (r<0)) n a0 a1 a2 a3
def Fu(a0:List aD)(a1:Int)(a2:Int)(a3:(aD×aD×Unit)->Option Int):Option (List aD):=
 zY (λ x y=>a3 (x,y,())) (λ r=>decide (r<0)) n a0 a1 a2
def yF(a0:List aD)(a1:Int)(a2:Int)(a3:(aD×aD×Unit)->Option Int):Option (List aD):=
 kE bA bH n a0 a1 a2
def IK(a0:List aD)(a1:Int)(a2:Int)(a3:Int)(a4:(aD×aD×Unit)->Option Int):Option (Int×Int×Int):=
 Cz (λ x y=>a4 (x,y,())) (λ r=>decide (r<0)) a0 a1 a2 a3
def IL(a0:List aD)(a1:Int)(a2:Int)(a3:Int)(a4:Int)(a5:(aD×aD×Unit)->Option Int):Option (Int×Int):=
 zf (λ x y=>a5 (x,y,())) (λ r=>decide (r<0)) a0 a1 a2 a3 a4
def xG(a0:List aD)(a1:Int)(a2:Int)(a3:(aD×aD×Unit)->Option Int):Option (Int×Int):=
 eT (λ x y=>a3 (x,y,())) (λ r=>decide (r<0)) a0 a1 a2
def AA(a0:List aD)(a1:Int)(a2:Int)(a3:(aD×aD×Unit)->Option Int):Option (Int×Int):=
 qf (λ x y=>a3 (x,y,())) (λ r=>decide (r<0)) a0 a1 a2
def zn(a0:List aD)(a1:Int)(a2:Int)(a3:(aD×aD×Unit)->Option Int):Option (List aD):=
 mJ n a0 a1 a2
def rE(a0:List aD)(a1:Int)(a2:Int)(a3:(aD×aD×Unit)->Option Int):Option (Bool×(List aD)):=
 fD (λ x y=>a3 (x,y,())) (λ r=>decide (r<0)) n a0 a1 a2
def xH(a0:List aD)(a1:Int)(a2:Int)(a3:Int)(a4:(aD×aD×Unit)->Option Int):Option (Int×(List aD)):=
 jB (λ x y=>a4 (x,y,())) (λ r=>decide (r<0)) n a0 a1 a2 a3
def Dx(a0:List aD)(a1:Int)(a2:Int)(a3:Int)(a4:(aD×aD×Unit)->Option Int):Option (Int×Bool×(List aD)):=
 sM (λ x y=>a4 (x,y,())) (λ r=>decide (r<0)) n a0 a1 a2 a3
def ja(rc:((List aD))->(Int)->(Int)->(Int)->((aD×aD×Unit)->Option Int)->Option (List aD))(a0:List aD)(a1:Int)(a2:Int)(a3:Int)(a4:(aD×aD×Unit)->Option Int):Option (List aD):=
 kF (λ x y=>a4 (x,y,())) (λ r=>decide (r<0)) bA bH n (λ l a b d=>rc l a b d a4) a0 a1 a2 a3
def kY(rc:((List aD))->(Int)->(Int)->(Int)->((aD×aD×Unit)->Option Int)->Option (List aD)):b9 xx:=⟨[.mut (.st SI.span),.d (.int .i64),.d (.int .i64),.d (.int .i64),.cV [(.st SI.span),(.st SI.span)] (.int .i64)],[.mu (.st SI.span)],λa=>rc a.1 a.2.1 a.2.2.1 a.2.2.2.1 a.2.2.2.2.1,none⟩
def eu(n:Nat):Nat->((List aD))->(Int)->(Int)->(Int)->((aD×aD×Unit)->Option Int)->Option (List aD)
 | 0=>λ_ _ _ _ _=>none
 |m+1=>ja n (eu n m)
def nW(a0:List aD)(a1:Int)(a2:Int)(a3:Int)(a4:(aD×aD×Unit)->Option Int):Option (List aD):=eu n n a0 a1 a2 a3 a4
def qg(a0:List aD)(a1:(aD×aD×Unit)->Option Int):Option (List aD):=
 (bits_Len (IntKind.u64.wrap (a0.length:Int))).bind λr1=>ck (bm a0.length a0.length)<|(nW n a0 0 (a0.length:Int) r1 a1).bind λr2=>some r2
def cmp_Compare_int(a0:Int)(a1:Int):Option Int:=
 (cmp_isNaN_int a0).bind λr1=>(cmp_isNaN_int a1).bind λr2=>(bif r1 then(bif r2 then some (0:Int)else some ((-1):Int))else(bif r2 then some (1:Int)else(bif decide (a0<(a1:Int))then some ((-1):Int)else(bif decide (a0>(a1:Int))then some (1:Int)else some (0:Int)))))
def zo(a0:aD)(a1:aD):Option Int:=
 (cmp_Compare_int a0.from_ a1.from_).bind λr1=>some r1
def uF(a0:List ay)(a1:Int):Stp (Int×(List aD)) (List aD)
 |(v1,v2)=>(bif decide (v1<(a0.length:Int))then((bp a0 v1).bind λx1=>((bif decide (x1.x0<=(a1:Int))then some (decide (a1<(x1.x1:Int)))else some false)).bind λv3=>(bif v3 then ck (bW v2.length v2.length (sub ([(aD.mk x1.y0 x1.y1)]:List aD) 0 1).length 1 16)<|kX (v2++(sub ([(aD.mk x1.y0 x1.y1)]:List aD) 0 1)) λr1=>ck (bm r1.length r1.length)<|some r1 else ck (bm v2.length v2.length)<|some v2):Option ((List aD))).bind λv4=>ck (bm v4.length v4.length)<|some (.inl ((i64.wrap (v1+1)),v4))else ck (bm v2.length v2.length)<|some (.inr v2))
def uG(w1:List aD)(r2:List aD):Stp (Int×(List aD)) (List aD)
 |(v5,v6)=>(bif decide (v5<(w1.length:Int))then(ck (ca v5 w1.length)<|(bp r2 ((0:Nat)+v5:Int)).bind λx2=>((bif decide ((v6.length:Int)>0)then ck (ca (i64.wrap ((v6.length:Int) -1)) v6.length)<|(bp v6 ((0:Nat)+(i64.wrap ((v6.length:Int) -1)):Int)).bind λx3=>some (decide (x2.from_<=(x3.to:Int)))else some false)).bind λv7=>(bif v7 then ck (ca (i64.wrap ((v6.length:Int) -1)) v6.length)<|(bp v6 ((0:Nat)+(i64.wrap ((v6.length:Int) -1)):Int)).bind λx4=>ck (ca (i64.wrap ((v6.length:Int) -1)) v6.length)<|(bp v6 ((0:Nat)+(i64.wrap ((v6.length:Int) -1)):Int)).bind λx5=>ck (bm v6.length (v6.set ((0:Nat)+(i64.wrap ((v6.length:Int) -1)):Int).toNat (aD.mk x5.from_ (max x4.to x2.to))).length)<|some (v6.set ((0:Nat)+(i64.wrap ((v6.length:Int) -1)):Int).toNat (aD.mk x5.from_ (max x4.to x2.to)))else ck (bW v6.length v6.length (sub ([x2]:List aD) 0 1).length 1 16)<|kX (v6++(sub ([x2]:List aD) 0 1)) λr3=>ck (bm r3.length r3.length)<|some r3):Option ((List aD))).bind λv8=>ck (bm v8.length v8.length)<|some (.inl ((i64.wrap (v5+1)),v8))else ck (bm v6.length v6.length)<|some (.inr v6))
def LG(a0:List ay)(a1:Int):Option (List aD):=
 ck (bm 0 ([]:List aD).length)<|(iter (uF a0 a1) n ((0:Int),([]:List aD))).bind λw1=>ck (bm w1.length w1.length)<|(qg n w1 (λ (y1:aD×aD×Unit)=>zo y1.1 y1.2.1)).bind λr2=>ck (bm 0 ([]:List aD).length)<|(iter (uG w1 r2) n ((0:Int),([]:List aD))).bind λw2=>ck (bm (sub w2 0 w2.length).length w2.length)<|some (sub w2 0 w2.length)
def uH(r1:List ay):Stp (Int×(List Int)) (List Int)
 |(v1,v2)=>(bif decide (v1<(r1.length:Int))then ck (ca v1 r1.length)<|(bp r1 ((0:Nat)+v1:Int)).bind λx1=>ck (bW v2.length v2.length (sub ([x1.x0,x1.x1]:List Int) 0 2).length 2 8)<|kX (v2++(sub ([x1.x0,x1.x1]:List Int) 0 2)) λr2=>ck (bm r2.length r2.length)<|some (.inl ((i64.wrap (v1+1)),r2))else ck (bm v2.length v2.length)<|some (.inr v2))
def uI(r1:List ay)(r4:Unit×(List Int)):Stp (Int×(List bQ)) (List bQ)
 |(v3,v4)=>(bif decide (v3<(r4.2.length:Int))then ck (ca (i64.wrap (v3 -1)) r4.2.length)<|(bp r4.2 ((0:Nat)+(i64.wrap (v3 -1)):Int)).bind λx2=>ck (ca v3 r4.2.length)<|(bp r4.2 ((0:Nat)+v3:Int)).bind λx3=>ck (ca (i64.wrap (v3 -1)) r4.2.length)<|(bp r4.2 ((0:Nat)+(i64.wrap (v3 -1)):Int)).bind λx4=>ck (bm (sub r1 0 r1.length).length r1.length)<|(LG n (sub r1 0 r1.length) x4).bind λr5=>ck (bm (sub r5 0 r5.length).length r5.length)<|ck (bW v4.length v4.length (sub ([(bQ.mk x2 x3 (sub r5 0 r5.length))]:List bQ) 0 1).length 1 40)<|kX (v4++(sub ([(bQ.mk x2 x3 (sub r5 0 r5.length))]:List bQ) 0 1)) λr6=>ck (bm r6.length r6.length)<|some (.inl ((i64.wrap (v3+1)),r6))else ck (bm v4.length v4.length)<|some (.inr v4))
def oO(a0:List (List ay)):Option (List bQ):=
 (Ay n a0).bind λr1=>ck (bm 0 ([]:List Int).length)<|(iter (uH r1) n ((0:Int),([]:List Int))).bind λw1=>ck (bm w1.length w1.length)<|(nM n w1).bind λr3=>ck (bm w1.length r3.length)<|(pU n r3).bind λr4=>ck (bm 0 ([]:List bQ).length)<|(iter (uI n r1 r4) n ((1:Int),([]:List bQ))).bind λw2=>ck (bm (sub w2 0 w2.length).length w2.length)<|some (sub w2 0 w2.length)
def RA(a0:List aD)(a1:List aD):Stp Int (Unit⊕Bool)
 |v1=>(bif decide (v1<(a0.length:Int))then(bp a0 v1).bind λx1=>(bp a1 v1).bind λx2=>(bif (!((x1.from_==(x2.from_:Int))&&((x1.to==(x2.to:Int))&&true)))then(some false).map λa=> .inr (.inr a)else some (.inl (i64.wrap (v1+1))))else some (.inr (.inl ())))
def wN(a0:List aD)(a1:List aD):Option Bool:=
 (bif ((a0.length:Int) !=(a1.length:Int))then some false else dh (iter (RA a0 a1) n (0:Int)) λ()=>some true)
def tO(a0:List bQ)(v1:Int):Stp Int Int
 |v3=>((bif decide (v3<(a0.length:Int))then(bp a0 v3).bind λx1=>(bp a0 v1).bind λx2=>(wN n x1.column x2.column).bind λr1=>some r1 else some false)).bind λv4=>(bif v4 then some (.inl (i64.wrap (v3+1)))else some (.inr v3))
def xI(a0:List bQ)(v1:Int)(w1:Int)(x3:bQ):Stp (Int×(List ay)) (List ay)
 |(v5,v6)=>(bif decide (v5<(x3.column.length:Int))then(bp x3.column v5).bind λx4=>(bp a0 v1).bind λx5=>(bp a0 (i64.wrap (w1 -1))).bind λx6=>ck (bW v6.length v6.length (sub ([(ay.mk x5.x0 x4.from_ x6.x1 x4.to)]:List ay) 0 1).length 1 32)<|kX (v6++(sub ([(ay.mk x5.x0 x4.from_ x6.x1 x4.to)]:List ay) 0 1)) λr2=>ck (bm r2.length r2.length)<|some (.inl ((i64.wrap (v5+1)),r2))else ck (bm v6.length v6.length)<|some (.inr v6))
def xJ(a0:List bQ):Stp (Int×(List ay)) (List ay)
 |(v1,v2)=>(bif decide (v1<(a0.length:Int))then(iter (tO n a0 v1) n (i64.wrap (v1+1))).bind λw1=>(bp a0 v1).bind λx3=>ck (bm v2.length v2.length)<|(iter (xI a0 v1 w1 x3) n ((0:Int),v2)).bind λw2=>ck (bm w2.length w2.length)<|some (.inl (w1,w2))else ck (bm v2.length v2.length)<|some (.inr v2))
def Kw(a0:List bQ):Option (List ay):=
 ck (bm 0 ([]:List ay).length)<|(iter (xJ n a0) n ((0:Int),([]:List ay))).bind λw3=>ck (bm (sub w3 0 w3.length).length w3.length)<|some (sub w3 0 w3.length)
def AB(a0:List ay):Option ((List ay)×Int):=
 (bif decide ((a0.length:Int)>200)then some (([]:(List ay)),(6:Int))else some (a0,(0:Int)))
def Px(a0:List ay):Stp Int (Unit⊕((List ay)×Int))
 |v1=>(bif decide (v1<(a0.length:Int))then(bp a0 v1).bind λx1=>(pu x1).bind λr1=>(bif (!r1)then(some (([]:(List ay)),(1:Int))).map λa=> .inr (.inr a)else some (.inl (i64.wrap (v1+1))))else some (.inr (.inl ())))
def LN(a0:List ay):Option ((List ay)×Int):=
 dh (iter (Px a0) n (0:Int)) λ()=>(bif decide ((a0.length:Int)>400)then some (([]:(List ay)),(6:Int))else ck (bm (sub ([a0]:List (List ay)) 0 1).length 1)<|(oO n (sub ([a0]:List (List ay)) 0 1)).bind λr2=>ck (bm (sub r2 0 r2.length).length r2.length)<|(Kw n (sub r2 0 r2.length)).bind λr3=>ck (bm (sub r3 0 r3.length).length r3.length)<|(AB (sub r3 0 r3.length)).bind λr4=>some (r4.1,r4.2))
def RB(a0:List ay)(a1:List ay):Stp Int (Unit⊕Bool)
 |v1=>(bif decide (v1<(a0.length:Int))then(bp a0 v1).bind λx1=>(bp a1 v1).bind λx2=>(bif (!((x1.x0==(x2.x0:Int))&&((x1.y0==(x2.y0:Int))&&((x1.x1==(x2.x1:Int))&&((x1.y1==(x2.y1:Int))&&true)))))then(some false).map λa=> .inr (.inr a)else some (.inl (i64.wrap (v1+1))))else some (.inr (.inl ())))
def oP(a0:List ay)(a1:List ay):Option Bool:=
 (bif ((a0.length:Int) !=(a1.length:Int))then some false else dh (iter (RB a0 a1) n (0:Int)) λ()=>some true)
def oF(a0:List ay):Option Bool:=
 (LN n a0).bind λr1=>(bif (r1.2==0)then(oP n r1.1 a0).bind λr2=>some r2 else some false)
def lZ(a0:List bQ)(a1:Int)(a2:(bQ×Int×Unit)->Option Int):Stp (Int×Int) Int
 |(v1,v2)=>(bif decide (v1<(v2:Int))then ck (decide (0<=1)&&decide (1<=IntKind.u64.bits))<|(bp a0 (i64.wrap ((IntKind.u64.wrap (i64.wrap (v1+v2)))/2 ^ (1:Int).toNat))).bind λx1=>(a2 (x1,a1,())).bind λr1=>(bif decide (r1<0)then some (.inl ((i64.wrap ((i64.wrap ((IntKind.u64.wrap (i64.wrap (v1+v2)))/2 ^ (1:Int).toNat))+1)),v2))else some (.inl (v1,(i64.wrap ((IntKind.u64.wrap (i64.wrap (v1+v2)))/2 ^ (1:Int).toNat)))))else some (.inr v1))
def jg(a0:List bQ)(a1:Int)(a2:(bQ×Int×Unit)->Option Int):Option (Int×Bool):=
 (iter (lZ a0 a1 a2) n ((0:Int),(a0.length:Int))).bind λw1=>(bif decide (w1<(a0.length:Int))then(bp a0 w1).bind λx2=>(a2 (x2,a1,())).bind λr2=>some (w1,(r2==0))else some (w1,false))
def xK(a0:bQ)(a1:Int):Option Int:=
 (bif decide (a0.x1<=(a1:Int))then some ((-1):Int)else some (1:Int))
def XW(a0:List bQ)(a1:Int):Option (List aD):=
 (jg n a0 a1 (λ (y1:bQ×Int×Unit)=>xK y1.1 y1.2.1)).bind λr1=>((bif decide (r1.1<(a0.length:Int))then(bp a0 r1.1).bind λx1=>some (decide (x1.x0<=(a1:Int)))else some false)).bind λv1=>(bif v1 then(bp a0 r1.1).bind λx2=>some x2.column else some ([]:(List aD)))
def Py(a0:Unit)(a1:Int):Option (List aD):=
 (bif decide (a1<0)then none else(bif (decide ((i64.wrap (a1 -(i64.wrap (0 -0))))>0))then ck (Bz (i64.wrap (a1 -(i64.wrap (0 -0)))) 16)<|ck (Ag 0 0 ((i64.wrap (a1 -(i64.wrap (0 -0)))).toNat))<|ck (bm (sub (List.replicate (i64.wrap (a1 -(i64.wrap (0 -0)))).toNat (aD.mk 0 0)) 0 0).length 0)<|some (sub (List.replicate (i64.wrap (a1 -(i64.wrap (0 -0)))).toNat (aD.mk 0 0)) 0 0)else some ([]:(List aD))))
def Pz(a0:List (List aD)):Stp (Int×Int) Int
 |(v1,v2)=>(bif decide (v2<(a0.length:Int))then(bp a0 v2).bind λx1=>(bif decide ((i64.wrap (v1+(x1.length:Int)))<0)then none else some (.inl ((i64.wrap (v1+(x1.length:Int))),(i64.wrap (v2+1)))))else some (.inr v1))
def PD(a0:List (List aD)):Stp (Int×(List aD)) (List aD)
 |(v3,v4)=>(bif decide (v3<(a0.length:Int))then(bp a0 v3).bind λx2=>ck (bW v4.length v4.length x2.length x2.length 16)<|kX (v4++x2) λr2=>ck (bm r2.length r2.length)<|some (.inl ((i64.wrap (v3+1)),r2))else ck (bm v4.length v4.length)<|some (.inr v4))
def AJ(a0:List (List aD)):Option (List aD):=
 (iter (Pz a0) n ((0:Int),(0:Int))).bind λw1=>(Py () w1).bind λr1=>ck (bm r1.length r1.length)<|(iter (PD a0) n ((0:Int),r1)).bind λw2=>ck (bm (sub w2 0 w2.length).length w2.length)<|some (sub w2 0 w2.length)
def mZ(a0:List aD)(a1:Int)(a2:(aD×Int×Unit)->Option Int):Stp (Int×Int) Int
 |(v1,v2)=>(bif decide (v1<(v2:Int))then ck (decide (0<=1)&&decide (1<=IntKind.u64.bits))<|(bp a0 (i64.wrap ((IntKind.u64.wrap (i64.wrap (v1+v2)))/2 ^ (1:Int).toNat))).bind λx1=>(a2 (x1,a1,())).bind λr1=>(bif decide (r1<0)then some (.inl ((i64.wrap ((i64.wrap ((IntKind.u64.wrap (i64.wrap (v1+v2)))/2 ^ (1:Int).toNat))+1)),v2))else some (.inl (v1,(i64.wrap ((IntKind.u64.wrap (i64.wrap (v1+v2)))/2 ^ (1:Int).toNat)))))else some (.inr v1))
def jC(a0:List aD)(a1:Int)(a2:(aD×Int×Unit)->Option Int):Option (Int×Bool):=
 (iter (mZ a0 a1 a2) n ((0:Int),(a0.length:Int))).bind λw1=>(bif decide (w1<(a0.length:Int))then(bp a0 w1).bind λx2=>(a2 (x2,a1,())).bind λr2=>some (w1,(r2==0))else some (w1,false))
def l5(a0:aD)(a1:Int):Option Int:=
 (bif decide (a0.to<=(a1:Int))then some ((-1):Int)else some (1:Int))
def Fv(a0:List aD)(a1:Int):Option Bool:=
 (jC n a0 a1 (λ (y1:aD×Int×Unit)=>l5 y1.1 y1.2.1)).bind λr1=>(bif decide (r1.1<(a0.length:Int))then(bp a0 r1.1).bind λx1=>some (decide (x1.from_<=(a1:Int)))else some false)
def xL(r1:List aD):Stp (Int×(List Int)) (List Int)
 |(v1,v2)=>(bif decide (v1<(r1.length:Int))then ck (ca v1 r1.length)<|(bp r1 ((0:Nat)+v1:Int)).bind λx1=>ck (bW v2.length v2.length (sub ([x1.from_,x1.to]:List Int) 0 2).length 2 8)<|kX (v2++(sub ([x1.from_,x1.to]:List Int) 0 2)) λr2=>ck (bm r2.length r2.length)<|some (.inl ((i64.wrap (v1+1)),r2))else ck (bm v2.length v2.length)<|some (.inr v2))
def xM(a0:List aD)(a1:List aD)(a2:(Bool×Bool×Unit)->Option Bool)(r4:Unit×(List Int)):Stp (Int×(List aD)) (List aD)
 |(v3,v4)=>(bif decide (v3<(r4.2.length:Int))then(ck (ca (i64.wrap (v3 -1)) r4.2.length)<|(bp r4.2 ((0:Nat)+(i64.wrap (v3 -1)):Int)).bind λx2=>(Fv n a0 x2).bind λr5=>(Fv n a1 x2).bind λr6=>(a2 (r5,r6,())).bind λr7=>(bif (!r7)then ck (bm v4.length v4.length)<|some v4 else((bif decide ((v4.length:Int)>0)then ck (ca (i64.wrap ((v4.length:Int) -1)) v4.length)<|(bp v4 ((0:Nat)+(i64.wrap ((v4.length:Int) -1)):Int)).bind λx3=>some (x3.to==(x2:Int))else some false)).bind λv5=>(bif v5 then ck (ca v3 r4.2.length)<|(bp r4.2 ((0:Nat)+v3:Int)).bind λx4=>ck (ca (i64.wrap ((v4.length:Int) -1)) v4.length)<|(bp v4 ((0:Nat)+(i64.wrap ((v4.length:Int) -1)):Int)).bind λx5=>ck (bm v4.length (v4.set ((0:Nat)+(i64.wrap ((v4.length:Int) -1)):Int).toNat (aD.mk x5.from_ x4)).length)<|some (v4.set ((0:Nat)+(i64.wrap ((v4.length:Int) -1)):Int).toNat (aD.mk x5.from_ x4))else ck (ca v3 r4.2.length)<|(bp r4.2 ((0:Nat)+v3:Int)).bind λx6=>ck (bW v4.length v4.length (sub ([(aD.mk x2 x6)]:List aD) 0 1).length 1 16)<|kX (v4++(sub ([(aD.mk x2 x6)]:List aD) 0 1)) λr8=>ck (bm r8.length r8.length)<|some r8)):Option ((List aD))).bind λv6=>ck (bm v6.length v6.length)<|some (.inl ((i64.wrap (v3+1)),v6))else ck (bm v4.length v4.length)<|some (.inr v4))
def Ky(a0:List aD)(a1:List aD)(a2:(Bool×Bool×Unit)->Option Bool):Option (List aD):=
 ck (bm (sub ([a0,a1]:List (List aD)) 0 2).length 2)<|(AJ n (sub ([a0,a1]:List (List aD)) 0 2)).bind λr1=>ck (bm 0 ([]:List Int).length)<|(iter (xL r1) n ((0:Int),([]:List Int))).bind λw1=>ck (bm w1.length w1.length)<|(nM n w1).bind λr3=>ck (bm w1.length r3.length)<|(pU n r3).bind λr4=>ck (bm 0 ([]:List aD).length)<|(iter (xM n a0 a1 a2 r4) n ((1:Int),([]:List aD))).bind λw2=>ck (bm (sub w2 0 w2.length).length w2.length)<|some (sub w2 0 w2.length)
def rF(a2:(Bool×Bool×Unit)->Option Bool)(r3:List bQ)(r4:List bQ)(r5:List bQ):Stp (Int×(List bQ)) (List bQ)
 |(v2,v3)=>(bif decide (v2<(r5.length:Int))then ck (ca v2 r5.length)<|(bp v3 ((0:Nat)+v2:Int)).bind λx1=>(XW n (sub r3 0 r3.length) x1.x0).bind λr6=>(XW n (sub r4 0 r4.length) x1.x0).bind λr7=>(Ky n r6 r7 a2).bind λr8=>ck (ca v2 r5.length)<|ck (bm (sub r8 0 r8.length).length r8.length)<|(bp v3 ((0:Nat)+v2:Int)).bind λx2=>some (.inl ((i64.wrap (v2+1)),(v3.set ((0:Nat)+v2:Int).toNat (bQ.mk x2.x0 x2.x1 (sub r8 0 r8.length)))))else some (.inr v3))
def G7(a0:List ay)(a1:List ay)(a2:(Bool×Bool×Unit)->Option Bool):Option ((List ay)×Int):=
 ((oF n a0).bind λr1=>(bif (!r1)then some true else(oF n a1).bind λr2=>some (!r2))).bind λv1=>(bif v1 then some (([]:(List ay)),(1:Int))else ck (bm (sub ([a0]:List (List ay)) 0 1).length 1)<|(oO n (sub ([a0]:List (List ay)) 0 1)).bind λr3=>ck (bm (sub ([a1]:List (List ay)) 0 1).length 1)<|(oO n (sub ([a1]:List (List ay)) 0 1)).bind λr4=>ck (bm (sub r3 0 r3.length).length r3.length)<|ck (bm (sub r4 0 r4.length).length r4.length)<|ck (bm (sub ([a0,a1]:List (List ay)) 0 2).length 2)<|(oO n (sub ([a0,a1]:List (List ay)) 0 2)).bind λr5=>(iter (rF n a2 r3 r4 r5) n ((0:Int),r5)).bind λw1=>ck (bm (sub w1 0 r5.length).length r5.length)<|(Kw n (sub w1 0 r5.length)).bind λr9=>ck (bm (sub r9 0 r9.length).length r9.length)<|(AB (sub r9 0 r9.length)).bind λuk=>some (uk.1,uk.2))
def zq(a0:Bool)(a1:Bool):Option Bool:=
 (bif a0 then some a1 else some false)
def LJ(a0:List ay)(a1:List ay):Option ((List ay)×Int):=
 (G7 n a0 a1 (λ (y1:Bool×Bool×Unit)=>zq y1.1 y1.2.1)).bind λr1=>some (r1.1,r1.2)
def AL(a0:ay):Option Int:=
 (z8 a0).bind λr1=>some (i64.wrap ((i64.wrap (r1.1.x1 -r1.1.x0))*(i64.wrap (r1.1.y1 -r1.1.y0))))
def G8(a0:List ay):Stp (Int×Int) Int
 |(v1,v2)=>(bif decide (v2<(a0.length:Int))then(bp a0 v2).bind λx1=>(AL x1).bind λr2=>some (.inl ((i64.wrap (v1+r2)),(i64.wrap (v2+1))))else some (.inr v1))
def PE(a0:List ay):Option Int:=
 (oF n a0).bind λr1=>(bif (!r1)then some (0:Int)else(iter (G8 a0) n ((0:Int),(0:Int))).bind λw1=>some w1)
def vT(a0:ig)(a1:bP):Option Bool:=
 some (ByteArray.toList a0.name==ByteArray.toList a1.name)
def Me(a0:List ig)(a1:(ig×Unit)->Option Bool):Stp Int (Unit⊕Int)
 |v1=>(bif decide (v1<(a0.length:Int))then(bp a0 v1).bind λx1=>(a1 (x1,())).bind λr1=>(bif r1 then(some v1).map λa=> .inr (.inr a)else some (.inl (i64.wrap (v1+1))))else some (.inr (.inl ())))
def vU(a0:List ig)(a1:(ig×Unit)->Option Bool):Option Int:=
 dh (iter (Me a0 a1) n (0:Int)) λ()=>some ((-1):Int)
def ni(a0:List ig)(a1:(ig×Unit)->Option Bool):Option Bool:=
 (vU n a0 a1).bind λr1=>some (decide (r1>=0))
def j5(a1:gZ)(r3:List aF):Stp Int (Unit⊕Bool)
 |v2=>(bif decide (v2<(r3.length:Int))then ck (ca v2 r3.length)<|(bp r3 ((0:Nat)+v2:Int)).bind λx1=>ck (bm (sub ([(ay.mk x1.bz x1.cj x1.bx x1.ci)]:List ay) 0 1).length 1)<|(LJ n a1.area (sub ([(ay.mk x1.bz x1.cj x1.bx x1.ci)]:List ay) 0 1)).bind λr4=>((bif (r4.2 !=0)then some true else(PE n r4.1).bind λr5=>(AL (ay.mk x1.bz x1.cj x1.bx x1.ci)).bind λr6=>some (decide (r5<(r6:Int))))).bind λv3=>(bif v3 then(some false).map λa=> .inr (.inr a)else some (.inl (i64.wrap (v2+1))))else some (.inr (.inl ())))
def j6(a0:cK)(x2:iH):Stp Int (Unit⊕(Int⊕(Unit⊕Bool)))
 |v5=>(bif decide (v5<(x2.gives.length:Int))then(bp x2.gives v5).bind λx3=>(ni n a0.caps (λ (y1:ig×Unit)=>vT y1.1 x3)).bind λr7=>(bif (!r7)then((some false).map λa=> .inr (.inr a)).map λa=> .inr (.inr a)else some (.inl (i64.wrap (v5+1))))else some (.inr (.inl ())))
def kg(a0:cK)(a2:aV):Stp Int (Unit⊕Bool)
 |v4=>(bif decide (v4<(a2.phases.length:Int))then(bp a2.phases v4).bind λx2=>dh (iter (j6 n a0 x2) n (0:Int)) λ()=>some (.inl (i64.wrap (v4+1)))else some (.inr (.inl ())))
def oQ(a0:cK)(a1:gZ)(a2:aV):Option Bool:=
 ((zk n a2).bind λr1=>(bif (!r1)then some true else(bif (a1.id !=(a2.lot:Int))then some true else(oF n a1.area).bind λr2=>some (!r2)))).bind λv1=>(bif v1 then some false else(xD n a2).bind λr3=>dh (iter (j5 n a1 r3) n (0:Int)) λ()=>dh (iter (kg n a0 a2) n (0:Int)) λ()=>some true)
def pz(a0:aV):Stp (Int×(List aF)) (List aF)
 |(v1,v2)=>(bif decide (v1<(a0.phases.length:Int))then(bp a0.phases v1).bind λx1=>ck (bW v2.length v2.length x1.cx.length x1.cx.length 72)<|kX (v2++x1.cx) λr1=>ck (bm r1.length r1.length)<|some (.inl ((i64.wrap (v1+1)),r1))else ck (bm v2.length v2.length)<|some (.inr v2))
def uJ(a0:aV):Option (List aF):=
 ck (bm 0 ([]:List aF).length)<|(iter (pz a0) n ((0:Int),([]:List aF))).bind λw1=>ck (bm (sub w1 0 w1.length).length w1.length)<|some (sub w1 0 w1.length)
def pE(a0:List dJ):Stp (Int×(List jE)) (List jE)
 |(v1,v2)=>(bif decide (v1<(a0.length:Int))then(bp a0 v1).bind λx1=>ck ((a0.length:Int) !=0)<|(bp a0 (Int.tmod (i64.wrap (v1+1)) (a0.length:Int))).bind λx2=>ck (ca v1 ((a0.length:Int).toNat))<|(bp v2 ((0:Nat)+v1:Int)).bind λx3=>some (.inl ((i64.wrap (v1+1)),(v2.set ((0:Nat)+v1:Int).toNat (jE.mk x1.x x1.y x2.x x2.y))))else some (.inr v2))
def pV(a0:List dJ):Option (List jE):=
 ck (decide ((a0.length:Int)<=(a0.length:Int))&&(decide (0<=(a0.length:Int))&&Bz (a0.length:Int) 32))<|(iter (pE a0) n ((0:Int),(List.replicate (a0.length:Int).toNat (jE.mk 0 0 0 0)))).bind λw1=>ck (bm (sub w1 0 ((a0.length:Int).toNat)).length ((a0.length:Int).toNat))<|some (sub w1 0 ((a0.length:Int).toNat))
def uK(a0:dJ):Option Bool:=
 (bif decide (0<=(a0.x:Int))then(bif decide (a0.x<=1048576)then(bif decide (0<=(a0.y:Int))then some (decide (a0.y<=1048576))else some false)else some false)else some false)
def gP(a0:jE):Option Bool:=
 some (a0.lE==(a0.me:Int))
def wO(a0:List Int):Stp Int (Unit⊕Int)
 |v1=>(bif decide (v1<(a0.length:Int))then(bp a0 v1).bind λx1=>(bif (x1 !=0)then(some x1).map λa=> .inr (.inr a)else some (.inl (i64.wrap (v1+1))))else some (.inr (.inl ())))
def sP(a0:List Int):Option Int:=
 dh (iter (wO a0) n (0:Int)) λ()=>some (0:Int)
def rY(a0:dJ)(a1:dJ):Option Int:=
 (cmp_Compare_int a0.x a1.x).bind λr1=>(cmp_Compare_int a0.y a1.y).bind λr2=>ck (bm (sub ([r1,r2]:List Int) 0 2).length 2)<|(sP n (sub ([r1,r2]:List Int) 0 2)).bind λr3=>some r3
def l6(a0:jE)(a1:jE):Option Bool:=
 (bif decide ((max (min a0.lE a0.me) (min a1.lE a1.me))<=((min (max a0.lE a0.me) (max a1.lE a1.me)):Int))then some (decide ((max (min a0.pp a0.tp) (min a1.pp a1.tp))<=((min (max a0.pp a0.tp) (max a1.pp a1.tp)):Int)))else some false)
def qh(a0:List dJ)(r1:List jE):Stp Int (Unit⊕Bool)
 |v2=>(bif decide (v2<(r1.length:Int))then ck (ca v2 r1.length)<|(bp r1 ((0:Nat)+v2:Int)).bind λx1=>ck ((r1.length:Int) !=0)<|ck (ca (Int.tmod (i64.wrap (v2+1)) (r1.length:Int)) r1.length)<|(bp r1 ((0:Nat)+(Int.tmod (i64.wrap (v2+1)) (r1.length:Int)):Int)).bind λx2=>((uK (dJ.mk x1.lE x1.pp)).bind λr2=>(bif (!r2)then some true else(bif ((x1.lE==(x1.me:Int))==(x1.pp==(x1.tp:Int)))then some true else(gP x1).bind λr3=>(gP x2).bind λr4=>some (r3==r4)))).bind λv3=>(bif v3 then(some false).map λa=> .inr (.inr a)else((bif decide (v2>0)then(bp a0 0).bind λx3=>(bp a0 v2).bind λx4=>(rY n x3 x4).bind λr5=>some (decide (r5>=0))else some false)).bind λv4=>(bif v4 then(some false).map λa=> .inr (.inr a)else some (.inl (i64.wrap (v2+1)))))else some (.inr (.inl ())))
def iX(r1:List jE)(v5:Int):Stp Int (Unit⊕(Int⊕(Unit⊕Bool)))
 |v6=>(bif decide (v6<(r1.length:Int))then((bif (decide ((i64.wrap ((i64.wrap (v5+(r1.length:Int))) -v6))>1))then ck (ca v5 r1.length)<|(bp r1 ((0:Nat)+v5:Int)).bind λx5=>ck (ca v6 r1.length)<|(bp r1 ((0:Nat)+v6:Int)).bind λx6=>(l6 x5 x6).bind λr6=>some r6 else some false)).bind λv7=>(bif v7 then((some false).map λa=> .inr (.inr a)).map λa=> .inr (.inr a)else some (.inl (i64.wrap (v6+1))))else some (.inr (.inl ())))
def qi(r1:List jE):Stp Int (Unit⊕Bool)
 |v5=>(bif decide (v5<(r1.length:Int))then dh (iter (iX r1 v5) n (i64.wrap (v5+2))) λ()=>some (.inl (i64.wrap (v5+1)))else some (.inr (.inl ())))
def wP(a0:List dJ):Option Bool:=
 ((bif decide ((a0.length:Int)<4)then some true else some (decide ((a0.length:Int)>60)))).bind λv1=>(bif v1 then some false else(pV n a0).bind λr1=>dh (iter (qh n a0 r1) n (0:Int)) λ()=>dh (iter (qi n r1) n (0:Int)) λ()=>ck (ca 0 r1.length)<|(bp r1 ((0:Nat)+0:Int)).bind λx7=>(gP x7).bind λr7=>some (!r7))
def l7(a0:List dJ):Stp (Int×(List Int)) (List Int)
 |(v1,v2)=>(bif decide (v1<(a0.length:Int))then(bp a0 v1).bind λx1=>ck (bW v2.length v2.length (sub ([x1.x]:List Int) 0 1).length 1 8)<|kX (v2++(sub ([x1.x]:List Int) 0 1)) λr2=>ck (bm r2.length r2.length)<|some (.inl ((i64.wrap (v1+1)),r2))else ck (bm v2.length v2.length)<|some (.inr v2))
def l8(r4:Unit×(List Int))(r5:List jE)(v3:Int):Stp (Int×(List Int)) (List Int)
 |(v5,v6)=>(bif decide (v5<(r5.length:Int))then(ck (ca v5 r5.length)<|(bp r5 ((0:Nat)+v5:Int)).bind λx2=>((gP x2).bind λr6=>(bif (!r6)then ck (ca v3 r4.2.length)<|(bp r4.2 ((0:Nat)+v3:Int)).bind λx3=>(bif decide ((min x2.lE x2.me)<=(x3:Int))then ck (ca v3 r4.2.length)<|(bp r4.2 ((0:Nat)+v3:Int)).bind λx4=>some (decide (x4<((max x2.lE x2.me):Int)))else some false)else some false)).bind λv7=>(bif v7 then ck (bW v6.length v6.length (sub ([x2.pp]:List Int) 0 1).length 1 8)<|kX (v6++(sub ([x2.pp]:List Int) 0 1)) λr7=>ck (bm r7.length r7.length)<|some r7 else ck (bm v6.length v6.length)<|some v6):Option ((List Int))).bind λv8=>ck (bm v8.length v8.length)<|some (.inl ((i64.wrap (v5+1)),v8))else ck (bm v6.length v6.length)<|some (.inr v6))
def jq(r4:Unit×(List Int))(v3:Int)(w2:List Int)(r8:List Int):Stp (Int×(List ay)) (List ay)
 |(v9,v10)=>(bif decide ((i64.wrap (v9+1))<(w2.length:Int))then ck (ca v3 r4.2.length)<|(bp r4.2 ((0:Nat)+v3:Int)).bind λx5=>ck (ca v9 w2.length)<|(bp r8 ((0:Nat)+v9:Int)).bind λx6=>ck (ca (i64.wrap (v3+1)) r4.2.length)<|(bp r4.2 ((0:Nat)+(i64.wrap (v3+1)):Int)).bind λx7=>ck (ca (i64.wrap (v9+1)) w2.length)<|(bp r8 ((0:Nat)+(i64.wrap (v9+1)):Int)).bind λx8=>ck (bW v10.length v10.length (sub ([(ay.mk x5 x6 x7 x8)]:List ay) 0 1).length 1 32)<|kX (v10++(sub ([(ay.mk x5 x6 x7 x8)]:List ay) 0 1)) λr9=>ck (bm r9.length r9.length)<|some (.inl ((i64.wrap (v9+2)),r9))else ck (bm v10.length v10.length)<|some (.inr v10))
def l9(r4:Unit×(List Int))(r5:List jE):Stp (Int×(List ay)) (List ay)
 |(v3,v4)=>(bif (decide (v3<((i64.wrap ((r4.2.length:Int) -1)):Int)))then ck (bm 0 ([]:List Int).length)<|(iter (l8 r4 r5 v3) n ((0:Int),([]:List Int))).bind λw2=>ck (bm w2.length w2.length)<|(nM n w2).bind λr8=>ck (bm v4.length v4.length)<|(iter (jq r4 v3 w2 r8) n ((0:Int),v4)).bind λw3=>ck (bm w3.length w3.length)<|some (.inl ((i64.wrap (v3+1)),w3))else ck (bm v4.length v4.length)<|some (.inr v4))
def uL(a0:List dJ):Option ((List ay)×Int):=
 (wP n a0).bind λr1=>(bif (!r1)then some (([]:(List ay)),(10:Int))else ck (bm 0 ([]:List Int).length)<|(iter (l7 a0) n ((0:Int),([]:List Int))).bind λw1=>ck (bm w1.length w1.length)<|(nM n w1).bind λr3=>ck (bm w1.length r3.length)<|(pU n r3).bind λr4=>(pV n a0).bind λr5=>ck (bm 0 ([]:List ay).length)<|(iter (l9 n r4 r5) n ((0:Int),([]:List ay))).bind λw4=>(bif decide ((w4.length:Int)>200)then some (([]:(List ay)),(6:Int))else ck (bm (sub w4 0 w4.length).length w4.length)<|some ((sub w4 0 w4.length),(0:Int))))
def zu(a0:dY):Option (List ay):=
 (uL n a0.corners).bind λr1=>(bif (r1.2 !=0)then some ([]:(List ay))else ck (bm (sub r1.1 0 r1.1.length).length r1.1.length)<|some (sub r1.1 0 r1.1.length))
def qj(a1:List ay)(x1:ay):Stp (Int×Int×Int×Int) (Int×Int×Int)
 |(v5,v6,v7,v8)=>(bif decide (v6<(a1.length:Int))then((bp a1 v6).bind λx2=>(tN x1 x2).bind λr1=>(bif (!r1.2)then some (v5,v7,v8)else(AL r1.1).bind λr2=>(cmp_Compare_int r1.1.x0 v7).bind λr3=>(cmp_Compare_int r1.1.y0 v8).bind λr4=>ck (bm (sub ([r3,r4]:List Int) 0 2).length 2)<|(sP n (sub ([r3,r4]:List Int) 0 2)).bind λr5=>(bif decide (r5<0)then some ((i64.wrap (v5+r2)),r1.1.x0,r1.1.y0)else some ((i64.wrap (v5+r2)),v7,v8))):Option (Int×Int×Int)).bind λ(v9,v10,v11)=>some (.inl (v9,(i64.wrap (v6+1)),v10,v11))else some (.inr (v5,v7,v8)))
def ql(a0:List ay)(a1:List ay):Stp (Int×Int×Int×Int) (Int×Int×Int)
 |(v1,v2,v3,v4)=>(bif decide (v2<(a0.length:Int))then(bp a0 v2).bind λx1=>(iter (qj n a1 x1) n (v1,(0:Int),v3,v4)).bind λ(w1,w2,w3)=>some (.inl (w1,(i64.wrap (v2+1)),w2,w3))else some (.inr (v1,v3,v4)))
def wQ(a0:List ay)(a1:List ay):Option (Int×dJ):=
 (iter (ql n a0 a1) n ((0:Int),(0:Int),(1048576:Int),(0:Int))).bind λ(w4,w5,w6)=>some (w4,(dJ.mk w5 w6))
def qm(a0:cK)(a1:List ay):Stp (Int×(List Int)) (List Int)
 |(v1,v2)=>(bif decide (v1<(a0.zones.length:Int))then(bp a0.zones v1).bind λx1=>(zu n x1).bind λr2=>ck (bm (sub r2 0 r2.length).length r2.length)<|(wQ n a1 (sub r2 0 r2.length)).bind λr3=>ck (bW v2.length v2.length (sub ([r3.1]:List Int) 0 1).length 1 8)<|kX (v2++(sub ([r3.1]:List Int) 0 1)) λr4=>ck (bm r4.length r4.length)<|some (.inl ((i64.wrap (v1+1)),r4))else ck (bm v2.length v2.length)<|some (.inr v2))
def wR(a0:cK)(a1:List ay):Option (List Int):=
 (oF n a1).bind λr1=>(bif (!r1)then some ([]:(List Int))else ck (bm 0 ([]:List Int).length)<|(iter (qm n a0 a1) n ((0:Int),([]:List Int))).bind λw1=>ck (bm (sub w1 0 w1.length).length w1.length)<|some (sub w1 0 w1.length))
def qo(a0:cK)(r1:List Int):Stp (Int×Int) Int
 |(v1,v2)=>(bif decide (v2<(r1.length:Int))then(ck (ca v2 r1.length)<|(bp r1 ((0:Nat)+v2:Int)).bind λx1=>((bp a0.zones v2).bind λx2=>(bif (!x2.overlay)then(bif decide (x1>0)then(bif decide (v1<0)then some true else ck (ca v1 r1.length)<|(bp r1 ((0:Nat)+v1:Int)).bind λx3=>some (decide (x1>(x3:Int))))else some false)else some false)).bind λv3=>(bif v3 then some v2 else some v1):Option Int).bind λv4=>some (.inl (v4,(i64.wrap (v2+1))))else some (.inr v1))
def zw(a0:cK)(r1:List Int)(w1:Int):Stp (Int×(List ByteArray)) (List ByteArray)
 |(v5,v6)=>(bif decide (v5<(r1.length:Int))then(ck (ca v5 r1.length)<|(bp r1 ((0:Nat)+v5:Int)).bind λx4=>((bif (v5==(w1:Int))then some true else(bp a0.zones v5).bind λx5=>(bif x5.overlay then some (decide (x4>0))else some false))).bind λv7=>(bif v7 then(bp a0.zones v5).bind λx6=>ck (bW v6.length v6.length (sub ([x6.name]:List ByteArray) 0 1).length 1 16)<|kX (v6++(sub ([x6.name]:List ByteArray) 0 1)) λr2=>ck (bm r2.length r2.length)<|some r2 else ck (bm v6.length v6.length)<|some v6):Option ((List ByteArray))).bind λv8=>ck (bm v8.length v8.length)<|some (.inl ((i64.wrap (v5+1)),v8))else ck (bm v6.length v6.length)<|some (.inr v6))
def Fw(a0:cK)(a1:List ay):Option (List ByteArray):=
 (wR n a0 a1).bind λr1=>(iter (qo a0 r1) n (((-1):Int),(0:Int))).bind λw1=>ck (bm 0 ([]:List ByteArray).length)<|(iter (zw a0 r1 w1) n ((0:Int),([]:List ByteArray))).bind λw2=>ck (bm (sub w2 0 w2.length).length w2.length)<|some (sub w2 0 w2.length)
def xN(a0:dG)(a1:aV):Option (mO×Int):=
 (Pm n a0.land a1.lot).bind λr1=>(bif (!r1.2)then some ((mO.mk ([]) ([]) ([]) ([]) ([]) ([]) ([]) 0 ([]) ([]) ([]) ([]) ([]) 0 0 ([]) ([]) 0 ([]) ([]) ([])),(4:Int))else(oQ n (cK.mk a0.cm a0.b7 a0.b8 a0.az a0.cp a0.cd a0.cz a0.cg) r1.1 a1).bind λr2=>(bif (!r2)then some ((mO.mk ([]) ([]) ([]) ([]) ([]) ([]) ([]) 0 ([]) ([]) ([]) ([]) ([]) 0 0 ([]) ([]) 0 ([]) ([]) ([])),(1:Int))else(uJ n a1).bind λr3=>(Fw n (cK.mk a0.cm a0.b7 a0.b8 a0.az a0.cp a0.cd a0.cz a0.cg) r1.1.area).bind λr4=>ck (bm (sub r3 0 r3.length).length r3.length)<|ck (bm (sub r4 0 r4.length).length r4.length)<|some ((mO.mk a0.cm a0.b7 a0.b8 a0.az a0.cp a0.cd a0.cz a0.cg a0.land a0.cy a0.windows a0.built a0.base r1.1.id r1.1.owner r1.1.area r1.1.from_ a1.lot a1.phases (sub r3 0 r3.length) (sub r4 0 r4.length)),(0:Int))))
def nX(a0:List ByteArray)(a1:ByteArray):Stp Int (Unit⊕Int)
 |v1=>(bif decide (v1<(a0.length:Int))then(bp a0 v1).bind λx1=>(bif (ByteArray.toList a1==ByteArray.toList x1)then(some v1).map λa=> .inr (.inr a)else some (.inl (i64.wrap (v1+1))))else some (.inr (.inl ())))
def rZ(a0:List ByteArray)(a1:ByteArray):Option Int:=
 dh (iter (nX a0 a1) n (0:Int)) λ()=>some ((-1):Int)
def fK(a0:List ByteArray)(a1:ByteArray):Option Bool:=
 (rZ n a0 a1).bind λr1=>some (decide (r1>=0))
def ko(a0:ByteArray)(a1:List ByteArray):Option Bool:=
 (fK n a1 a0).bind λr1=>some r1
def G9(a0:List ByteArray)(a1:(ByteArray×Unit)->Option Bool):Stp Int (Unit⊕Int)
 |v1=>(bif decide (v1<(a0.length:Int))then(bp a0 v1).bind λx1=>(a1 (x1,())).bind λr1=>(bif r1 then(some v1).map λa=> .inr (.inr a)else some (.inl (i64.wrap (v1+1))))else some (.inr (.inl ())))
def qQ(a0:List ByteArray)(a1:(ByteArray×Unit)->Option Bool):Option Int:=
 dh (iter (G9 a0 a1) n (0:Int)) λ()=>some ((-1):Int)
def fQ(a0:List ByteArray)(a1:(ByteArray×Unit)->Option Bool):Option Bool:=
 (qQ n a0 a1).bind λr1=>some (decide (r1>=0))
def rG(a0:aP)(a1:List ByteArray):Option Bool:=
 (bif ((a0.zones.length:Int)==0)then(fQ n a0.except (λ (y1:ByteArray×Unit)=>ko n y1.1 a1)).bind λr1=>some (!r1)else(fQ n a0.zones (λ (y2:ByteArray×Unit)=>ko n y2.1 a1)).bind λr2=>(bif r2 then(fQ n a0.except (λ (y3:ByteArray×Unit)=>ko n y3.1 a1)).bind λr3=>some (!r3)else some false))
def sj(a0:cK)(a1:List ByteArray)(a2:Int):Stp (Int×(List Int)) (List Int)
 |(v1,v2)=>(bif decide (v1<(a0.rules.length:Int))then((bp a0.rules v1).bind λx1=>((bif decide (x1.from_<=(a2:Int))then(bif (x1.j7==0)then(rG n x1 a1).bind λr1=>some r1 else(bif decide (a2<(x1.j7:Int))then(rG n x1 a1).bind λr2=>some r2 else some false))else some false)).bind λv3=>(bif v3 then ck (bW v2.length v2.length (sub ([v1]:List Int) 0 1).length 1 8)<|kX (v2++(sub ([v1]:List Int) 0 1)) λr3=>ck (bm r3.length r3.length)<|some r3 else ck (bm v2.length v2.length)<|some v2):Option ((List Int))).bind λv4=>ck (bm v4.length v4.length)<|some (.inl ((i64.wrap (v1+1)),v4))else ck (bm v2.length v2.length)<|some (.inr v2))
def uM(a0:cK)(a1:List ByteArray)(a2:Int):Option (List Int):=
 ck (bm 0 ([]:List Int).length)<|(iter (sj n a0 a1 a2) n ((0:Int),([]:List Int))).bind λw1=>ck (bm (sub w1 0 w1.length).length w1.length)<|some (sub w1 0 w1.length)
def yG(a0:List ay)(a1:Int)(a2:Int)(a3:(ay×ay×Unit)->Option Int):Option (List ay):=
 nE (λ x y=>a3 (x,y,())) (λ r=>decide (r<0)) n a0 a1 a2
def Fx(a0:List ay)(a1:Int)(a2:Int)(a3:Int)(a4:(ay×ay×Unit)->Option Int):Option (List ay):=
 tK (λ x y=>a4 (x,y,())) (λ r=>decide (r<0)) n a0 a1 a2 a3
def Fy(a0:List ay)(a1:Int)(a2:Int)(a3:(ay×ay×Unit)->Option Int):Option (List ay):=
 zY (λ x y=>a3 (x,y,())) (λ r=>decide (r<0)) n a0 a1 a2
def yH(a0:List ay)(a1:Int)(a2:Int)(a3:(ay×ay×Unit)->Option Int):Option (List ay):=
 kE bA bH n a0 a1 a2
def IQ(a0:List ay)(a1:Int)(a2:Int)(a3:Int)(a4:(ay×ay×Unit)->Option Int):Option (Int×Int×Int):=
 Cz (λ x y=>a4 (x,y,())) (λ r=>decide (r<0)) a0 a1 a2 a3
def IU(a0:List ay)(a1:Int)(a2:Int)(a3:Int)(a4:Int)(a5:(ay×ay×Unit)->Option Int):Option (Int×Int):=
 zf (λ x y=>a5 (x,y,())) (λ r=>decide (r<0)) a0 a1 a2 a3 a4
def xO(a0:List ay)(a1:Int)(a2:Int)(a3:(ay×ay×Unit)->Option Int):Option (Int×Int):=
 eT (λ x y=>a3 (x,y,())) (λ r=>decide (r<0)) a0 a1 a2
def AO(a0:List ay)(a1:Int)(a2:Int)(a3:(ay×ay×Unit)->Option Int):Option (Int×Int):=
 qf (λ x y=>a3 (x,y,())) (λ r=>decide (r<0)) a0 a1 a2
def zx(a0:List ay)(a1:Int)(a2:Int)(a3:(ay×ay×Unit)->Option Int):Option (List ay):=
 mJ n a0 a1 a2
def rH(a0:List ay)(a1:Int)(a2:Int)(a3:(ay×ay×Unit)->Option Int):Option (Bool×(List ay)):=
 fD (λ x y=>a3 (x,y,())) (λ r=>decide (r<0)) n a0 a1 a2
def xP(a0:List ay)(a1:Int)(a2:Int)(a3:Int)(a4:(ay×ay×Unit)->Option Int):Option (Int×(List ay)):=
 jB (λ x y=>a4 (x,y,())) (λ r=>decide (r<0)) n a0 a1 a2 a3
def Dy(a0:List ay)(a1:Int)(a2:Int)(a3:Int)(a4:(ay×ay×Unit)->Option Int):Option (Int×Bool×(List ay)):=
 sM (λ x y=>a4 (x,y,())) (λ r=>decide (r<0)) n a0 a1 a2 a3
def jb(rc:((List ay))->(Int)->(Int)->(Int)->((ay×ay×Unit)->Option Int)->Option (List ay))(a0:List ay)(a1:Int)(a2:Int)(a3:Int)(a4:(ay×ay×Unit)->Option Int):Option (List ay):=
 kF (λ x y=>a4 (x,y,())) (λ r=>decide (r<0)) bA bH n (λ l a b d=>rc l a b d a4) a0 a1 a2 a3
def kZ(rc:((List ay))->(Int)->(Int)->(Int)->((ay×ay×Unit)->Option Int)->Option (List ay)):b9 xx:=⟨[.mut (.st SI.kq),.d (.int .i64),.d (.int .i64),.d (.int .i64),.cV [(.st SI.kq),(.st SI.kq)] (.int .i64)],[.mu (.st SI.kq)],λa=>rc a.1 a.2.1 a.2.2.1 a.2.2.2.1 a.2.2.2.2.1,none⟩
def eD(n:Nat):Nat->((List ay))->(Int)->(Int)->(Int)->((ay×ay×Unit)->Option Int)->Option (List ay)
 | 0=>λ_ _ _ _ _=>none
 |m+1=>jb n (eD n m)
def nY(a0:List ay)(a1:Int)(a2:Int)(a3:Int)(a4:(ay×ay×Unit)->Option Int):Option (List ay):=eD n n a0 a1 a2 a3 a4
def qp(a0:List ay)(a1:(ay×ay×Unit)->Option Int):Option (List ay):=
 (bits_Len (IntKind.u64.wrap (a0.length:Int))).bind λr1=>ck (bm a0.length a0.length)<|(nY n a0 0 (a0.length:Int) r1 a1).bind λr2=>some r2
def iO(a0:ay)(a1:ay):Option Int:=
 (cmp_Compare_int a0.y0 a1.y0).bind λr1=>some r1
def lH(a0:aF):Option Int:=
 ((bif a0.extra then some true else(gm a0).bind λr1=>some (!r1))).bind λv1=>(bif v1 then some (0:Int)else ck (3 !=0)<|some (i64.wrap (Int.tdiv (i64.wrap ((i64.wrap ((i64.wrap (a0.dE -a0.ek))+3)) -1)) 3)))
def oU(a0:aF):Option Int:=
 (gm a0).bind λr1=>(bif (!r1)then some (0:Int)else(AL (ay.mk a0.bz a0.cj a0.bx a0.ci)).bind λr2=>(lH a0).bind λr3=>some (i64.wrap (r2*r3)))
def nZ(a0:aF):Option Int:=
 some a0.dE
def o7(a0:aF):Option Int:=
 some a0.units
def Dz(a0:ay)(a1:Int):Option (ay×Bool):=
 (pu (ay.mk (i64.wrap (a0.x0 -a1)) (i64.wrap (a0.y0 -a1)) (i64.wrap (a0.x1+a1)) (i64.wrap (a0.y1+a1)))).bind λr1=>some ((ay.mk (i64.wrap (a0.x0 -a1)) (i64.wrap (a0.y0 -a1)) (i64.wrap (a0.x1+a1)) (i64.wrap (a0.y1+a1))),r1)
def kG(a0:bP)(a1:LF)(a2:Int):Option Bool:=
 ck (ca a2 6)<|(bp ([a1.a0,a1.a1,a1.a2,a1.a3,a1.a4,a1.a5]:List ByteArray) a2).bind λx1=>some (ByteArray.toList a0.name==ByteArray.toList x1)
def IV(a0:List bP)(a1:(bP×Unit)->Option Bool):Stp Int (Unit⊕Int)
 |v1=>(bif decide (v1<(a0.length:Int))then(bp a0 v1).bind λx1=>(a1 (x1,())).bind λr1=>(bif r1 then(some v1).map λa=> .inr (.inr a)else some (.inl (i64.wrap (v1+1))))else some (.inr (.inl ())))
def kH(a0:List bP)(a1:(bP×Unit)->Option Bool):Option Int:=
 dh (iter (IV a0 a1) n (0:Int)) λ()=>some ((-1):Int)
def kI(a0:cK)(a1:Int):Stp Int (Unit⊕Int)
 |v1=>(bif decide (v1<(a0.tables.length:Int))then(bp a0.tables v1).bind λx1=>(bif (!(ByteArray.toList x1.name==ByteArray.toList (⟨#[116,114,97,102,102,105,99]⟩)))then some (.inl (i64.wrap (v1+1)))else((kH n x1.rows (λ (y1:bP×Unit)=>kG y1.1 (LF.mk (⟨#[104,111,109,101]⟩) (⟨#[115,104,111,112]⟩) (⟨#[119,111,114,107]⟩) (⟨#[112,97,114,107]⟩) (⟨#[112,108,97,110,116]⟩) (⟨#[104,97,108,108]⟩)) a1)).bind λr1=>(bif decide (r1>=0)then(bp x1.rows r1).bind λx2=>some x2.n else some x1.rk):Option Int).bind λv2=>(some (max (0:Int) (min v2 (1048576:Int)))).map λa=> .inr (.inr a))else some (.inr (.inl ())))
def CG(a0:cK)(a1:Int):Option Int:=
 dh (iter (kI n a0 a1) n (0:Int)) λ()=>some (0:Int)
def lI(a0:cK)(a1:aF):Option Int:=
 (CG n a0 a1.use).bind λr1=>(oU a1).bind λr2=>((bif decide (r1>0)then ck (r1 !=0)<|some (decide (r2>((i64.wrap (Int.tdiv 109951162777600 r1)):Int)))else some false)).bind λv1=>(bif v1 then some (1099511627776:Int)else ck (100 !=0)<|some (i64.wrap (Int.tdiv (i64.wrap ((i64.wrap ((i64.wrap (r1*r2))+100)) -1)) 100)))
def nk(a0:List fJ)(a1:List bX)(a2:List dY)(a3:List aP)(a4:List ig)(a5:List fH)(a6:List bU)(a7:Int)(a8:List ay)(a9:List aF):Option (Int×gV):=
 (PE n a8).bind λr1=>ck (bm a9.length a9.length)<|some (r1,a0,a1,a2,a3,a4,a5,a6,a7,a8,a9)
def gD(a9:List aF):Stp (Int×(List ay)×(List Int)) ((List ay)×(List Int))
 |(v1,v2,v3)=>(bif decide (v1<(a9.length:Int))then ck (ca v1 a9.length)<|(bp a9 ((0:Nat)+v1:Int)).bind λx1=>ck (ca v1 ((a9.length:Int).toNat))<|(bp v2 ((0:Nat)+v1:Int)).bind λx2=>ck (ca v1 ((a9.length:Int).toNat))<|(bp (v2.set ((0:Nat)+v1:Int).toNat (ay.mk x1.bz x1.cj x1.bx x1.ci)) ((0:Nat)+v1:Int)).bind λx3=>ck (ca v1 ((a9.length:Int).toNat))<|(bp (v2.set ((0:Nat)+v1:Int).toNat (ay.mk x1.bz x1.cj x1.bx x1.ci)) ((0:Nat)+v1:Int)).bind λx4=>ck (bW v3.length v3.length (sub ([x3.x0,x4.x1]:List Int) 0 2).length 2 8)<|kX (v3++(sub ([x3.x0,x4.x1]:List Int) 0 2)) λr1=>ck (bm r1.length r1.length)<|some (.inl ((i64.wrap (v1+1)),(v2.set ((0:Nat)+v1:Int).toNat (ay.mk x1.bz x1.cj x1.bx x1.ci)),r1))else ck (bm v3.length v3.length)<|some (.inr (v2,v3)))
end
end Go.Proofs
