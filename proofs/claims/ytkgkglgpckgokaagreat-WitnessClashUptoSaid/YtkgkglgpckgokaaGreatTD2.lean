import Derived.Test.YtkgkglgpckgokaaGreatTD1
open Go.IntKind (i64)
namespace Go.Proofs
open Go.Gb Go.RowKit
noncomputable section
variable (n:Nat)
def lY(a0:List fB)(a1:List cu)(a2:List dM)(a3:List bV)(a4:List fZ)(a5:List eU)(a6:List bT)(a7:Int)(a8:List ax)(a9:List aH):Option (Int×gP):=
 (iter (gQ a9) n ((0:Int),(0:Int))).bind λw1=>ck (az a9.length a9.length)<|some (w1,a0,a1,a2,a3,a4,a5,a6,a7,a8,a9)
def jD(a0:List fB)(a1:List cu)(a2:List dM)(a3:List bV)(a4:List fZ)(a5:List eU)(a6:List bT)(a7:Int)(a8:List ax)(a9:List aH):Option (Int×gP):=
 ck (az a9.length a9.length)<|(lY n a0 a1 a2 a3 a4 a5 a6 a7 a8 a9).bind λr1=>ck (az r1.2.2.2.2.2.2.2.2.2.2.length r1.2.2.2.2.2.2.2.2.2.2.length)<|some (r1.1,r1.2.1,r1.2.2.1,r1.2.2.2.1,r1.2.2.2.2.1,r1.2.2.2.2.2.1,r1.2.2.2.2.2.2.1,r1.2.2.2.2.2.2.2.1,r1.2.2.2.2.2.2.2.2.1,r1.2.2.2.2.2.2.2.2.2.1,r1.2.2.2.2.2.2.2.2.2.2)
def gT(a9:List aH):Stp (Int×Int) Int
 |(v1,v2)=>(bif decide (v2<(a9.length:Int))then ck (cC v2 a9.length)<|(bp a9 ((0:Nat)+v2:Int)).bind λx1=>(nE x1).bind λr1=>some (.inl ((max v1 r1),(i64.wrap (v2+1))))else some (.inr v1))
def lZ(a0:List fB)(a1:List cu)(a2:List dM)(a3:List bV)(a4:List fZ)(a5:List eU)(a6:List bT)(a7:Int)(a8:List ax)(a9:List aH):Option (Int×gP):=
 (iter (gT a9) n ((0:Int),(0:Int))).bind λw1=>ck (az a9.length a9.length)<|some (w1,a0,a1,a2,a3,a4,a5,a6,a7,a8,a9)
def jE(a0:List fB)(a1:List cu)(a2:List dM)(a3:List bV)(a4:List fZ)(a5:List eU)(a6:List bT)(a7:Int)(a8:List ax)(a9:List aH):Option (Int×gP):=
 ck (az a9.length a9.length)<|(lZ n a0 a1 a2 a3 a4 a5 a6 a7 a8 a9).bind λr1=>ck (az r1.2.2.2.2.2.2.2.2.2.2.length r1.2.2.2.2.2.2.2.2.2.2.length)<|some (r1.1,r1.2.1,r1.2.2.1,r1.2.2.2.1,r1.2.2.2.2.1,r1.2.2.2.2.2.1,r1.2.2.2.2.2.2.1,r1.2.2.2.2.2.2.2.1,r1.2.2.2.2.2.2.2.2.1,r1.2.2.2.2.2.2.2.2.2.1,r1.2.2.2.2.2.2.2.2.2.2)
def jF(a9:List aH):Stp (Int×Int) Int
 |(v1,v2)=>(bif decide (v2<(a9.length:Int))then ck (cC v2 a9.length)<|(bp a9 ((0:Nat)+v2:Int)).bind λx1=>(oC x1).bind λr1=>some (.inl ((i64.wrap (v1+r1)),(i64.wrap (v2+1))))else some (.inr v1))
def qd(a0:List fB)(a1:List cu)(a2:List dM)(a3:List bV)(a4:List fZ)(a5:List eU)(a6:List bT)(a7:Int)(a8:List ax)(a9:List aH):Option (Int×gP):=
 (iter (jF a9) n ((0:Int),(0:Int))).bind λw1=>ck (az a9.length a9.length)<|some (w1,a0,a1,a2,a3,a4,a5,a6,a7,a8,a9)
def kC(a0:List fB)(a1:List cu)(a2:List dM)(a3:List bV)(a4:List fZ)(a5:List eU)(a6:List bT)(a7:Int)(a8:List ax)(a9:List aH):Option (Int×gP):=
 ck (az a9.length a9.length)<|(qd n a0 a1 a2 a3 a4 a5 a6 a7 a8 a9).bind λr1=>ck (az r1.2.2.2.2.2.2.2.2.2.2.length r1.2.2.2.2.2.2.2.2.2.2.length)<|some (r1.1,r1.2.1,r1.2.2.1,r1.2.2.2.1,r1.2.2.2.2.1,r1.2.2.2.2.2.1,r1.2.2.2.2.2.2.1,r1.2.2.2.2.2.2.2.1,r1.2.2.2.2.2.2.2.2.1,r1.2.2.2.2.2.2.2.2.2.1,r1.2.2.2.2.2.2.2.2.2.2)
def iC(jz:List ax)(r1:ax×Bool):Stp (Int×Int) Int
 |(v1,v2)=>(bif decide (v2<(jz.length:Int))then((bp jz v2).bind λx1=>(rW r1.1 x1).bind λr2=>(bif r2.2 then(oP r2.1).bind λr3=>some (i64.wrap (v1+r3))else some v1):Option Int).bind λv3=>some (.inl (v3,(i64.wrap (v2+1))))else some (.inr v1))
def jG(a0:ax)(a1:Int)(a2:List fB)(a3:List cu)(a4:List dM)(a5:List bV)(a6:List fZ)(a7:List eU)(a8:List bT)(a9:Int)(jz:List ax)(tc:List aH):Option (Bool×gP):=
 (AX a0 a1).bind λr1=>(bif (!r1.2)then ck (az tc.length tc.length)<|some (false,a2,a3,a4,a5,a6,a7,a8,a9,jz,tc)else(iter (iC jz r1) n ((0:Int),(0:Int))).bind λw1=>(oP r1.1).bind λr4=>ck (az tc.length tc.length)<|some ((w1==(r4:Int)),a2,a3,a4,a5,a6,a7,a8,a9,jz,tc))
def eX(x1:aH):Stp (Int×Int×gP) (Int×gP)
 |(v13,v14,v15,v16,v17,v18,v19,v20,v21,v22,v23,v24)=>(bif decide (v13<(v14:Int))then ck (2 !=0)<|ck (az v24.length v24.length)<|(jG n (ax.mk x1.bu x1.ca x1.br x1.b9) (i64.wrap (Int.tdiv (i64.wrap ((i64.wrap (v13+v14))+1)) 2)) v15 v16 v17 v18 v19 v20 v21 v22 v23 v24).bind λr1=>(bif r1.1 then ck (az r1.2.2.2.2.2.2.2.2.2.2.length r1.2.2.2.2.2.2.2.2.2.2.length)<|some (.inl ((i64.wrap (Int.tdiv (i64.wrap ((i64.wrap (v13+v14))+1)) 2)),v14,r1.2.1,r1.2.2.1,r1.2.2.2.1,r1.2.2.2.2.1,r1.2.2.2.2.2.1,r1.2.2.2.2.2.2.1,r1.2.2.2.2.2.2.2.1,r1.2.2.2.2.2.2.2.2.1,r1.2.2.2.2.2.2.2.2.2.1,r1.2.2.2.2.2.2.2.2.2.2))else ck (az r1.2.2.2.2.2.2.2.2.2.2.length r1.2.2.2.2.2.2.2.2.2.2.length)<|some (.inl (v13,(i64.wrap ((i64.wrap (Int.tdiv (i64.wrap ((i64.wrap (v13+v14))+1)) 2)) -1)),r1.2.1,r1.2.2.1,r1.2.2.2.1,r1.2.2.2.2.1,r1.2.2.2.2.2.1,r1.2.2.2.2.2.2.1,r1.2.2.2.2.2.2.2.1,r1.2.2.2.2.2.2.2.2.1,r1.2.2.2.2.2.2.2.2.2.1,r1.2.2.2.2.2.2.2.2.2.2)))else ck (az v24.length v24.length)<|some (.inr (v13,v15,v16,v17,v18,v19,v20,v21,v22,v23,v24)))
def ic(a9:List aH):Stp (Int×Int×gP) (Int×gP)
 |(v1,v2,v3,v4,v5,v6,v7,v8,v9,v10,v11,v12)=>(bif decide (v2<(a9.length:Int))then ck (cC v2 a9.length)<|(bp v12 ((0:Nat)+v2:Int)).bind λx1=>ck (az v12.length v12.length)<|(iter (eX n x1) n ((0:Int),v1,v3,v4,v5,v6,v7,v8,v9,v10,v11,v12)).bind λ(w1,w2,w3,w4,w5,w6,w7,w8,w9,wi,wg)=>ck (az wg.length wg.length)<|some (.inl (w1,(i64.wrap (v2+1)),w2,w3,w4,w5,w6,w7,w8,w9,wi,wg))else ck (az v12.length v12.length)<|some (.inr (v1,v3,v4,v5,v6,v7,v8,v9,v10,v11,v12)))
def jg(a0:List fB)(a1:List cu)(a2:List dM)(a3:List bV)(a4:List fZ)(a5:List eU)(a6:List bT)(a7:Int)(a8:List ax)(a9:List aH):Option (Int×gP):=
 ck (az a9.length a9.length)<|(iter (ic n a9) n ((1048576:Int),(0:Int),a0,a1,a2,a3,a4,a5,a6,a7,a8,a9)).bind λ(PH,PF,w14,w15,w16,w17,w18,w19,w20,w21,PC)=>ck (az PC.length PC.length)<|some (PH,PF,w14,w15,w16,w17,w18,w19,w20,w21,PC)
def ko(a0:aH)(a1:List fB)(a2:List cu)(a3:List dM)(a4:List bV)(a5:List fZ)(a6:List eU)(a7:List bT)(a8:Int)(a9:List ax)(jz:List aH):Option (Int×gP):=
 (kP n (bB.mk a1 a2 a3 a4 a5 a6 a7 a8) a0).bind λr1=>ck (az jz.length jz.length)<|some (r1,a1,a2,a3,a4,a5,a6,a7,a8,a9,jz)
def jH(a9:List aH):Stp (Int×Int×gP) (Int×gP)
 |(v1,v2,v3,v4,v5,v6,v7,v8,v9,v10,v11,v12)=>(bif decide (v2<(a9.length:Int))then ck (cC v2 a9.length)<|(bp v12 ((0:Nat)+v2:Int)).bind λx1=>ck (az v12.length v12.length)<|(ko n x1 v3 v4 v5 v6 v7 v8 v9 v10 v11 v12).bind λr1=>ck (az r1.2.2.2.2.2.2.2.2.2.2.length r1.2.2.2.2.2.2.2.2.2.2.length)<|some (.inl ((i64.wrap (v1+r1.1)),(i64.wrap (v2+1)),r1.2.1,r1.2.2.1,r1.2.2.2.1,r1.2.2.2.2.1,r1.2.2.2.2.2.1,r1.2.2.2.2.2.2.1,r1.2.2.2.2.2.2.2.1,r1.2.2.2.2.2.2.2.2.1,r1.2.2.2.2.2.2.2.2.2.1,r1.2.2.2.2.2.2.2.2.2.2))else ck (az v12.length v12.length)<|some (.inr (v1,v3,v4,v5,v6,v7,v8,v9,v10,v11,v12)))
def qf(a0:List fB)(a1:List cu)(a2:List dM)(a3:List bV)(a4:List fZ)(a5:List eU)(a6:List bT)(a7:Int)(a8:List ax)(a9:List aH):Option (Int×gP):=
 ck (az a9.length a9.length)<|(iter (jH n a9) n ((0:Int),(0:Int),a0,a1,a2,a3,a4,a5,a6,a7,a8,a9)).bind λ(w1,w2,w3,w4,w5,w6,w7,w8,w9,wi,wg)=>ck (az wg.length wg.length)<|some (w1,w2,w3,w4,w5,w6,w7,w8,w9,wi,wg)
def jh(a0:List fB)(a1:List cu)(a2:List dM)(a3:List bV)(a4:List fZ)(a5:List eU)(a6:List bT)(a7:Int)(a8:List ax)(a9:List aH):Option (Int×gP):=
 ck (az a9.length a9.length)<|(qf n a0 a1 a2 a3 a4 a5 a6 a7 a8 a9).bind λr1=>ck (az r1.2.2.2.2.2.2.2.2.2.2.length r1.2.2.2.2.2.2.2.2.2.2.length)<|some (r1.1,r1.2.1,r1.2.2.1,r1.2.2.2.1,r1.2.2.2.2.1,r1.2.2.2.2.2.1,r1.2.2.2.2.2.2.1,r1.2.2.2.2.2.2.2.1,r1.2.2.2.2.2.2.2.2.1,r1.2.2.2.2.2.2.2.2.2.1,r1.2.2.2.2.2.2.2.2.2.2)
def qw(r2:List aH):Stp (Int×gP) (gP)
 |(v10,v11,v12,v13,v14,v15,v16,v17,v18,v19,v20)=>(bif decide (v10<(r2.length:Int))then(ck (cC v10 r2.length)<|(bp r2 ((0:Nat)+v10:Int)).bind λx1=>((bif decide (v10<40)then(gm x1).bind λr3=>some r3 else some false)).bind λv21=>(bif v21 then ck (bP v20.length v20.length (sub ([x1]:List aH) 0 1).length 1 72)<|iE (v20++(sub ([x1]:List aH) 0 1)) λr4=>ck (az r4.length r4.length)<|some (v11,v12,v13,v14,v15,v16,v17,v18,v19,r4)else ck (az v20.length v20.length)<|some (v11,v12,v13,v14,v15,v16,v17,v18,v19,v20)):Option (gP)).bind λ(v22,v23,v24,v25,v26,v27,v28,v29,v30,v31)=>ck (az v31.length v31.length)<|some (.inl ((i64.wrap (v10+1)),v22,v23,v24,v25,v26,v27,v28,v29,v30,v31))else ck (az v20.length v20.length)<|some (.inr (v11,v12,v13,v14,v15,v16,v17,v18,v19,v20)))
def kr(a0:bB)(a1:bS)(a2:bn):Option (List bR):=
 ((nQ n a1.area).bind λr1=>(bif r1 then some (a0.defs,a0.tables,a0.zones,a0.rules,a0.caps,a0.views,a0.sm,a0.hours,a1.area)else some (a0.defs,a0.tables,a0.zones,a0.rules,a0.caps,a0.views,a0.sm,a0.hours,([]:(List ax)))):Option ((List fB)×(List cu)×(List dM)×(List bV)×(List fZ)×(List eU)×(List bT)×Int×(List ax))).bind λ(v1,v2,v3,v4,v5,v6,v7,v8,v9)=>(nR n a2 0 (a2.phases.length:Int)).bind λr2=>ck (az 0 ([]:List aH).length)<|(iter (qw r2) n ((0:Int),v1,v2,v3,v4,v5,v6,v7,v8,v9,([]:List aH))).bind λ(w1,w2,w3,w4,w5,w6,w7,w8,w9,wi)=>ck (az wi.length wi.length)<|(mD n w1 w2 w3 w4 w5 w6 w7 w8 w9 wi).bind λr5=>ck (bP 0 0 (sub ([(bR.mk (⟨#[97,114,101,97]⟩) r5.1)]:List bR) 0 1).length 1 24)<|iE ((sub ([(bR.mk (⟨#[97,114,101,97]⟩) r5.1)]:List bR) 0 1)) λr6=>ck (az r5.2.2.2.2.2.2.2.2.2.2.length r5.2.2.2.2.2.2.2.2.2.2.length)<|(iJ n r5.2.1 r5.2.2.1 r5.2.2.2.1 r5.2.2.2.2.1 r5.2.2.2.2.2.1 r5.2.2.2.2.2.2.1 r5.2.2.2.2.2.2.2.1 r5.2.2.2.2.2.2.2.2.1 r5.2.2.2.2.2.2.2.2.2.1 r5.2.2.2.2.2.2.2.2.2.2).bind λr7=>ck (bP r6.length r6.length (sub ([(bR.mk (⟨#[99,111,118,101,114]⟩) r7.1)]:List bR) 0 1).length 1 24)<|iE (r6++(sub ([(bR.mk (⟨#[99,111,118,101,114]⟩) r7.1)]:List bR) 0 1)) λr8=>ck (az r7.2.2.2.2.2.2.2.2.2.2.length r7.2.2.2.2.2.2.2.2.2.2.length)<|(kz n r7.2.1 r7.2.2.1 r7.2.2.2.1 r7.2.2.2.2.1 r7.2.2.2.2.2.1 r7.2.2.2.2.2.2.1 r7.2.2.2.2.2.2.2.1 r7.2.2.2.2.2.2.2.2.1 r7.2.2.2.2.2.2.2.2.2.1 r7.2.2.2.2.2.2.2.2.2.2).bind λr9=>ck (bP r8.length r8.length (sub ([(bR.mk (⟨#[102,108,111,111,114]⟩) r9.1)]:List bR) 0 1).length 1 24)<|iE (r8++(sub ([(bR.mk (⟨#[102,108,111,111,114]⟩) r9.1)]:List bR) 0 1)) λym=>ck (az r9.2.2.2.2.2.2.2.2.2.2.length r9.2.2.2.2.2.2.2.2.2.2.length)<|(jD n r9.2.1 r9.2.2.1 r9.2.2.2.1 r9.2.2.2.2.1 r9.2.2.2.2.2.1 r9.2.2.2.2.2.2.1 r9.2.2.2.2.2.2.2.1 r9.2.2.2.2.2.2.2.2.1 r9.2.2.2.2.2.2.2.2.2.1 r9.2.2.2.2.2.2.2.2.2.2).bind λpZ=>ck (bP ym.length ym.length (sub ([(bR.mk (⟨#[102,108,111,111,114,115]⟩) pZ.1)]:List bR) 0 1).length 1 24)<|iE (ym++(sub ([(bR.mk (⟨#[102,108,111,111,114,115]⟩) pZ.1)]:List bR) 0 1)) λG1=>ck (az pZ.2.2.2.2.2.2.2.2.2.2.length pZ.2.2.2.2.2.2.2.2.2.2.length)<|(jE n pZ.2.1 pZ.2.2.1 pZ.2.2.2.1 pZ.2.2.2.2.1 pZ.2.2.2.2.2.1 pZ.2.2.2.2.2.2.1 pZ.2.2.2.2.2.2.2.1 pZ.2.2.2.2.2.2.2.2.1 pZ.2.2.2.2.2.2.2.2.2.1 pZ.2.2.2.2.2.2.2.2.2.2).bind λsy=>ck (bP G1.length G1.length (sub ([(bR.mk (⟨#[104,101,105,103,104,116]⟩) sy.1)]:List bR) 0 1).length 1 24)<|iE (G1++(sub ([(bR.mk (⟨#[104,101,105,103,104,116]⟩) sy.1)]:List bR) 0 1)) λG0=>ck (az sy.2.2.2.2.2.2.2.2.2.2.length sy.2.2.2.2.2.2.2.2.2.2.length)<|(kC n sy.2.1 sy.2.2.1 sy.2.2.2.1 sy.2.2.2.2.1 sy.2.2.2.2.2.1 sy.2.2.2.2.2.2.1 sy.2.2.2.2.2.2.2.1 sy.2.2.2.2.2.2.2.2.1 sy.2.2.2.2.2.2.2.2.2.1 sy.2.2.2.2.2.2.2.2.2.2).bind λsx=>ck (bP G0.length G0.length (sub ([(bR.mk (⟨#[104,111,109,101,115]⟩) sx.1)]:List bR) 0 1).length 1 24)<|iE (G0++(sub ([(bR.mk (⟨#[104,111,109,101,115]⟩) sx.1)]:List bR) 0 1)) λr16=>ck (az sx.2.2.2.2.2.2.2.2.2.2.length sx.2.2.2.2.2.2.2.2.2.2.length)<|(iJ n sx.2.1 sx.2.2.1 sx.2.2.2.1 sx.2.2.2.2.1 sx.2.2.2.2.2.1 sx.2.2.2.2.2.2.1 sx.2.2.2.2.2.2.2.1 sx.2.2.2.2.2.2.2.2.1 sx.2.2.2.2.2.2.2.2.2.1 sx.2.2.2.2.2.2.2.2.2.2).bind λsq=>ck (bP r16.length r16.length (sub ([(bR.mk (⟨#[114,117,110,111,102,102]⟩) sq.1)]:List bR) 0 1).length 1 24)<|iE (r16++(sub ([(bR.mk (⟨#[114,117,110,111,102,102]⟩) sq.1)]:List bR) 0 1)) λGW=>ck (az sq.2.2.2.2.2.2.2.2.2.2.length sq.2.2.2.2.2.2.2.2.2.2.length)<|(jg n sq.2.1 sq.2.2.1 sq.2.2.2.1 sq.2.2.2.2.1 sq.2.2.2.2.2.1 sq.2.2.2.2.2.2.1 sq.2.2.2.2.2.2.2.1 sq.2.2.2.2.2.2.2.2.1 sq.2.2.2.2.2.2.2.2.2.1 sq.2.2.2.2.2.2.2.2.2.2).bind λso=>ck (bP GW.length GW.length (sub ([(bR.mk (⟨#[115,101,116,98,97,99,107]⟩) so.1)]:List bR) 0 1).length 1 24)<|iE (GW++(sub ([(bR.mk (⟨#[115,101,116,98,97,99,107]⟩) so.1)]:List bR) 0 1)) λGT=>ck (az so.2.2.2.2.2.2.2.2.2.2.length so.2.2.2.2.2.2.2.2.2.2.length)<|(jh n so.2.1 so.2.2.1 so.2.2.2.1 so.2.2.2.2.1 so.2.2.2.2.2.1 so.2.2.2.2.2.2.1 so.2.2.2.2.2.2.2.1 so.2.2.2.2.2.2.2.2.1 so.2.2.2.2.2.2.2.2.2.1 so.2.2.2.2.2.2.2.2.2.2).bind λLt=>ck (bP GT.length GT.length (sub ([(bR.mk (⟨#[116,114,97,102,102,105,99]⟩) Lt.1)]:List bR) 0 1).length 1 24)<|iE (GT++(sub ([(bR.mk (⟨#[116,114,97,102,102,105,99]⟩) Lt.1)]:List bR) 0 1)) λAG=>ck (az (sub AG 0 AG.length).length AG.length)<|some (sub AG 0 AG.length)
def yO(a0:Int):Option (Int×Bool):=
 ((bif (a0==0)then some (a0==0)else(bif (a0==1)then some (a0==1)else(bif (a0==2)then some (a0==2)else some (a0==3))))).bind λv1=>(bif v1 then some ((0:Int),true)else((bif (a0==9)then some (a0==9)else some (a0==15))).bind λv2=>(bif v2 then some ((1:Int),true)else(bif (a0==16)then some ((3:Int),true)else(bif decide (a0>=0)then some ((2:Int),(decide (a0<17)))else some ((2:Int),false)))))
def xL(n:Nat)(rc:(bZ)->(Int)->Option Int)(a0:bZ)(a1:Int):Stp (Int×Int) Int
 |(v2,v3)=>(bif decide (v3<(a0.args.length:Int))then(bp a0.args v3).bind λx1=>(rc (bZ.mk x1.op x1.n x1.s x1.key x1.args) (i64.wrap (a1+1))).bind λr2=>some (.inl ((max v2 r2),(i64.wrap (v3+1))))else some (.inr v2))
def Ab(rc:(bZ)->(Int)->Option Int)(a0:bZ)(a1:Int):Option Int:=
 (yO a0.op).bind λr1=>((bif (!r1.2)then some true else(bif (r1.1 !=(a0.args.length:Int))then some true else some (decide (a1>=12))))).bind λv1=>(bif v1 then some (13:Int)else(iter (xL n rc a0 a1) n ((0:Int),(0:Int))).bind λw1=>some (i64.wrap (w1+1)))
def Ej(rc:(bZ)->(Int)->Option Int):bx xx:=⟨[.d (.st SI.Expr),.d (.int .i64)],[.d (.int .i64)],λa=>rc a.1 a.2.1,none⟩
def rX(n:Nat):Nat->(bZ)->(Int)->Option Int
 | 0=>λ_ _=>none
 |m+1=>Ab n (rX n m)
def PY(a0:bZ)(a1:Int):Option Int:=rX n n a0 a1
def HY(a0:bZ):Option Bool:=
 (PY n (bZ.mk a0.op a0.n a0.s a0.key a0.args) 0).bind λr1=>some (decide (r1<=12))
def wR:Option (List ByteArray):=
 ck (az (sub ([⟨#[97,114,101,97]⟩,⟨#[99,111,118,101,114]⟩,⟨#[102,108,111,111,114]⟩,⟨#[102,108,111,111,114,115]⟩,⟨#[104,101,105,103,104,116]⟩,⟨#[104,111,109,101,115]⟩,⟨#[114,117,110,111,102,102]⟩,⟨#[115,101,116,98,97,99,107]⟩,⟨#[116,114,97,102,102,105,99]⟩]:List ByteArray) 0 9).length 9)<|some (sub ([⟨#[97,114,101,97]⟩,⟨#[99,111,118,101,114]⟩,⟨#[102,108,111,111,114]⟩,⟨#[102,108,111,111,114,115]⟩,⟨#[104,101,105,103,104,116]⟩,⟨#[104,111,109,101,115]⟩,⟨#[114,117,110,111,102,102]⟩,⟨#[115,101,116,98,97,99,107]⟩,⟨#[116,114,97,102,102,105,99]⟩]:List ByteArray) 0 9)
mutual
def toE:bZ->ET
 |⟨op,_,s,_,args⟩=> .mk op s (HZ args)
def HZ:List bZ->List ET
 |[]=>[]
 |x::xs=>toE x::HZ xs
end
def toD(d:fB):ByteArray×ET:=(d.name,.mk d.io d.kw (HZ d.en))
def kQ(a0:List fB):Option ((List fB)×(List (List Int))):=ck (Nat.ble (rh (a0.map toD)) 4000000)<|some (a0,ow (a0.map toD))
def qx(a0:List Int)(a1:Int):Option (List Int):=match a0 with
 |[x]=>ck (decide (0<=a1)&&decide (a1<=1000000000000))<|some (List.replicate a1.toNat x)
 |_=>none
def Sg(a0:List Int)(a1:Int):Stp Int (Unit⊕Int)
 |v1=>(bif decide (v1<(a0.length:Int))then(bp a0 v1).bind λx1=>(bif (a1==(x1:Int))then(some v1).map λa=> .inr (.inr a)else some (.inl (i64.wrap (v1+1))))else some (.inr (.inl ())))
def El(a0:List Int)(a1:Int):Option Int:=
 dD (iter (Sg a0 a1) n (0:Int)) λ()=>some ((-1):Int)
def qU(a0:List Int)(a1:Int):Option Bool:=
 (El n a0 a1).bind λr1=>some (decide (r1>=0))
def fU(a0:oM)(r1:List Int)(x2:Int):Stp (Int×Int×(List Int)×(List Int)) (Int×(List Int)×(List Int))
 |(v4,v5,v6,v7)=>(bif decide (v5<(a0.uses.length:Int))then((bp a0.uses v5).bind λx3=>(ck (cC v5 r1.length)<|(bp v6 ((0:Nat)+v5:Int)).bind λx4=>(bif decide (x4<0)then(qU n x3 x2).bind λr2=>some r2 else some false)).bind λv8=>(bif v8 then ck (cC x2 r1.length)<|(bp v6 ((0:Nat)+x2:Int)).bind λx5=>ck (cC v5 r1.length)<|(bp v6 ((0:Nat)+v5:Int)).bind λx6=>ck (bP (Vo ((v4:Int).toNat) v7).length (v7.length -(v4:Int).toNat) (sub ([v5]:List Int) 0 1).length 1 8)<|iE ((Vo ((v4:Int).toNat) v7)++(sub ([v5]:List Int) 0 1)) λr3=>ck (az (0+r3.length) r3.length)<|some ((0:Int),(v6.set ((0:Nat)+v5:Int).toNat (i64.wrap (x5+1))),r3)else ck (az (((v4:Int).toNat)+(v7.length -(v4:Int).toNat)) v7.length)<|some ((((v4:Int).toNat:Nat):Int),v6,v7)):Option (Int×(List Int)×(List Int))).bind λ(v9,v10,v11)=>ck (az (((v9:Int).toNat)+(v11.length -(v9:Int).toNat)) v11.length)<|some (.inl ((((v9:Int).toNat:Nat):Int),(i64.wrap (v5+1)),v10,v11))else ck (az (((v4:Int).toNat)+(v7.length -(v4:Int).toNat)) v7.length)<|some (.inr ((((v4:Int).toNat:Nat):Int),v6,v7)))
def dX(a0:oM)(r1:List Int):Stp (Int×(List Int)×(List Int)) (List Int)
 |(v1,v2,v3)=>(bif (decide ((((v3.length -(v1:Int).toNat):Nat):Int)>0))then ck (cC 0 (v3.length -(v1:Int).toNat))<|(bp v3 (((v1:Int).toNat:Nat)+0:Int)).bind λx2=>ck (AJ 1 (((v3.length -(v1:Int).toNat):Nat):Int) (v3.length -(v1:Int).toNat))<|ck (az (((v1:Int).toNat+1)+((v3.length -(v1:Int).toNat) -1)) v3.length)<|(iter (fU n a0 r1 x2) n (((((v1:Int).toNat+1):Nat):Int),(0:Int),v2,v3)).bind λ(w1,w2,w3)=>ck (az (((w1:Int).toNat)+(w3.length -(w1:Int).toNat)) w3.length)<|some (.inl ((((w1:Int).toNat:Nat):Int),w2,w3))else some (.inr v2))
def jI(a0:oM)(a1:Int):Option (List Int):=
 ck (az (sub ([(-1)]:List Int) 0 1).length 1)<|(qx (sub ([(-1)]:List Int) 0 1) (a0.defs.length:Int)).bind λr1=>ck (cC a1 r1.length)<|(bp r1 ((0:Nat)+a1:Int)).bind λx1=>ck (az (0+1) ([a1]:List Int).length)<|(iter (dX n a0 r1) n ((0:Int),(r1.set ((0:Nat)+a1:Int).toNat 0),([a1]:List Int))).bind λw4=>ck (az (sub w4 0 r1.length).length r1.length)<|some (sub w4 0 r1.length)
def cmp_isNaN_string(a0:ByteArray):Option Bool:=
 some (!(ByteArray.toList a0==ByteArray.toList a0))
def nG(a0:ByteArray)(a1:ByteArray):Option Int:=
 (cmp_isNaN_string a0).bind λr1=>(cmp_isNaN_string a1).bind λr2=>(bif r1 then(bif r2 then some (0:Int)else some ((-1):Int))else(bif r2 then some (1:Int)else(bif (Vk a0 a1)then some ((-1):Int)else(bif (!(Vk a0 a1 || ByteArray.toList a0==ByteArray.toList a1))then some (1:Int)else some (0:Int)))))
def lJ(a0:List ByteArray)(a1:List ByteArray):Stp Int (Unit⊕Int)
 |v1=>(bif decide (v1<(a0.length:Int))then(bp a0 v1).bind λx1=>(bif decide (v1>=(a1.length:Int))then(some (1:Int)).map λa=> .inr (.inr a)else(bp a1 v1).bind λx2=>(nG x1 x2).bind λr1=>(bif (r1 !=0)then(some r1).map λa=> .inr (.inr a)else some (.inl (i64.wrap (v1+1)))))else some (.inr (.inl ())))
def lK(a0:List ByteArray)(a1:List ByteArray):Option Int:=
 dD (iter (lJ a0 a1) n (0:Int)) λ()=>(bif decide ((a0.length:Int)<(a1.length:Int))then some ((-1):Int)else some (0:Int))
def l5(a0:Int)(a1:List Bool):Option (Bool×(List Bool)):=
 ck (cC a0 a1.length)<|(bp a1 ((0:Nat)+a0:Int)).bind λx1=>ck (az a1.length a1.length)<|some ((!x1),a1)
def jJ(a0:List Int):Stp (Int×(List Bool)) ((List Bool)⊕(Int×(List Bool)))
 |(v1,v2)=>(bif decide (v1<(a0.length:Int))then(bp a0 v1).bind λx1=>ck (az v2.length v2.length)<|(l5 x1 v2).bind λr1=>(bif r1.1 then(ck (az r1.2.length r1.2.length)<|some (v1,r1.2)).map λa=> .inr (.inr a)else ck (az r1.2.length r1.2.length)<|some (.inl ((i64.wrap (v1+1)),r1.2)))else ck (az v2.length v2.length)<|some (.inr (.inl v2)))
def mE(a0:List Int)(a1:List Bool):Option (Int×(List Bool)):=
 ck (az a1.length a1.length)<|dD (iter (jJ a0) n ((0:Int),a1)) λw1=>ck (az w1.length w1.length)<|some (((-1):Int),w1)
def ig(a0:List Int)(a1:List Bool):Option (Bool×(List Bool)):=
 ck (az a1.length a1.length)<|(mE n a0 a1).bind λr1=>ck (az r1.2.length r1.2.length)<|some ((decide (r1.1>=0)),r1.2)
def iK(a0:oM):Stp (Int×Int×(List Bool)) (Int×(List Bool))
 |(v4,v5,v6)=>(bif decide (v5<(a0.uses.length:Int))then((bp a0.uses v5).bind λx1=>ck (az v6.length v6.length)<|(ig n x1 v6).bind λr1=>(ck (cC v5 r1.2.length)<|(bp r1.2 ((0:Nat)+v5:Int)).bind λx2=>(bif (!x2)then(bif (!r1.1)then(bif decide (v4<0)then some true else(bp a0.defs v5).bind λx3=>(bp a0.defs v4).bind λx4=>some (Vk x3.name x4.name))else some false)else some false)).bind λv7=>(bif v7 then ck (az r1.2.length r1.2.length)<|some (v5,r1.2)else ck (az r1.2.length r1.2.length)<|some (v4,r1.2)):Option (Int×(List Bool))).bind λ(v8,v9)=>ck (az v9.length v9.length)<|some (.inl (v8,(i64.wrap (v5+1)),v9))else ck (az v6.length v6.length)<|some (.inr (v4,v6)))
def kD(a0:oM):Stp (Int×(List Int)×(List Bool)) (List Int)
 |(v1,v2,v3)=>(bif decide (v1<(a0.defs.length:Int))then ck (az v3.length v3.length)<|(iter (iK n a0) n (((-1):Int),(0:Int),v3)).bind λ(w1,w2)=>ck (cC w1 w2.length)<|(bp w2 ((0:Nat)+w1:Int)).bind λx5=>ck (bP v2.length v2.length (sub ([w1]:List Int) 0 1).length 1 8)<|iE (v2++(sub ([w1]:List Int) 0 1)) λr2=>ck (az r2.length r2.length)<|ck (az w2.length (w2.set ((0:Nat)+w1:Int).toNat true).length)<|some (.inl ((i64.wrap (v1+1)),r2,(w2.set ((0:Nat)+w1:Int).toNat true)))else ck (az v2.length v2.length)<|some (.inr v2))
def nH(a0:oM):Option (List Int):=
 ck (decide ((a0.defs.length:Int)<=(a0.defs.length:Int))&&(decide (0<=(a0.defs.length:Int))&&zx (a0.defs.length:Int) 1))<|ck (az 0 ([]:List Int).length)<|ck (az ((a0.defs.length:Int).toNat) (List.replicate (a0.defs.length:Int).toNat false).length)<|(iter (kD n a0) n ((0:Int),([]:List Int),(List.replicate (a0.defs.length:Int).toNat false))).bind λw3=>ck (az (sub w3 0 w3.length).length w3.length)<|some (sub w3 0 w3.length)
def iD(r1:List Int)(x2:List Int):Stp (Int×Int) Int
 |(v3,v4)=>(bif decide (v4<(x2.length:Int))then((bp x2 v4).bind λx3=>(ck (cC x3 r1.length)<|(bp r1 ((0:Nat)+x3:Int)).bind λx4=>(bif decide (x4>=0)then(bif decide (v3<0)then some true else ck (cC x3 r1.length)<|(bp r1 ((0:Nat)+x3:Int)).bind λx5=>ck (cC v3 r1.length)<|(bp r1 ((0:Nat)+v3:Int)).bind λx6=>some (decide (x5<(x6:Int))))else some false)).bind λv5=>(bif v5 then some x3 else some v3):Option Int).bind λv6=>some (.inl (v6,(i64.wrap (v4+1))))else some (.inr v3))
def kH(a0:Int)(a1:List fB)(a2:List (List Int))(r1:List Int):Stp (Int×(List ByteArray)) (Unit⊕((List fB)×(List (List Int))×(List ByteArray)))
 |(v1,v2)=>(bp a1 v1).bind λx1=>ck (bP v2.length v2.length (sub ([x1.name]:List ByteArray) 0 1).length 1 16)<|iE (v2++(sub ([x1.name]:List ByteArray) 0 1)) λr2=>(bp a2 v1).bind λx2=>(iter (iD r1 x2) n (((-1):Int),(0:Int))).bind λw1=>(bif decide (w1<0)then(ck (az 0 ([]:List ByteArray).length)<|some (a1,a2,([]:List ByteArray))).map λa=> .inr (.inr a)else(bif (w1==(a0:Int))then(ck (!(r2.length==0)&&az r2.length r2.length)<|some (a1,a2,r2)).map λa=> .inr (.inr a)else ck (az r2.length r2.length)<|some (.inl (w1,r2))))
def jK(a0:Int)(a1:List fB)(a2:List (List Int)):Option ((List fB)×(List (List Int))×(List ByteArray)):=
 (jI n (oM.mk a1 a2) a0).bind λr1=>ck (az 0 ([]:List ByteArray).length)<|dD (iter (kH n a0 a1 a2 r1) n (a0,([]:List ByteArray))) λ()=>none
def gU(a0:List fB):Stp (Int×(List fB)×(List (List Int))×(List ByteArray)) ((List fB)×(List (List Int))×(List ByteArray))
 |(v1,v2,v3,v4)=>(bif decide (v1<(a0.length:Int))then((jK n v1 v2 v3).bind λr1=>((bif r1.2.2.length==0 then some true else some false)).bind λv5=>(bif v5 then ck (az v4.length v4.length)<|some (r1.1,r1.2.1,v4)else((bif v4.length==0 then some true else(bif decide ((r1.2.2.length:Int)<(v4.length:Int))then some true else(bif ((r1.2.2.length:Int)==(v4.length:Int))then ck (az (sub r1.2.2 0 r1.2.2.length).length r1.2.2.length)<|ck (az (sub v4 0 v4.length).length v4.length)<|(lK n (sub r1.2.2 0 r1.2.2.length) (sub v4 0 v4.length)).bind λr2=>some (decide (r2<0))else some false)))).bind λv6=>(bif v6 then ck (az r1.2.2.length r1.2.2.length)<|some (r1.1,r1.2.1,r1.2.2)else ck (az v4.length v4.length)<|some (r1.1,r1.2.1,v4))):Option ((List fB)×(List (List Int))×(List ByteArray))).bind λ(v7,v8,v9)=>ck (az v9.length v9.length)<|some (.inl ((i64.wrap (v1+1)),v7,v8,v9))else ck (az v4.length v4.length)<|some (.inr (v2,v3,v4)))
def iT(a0:List fB)(a1:List (List Int)):Option ((List fB)×(List (List Int))×(List ByteArray)):=
 ck (az 0 ([]:List ByteArray).length)<|(iter (gU n a0) n ((0:Int),a0,a1,([]:List ByteArray))).bind λ(w1,w2,w3)=>ck (az w3.length w3.length)<|some (w1,w2,w3)
def nS(r1:List ByteArray):Stp (Int×(List (ByteArray×Bool))) (List (ByteArray×Bool))
 |(v1,v2)=>(bif decide (v1<(r1.length:Int))then ck (cC v1 r1.length)<|(bp r1 ((0:Nat)+v1:Int)).bind λx1=>some (.inl ((i64.wrap (v1+1)),(rf ll x1 true v2)))else some (.inr v2))
def kR(a0:bB):Stp (Int×(List (ByteArray×Bool))) (Unit⊕((List Int)×(List ByteArray)×Int))
 |(v3,v4)=>(bif decide (v3<(a0.defs.length:Int))then(bp a0.defs v3).bind λx2=>(bif ((fP ll x2.name v4).getD false)then(some (([]:(List Int)),([]:(List ByteArray)),(5:Int))).map λa=> .inr (.inr a)else some (.inl ((i64.wrap (v3+1)),(rf ll x2.name true v4))))else some (.inr (.inl ())))
def nI(a0:bB):Option ((List Int)×(List ByteArray)×Int):=
 (wR).bind λr1=>(iter (nS r1) n ((0:Int),([]:(List (ByteArray×Bool))))).bind λw1=>dD (iter (kR a0) n ((0:Int),w1)) λ()=>(kQ a0.defs).bind λr2=>(iT n r2.1 r2.2).bind λr3=>((bif r3.2.2.length==0 then some false else some true)).bind λv5=>(bif v5 then ck (az (sub r3.2.2 0 r3.2.2.length).length r3.2.2.length)<|some (([]:(List Int)),(sub r3.2.2 0 r3.2.2.length),(16:Int))else(nH n (oM.mk r3.1 r3.2.1)).bind λr4=>ck (az (sub r4 0 r4.length).length r4.length)<|some ((sub r4 0 r4.length),([]:(List ByteArray)),(0:Int)))
def Ac(a0:cu)(a1:bZ):Option Bool:=
 some (ByteArray.toList a0.name==ByteArray.toList a1.s)
def Fw(a0:List cu)(a1:(cu×Unit)->Option Bool):Stp Int (Unit⊕Int)
 |v1=>(bif decide (v1<(a0.length:Int))then(bp a0 v1).bind λx1=>(a1 (x1,())).bind λr1=>(bif r1 then(some v1).map λa=> .inr (.inr a)else some (.inl (i64.wrap (v1+1))))else some (.inr (.inl ())))
def rC(a0:List cu)(a1:(cu×Unit)->Option Bool):Option Int:=
 dD (iter (Fw a0 a1) n (0:Int)) λ()=>some ((-1):Int)
def Ad(a0:bR)(a1:bZ):Option Bool:=
 some (ByteArray.toList a0.name==ByteArray.toList a1.key)
def yP(a0:Bool):Option Int:=
 (bif a0 then some (1:Int)else some (0:Int))
def wF(a0:Int)(a1:Int):Option Int:=
 (bif (a1==0)then some (0:Int)else ck (a1 !=0)<|(ck (a1 !=0)<|((bif ((Int.tmod a0 a1) !=0)then some (!((decide ((Int.tmod a0 a1)<0))==(decide (a1<0))))else some false)).bind λv1=>(bif v1 then some (i64.wrap ((i64.wrap (Int.tdiv a0 a1)) -1))else some (i64.wrap (Int.tdiv a0 a1))):Option Int).bind λv2=>some v2)
def Jv(a0:Int)(a1:Int)(a2:Int):Option Int:=
 (bif (a0==4)then some (i64.wrap (a1+a2))else(bif (a0==5)then some (i64.wrap (a1 -a2))else(bif (a0==6)then some (i64.wrap (a1*a2))else(bif (a0==7)then(wF a1 a2).bind λr1=>some r1 else(bif (a0==8)then(bif (a2==0)then some (0:Int)else(wF a1 a2).bind λr2=>some (i64.wrap (a1 -(i64.wrap (r2*a2)))))else(bif (a0==10)then(yP (a1==(a2:Int))).bind λr3=>some r3 else(bif (a0==11)then(yP (decide (a1<(a2:Int)))).bind λr4=>some r4 else(bif (a0==12)then(yP (decide (a1<=(a2:Int)))).bind λr5=>some r5 else(bif (a0==13)then(bif (a1 !=0)then(yP (a2 !=0)).bind λr6=>some r6 else(yP false).bind λr7=>some r7)else(bif (a1 !=0)then(yP true).bind λr8=>some r8 else(yP (a2 !=0)).bind λr9=>some r9))))))))))
def ji(a0:List fB)(a1:List cu)(a2:List dM)(a3:List bV)(a4:List fZ)(a5:List eU)(a6:List bT)(a7:Int)(a8:List ByteArray)(a9:bZ)(jz:List (ByteArray×Int)):Option (Int×(List (ByteArray×Int))):=
 (rC n a1 (λ (y1:cu×Unit)=>Ac y1.1 (bZ.mk a9.op a9.n a9.s a9.key a9.args))).bind λr1=>(bif decide (r1<0)then some ((0:Int),jz)else(bp a1 r1).bind λx1=>(j6 n x1.rows (λ (y2:bR×Unit)=>Ad y2.1 (bZ.mk a9.op a9.n a9.s a9.key a9.args))).bind λr2=>(bif decide (r2>=0)then(bp x1.rows r2).bind λx2=>some (x2.n,jz)else some (x1.sg,jz)))
def fA(n:Nat)(rc:((List fB))->((List cu))->((List dM))->((List bV))->((List fZ))->((List eU))->((List bT))->(Int)->((List ByteArray))->(bZ)->((List (ByteArray×Int)))->Option (Int×(List (ByteArray×Int))))(a0:List fB)(a1:List cu)(a2:List dM)(a3:List bV)(a4:List fZ)(a5:List eU)(a6:List bT)(a7:Int)(a8:List ByteArray)(a9:bZ):Stp (Int×(List (ByteArray×Int))×(List Int)) ((List (ByteArray×Int))×(List Int))
 |(v1,v2,v3)=>(bif decide (v1<(a9.args.length:Int))then((bp a9.args v1).bind λx1=>((bif (a9.op==16)then(bif decide (v1>0)then ck (cC 0 v3.length)<|(bp v3 ((0:Nat)+0:Int)).bind λx2=>some (!((x2 !=0)==(v1==1)))else some false)else some false)).bind λv4=>(bif v4 then ck (bP v3.length v3.length (sub ([0]:List Int) 0 1).length 1 8)<|iE (v3++(sub ([0]:List Int) 0 1)) λr1=>ck (az r1.length r1.length)<|some (v2,r1)else(rc a0 a1 a2 a3 a4 a5 a6 a7 a8 (bZ.mk x1.op x1.n x1.s x1.key x1.args) v2).bind λr2=>ck (bP v3.length v3.length (sub ([r2.1]:List Int) 0 1).length 1 8)<|iE (v3++(sub ([r2.1]:List Int) 0 1)) λr3=>ck (az r3.length r3.length)<|some (r2.2,r3)):Option ((List (ByteArray×Int))×(List Int))).bind λ(v5,v6)=>ck (az v6.length v6.length)<|some (.inl ((i64.wrap (v1+1)),v5,v6))else ck (az v3.length v3.length)<|some (.inr (v2,v3)))
def fG(rc:((List fB))->((List cu))->((List dM))->((List bV))->((List fZ))->((List eU))->((List bT))->(Int)->((List ByteArray))->(bZ)->((List (ByteArray×Int)))->Option (Int×(List (ByteArray×Int))))(a0:List fB)(a1:List cu)(a2:List dM)(a3:List bV)(a4:List fZ)(a5:List eU)(a6:List bT)(a7:Int)(a8:List ByteArray)(a9:bZ)(jz:List (ByteArray×Int)):Option (Int×(List (ByteArray×Int))):=
 ck (az 0 ([]:List Int).length)<|(iter (fA n rc a0 a1 a2 a3 a4 a5 a6 a7 a8 a9) n ((0:Int),jz,([]:List Int))).bind λ(w1,w2)=>(bif (a9.op==0)then some (a9.n,w1)else(bif (a9.op==1)then some (((fP ll a9.s w1).getD 0),w1)else(bif (a9.op==2)then(ji n a0 a1 a2 a3 a4 a5 a6 a7 a8 (bZ.mk a9.op a9.n a9.s a9.key a9.args) w1).bind λr4=>some (r4.1,r4.2)else(bif (a9.op==3)then(fK n a8 a9.s).bind λr5=>(yP r5).bind λr6=>some (r6,w1)else(bif (a9.op==9)then ck (cC 0 w2.length)<|(bp w2 ((0:Nat)+0:Int)).bind λx3=>some ((i64.wrap (0 -x3)),w1)else(bif (a9.op==15)then ck (cC 0 w2.length)<|(bp w2 ((0:Nat)+0:Int)).bind λx4=>(yP (x4==0)).bind λr7=>some (r7,w1)else(bif (a9.op==16)then ck (cC 0 w2.length)<|(bp w2 ((0:Nat)+0:Int)).bind λx5=>(bif (x5 !=0)then ck (cC 1 w2.length)<|(bp w2 ((0:Nat)+1:Int)).bind λx6=>some (x6,w1)else ck (cC 2 w2.length)<|(bp w2 ((0:Nat)+2:Int)).bind λx7=>some (x7,w1))else ck (cC 0 w2.length)<|(bp w2 ((0:Nat)+0:Int)).bind λx8=>ck (cC 1 w2.length)<|(bp w2 ((0:Nat)+1:Int)).bind λx9=>(Jv a9.op x8 x9).bind λr8=>some (r8,w1))))))))
def Em(rc:((List fB))->((List cu))->((List dM))->((List bV))->((List fZ))->((List eU))->((List bT))->(Int)->((List ByteArray))->(bZ)->((List (ByteArray×Int)))->Option (Int×(List (ByteArray×Int)))):cX xx:=⟨[(.a [(.v (.sl (.st SI.Def))),(.v (.sl (.st SI.Table))),(.v (.sl (.st SI.Zone))),(.v (.sl (.st SI.Rule))),(.v (.sl (.st SI.Cap))),(.v (.sl (.st SI.View))),(.v (.sl (.st SI.gx))),(.v (.int .i64)),(.mp 0),(.v (.sl .str))]),(.v (.st SI.Expr))],[(0,.m .str (.int .i64))],[(.v (.int .i64))],[(0,.m .str (.int .i64))],λv=>rc (v.1) (v.2.1) (v.2.2.1) (v.2.2.2.1) (v.2.2.2.2.1) (v.2.2.2.2.2.1) (v.2.2.2.2.2.2.1) (v.2.2.2.2.2.2.2.1) (v.2.2.2.2.2.2.2.2.1) (v.2.2.2.2.2.2.2.2.2.1) (v.2.2.2.2.2.2.2.2.2.2)⟩
def jL(rc:((List fB))->((List cu))->((List dM))->((List bV))->((List fZ))->((List eU))->((List bT))->(Int)->((List ByteArray))->(bZ)->((List (ByteArray×Int)))->Option (Int×(List (ByteArray×Int)))):bx xx:=⟨[],[.d .bool],λ_=>none,some (Em rc)⟩
def cB(n:Nat):Nat->((List fB))->((List cu))->((List dM))->((List bV))->((List fZ))->((List eU))->((List bT))->(Int)->((List ByteArray))->(bZ)->((List (ByteArray×Int)))->Option (Int×(List (ByteArray×Int)))
 | 0=>λ_ _ _ _ _ _ _ _ _ _ _=>none
 |m+1=>fG n (cB n m)
def gq(a0:List fB)(a1:List cu)(a2:List dM)(a3:List bV)(a4:List fZ)(a5:List eU)(a6:List bT)(a7:Int)(a8:List ByteArray)(a9:bZ)(jz:List (ByteArray×Int)):Option (Int×(List (ByteArray×Int))):=cB n n a0 a1 a2 a3 a4 a5 a6 a7 a8 a9 jz
def jW(n:Nat)(a1:List bR):Stp (Int×(List (ByteArray×Int))×(List (ByteArray×Bool))) ((List (ByteArray×Int))×(List (ByteArray×Bool)))
 |(v1,v2,v3)=>(bif decide (v1<(a1.length:Int))then((bp a1 v1).bind λx1=>(bif (!((fP ll x1.name v3).getD false))then some ((rf ll x1.name x1.n v2),(rf ll x1.name true v3))else some (v2,v3)):Option ((List (ByteArray×Int))×(List (ByteArray×Bool)))).bind λ(v4,v5)=>some (.inl ((i64.wrap (v1+1)),v4,v5))else some (.inr (v2,v3)))
def gJ(a0:bB)(a2:List ByteArray)(w2:List (ByteArray×Bool))(r1:(List Int)×(List ByteArray)×Int):Stp (Int×(List (ByteArray×Int))×(List Int)) ((List (ByteArray×Int))×(List Int))
 |(v6,v7,v8)=>(bif decide (v6<(r1.1.length:Int))then(ck (cC v6 r1.1.length)<|(bp r1.1 ((0:Nat)+v6:Int)).bind λx2=>(bp a0.defs x2).bind λx3=>((HY n (bZ.mk x3.io x3.ly x3.kw x3.ia x3.en)).bind λr2=>(bif r2 then(gq n a0.defs a0.tables a0.zones a0.rules a0.caps a0.views a0.sm a0.hours a2 (bZ.mk x3.io x3.ly x3.kw x3.ia x3.en) v7).bind λr3=>ck (cC x2 ((a0.defs.length:Int).toNat))<|(bp v8 ((0:Nat)+x2:Int)).bind λx4=>some (r3.2,(v8.set ((0:Nat)+x2:Int).toNat r3.1))else some (v7,v8)):Option ((List (ByteArray×Int))×(List Int))).bind λ(v9,v10)=>(bif (!((fP ll x3.name w2).getD false))then ck (cC x2 ((a0.defs.length:Int).toNat))<|(bp v10 ((0:Nat)+x2:Int)).bind λx5=>some ((rf ll x3.name x5 v9),v10)else some (v9,v10)):Option ((List (ByteArray×Int))×(List Int))).bind λ(v11,v12)=>some (.inl ((i64.wrap (v6+1)),v11,v12))else some (.inr (v7,v8)))
def l6(a0:bB)(a1:List bR)(a2:List ByteArray):Option ((List fB)×(List cu)×(List dM)×(List bV)×(List fZ)×(List eU)×(List bT)×Int×(List ByteArray)×(List (ByteArray×Int))×(List Int)):=
 (iter (jW n a1) n ((0:Int),([]:(List (ByteArray×Int))),([]:(List (ByteArray×Bool))))).bind λ(w1,w2)=>ck (decide ((a0.defs.length:Int)<=(a0.defs.length:Int))&&(decide (0<=(a0.defs.length:Int))&&zx (a0.defs.length:Int) 8))<|(nI n a0).bind λr1=>(bif (r1.2.2 !=0)then ck (az ((a0.defs.length:Int).toNat) (List.replicate (a0.defs.length:Int).toNat (0:Int)).length)<|some (a0.defs,a0.tables,a0.zones,a0.rules,a0.caps,a0.views,a0.sm,a0.hours,a2,w1,(List.replicate (a0.defs.length:Int).toNat (0:Int)))else(iter (gJ n a0 a2 w2 r1) n ((0:Int),w1,(List.replicate (a0.defs.length:Int).toNat (0:Int)))).bind λ(w3,w4)=>ck (az ((a0.defs.length:Int).toNat) w4.length)<|some (a0.defs,a0.tables,a0.zones,a0.rules,a0.caps,a0.views,a0.sm,a0.hours,a2,w3,w4))
def vG(a0:bB)(a1:List bR)(a2:List ByteArray)(a3:bZ):Option Int:=
 (HY n (bZ.mk a3.op a3.n a3.s a3.key a3.args)).bind λr1=>(bif (!r1)then some (0:Int)else(l6 n a0 a1 a2).bind λr2=>(gq n r2.1 r2.2.1 r2.2.2.1 r2.2.2.2.1 r2.2.2.2.2.1 r2.2.2.2.2.2.1 r2.2.2.2.2.2.2.1 r2.2.2.2.2.2.2.2.1 r2.2.2.2.2.2.2.2.2.1 (bZ.mk a3.op a3.n a3.s a3.key a3.args) r2.2.2.2.2.2.2.2.2.2.1).bind λr3=>some r3.1)
def xM(a0:aH):Option (List fT):=
 ck (az (sub ([(ax.mk a0.bu a0.ca a0.br a0.b9)]:List ax) 0 1).length 1)<|ck (az (sub ([(fT.mk a0.ep a0.eb (sub ([(ax.mk a0.bu a0.ca a0.br a0.b9)]:List ax) 0 1))]:List fT) 0 1).length 1)<|some (sub ([(fT.mk a0.ep a0.eb (sub ([(ax.mk a0.bu a0.ca a0.br a0.b9)]:List ax) 0 1))]:List fT) 0 1)
def Fx(a0:List dV)(a1:(dV×Unit)->Option Bool):Stp Int (Unit⊕Int)
 |v1=>(bif decide (v1<(a0.length:Int))then(bp a0 v1).bind λx1=>(a1 (x1,())).bind λr1=>(bif r1 then(some v1).map λa=> .inr (.inr a)else some (.inl (i64.wrap (v1+1))))else some (.inr (.inl ())))
def rD(a0:List dV)(a1:(dV×Unit)->Option Bool):Option Int:=
 dD (iter (Fx a0 a1) n (0:Int)) λ()=>some ((-1):Int)
def kE(a0:List dV)(a1:(dV×Unit)->Option Bool):Option Bool:=
 (rD n a0 a1).bind λr1=>some (decide (r1>=0))
def nJ(a0:Int)(a1:Int)(a2:Int):Option Bool:=
 (bif decide (a1<=(a0:Int))then some (decide (a0<=(a2:Int)))else some false)
def Ae(a0:dV):Option Bool:=
 (nJ a0.side 0 3).bind λr1=>(bif r1 then(nJ a0.base 0 4096).bind λr2=>(bif r2 then(nJ a0.num 0 4096).bind λr3=>(bif r3 then(nJ a0.den 1 4096).bind λr4=>some r4 else some false)else some false)else some false)
def tK(a0:dV):Option Bool:=
 (Ae a0).bind λr1=>some (!r1)
def Af(a0:ax)(a1:List dV):Option Bool:=
 (nu a0).bind λr1=>(bif r1 then(kE n a1 (λ (y1:dV×Unit)=>tK y1.1)).bind λr2=>some (!r2)else some false)
def Uq(a0:List ax)(a1:List ax):Option Bool:=
 (oh n a0 a1).bind λr1=>some r1
def Ag(a0:List fT):Stp Int (Unit⊕Bool)
 |v1=>(bif decide (v1<(a0.length:Int))then dD ((bp a0 v1).bind λx1=>((bif decide (x1.z0<0)then some true else(bif decide (x1.z0>=(x1.z1:Int))then some true else(bif decide (x1.z1>4096)then some true else(bif ((x1.area.length:Int)==0)then some true else(nQ n x1.area).bind λr1=>some (!r1)))))).bind λv2=>(bif v2 then((some false).map λa=> .inr (.inr a)).map .inr else(bif (v1==0)then some (.inl ())else(bp a0 (i64.wrap (v1 -1))).bind λx2=>((bif decide (x2.z1>(x1.z0:Int))then some true else(bif (x2.z1==(x1.z0:Int))then(Uq n x2.area x1.area).bind λr2=>some r2 else some false))).bind λv3=>(bif v3 then((some false).map λa=> .inr (.inr a)).map .inr else some (.inl ())))):Option ((Unit)⊕_)) λ()=>some (.inl (i64.wrap (v1+1)))else some (.inr (.inl ())))
def H6(a0:List fT):Option Bool:=
 (bif decide ((a0.length:Int)>80)then some false else dD (iter (Ag n a0) n (0:Int)) λ()=>some true)
def wS(a0:ax)(a1:Int)(a2:Int):Option Nj:=
 some (Nj.mk (i64.wrap (a1 -a0.x0)) (i64.wrap ((i64.wrap (a0.x1 -1)) -a1)) (i64.wrap (a2 -a0.y0)) (i64.wrap ((i64.wrap (a0.y1 -1)) -a2)))
def tL(a0:Int)(a1:Int):Option Int:=
 ck (a1 !=0)<|(ck (a1 !=0)<|(bif decide ((Int.tmod a0 a1)<0)then some (i64.wrap ((i64.wrap (Int.tdiv a0 a1)) -1))else some (i64.wrap (Int.tdiv a0 a1))):Option Int).bind λv1=>some v1
def xN(a0:ax)(a1:List dV)(a2:Int)(a3:Int)(r1:Nj):Stp (Int×Int) Int
 |(v1,v2)=>(bif decide (v2<(a1.length:Int))then(bp a1 v2).bind λx1=>ck (cC x1.side 4)<|(bp ([r1.a0,r1.a1,r1.a2,r1.a3]:List Int) x1.side).bind λx2=>(tL (i64.wrap (x1.num*x2)) x1.den).bind λr2=>some (.inl ((min v1 (i64.wrap (x1.base+r2))),(i64.wrap (v2+1))))else some (.inr v1))
def Jw(a0:ax)(a1:List dV)(a2:Int)(a3:Int):Option Int:=
 (wS a0 a2 a3).bind λr1=>(iter (xN a0 a1 a2 a3 r1) n ((4096:Int),(0:Int))).bind λw1=>some w1
def nT(a0:ax)(a1:List dV)(x1:ax)(x2:Int):Stp (Int×Int) Int
 |(v5,v6)=>(bif decide (v6<2)then ck (cC v6 2)<|(bp ([x1.y0,(i64.wrap (x1.y1 -1))]:List Int) ((0:Nat)+v6:Int)).bind λx3=>(Jw n a0 a1 x2 x3).bind λr1=>some (.inl ((min v5 r1),(i64.wrap (v6+1))))else some (.inr v5))
def nU(a0:ax)(a1:List dV)(x1:ax):Stp (Int×Int) Int
 |(v3,v4)=>(bif decide (v4<2)then ck (cC v4 2)<|(bp ([x1.x0,(i64.wrap (x1.x1 -1))]:List Int) ((0:Nat)+v4:Int)).bind λx2=>(iter (nT n a0 a1 x1 x2) n (v3,(0:Int))).bind λw1=>some (.inl (w1,(i64.wrap (v4+1))))else some (.inr v3))
def qV(a0:ax)(a1:List dV)(a2:List ax):Stp (Int×Int) Int
 |(v1,v2)=>(bif decide (v2<(a2.length:Int))then(bp a2 v2).bind λx1=>(iter (nU n a0 a1 x1) n (v1,(0:Int))).bind λw2=>some (.inl (w2,(i64.wrap (v2+1))))else some (.inr v1))
def xO(a0:ax)(a1:List dV)(a2:List ax):Option Int:=
 (iter (qV n a0 a1 a2) n ((4096:Int),(0:Int))).bind λw3=>some w3
def qW(a0:fT)(a1:ax)(a2:List dV):Option Bool:=
 (xO n a1 a2 a0.area).bind λr1=>some (decide (r1<(a0.z1:Int)))
def lM(a0:List fT)(a1:(fT×Unit)->Option Bool):Stp Int (Unit⊕Int)
 |v1=>(bif decide (v1<(a0.length:Int))then(bp a0 v1).bind λx1=>(a1 (x1,())).bind λr1=>(bif r1 then(some v1).map λa=> .inr (.inr a)else some (.inl (i64.wrap (v1+1))))else some (.inr (.inl ())))
def tN(a0:List fT)(a1:(fT×Unit)->Option Bool):Option Int:=
 dD (iter (lM a0 a1) n (0:Int)) λ()=>some ((-1):Int)
def iY(a0:List fT)(a1:(fT×Unit)->Option Bool):Option Bool:=
 (tN n a0 a1).bind λr1=>some (decide (r1>=0))
def xP(a0:ax)(a1:List dV)(a2:List fT):Option Bool:=
 ((Af n a0 a1).bind λr1=>(bif (!r1)then some true else(H6 n a2).bind λr2=>some (!r2))).bind λv1=>(bif v1 then some false else(iY n a2 (λ (y1:fT×Unit)=>qW n y1.1 a0 a1)).bind λr3=>some (!r3))
def jM(a0:aH)(a1:ax)(a2:bV):Option Bool:=
 (xM a0).bind λr1=>ck (az (sub ([(dV.mk a2.gR a2.gS a2.jj a2.jn)]:List dV) 0 1).length 1)<|ck (az (sub r1 0 r1.length).length r1.length)<|(xP n a1 (sub ([(dV.mk a2.gR a2.gS a2.jj a2.jn)]:List dV) 0 1) (sub r1 0 r1.length)).bind λr2=>some (!r2)
def gK(a0:lX)(a1:(aH×Unit)->Option Bool):Option Bool:=
 (fM n a0.cy a1).bind λr1=>some r1
def jN(a0:aH)(a1:bV):Option Bool:=
 ck (decide (0<=a0.use)&&decide (a0.use<=i64.bits))<|some ((bits .and .i64 a1.uses (i64.wrap (1*2 ^ (a0.use:Int).toNat)))==0)
def ali(a0:ax)(a1:ax):Option (Int×Int):=
 some ((i64.wrap ((max a0.x0 a1.x0) -(min a0.x1 a1.x1))),(i64.wrap ((max a0.y0 a1.y0) -(min a0.y1 a1.y1))))
def N3(a0:ax)(a1:ax):Option Int:=
 ((nu a0).bind λr1=>(bif (!r1)then some true else(nu a1).bind λr2=>some (!r2))).bind λv1=>(bif v1 then some ((-1):Int)else(ali a0 a1).bind λr3=>some (max (max (0:Int) r3.1) r3.2))
def dU(a0:iB)(a1:lX)(a2:aH)(a3:bV):Option Bool:=
 ((bif (a0.lot==(a1.cz:Int))then some true else(nu (ax.mk a0.ef a0.ed a0.ee a0.ec)).bind λr1=>(bif (!r1)then some true else(bif decide (a0.ff<0)then some true else some (decide (a0.ff>=6)))))).bind λv1=>(bif v1 then some false else((bif (a2.use==(a3.uses:Int))then(bif (a0.ff==(a3.other:Int))then some true else(bif (a2.use==(a3.other:Int))then some (a0.ff==(a3.uses:Int))else some false))else(bif (a2.use==(a3.other:Int))then some (a0.ff==(a3.uses:Int))else some false))).bind λv2=>(bif v2 then(N3 (ax.mk a2.bu a2.ca a2.br a2.b9) (ax.mk a0.ef a0.ed a0.ee a0.ec)).bind λr2=>some (decide (r2<(a3.n:Int)))else some false))
def En(a0:List iB)(a1:(iB×Unit)->Option Bool):Stp Int (Unit⊕Int)
 |v1=>(bif decide (v1<(a0.length:Int))then(bp a0 v1).bind λx1=>(a1 (x1,())).bind λr1=>(bif r1 then(some v1).map λa=> .inr (.inr a)else some (.inl (i64.wrap (v1+1))))else some (.inr (.inl ())))
def qg(a0:List iB)(a1:(iB×Unit)->Option Bool):Option Int:=
 dD (iter (En a0 a1) n (0:Int)) λ()=>some ((-1):Int)
def jO(a0:List iB)(a1:(iB×Unit)->Option Bool):Option Bool:=
 (qg n a0 a1).bind λr1=>some (decide (r1>=0))
def rE(a0:lX)(a1:bV)(a2:aH):Option Bool:=
 (jO n a0.fS (λ (y1:iB×Unit)=>dU y1.1 a0 a2 a1)).bind λr1=>some r1
def jP(a0:aH)(a1:lX)(a2:bV):Option Bool:=
 (rE n a1 a2 a0).bind λr1=>some r1
def mF(a0:lX)(a1:bV):Option Bool:=
 (bif (a1.kind==0)then(kr n (bB.mk a0.fm a0.eE a0.eS a0.eW a0.fp a0.eV a0.gc a0.fc) (bS.mk a0.s7 a0.mC a0.km a0.oY) (bn.mk a0.cz a0.cN)).bind λr1=>ck (az (sub r1 0 r1.length).length r1.length)<|(vG n (bB.mk a0.fm a0.eE a0.eS a0.eW a0.fp a0.eV a0.gc a0.fc) (sub r1 0 r1.length) a0.zones (bZ.mk a1.kO a1.mn a1.mm a1.i9 a1.fW)).bind λr2=>some (r2==0)else(bif (a1.kind==1)then(Cw n a0.km).bind λr3=>(gK n a0 (λ (y1:aH×Unit)=>jM n y1.1 r3.1 a1)).bind λr4=>some r4 else(bif (a1.kind==2)then(gK n a0 (λ (y2:aH×Unit)=>jN y2.1 a1)).bind λr5=>some r5 else(bif (a1.kind==3)then(gK n a0 (λ (y3:aH×Unit)=>jP n y3.1 a0 a1)).bind λr6=>some r6 else some false))))
def vH(a0:ax)(a1:ax):Option Bool:=
 (bif decide ((max a1.x0 a0.x0)<((min a1.x1 a0.x1):Int))then some (decide ((max a1.y0 a0.y0)<((min a1.y1 a0.y1):Int)))else some false)
def H7(a0:List ax)(a1:(ax×Unit)->Option Bool):Stp Int (Unit⊕Int)
 |v1=>(bif decide (v1<(a0.length:Int))then(bp a0 v1).bind λx1=>(a1 (x1,())).bind λr1=>(bif r1 then(some v1).map λa=> .inr (.inr a)else some (.inl (i64.wrap (v1+1))))else some (.inr (.inl ())))
def tO(a0:List ax)(a1:(ax×Unit)->Option Bool):Option Int:=
 dD (iter (H7 a0 a1) n (0:Int)) λ()=>some ((-1):Int)
def iZ(a0:List ax)(a1:(ax×Unit)->Option Bool):Option Bool:=
 (tO n a0 a1).bind λr1=>some (decide (r1>=0))
def Eo(a0:ax)(a1:List ax):Option Bool:=
 (iZ n a1 (λ (y1:ax×Unit)=>vH y1.1 a0)).bind λr1=>some r1
def Ur(a0:List ax)(a1:List ax):Option Bool:=
 (iZ n a0 (λ (y1:ax×Unit)=>Eo n y1.1 a1)).bind λr1=>some r1
def qy(a0:fT)(a1:je):Option Bool:=
 (bif decide (a0.z1>(a1.top:Int))then(Ur n a0.area a1.area).bind λr1=>some r1 else some false)
def vI(a0:List je)(a1:Int)(a2:List fT):Stp Int (Unit⊕Bool)
 |v1=>(bif decide (v1<(a0.length:Int))then dD ((bp a0 v1).bind λx1=>((bif (x1.lot !=(a1:Int))then some true else(nQ n x1.area).bind λr2=>some (!r2))).bind λv2=>(bif v2 then some (.inl ())else(iY n a2 (λ (y1:fT×Unit)=>qy n y1.1 x1)).bind λr3=>(bif r3 then((some false).map λa=> .inr (.inr a)).map .inr else some (.inl ()))):Option ((Unit)⊕_)) λ()=>some (.inl (i64.wrap (v1+1)))else some (.inr (.inl ())))
def Ep(a0:List je)(a1:Int)(a2:List fT):Option Bool:=
 (H6 n a2).bind λr1=>(bif (!r1)then some false else dD (iter (vI n a0 a1 a2) n (0:Int)) λ()=>some true)
def mK(a0:aH)(a1:bW)(a2:bn):Option Bool:=
 (xM a0).bind λr1=>ck (az (sub r1 0 r1.length).length r1.length)<|(Ep n a1.bz a2.lot (sub r1 0 r1.length)).bind λr2=>some (!r2)
def jw(a0:ByteArray)(a1:Bool)(a2:List ByteArray):Option (List ByteArray):=
 ((bif a1 then ck (az (sub a2 0 a2.length).length a2.length)<|(fK n (sub a2 0 a2.length) a0).bind λr1=>some (!r1)else some false)).bind λv1=>(bif v1 then ck (bP a2.length a2.length (sub ([a0]:List ByteArray) 0 1).length 1 16)<|iE (a2++(sub ([a0]:List ByteArray) 0 1)) λr2=>ck (az r2.length r2.length)<|some r2 else ck (az a2.length a2.length)<|some a2)
def mM(a0:bW)(r1:lX×Int)(r2:List Int):Stp (Int×(List ByteArray)) (List ByteArray)
 |(v1,v2)=>(bif decide (v1<(r2.length:Int))then ck (cC v1 r2.length)<|(bp r2 ((0:Nat)+v1:Int)).bind λx1=>(bp a0.bj x1).bind λx2=>(bp a0.bj x1).bind λx3=>(mF n r1.1 x3).bind λr3=>ck (az v2.length v2.length)<|(jw n x2.name r3 v2).bind λr4=>ck (az r4.length r4.length)<|some (.inl ((i64.wrap (v1+1)),r4))else ck (az v2.length v2.length)<|some (.inr v2))
def vJ(a0:bW)(a1:bn)(a2:Int):Option ((List ByteArray)×Int):=
 (z8 n a0 a1).bind λr1=>(bif (r1.2 !=0)then some (([]:(List ByteArray)),r1.2)else(tJ n (bB.mk a0.ci a0.b8 a0.b7 a0.bj a0.ct a0.cj a0.cD a0.cm) r1.1.zones a2).bind λr2=>ck (az 0 ([]:List ByteArray).length)<|(iter (mM n a0 r1 r2) n ((0:Int),([]:List ByteArray))).bind λw1=>(gK n r1.1 (λ (y1:aH×Unit)=>mK n y1.1 a0 a1)).bind λr5=>ck (az w1.length w1.length)<|(jw n (⟨#[101,97,115,101,109,101,110,116]⟩) r5 w1).bind λr6=>ck (az (sub r6 0 r6.length).length r6.length)<|some ((sub r6 0 r6.length),(0:Int)))
def iU(a0:bW)(a1:bn)(a2:Int):Option Bool:=
 (vJ n a0 a1 a2).bind λr1=>(bif (r1.2==0)then some ((r1.1.length:Int)==0)else some false)
def nV(a0:bW)(a1:Int)(a3:List bB)(x1:rT):Stp (Int×(List Bool)) (List Bool)
 |(v2,v3)=>(bif decide (v2<(a3.length:Int))then(bp a3 v2).bind λx2=>(witness_under a0 x2).bind λr2=>(iU n r2 (bn.mk x1.cz x1.cN) a1).bind λr3=>ck (bP v3.length v3.length (sub ([r3]:List Bool) 0 1).length 1 1)<|iE (v3++(sub ([r3]:List Bool) 0 1)) λr4=>ck (az r4.length r4.length)<|some (.inl ((i64.wrap (v2+1)),r4))else ck (az v3.length v3.length)<|some (.inr v3))
def qX(a0:bW)(a1:Int)(a2:((List Bool)×Unit)->Option Bool)(a3:List bB)(r1:List rT):Stp Int (Unit⊕(aR×Bool))
 |v1=>(bif decide (v1<(r1.length:Int))then ck (cC v1 r1.length)<|(bp r1 ((0:Nat)+v1:Int)).bind λx1=>ck (az 0 ([]:List Bool).length)<|(iter (nV n a0 a1 a3 x1) n ((0:Int),([]:List Bool))).bind λw1=>ck (az (sub w1 0 w1.length).length w1.length)<|(a2 ((sub w1 0 w1.length),())).bind λr5=>(bif r5 then(some ((aR.mk x1.mz x1.my x1.jt x1.kf),true)).map λa=> .inr (.inr a)else some (.inl (i64.wrap (v1+1))))else some (.inr (.inl ())))
def pQ(a0:bW)(a1:Int)(a2:((List Bool)×Unit)->Option Bool)(a3:List bB):Option (aR×Bool):=
 (qo n a0).bind λr1=>dD (iter (qX n a0 a1 a2 a3 r1) n (0:Int)) λ()=>some ((aR.mk 0 0 0 0),false)
def uZ(a0:List Bool):Option Bool:=
 (bp a0 0).bind λx1=>(bp a0 1).bind λx2=>some (!(x1==x2))
def iV(a0:bW)(a1:bB)(a2:bB)(a3:Int):Option (aR×Bool):=
 ck (az (sub ([a1,a2]:List bB) 0 2).length 2)<|(pQ n a0 a3 (λ (y1:(List Bool)×Unit)=>uZ y1.1) (sub ([a1,a2]:List bB) 0 2)).bind λr1=>some (r1.1,r1.2)
def u6(a0:List Bool):Option Bool:=
 (bp a0 2).bind λx1=>((bp a0 1).bind λx2=>(bp a0 0).bind λx3=>(bif (!(x2==x3))then(bp a0 1).bind λx4=>some x4 else some x1)).bind λv1=>(bp a0 3).bind λx5=>some (!(x5==v1))
def d9(a0:bW)(a1:bB)(a2:bB)(a3:bB)(a4:bB)(a5:Int):Option (aR×Bool):=
 ck (az (sub ([a1,a2,a3,a4]:List bB) 0 4).length 4)<|(pQ n a0 a5 (λ (y1:(List Bool)×Unit)=>u6 y1.1) (sub ([a1,a2,a3,a4]:List bB) 0 4)).bind λr1=>some (r1.1,r1.2)
def qh(a0:List Bool):Option Bool:=
 (bp a0 0).bind λx1=>(bif x1 then(bp a0 1).bind λx2=>some (!x2)else some false)
def gL(a0:bW)(a1:bB)(a2:bB)(a3:Int):Option Bool:=
 ck (az (sub ([a1,a2]:List bB) 0 2).length 2)<|(pQ n a0 a3 (λ (y1:(List Bool)×Unit)=>qh y1.1) (sub ([a1,a2]:List bB) 0 2)).bind λr1=>some (!r1.2)
def mO(a0:bW)(a1:bB)(a2:aR)(a3:Int):Option Bool:=
 (tu n a0 a2).bind λr1=>(bif r1.2 then(witness_under a0 a1).bind λr2=>(iU n r2 r1.1 a3).bind λr3=>some r3 else some false)
def mG(a0:bW)(a1:bB)(a2:Int)(r1:List rT):Stp (Int×(List Bool)) (List Bool)
 |(v1,v2)=>(bif decide (v1<(r1.length:Int))then ck (cC v1 r1.length)<|(bp r1 ((0:Nat)+v1:Int)).bind λx1=>(witness_under a0 a1).bind λr2=>(iU n r2 (bn.mk x1.cz x1.cN) a2).bind λr3=>ck (bP v2.length v2.length (sub ([r3]:List Bool) 0 1).length 1 1)<|iE (v2++(sub ([r3]:List Bool) 0 1)) λr4=>ck (az r4.length r4.length)<|some (.inl ((i64.wrap (v1+1)),r4))else ck (az v2.length v2.length)<|some (.inr v2))
def mQ(a0:bW)(a1:bB)(a2:Int):Option (List Bool):=
 (qo n a0).bind λr1=>ck (az 0 ([]:List Bool).length)<|(iter (mG n a0 a1 a2 r1) n ((0:Int),([]:List Bool))).bind λw1=>ck (az (sub w1 0 w1.length).length w1.length)<|some (sub w1 0 w1.length)
def CB:Option Bool:=
 ck (az (sub ([(ax.mk 0 0 4 4)]:List ax) 0 1).length 1)<|(fD 6).bind λr1=>(fD 9).bind λr2=>ck (az (sub ([(bS.mk 1 0 (sub ([(ax.mk 0 0 4 4)]:List ax) 0 1) ([]))]:List bS) 0 1).length 1)<|(iV n (bW.mk ([]) ([]) ([]) ([]) ([]) ([]) ([]) 0 (sub ([(bS.mk 1 0 (sub ([(ax.mk 0 0 4 4)]:List ax) 0 1) ([]))]:List bS) 0 1) ([]) ([]) ([]) ([])) r1 r2 0).bind λr3=>(fD 6).bind λr4=>(fD 7).bind λr5=>ck (az (sub ([(bS.mk 1 0 (sub ([(ax.mk 0 0 4 4)]:List ax) 0 1) ([]))]:List bS) 0 1).length 1)<|(iV n (bW.mk ([]) ([]) ([]) ([]) ([]) ([]) ([]) 0 (sub ([(bS.mk 1 0 (sub ([(ax.mk 0 0 4 4)]:List ax) 0 1) ([]))]:List bS) 0 1) ([]) ([]) ([]) ([])) r4 r5 0).bind λr6=>(fD 6).bind λr7=>(fD 9).bind λr8=>(fD 3).bind λr9=>(fD 6).bind λym=>ck (az (sub ([(bS.mk 1 0 (sub ([(ax.mk 0 0 4 4)]:List ax) 0 1) ([]))]:List bS) 0 1).length 1)<|(d9 n (bW.mk ([]) ([]) ([]) ([]) ([]) ([]) ([]) 0 (sub ([(bS.mk 1 0 (sub ([(ax.mk 0 0 4 4)]:List ax) 0 1) ([]))]:List bS) 0 1) ([]) ([]) ([]) ([])) r7 r8 r9 ym 0).bind λpZ=>(fD 6).bind λG1=>(fD 9).bind λsy=>(fD 3).bind λG0=>(fD 9).bind λsx=>ck (az (sub ([(bS.mk 1 0 (sub ([(ax.mk 0 0 4 4)]:List ax) 0 1) ([]))]:List bS) 0 1).length 1)<|(d9 n (bW.mk ([]) ([]) ([]) ([]) ([]) ([]) ([]) 0 (sub ([(bS.mk 1 0 (sub ([(ax.mk 0 0 4 4)]:List ax) 0 1) ([]))]:List bS) 0 1) ([]) ([]) ([]) ([])) G1 sy G0 sx 0).bind λr16=>(fD 6).bind λsq=>(fD 9).bind λGW=>(fD 6).bind λso=>(fD 9).bind λGT=>ck (az (sub ([(bS.mk 1 0 (sub ([(ax.mk 0 0 4 4)]:List ax) 0 1) ([]))]:List bS) 0 1).length 1)<|(d9 n (bW.mk ([]) ([]) ([]) ([]) ([]) ([]) ([]) 0 (sub ([(bS.mk 1 0 (sub ([(ax.mk 0 0 4 4)]:List ax) 0 1) ([]))]:List bS) 0 1) ([]) ([]) ([]) ([])) sq GW so GT 0).bind λLt=>((bif r3.2 then(bif ((r3.1.lot==1)&&((r3.1.use==0)&&((r3.1.floors==3)&&((r3.1.ev==1)&&true))))then(bif (!r6.2)then(fD 6).bind λAG=>(fD 9).bind λr23=>ck (az (sub ([(bS.mk 1 0 (sub ([(ax.mk 0 0 4 4)]:List ax) 0 1) ([]))]:List bS) 0 1).length 1)<|(gL n (bW.mk ([]) ([]) ([]) ([]) ([]) ([]) ([]) 0 (sub ([(bS.mk 1 0 (sub ([(ax.mk 0 0 4 4)]:List ax) 0 1) ([]))]:List bS) 0 1) ([]) ([]) ([]) ([])) AG r23 0).bind λr24=>(bif r24 then(fD 9).bind λr25=>(fD 6).bind λr26=>ck (az (sub ([(bS.mk 1 0 (sub ([(ax.mk 0 0 4 4)]:List ax) 0 1) ([]))]:List bS) 0 1).length 1)<|(gL n (bW.mk ([]) ([]) ([]) ([]) ([]) ([]) ([]) 0 (sub ([(bS.mk 1 0 (sub ([(ax.mk 0 0 4 4)]:List ax) 0 1) ([]))]:List bS) 0 1) ([]) ([]) ([]) ([])) r25 r26 0).bind λr27=>some (!r27)else some false)else some false)else some false)else some false)).bind λv1=>(bif v1 then(bif pZ.2 then(bif ((pZ.1.lot==1)&&((pZ.1.use==0)&&((pZ.1.floors==2)&&((pZ.1.ev==1)&&true))))then(bif r16.2 then(bif ((r16.1.lot==1)&&((r16.1.use==0)&&((r16.1.floors==2)&&((r16.1.ev==1)&&true))))then(bif (!Lt.2)then(fD 6).bind λr28=>ck (az (sub ([(bS.mk 1 0 (sub ([(ax.mk 0 0 4 4)]:List ax) 0 1) ([]))]:List bS) 0 1).length 1)<|(mO n (bW.mk ([]) ([]) ([]) ([]) ([]) ([]) ([]) 0 (sub ([(bS.mk 1 0 (sub ([(ax.mk 0 0 4 4)]:List ax) 0 1) ([]))]:List bS) 0 1) ([]) ([]) ([]) ([])) r28 (aR.mk 1 0 2 1) 0).bind λr29=>(bif r29 then(fD 5).bind λr30=>ck (az (sub ([(bS.mk 1 0 (sub ([(ax.mk 0 0 4 4)]:List ax) 0 1) ([]))]:List bS) 0 1).length 1)<|(mO n (bW.mk ([]) ([]) ([]) ([]) ([]) ([]) ([]) 0 (sub ([(bS.mk 1 0 (sub ([(ax.mk 0 0 4 4)]:List ax) 0 1) ([]))]:List bS) 0 1) ([]) ([]) ([]) ([])) r30 (aR.mk 1 0 2 1) 0).bind λr31=>(bif (!r31)then(fD 6).bind λr32=>ck (az (sub ([(bS.mk 1 0 (sub ([(ax.mk 0 0 4 4)]:List ax) 0 1) ([]))]:List bS) 0 1).length 1)<|(mQ n (bW.mk ([]) ([]) ([]) ([]) ([]) ([]) ([]) 0 (sub ([(bS.mk 1 0 (sub ([(ax.mk 0 0 4 4)]:List ax) 0 1) ([]))]:List bS) 0 1) ([]) ([]) ([]) ([])) r32 0).bind λr33=>some ((r33.length:Int)==144)else some false)else some false)else some false)else some false)else some false)else some false)else some false)else some false)
def Ah(rc:(bZ)->Option Int)(a0:bZ):Stp (Int×Int) Int
 |(v1,v2)=>(bif decide (v2<(a0.args.length:Int))then(bp a0.args v2).bind λx1=>(rc x1).bind λr1=>some (.inl ((i64.wrap (v1+r1)),(i64.wrap (v2+1))))else some (.inr v1))
def Er(rc:(bZ)->Option Int)(a0:bZ):Option Int:=
 (iter (Ah rc a0) n ((1:Int),(0:Int))).bind λw1=>some w1
def H8(rc:(bZ)->Option Int):bx xx:=⟨[.d (.st SI.Expr)],[.d (.int .i64)],λa=>rc a.1,none⟩
def u7(n:Nat):Nat->(bZ)->Option Int
 | 0=>λ_=>none
 |m+1=>Er n (u7 n m)
def H9(a0:bZ):Option Int:=u7 n n a0
def tQ(a0:bB):Stp Int (Unit⊕Bool)
 |v2=>(bif decide (v2<(a0.defs.length:Int))then(bp a0.defs v2).bind λx1=>(H9 n (bZ.mk x1.io x1.ly x1.kw x1.ia x1.en)).bind λr1=>(bif decide (r1>30)then(some false).map λa=> .inr (.inr a)else some (.inl (i64.wrap (v2+1))))else some (.inr (.inl ())))
def tT(a0:bB):Stp Int (Unit⊕Bool)
 |v3=>(bif decide (v3<(a0.rules.length:Int))then((bp a0.rules v3).bind λx2=>(H9 n (bZ.mk x2.kO x2.mn x2.mm x2.i9 x2.fW)).bind λr2=>(bif decide (r2>30)then some true else(bp a0.rules v3).bind λx3=>(bif decide ((x3.zones.length:Int)>5)then some true else(bp a0.rules v3).bind λx4=>some (decide ((x4.except.length:Int)>5))))).bind λv4=>(bif v4 then(some false).map λa=> .inr (.inr a)else some (.inl (i64.wrap (v3+1))))else some (.inr (.inl ())))
def tV(a0:bB):Stp Int (Unit⊕Bool)
 |v5=>(bif decide (v5<(a0.tables.length:Int))then(bp a0.tables v5).bind λx5=>(bif decide ((x5.rows.length:Int)>8)then(some false).map λa=> .inr (.inr a)else some (.inl (i64.wrap (v5+1))))else some (.inr (.inl ())))
def tX(a0:bB):Stp Int (Unit⊕Bool)
 |v6=>(bif decide (v6<(a0.zones.length:Int))then(bp a0.zones v6).bind λx6=>(bif decide ((x6.corners.length:Int)>12)then(some false).map λa=> .inr (.inr a)else some (.inl (i64.wrap (v6+1))))else some (.inr (.inl ())))
def tY(a0:bB):Stp Int (Unit⊕Bool)
 |v7=>(bif decide (v7<(a0.caps.length:Int))then(bp a0.caps v7).bind λx7=>(bif decide ((x7.corners.length:Int)>12)then(some false).map λa=> .inr (.inr a)else some (.inl (i64.wrap (v7+1))))else some (.inr (.inl ())))
def wG(a0:bB):Option Bool:=
 ((bif decide ((a0.defs.length:Int)>5)then some true else(bif decide ((a0.rules.length:Int)>5)then some true else(bif decide ((a0.tables.length:Int)>4)then some true else(bif decide ((a0.zones.length:Int)>5)then some true else some (decide ((a0.caps.length:Int)>3))))))).bind λv1=>(bif v1 then some false else dD (iter (tQ n a0) n (0:Int)) λ()=>dD (iter (tT n a0) n (0:Int)) λ()=>dD (iter (tV a0) n (0:Int)) λ()=>dD (iter (tX a0) n (0:Int)) λ()=>dD (iter (tY a0) n (0:Int)) λ()=>some true)
def vK(a0:ax):Option Bool:=
 (bif decide (a0.x0>=0)then(bif decide (a0.x0<(a0.x1:Int))then(bif decide (a0.x1<=1048576)then(bif decide (a0.y0>=0)then(bif decide (a0.y0<(a0.y1:Int))then some (decide (a0.y1<=1048576))else some false)else some false)else some false)else some false)else some false)
def qz(a0:List Int)(v1:Int)(v2:List Int):Stp Int Int
 |v3=>((bif decide (v3>0)then ck (cC (i64.wrap (v3 -1)) v2.length)<|(bp v2 ((0:Nat)+(i64.wrap (v3 -1)):Int)).bind λx1=>(bp a0 v1).bind λx2=>some (decide (x1>(x2:Int)))else some false)).bind λv4=>(bif v4 then some (.inl (i64.wrap (v3 -1)))else some (.inr v3))
def qC(w1:Int)(r1:List Int):Stp (Int×(List Int)) (List Int)
 |(v6,v7)=>(bif decide (v6>(w1:Int))then ck (cC (i64.wrap (v6 -1)) r1.length)<|(bp v7 ((0:Nat)+(i64.wrap (v6 -1)):Int)).bind λx5=>ck (cC v6 r1.length)<|(bp v7 ((0:Nat)+v6:Int)).bind λx6=>some (.inl ((i64.wrap (v6 -1)),(v7.set ((0:Nat)+v6:Int).toNat x5)))else some (.inr v7))
def vL(a0:List Int):Stp (Int×(List Int)) (List Int)
 |(v1,v2)=>(bif decide (v1<(a0.length:Int))then((iter (qz a0 v1 v2) n (v2.length:Int)).bind λw1=>((bif decide (w1>0)then ck (cC (i64.wrap (w1 -1)) v2.length)<|(bp v2 ((0:Nat)+(i64.wrap (w1 -1)):Int)).bind λx3=>(bp a0 v1).bind λx4=>some (x3==(x4:Int))else some false)).bind λv5=>(bif v5 then ck (az v2.length v2.length)<|some v2 else ck (bP v2.length v2.length (sub ([0]:List Int) 0 1).length 1 8)<|iE (v2++(sub ([0]:List Int) 0 1)) λr1=>(iter (qC w1 r1) n ((i64.wrap ((r1.length:Int) -1)),r1)).bind λw2=>(bp a0 v1).bind λx7=>ck (cC w1 r1.length)<|(bp w2 ((0:Nat)+w1:Int)).bind λx8=>ck (az r1.length (w2.set ((0:Nat)+w1:Int).toNat x7).length)<|some (w2.set ((0:Nat)+w1:Int).toNat x7)):Option ((List Int))).bind λv8=>ck (az v8.length v8.length)<|some (.inl ((i64.wrap (v1+1)),v8))else ck (az v2.length v2.length)<|some (.inr v2))
def Es(a0:List Int):Option (List Int):=
 ck (az 0 ([]:List Int).length)<|(iter (vL n a0) n ((0:Int),([]:List Int))).bind λw3=>ck (az (sub w3 0 w3.length).length w3.length)<|some (sub w3 0 w3.length)
def xQ(a0:List ax):Stp (Int×(List Int)) (List Int)
 |(v1,v2)=>(bif decide (v1<(a0.length:Int))then(bp a0 v1).bind λx1=>(bp a0 v1).bind λx2=>ck (bP v2.length v2.length (sub ([x1.x0,x2.x1]:List Int) 0 2).length 2 8)<|iE (v2++(sub ([x1.x0,x2.x1]:List Int) 0 2)) λr1=>ck (az r1.length r1.length)<|some (.inl ((i64.wrap (v1+1)),r1))else ck (az v2.length v2.length)<|some (.inr v2))
def Et(a1:List ax):Stp (Int×(List Int)) (List Int)
 |(v3,v4)=>(bif decide (v3<(a1.length:Int))then(bp a1 v3).bind λx3=>(bp a1 v3).bind λx4=>ck (bP v4.length v4.length (sub ([x3.x0,x4.x1]:List Int) 0 2).length 2 8)<|iE (v4++(sub ([x3.x0,x4.x1]:List Int) 0 2)) λr2=>ck (az r2.length r2.length)<|some (.inl ((i64.wrap (v3+1)),r2))else ck (az v4.length v4.length)<|some (.inr v4))
def Jy(a0:List ax)(a1:List ax):Option (List Int):=
 ck (az 0 ([]:List Int).length)<|(iter (xQ a0) n ((0:Int),([]:List Int))).bind λw1=>ck (az w1.length w1.length)<|(iter (Et a1) n ((0:Int),w1)).bind λw2=>ck (az (sub w2 0 w2.length).length w2.length)<|(Es n (sub w2 0 w2.length)).bind λr3=>ck (az (sub r3 0 r3.length).length r3.length)<|some (sub r3 0 r3.length)
def qD(a0:List ax)(v1:Int)(r1:List Int)(r2:List Int):Stp (Int×(List Int)×(List Int)) (Int×(List Int)×(List Int))
 |(v5,v6,v7)=>((bif decide (v5>0)then ck (cC (i64.wrap (v5 -1)) r1.length)<|(bp v6 ((0:Nat)+(i64.wrap (v5 -1)):Int)).bind λx3=>(bp a0 v1).bind λx4=>some (decide (x3>(x4.y0:Int)))else some false)).bind λv8=>(bif v8 then ck (cC (i64.wrap (v5 -1)) r1.length)<|(bp v6 ((0:Nat)+(i64.wrap (v5 -1)):Int)).bind λx5=>ck (cC v5 r1.length)<|(bp v6 ((0:Nat)+v5:Int)).bind λx6=>ck (cC (i64.wrap (v5 -1)) r2.length)<|(bp v7 ((0:Nat)+(i64.wrap (v5 -1)):Int)).bind λx7=>ck (cC v5 r2.length)<|(bp v7 ((0:Nat)+v5:Int)).bind λx8=>some (.inl ((i64.wrap (v5 -1)),(v6.set ((0:Nat)+v5:Int).toNat x5),(v7.set ((0:Nat)+v5:Int).toNat x7)))else some (.inr (v5,v6,v7)))
def qE(a0:List ax)(a1:Int):Stp (Int×(List Int)×(List Int)) ((List Int)×(List Int))
 |(v1,v2,v3)=>(bif decide (v1<(a0.length:Int))then(((bp a0 v1).bind λx1=>(bif decide (x1.x0>(a1:Int))then some true else(bp a0 v1).bind λx2=>some (decide (x2.x1<=(a1:Int))))).bind λv4=>(bif v4 then ck (az v2.length v2.length)<|ck (az v3.length v3.length)<|some (v2,v3)else ck (bP v2.length v2.length (sub ([0]:List Int) 0 1).length 1 8)<|iE (v2++(sub ([0]:List Int) 0 1)) λr1=>ck (bP v3.length v3.length (sub ([0]:List Int) 0 1).length 1 8)<|iE (v3++(sub ([0]:List Int) 0 1)) λr2=>(iter (qD a0 v1 r1 r2) n ((v2.length:Int),r1,r2)).bind λ(w1,w2,w3)=>(bp a0 v1).bind λx9=>ck (cC w1 r1.length)<|(bp w2 ((0:Nat)+w1:Int)).bind λx10=>(bp a0 v1).bind λx11=>ck (cC w1 r2.length)<|(bp w3 ((0:Nat)+w1:Int)).bind λx12=>ck (az r1.length (w2.set ((0:Nat)+w1:Int).toNat x9.y0).length)<|ck (az r2.length (w3.set ((0:Nat)+w1:Int).toNat x11.y1).length)<|some ((w2.set ((0:Nat)+w1:Int).toNat x9.y0),(w3.set ((0:Nat)+w1:Int).toNat x11.y1))):Option ((List Int)×(List Int))).bind λ(v9,v10)=>ck (az v9.length v9.length)<|ck (az v10.length v10.length)<|some (.inl ((i64.wrap (v1+1)),v9,v10))else ck (az v2.length v2.length)<|ck (az v3.length v3.length)<|some (.inr (v2,v3)))
end
end Go.Proofs
