import Derived.Test.YtjkanncjllckgaaGreatTD1
open Go.IntKind (i64)
namespace Go.Proofs
open Go.Gb Go.RowKit
noncomputable section
variable (n:Nat)
def l5(a0:List fH)(a1:List cu)(a2:List dV)(a3:List bX)(a4:List fZ)(a5:List eX)(a6:List bT)(a7:Int)(a8:List ax)(a9:List aH):Option (Int×gP):=
 (iter (gQ a9) n ((0:Int),(0:Int))).bind λw1=>ck (az a9.length a9.length)<|some (w1,a0,a1,a2,a3,a4,a5,a6,a7,a8,a9)
def jG(a0:List fH)(a1:List cu)(a2:List dV)(a3:List bX)(a4:List fZ)(a5:List eX)(a6:List bT)(a7:Int)(a8:List ax)(a9:List aH):Option (Int×gP):=
 ck (az a9.length a9.length)<|(l5 n a0 a1 a2 a3 a4 a5 a6 a7 a8 a9).bind λr1=>ck (az r1.2.2.2.2.2.2.2.2.2.2.length r1.2.2.2.2.2.2.2.2.2.2.length)<|some (r1.1,r1.2.1,r1.2.2.1,r1.2.2.2.1,r1.2.2.2.2.1,r1.2.2.2.2.2.1,r1.2.2.2.2.2.2.1,r1.2.2.2.2.2.2.2.1,r1.2.2.2.2.2.2.2.2.1,r1.2.2.2.2.2.2.2.2.2.1,r1.2.2.2.2.2.2.2.2.2.2)
def gT(a9:List aH):Stp (Int×Int) Int
 |(v1,v2)=>(bif decide (v2<(a9.length:Int))then ck (cz v2 a9.length)<|(bp a9 ((0:Nat)+v2:Int)).bind λx1=>(nG x1).bind λr1=>some (.inl ((max v1 r1),(i64.wrap (v2+1))))else some (.inr v1))
def l6(a0:List fH)(a1:List cu)(a2:List dV)(a3:List bX)(a4:List fZ)(a5:List eX)(a6:List bT)(a7:Int)(a8:List ax)(a9:List aH):Option (Int×gP):=
 (iter (gT a9) n ((0:Int),(0:Int))).bind λw1=>ck (az a9.length a9.length)<|some (w1,a0,a1,a2,a3,a4,a5,a6,a7,a8,a9)
def jH(a0:List fH)(a1:List cu)(a2:List dV)(a3:List bX)(a4:List fZ)(a5:List eX)(a6:List bT)(a7:Int)(a8:List ax)(a9:List aH):Option (Int×gP):=
 ck (az a9.length a9.length)<|(l6 n a0 a1 a2 a3 a4 a5 a6 a7 a8 a9).bind λr1=>ck (az r1.2.2.2.2.2.2.2.2.2.2.length r1.2.2.2.2.2.2.2.2.2.2.length)<|some (r1.1,r1.2.1,r1.2.2.1,r1.2.2.2.1,r1.2.2.2.2.1,r1.2.2.2.2.2.1,r1.2.2.2.2.2.2.1,r1.2.2.2.2.2.2.2.1,r1.2.2.2.2.2.2.2.2.1,r1.2.2.2.2.2.2.2.2.2.1,r1.2.2.2.2.2.2.2.2.2.2)
def jI(a9:List aH):Stp (Int×Int) Int
 |(v1,v2)=>(bif decide (v2<(a9.length:Int))then ck (cz v2 a9.length)<|(bp a9 ((0:Nat)+v2:Int)).bind λx1=>(oD x1).bind λr1=>some (.inl ((i64.wrap (v1+r1)),(i64.wrap (v2+1))))else some (.inr v1))
def qg(a0:List fH)(a1:List cu)(a2:List dV)(a3:List bX)(a4:List fZ)(a5:List eX)(a6:List bT)(a7:Int)(a8:List ax)(a9:List aH):Option (Int×gP):=
 (iter (jI a9) n ((0:Int),(0:Int))).bind λw1=>ck (az a9.length a9.length)<|some (w1,a0,a1,a2,a3,a4,a5,a6,a7,a8,a9)
def kF(a0:List fH)(a1:List cu)(a2:List dV)(a3:List bX)(a4:List fZ)(a5:List eX)(a6:List bT)(a7:Int)(a8:List ax)(a9:List aH):Option (Int×gP):=
 ck (az a9.length a9.length)<|(qg n a0 a1 a2 a3 a4 a5 a6 a7 a8 a9).bind λr1=>ck (az r1.2.2.2.2.2.2.2.2.2.2.length r1.2.2.2.2.2.2.2.2.2.2.length)<|some (r1.1,r1.2.1,r1.2.2.1,r1.2.2.2.1,r1.2.2.2.2.1,r1.2.2.2.2.2.1,r1.2.2.2.2.2.2.1,r1.2.2.2.2.2.2.2.1,r1.2.2.2.2.2.2.2.2.1,r1.2.2.2.2.2.2.2.2.2.1,r1.2.2.2.2.2.2.2.2.2.2)
def iF(jz:List ax)(r1:ax×Bool):Stp (Int×Int) Int
 |(v1,v2)=>(bif decide (v2<(jz.length:Int))then((bp jz v2).bind λx1=>(rY r1.1 x1).bind λr2=>(bif r2.2 then(oQ r2.1).bind λr3=>some (i64.wrap (v1+r3))else some v1):Option Int).bind λv3=>some (.inl (v3,(i64.wrap (v2+1))))else some (.inr v1))
def jJ(a0:ax)(a1:Int)(a2:List fH)(a3:List cu)(a4:List dV)(a5:List bX)(a6:List fZ)(a7:List eX)(a8:List bT)(a9:Int)(jz:List ax)(ta:List aH):Option (Bool×gP):=
 (A8 a0 a1).bind λr1=>(bif (!r1.2)then ck (az ta.length ta.length)<|some (false,a2,a3,a4,a5,a6,a7,a8,a9,jz,ta)else(iter (iF jz r1) n ((0:Int),(0:Int))).bind λw1=>(oQ r1.1).bind λr4=>ck (az ta.length ta.length)<|some ((w1==(r4:Int)),a2,a3,a4,a5,a6,a7,a8,a9,jz,ta))
def eY(x1:aH):Stp (Int×Int×gP) (Int×gP)
 |(v13,v14,v15,v16,v17,v18,v19,v20,v21,v22,v23,v24)=>(bif decide (v13<(v14:Int))then ck (2 !=0)<|ck (az v24.length v24.length)<|(jJ n (ax.mk x1.bu x1.ca x1.br x1.b9) (i64.wrap (Int.tdiv (i64.wrap ((i64.wrap (v13+v14))+1)) 2)) v15 v16 v17 v18 v19 v20 v21 v22 v23 v24).bind λr1=>(bif r1.1 then ck (az r1.2.2.2.2.2.2.2.2.2.2.length r1.2.2.2.2.2.2.2.2.2.2.length)<|some (.inl ((i64.wrap (Int.tdiv (i64.wrap ((i64.wrap (v13+v14))+1)) 2)),v14,r1.2.1,r1.2.2.1,r1.2.2.2.1,r1.2.2.2.2.1,r1.2.2.2.2.2.1,r1.2.2.2.2.2.2.1,r1.2.2.2.2.2.2.2.1,r1.2.2.2.2.2.2.2.2.1,r1.2.2.2.2.2.2.2.2.2.1,r1.2.2.2.2.2.2.2.2.2.2))else ck (az r1.2.2.2.2.2.2.2.2.2.2.length r1.2.2.2.2.2.2.2.2.2.2.length)<|some (.inl (v13,(i64.wrap ((i64.wrap (Int.tdiv (i64.wrap ((i64.wrap (v13+v14))+1)) 2)) -1)),r1.2.1,r1.2.2.1,r1.2.2.2.1,r1.2.2.2.2.1,r1.2.2.2.2.2.1,r1.2.2.2.2.2.2.1,r1.2.2.2.2.2.2.2.1,r1.2.2.2.2.2.2.2.2.1,r1.2.2.2.2.2.2.2.2.2.1,r1.2.2.2.2.2.2.2.2.2.2)))else ck (az v24.length v24.length)<|some (.inr (v13,v15,v16,v17,v18,v19,v20,v21,v22,v23,v24)))
def iq(a9:List aH):Stp (Int×Int×gP) (Int×gP)
 |(v1,v2,v3,v4,v5,v6,v7,v8,v9,v10,v11,v12)=>(bif decide (v2<(a9.length:Int))then ck (cz v2 a9.length)<|(bp v12 ((0:Nat)+v2:Int)).bind λx1=>ck (az v12.length v12.length)<|(iter (eY n x1) n ((0:Int),v1,v3,v4,v5,v6,v7,v8,v9,v10,v11,v12)).bind λ(w1,w2,w3,w4,w5,w6,w7,w8,w9,wi,wg)=>ck (az wg.length wg.length)<|some (.inl (w1,(i64.wrap (v2+1)),w2,w3,w4,w5,w6,w7,w8,w9,wi,wg))else ck (az v12.length v12.length)<|some (.inr (v1,v3,v4,v5,v6,v7,v8,v9,v10,v11,v12)))
def jk(a0:List fH)(a1:List cu)(a2:List dV)(a3:List bX)(a4:List fZ)(a5:List eX)(a6:List bT)(a7:Int)(a8:List ax)(a9:List aH):Option (Int×gP):=
 ck (az a9.length a9.length)<|(iter (iq n a9) n ((1048576:Int),(0:Int),a0,a1,a2,a3,a4,a5,a6,a7,a8,a9)).bind λ(PF,PC,w14,w15,w16,w17,w18,w19,w20,w21,PB)=>ck (az PB.length PB.length)<|some (PF,PC,w14,w15,w16,w17,w18,w19,w20,w21,PB)
def kz(a0:aH)(a1:List fH)(a2:List cu)(a3:List dV)(a4:List bX)(a5:List fZ)(a6:List eX)(a7:List bT)(a8:Int)(a9:List ax)(jz:List aH):Option (Int×gP):=
 (kR n (bB.mk a1 a2 a3 a4 a5 a6 a7 a8) a0).bind λr1=>ck (az jz.length jz.length)<|some (r1,a1,a2,a3,a4,a5,a6,a7,a8,a9,jz)
def jK(a9:List aH):Stp (Int×Int×gP) (Int×gP)
 |(v1,v2,v3,v4,v5,v6,v7,v8,v9,v10,v11,v12)=>(bif decide (v2<(a9.length:Int))then ck (cz v2 a9.length)<|(bp v12 ((0:Nat)+v2:Int)).bind λx1=>ck (az v12.length v12.length)<|(kz n x1 v3 v4 v5 v6 v7 v8 v9 v10 v11 v12).bind λr1=>ck (az r1.2.2.2.2.2.2.2.2.2.2.length r1.2.2.2.2.2.2.2.2.2.2.length)<|some (.inl ((i64.wrap (v1+r1.1)),(i64.wrap (v2+1)),r1.2.1,r1.2.2.1,r1.2.2.2.1,r1.2.2.2.2.1,r1.2.2.2.2.2.1,r1.2.2.2.2.2.2.1,r1.2.2.2.2.2.2.2.1,r1.2.2.2.2.2.2.2.2.1,r1.2.2.2.2.2.2.2.2.2.1,r1.2.2.2.2.2.2.2.2.2.2))else ck (az v12.length v12.length)<|some (.inr (v1,v3,v4,v5,v6,v7,v8,v9,v10,v11,v12)))
def qh(a0:List fH)(a1:List cu)(a2:List dV)(a3:List bX)(a4:List fZ)(a5:List eX)(a6:List bT)(a7:Int)(a8:List ax)(a9:List aH):Option (Int×gP):=
 ck (az a9.length a9.length)<|(iter (jK n a9) n ((0:Int),(0:Int),a0,a1,a2,a3,a4,a5,a6,a7,a8,a9)).bind λ(w1,w2,w3,w4,w5,w6,w7,w8,w9,wi,wg)=>ck (az wg.length wg.length)<|some (w1,w2,w3,w4,w5,w6,w7,w8,w9,wi,wg)
def jl(a0:List fH)(a1:List cu)(a2:List dV)(a3:List bX)(a4:List fZ)(a5:List eX)(a6:List bT)(a7:Int)(a8:List ax)(a9:List aH):Option (Int×gP):=
 ck (az a9.length a9.length)<|(qh n a0 a1 a2 a3 a4 a5 a6 a7 a8 a9).bind λr1=>ck (az r1.2.2.2.2.2.2.2.2.2.2.length r1.2.2.2.2.2.2.2.2.2.2.length)<|some (r1.1,r1.2.1,r1.2.2.1,r1.2.2.2.1,r1.2.2.2.2.1,r1.2.2.2.2.2.1,r1.2.2.2.2.2.2.1,r1.2.2.2.2.2.2.2.1,r1.2.2.2.2.2.2.2.2.1,r1.2.2.2.2.2.2.2.2.2.1,r1.2.2.2.2.2.2.2.2.2.2)
def qy(r2:List aH):Stp (Int×gP) (gP)
 |(v10,v11,v12,v13,v14,v15,v16,v17,v18,v19,v20)=>(bif decide (v10<(r2.length:Int))then(ck (cz v10 r2.length)<|(bp r2 ((0:Nat)+v10:Int)).bind λx1=>((bif decide (v10<40)then(gm x1).bind λr3=>some r3 else some false)).bind λv21=>(bif v21 then ck (bP v20.length v20.length (sub ([x1]:List aH) 0 1).length 1 72)<|iH (v20++(sub ([x1]:List aH) 0 1)) λr4=>ck (az r4.length r4.length)<|some (v11,v12,v13,v14,v15,v16,v17,v18,v19,r4)else ck (az v20.length v20.length)<|some (v11,v12,v13,v14,v15,v16,v17,v18,v19,v20)):Option (gP)).bind λ(v22,v23,v24,v25,v26,v27,v28,v29,v30,v31)=>ck (az v31.length v31.length)<|some (.inl ((i64.wrap (v10+1)),v22,v23,v24,v25,v26,v27,v28,v29,v30,v31))else ck (az v20.length v20.length)<|some (.inr (v11,v12,v13,v14,v15,v16,v17,v18,v19,v20)))
def kC(a0:bB)(a1:bS)(a2:bn):Option (List bR):=
 ((nR n a1.area).bind λr1=>(bif r1 then some (a0.defs,a0.tables,a0.zones,a0.rules,a0.caps,a0.views,a0.sm,a0.hours,a1.area)else some (a0.defs,a0.tables,a0.zones,a0.rules,a0.caps,a0.views,a0.sm,a0.hours,([]:(List ax)))):Option ((List fH)×(List cu)×(List dV)×(List bX)×(List fZ)×(List eX)×(List bT)×Int×(List ax))).bind λ(v1,v2,v3,v4,v5,v6,v7,v8,v9)=>(nS n a2 0 (a2.phases.length:Int)).bind λr2=>ck (az 0 ([]:List aH).length)<|(iter (qy r2) n ((0:Int),v1,v2,v3,v4,v5,v6,v7,v8,v9,([]:List aH))).bind λ(w1,w2,w3,w4,w5,w6,w7,w8,w9,wi)=>ck (az wi.length wi.length)<|(mF n w1 w2 w3 w4 w5 w6 w7 w8 w9 wi).bind λr5=>ck (bP 0 0 (sub ([(bR.mk (⟨#[97,114,101,97]⟩) r5.1)]:List bR) 0 1).length 1 24)<|iH ((sub ([(bR.mk (⟨#[97,114,101,97]⟩) r5.1)]:List bR) 0 1)) λr6=>ck (az r5.2.2.2.2.2.2.2.2.2.2.length r5.2.2.2.2.2.2.2.2.2.2.length)<|(iM n r5.2.1 r5.2.2.1 r5.2.2.2.1 r5.2.2.2.2.1 r5.2.2.2.2.2.1 r5.2.2.2.2.2.2.1 r5.2.2.2.2.2.2.2.1 r5.2.2.2.2.2.2.2.2.1 r5.2.2.2.2.2.2.2.2.2.1 r5.2.2.2.2.2.2.2.2.2.2).bind λr7=>ck (bP r6.length r6.length (sub ([(bR.mk (⟨#[99,111,118,101,114]⟩) r7.1)]:List bR) 0 1).length 1 24)<|iH (r6++(sub ([(bR.mk (⟨#[99,111,118,101,114]⟩) r7.1)]:List bR) 0 1)) λr8=>ck (az r7.2.2.2.2.2.2.2.2.2.2.length r7.2.2.2.2.2.2.2.2.2.2.length)<|(kE n r7.2.1 r7.2.2.1 r7.2.2.2.1 r7.2.2.2.2.1 r7.2.2.2.2.2.1 r7.2.2.2.2.2.2.1 r7.2.2.2.2.2.2.2.1 r7.2.2.2.2.2.2.2.2.1 r7.2.2.2.2.2.2.2.2.2.1 r7.2.2.2.2.2.2.2.2.2.2).bind λr9=>ck (bP r8.length r8.length (sub ([(bR.mk (⟨#[102,108,111,111,114]⟩) r9.1)]:List bR) 0 1).length 1 24)<|iH (r8++(sub ([(bR.mk (⟨#[102,108,111,111,114]⟩) r9.1)]:List bR) 0 1)) λyl=>ck (az r9.2.2.2.2.2.2.2.2.2.2.length r9.2.2.2.2.2.2.2.2.2.2.length)<|(jG n r9.2.1 r9.2.2.1 r9.2.2.2.1 r9.2.2.2.2.1 r9.2.2.2.2.2.1 r9.2.2.2.2.2.2.1 r9.2.2.2.2.2.2.2.1 r9.2.2.2.2.2.2.2.2.1 r9.2.2.2.2.2.2.2.2.2.1 r9.2.2.2.2.2.2.2.2.2.2).bind λpZ=>ck (bP yl.length yl.length (sub ([(bR.mk (⟨#[102,108,111,111,114,115]⟩) pZ.1)]:List bR) 0 1).length 1 24)<|iH (yl++(sub ([(bR.mk (⟨#[102,108,111,111,114,115]⟩) pZ.1)]:List bR) 0 1)) λG0=>ck (az pZ.2.2.2.2.2.2.2.2.2.2.length pZ.2.2.2.2.2.2.2.2.2.2.length)<|(jH n pZ.2.1 pZ.2.2.1 pZ.2.2.2.1 pZ.2.2.2.2.1 pZ.2.2.2.2.2.1 pZ.2.2.2.2.2.2.1 pZ.2.2.2.2.2.2.2.1 pZ.2.2.2.2.2.2.2.2.1 pZ.2.2.2.2.2.2.2.2.2.1 pZ.2.2.2.2.2.2.2.2.2.2).bind λsy=>ck (bP G0.length G0.length (sub ([(bR.mk (⟨#[104,101,105,103,104,116]⟩) sy.1)]:List bR) 0 1).length 1 24)<|iH (G0++(sub ([(bR.mk (⟨#[104,101,105,103,104,116]⟩) sy.1)]:List bR) 0 1)) λGW=>ck (az sy.2.2.2.2.2.2.2.2.2.2.length sy.2.2.2.2.2.2.2.2.2.2.length)<|(kF n sy.2.1 sy.2.2.1 sy.2.2.2.1 sy.2.2.2.2.1 sy.2.2.2.2.2.1 sy.2.2.2.2.2.2.1 sy.2.2.2.2.2.2.2.1 sy.2.2.2.2.2.2.2.2.1 sy.2.2.2.2.2.2.2.2.2.1 sy.2.2.2.2.2.2.2.2.2.2).bind λsx=>ck (bP GW.length GW.length (sub ([(bR.mk (⟨#[104,111,109,101,115]⟩) sx.1)]:List bR) 0 1).length 1 24)<|iH (GW++(sub ([(bR.mk (⟨#[104,111,109,101,115]⟩) sx.1)]:List bR) 0 1)) λr16=>ck (az sx.2.2.2.2.2.2.2.2.2.2.length sx.2.2.2.2.2.2.2.2.2.2.length)<|(iM n sx.2.1 sx.2.2.1 sx.2.2.2.1 sx.2.2.2.2.1 sx.2.2.2.2.2.1 sx.2.2.2.2.2.2.1 sx.2.2.2.2.2.2.2.1 sx.2.2.2.2.2.2.2.2.1 sx.2.2.2.2.2.2.2.2.2.1 sx.2.2.2.2.2.2.2.2.2.2).bind λsq=>ck (bP r16.length r16.length (sub ([(bR.mk (⟨#[114,117,110,111,102,102]⟩) sq.1)]:List bR) 0 1).length 1 24)<|iH (r16++(sub ([(bR.mk (⟨#[114,117,110,111,102,102]⟩) sq.1)]:List bR) 0 1)) λGT=>ck (az sq.2.2.2.2.2.2.2.2.2.2.length sq.2.2.2.2.2.2.2.2.2.2.length)<|(jk n sq.2.1 sq.2.2.1 sq.2.2.2.1 sq.2.2.2.2.1 sq.2.2.2.2.2.1 sq.2.2.2.2.2.2.1 sq.2.2.2.2.2.2.2.1 sq.2.2.2.2.2.2.2.2.1 sq.2.2.2.2.2.2.2.2.2.1 sq.2.2.2.2.2.2.2.2.2.2).bind λso=>ck (bP GT.length GT.length (sub ([(bR.mk (⟨#[115,101,116,98,97,99,107]⟩) so.1)]:List bR) 0 1).length 1 24)<|iH (GT++(sub ([(bR.mk (⟨#[115,101,116,98,97,99,107]⟩) so.1)]:List bR) 0 1)) λGS=>ck (az so.2.2.2.2.2.2.2.2.2.2.length so.2.2.2.2.2.2.2.2.2.2.length)<|(jl n so.2.1 so.2.2.1 so.2.2.2.1 so.2.2.2.2.1 so.2.2.2.2.2.1 so.2.2.2.2.2.2.1 so.2.2.2.2.2.2.2.1 so.2.2.2.2.2.2.2.2.1 so.2.2.2.2.2.2.2.2.2.1 so.2.2.2.2.2.2.2.2.2.2).bind λLq=>ck (bP GS.length GS.length (sub ([(bR.mk (⟨#[116,114,97,102,102,105,99]⟩) Lq.1)]:List bR) 0 1).length 1 24)<|iH (GS++(sub ([(bR.mk (⟨#[116,114,97,102,102,105,99]⟩) Lq.1)]:List bR) 0 1)) λAG=>ck (az (sub AG 0 AG.length).length AG.length)<|some (sub AG 0 AG.length)
def yQ(a0:Int):Option (Int×Bool):=
 ((bif (a0==0)then some (a0==0)else(bif (a0==1)then some (a0==1)else(bif (a0==2)then some (a0==2)else some (a0==3))))).bind λv1=>(bif v1 then some ((0:Int),true)else((bif (a0==9)then some (a0==9)else some (a0==15))).bind λv2=>(bif v2 then some ((1:Int),true)else(bif (a0==16)then some ((3:Int),true)else(bif decide (a0>=0)then some ((2:Int),(decide (a0<17)))else some ((2:Int),false)))))
def xN(n:Nat)(rc:(bZ)->(Int)->Option Int)(a0:bZ)(a1:Int):Stp (Int×Int) Int
 |(v2,v3)=>(bif decide (v3<(a0.args.length:Int))then(bp a0.args v3).bind λx1=>(rc (bZ.mk x1.op x1.n x1.s x1.key x1.args) (i64.wrap (a1+1))).bind λr2=>some (.inl ((max v2 r2),(i64.wrap (v3+1))))else some (.inr v2))
def Af(rc:(bZ)->(Int)->Option Int)(a0:bZ)(a1:Int):Option Int:=
 (yQ a0.op).bind λr1=>((bif (!r1.2)then some true else(bif (r1.1 !=(a0.args.length:Int))then some true else some (decide (a1>=12))))).bind λv1=>(bif v1 then some (13:Int)else(iter (xN n rc a0 a1) n ((0:Int),(0:Int))).bind λw1=>some (i64.wrap (w1+1)))
def Ep(rc:(bZ)->(Int)->Option Int):bx xx:=⟨[.d (.st SI.Expr),.d (.int .i64)],[.d (.int .i64)],λa=>rc a.1 a.2.1,none⟩
def rZ(n:Nat):Nat->(bZ)->(Int)->Option Int
 | 0=>λ_ _=>none
 |m+1=>Af n (rZ n m)
def P8(a0:bZ)(a1:Int):Option Int:=rZ n n a0 a1
def H9(a0:bZ):Option Bool:=
 (P8 n (bZ.mk a0.op a0.n a0.s a0.key a0.args) 0).bind λr1=>some (decide (r1<=12))
def wU:Option (List ByteArray):=
 ck (az (sub ([⟨#[97,114,101,97]⟩,⟨#[99,111,118,101,114]⟩,⟨#[102,108,111,111,114]⟩,⟨#[102,108,111,111,114,115]⟩,⟨#[104,101,105,103,104,116]⟩,⟨#[104,111,109,101,115]⟩,⟨#[114,117,110,111,102,102]⟩,⟨#[115,101,116,98,97,99,107]⟩,⟨#[116,114,97,102,102,105,99]⟩]:List ByteArray) 0 9).length 9)<|some (sub ([⟨#[97,114,101,97]⟩,⟨#[99,111,118,101,114]⟩,⟨#[102,108,111,111,114]⟩,⟨#[102,108,111,111,114,115]⟩,⟨#[104,101,105,103,104,116]⟩,⟨#[104,111,109,101,115]⟩,⟨#[114,117,110,111,102,102]⟩,⟨#[115,101,116,98,97,99,107]⟩,⟨#[116,114,97,102,102,105,99]⟩]:List ByteArray) 0 9)
mutual
def toE:bZ->ET
 |⟨op,_,s,_,args⟩=> .mk op s (Ia args)
def Ia:List bZ->List ET
 |[]=>[]
 |x::xs=>toE x::Ia xs
end
def toD(d:fH):ByteArray×ET:=(d.name,.mk d.io d.kq (Ia d.eo))
def kS(a0:List fH):Option ((List fH)×(List (List Int))):=ck (Nat.ble (rh (a0.map toD)) 4000000)<|some (a0,oC (a0.map toD))
def qz(a0:List Int)(a1:Int):Option (List Int):=match a0 with
 |[x]=>ck (decide (0<=a1)&&decide (a1<=1000000000000))<|some (List.replicate a1.toNat x)
 |_=>none
def Sk(a0:List Int)(a1:Int):Stp Int (Unit⊕Int)
 |v1=>(bif decide (v1<(a0.length:Int))then(bp a0 v1).bind λx1=>(bif (a1==(x1:Int))then(some v1).map λa=> .inr (.inr a)else some (.inl (i64.wrap (v1+1))))else some (.inr (.inl ())))
def Er(a0:List Int)(a1:Int):Option Int:=
 dx (iter (Sk a0 a1) n (0:Int)) λ()=>some ((-1):Int)
def qW(a0:List Int)(a1:Int):Option Bool:=
 (Er n a0 a1).bind λr1=>some (decide (r1>=0))
def fU(a0:oN)(r1:List Int)(x2:Int):Stp (Int×Int×(List Int)×(List Int)) (Int×(List Int)×(List Int))
 |(v4,v5,v6,v7)=>(bif decide (v5<(a0.uses.length:Int))then((bp a0.uses v5).bind λx3=>(ck (cz v5 r1.length)<|(bp v6 ((0:Nat)+v5:Int)).bind λx4=>(bif decide (x4<0)then(qW n x3 x2).bind λr2=>some r2 else some false)).bind λv8=>(bif v8 then ck (cz x2 r1.length)<|(bp v6 ((0:Nat)+x2:Int)).bind λx5=>ck (cz v5 r1.length)<|(bp v6 ((0:Nat)+v5:Int)).bind λx6=>ck (bP (Vr ((v4:Int).toNat) v7).length (v7.length -(v4:Int).toNat) (sub ([v5]:List Int) 0 1).length 1 8)<|iH ((Vr ((v4:Int).toNat) v7)++(sub ([v5]:List Int) 0 1)) λr3=>ck (az (0+r3.length) r3.length)<|some ((0:Int),(v6.set ((0:Nat)+v5:Int).toNat (i64.wrap (x5+1))),r3)else ck (az (((v4:Int).toNat)+(v7.length -(v4:Int).toNat)) v7.length)<|some ((((v4:Int).toNat:Nat):Int),v6,v7)):Option (Int×(List Int)×(List Int))).bind λ(v9,v10,v11)=>ck (az (((v9:Int).toNat)+(v11.length -(v9:Int).toNat)) v11.length)<|some (.inl ((((v9:Int).toNat:Nat):Int),(i64.wrap (v5+1)),v10,v11))else ck (az (((v4:Int).toNat)+(v7.length -(v4:Int).toNat)) v7.length)<|some (.inr ((((v4:Int).toNat:Nat):Int),v6,v7)))
def dZ(a0:oN)(r1:List Int):Stp (Int×(List Int)×(List Int)) (List Int)
 |(v1,v2,v3)=>(bif (decide ((((v3.length -(v1:Int).toNat):Nat):Int)>0))then ck (cz 0 (v3.length -(v1:Int).toNat))<|(bp v3 (((v1:Int).toNat:Nat)+0:Int)).bind λx2=>ck (AQ 1 (((v3.length -(v1:Int).toNat):Nat):Int) (v3.length -(v1:Int).toNat))<|ck (az (((v1:Int).toNat+1)+((v3.length -(v1:Int).toNat) -1)) v3.length)<|(iter (fU n a0 r1 x2) n (((((v1:Int).toNat+1):Nat):Int),(0:Int),v2,v3)).bind λ(w1,w2,w3)=>ck (az (((w1:Int).toNat)+(w3.length -(w1:Int).toNat)) w3.length)<|some (.inl ((((w1:Int).toNat:Nat):Int),w2,w3))else some (.inr v2))
def jL(a0:oN)(a1:Int):Option (List Int):=
 ck (az (sub ([(-1)]:List Int) 0 1).length 1)<|(qz (sub ([(-1)]:List Int) 0 1) (a0.defs.length:Int)).bind λr1=>ck (cz a1 r1.length)<|(bp r1 ((0:Nat)+a1:Int)).bind λx1=>ck (az (0+1) ([a1]:List Int).length)<|(iter (dZ n a0 r1) n ((0:Int),(r1.set ((0:Nat)+a1:Int).toNat 0),([a1]:List Int))).bind λw4=>ck (az (sub w4 0 r1.length).length r1.length)<|some (sub w4 0 r1.length)
def cmp_isNaN_string(a0:ByteArray):Option Bool:=
 some (!(ByteArray.toList a0==ByteArray.toList a0))
def nH(a0:ByteArray)(a1:ByteArray):Option Int:=
 (cmp_isNaN_string a0).bind λr1=>(cmp_isNaN_string a1).bind λr2=>(bif r1 then(bif r2 then some (0:Int)else some ((-1):Int))else(bif r2 then some (1:Int)else(bif (Vn a0 a1)then some ((-1):Int)else(bif (!(Vn a0 a1 || ByteArray.toList a0==ByteArray.toList a1))then some (1:Int)else some (0:Int)))))
def lM(a0:List ByteArray)(a1:List ByteArray):Stp Int (Unit⊕Int)
 |v1=>(bif decide (v1<(a0.length:Int))then(bp a0 v1).bind λx1=>(bif decide (v1>=(a1.length:Int))then(some (1:Int)).map λa=> .inr (.inr a)else(bp a1 v1).bind λx2=>(nH x1 x2).bind λr1=>(bif (r1 !=0)then(some r1).map λa=> .inr (.inr a)else some (.inl (i64.wrap (v1+1)))))else some (.inr (.inl ())))
def lN(a0:List ByteArray)(a1:List ByteArray):Option Int:=
 dx (iter (lM a0 a1) n (0:Int)) λ()=>(bif decide ((a0.length:Int)<(a1.length:Int))then some ((-1):Int)else some (0:Int))
def l7(a0:Int)(a1:List Bool):Option (Bool×(List Bool)):=
 ck (cz a0 a1.length)<|(bp a1 ((0:Nat)+a0:Int)).bind λx1=>ck (az a1.length a1.length)<|some ((!x1),a1)
def jM(a0:List Int):Stp (Int×(List Bool)) ((List Bool)⊕(Int×(List Bool)))
 |(v1,v2)=>(bif decide (v1<(a0.length:Int))then(bp a0 v1).bind λx1=>ck (az v2.length v2.length)<|(l7 x1 v2).bind λr1=>(bif r1.1 then(ck (az r1.2.length r1.2.length)<|some (v1,r1.2)).map λa=> .inr (.inr a)else ck (az r1.2.length r1.2.length)<|some (.inl ((i64.wrap (v1+1)),r1.2)))else ck (az v2.length v2.length)<|some (.inr (.inl v2)))
def mG(a0:List Int)(a1:List Bool):Option (Int×(List Bool)):=
 ck (az a1.length a1.length)<|dx (iter (jM a0) n ((0:Int),a1)) λw1=>ck (az w1.length w1.length)<|some (((-1):Int),w1)
def iw(a0:List Int)(a1:List Bool):Option (Bool×(List Bool)):=
 ck (az a1.length a1.length)<|(mG n a0 a1).bind λr1=>ck (az r1.2.length r1.2.length)<|some ((decide (r1.1>=0)),r1.2)
def iO(a0:oN):Stp (Int×Int×(List Bool)) (Int×(List Bool))
 |(v4,v5,v6)=>(bif decide (v5<(a0.uses.length:Int))then((bp a0.uses v5).bind λx1=>ck (az v6.length v6.length)<|(iw n x1 v6).bind λr1=>(ck (cz v5 r1.2.length)<|(bp r1.2 ((0:Nat)+v5:Int)).bind λx2=>(bif (!x2)then(bif (!r1.1)then(bif decide (v4<0)then some true else(bp a0.defs v5).bind λx3=>(bp a0.defs v4).bind λx4=>some (Vn x3.name x4.name))else some false)else some false)).bind λv7=>(bif v7 then ck (az r1.2.length r1.2.length)<|some (v5,r1.2)else ck (az r1.2.length r1.2.length)<|some (v4,r1.2)):Option (Int×(List Bool))).bind λ(v8,v9)=>ck (az v9.length v9.length)<|some (.inl (v8,(i64.wrap (v5+1)),v9))else ck (az v6.length v6.length)<|some (.inr (v4,v6)))
def kG(a0:oN):Stp (Int×(List Int)×(List Bool)) (List Int)
 |(v1,v2,v3)=>(bif decide (v1<(a0.defs.length:Int))then ck (az v3.length v3.length)<|(iter (iO n a0) n (((-1):Int),(0:Int),v3)).bind λ(w1,w2)=>ck (cz w1 w2.length)<|(bp w2 ((0:Nat)+w1:Int)).bind λx5=>ck (bP v2.length v2.length (sub ([w1]:List Int) 0 1).length 1 8)<|iH (v2++(sub ([w1]:List Int) 0 1)) λr2=>ck (az r2.length r2.length)<|ck (az w2.length (w2.set ((0:Nat)+w1:Int).toNat true).length)<|some (.inl ((i64.wrap (v1+1)),r2,(w2.set ((0:Nat)+w1:Int).toNat true)))else ck (az v2.length v2.length)<|some (.inr v2))
def nI(a0:oN):Option (List Int):=
 ck (decide ((a0.defs.length:Int)<=(a0.defs.length:Int))&&(decide (0<=(a0.defs.length:Int))&&zC (a0.defs.length:Int) 1))<|ck (az 0 ([]:List Int).length)<|ck (az ((a0.defs.length:Int).toNat) (List.replicate (a0.defs.length:Int).toNat false).length)<|(iter (kG n a0) n ((0:Int),([]:List Int),(List.replicate (a0.defs.length:Int).toNat false))).bind λw3=>ck (az (sub w3 0 w3.length).length w3.length)<|some (sub w3 0 w3.length)
def iG(r1:List Int)(x2:List Int):Stp (Int×Int) Int
 |(v3,v4)=>(bif decide (v4<(x2.length:Int))then((bp x2 v4).bind λx3=>(ck (cz x3 r1.length)<|(bp r1 ((0:Nat)+x3:Int)).bind λx4=>(bif decide (x4>=0)then(bif decide (v3<0)then some true else ck (cz x3 r1.length)<|(bp r1 ((0:Nat)+x3:Int)).bind λx5=>ck (cz v3 r1.length)<|(bp r1 ((0:Nat)+v3:Int)).bind λx6=>some (decide (x5<(x6:Int))))else some false)).bind λv5=>(bif v5 then some x3 else some v3):Option Int).bind λv6=>some (.inl (v6,(i64.wrap (v4+1))))else some (.inr v3))
def kK(a0:Int)(a1:List fH)(a2:List (List Int))(r1:List Int):Stp (Int×(List ByteArray)) (Unit⊕((List fH)×(List (List Int))×(List ByteArray)))
 |(v1,v2)=>(bp a1 v1).bind λx1=>ck (bP v2.length v2.length (sub ([x1.name]:List ByteArray) 0 1).length 1 16)<|iH (v2++(sub ([x1.name]:List ByteArray) 0 1)) λr2=>(bp a2 v1).bind λx2=>(iter (iG r1 x2) n (((-1):Int),(0:Int))).bind λw1=>(bif decide (w1<0)then(ck (az 0 ([]:List ByteArray).length)<|some (a1,a2,([]:List ByteArray))).map λa=> .inr (.inr a)else(bif (w1==(a0:Int))then(ck (!(r2.length==0)&&az r2.length r2.length)<|some (a1,a2,r2)).map λa=> .inr (.inr a)else ck (az r2.length r2.length)<|some (.inl (w1,r2))))
def jN(a0:Int)(a1:List fH)(a2:List (List Int)):Option ((List fH)×(List (List Int))×(List ByteArray)):=
 (jL n (oN.mk a1 a2) a0).bind λr1=>ck (az 0 ([]:List ByteArray).length)<|dx (iter (kK n a0 a1 a2 r1) n (a0,([]:List ByteArray))) λ()=>none
def gU(a0:List fH):Stp (Int×(List fH)×(List (List Int))×(List ByteArray)) ((List fH)×(List (List Int))×(List ByteArray))
 |(v1,v2,v3,v4)=>(bif decide (v1<(a0.length:Int))then((jN n v1 v2 v3).bind λr1=>((bif r1.2.2.length==0 then some true else some false)).bind λv5=>(bif v5 then ck (az v4.length v4.length)<|some (r1.1,r1.2.1,v4)else((bif v4.length==0 then some true else(bif decide ((r1.2.2.length:Int)<(v4.length:Int))then some true else(bif ((r1.2.2.length:Int)==(v4.length:Int))then ck (az (sub r1.2.2 0 r1.2.2.length).length r1.2.2.length)<|ck (az (sub v4 0 v4.length).length v4.length)<|(lN n (sub r1.2.2 0 r1.2.2.length) (sub v4 0 v4.length)).bind λr2=>some (decide (r2<0))else some false)))).bind λv6=>(bif v6 then ck (az r1.2.2.length r1.2.2.length)<|some (r1.1,r1.2.1,r1.2.2)else ck (az v4.length v4.length)<|some (r1.1,r1.2.1,v4))):Option ((List fH)×(List (List Int))×(List ByteArray))).bind λ(v7,v8,v9)=>ck (az v9.length v9.length)<|some (.inl ((i64.wrap (v1+1)),v7,v8,v9))else ck (az v4.length v4.length)<|some (.inr (v2,v3,v4)))
def iW(a0:List fH)(a1:List (List Int)):Option ((List fH)×(List (List Int))×(List ByteArray)):=
 ck (az 0 ([]:List ByteArray).length)<|(iter (gU n a0) n ((0:Int),a0,a1,([]:List ByteArray))).bind λ(w1,w2,w3)=>ck (az w3.length w3.length)<|some (w1,w2,w3)
def nT(r1:List ByteArray):Stp (Int×(List (ByteArray×Bool))) (List (ByteArray×Bool))
 |(v1,v2)=>(bif decide (v1<(r1.length:Int))then ck (cz v1 r1.length)<|(bp r1 ((0:Nat)+v1:Int)).bind λx1=>some (.inl ((i64.wrap (v1+1)),(ru lj x1 true v2)))else some (.inr v2))
def kT(a0:bB):Stp (Int×(List (ByteArray×Bool))) (Unit⊕((List Int)×(List ByteArray)×Int))
 |(v3,v4)=>(bif decide (v3<(a0.defs.length:Int))then(bp a0.defs v3).bind λx2=>(bif ((fP lj x2.name v4).getD false)then(some (([]:(List Int)),([]:(List ByteArray)),(5:Int))).map λa=> .inr (.inr a)else some (.inl ((i64.wrap (v3+1)),(ru lj x2.name true v4))))else some (.inr (.inl ())))
def nJ(a0:bB):Option ((List Int)×(List ByteArray)×Int):=
 (wU).bind λr1=>(iter (nT r1) n ((0:Int),([]:(List (ByteArray×Bool))))).bind λw1=>dx (iter (kT a0) n ((0:Int),w1)) λ()=>(kS a0.defs).bind λr2=>(iW n r2.1 r2.2).bind λr3=>((bif r3.2.2.length==0 then some false else some true)).bind λv5=>(bif v5 then ck (az (sub r3.2.2 0 r3.2.2.length).length r3.2.2.length)<|some (([]:(List Int)),(sub r3.2.2 0 r3.2.2.length),(16:Int))else(nI n (oN.mk r3.1 r3.2.1)).bind λr4=>ck (az (sub r4 0 r4.length).length r4.length)<|some ((sub r4 0 r4.length),([]:(List ByteArray)),(0:Int)))
def Ag(a0:cu)(a1:bZ):Option Bool:=
 some (ByteArray.toList a0.name==ByteArray.toList a1.s)
def FD(a0:List cu)(a1:(cu×Unit)->Option Bool):Stp Int (Unit⊕Int)
 |v1=>(bif decide (v1<(a0.length:Int))then(bp a0 v1).bind λx1=>(a1 (x1,())).bind λr1=>(bif r1 then(some v1).map λa=> .inr (.inr a)else some (.inl (i64.wrap (v1+1))))else some (.inr (.inl ())))
def rE(a0:List cu)(a1:(cu×Unit)->Option Bool):Option Int:=
 dx (iter (FD a0 a1) n (0:Int)) λ()=>some ((-1):Int)
def Ah(a0:bR)(a1:bZ):Option Bool:=
 some (ByteArray.toList a0.name==ByteArray.toList a1.key)
def yR(a0:Bool):Option Int:=
 (bif a0 then some (1:Int)else some (0:Int))
def wI(a0:Int)(a1:Int):Option Int:=
 (bif (a1==0)then some (0:Int)else ck (a1 !=0)<|(ck (a1 !=0)<|((bif ((Int.tmod a0 a1) !=0)then some (!((decide ((Int.tmod a0 a1)<0))==(decide (a1<0))))else some false)).bind λv1=>(bif v1 then some (i64.wrap ((i64.wrap (Int.tdiv a0 a1)) -1))else some (i64.wrap (Int.tdiv a0 a1))):Option Int).bind λv2=>some v2)
def Jz(a0:Int)(a1:Int)(a2:Int):Option Int:=
 (bif (a0==4)then some (i64.wrap (a1+a2))else(bif (a0==5)then some (i64.wrap (a1 -a2))else(bif (a0==6)then some (i64.wrap (a1*a2))else(bif (a0==7)then(wI a1 a2).bind λr1=>some r1 else(bif (a0==8)then(bif (a2==0)then some (0:Int)else(wI a1 a2).bind λr2=>some (i64.wrap (a1 -(i64.wrap (r2*a2)))))else(bif (a0==10)then(yR (a1==(a2:Int))).bind λr3=>some r3 else(bif (a0==11)then(yR (decide (a1<(a2:Int)))).bind λr4=>some r4 else(bif (a0==12)then(yR (decide (a1<=(a2:Int)))).bind λr5=>some r5 else(bif (a0==13)then(bif (a1 !=0)then(yR (a2 !=0)).bind λr6=>some r6 else(yR false).bind λr7=>some r7)else(bif (a1 !=0)then(yR true).bind λr8=>some r8 else(yR (a2 !=0)).bind λr9=>some r9))))))))))
def jm(a0:List fH)(a1:List cu)(a2:List dV)(a3:List bX)(a4:List fZ)(a5:List eX)(a6:List bT)(a7:Int)(a8:List ByteArray)(a9:bZ)(jz:List (ByteArray×Int)):Option (Int×(List (ByteArray×Int))):=
 (rE n a1 (λ (y1:cu×Unit)=>Ag y1.1 (bZ.mk a9.op a9.n a9.s a9.key a9.args))).bind λr1=>(bif decide (r1<0)then some ((0:Int),jz)else(bp a1 r1).bind λx1=>(kr n x1.rows (λ (y2:bR×Unit)=>Ah y2.1 (bZ.mk a9.op a9.n a9.s a9.key a9.args))).bind λr2=>(bif decide (r2>=0)then(bp x1.rows r2).bind λx2=>some (x2.n,jz)else some (x1.sg,jz)))
def fA(n:Nat)(rc:((List fH))->((List cu))->((List dV))->((List bX))->((List fZ))->((List eX))->((List bT))->(Int)->((List ByteArray))->(bZ)->((List (ByteArray×Int)))->Option (Int×(List (ByteArray×Int))))(a0:List fH)(a1:List cu)(a2:List dV)(a3:List bX)(a4:List fZ)(a5:List eX)(a6:List bT)(a7:Int)(a8:List ByteArray)(a9:bZ):Stp (Int×(List (ByteArray×Int))×(List Int)) ((List (ByteArray×Int))×(List Int))
 |(v1,v2,v3)=>(bif decide (v1<(a9.args.length:Int))then((bp a9.args v1).bind λx1=>((bif (a9.op==16)then(bif decide (v1>0)then ck (cz 0 v3.length)<|(bp v3 ((0:Nat)+0:Int)).bind λx2=>some (!((x2 !=0)==(v1==1)))else some false)else some false)).bind λv4=>(bif v4 then ck (bP v3.length v3.length (sub ([0]:List Int) 0 1).length 1 8)<|iH (v3++(sub ([0]:List Int) 0 1)) λr1=>ck (az r1.length r1.length)<|some (v2,r1)else(rc a0 a1 a2 a3 a4 a5 a6 a7 a8 (bZ.mk x1.op x1.n x1.s x1.key x1.args) v2).bind λr2=>ck (bP v3.length v3.length (sub ([r2.1]:List Int) 0 1).length 1 8)<|iH (v3++(sub ([r2.1]:List Int) 0 1)) λr3=>ck (az r3.length r3.length)<|some (r2.2,r3)):Option ((List (ByteArray×Int))×(List Int))).bind λ(v5,v6)=>ck (az v6.length v6.length)<|some (.inl ((i64.wrap (v1+1)),v5,v6))else ck (az v3.length v3.length)<|some (.inr (v2,v3)))
def fF(rc:((List fH))->((List cu))->((List dV))->((List bX))->((List fZ))->((List eX))->((List bT))->(Int)->((List ByteArray))->(bZ)->((List (ByteArray×Int)))->Option (Int×(List (ByteArray×Int))))(a0:List fH)(a1:List cu)(a2:List dV)(a3:List bX)(a4:List fZ)(a5:List eX)(a6:List bT)(a7:Int)(a8:List ByteArray)(a9:bZ)(jz:List (ByteArray×Int)):Option (Int×(List (ByteArray×Int))):=
 ck (az 0 ([]:List Int).length)<|(iter (fA n rc a0 a1 a2 a3 a4 a5 a6 a7 a8 a9) n ((0:Int),jz,([]:List Int))).bind λ(w1,w2)=>(bif (a9.op==0)then some (a9.n,w1)else(bif (a9.op==1)then some (((fP lj a9.s w1).getD 0),w1)else(bif (a9.op==2)then(jm n a0 a1 a2 a3 a4 a5 a6 a7 a8 (bZ.mk a9.op a9.n a9.s a9.key a9.args) w1).bind λr4=>some (r4.1,r4.2)else(bif (a9.op==3)then(fK n a8 a9.s).bind λr5=>(yR r5).bind λr6=>some (r6,w1)else(bif (a9.op==9)then ck (cz 0 w2.length)<|(bp w2 ((0:Nat)+0:Int)).bind λx3=>some ((i64.wrap (0 -x3)),w1)else(bif (a9.op==15)then ck (cz 0 w2.length)<|(bp w2 ((0:Nat)+0:Int)).bind λx4=>(yR (x4==0)).bind λr7=>some (r7,w1)else(bif (a9.op==16)then ck (cz 0 w2.length)<|(bp w2 ((0:Nat)+0:Int)).bind λx5=>(bif (x5 !=0)then ck (cz 1 w2.length)<|(bp w2 ((0:Nat)+1:Int)).bind λx6=>some (x6,w1)else ck (cz 2 w2.length)<|(bp w2 ((0:Nat)+2:Int)).bind λx7=>some (x7,w1))else ck (cz 0 w2.length)<|(bp w2 ((0:Nat)+0:Int)).bind λx8=>ck (cz 1 w2.length)<|(bp w2 ((0:Nat)+1:Int)).bind λx9=>(Jz a9.op x8 x9).bind λr8=>some (r8,w1))))))))
def Es(rc:((List fH))->((List cu))->((List dV))->((List bX))->((List fZ))->((List eX))->((List bT))->(Int)->((List ByteArray))->(bZ)->((List (ByteArray×Int)))->Option (Int×(List (ByteArray×Int)))):cX xx:=⟨[(.a [(.v (.sl (.st SI.Def))),(.v (.sl (.st SI.Table))),(.v (.sl (.st SI.Zone))),(.v (.sl (.st SI.Rule))),(.v (.sl (.st SI.Cap))),(.v (.sl (.st SI.View))),(.v (.sl (.st SI.gx))),(.v (.int .i64)),(.mp 0),(.v (.sl .str))]),(.v (.st SI.Expr))],[(0,.m .str (.int .i64))],[(.v (.int .i64))],[(0,.m .str (.int .i64))],λv=>rc (v.1) (v.2.1) (v.2.2.1) (v.2.2.2.1) (v.2.2.2.2.1) (v.2.2.2.2.2.1) (v.2.2.2.2.2.2.1) (v.2.2.2.2.2.2.2.1) (v.2.2.2.2.2.2.2.2.1) (v.2.2.2.2.2.2.2.2.2.1) (v.2.2.2.2.2.2.2.2.2.2)⟩
def jO(rc:((List fH))->((List cu))->((List dV))->((List bX))->((List fZ))->((List eX))->((List bT))->(Int)->((List ByteArray))->(bZ)->((List (ByteArray×Int)))->Option (Int×(List (ByteArray×Int)))):bx xx:=⟨[],[.d .bool],λ_=>none,some (Es rc)⟩
def cB(n:Nat):Nat->((List fH))->((List cu))->((List dV))->((List bX))->((List fZ))->((List eX))->((List bT))->(Int)->((List ByteArray))->(bZ)->((List (ByteArray×Int)))->Option (Int×(List (ByteArray×Int)))
 | 0=>λ_ _ _ _ _ _ _ _ _ _ _=>none
 |m+1=>fF n (cB n m)
def gq(a0:List fH)(a1:List cu)(a2:List dV)(a3:List bX)(a4:List fZ)(a5:List eX)(a6:List bT)(a7:Int)(a8:List ByteArray)(a9:bZ)(jz:List (ByteArray×Int)):Option (Int×(List (ByteArray×Int))):=cB n n a0 a1 a2 a3 a4 a5 a6 a7 a8 a9 jz
def jZ(n:Nat)(a1:List bR):Stp (Int×(List (ByteArray×Int))×(List (ByteArray×Bool))) ((List (ByteArray×Int))×(List (ByteArray×Bool)))
 |(v1,v2,v3)=>(bif decide (v1<(a1.length:Int))then((bp a1 v1).bind λx1=>(bif (!((fP lj x1.name v3).getD false))then some ((ru lj x1.name x1.n v2),(ru lj x1.name true v3))else some (v2,v3)):Option ((List (ByteArray×Int))×(List (ByteArray×Bool)))).bind λ(v4,v5)=>some (.inl ((i64.wrap (v1+1)),v4,v5))else some (.inr (v2,v3)))
def gK(a0:bB)(a2:List ByteArray)(w2:List (ByteArray×Bool))(r1:(List Int)×(List ByteArray)×Int):Stp (Int×(List (ByteArray×Int))×(List Int)) ((List (ByteArray×Int))×(List Int))
 |(v6,v7,v8)=>(bif decide (v6<(r1.1.length:Int))then(ck (cz v6 r1.1.length)<|(bp r1.1 ((0:Nat)+v6:Int)).bind λx2=>(bp a0.defs x2).bind λx3=>((H9 n (bZ.mk x3.io x3.lw x3.kq x3.ia x3.eo)).bind λr2=>(bif r2 then(gq n a0.defs a0.tables a0.zones a0.rules a0.caps a0.views a0.sm a0.hours a2 (bZ.mk x3.io x3.lw x3.kq x3.ia x3.eo) v7).bind λr3=>ck (cz x2 ((a0.defs.length:Int).toNat))<|(bp v8 ((0:Nat)+x2:Int)).bind λx4=>some (r3.2,(v8.set ((0:Nat)+x2:Int).toNat r3.1))else some (v7,v8)):Option ((List (ByteArray×Int))×(List Int))).bind λ(v9,v10)=>(bif (!((fP lj x3.name w2).getD false))then ck (cz x2 ((a0.defs.length:Int).toNat))<|(bp v10 ((0:Nat)+x2:Int)).bind λx5=>some ((ru lj x3.name x5 v9),v10)else some (v9,v10)):Option ((List (ByteArray×Int))×(List Int))).bind λ(v11,v12)=>some (.inl ((i64.wrap (v6+1)),v11,v12))else some (.inr (v7,v8)))
def l8(a0:bB)(a1:List bR)(a2:List ByteArray):Option ((List fH)×(List cu)×(List dV)×(List bX)×(List fZ)×(List eX)×(List bT)×Int×(List ByteArray)×(List (ByteArray×Int))×(List Int)):=
 (iter (jZ n a1) n ((0:Int),([]:(List (ByteArray×Int))),([]:(List (ByteArray×Bool))))).bind λ(w1,w2)=>ck (decide ((a0.defs.length:Int)<=(a0.defs.length:Int))&&(decide (0<=(a0.defs.length:Int))&&zC (a0.defs.length:Int) 8))<|(nJ n a0).bind λr1=>(bif (r1.2.2 !=0)then ck (az ((a0.defs.length:Int).toNat) (List.replicate (a0.defs.length:Int).toNat (0:Int)).length)<|some (a0.defs,a0.tables,a0.zones,a0.rules,a0.caps,a0.views,a0.sm,a0.hours,a2,w1,(List.replicate (a0.defs.length:Int).toNat (0:Int)))else(iter (gK n a0 a2 w2 r1) n ((0:Int),w1,(List.replicate (a0.defs.length:Int).toNat (0:Int)))).bind λ(w3,w4)=>ck (az ((a0.defs.length:Int).toNat) w4.length)<|some (a0.defs,a0.tables,a0.zones,a0.rules,a0.caps,a0.views,a0.sm,a0.hours,a2,w3,w4))
def vJ(a0:bB)(a1:List bR)(a2:List ByteArray)(a3:bZ):Option Int:=
 (H9 n (bZ.mk a3.op a3.n a3.s a3.key a3.args)).bind λr1=>(bif (!r1)then some (0:Int)else(l8 n a0 a1 a2).bind λr2=>(gq n r2.1 r2.2.1 r2.2.2.1 r2.2.2.2.1 r2.2.2.2.2.1 r2.2.2.2.2.2.1 r2.2.2.2.2.2.2.1 r2.2.2.2.2.2.2.2.1 r2.2.2.2.2.2.2.2.2.1 (bZ.mk a3.op a3.n a3.s a3.key a3.args) r2.2.2.2.2.2.2.2.2.2.1).bind λr3=>some r3.1)
def xO(a0:aH):Option (List fT):=
 ck (az (sub ([(ax.mk a0.bu a0.ca a0.br a0.b9)]:List ax) 0 1).length 1)<|ck (az (sub ([(fT.mk a0.er a0.ec (sub ([(ax.mk a0.bu a0.ca a0.br a0.b9)]:List ax) 0 1))]:List fT) 0 1).length 1)<|some (sub ([(fT.mk a0.er a0.ec (sub ([(ax.mk a0.bu a0.ca a0.br a0.b9)]:List ax) 0 1))]:List fT) 0 1)
def FE(a0:List dX)(a1:(dX×Unit)->Option Bool):Stp Int (Unit⊕Int)
 |v1=>(bif decide (v1<(a0.length:Int))then(bp a0 v1).bind λx1=>(a1 (x1,())).bind λr1=>(bif r1 then(some v1).map λa=> .inr (.inr a)else some (.inl (i64.wrap (v1+1))))else some (.inr (.inl ())))
def rF(a0:List dX)(a1:(dX×Unit)->Option Bool):Option Int:=
 dx (iter (FE a0 a1) n (0:Int)) λ()=>some ((-1):Int)
def kH(a0:List dX)(a1:(dX×Unit)->Option Bool):Option Bool:=
 (rF n a0 a1).bind λr1=>some (decide (r1>=0))
def nK(a0:Int)(a1:Int)(a2:Int):Option Bool:=
 (bif decide (a1<=(a0:Int))then some (decide (a0<=(a2:Int)))else some false)
def Ai(a0:dX):Option Bool:=
 (nK a0.side 0 3).bind λr1=>(bif r1 then(nK a0.base 0 4096).bind λr2=>(bif r2 then(nK a0.num 0 4096).bind λr3=>(bif r3 then(nK a0.den 1 4096).bind λr4=>some r4 else some false)else some false)else some false)
def tN(a0:dX):Option Bool:=
 (Ai a0).bind λr1=>some (!r1)
def Aj(a0:ax)(a1:List dX):Option Bool:=
 (ny a0).bind λr1=>(bif r1 then(kH n a1 (λ (y1:dX×Unit)=>tN y1.1)).bind λr2=>some (!r2)else some false)
def Uu(a0:List ax)(a1:List ax):Option Bool:=
 (om n a0 a1).bind λr1=>some r1
def Ak(a0:List fT):Stp Int (Unit⊕Bool)
 |v1=>(bif decide (v1<(a0.length:Int))then dx ((bp a0 v1).bind λx1=>((bif decide (x1.z0<0)then some true else(bif decide (x1.z0>=(x1.z1:Int))then some true else(bif decide (x1.z1>4096)then some true else(bif ((x1.area.length:Int)==0)then some true else(nR n x1.area).bind λr1=>some (!r1)))))).bind λv2=>(bif v2 then((some false).map λa=> .inr (.inr a)).map .inr else(bif (v1==0)then some (.inl ())else(bp a0 (i64.wrap (v1 -1))).bind λx2=>((bif decide (x2.z1>(x1.z0:Int))then some true else(bif (x2.z1==(x1.z0:Int))then(Uu n x2.area x1.area).bind λr2=>some r2 else some false))).bind λv3=>(bif v3 then((some false).map λa=> .inr (.inr a)).map .inr else some (.inl ())))):Option ((Unit)⊕_)) λ()=>some (.inl (i64.wrap (v1+1)))else some (.inr (.inl ())))
def Ib(a0:List fT):Option Bool:=
 (bif decide ((a0.length:Int)>80)then some false else dx (iter (Ak n a0) n (0:Int)) λ()=>some true)
def wV(a0:ax)(a1:Int)(a2:Int):Option Ns:=
 some (Ns.mk (i64.wrap (a1 -a0.x0)) (i64.wrap ((i64.wrap (a0.x1 -1)) -a1)) (i64.wrap (a2 -a0.y0)) (i64.wrap ((i64.wrap (a0.y1 -1)) -a2)))
def tO(a0:Int)(a1:Int):Option Int:=
 ck (a1 !=0)<|(ck (a1 !=0)<|(bif decide ((Int.tmod a0 a1)<0)then some (i64.wrap ((i64.wrap (Int.tdiv a0 a1)) -1))else some (i64.wrap (Int.tdiv a0 a1))):Option Int).bind λv1=>some v1
def xP(a0:ax)(a1:List dX)(a2:Int)(a3:Int)(r1:Ns):Stp (Int×Int) Int
 |(v1,v2)=>(bif decide (v2<(a1.length:Int))then(bp a1 v2).bind λx1=>ck (cz x1.side 4)<|(bp ([r1.a0,r1.a1,r1.a2,r1.a3]:List Int) x1.side).bind λx2=>(tO (i64.wrap (x1.num*x2)) x1.den).bind λr2=>some (.inl ((min v1 (i64.wrap (x1.base+r2))),(i64.wrap (v2+1))))else some (.inr v1))
def JA(a0:ax)(a1:List dX)(a2:Int)(a3:Int):Option Int:=
 (wV a0 a2 a3).bind λr1=>(iter (xP a0 a1 a2 a3 r1) n ((4096:Int),(0:Int))).bind λw1=>some w1
def nU(a0:ax)(a1:List dX)(x1:ax)(x2:Int):Stp (Int×Int) Int
 |(v5,v6)=>(bif decide (v6<2)then ck (cz v6 2)<|(bp ([x1.y0,(i64.wrap (x1.y1 -1))]:List Int) ((0:Nat)+v6:Int)).bind λx3=>(JA n a0 a1 x2 x3).bind λr1=>some (.inl ((min v5 r1),(i64.wrap (v6+1))))else some (.inr v5))
def nV(a0:ax)(a1:List dX)(x1:ax):Stp (Int×Int) Int
 |(v3,v4)=>(bif decide (v4<2)then ck (cz v4 2)<|(bp ([x1.x0,(i64.wrap (x1.x1 -1))]:List Int) ((0:Nat)+v4:Int)).bind λx2=>(iter (nU n a0 a1 x1 x2) n (v3,(0:Int))).bind λw1=>some (.inl (w1,(i64.wrap (v4+1))))else some (.inr v3))
def qX(a0:ax)(a1:List dX)(a2:List ax):Stp (Int×Int) Int
 |(v1,v2)=>(bif decide (v2<(a2.length:Int))then(bp a2 v2).bind λx1=>(iter (nV n a0 a1 x1) n (v1,(0:Int))).bind λw2=>some (.inl (w2,(i64.wrap (v2+1))))else some (.inr v1))
def xQ(a0:ax)(a1:List dX)(a2:List ax):Option Int:=
 (iter (qX n a0 a1 a2) n ((4096:Int),(0:Int))).bind λw3=>some w3
def qY(a0:fT)(a1:ax)(a2:List dX):Option Bool:=
 (xQ n a1 a2 a0.area).bind λr1=>some (decide (r1<(a0.z1:Int)))
def lQ(a0:List fT)(a1:(fT×Unit)->Option Bool):Stp Int (Unit⊕Int)
 |v1=>(bif decide (v1<(a0.length:Int))then(bp a0 v1).bind λx1=>(a1 (x1,())).bind λr1=>(bif r1 then(some v1).map λa=> .inr (.inr a)else some (.inl (i64.wrap (v1+1))))else some (.inr (.inl ())))
def tQ(a0:List fT)(a1:(fT×Unit)->Option Bool):Option Int:=
 dx (iter (lQ a0 a1) n (0:Int)) λ()=>some ((-1):Int)
def ja(a0:List fT)(a1:(fT×Unit)->Option Bool):Option Bool:=
 (tQ n a0 a1).bind λr1=>some (decide (r1>=0))
def xR(a0:ax)(a1:List dX)(a2:List fT):Option Bool:=
 ((Aj n a0 a1).bind λr1=>(bif (!r1)then some true else(Ib n a2).bind λr2=>some (!r2))).bind λv1=>(bif v1 then some false else(ja n a2 (λ (y1:fT×Unit)=>qY n y1.1 a0 a1)).bind λr3=>some (!r3))
def jP(a0:aH)(a1:ax)(a2:bX):Option Bool:=
 (xO a0).bind λr1=>ck (az (sub ([(dX.mk a2.gR a2.gS a2.jj a2.jn)]:List dX) 0 1).length 1)<|ck (az (sub r1 0 r1.length).length r1.length)<|(xR n a1 (sub ([(dX.mk a2.gR a2.gS a2.jj a2.jn)]:List dX) 0 1) (sub r1 0 r1.length)).bind λr2=>some (!r2)
def gL(a0:lZ)(a1:(aH×Unit)->Option Bool):Option Bool:=
 (fM n a0.cy a1).bind λr1=>some r1
def jQ(a0:aH)(a1:bX):Option Bool:=
 ck (decide (0<=a0.use)&&decide (a0.use<=i64.bits))<|some ((bits .and .i64 a1.uses (i64.wrap (1*2 ^ (a0.use:Int).toNat)))==0)
def alk(a0:ax)(a1:ax):Option (Int×Int):=
 some ((i64.wrap ((max a0.x0 a1.x0) -(min a0.x1 a1.x1))),(i64.wrap ((max a0.y0 a1.y0) -(min a0.y1 a1.y1))))
def N2(a0:ax)(a1:ax):Option Int:=
 ((ny a0).bind λr1=>(bif (!r1)then some true else(ny a1).bind λr2=>some (!r2))).bind λv1=>(bif v1 then some ((-1):Int)else(alk a0 a1).bind λr3=>some (max (max (0:Int) r3.1) r3.2))
def dW(a0:iE)(a1:lZ)(a2:aH)(a3:bX):Option Bool:=
 ((bif (a0.lot==(a1.cC:Int))then some true else(ny (ax.mk a0.eh a0.ee a0.ef a0.ed)).bind λr1=>(bif (!r1)then some true else(bif decide (a0.ff<0)then some true else some (decide (a0.ff>=6)))))).bind λv1=>(bif v1 then some false else((bif (a2.use==(a3.uses:Int))then(bif (a0.ff==(a3.other:Int))then some true else(bif (a2.use==(a3.other:Int))then some (a0.ff==(a3.uses:Int))else some false))else(bif (a2.use==(a3.other:Int))then some (a0.ff==(a3.uses:Int))else some false))).bind λv2=>(bif v2 then(N2 (ax.mk a2.bu a2.ca a2.br a2.b9) (ax.mk a0.eh a0.ee a0.ef a0.ed)).bind λr2=>some (decide (r2<(a3.n:Int)))else some false))
def Et(a0:List iE)(a1:(iE×Unit)->Option Bool):Stp Int (Unit⊕Int)
 |v1=>(bif decide (v1<(a0.length:Int))then(bp a0 v1).bind λx1=>(a1 (x1,())).bind λr1=>(bif r1 then(some v1).map λa=> .inr (.inr a)else some (.inl (i64.wrap (v1+1))))else some (.inr (.inl ())))
def qi(a0:List iE)(a1:(iE×Unit)->Option Bool):Option Int:=
 dx (iter (Et a0 a1) n (0:Int)) λ()=>some ((-1):Int)
def jR(a0:List iE)(a1:(iE×Unit)->Option Bool):Option Bool:=
 (qi n a0 a1).bind λr1=>some (decide (r1>=0))
def rG(a0:lZ)(a1:bX)(a2:aH):Option Bool:=
 (jR n a0.fS (λ (y1:iE×Unit)=>dW y1.1 a0 a2 a1)).bind λr1=>some r1
def jS(a0:aH)(a1:lZ)(a2:bX):Option Bool:=
 (rG n a1 a2 a0).bind λr1=>some r1
def mH(a0:lZ)(a1:bX):Option Bool:=
 (bif (a1.kind==0)then(kC n (bB.mk a0.fm a0.eE a0.eS a0.eW a0.fp a0.eV a0.gc a0.fc) (bS.mk a0.s6 a0.mC a0.kh a0.oY) (bn.mk a0.cC a0.cN)).bind λr1=>ck (az (sub r1 0 r1.length).length r1.length)<|(vJ n (bB.mk a0.fm a0.eE a0.eS a0.eW a0.fp a0.eV a0.gc a0.fc) (sub r1 0 r1.length) a0.zones (bZ.mk a1.kB a1.mn a1.mm a1.i9 a1.fW)).bind λr2=>some (r2==0)else(bif (a1.kind==1)then(CB n a0.kh).bind λr3=>(gL n a0 (λ (y1:aH×Unit)=>jP n y1.1 r3.1 a1)).bind λr4=>some r4 else(bif (a1.kind==2)then(gL n a0 (λ (y2:aH×Unit)=>jQ y2.1 a1)).bind λr5=>some r5 else(bif (a1.kind==3)then(gL n a0 (λ (y3:aH×Unit)=>jS n y3.1 a0 a1)).bind λr6=>some r6 else some false))))
def vK(a0:ax)(a1:ax):Option Bool:=
 (bif decide ((max a1.x0 a0.x0)<((min a1.x1 a0.x1):Int))then some (decide ((max a1.y0 a0.y0)<((min a1.y1 a0.y1):Int)))else some false)
def Ic(a0:List ax)(a1:(ax×Unit)->Option Bool):Stp Int (Unit⊕Int)
 |v1=>(bif decide (v1<(a0.length:Int))then(bp a0 v1).bind λx1=>(a1 (x1,())).bind λr1=>(bif r1 then(some v1).map λa=> .inr (.inr a)else some (.inl (i64.wrap (v1+1))))else some (.inr (.inl ())))
def tT(a0:List ax)(a1:(ax×Unit)->Option Bool):Option Int:=
 dx (iter (Ic a0 a1) n (0:Int)) λ()=>some ((-1):Int)
def jb(a0:List ax)(a1:(ax×Unit)->Option Bool):Option Bool:=
 (tT n a0 a1).bind λr1=>some (decide (r1>=0))
def Eu(a0:ax)(a1:List ax):Option Bool:=
 (jb n a1 (λ (y1:ax×Unit)=>vK y1.1 a0)).bind λr1=>some r1
def Uv(a0:List ax)(a1:List ax):Option Bool:=
 (jb n a0 (λ (y1:ax×Unit)=>Eu n y1.1 a1)).bind λr1=>some r1
def qC(a0:fT)(a1:jh):Option Bool:=
 (bif decide (a0.z1>(a1.top:Int))then(Uv n a0.area a1.area).bind λr1=>some r1 else some false)
def vL(a0:List jh)(a1:Int)(a2:List fT):Stp Int (Unit⊕Bool)
 |v1=>(bif decide (v1<(a0.length:Int))then dx ((bp a0 v1).bind λx1=>((bif (x1.lot !=(a1:Int))then some true else(nR n x1.area).bind λr2=>some (!r2))).bind λv2=>(bif v2 then some (.inl ())else(ja n a2 (λ (y1:fT×Unit)=>qC n y1.1 x1)).bind λr3=>(bif r3 then((some false).map λa=> .inr (.inr a)).map .inr else some (.inl ()))):Option ((Unit)⊕_)) λ()=>some (.inl (i64.wrap (v1+1)))else some (.inr (.inl ())))
def Ew(a0:List jh)(a1:Int)(a2:List fT):Option Bool:=
 (Ib n a2).bind λr1=>(bif (!r1)then some false else dx (iter (vL n a0 a1 a2) n (0:Int)) λ()=>some true)
def mO(a0:aH)(a1:bU)(a2:bn):Option Bool:=
 (xO a0).bind λr1=>ck (az (sub r1 0 r1.length).length r1.length)<|(Ew n a1.bz a2.lot (sub r1 0 r1.length)).bind λr2=>some (!r2)
def jB(a0:ByteArray)(a1:Bool)(a2:List ByteArray):Option (List ByteArray):=
 ((bif a1 then ck (az (sub a2 0 a2.length).length a2.length)<|(fK n (sub a2 0 a2.length) a0).bind λr1=>some (!r1)else some false)).bind λv1=>(bif v1 then ck (bP a2.length a2.length (sub ([a0]:List ByteArray) 0 1).length 1 16)<|iH (a2++(sub ([a0]:List ByteArray) 0 1)) λr2=>ck (az r2.length r2.length)<|some r2 else ck (az a2.length a2.length)<|some a2)
def mQ(a0:bU)(r1:lZ×Int)(r2:List Int):Stp (Int×(List ByteArray)) (List ByteArray)
 |(v1,v2)=>(bif decide (v1<(r2.length:Int))then ck (cz v1 r2.length)<|(bp r2 ((0:Nat)+v1:Int)).bind λx1=>(bp a0.bj x1).bind λx2=>(bp a0.bj x1).bind λx3=>(mH n r1.1 x3).bind λr3=>ck (az v2.length v2.length)<|(jB n x2.name r3 v2).bind λr4=>ck (az r4.length r4.length)<|some (.inl ((i64.wrap (v1+1)),r4))else ck (az v2.length v2.length)<|some (.inr v2))
def vM(a0:bU)(a1:bn)(a2:Int):Option ((List ByteArray)×Int):=
 (Ad n a0 a1).bind λr1=>(bif (r1.2 !=0)then some (([]:(List ByteArray)),r1.2)else(tL n (bB.mk a0.ci a0.b8 a0.b7 a0.bj a0.ct a0.cj a0.cD a0.cm) r1.1.zones a2).bind λr2=>ck (az 0 ([]:List ByteArray).length)<|(iter (mQ n a0 r1 r2) n ((0:Int),([]:List ByteArray))).bind λw1=>(gL n r1.1 (λ (y1:aH×Unit)=>mO n y1.1 a0 a1)).bind λr5=>ck (az w1.length w1.length)<|(jB n (⟨#[101,97,115,101,109,101,110,116]⟩) r5 w1).bind λr6=>ck (az (sub r6 0 r6.length).length r6.length)<|some ((sub r6 0 r6.length),(0:Int)))
def iX(a0:bU)(a1:bn)(a2:Int):Option Bool:=
 (vM n a0 a1 a2).bind λr1=>(bif (r1.2==0)then some ((r1.1.length:Int)==0)else some false)
def nW(a0:bU)(a1:Int)(a3:List bB)(x1:rV):Stp (Int×(List Bool)) (List Bool)
 |(v2,v3)=>(bif decide (v2<(a3.length:Int))then(bp a3 v2).bind λx2=>(witness_under a0 x2).bind λr2=>(iX n r2 (bn.mk x1.cC x1.cN) a1).bind λr3=>ck (bP v3.length v3.length (sub ([r3]:List Bool) 0 1).length 1 1)<|iH (v3++(sub ([r3]:List Bool) 0 1)) λr4=>ck (az r4.length r4.length)<|some (.inl ((i64.wrap (v2+1)),r4))else ck (az v3.length v3.length)<|some (.inr v3))
def qZ(a0:bU)(a1:Int)(a2:((List Bool)×Unit)->Option Bool)(a3:List bB)(r1:List rV):Stp Int (Unit⊕(aQ×Bool))
 |v1=>(bif decide (v1<(r1.length:Int))then ck (cz v1 r1.length)<|(bp r1 ((0:Nat)+v1:Int)).bind λx1=>ck (az 0 ([]:List Bool).length)<|(iter (nW n a0 a1 a3 x1) n ((0:Int),([]:List Bool))).bind λw1=>ck (az (sub w1 0 w1.length).length w1.length)<|(a2 ((sub w1 0 w1.length),())).bind λr5=>(bif r5 then(some ((aQ.mk x1.mz x1.my x1.jt x1.ke),true)).map λa=> .inr (.inr a)else some (.inl (i64.wrap (v1+1))))else some (.inr (.inl ())))
def pU(a0:bU)(a1:Int)(a2:((List Bool)×Unit)->Option Bool)(a3:List bB):Option (aQ×Bool):=
 (qw n a0).bind λr1=>dx (iter (qZ n a0 a1 a2 a3 r1) n (0:Int)) λ()=>some ((aQ.mk 0 0 0 0),false)
def ve(a0:List Bool):Option Bool:=
 (bp a0 0).bind λx1=>(bp a0 1).bind λx2=>some (!(x1==x2))
def gX(a0:bU)(a1:bB)(a2:bB)(a3:Int):Option (aQ×Bool):=
 ck (az (sub ([a1,a2]:List bB) 0 2).length 2)<|(pU n a0 a3 (λ (y1:(List Bool)×Unit)=>ve y1.1) (sub ([a1,a2]:List bB) 0 2)).bind λr1=>some (r1.1,r1.2)
def vg(a0:List Bool):Option Bool:=
 (bp a0 2).bind λx1=>((bp a0 1).bind λx2=>(bp a0 0).bind λx3=>(bif (!(x2==x3))then(bp a0 1).bind λx4=>some x4 else some x1)).bind λv1=>(bp a0 3).bind λx5=>some (!(x5==v1))
def gY(a0:bU)(a1:bB)(a2:bB)(a3:bB)(a4:bB)(a5:Int):Option (aQ×Bool):=
 ck (az (sub ([a1,a2,a3,a4]:List bB) 0 4).length 4)<|(pU n a0 a5 (λ (y1:(List Bool)×Unit)=>vg y1.1) (sub ([a1,a2,a3,a4]:List bB) 0 4)).bind λr1=>some (r1.1,r1.2)
def qj(a0:List Bool):Option Bool:=
 (bp a0 0).bind λx1=>(bif x1 then(bp a0 1).bind λx2=>some (!x2)else some false)
def fD(a0:bU)(a1:bB)(a2:bB)(a3:Int):Option Bool:=
 ck (az (sub ([a1,a2]:List bB) 0 2).length 2)<|(pU n a0 a3 (λ (y1:(List Bool)×Unit)=>qj y1.1) (sub ([a1,a2]:List bB) 0 2)).bind λr1=>some (!r1.2)
def gD(a0:bU)(a1:bB)(a2:aQ)(a3:Int):Option Bool:=
 (tF n a0 a2).bind λr1=>(bif r1.2 then(witness_under a0 a1).bind λr2=>(iX n r2 r1.1 a3).bind λr3=>some r3 else some false)
def mI(a0:bU)(a1:bB)(a2:Int)(r1:List rV):Stp (Int×(List Bool)) (List Bool)
 |(v1,v2)=>(bif decide (v1<(r1.length:Int))then ck (cz v1 r1.length)<|(bp r1 ((0:Nat)+v1:Int)).bind λx1=>(witness_under a0 a1).bind λr2=>(iX n r2 (bn.mk x1.cC x1.cN) a2).bind λr3=>ck (bP v2.length v2.length (sub ([r3]:List Bool) 0 1).length 1 1)<|iH (v2++(sub ([r3]:List Bool) 0 1)) λr4=>ck (az r4.length r4.length)<|some (.inl ((i64.wrap (v1+1)),r4))else ck (az v2.length v2.length)<|some (.inr v2))
def mR(a0:bU)(a1:bB)(a2:Int):Option (List Bool):=
 (qw n a0).bind λr1=>ck (az 0 ([]:List Bool).length)<|(iter (mI n a0 a1 a2 r1) n ((0:Int),([]:List Bool))).bind λw1=>ck (az (sub w1 0 w1.length).length w1.length)<|some (sub w1 0 w1.length)
def CK:Option Bool:=
 ck (az (sub ([(ax.mk 0 0 4 4)]:List ax) 0 1).length 1)<|(fC 6).bind λr1=>(fC 9).bind λr2=>ck (az (sub ([(bS.mk 1 0 (sub ([(ax.mk 0 0 4 4)]:List ax) 0 1) ([]))]:List bS) 0 1).length 1)<|(gX n (bU.mk ([]) ([]) ([]) ([]) ([]) ([]) ([]) 0 (sub ([(bS.mk 1 0 (sub ([(ax.mk 0 0 4 4)]:List ax) 0 1) ([]))]:List bS) 0 1) ([]) ([]) ([]) ([])) r1 r2 0).bind λr3=>(fC 6).bind λr4=>(fC 7).bind λr5=>ck (az (sub ([(bS.mk 1 0 (sub ([(ax.mk 0 0 4 4)]:List ax) 0 1) ([]))]:List bS) 0 1).length 1)<|(gX n (bU.mk ([]) ([]) ([]) ([]) ([]) ([]) ([]) 0 (sub ([(bS.mk 1 0 (sub ([(ax.mk 0 0 4 4)]:List ax) 0 1) ([]))]:List bS) 0 1) ([]) ([]) ([]) ([])) r4 r5 0).bind λr6=>(fC 6).bind λr7=>(fC 9).bind λr8=>(fC 3).bind λr9=>(fC 6).bind λyl=>ck (az (sub ([(bS.mk 1 0 (sub ([(ax.mk 0 0 4 4)]:List ax) 0 1) ([]))]:List bS) 0 1).length 1)<|(gY n (bU.mk ([]) ([]) ([]) ([]) ([]) ([]) ([]) 0 (sub ([(bS.mk 1 0 (sub ([(ax.mk 0 0 4 4)]:List ax) 0 1) ([]))]:List bS) 0 1) ([]) ([]) ([]) ([])) r7 r8 r9 yl 0).bind λpZ=>(fC 6).bind λG0=>(fC 9).bind λsy=>(fC 3).bind λGW=>(fC 9).bind λsx=>ck (az (sub ([(bS.mk 1 0 (sub ([(ax.mk 0 0 4 4)]:List ax) 0 1) ([]))]:List bS) 0 1).length 1)<|(gY n (bU.mk ([]) ([]) ([]) ([]) ([]) ([]) ([]) 0 (sub ([(bS.mk 1 0 (sub ([(ax.mk 0 0 4 4)]:List ax) 0 1) ([]))]:List bS) 0 1) ([]) ([]) ([]) ([])) G0 sy GW sx 0).bind λr16=>(fC 6).bind λsq=>(fC 9).bind λGT=>(fC 6).bind λso=>(fC 9).bind λGS=>ck (az (sub ([(bS.mk 1 0 (sub ([(ax.mk 0 0 4 4)]:List ax) 0 1) ([]))]:List bS) 0 1).length 1)<|(gY n (bU.mk ([]) ([]) ([]) ([]) ([]) ([]) ([]) 0 (sub ([(bS.mk 1 0 (sub ([(ax.mk 0 0 4 4)]:List ax) 0 1) ([]))]:List bS) 0 1) ([]) ([]) ([]) ([])) sq GT so GS 0).bind λLq=>((bif r3.2 then(bif ((r3.1.lot==1)&&((r3.1.use==0)&&((r3.1.floors==3)&&((r3.1.d6==1)&&true))))then(bif (!r6.2)then(fC 6).bind λAG=>(fC 9).bind λr23=>ck (az (sub ([(bS.mk 1 0 (sub ([(ax.mk 0 0 4 4)]:List ax) 0 1) ([]))]:List bS) 0 1).length 1)<|(fD n (bU.mk ([]) ([]) ([]) ([]) ([]) ([]) ([]) 0 (sub ([(bS.mk 1 0 (sub ([(ax.mk 0 0 4 4)]:List ax) 0 1) ([]))]:List bS) 0 1) ([]) ([]) ([]) ([])) AG r23 0).bind λr24=>(bif r24 then(fC 9).bind λr25=>(fC 6).bind λr26=>ck (az (sub ([(bS.mk 1 0 (sub ([(ax.mk 0 0 4 4)]:List ax) 0 1) ([]))]:List bS) 0 1).length 1)<|(fD n (bU.mk ([]) ([]) ([]) ([]) ([]) ([]) ([]) 0 (sub ([(bS.mk 1 0 (sub ([(ax.mk 0 0 4 4)]:List ax) 0 1) ([]))]:List bS) 0 1) ([]) ([]) ([]) ([])) r25 r26 0).bind λr27=>some (!r27)else some false)else some false)else some false)else some false)).bind λv1=>(bif v1 then(bif pZ.2 then(bif ((pZ.1.lot==1)&&((pZ.1.use==0)&&((pZ.1.floors==2)&&((pZ.1.d6==1)&&true))))then(bif r16.2 then(bif ((r16.1.lot==1)&&((r16.1.use==0)&&((r16.1.floors==2)&&((r16.1.d6==1)&&true))))then(bif (!Lq.2)then(fC 6).bind λr28=>ck (az (sub ([(bS.mk 1 0 (sub ([(ax.mk 0 0 4 4)]:List ax) 0 1) ([]))]:List bS) 0 1).length 1)<|(gD n (bU.mk ([]) ([]) ([]) ([]) ([]) ([]) ([]) 0 (sub ([(bS.mk 1 0 (sub ([(ax.mk 0 0 4 4)]:List ax) 0 1) ([]))]:List bS) 0 1) ([]) ([]) ([]) ([])) r28 (aQ.mk 1 0 2 1) 0).bind λr29=>(bif r29 then(fC 5).bind λr30=>ck (az (sub ([(bS.mk 1 0 (sub ([(ax.mk 0 0 4 4)]:List ax) 0 1) ([]))]:List bS) 0 1).length 1)<|(gD n (bU.mk ([]) ([]) ([]) ([]) ([]) ([]) ([]) 0 (sub ([(bS.mk 1 0 (sub ([(ax.mk 0 0 4 4)]:List ax) 0 1) ([]))]:List bS) 0 1) ([]) ([]) ([]) ([])) r30 (aQ.mk 1 0 2 1) 0).bind λr31=>(bif (!r31)then(fC 6).bind λr32=>ck (az (sub ([(bS.mk 1 0 (sub ([(ax.mk 0 0 4 4)]:List ax) 0 1) ([]))]:List bS) 0 1).length 1)<|(mR n (bU.mk ([]) ([]) ([]) ([]) ([]) ([]) ([]) 0 (sub ([(bS.mk 1 0 (sub ([(ax.mk 0 0 4 4)]:List ax) 0 1) ([]))]:List bS) 0 1) ([]) ([]) ([]) ([])) r32 0).bind λr33=>some ((r33.length:Int)==144)else some false)else some false)else some false)else some false)else some false)else some false)else some false)else some false)
def Al(rc:(bZ)->Option Int)(a0:bZ):Stp (Int×Int) Int
 |(v1,v2)=>(bif decide (v2<(a0.args.length:Int))then(bp a0.args v2).bind λx1=>(rc x1).bind λr1=>some (.inl ((i64.wrap (v1+r1)),(i64.wrap (v2+1))))else some (.inr v1))
def Ey(rc:(bZ)->Option Int)(a0:bZ):Option Int:=
 (iter (Al rc a0) n ((1:Int),(0:Int))).bind λw1=>some w1
def Ie(rc:(bZ)->Option Int):bx xx:=⟨[.d (.st SI.Expr)],[.d (.int .i64)],λa=>rc a.1,none⟩
def vk(n:Nat):Nat->(bZ)->Option Int
 | 0=>λ_=>none
 |m+1=>Ey n (vk n m)
def Ig(a0:bZ):Option Int:=vk n n a0
def tV(a0:bB):Stp Int (Unit⊕Bool)
 |v2=>(bif decide (v2<(a0.defs.length:Int))then(bp a0.defs v2).bind λx1=>(Ig n (bZ.mk x1.io x1.lw x1.kq x1.ia x1.eo)).bind λr1=>(bif decide (r1>30)then(some false).map λa=> .inr (.inr a)else some (.inl (i64.wrap (v2+1))))else some (.inr (.inl ())))
def tX(a0:bB):Stp Int (Unit⊕Bool)
 |v3=>(bif decide (v3<(a0.rules.length:Int))then((bp a0.rules v3).bind λx2=>(Ig n (bZ.mk x2.kB x2.mn x2.mm x2.i9 x2.fW)).bind λr2=>(bif decide (r2>30)then some true else(bp a0.rules v3).bind λx3=>(bif decide ((x3.zones.length:Int)>5)then some true else(bp a0.rules v3).bind λx4=>some (decide ((x4.except.length:Int)>5))))).bind λv4=>(bif v4 then(some false).map λa=> .inr (.inr a)else some (.inl (i64.wrap (v3+1))))else some (.inr (.inl ())))
def tY(a0:bB):Stp Int (Unit⊕Bool)
 |v5=>(bif decide (v5<(a0.tables.length:Int))then(bp a0.tables v5).bind λx5=>(bif decide ((x5.rows.length:Int)>8)then(some false).map λa=> .inr (.inr a)else some (.inl (i64.wrap (v5+1))))else some (.inr (.inl ())))
def tZ(a0:bB):Stp Int (Unit⊕Bool)
 |v6=>(bif decide (v6<(a0.zones.length:Int))then(bp a0.zones v6).bind λx6=>(bif decide ((x6.corners.length:Int)>12)then(some false).map λa=> .inr (.inr a)else some (.inl (i64.wrap (v6+1))))else some (.inr (.inl ())))
def uf(a0:bB):Stp Int (Unit⊕Bool)
 |v7=>(bif decide (v7<(a0.caps.length:Int))then(bp a0.caps v7).bind λx7=>(bif decide ((x7.corners.length:Int)>12)then(some false).map λa=> .inr (.inr a)else some (.inl (i64.wrap (v7+1))))else some (.inr (.inl ())))
def wJ(a0:bB):Option Bool:=
 ((bif decide ((a0.defs.length:Int)>5)then some true else(bif decide ((a0.rules.length:Int)>5)then some true else(bif decide ((a0.tables.length:Int)>4)then some true else(bif decide ((a0.zones.length:Int)>5)then some true else some (decide ((a0.caps.length:Int)>3))))))).bind λv1=>(bif v1 then some false else dx (iter (tV n a0) n (0:Int)) λ()=>dx (iter (tX n a0) n (0:Int)) λ()=>dx (iter (tY a0) n (0:Int)) λ()=>dx (iter (tZ a0) n (0:Int)) λ()=>dx (iter (uf a0) n (0:Int)) λ()=>some true)
def vN(a0:ax):Option Bool:=
 (bif decide (a0.x0>=0)then(bif decide (a0.x0<(a0.x1:Int))then(bif decide (a0.x1<=1048576)then(bif decide (a0.y0>=0)then(bif decide (a0.y0<(a0.y1:Int))then some (decide (a0.y1<=1048576))else some false)else some false)else some false)else some false)else some false)
def qD(a0:List Int)(v1:Int)(v2:List Int):Stp Int Int
 |v3=>((bif decide (v3>0)then ck (cz (i64.wrap (v3 -1)) v2.length)<|(bp v2 ((0:Nat)+(i64.wrap (v3 -1)):Int)).bind λx1=>(bp a0 v1).bind λx2=>some (decide (x1>(x2:Int)))else some false)).bind λv4=>(bif v4 then some (.inl (i64.wrap (v3 -1)))else some (.inr v3))
def qE(w1:Int)(r1:List Int):Stp (Int×(List Int)) (List Int)
 |(v6,v7)=>(bif decide (v6>(w1:Int))then ck (cz (i64.wrap (v6 -1)) r1.length)<|(bp v7 ((0:Nat)+(i64.wrap (v6 -1)):Int)).bind λx5=>ck (cz v6 r1.length)<|(bp v7 ((0:Nat)+v6:Int)).bind λx6=>some (.inl ((i64.wrap (v6 -1)),(v7.set ((0:Nat)+v6:Int).toNat x5)))else some (.inr v7))
def vO(a0:List Int):Stp (Int×(List Int)) (List Int)
 |(v1,v2)=>(bif decide (v1<(a0.length:Int))then((iter (qD a0 v1 v2) n (v2.length:Int)).bind λw1=>((bif decide (w1>0)then ck (cz (i64.wrap (w1 -1)) v2.length)<|(bp v2 ((0:Nat)+(i64.wrap (w1 -1)):Int)).bind λx3=>(bp a0 v1).bind λx4=>some (x3==(x4:Int))else some false)).bind λv5=>(bif v5 then ck (az v2.length v2.length)<|some v2 else ck (bP v2.length v2.length (sub ([0]:List Int) 0 1).length 1 8)<|iH (v2++(sub ([0]:List Int) 0 1)) λr1=>(iter (qE w1 r1) n ((i64.wrap ((r1.length:Int) -1)),r1)).bind λw2=>(bp a0 v1).bind λx7=>ck (cz w1 r1.length)<|(bp w2 ((0:Nat)+w1:Int)).bind λx8=>ck (az r1.length (w2.set ((0:Nat)+w1:Int).toNat x7).length)<|some (w2.set ((0:Nat)+w1:Int).toNat x7)):Option ((List Int))).bind λv8=>ck (az v8.length v8.length)<|some (.inl ((i64.wrap (v1+1)),v8))else ck (az v2.length v2.length)<|some (.inr v2))
def Ez(a0:List Int):Option (List Int):=
 ck (az 0 ([]:List Int).length)<|(iter (vO n a0) n ((0:Int),([]:List Int))).bind λw3=>ck (az (sub w3 0 w3.length).length w3.length)<|some (sub w3 0 w3.length)
def xS(a0:List ax):Stp (Int×(List Int)) (List Int)
 |(v1,v2)=>(bif decide (v1<(a0.length:Int))then(bp a0 v1).bind λx1=>(bp a0 v1).bind λx2=>ck (bP v2.length v2.length (sub ([x1.x0,x2.x1]:List Int) 0 2).length 2 8)<|iH (v2++(sub ([x1.x0,x2.x1]:List Int) 0 2)) λr1=>ck (az r1.length r1.length)<|some (.inl ((i64.wrap (v1+1)),r1))else ck (az v2.length v2.length)<|some (.inr v2))
def EA(a1:List ax):Stp (Int×(List Int)) (List Int)
 |(v3,v4)=>(bif decide (v3<(a1.length:Int))then(bp a1 v3).bind λx3=>(bp a1 v3).bind λx4=>ck (bP v4.length v4.length (sub ([x3.x0,x4.x1]:List Int) 0 2).length 2 8)<|iH (v4++(sub ([x3.x0,x4.x1]:List Int) 0 2)) λr2=>ck (az r2.length r2.length)<|some (.inl ((i64.wrap (v3+1)),r2))else ck (az v4.length v4.length)<|some (.inr v4))
def JB(a0:List ax)(a1:List ax):Option (List Int):=
 ck (az 0 ([]:List Int).length)<|(iter (xS a0) n ((0:Int),([]:List Int))).bind λw1=>ck (az w1.length w1.length)<|(iter (EA a1) n ((0:Int),w1)).bind λw2=>ck (az (sub w2 0 w2.length).length w2.length)<|(Ez n (sub w2 0 w2.length)).bind λr3=>ck (az (sub r3 0 r3.length).length r3.length)<|some (sub r3 0 r3.length)
def qF(a0:List ax)(v1:Int)(r1:List Int)(r2:List Int):Stp (Int×(List Int)×(List Int)) (Int×(List Int)×(List Int))
 |(v5,v6,v7)=>((bif decide (v5>0)then ck (cz (i64.wrap (v5 -1)) r1.length)<|(bp v6 ((0:Nat)+(i64.wrap (v5 -1)):Int)).bind λx3=>(bp a0 v1).bind λx4=>some (decide (x3>(x4.y0:Int)))else some false)).bind λv8=>(bif v8 then ck (cz (i64.wrap (v5 -1)) r1.length)<|(bp v6 ((0:Nat)+(i64.wrap (v5 -1)):Int)).bind λx5=>ck (cz v5 r1.length)<|(bp v6 ((0:Nat)+v5:Int)).bind λx6=>ck (cz (i64.wrap (v5 -1)) r2.length)<|(bp v7 ((0:Nat)+(i64.wrap (v5 -1)):Int)).bind λx7=>ck (cz v5 r2.length)<|(bp v7 ((0:Nat)+v5:Int)).bind λx8=>some (.inl ((i64.wrap (v5 -1)),(v6.set ((0:Nat)+v5:Int).toNat x5),(v7.set ((0:Nat)+v5:Int).toNat x7)))else some (.inr (v5,v6,v7)))
def qG(a0:List ax)(a1:Int):Stp (Int×(List Int)×(List Int)) ((List Int)×(List Int))
 |(v1,v2,v3)=>(bif decide (v1<(a0.length:Int))then(((bp a0 v1).bind λx1=>(bif decide (x1.x0>(a1:Int))then some true else(bp a0 v1).bind λx2=>some (decide (x2.x1<=(a1:Int))))).bind λv4=>(bif v4 then ck (az v2.length v2.length)<|ck (az v3.length v3.length)<|some (v2,v3)else ck (bP v2.length v2.length (sub ([0]:List Int) 0 1).length 1 8)<|iH (v2++(sub ([0]:List Int) 0 1)) λr1=>ck (bP v3.length v3.length (sub ([0]:List Int) 0 1).length 1 8)<|iH (v3++(sub ([0]:List Int) 0 1)) λr2=>(iter (qF a0 v1 r1 r2) n ((v2.length:Int),r1,r2)).bind λ(w1,w2,w3)=>(bp a0 v1).bind λx9=>ck (cz w1 r1.length)<|(bp w2 ((0:Nat)+w1:Int)).bind λx10=>(bp a0 v1).bind λx11=>ck (cz w1 r2.length)<|(bp w3 ((0:Nat)+w1:Int)).bind λx12=>ck (az r1.length (w2.set ((0:Nat)+w1:Int).toNat x9.y0).length)<|ck (az r2.length (w3.set ((0:Nat)+w1:Int).toNat x11.y1).length)<|some ((w2.set ((0:Nat)+w1:Int).toNat x9.y0),(w3.set ((0:Nat)+w1:Int).toNat x11.y1))):Option ((List Int)×(List Int))).bind λ(v9,v10)=>ck (az v9.length v9.length)<|ck (az v10.length v10.length)<|some (.inl ((i64.wrap (v1+1)),v9,v10))else ck (az v2.length v2.length)<|ck (az v3.length v3.length)<|some (.inr (v2,v3)))
end
end Go.Proofs
