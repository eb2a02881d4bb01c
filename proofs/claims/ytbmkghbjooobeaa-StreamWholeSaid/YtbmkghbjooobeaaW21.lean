/- Two streams of items, and what is on its way between them: the state, and what each call makes of it: lemmas; each with the conditions that it states. -/
import Derived.Test.YtbmkghbjooobeaaW18
import Derived.Test.YtbmkghbjooobeaaW16
import Derived.Test.YtbmkghbjooobeaaU11

namespace Go.Proofs.Ytbmkghbjooobeaa
open Go Go.Proofs Go.Sl
set_option maxRecDepth 100000
set_option maxHeartbeats 4000000
set_option linter.unusedSimpArgs false
set_option linter.unusedVariables false
attribute [local irreducible] evG evC spl thenC inBlockC noGotoC CallT retC RetG TurnG CutG pt ro exP star sep pureP
variable {R C : List HP} {K : Value → List HP → Prop}
def wit : List (Bool × ByteArray) → List ByteArray
  | [] => []
  | w :: l => if w.1 = true then wit l else w.2 :: wit l
theorem wit_app (l m : List (Bool × ByteArray)) : wit (l ++ m) = wit l ++ wit m := by
  induction l with
  | nil => rfl
  | cons s l ih =>
    rw [List.cons_append, wit, ih, wit]
    split <;> simp
/-- from one side to the other -/
def FI (j : Nat) (al l : List ByteArray) (sd : Bool) (ac w fr : Int) (gt rl : List ByteArray) (op a1 : Int) (rd : Bool) (wy : List (Bool × ByteArray)) : Prop :=
  (gt ++ rl ++ wit wy ++ l).Sublist al ∧ w + (wit wy).length = op ∧ wE sd rd wy ∧ ac ≤ (j : Int) ∧ a1 ≤ (j : Int) ∧ al.length ≤ j ∧ gt.length ≤ j ∧ wy.length ≤ j ∧ (∀ z ∈ l, z.size ≤ 256) ∧ (∀ z ∈ wy, z.1 = true → z.2 = ⟨#[]⟩) ∧ -(256 * (j : Int)) ≤ fr ∧ fr ≤ 1000
section
variable {j : Nat} {al l : List ByteArray} {sd : Bool} {ac w fr : Int} {gt rl : List ByteArray} {op a1 : Int} {rd : Bool} {wy : List (Bool × ByteArray)}
theorem fi_mono (h : FI j al l sd ac w fr gt rl op a1 rd wy) : FI (j + 1) al l sd ac w fr gt rl op a1 rd wy := by
  obtain ⟨h1, h2, h3, h4, h5, h6, h7, h8, h9, h10, h11, h12⟩ := h
  exact ⟨h1, h2, h3, by omega, by omega, by omega, by omega, by omega, h9, h10, by omega, h12⟩
theorem fi_offer {sg e ac' : Int} {en : Bool} {s : ByteArray} {l' : List ByteArray} (h : FI j al l sd ac w fr gt rl op a1 rd wy) (ho : OffR sg l en s e l') (he : e = 0) (ha : ac' ≤ ac + 1) : FI (j + 1) (al ++ [s]) l' sd ac' w fr gt rl op a1 rd wy := by
  obtain ⟨h1, h2, h3, h4, h5, h6, h7, h8, h9, h10, h11, h12⟩ := h
  exact ⟨offR_sub ho he h1, h2, h3, by omega, by omega, by rw [List.length_append]; simp; omega, by omega, by omega, offR_mem ho h9, h10, by omega, h12⟩
theorem fi_offerX {sg e ac' : Int} {en : Bool} {s : ByteArray} {l' : List ByteArray} (h : FI j al l sd ac w fr gt rl op a1 rd wy) (ho : OffR sg l en s e l') (he : e ≠ 0) (ha : ac' ≤ ac + 1) : FI (j + 1) al l' sd ac' w fr gt rl op a1 rd wy := by
  obtain ⟨h1, h2, h3, h4, h5, h6, h7, h8, h9, h10, h11, h12⟩ := h
  obtain rfl : l' = l := by
    rcases ho with ⟨h0, _⟩ | ⟨_, h0⟩
    · exact absurd h0 he
    · exact h0
  exact ⟨h1, h2, h3, by omega, by omega, by omega, by omega, by omega, h9, h10, by omega, h12⟩
theorem fi_takeE (h : FI j al [] false ac w fr gt rl op a1 rd wy) : FI (j + 1) al [] true ac w (fr - (ByteArray.mk #[]).size) gt rl op a1 rd (wy ++ [(true, ⟨#[]⟩)]) := by
  obtain ⟨h1, h2, h3, h4, h5, h6, h7, h8, h9, h10, h11, h12⟩ := h
  obtain rfl := wE_rd h3
  have hz : ((ByteArray.mk #[]).size : Int) = 0 := rfl
  have hw : wit (wy ++ [(true, ⟨#[]⟩)]) = wit wy := by rw [wit_app]; simp [wit]
  refine ⟨by rw [hw]; exact h1, by rw [hw]; exact h2, wE_app h3, by omega, by omega, by omega, by omega, by rw [List.length_append]; simp; omega, h9, ?_, by omega, by omega⟩
  intro z hz2 hz1
  rcases List.mem_append.1 hz2 with hm | hm
  · exact h10 z hm hz1
  · rw [List.mem_singleton.1 hm]
theorem fi_take {d : ByteArray} (h : FI j al (d :: l) false ac w fr gt rl op a1 rd wy) : FI (j + 1) al l false ac (w - 1) (fr - d.size) gt rl op a1 rd (wy ++ [(false, d)]) := by
  obtain ⟨h1, h2, h3, h4, h5, h6, h7, h8, h9, h10, h11, h12⟩ := h
  obtain rfl := wE_rd h3
  have hd := h9 d (by simp)
  have hw : wit (wy ++ [(false, d)]) = wit wy ++ [d] := by rw [wit_app]; simp [wit]
  refine ⟨by rw [hw]; simpa using h1, by rw [hw, List.length_append]; simp; omega, wE_app h3, by omega, by omega, by omega, by omega, by rw [List.length_append]; simp; omega, fun z hz => h9 z (by simp [hz]), ?_, by omega, by omega⟩
  intro z hz2 hz1
  rcases List.mem_append.1 hz2 with hm | hm
  · exact h10 z hm hz1
  · rw [List.mem_singleton.1 hm] at hz1; cases hz1
theorem fi_item {s : ByteArray} (h : FI j al l sd ac w fr gt (s :: rl) op a1 rd wy) : FI (j + 1) al l sd ac w fr (gt ++ [s]) rl op a1 rd wy := by
  obtain ⟨h1, h2, h3, h4, h5, h6, h7, h8, h9, h10, h11, h12⟩ := h
  exact ⟨by simpa using h1, h2, h3, by omega, by omega, by omega, by rw [List.length_append]; simp; omega, by omega, h9, h10, by omega, h12⟩
theorem fi_grant {n w' : Int} (h : FI j al l sd ac w fr gt rl op a1 rd wy) (hn : w' = w + n) : FI (j + 1) al l sd ac w' fr gt rl (op + n) a1 rd wy := by
  obtain ⟨h1, h2, h3, h4, h5, h6, h7, h8, h9, h10, h11, h12⟩ := h
  exact ⟨h1, by omega, h3, by omega, by omega, by omega, by omega, by omega, h9, h10, by omega, h12⟩
theorem fi_comeE {d : ByteArray} (h : FI j al l sd ac w fr gt rl op a1 rd ((true, d) :: wy)) : d = ⟨#[]⟩ ∧ rd = false ∧ FI (j + 1) al l sd ac w fr gt rl op a1 true wy := by
  obtain ⟨h1, h2, h3, h4, h5, h6, h7, h8, h9, h10, h11, h12⟩ := h
  obtain ⟨g1, g2⟩ := wE_pop h3
  rw [List.length_cons] at h8
  have hw : wit ((true, d) :: wy) = wit wy := by simp [wit]
  rw [hw] at h1 h2
  exact ⟨h10 (true, d) (by simp) rfl, g1, h1, h2, g2, by omega, by omega, by omega, by omega, by omega, h9, fun z hz => h10 z (by simp [hz]), by omega, h12⟩
theorem fi_come {d : ByteArray} (h : FI j al l sd ac w fr gt rl op a1 rd ((false, d) :: wy)) (hw0 : 0 ≤ w) : 1 ≤ op ∧ rd = false ∧ FI (j + 1) al l sd ac w fr gt (rl ++ [d]) (op - 1) (a1 + 1) false wy := by
  obtain ⟨h1, h2, h3, h4, h5, h6, h7, h8, h9, h10, h11, h12⟩ := h
  obtain ⟨g1, g2⟩ := wE_pop h3
  rw [List.length_cons] at h8
  have hw : wit ((false, d) :: wy) = d :: wit wy := by simp [wit]
  rw [hw] at h1 h2
  rw [List.length_cons] at h2
  exact ⟨by omega, g1, by simpa using h1, by omega, g2, by omega, by omega, by omega, by omega, by omega, h9, fun z hz => h10 z (by simp [hz]), by omega, h12⟩
end
structure SI where
  (s li t r : Nat)
  (A G Y : Option Addr)
  (ca cg cy : Nat)
  (ow : Bool)
  (cap : Nat)
  (sg : Int)
  (l : List ByteArray)
  (w : Int)
  (en ou : Bool)
  (ac se dr : Int)
  (mr room op ask : Int)
  (rl : List ByteArray)
  (a1 t1 d1 : Int)
  (sd rd : Bool)
  (al gt : List ByteArray)
  (wy : List (Bool × ByteArray))
  (fr : Int)
def pairI (a b j : Nat) : HP := exP fun x : SI => exP fun y : SI => star [pureP (FI j x.al x.l x.sd x.ac x.w x.fr y.gt y.rl y.op y.a1 y.rd y.wy ∧ FI j y.al y.l y.sd y.ac y.w y.fr x.gt x.rl x.op x.a1 x.rd x.wy), pt a [.pointer (some ⟨x.s, 0, none⟩), .slice x.A x.al.length x.ca, .slice x.G x.gt.length x.cg, .slice x.Y (x.wy.map (mkF 1)).length x.cy, .int .i64 x.fr] 108, pt x.s [.pointer (some ⟨x.li, 0, none⟩), .pointer (some ⟨x.t, 0, none⟩), .pointer (some ⟨x.r, 0, none⟩), .int .i64 3, .bool x.ow] 84, liP x.li (staOf x.sd x.rd), txI x.t x.cap x.sg x.l x.w x.en x.ou x.ac x.se x.dr, rxI x.r x.mr x.room x.op x.ask x.rl x.a1 x.t1 x.d1 x.rd, row x.A x.ca 9 sxC x.al, row x.G x.cg 9 sxC x.gt, row x.Y x.cy 94 fmC (x.wy.map (mkF 1)), pt b [.pointer (some ⟨y.s, 0, none⟩), .slice y.A y.al.length y.ca, .slice y.G y.gt.length y.cg, .slice y.Y (y.wy.map (mkF 1)).length y.cy, .int .i64 y.fr] 108, pt y.s [.pointer (some ⟨y.li, 0, none⟩), .pointer (some ⟨y.t, 0, none⟩), .pointer (some ⟨y.r, 0, none⟩), .int .i64 3, .bool y.ow] 84, liP y.li (staOf y.sd y.rd), txI y.t y.cap y.sg y.l y.w y.en y.ou y.ac y.se y.dr, rxI y.r y.mr y.room y.op y.ask y.rl y.a1 y.t1 y.d1 y.rd, row y.A y.ca 9 sxC y.al, row y.G y.cg 9 sxC y.gt, row y.Y y.cy 94 fmC (y.wy.map (mkF 1))]
section
variable {a b j : Nat}
theorem pairI_open {f : FuncId} {args : Array Value} (h : ∀ {sX liX tX rX : Nat} {AX GX YX : Option Addr} {caX cgX cyX : Nat} {owX : Bool} {capX : Nat} {sgX : Int} {lX : List ByteArray} {wX : Int} {enX ouX : Bool} {acX seX drX : Int} {mrX roomX opX askX : Int} {rlX : List ByteArray} {a1X t1X d1X : Int} {sdX rdX : Bool} {alX gtX : List ByteArray} {wyX : List (Bool × ByteArray)} {frX : Int} {sY liY tY rY : Nat} {AY GY YY : Option Addr} {caY cgY cyY : Nat} {owY : Bool} {capY : Nat} {sgY : Int} {lY : List ByteArray} {wY : Int} {enY ouY : Bool} {acY seY drY : Int} {mrY roomY opY askY : Int} {rlY : List ByteArray} {a1Y t1Y d1Y : Int} {sdY rdY : Bool} {alY gtY : List ByteArray} {wyY : List (Bool × ByteArray)} {frY : Int}, FI j alX lX sdX acX wX frX gtY rlY opY a1Y rdY wyY → FI j alY lY sdY acY wY frY gtX rlX opX a1X rdX wyX → TI capX sgX lX wX enX ouX acX seX drX → RI mrX roomX opX askX rlX a1X t1X d1X → TI capY sgY lY wY enY ouY acY seY drY → RI mrY roomY opY askY rlY a1Y t1Y d1Y → CallT Try.prog f args (pt a [.pointer (some ⟨sX, 0, none⟩), .slice AX alX.length caX, .slice GX gtX.length cgX, .slice YX (wyX.map (mkF 1)).length cyX, .int .i64 frX] 108 :: pt sX [.pointer (some ⟨liX, 0, none⟩), .pointer (some ⟨tX, 0, none⟩), .pointer (some ⟨rX, 0, none⟩), .int .i64 3, .bool owX] 84 :: liP liX (staOf sdX rdX) :: txI tX capX sgX lX wX enX ouX acX seX drX :: rxI rX mrX roomX opX askX rlX a1X t1X d1X rdX :: row AX caX 9 sxC alX :: row GX cgX 9 sxC gtX :: row YX cyX 94 fmC (wyX.map (mkF 1)) :: pt b [.pointer (some ⟨sY, 0, none⟩), .slice AY alY.length caY, .slice GY gtY.length cgY, .slice YY (wyY.map (mkF 1)).length cyY, .int .i64 frY] 108 :: pt sY [.pointer (some ⟨liY, 0, none⟩), .pointer (some ⟨tY, 0, none⟩), .pointer (some ⟨rY, 0, none⟩), .int .i64 3, .bool owY] 84 :: liP liY (staOf sdY rdY) :: txI tY capY sgY lY wY enY ouY acY seY drY :: rxI rY mrY roomY opY askY rlY a1Y t1Y d1Y rdY :: row AY caY 9 sxC alY :: row GY cgY 9 sxC gtY :: row YY cyY 94 fmC (wyY.map (mkF 1)) :: R) K) : CallT Try.prog f args (pairI a b j :: R) K := by
  refine CallT.ex fun x => CallT.ex fun y => ?_
  refine CallT.star (CallT.pure fun hp => ?_)
  refine callFact (p := TI x.cap x.sg x.l x.w x.en x.ou x.ac x.se x.dr ∧ RI x.mr x.room x.op x.ask x.rl x.a1 x.t1 x.d1 ∧ TI y.cap y.sg y.l y.w y.en y.ou y.ac y.se y.dr ∧ RI y.mr y.room y.op y.ask y.rl y.a1 y.t1 y.d1) (fun H hs => ?_) fun hf => h hp.1 hp.2 hf.1 hf.2.1 hf.2.2.1 hf.2.2.2
  have h3 := hs.tail.tail.tail
  have h4 := h3.tail.tail.tail.tail.tail.tail.tail.tail
  exact ⟨txI_sats h3, rxI_sats h3.tail, txI_sats h4, rxI_sats h4.tail⟩
theorem pairI_fold {sX liX tX rX : Nat} {AX GX YX : Option Addr} {caX cgX cyX : Nat} {owX : Bool} {capX : Nat} {sgX : Int} {lX : List ByteArray} {wX : Int} {enX ouX : Bool} {acX seX drX : Int} {mrX roomX opX askX : Int} {rlX : List ByteArray} {a1X t1X d1X : Int} {sdX rdX : Bool} {alX gtX : List ByteArray} {wyX : List (Bool × ByteArray)} {frX : Int} {sY liY tY rY : Nat} {AY GY YY : Option Addr} {caY cgY cyY : Nat} {owY : Bool} {capY : Nat} {sgY : Int} {lY : List ByteArray} {wY : Int} {enY ouY : Bool} {acY seY drY : Int} {mrY roomY opY askY : Int} {rlY : List ByteArray} {a1Y t1Y d1Y : Int} {sdY rdY : Bool} {alY gtY : List ByteArray} {wyY : List (Bool × ByteArray)} {frY : Int} (h1 : FI j alX lX sdX acX wX frX gtY rlY opY a1Y rdY wyY) (h2 : FI j alY lY sdY acY wY frY gtX rlX opX a1X rdX wyX) : Ent (pt a [.pointer (some ⟨sX, 0, none⟩), .slice AX alX.length caX, .slice GX gtX.length cgX, .slice YX (wyX.map (mkF 1)).length cyX, .int .i64 frX] 108 :: pt sX [.pointer (some ⟨liX, 0, none⟩), .pointer (some ⟨tX, 0, none⟩), .pointer (some ⟨rX, 0, none⟩), .int .i64 3, .bool owX] 84 :: liP liX (staOf sdX rdX) :: txI tX capX sgX lX wX enX ouX acX seX drX :: rxI rX mrX roomX opX askX rlX a1X t1X d1X rdX :: row AX caX 9 sxC alX :: row GX cgX 9 sxC gtX :: row YX cyX 94 fmC (wyX.map (mkF 1)) :: pt b [.pointer (some ⟨sY, 0, none⟩), .slice AY alY.length caY, .slice GY gtY.length cgY, .slice YY (wyY.map (mkF 1)).length cyY, .int .i64 frY] 108 :: pt sY [.pointer (some ⟨liY, 0, none⟩), .pointer (some ⟨tY, 0, none⟩), .pointer (some ⟨rY, 0, none⟩), .int .i64 3, .bool owY] 84 :: liP liY (staOf sdY rdY) :: txI tY capY sgY lY wY enY ouY acY seY drY :: rxI rY mrY roomY opY askY rlY a1Y t1Y d1Y rdY :: row AY caY 9 sxC alY :: row GY cgY 9 sxC gtY :: row YY cyY 94 fmC (wyY.map (mkF 1)) :: R) (pairI a b j :: R) :=
  Ent.ex ⟨sX, liX, tX, rX, AX, GX, YX, caX, cgX, cyX, owX, capX, sgX, lX, wX, enX, ouX, acX, seX, drX, mrX, roomX, opX, askX, rlX, a1X, t1X, d1X, sdX, rdX, alX, gtX, wyX, frX⟩ (Ent.ex ⟨sY, liY, tY, rY, AY, GY, YY, caY, cgY, cyY, owY, capY, sgY, lY, wY, enY, ouY, acY, seY, drY, mrY, roomY, opY, askY, rlY, a1Y, t1Y, d1Y, sdY, rdY, alY, gtY, wyY, frY⟩ (Ent.star (Ent.pure ⟨h1, h2⟩ (Ent.refl _))))
theorem pairI_foldM {sX liX tX rX : Nat} {AX GX YX : Option Addr} {caX cgX cyX : Nat} {owX : Bool} {capX : Nat} {sgX : Int} {lX : List ByteArray} {wX : Int} {enX ouX : Bool} {acX seX drX : Int} {mrX roomX opX askX : Int} {rlX : List ByteArray} {a1X t1X d1X : Int} {sdX rdX : Bool} {alX gtX : List ByteArray} {wyX : List (Bool × ByteArray)} {frX : Int} {sY liY tY rY : Nat} {AY GY YY : Option Addr} {caY cgY cyY : Nat} {owY : Bool} {capY : Nat} {sgY : Int} {lY : List ByteArray} {wY : Int} {enY ouY : Bool} {acY seY drY : Int} {mrY roomY opY askY : Int} {rlY : List ByteArray} {a1Y t1Y d1Y : Int} {sdY rdY : Bool} {alY gtY : List ByteArray} {wyY : List (Bool × ByteArray)} {frY : Int} {mX mY : List Fm} (hX : wyX.map (mkF 1) = mX) (hY : wyY.map (mkF 1) = mY) (h1 : FI j alX lX sdX acX wX frX gtY rlY opY a1Y rdY wyY) (h2 : FI j alY lY sdY acY wY frY gtX rlX opX a1X rdX wyX) : Ent (pt a [.pointer (some ⟨sX, 0, none⟩), .slice AX alX.length caX, .slice GX gtX.length cgX, .slice YX mX.length cyX, .int .i64 frX] 108 :: pt sX [.pointer (some ⟨liX, 0, none⟩), .pointer (some ⟨tX, 0, none⟩), .pointer (some ⟨rX, 0, none⟩), .int .i64 3, .bool owX] 84 :: liP liX (staOf sdX rdX) :: txI tX capX sgX lX wX enX ouX acX seX drX :: rxI rX mrX roomX opX askX rlX a1X t1X d1X rdX :: row AX caX 9 sxC alX :: row GX cgX 9 sxC gtX :: row YX cyX 94 fmC mX :: pt b [.pointer (some ⟨sY, 0, none⟩), .slice AY alY.length caY, .slice GY gtY.length cgY, .slice YY mY.length cyY, .int .i64 frY] 108 :: pt sY [.pointer (some ⟨liY, 0, none⟩), .pointer (some ⟨tY, 0, none⟩), .pointer (some ⟨rY, 0, none⟩), .int .i64 3, .bool owY] 84 :: liP liY (staOf sdY rdY) :: txI tY capY sgY lY wY enY ouY acY seY drY :: rxI rY mrY roomY opY askY rlY a1Y t1Y d1Y rdY :: row AY caY 9 sxC alY :: row GY cgY 9 sxC gtY :: row YY cyY 94 fmC mY :: R) (pairI a b j :: R) := by
  subst hX; subst hY
  exact pairI_fold h1 h2
theorem pairI_evo {c : Code} {Q : Exit → Fr → List HP → Prop} {v : Fr} (h : ∀ {sX liX tX rX : Nat} {AX GX YX : Option Addr} {caX cgX cyX : Nat} {owX : Bool} {capX : Nat} {sgX : Int} {lX : List ByteArray} {wX : Int} {enX ouX : Bool} {acX seX drX : Int} {mrX roomX opX askX : Int} {rlX : List ByteArray} {a1X t1X d1X : Int} {sdX rdX : Bool} {alX gtX : List ByteArray} {wyX : List (Bool × ByteArray)} {frX : Int} {sY liY tY rY : Nat} {AY GY YY : Option Addr} {caY cgY cyY : Nat} {owY : Bool} {capY : Nat} {sgY : Int} {lY : List ByteArray} {wY : Int} {enY ouY : Bool} {acY seY drY : Int} {mrY roomY opY askY : Int} {rlY : List ByteArray} {a1Y t1Y d1Y : Int} {sdY rdY : Bool} {alY gtY : List ByteArray} {wyY : List (Bool × ByteArray)} {frY : Int}, FI j alX lX sdX acX wX frX gtY rlY opY a1Y rdY wyY → FI j alY lY sdY acY wY frY gtX rlX opX a1X rdX wyX → evC Try.prog c Q v (pt a [.pointer (some ⟨sX, 0, none⟩), .slice AX alX.length caX, .slice GX gtX.length cgX, .slice YX (wyX.map (mkF 1)).length cyX, .int .i64 frX] 108 :: pt sX [.pointer (some ⟨liX, 0, none⟩), .pointer (some ⟨tX, 0, none⟩), .pointer (some ⟨rX, 0, none⟩), .int .i64 3, .bool owX] 84 :: liP liX (staOf sdX rdX) :: txI tX capX sgX lX wX enX ouX acX seX drX :: rxI rX mrX roomX opX askX rlX a1X t1X d1X rdX :: row AX caX 9 sxC alX :: row GX cgX 9 sxC gtX :: row YX cyX 94 fmC (wyX.map (mkF 1)) :: pt b [.pointer (some ⟨sY, 0, none⟩), .slice AY alY.length caY, .slice GY gtY.length cgY, .slice YY (wyY.map (mkF 1)).length cyY, .int .i64 frY] 108 :: pt sY [.pointer (some ⟨liY, 0, none⟩), .pointer (some ⟨tY, 0, none⟩), .pointer (some ⟨rY, 0, none⟩), .int .i64 3, .bool owY] 84 :: liP liY (staOf sdY rdY) :: txI tY capY sgY lY wY enY ouY acY seY drY :: rxI rY mrY roomY opY askY rlY a1Y t1Y d1Y rdY :: row AY caY 9 sxC alY :: row GY cgY 9 sxC gtY :: row YY cyY 94 fmC (wyY.map (mkF 1)) :: R)) : evC Try.prog c Q v (pairI a b j :: R) :=
  evC_ex fun x => evC_ex fun y => evC_star (evC_pure fun hp => h hp.1 hp.2)
theorem pairI_swap : Ent (pairI a b j :: R) (pairI b a j :: R) := fun H hs => by
  obtain ⟨x, hs⟩ := hs.ex
  obtain ⟨y, hs⟩ := hs.ex
  obtain ⟨hp, hs⟩ := (Sats.star hs).pure
  exact ((Ent.trans (by ((iterate 30 (try (first | exact Ent.refl _ | exact Ent.nil | (apply Ent.pick; focus ((repeat (first | exact Pick.here | apply Pick.there)) <;> exact Pick.here)) | (apply Ent.pickP; focus ((repeat (first | exact pers_ro _ _ _ | exact pers_rrow _ _ _ | exact pers_pure _ | refine pers_sep ?_ ?_ | refine pers_ex fun _ => ?_)) <;> exact pers_pure _); focus ((repeat (first | exact Pick.here | apply Pick.there)) <;> exact Pick.here)) | (apply Ent.pure; focus (first | assumption | exact rfl | omega)) | apply Ent.nilrow' | apply Ent.ex | apply Ent.sep | apply Ent.drop))) <;> exact Ent.nil)) (pairI_fold hp.2 hp.1)) : Ent _ _) _ hs
end
end Go.Proofs.Ytbmkghbjooobeaa

