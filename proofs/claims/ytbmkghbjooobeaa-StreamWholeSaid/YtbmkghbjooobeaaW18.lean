/- Two streams of bytes, and what is on its way between them: the state, and what each call makes of it: lemmas; each with the conditions that it states. -/
import Derived.Test.YtbmkghbjooobeaaW14
import Derived.Test.YtbmkghbjooobeaaV11
import Derived.Test.YtbmkghbjooobeaaFg
import Derived.Test.YtbmkghbjooobeaaU7

namespace Go.Proofs.Ytbmkghbjooobeaa
open Go Go.Proofs Go.Sl
set_option maxRecDepth 100000
set_option maxHeartbeats 4000000
set_option linter.unusedSimpArgs false
set_option linter.unusedVariables false
attribute [local irreducible] evG evC spl thenC inBlockC noGotoC CallT retC RetG TurnG CutG pt ro exP star sep pureP
variable {R C : List HP} {K : Value → List HP → Prop}
def mkF (k : Int) (w : Bool × ByteArray) : Fm := ⟨k, 3, w.1, w.2, 0, 0, 0, false, 0, 0, 0, none, 0, 0, []⟩
/-- a stream's state, by whether its end was sent, and came -/
def staOf (sd rd : Bool) : Int := if sd = true then (if rd = true then 4 else 2) else (if rd = true then 3 else 1)
def catA : List ByteArray → List UInt8
  | [] => []
  | s :: l => s.data.toList ++ catA l
def wcat : List (Bool × ByteArray) → List UInt8
  | [] => []
  | w :: l => w.2.data.toList ++ wcat l
theorem catA_app (l m : List ByteArray) : catA (l ++ m) = catA l ++ catA m := by
  induction l with
  | nil => rfl
  | cons s l ih => rw [List.cons_append, catA, ih, catA, List.append_assoc]
theorem wcat_app (l m : List (Bool × ByteArray)) : wcat (l ++ m) = wcat l ++ wcat m := by
  induction l with
  | nil => rfl
  | cons s l ih => rw [List.cons_append, wcat, ih, wcat, List.append_assoc]
/-- ends on their way -/
def wE (sd rd : Bool) : List (Bool × ByteArray) → Prop
  | [] => sd = rd
  | w :: l => rd = false ∧ (l = [] → w.1 = sd) ∧ (l ≠ [] → w.1 = false ∧ wE sd rd l)
theorem wE_rd {rd : Bool} {l : List (Bool × ByteArray)} (h : wE false rd l) : rd = false := by
  cases l with
  | nil => exact h.symm
  | cons w l => exact h.1
theorem wE_app {rd e : Bool} {d : ByteArray} : ∀ {l : List (Bool × ByteArray)}, wE false rd l → wE e false (l ++ [(e, d)])
  | [], _ => ⟨rfl, fun _ => rfl, fun h => absurd rfl h⟩
  | w :: l, h => by
    obtain ⟨h1, h2, h3⟩ := h
    refine ⟨rfl, fun h => absurd h (by simp), fun _ => ?_⟩
    by_cases hl : l = []
    · subst hl
      exact ⟨h2 rfl, rfl, fun _ => rfl, fun h => absurd rfl h⟩
    · exact ⟨(h3 hl).1, wE_app (h3 hl).2⟩
theorem wE_pop {sd rd : Bool} {w : Bool × ByteArray} {l : List (Bool × ByteArray)} (h : wE sd rd (w :: l)) : rd = false ∧ wE sd w.1 l := by
  obtain ⟨h1, h2, h3⟩ := h
  refine ⟨h1, ?_⟩
  by_cases hl : l = []
  · subst hl; exact (h2 rfl).symm
  · rw [(h3 hl).1, ← h1]; exact (h3 hl).2
/-- from one side to the other -/
def FB (j : Nat) (al : List ByteArray) (bs : List UInt8) (sd : Bool) (ac fr : Int) (gt : List ByteArray) (rb : List UInt8) (gr got : Int) (rd : Bool) (wy : List (Bool × ByteArray)) : Prop :=
  catA al = catA gt ++ rb ++ wcat wy ++ bs ∧ fr + (wcat wy).length = gr - got ∧ 0 ≤ fr ∧ wE sd rd wy ∧ ac ≤ 300 * (j : Int) ∧ got + (wcat wy).length + bs.length ≤ 300 * (j : Int) ∧ al.length ≤ j ∧ gt.length ≤ j ∧ wy.length ≤ j ∧ (catA al).length ≤ 300 * j
section
variable {j : Nat} {al : List ByteArray} {bs : List UInt8} {sd : Bool} {ac fr : Int} {gt : List ByteArray} {rb : List UInt8} {gr got : Int} {rd : Bool} {wy : List (Bool × ByteArray)}
theorem fb_mono (h : FB j al bs sd ac fr gt rb gr got rd wy) : FB (j + 1) al bs sd ac fr gt rb gr got rd wy := by
  obtain ⟨h1, h2, h3, h4, h5, h6, h7, h8, h9, h10⟩ := h
  exact ⟨h1, h2, h3, h4, by omega, by omega, by omega, by omega, by omega, by omega⟩
theorem fb_offer {s : ByteArray} (h : FB j al bs sd ac fr gt rb gr got rd wy) (hs : s.size ≤ 300) : FB (j + 1) (al ++ [s]) (bs ++ s.data.toList) sd (ac + s.size) fr gt rb gr got rd wy := by
  obtain ⟨h1, h2, h3, h4, h5, h6, h7, h8, h9, h10⟩ := h
  have hl : s.data.toList.length = s.size := Array.length_toList
  exact ⟨by rw [catA_app, h1]; simp [catA], h2, h3, h4, by omega, by rw [List.length_append]; omega, by rw [List.length_append]; simp; omega, by omega, by omega, by rw [catA_app, List.length_append, catA, catA, List.append_nil, hl]; omega⟩
theorem fb_take {k : Nat} {e : Bool} {d : ByteArray} (h : FB j al bs false ac fr gt rb gr got rd wy) (hd : d.data.toList = bs.take k) (hk : k ≤ bs.length) (hf : (k : Int) ≤ fr) : FB (j + 1) al (bs.drop k) e ac (fr - d.size) gt rb gr got rd (wy ++ [(e, d)]) := by
  obtain ⟨h1, h2, h3, h4, h5, h6, h7, h8, h9, h10⟩ := h
  obtain rfl := wE_rd h4
  have hl : d.size = k := by
    have : d.data.toList.length = k := by rw [hd, List.length_take]; omega
    exact Array.length_toList.symm.trans this
  have hw : (wcat (wy ++ [(e, d)])).length = (wcat wy).length + k := by rw [wcat_app, List.length_append, wcat, wcat, List.append_nil]; exact congrArg _ (Array.length_toList.trans hl)
  have hb : (bs.drop k).length = bs.length - k := List.length_drop
  refine ⟨?_, by omega, by omega, wE_app h4, by omega, by omega, by omega, by omega, by rw [List.length_append]; simp; omega, by omega⟩
  rw [h1, wcat_app]
  simp only [wcat, hd, List.append_nil, List.append_assoc, List.take_append_drop]
theorem fb_read {k : Nat} {d : ByteArray} (h : FB j al bs sd ac fr gt rb gr got rd wy) (hd : d.data.toList = rb.take k) : FB (j + 1) al bs sd ac fr (gt ++ [d]) (rb.drop k) gr got rd wy := by
  obtain ⟨h1, h2, h3, h4, h5, h6, h7, h8, h9, h10⟩ := h
  refine ⟨?_, h2, h3, h4, by omega, by omega, by omega, by rw [List.length_append]; simp; omega, by omega, by omega⟩
  rw [h1, catA_app]
  simp only [catA, hd, List.append_nil, List.append_assoc]
  congr 1
  rw [← List.append_assoc (List.take k rb), List.take_append_drop]
theorem fb_grant {n : Int} (h : FB j al bs sd ac fr gt rb gr got rd wy) (hn : 0 ≤ n) : FB (j + 1) al bs sd ac (fr + n) gt rb (gr + n) got rd wy := by
  obtain ⟨h1, h2, h3, h4, h5, h6, h7, h8, h9, h10⟩ := h
  exact ⟨h1, by omega, by omega, h4, by omega, by omega, by omega, by omega, by omega, by omega⟩
theorem fb_come {e : Bool} {d : ByteArray} (h : FB j al bs sd ac fr gt rb gr got rd ((e, d) :: wy)) : (d.size : Int) ≤ max (gr - got) 0 ∧ rd = false ∧ FB (j + 1) al bs sd ac fr gt (rb ++ d.data.toList) gr (got + d.size) e wy := by
  obtain ⟨h1, h2, h3, h4, h5, h6, h7, h8, h9, h10⟩ := h
  obtain ⟨g1, g2⟩ := wE_pop h4
  have hl : d.data.toList.length = d.size := Array.length_toList
  simp only [wcat, List.length_append, hl, List.length_cons] at h1 h2 h6 h9
  refine ⟨by omega, g1, ?_, by omega, by omega, g2, by omega, by omega, by omega, by omega, by omega, by omega⟩
  rw [h1]; simp only [List.append_assoc]
end
structure SB where
  (s li t r : Nat)
  (A G Y : Option Addr)
  (ca cg cy : Nat)
  (ow : Bool)
  (cap : Nat)
  (bs : List UInt8)
  (en ou : Bool)
  (ac se dr : Int)
  (rc mo gr got us : Int)
  (rb : List UInt8)
  (sd rd : Bool)
  (al gt : List ByteArray)
  (wy : List (Bool × ByteArray))
  (fr : Int)
def pairB (a b j : Nat) : HP := exP fun x : SB => exP fun y : SB => star [pureP (FB j x.al x.bs x.sd x.ac x.fr y.gt y.rb y.gr y.got y.rd y.wy ∧ FB j y.al y.bs y.sd y.ac y.fr x.gt x.rb x.gr x.got x.rd x.wy), pt a [.pointer (some ⟨x.s, 0, none⟩), .slice x.A x.al.length x.ca, .slice x.G x.gt.length x.cg, .slice x.Y (x.wy.map (mkF 0)).length x.cy, .int .i64 x.fr] 108, pt x.s [.pointer (some ⟨x.li, 0, none⟩), .pointer (some ⟨x.t, 0, none⟩), .pointer (some ⟨x.r, 0, none⟩), .int .i64 3, .bool x.ow] 84, liP x.li (staOf x.sd x.rd), txB x.t x.cap x.bs x.en x.ou x.ac x.se x.dr, rxB x.r x.rc x.mo x.gr x.got x.us x.rb x.rd, row x.A x.ca 9 sxC x.al, row x.G x.cg 9 sxC x.gt, row x.Y x.cy 94 fmC (x.wy.map (mkF 0)), pt b [.pointer (some ⟨y.s, 0, none⟩), .slice y.A y.al.length y.ca, .slice y.G y.gt.length y.cg, .slice y.Y (y.wy.map (mkF 0)).length y.cy, .int .i64 y.fr] 108, pt y.s [.pointer (some ⟨y.li, 0, none⟩), .pointer (some ⟨y.t, 0, none⟩), .pointer (some ⟨y.r, 0, none⟩), .int .i64 3, .bool y.ow] 84, liP y.li (staOf y.sd y.rd), txB y.t y.cap y.bs y.en y.ou y.ac y.se y.dr, rxB y.r y.rc y.mo y.gr y.got y.us y.rb y.rd, row y.A y.ca 9 sxC y.al, row y.G y.cg 9 sxC y.gt, row y.Y y.cy 94 fmC (y.wy.map (mkF 0))]
section
variable {a b j : Nat}
theorem pairB_open {f : FuncId} {args : Array Value} (h : ∀ {sX liX tX rX : Nat} {AX GX YX : Option Addr} {caX cgX cyX : Nat} {owX : Bool} {capX : Nat} {bsX : List UInt8} {enX ouX : Bool} {acX seX drX : Int} {rcX moX grX gotX usX : Int} {rbX : List UInt8} {sdX rdX : Bool} {alX gtX : List ByteArray} {wyX : List (Bool × ByteArray)} {frX : Int} {sY liY tY rY : Nat} {AY GY YY : Option Addr} {caY cgY cyY : Nat} {owY : Bool} {capY : Nat} {bsY : List UInt8} {enY ouY : Bool} {acY seY drY : Int} {rcY moY grY gotY usY : Int} {rbY : List UInt8} {sdY rdY : Bool} {alY gtY : List ByteArray} {wyY : List (Bool × ByteArray)} {frY : Int}, FB j alX bsX sdX acX frX gtY rbY grY gotY rdY wyY → FB j alY bsY sdY acY frY gtX rbX grX gotX rdX wyX → TB capX bsX enX ouX acX seX drX → RB rcX moX grX gotX usX rbX → TB capY bsY enY ouY acY seY drY → RB rcY moY grY gotY usY rbY → CallT Try.prog f args (pt a [.pointer (some ⟨sX, 0, none⟩), .slice AX alX.length caX, .slice GX gtX.length cgX, .slice YX (wyX.map (mkF 0)).length cyX, .int .i64 frX] 108 :: pt sX [.pointer (some ⟨liX, 0, none⟩), .pointer (some ⟨tX, 0, none⟩), .pointer (some ⟨rX, 0, none⟩), .int .i64 3, .bool owX] 84 :: liP liX (staOf sdX rdX) :: txB tX capX bsX enX ouX acX seX drX :: rxB rX rcX moX grX gotX usX rbX rdX :: row AX caX 9 sxC alX :: row GX cgX 9 sxC gtX :: row YX cyX 94 fmC (wyX.map (mkF 0)) :: pt b [.pointer (some ⟨sY, 0, none⟩), .slice AY alY.length caY, .slice GY gtY.length cgY, .slice YY (wyY.map (mkF 0)).length cyY, .int .i64 frY] 108 :: pt sY [.pointer (some ⟨liY, 0, none⟩), .pointer (some ⟨tY, 0, none⟩), .pointer (some ⟨rY, 0, none⟩), .int .i64 3, .bool owY] 84 :: liP liY (staOf sdY rdY) :: txB tY capY bsY enY ouY acY seY drY :: rxB rY rcY moY grY gotY usY rbY rdY :: row AY caY 9 sxC alY :: row GY cgY 9 sxC gtY :: row YY cyY 94 fmC (wyY.map (mkF 0)) :: R) K) : CallT Try.prog f args (pairB a b j :: R) K := by
  refine CallT.ex fun x => CallT.ex fun y => ?_
  refine CallT.star (CallT.pure fun hp => ?_)
  refine callFact (p := TB x.cap x.bs x.en x.ou x.ac x.se x.dr ∧ RB x.rc x.mo x.gr x.got x.us x.rb ∧ TB y.cap y.bs y.en y.ou y.ac y.se y.dr ∧ RB y.rc y.mo y.gr y.got y.us y.rb) (fun H hs => ?_) fun hf => h hp.1 hp.2 hf.1 hf.2.1 hf.2.2.1 hf.2.2.2
  have h3 := hs.tail.tail.tail
  have h4 := h3.tail.tail.tail.tail.tail.tail.tail.tail
  exact ⟨txB_sats h3, rxB_sats h3.tail, txB_sats h4, rxB_sats h4.tail⟩
theorem pairB_fold {sX liX tX rX : Nat} {AX GX YX : Option Addr} {caX cgX cyX : Nat} {owX : Bool} {capX : Nat} {bsX : List UInt8} {enX ouX : Bool} {acX seX drX : Int} {rcX moX grX gotX usX : Int} {rbX : List UInt8} {sdX rdX : Bool} {alX gtX : List ByteArray} {wyX : List (Bool × ByteArray)} {frX : Int} {sY liY tY rY : Nat} {AY GY YY : Option Addr} {caY cgY cyY : Nat} {owY : Bool} {capY : Nat} {bsY : List UInt8} {enY ouY : Bool} {acY seY drY : Int} {rcY moY grY gotY usY : Int} {rbY : List UInt8} {sdY rdY : Bool} {alY gtY : List ByteArray} {wyY : List (Bool × ByteArray)} {frY : Int} (h1 : FB j alX bsX sdX acX frX gtY rbY grY gotY rdY wyY) (h2 : FB j alY bsY sdY acY frY gtX rbX grX gotX rdX wyX) : Ent (pt a [.pointer (some ⟨sX, 0, none⟩), .slice AX alX.length caX, .slice GX gtX.length cgX, .slice YX (wyX.map (mkF 0)).length cyX, .int .i64 frX] 108 :: pt sX [.pointer (some ⟨liX, 0, none⟩), .pointer (some ⟨tX, 0, none⟩), .pointer (some ⟨rX, 0, none⟩), .int .i64 3, .bool owX] 84 :: liP liX (staOf sdX rdX) :: txB tX capX bsX enX ouX acX seX drX :: rxB rX rcX moX grX gotX usX rbX rdX :: row AX caX 9 sxC alX :: row GX cgX 9 sxC gtX :: row YX cyX 94 fmC (wyX.map (mkF 0)) :: pt b [.pointer (some ⟨sY, 0, none⟩), .slice AY alY.length caY, .slice GY gtY.length cgY, .slice YY (wyY.map (mkF 0)).length cyY, .int .i64 frY] 108 :: pt sY [.pointer (some ⟨liY, 0, none⟩), .pointer (some ⟨tY, 0, none⟩), .pointer (some ⟨rY, 0, none⟩), .int .i64 3, .bool owY] 84 :: liP liY (staOf sdY rdY) :: txB tY capY bsY enY ouY acY seY drY :: rxB rY rcY moY grY gotY usY rbY rdY :: row AY caY 9 sxC alY :: row GY cgY 9 sxC gtY :: row YY cyY 94 fmC (wyY.map (mkF 0)) :: R) (pairB a b j :: R) :=
  Ent.ex ⟨sX, liX, tX, rX, AX, GX, YX, caX, cgX, cyX, owX, capX, bsX, enX, ouX, acX, seX, drX, rcX, moX, grX, gotX, usX, rbX, sdX, rdX, alX, gtX, wyX, frX⟩ (Ent.ex ⟨sY, liY, tY, rY, AY, GY, YY, caY, cgY, cyY, owY, capY, bsY, enY, ouY, acY, seY, drY, rcY, moY, grY, gotY, usY, rbY, sdY, rdY, alY, gtY, wyY, frY⟩ (Ent.star (Ent.pure ⟨h1, h2⟩ (Ent.refl _))))
theorem pairB_foldM {sX liX tX rX : Nat} {AX GX YX : Option Addr} {caX cgX cyX : Nat} {owX : Bool} {capX : Nat} {bsX : List UInt8} {enX ouX : Bool} {acX seX drX : Int} {rcX moX grX gotX usX : Int} {rbX : List UInt8} {sdX rdX : Bool} {alX gtX : List ByteArray} {wyX : List (Bool × ByteArray)} {frX : Int} {sY liY tY rY : Nat} {AY GY YY : Option Addr} {caY cgY cyY : Nat} {owY : Bool} {capY : Nat} {bsY : List UInt8} {enY ouY : Bool} {acY seY drY : Int} {rcY moY grY gotY usY : Int} {rbY : List UInt8} {sdY rdY : Bool} {alY gtY : List ByteArray} {wyY : List (Bool × ByteArray)} {frY : Int} {mX mY : List Fm} (hX : wyX.map (mkF 0) = mX) (hY : wyY.map (mkF 0) = mY) (h1 : FB j alX bsX sdX acX frX gtY rbY grY gotY rdY wyY) (h2 : FB j alY bsY sdY acY frY gtX rbX grX gotX rdX wyX) : Ent (pt a [.pointer (some ⟨sX, 0, none⟩), .slice AX alX.length caX, .slice GX gtX.length cgX, .slice YX mX.length cyX, .int .i64 frX] 108 :: pt sX [.pointer (some ⟨liX, 0, none⟩), .pointer (some ⟨tX, 0, none⟩), .pointer (some ⟨rX, 0, none⟩), .int .i64 3, .bool owX] 84 :: liP liX (staOf sdX rdX) :: txB tX capX bsX enX ouX acX seX drX :: rxB rX rcX moX grX gotX usX rbX rdX :: row AX caX 9 sxC alX :: row GX cgX 9 sxC gtX :: row YX cyX 94 fmC mX :: pt b [.pointer (some ⟨sY, 0, none⟩), .slice AY alY.length caY, .slice GY gtY.length cgY, .slice YY mY.length cyY, .int .i64 frY] 108 :: pt sY [.pointer (some ⟨liY, 0, none⟩), .pointer (some ⟨tY, 0, none⟩), .pointer (some ⟨rY, 0, none⟩), .int .i64 3, .bool owY] 84 :: liP liY (staOf sdY rdY) :: txB tY capY bsY enY ouY acY seY drY :: rxB rY rcY moY grY gotY usY rbY rdY :: row AY caY 9 sxC alY :: row GY cgY 9 sxC gtY :: row YY cyY 94 fmC mY :: R) (pairB a b j :: R) := by
  subst hX; subst hY
  exact pairB_fold h1 h2
theorem pairB_evo {c : Code} {Q : Exit → Fr → List HP → Prop} {v : Fr} (h : ∀ {sX liX tX rX : Nat} {AX GX YX : Option Addr} {caX cgX cyX : Nat} {owX : Bool} {capX : Nat} {bsX : List UInt8} {enX ouX : Bool} {acX seX drX : Int} {rcX moX grX gotX usX : Int} {rbX : List UInt8} {sdX rdX : Bool} {alX gtX : List ByteArray} {wyX : List (Bool × ByteArray)} {frX : Int} {sY liY tY rY : Nat} {AY GY YY : Option Addr} {caY cgY cyY : Nat} {owY : Bool} {capY : Nat} {bsY : List UInt8} {enY ouY : Bool} {acY seY drY : Int} {rcY moY grY gotY usY : Int} {rbY : List UInt8} {sdY rdY : Bool} {alY gtY : List ByteArray} {wyY : List (Bool × ByteArray)} {frY : Int}, FB j alX bsX sdX acX frX gtY rbY grY gotY rdY wyY → FB j alY bsY sdY acY frY gtX rbX grX gotX rdX wyX → evC Try.prog c Q v (pt a [.pointer (some ⟨sX, 0, none⟩), .slice AX alX.length caX, .slice GX gtX.length cgX, .slice YX (wyX.map (mkF 0)).length cyX, .int .i64 frX] 108 :: pt sX [.pointer (some ⟨liX, 0, none⟩), .pointer (some ⟨tX, 0, none⟩), .pointer (some ⟨rX, 0, none⟩), .int .i64 3, .bool owX] 84 :: liP liX (staOf sdX rdX) :: txB tX capX bsX enX ouX acX seX drX :: rxB rX rcX moX grX gotX usX rbX rdX :: row AX caX 9 sxC alX :: row GX cgX 9 sxC gtX :: row YX cyX 94 fmC (wyX.map (mkF 0)) :: pt b [.pointer (some ⟨sY, 0, none⟩), .slice AY alY.length caY, .slice GY gtY.length cgY, .slice YY (wyY.map (mkF 0)).length cyY, .int .i64 frY] 108 :: pt sY [.pointer (some ⟨liY, 0, none⟩), .pointer (some ⟨tY, 0, none⟩), .pointer (some ⟨rY, 0, none⟩), .int .i64 3, .bool owY] 84 :: liP liY (staOf sdY rdY) :: txB tY capY bsY enY ouY acY seY drY :: rxB rY rcY moY grY gotY usY rbY rdY :: row AY caY 9 sxC alY :: row GY cgY 9 sxC gtY :: row YY cyY 94 fmC (wyY.map (mkF 0)) :: R)) : evC Try.prog c Q v (pairB a b j :: R) :=
  evC_ex fun x => evC_ex fun y => evC_star (evC_pure fun hp => h hp.1 hp.2)
theorem pairB_swap : Ent (pairB a b j :: R) (pairB b a j :: R) := fun H hs => by
  obtain ⟨x, hs⟩ := hs.ex
  obtain ⟨y, hs⟩ := hs.ex
  obtain ⟨hp, hs⟩ := (Sats.star hs).pure
  exact ((Ent.trans (by ((iterate 30 (try (first | exact Ent.refl _ | exact Ent.nil | (apply Ent.pick; focus ((repeat (first | exact Pick.here | apply Pick.there)) <;> exact Pick.here)) | (apply Ent.pickP; focus ((repeat (first | exact pers_ro _ _ _ | exact pers_rrow _ _ _ | exact pers_pure _ | refine pers_sep ?_ ?_ | refine pers_ex fun _ => ?_)) <;> exact pers_pure _); focus ((repeat (first | exact Pick.here | apply Pick.there)) <;> exact Pick.here)) | (apply Ent.pure; focus (first | assumption | exact rfl | omega)) | apply Ent.nilrow' | apply Ent.ex | apply Ent.sep | apply Ent.drop))) <;> exact Ent.nil)) (pairB_fold hp.2 hp.1)) : Ent _ _) _ hs
end
end Go.Proofs.Ytbmkghbjooobeaa

