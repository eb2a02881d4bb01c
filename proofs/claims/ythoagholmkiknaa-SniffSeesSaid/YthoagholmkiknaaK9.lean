/- Frame: a payload by the document; both are the same: lemmas; each with the conditions that it states. -/
import Derived.Test.YthoagholmkiknaaK8

namespace Go.Proofs.Ythoagholmkiknaa
open Go Go.Proofs Go.Sl
set_option maxRecDepth 100000
set_option maxHeartbeats 4000000
set_option linter.unusedSimpArgs false
set_option linter.unusedVariables false
attribute [local irreducible] evG evC spl thenC inBlockC noGotoC CallT retC RetG TurnG CutG pt ro exP star sep pureP
variable {R C : List HP} {K : Value → List HP → Prop}
theorem szL_small : ∀ (ps : List Pc) (n : Int), 0 ≤ n → firstE ps = 0 → n + (allB ps).length ≤ 4096 → szL ps n ≤ 4096
  | [], n, _, _, h => by simp [szL, allB] at h ⊢; omega
  | p :: l, n, h0, he, h => by
    obtain ⟨h1, h2⟩ := firstE_cons he
    have hl := pcB_len (n := p.n) (s := p.s) (pcMay_w h1)
    have hc : ((allB (p :: l)).length : Int) = pcSize p.w p.s + (allB l).length := by rw [← hl]; simp [allB]
    have hnn := pcSize_nn p.w p.s
    have hm : min (pcSize p.w p.s) 4097 = pcSize p.w p.s := by omega
    unfold szL
    rw [hm, if_neg (by omega)]
    exact szL_small l _ (by omega) h2 (by omega)
theorem lay_of {ps : List Pc} (h : firstE ps = 0) (h2 : (allB ps).length ≤ 4096) : layS ps = ⟨(allB ps).toArray⟩ := by
  have h3 := szL_small ps 0 (by omega) h (by omega)
  have he : layE ps = 0 := by
    unfold layE
    rw [if_pos h, if_neg (by omega)]
  unfold layS
  rw [if_pos he]
theorem firstE_app : ∀ (a b : List Pc), firstE a = 0 → firstE b = 0 → firstE (a ++ b) = 0
  | [], b, _, h => h
  | p :: l, b, h1, h => by
    obtain ⟨h2, h3⟩ := firstE_cons h1
    show (if pcMay p.n p.w = 0 then firstE (l ++ b) else _) = 0
    rw [if_pos h2]
    exact firstE_app l b h3 h
def psL (ps : List Pr) : List UInt8 := ps.flatMap fun p => wB p.i 2 ++ wB p.v 4
/-- a payload by the document -/
def payL (t : Int) (d : ByteArray) (k on w : Int) (x : Bool) (c la n : Int) (ps : List Pr) : List UInt8 := if t = 2 ∨ t = 3 then wB k 1 ++ (wB (bitI x) 1 ++ (wB (w - 1) 1 ++ (wB 0 1 ++ wB on 4))) else if t = 4 then wB c 4 else if t = 9 then wB la 4 ++ wB c 4 else if t = 10 ∨ t = 11 then wB n 4 else d.data.toList ++ psL ps
theorem psL_len : ∀ ps : List Pr, (psL ps).length = 6 * ps.length
  | [] => rfl
  | p :: l => by
    have := psL_len l
    unfold psL at this ⊢
    simp only [List.flatMap_cons, List.length_append, List.length_cons, this, wB_len]
    have a2 : (2 : Int).toNat = 2 := rfl
    have a4 : (4 : Int).toNat = 4 := rfl
    omega
theorem psL_take {ps : List Pr} {j : Nat} {y : Pr} (h : ps[j]? = some y) : psL (ps.take (j + 1)) = psL (ps.take j) ++ (wB y.i 2 ++ wB y.v 4) := by
  unfold psL
  rw [List.take_add_one, h]
  simp
theorem may31 {n : Int} (h : n31 n = true) : pcMay n 4 = 0 := by
  obtain ⟨p1, p3, p4⟩ := pow256
  have m := may_of (n := n) (w := 4) (by decide)
  rw [show (4 : Int).toNat = 4 from rfl, p4] at m
  have := (n31_iff n).1 h
  exact m.2 (by omega)
theorem may16 {n : Int} (h : 0 ≤ n ∧ n ≤ 65535) : pcMay n 2 = 0 := by
  have m := may_of (n := n) (w := 2) (by decide)
  rw [show (2 : Int).toNat = 2 from rfl, pow256_2] at m
  exact m.2 (by omega)
theorem may8 {n : Int} (h : 0 ≤ n ∧ n ≤ 255) : pcMay n 1 = 0 := by
  obtain ⟨p1, p3, p4⟩ := pow256
  have m := may_of (n := n) (w := 1) (by decide)
  rw [show (1 : Int).toNat = 1 from rfl, p1] at m
  exact m.2 (by omega)
theorem psPs_first : ∀ {ps : List Pr}, psB ps = true → firstE (psPs ps) = 0
  | [], _ => rfl
  | p :: l, h => by
    simp only [psB, List.all_cons, Bool.and_eq_true, decide_eq_true_eq] at h
    have := psPs_first (ps := l) (by unfold psB; simpa using h.2)
    show firstE (⟨p.i, 2, ⟨#[]⟩⟩ :: ⟨p.v, 4, ⟨#[]⟩⟩ :: psPs l) = 0
    simp only [firstE]
    rw [if_pos (may16 h.1.1), if_pos (may31 h.1.2)]
    exact this
theorem psPs_all : ∀ ps : List Pr, allB (psPs ps) = psL ps
  | [] => rfl
  | p :: l => by
    have := psPs_all l
    show allB (⟨p.i, 2, ⟨#[]⟩⟩ :: ⟨p.v, 4, ⟨#[]⟩⟩ :: psPs l) = psL (p :: l)
    unfold allB at this ⊢
    rw [List.flatMap_cons, List.flatMap_cons, this]
    simp [pcB, psL]
theorem allB_app (a b : List Pc) : allB (a ++ b) = allB a ++ allB b := by unfold allB; simp
theorem pay_law {t st : Int} {e : Bool} {d : ByteArray} {k on w : Int} {x : Bool} {c la n : Int} {ps : List Pr} (h : RightP t st e d k on w x c la n ps) : layS (headPs t d k on w x c la n ++ psPs ps) = ⟨(payL t d k on w x c la n ps).toArray⟩ ∧ (payL t d k on w x c la n ps).length ≤ 256 := by
  obtain ⟨h1, h2, h3, h4, h5, h6, h7, h8, h9, h10, h11, h12, h13, h14, h15, h16, h17, h18, h19, h20, h21⟩ := h
  have hd : d.data.toList.length = d.size := by simp
  have hp := psPs_first h17
  have hl := psL_len ps
  have a1 : (1 : Int).toNat = 1 := rfl
  have a4 : (4 : Int).toNat = 4 := rfl
  have key : ∀ hs : List Pc, headPs t d k on w x c la n = hs → firstE hs = 0 → allB hs ++ psL ps = payL t d k on w x c la n ps → (payL t d k on w x c la n ps).length ≤ 256 → layS (headPs t d k on w x c la n ++ psPs ps) = ⟨(payL t d k on w x c la n ps).toArray⟩ ∧ (payL t d k on w x c la n ps).length ≤ 256 := by
    intro hs e1 e2 e3 e4
    rw [e1, lay_of (firstE_app _ _ e2 hp) (by rw [allB_app, psPs_all, e3]; omega), allB_app, psPs_all, e3]
    exact ⟨rfl, e4⟩
  have hps : ¬ t = 5 → psL ps = [] := fun h => by
    have : ps.length = 0 := by
      rcases Nat.eq_zero_or_pos ps.length with h' | h'
      · exact h'
      · exact absurd (h10 h') h
    rw [List.length_eq_zero_iff.1 this]; rfl
  rcases (by omega : (t = 0 ∨ t = 1 ∨ t = 7 ∨ t = 8) ∨ (t = 2 ∨ t = 3) ∨ t = 4 ∨ t = 9 ∨ (t = 10 ∨ t = 11) ∨ t = 5 ∨ t = 6) with h | h | h | h | h | h | h
  · refine key [⟨0, 0, d⟩] (by unfold headPs; rw [if_pos h]) rfl ?_ ?_
    · rw [hps (by omega)]
      unfold payL
      rw [if_neg (by omega), if_neg (by omega), if_neg (by omega), if_neg (by omega), hps (by omega)]
      simp [allB, pcB, show wB 0 0 = [] from rfl]
    · unfold payL
      rw [if_neg (by omega), if_neg (by omega), if_neg (by omega), if_neg (by omega), hps (by omega)]
      rw [List.append_nil, hd]
      by_cases h' : t ≤ 1
      · exact h13 h'
      · have := h14 (by omega); omega
  · have hdep := h16 h
    unfold depB at hdep
    simp only [Bool.and_eq_true, decide_eq_true_eq] at hdep
    have hb := bitI_rng x
    have hk : 0 ≤ k ∧ k ≤ 255 := by
      by_cases h2 : t = 2
      · have := h15 h2; omega
      · have : k = 0 := Classical.byContradiction fun h' => h2 (h6 h')
        omega
    refine key [⟨k, 1, ⟨#[]⟩⟩, ⟨bitI x, 1, ⟨#[]⟩⟩, ⟨w - 1, 1, ⟨#[]⟩⟩, ⟨0, 1, ⟨#[]⟩⟩, ⟨on, 4, ⟨#[]⟩⟩] (by unfold headPs; rw [if_neg (by omega), if_pos h]) ?_ ?_ ?_
    · simp only [firstE]
      rw [if_pos (may8 hk), if_pos (may8 (by omega)), if_pos (may8 (by omega)), if_pos (may8 (by omega)), if_pos (may31 hdep.1)]
    · rw [hps (by omega)]
      unfold payL
      rw [if_pos h]
      simp [allB, pcB]
    · unfold payL
      rw [if_pos h]
      simp only [List.length_append, wB_len]
      omega
  · refine key [⟨c, 4, ⟨#[]⟩⟩] (by unfold headPs; rw [if_neg (by omega), if_neg (by omega), if_pos h]) ?_ ?_ ?_
    · simp only [firstE]
      rw [if_pos (may31 h18)]
    · rw [hps (by omega)]
      unfold payL
      rw [if_neg (by omega), if_pos h]
      simp [allB, pcB]
    · unfold payL
      rw [if_neg (by omega), if_pos h, wB_len]
      omega
  · refine key [⟨la, 4, ⟨#[]⟩⟩, ⟨c, 4, ⟨#[]⟩⟩] (by unfold headPs; rw [if_neg (by omega), if_neg (by omega), if_neg (by omega), if_pos h]) ?_ ?_ ?_
    · simp only [firstE]
      rw [if_pos (may31 h19), if_pos (may31 h18)]
    · rw [hps (by omega)]
      unfold payL
      rw [if_neg (by omega), if_neg (by omega), if_pos h]
      simp [allB, pcB]
    · unfold payL
      rw [if_neg (by omega), if_neg (by omega), if_pos h, List.length_append, wB_len, wB_len]
      omega
  · refine key [⟨n, 4, ⟨#[]⟩⟩] (by unfold headPs; rw [if_neg (by omega), if_neg (by omega), if_neg (by omega), if_neg (by omega), if_pos h]) ?_ ?_ ?_
    · simp only [firstE]
      rw [if_pos (may31 h20)]
    · rw [hps (by omega)]
      unfold payL
      rw [if_neg (by omega), if_neg (by omega), if_neg (by omega), if_pos h]
      simp [allB, pcB]
    · unfold payL
      rw [if_neg (by omega), if_neg (by omega), if_neg (by omega), if_pos h, wB_len]
      omega
  all_goals
    have hd0 : d.data.toList = [] := by
      rcases Nat.eq_zero_or_pos d.size with h' | h'
      · exact List.length_eq_zero_iff.1 (by omega)
      · have := h12 h'; omega
    refine key [] (by unfold headPs; rw [if_neg (by omega), if_neg (by omega), if_neg (by omega), if_neg (by omega), if_neg (by omega)]) rfl ?_ ?_
    · unfold payL
      rw [if_neg (by omega), if_neg (by omega), if_neg (by omega), if_neg (by omega), hd0]
      rfl
    · unfold payL
      rw [if_neg (by omega), if_neg (by omega), if_neg (by omega), if_neg (by omega), hd0, List.nil_append]
      omega
end Go.Proofs.Ythoagholmkiknaa

