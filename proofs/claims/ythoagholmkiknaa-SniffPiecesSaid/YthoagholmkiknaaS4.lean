/- Sniff: a frame; what a side sends: lemmas; each with the conditions that it states. -/
import Derived.Test.YthoagholmkiknaaFh
import Derived.Test.YthoagholmkiknaaS3
import Derived.Test.YthoagholmkiknaaS7

namespace Go.Proofs.Ythoagholmkiknaa
open Go Go.Proofs Go.Sl
set_option maxRecDepth 100000
set_option maxHeartbeats 4000000
set_option linter.unusedSimpArgs false
set_option linter.unusedVariables false
attribute [local irreducible] evG evC spl thenC inBlockC noGotoC CallT retC RetG TurnG CutG pt ro exP star sep pureP
attribute [local irreducible] mp mit
variable {R C : List HP} {K : Value → List HP → Prop}
/-- credits behind a frame, and what is wrong with it -/
def endO (e : Bool) (d : ByteArray) : Prop := d = ⟨#[]⟩ ∧ e = true
instance (e : Bool) (d : ByteArray) : Decidable (endO e d) := by unfold endO; exact inferInstance
def nC (t st : Int) (d : ByteArray) (n cn : Int) : Int := if t = 0 then spN cn (d.size : Nat) else if t = 10 ∧ st = 0 then cn + n else cn
def nB (t st : Int) (d : ByteArray) (n b : Int) : Int := if t = 0 then spN b (d.size : Nat) else if t = 10 ∧ st = 1 then b + n else b
def nI (t : Int) (e : Bool) (d : ByteArray) (n i : Int) : Int := if t = 1 then (if endO e d then i else spN i 1) else if t = 11 then i + n else i
def outW (t : Int) (e : Bool) (d : ByteArray) (cn b i : Int) : List Int := if t = 0 then (if spO cn (d.size : Nat) = true then [] else [9]) ++ (if spO b (d.size : Nat) = true then [] else [8]) else if t = 1 then (if endO e d then [] else if spO i 1 = true then [] else [10]) else []
theorem outW_len (t : Int) (e : Bool) (d : ByteArray) (cn b i : Int) : (outW t e d cn b i).length ≤ 2 := by
  unfold outW
  by_cases h0 : t = 0
  · rw [if_pos h0]; cases spO cn (d.size : Nat) <;> cases spO b (d.size : Nat) <;> simp
  · rw [if_neg h0]
    by_cases h1 : t = 1
    · rw [if_pos h1]
      by_cases he : endO e d
      · rw [if_pos he]; simp
      · rw [if_neg he]; cases spO i 1 <;> simp
    · rw [if_neg h1]; simp
section
variable {x q i0 i1 s0 s1 m : Nat} {cn0 cn1 b0 b1 it0 it1 n : Int} {st k on w c la : Int} {e xx : Bool} {d : ByteArray} {pa : Option Addr} {pn pc : Nat}
theorem sdata0_ok (hd : d.size ≤ 10000) (hc0 : -1000000000000 ≤ cn0 ∧ cn0 ≤ 1000000000000) (hb0 : -1000000000000 ≤ b0 ∧ b0 ≤ 1000000000000) (hi0 : -1000000000000 ≤ it0 ∧ it0 ≤ 1000000000000) (hK : ∀ A c, K (.slice A (outW 0 e d cn0 b0 it0).length c) (pt x [.pointer (some ⟨i0, 0, none⟩), .pointer (some ⟨i1, 0, none⟩), .slice (some ⟨s0, 0, none⟩) 1 1, .slice (some ⟨s1, 0, none⟩) 1 1, .int .i64 0, .int .i64 0, .int .i64 (nC 0 1 d n cn0), .int .i64 cn1, .map (some m)] 55 :: mp m [⟨1, .pointer (some ⟨q, 0, none⟩), 0⟩] 1 :: pt q [.int .i64 (nB 0 1 d n b0), .int .i64 b1, .int .i64 (nI 0 e d n it0), .int .i64 it1, .int .i64 1, .int .i64 1] 70 :: row A c 3 siC (outW 0 e d cn0 b0 it0) :: R)) : CallT Try.prog 39 #[.pointer (some ⟨x, 0, none⟩), .int .i64 0, .agg #[.int .i64 0, .int .i64 1, .bool e, .string d, .int .i64 k, .int .i64 on, .int .i64 w, .bool xx, .int .i64 c, .int .i64 la, .int .i64 n, .slice pa pn pc]] (pt x [.pointer (some ⟨i0, 0, none⟩), .pointer (some ⟨i1, 0, none⟩), .slice (some ⟨s0, 0, none⟩) 1 1, .slice (some ⟨s1, 0, none⟩) 1 1, .int .i64 0, .int .i64 0, .int .i64 cn0, .int .i64 cn1, .map (some m)] 55 :: mp m [⟨1, .pointer (some ⟨q, 0, none⟩), 0⟩] 1 :: pt q [.int .i64 b0, .int .i64 b1, .int .i64 it0, .int .i64 it1, .int .i64 1, .int .i64 1] 70 :: R) K := by
  simp only [nC, nB, nI, outW, if_true, if_neg (show ¬ (0 : Int) = 1 by decide), if_neg (show ¬ (0 : Int) = 11 by decide)] at hK
  cases h1 : spO cn0 (d.size : Nat) <;> cases h2 : spO b0 (d.size : Nat) <;> simp only [h1, h2, if_true, Bool.false_eq_true, if_false, List.nil_append, List.append_nil, List.cons_append] at hK
  · exact sdataNN_ok hd hc0 hb0 h1 h2 hK
  · exact sdataNY_ok hd hc0 hb0 h1 h2 hK
  · exact sdataYN_ok hd hc0 hb0 h1 h2 hK
  · exact sdataYY_ok hd hc0 hb0 h1 h2 hK
theorem sfr0_ok (hn : 0 ≤ n ∧ n ≤ 2147483647) (hd : d.size ≤ 10000) (hc0 : -1000000000000 ≤ cn0 ∧ cn0 ≤ 1000000000000) (hb0 : -1000000000000 ≤ b0 ∧ b0 ≤ 1000000000000) (hi0 : -1000000000000 ≤ it0 ∧ it0 ≤ 1000000000000) (hK : ∀ A c, K (.slice A (outW 0 e d cn0 b0 it0).length c) (pt x [.pointer (some ⟨i0, 0, none⟩), .pointer (some ⟨i1, 0, none⟩), .slice (some ⟨s0, 0, none⟩) 1 1, .slice (some ⟨s1, 0, none⟩) 1 1, .int .i64 0, .int .i64 0, .int .i64 (nC 0 1 d n cn0), .int .i64 cn1, .map (some m)] 55 :: mp m [⟨1, .pointer (some ⟨q, 0, none⟩), 0⟩] 1 :: pt q [.int .i64 (nB 0 1 d n b0), .int .i64 b1, .int .i64 (nI 0 e d n it0), .int .i64 it1, .int .i64 1, .int .i64 1] 70 :: row A c 3 siC (outW 0 e d cn0 b0 it0) :: R)) : CallT Try.prog 23 #[.pointer (some ⟨x, 0, none⟩), .int .i64 0, .agg #[.int .i64 0, .int .i64 1, .bool e, .string d, .int .i64 k, .int .i64 on, .int .i64 w, .bool xx, .int .i64 c, .int .i64 la, .int .i64 n, .slice pa pn pc]] (pt x [.pointer (some ⟨i0, 0, none⟩), .pointer (some ⟨i1, 0, none⟩), .slice (some ⟨s0, 0, none⟩) 1 1, .slice (some ⟨s1, 0, none⟩) 1 1, .int .i64 0, .int .i64 0, .int .i64 cn0, .int .i64 cn1, .map (some m)] 55 :: mp m [⟨1, .pointer (some ⟨q, 0, none⟩), 0⟩] 1 :: pt q [.int .i64 b0, .int .i64 b1, .int .i64 it0, .int .i64 it1, .int .i64 1, .int .i64 1] 70 :: R) K := by
  refine callT_intro mixed Try.func23 rfl (by decide) (by decide +kernel) (by exact Nat.le_of_ble_eq_true rfl) ?_
  repeat' (first
    | (show evG _ _ _ _ _ _ _; first | refine G_pure0 ?_ | refine G_load ?_ | refine evG_nil ?_ | refine G_br ?_ ?_ | refine G_field ?_ | refine G_pure ?_ | refine G_loadV ?_ | refine G_loadV0 ?_ | refine G_loadV2 ?_ | refine G_eql_agg ?_ | refine G_call ?_ | refine G_call0 ?_ | (refine G_box ?_; intro _))
    | (show spl _ _ _; first | refine spl_no rfl ?_ | refine spl_yes rfl ?_)
    | (show evC _ _ _ _ _; first | refine c_seq ?_ | refine c_region (by exact rfl) ?_ | refine c_cond (by exact rfl) ?_ | refine c_ret ?_ | refine c_skip ?_ | refine c_block ?_ | refine c_exit ?_ | refine std ?_)
    | (show Br _ _ _; first | refine Br.t rfl ?_ | refine Br.f rfl ?_ | refine brs ?_ | (first | refine Br.mkN (fun h => ?_) (fun h => ?_) | refine Br.mk (fun h => ?_) (fun h => ?_)) <;> (try (first | contradiction | (exfalso; omega) | (exfalso; simp at h; done))))
    | refine stp ?_
    | (show CallT _ 39 _ _ _; refine CA (h := sdata0_ok hd hc0 hb0 hi0 (fun _ _ => ?_))))
  all_goals (show retC _ _ _ _ _ _; refine RETC ?_; exact ret_done (hK _ _))
end
end Go.Proofs.Ythoagholmkiknaa

