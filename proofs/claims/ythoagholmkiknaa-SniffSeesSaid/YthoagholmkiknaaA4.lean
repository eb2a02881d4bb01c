/- Octet: Lay: lemmas; each with the conditions that it states. -/
import Derived.Test.YthoagholmkiknaaFh
import Derived.Test.YthoagholmkiknaaA3

namespace Go.Proofs.Ythoagholmkiknaa
open Go Go.Proofs Go.Sl
set_option maxRecDepth 100000
set_option maxHeartbeats 4000000
set_option linter.unusedSimpArgs false
set_option linter.unusedVariables false
attribute [local irreducible] evG evC spl thenC inBlockC noGotoC CallT retC RetG TurnG CutG pt ro exP star sep pureP
variable {R C : List HP} {K : Value → List HP → Prop}
def firstE : List Pc → Int
  | [] => 0
  | p :: l => if pcMay p.n p.w = 0 then firstE l else pcMay p.n p.w
def allB (ps : List Pc) : List UInt8 := ps.flatMap fun p => pcB p.n p.w p.s
theorem firstE_cons {p : Pc} {l : List Pc} (h : firstE (p :: l) = 0) : pcMay p.n p.w = 0 ∧ firstE l = 0 := by
  unfold firstE at h
  split at h
  · exact ⟨by assumption, h⟩
  · rename_i h'; exact absurd h h'
theorem pcMay_w {n w : Int} (h : pcMay n w = 0) : 0 ≤ w ∧ w ≤ 4 := by
  unfold pcMay at h
  split at h
  · cases h
  · omega
theorem pcB_len {n w : Int} {s : ByteArray} (h : 0 ≤ w ∧ w ≤ 4) : ((pcB n w s).length : Int) = pcSize w s := by
  unfold pcB pcSize
  rw [List.length_append, wB_len]
  split
  · subst_vars; simp
  · rw [if_neg (by omega)]; simp; omega
theorem sz_all : ∀ (ps : List Pc) (n : Int), 0 ≤ n → firstE ps = 0 → szL ps n ≤ 4096 → n + (allB ps).length = szL ps n
  | [], n, _, _, _ => by simp [szL, allB]
  | p :: l, n, h0, he, h => by
    obtain ⟨h1, h2⟩ := firstE_cons he
    have hl := pcB_len (n := p.n) (s := p.s) (pcMay_w h1)
    unfold szL at h ⊢
    split at h
    · omega
    · rename_i h3
      rw [if_neg h3]
      have hnn := pcSize_nn p.w p.s
      have := sz_all l (n + min (pcSize p.w p.s) 4097) (by omega) h2 h
      have hle : n + min (pcSize p.w p.s) 4097 ≤ szL l (n + min (pcSize p.w p.s) 4097) := by rw [← this]; omega
      rw [← this]
      simp only [allB, List.flatMap_cons, List.length_append]
      have : min (pcSize p.w p.s) 4097 = pcSize p.w p.s ∨ 4097 ≤ pcSize p.w p.s := by omega
      have hc : ((List.flatMap (fun p => pcB p.n p.w p.s) l).length : Int) = (allB l).length := rfl
      omega
def layE (ps : List Pc) : Int := if firstE ps = 0 then (if 4096 < szL ps 0 then 4 else 0) else firstE ps
def layS (ps : List Pc) : ByteArray := if layE ps = 0 then ⟨(allB ps).toArray⟩ else ⟨#[]⟩
theorem firstE_drop {ps : List Pc} {j : Nat} {p : Pc} (h : ps.drop j = p :: ps.drop (j + 1)) : firstE (ps.drop j) = if pcMay p.n p.w = 0 then firstE (ps.drop (j + 1)) else pcMay p.n p.w := by rw [h]; rfl
theorem lay_ok {A : Option Addr} {n c : Nat} {ps : List Pc} (hv : View C A pcC ps) (hn : ps.length = n) (hn2 : n < 1000000000000000) (hK : K (.tuple #[.string (layS ps), .int .i64 (layE ps)]) C) : CallT Try.prog 90 #[.slice A n c] C K := by
  have hz0 := sz_all ps 0 (by omega)
  refine callT_intro mixed Try.func90 rfl (by decide) (by decide +kernel) (by exact Nat.le_of_ble_eq_true rfl) ?_
  repeat' (first
    | (show evG _ _ _ _ _ _ _; first | refine G_add64 ?_ | refine G_pure0 ?_ | refine G_load ?_ | refine evG_nil ?_ | refine G_br ?_ ?_ | refine G_pure ?_ | refine G_store ?_ | refine G_loadV ?_ | refine G_loadV0 ?_ | refine G_loadV2 ?_ | refine G_index ?_ | refine G_indexA ?_ | refine G_conv64 ?_ | refine G_conv8 ?_ | refine G_convu ?_ | refine G_conv ?_ | refine G_cat ?_ | refine G_neq_agg ?_ | refine G_bytesP ?_ | refine G_bytesstr ?_ | refine G_call ?_ | refine G_call0 ?_ | refine G_callv ?_ | refine G_callv0 ?_ | (refine G_alloc ?_; intro _) | (refine G_strrow ?_; intro _ _) | (refine G_indexV ?_; intro _ _ hA; subst hA))
    | (show spl _ _ _; first | refine spl_no rfl ?_ | refine spl_yes rfl ?_)
    | (show evC _ _ _ _ _; first | refine c_seq ?_ | refine c_region (by exact rfl) ?_ | refine c_cond (by exact rfl) ?_ | refine c_ret ?_ | refine c_skip ?_ | refine c_block ?_ | refine c_exit ?_ | refine std ?_)
    | (show Br _ _ _; first | refine Br.t rfl ?_ | refine Br.f rfl ?_ | refine brs ?_ | (first | refine Br.mkN (fun h => ?_) (fun h => ?_) | refine Br.mk (fun h => ?_) (fun h => ?_)) <;> (try (first | contradiction | (exfalso; omega) | (exfalso; simp at h; done))))
    | refine stp ?_)
  refine LOOP (fun m a C' => ∃ (j : Nat), j + m = n ∧ C' = C ∧ firstE ps = firstE (ps.drop j) ∧ Agree a [(0, .slice A n c), (11, .slice A n c), (12, .int .i64 n), (13, .int .i64 j)]) n (turn n ⟨0, by omega, rfl, rfl, rfl, rfl, rfl, rfl, trivial⟩) ?_
  rintro n1 a C' ⟨j, hj, rfl, hs, ha⟩
  refine c_fr _ ha ?_
  simp only [updL]
  by_cases hlt : j < n
  · obtain ⟨p, hp, hd⟩ := at_drop (l := ps) (j := j) (by omega)
    rw [firstE_drop hd] at hs
    repeat' (first
      | (show evG _ _ _ _ _ _ _; first | refine G_add64 ?_ | refine G_pure0 ?_ | refine G_load ?_ | refine evG_nil ?_ | refine G_br ?_ ?_ | refine G_pure ?_ | refine G_store ?_ | refine G_loadV ?_ | refine G_loadV0 ?_ | refine G_loadV2 ?_ | refine G_index ?_ | refine G_indexA ?_ | refine G_conv64 ?_ | refine G_conv8 ?_ | refine G_convu ?_ | refine G_conv ?_ | refine G_cat ?_ | refine G_neq_agg ?_ | refine G_bytesP ?_ | refine G_bytesstr ?_ | refine G_call ?_ | refine G_call0 ?_ | refine G_callv ?_ | refine G_callv0 ?_ | (refine G_alloc ?_; intro _) | (refine G_strrow ?_; intro _ _) | (refine G_indexV ?_; intro _ _ hA; subst hA))
      | (show spl _ _ _; first | refine spl_no rfl ?_ | refine spl_yes rfl ?_)
      | (show evC _ _ _ _ _; first | refine c_seq ?_ | refine c_region (by exact rfl) ?_ | refine c_cond (by exact rfl) ?_ | refine c_ret ?_ | refine c_skip ?_ | refine c_block ?_ | refine c_exit ?_ | refine std ?_)
      | (show Br _ _ _; first | refine Br.t rfl ?_ | refine Br.f rfl ?_ | refine brs ?_ | (first | refine Br.mkN (fun h => ?_) (fun h => ?_) | refine Br.mk (fun h => ?_) (fun h => ?_)) <;> (try (first | contradiction | (exfalso; omega) | (exfalso; simp at h; done))))
      | refine stp ?_
      | (show CallT _ 96 _ _ _; refine CA (h := may_ok ?_)))
    · have h : pcMay p.n p.w ≠ 0 := by assumption
      rw [if_neg h] at hs
      have he : layE ps = pcMay p.n p.w := by unfold layE; rw [if_neg (by rw [hs]; exact h), hs]
      have hb : layS ps = ⟨#[]⟩ := by unfold layS; rw [if_neg (by rw [he]; exact h)]
      rw [he, hb] at hK
      (show retC _ _ _ _ _ _; refine RETC ?_; exact ret_done (hK))
    · have h : pcMay p.n p.w = 0 := by assumption
      rw [if_pos h] at hs
      exact turn (n1 - 1) ⟨j + 1, by omega, rfl, hs, rfl, rfl, rfl, rfl, trivial⟩
  · obtain rfl : j = n := by omega
    rw [List.drop_eq_nil_of_le (by omega)] at hs
    have hs0 : firstE ps = 0 := hs
    repeat' (first
      | (show evG _ _ _ _ _ _ _; first | refine G_add64 ?_ | refine G_pure0 ?_ | refine G_load ?_ | refine evG_nil ?_ | refine G_br ?_ ?_ | refine G_pure ?_ | refine G_store ?_ | refine G_loadV ?_ | refine G_loadV0 ?_ | refine G_loadV2 ?_ | refine G_index ?_ | refine G_indexA ?_ | refine G_conv64 ?_ | refine G_conv8 ?_ | refine G_convu ?_ | refine G_conv ?_ | refine G_cat ?_ | refine G_neq_agg ?_ | refine G_bytesP ?_ | refine G_bytesstr ?_ | refine G_call ?_ | refine G_call0 ?_ | refine G_callv ?_ | refine G_callv0 ?_ | (refine G_alloc ?_; intro _) | (refine G_strrow ?_; intro _ _) | (refine G_indexV ?_; intro _ _ hA; subst hA))
      | (show spl _ _ _; first | refine spl_no rfl ?_ | refine spl_yes rfl ?_)
      | (show evC _ _ _ _ _; first | refine c_seq ?_ | refine c_region (by exact rfl) ?_ | refine c_cond (by exact rfl) ?_ | refine c_ret ?_ | refine c_skip ?_ | refine c_block ?_ | refine c_exit ?_ | refine std ?_)
      | (show Br _ _ _; first | refine Br.t rfl ?_ | refine Br.f rfl ?_ | refine brs ?_ | (first | refine Br.mkN (fun h => ?_) (fun h => ?_) | refine Br.mk (fun h => ?_) (fun h => ?_)) <;> (try (first | contradiction | (exfalso; omega) | (exfalso; simp at h; done))))
      | refine stp ?_
      | (show CallT _ 97 _ _ _; refine CA (h := size_ok (by assumption) (by assumption) (by omega) ?_)))
    · have h : 4096 < szL ps 0 := by assumption
      have he : layE ps = 4 := by unfold layE; rw [if_pos hs0, if_pos h]
      have hb : layS ps = ⟨#[]⟩ := by unfold layS; rw [if_neg (by rw [he]; decide)]
      rw [he, hb] at hK
      (show retC _ _ _ _ _ _; refine RETC ?_; exact ret_done (hK))
    · rename_i b
      have h : szL ps 0 ≤ 4096 := by assumption
      have hz := hz0 hs0 h
      have he : layE ps = 0 := by unfold layE; rw [if_pos hs0, if_neg (by omega)]
      have hb : layS ps = ⟨(allB ps).toArray⟩ := by unfold layS; rw [if_pos he]
      rw [he, hb] at hK
      refine LOOP (fun m a C2 => ∃ (i : Nat), i + m = j ∧ C2 = bufP b (allB (ps.take i)) :: C' ∧ firstE (ps.drop i) = 0 ∧ Agree a [(7, .pointer (some ⟨b, 0, none⟩)), (8, .func (.func 98) #[] #[.pointer (some ⟨b, 0, none⟩)]), (27, .slice A j c), (28, .int .i64 j), (29, .int .i64 i)]) j (turn j ⟨0, by omega, rfl, hs0, rfl, rfl, rfl, rfl, rfl, trivial⟩) ?_
      rintro n2 a C2 ⟨i, hi, rfl, hf, ha⟩
      refine c_fr _ ha ?_
      simp only [updL]
      by_cases hlt : i < j
      · obtain ⟨p, hp, hd⟩ := at_drop (l := ps) (j := i) (by omega)
        rw [firstE_drop hd] at hf
        split at hf
        · rename_i hm
          have htk : allB (ps.take (i + 1)) = allB (ps.take i) ++ pcB p.n p.w p.s := by
            rw [List.take_add_one, hp]; simp [allB]
          have hle : ((allB (ps.take (i + 1))).length : Int) ≤ (allB ps).length := by
            have : allB ps = allB (ps.take (i + 1)) ++ allB (ps.drop (i + 1)) := by
              unfold allB; rw [← List.flatMap_append, List.take_append_drop]
            rw [this, List.length_append]; omega
          have hpl := pcB_len (n := p.n) (s := p.s) (pcMay_w hm)
          have hss : p.w = 0 → pcSize p.w p.s = p.s.size := fun h0 => by unfold pcSize; rw [if_pos h0]
          rw [htk, List.length_append] at hle
          repeat' (first
            | (show evG _ _ _ _ _ _ _; first | refine G_add64 ?_ | refine G_pure0 ?_ | refine G_load ?_ | refine evG_nil ?_ | refine G_br ?_ ?_ | refine G_pure ?_ | refine G_store ?_ | refine G_loadV ?_ | refine G_loadV0 ?_ | refine G_loadV2 ?_ | refine G_index ?_ | refine G_indexA ?_ | refine G_conv64 ?_ | refine G_conv8 ?_ | refine G_convu ?_ | refine G_conv ?_ | refine G_cat ?_ | refine G_neq_agg ?_ | refine G_bytesP ?_ | refine G_bytesstr ?_ | refine G_call ?_ | refine G_call0 ?_ | refine G_callv ?_ | refine G_callv0 ?_ | (refine G_alloc ?_; intro _) | (refine G_strrow ?_; intro _ _) | (refine G_indexV ?_; intro _ _ hA; subst hA))
            | (show spl _ _ _; first | refine spl_no rfl ?_ | refine spl_yes rfl ?_)
            | (show evC _ _ _ _ _; first | refine c_seq ?_ | refine c_region (by exact rfl) ?_ | refine c_cond (by exact rfl) ?_ | refine c_ret ?_ | refine c_skip ?_ | refine c_block ?_ | refine c_exit ?_ | refine std ?_)
            | (show Br _ _ _; first | refine Br.t rfl ?_ | refine Br.f rfl ?_ | refine brs ?_ | (first | refine Br.mkN (fun h => ?_) (fun h => ?_) | refine Br.mk (fun h => ?_) (fun h => ?_)) <;> (try (first | contradiction | (exfalso; omega) | (exfalso; simp at h; done))))
            | refine stp ?_
            | (show CallT _ 98 _ _ _; refine CA (h := put_ok (pcMay_w hm) (by omega) ?_)))
          exact turn (n2 - 1) ⟨i + 1, by omega, by rw [htk], hf, rfl, rfl, rfl, rfl, rfl, trivial⟩
        · rename_i h1; exact absurd hf h1
      · obtain rfl : i = j := by omega
        rw [List.take_of_length_le (by omega)]
        refine evC_ex fun A => evC_ex fun c => evC_sep ?_
        repeat' (first
          | (show evG _ _ _ _ _ _ _; first | refine G_add64 ?_ | refine G_pure0 ?_ | refine G_load ?_ | refine evG_nil ?_ | refine G_br ?_ ?_ | refine G_pure ?_ | refine G_store ?_ | refine G_loadV ?_ | refine G_loadV0 ?_ | refine G_loadV2 ?_ | refine G_index ?_ | refine G_indexA ?_ | refine G_conv64 ?_ | refine G_conv8 ?_ | refine G_convu ?_ | refine G_conv ?_ | refine G_cat ?_ | refine G_neq_agg ?_ | refine G_bytesP ?_ | refine G_bytesstr ?_ | refine G_call ?_ | refine G_call0 ?_ | refine G_callv ?_ | refine G_callv0 ?_ | (refine G_alloc ?_; intro _) | (refine G_strrow ?_; intro _ _) | (refine G_indexV ?_; intro _ _ hA; subst hA))
          | (show spl _ _ _; first | refine spl_no rfl ?_ | refine spl_yes rfl ?_)
          | (show evC _ _ _ _ _; first | refine c_seq ?_ | refine c_region (by exact rfl) ?_ | refine c_cond (by exact rfl) ?_ | refine c_ret ?_ | refine c_skip ?_ | refine c_block ?_ | refine c_exit ?_ | refine std ?_)
          | (show Br _ _ _; first | refine Br.t rfl ?_ | refine Br.f rfl ?_ | refine brs ?_ | (first | refine Br.mkN (fun h => ?_) (fun h => ?_) | refine Br.mk (fun h => ?_) (fun h => ?_)) <;> (try (first | contradiction | (exfalso; omega) | (exfalso; simp at h; done))))
          | refine stp ?_)
        (show retC _ _ _ _ _ _; refine RETC ?_; exact ret_done (hK))
end Go.Proofs.Ythoagholmkiknaa

