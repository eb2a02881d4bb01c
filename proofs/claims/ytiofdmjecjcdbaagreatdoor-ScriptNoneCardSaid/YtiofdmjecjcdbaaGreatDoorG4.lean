/- Script: the library's parts are ours: lemmas; each with the conditions that it states. -/
import Derived.Test.YtiofdmjecjcdbaaGreatDoorGy
import Derived.Lib.SplitLaws
import Derived.Lib.Join
import Derived.Lib.IndexBytes
import Derived.Lib.IndexLaws

namespace Go.Proofs.YtiofdmjecjcdbaaGreatDoor
open Go Go.Proofs Go.Sl
set_option linter.unusedSimpArgs false
set_option linter.unusedVariables false
/-- each part but the last with the byte behind it -/
def aftL (c : UInt8) : List (List UInt8) → List (List UInt8)
  | [] => []
  | [p] => [p]
  | p :: q :: r => (p ++ [c]) :: aftL c (q :: r)
theorem aftL_cons {c : UInt8} {p : List UInt8} {q : List (List UInt8)} (h : q ≠ []) : aftL c (p :: q) = (p ++ [c]) :: aftL c q := by
  cases q with
  | nil => exact absurd rfl h
  | cons a b => rfl
theorem aftL_len {c : UInt8} : ∀ l : List (List UInt8), (aftL c l).length = l.length
  | [] => rfl
  | [p] => rfl
  | p :: q :: r => by rw [aftL_cons (by simp), List.length_cons, aftL_len (q :: r)]; rfl
theorem no_of_idx {l : List UInt8} {c : UInt8} (h : ∀ k : Nat, l[k]? ≠ some c) : ∀ b ∈ l, b ≠ c := fun b hb e => by
  obtain ⟨k, hk⟩ := List.getElem?_of_mem hb
  exact h k (by rw [hk, e])
theorem cut_at {l : List UInt8} {c : UInt8} {o : Nat} (h1 : l[o]? = some c) : l = l.take o ++ c :: l.drop (o + 1) := by
  have hl := (List.getElem?_eq_some_iff.1 h1)
  obtain ⟨hlt, he⟩ := hl
  rw [← he, List.getElem_cons_drop hlt, List.take_append_drop]
theorem take_no {l : List UInt8} {c : UInt8} {o : Nat} (h : ∀ k : Nat, k < o → l[k]? ≠ some c) : ∀ b ∈ l.take o, b ≠ c := fun b hb e => by
  obtain ⟨k, hk⟩ := List.getElem?_of_mem hb
  have hlt := (List.getElem?_eq_some_iff.1 hk).1
  rw [List.length_take] at hlt
  rw [List.getElem?_take_of_lt (by omega)] at hk
  exact h k (by omega) (by rw [hk, e])
theorem splitK_spl {c : UInt8} : ∀ (n : Nat) (l : List UInt8), l.count c = n → Lib.splitK [c] 0 n l = spl1 c l ∧ Lib.splitK [c] 1 n l = aftL c (spl1 c l)
  | 0, l, h => by
    have hn : ∀ b ∈ l, b ≠ c := fun b hb e => by
      subst e
      exact absurd (List.count_eq_zero.1 h) (fun h => h hb)
    rw [spl1_one hn]
    exact ⟨rfl, rfl⟩
  | n + 1, l, h => by
    have hi := Lib.index_one l c
    rcases (show Lib.indexByte l c < 0 ∨ 0 ≤ Lib.indexByte l c by omega) with hneg | hpos
    · have h1 : Lib.indexByte l c = -1 := by have := Lib.indexByte_ge l c; omega
      have := no_of_idx (Lib.indexByte_none h1)
      rw [List.count_eq_zero.2 fun hm => this c hm rfl] at h
      cases h
    · obtain ⟨o, ho⟩ := Int.eq_ofNat_of_zero_le hpos
      obtain ⟨g1, g2⟩ := Lib.indexByte_some ho
      have hc := cut_at g1
      have hno := take_no g2
      have hcnt : (l.drop (o + 1)).count c = n := by
        have : l.count c = (l.take o).count c + ((c :: l.drop (o + 1)).count c) := by rw [← List.count_append, ← hc]
        rw [List.count_eq_zero.2 fun hm => hno c hm rfl, List.count_cons_self] at this
        omega
      obtain ⟨k1, k2⟩ := splitK_spl n (l.drop (o + 1)) hcnt
      have hs : spl1 c l = l.take o :: spl1 c (l.drop (o + 1)) := by
        conv => lhs; rw [hc]
        exact spl1_app _ hno
      have hb : ¬ (Lib.index l [c] == -1) = true := fun e => by have := beq_iff_eq.1 e; omega
      have ht : (Lib.index l [c]).toNat = o := by omega
      constructor
      · rw [Lib.splitK, if_neg hb, ht, hs]
        show l.take (o + 0) :: Lib.splitK [c] 0 n (l.drop (o + 1)) = _
        rw [k1, Nat.add_zero]
      · rw [Lib.splitK, if_neg hb, ht, hs, aftL_cons (spl1_ne _ _)]
        show l.take (o + 1) :: Lib.splitK [c] 1 n (l.drop (o + 1)) = _
        rw [k2, List.take_add_one, g1]
        rfl
theorem spl1_count {c : UInt8} : ∀ l : List UInt8, (spl1 c l).length = l.count c + 1
  | [] => rfl
  | x :: l => by
    have ih := spl1_count (c := c) l
    unfold spl1
    by_cases h : x = c
    · subst h
      rw [if_pos rfl, List.length_cons, ih, List.count_cons_self]
    · rw [if_neg h]
      rw [List.count_cons_of_ne (by simpa using h)]
      cases he : spl1 c l with
      | nil => exact absurd he (spl1_ne c l)
      | cons p q => rw [he] at ih; exact ih
theorem spl1_le {c : UInt8} (l : List UInt8) : (spl1 c l).length ≤ l.length + 1 := by
  rw [spl1_count]; have := List.count_le_length (a := c) (l := l); omega
/-- a list of texts out of a list of lists of bytes -/
theorem map_bq {ss : List ByteArray} {ls : List (List UInt8)} (h : ss.map (fun s => s.data.toList) = ls) : ss = ls.map bq := by
  subst h
  rw [List.map_map]
  exact (List.map_id'' (fun s => bq_data s) ss).symm
theorem splitB_spl (c : UInt8) (s : ByteArray) : Lib.splitB ⟨#[c]⟩ 0 (s.data.toList.count c) s = (spl1 c s.data.toList).map bq :=
  map_bq (by rw [Lib.splitB_data]; exact (splitK_spl _ _ rfl).1)
theorem splitB_aft (c : UInt8) (s : ByteArray) : Lib.splitB ⟨#[c]⟩ 1 (s.data.toList.count c) s = (aftL c (spl1 c s.data.toList)).map bq :=
  map_bq (by rw [Lib.splitB_data]; exact (splitK_spl _ _ rfl).2)
theorem join_joi (c : UInt8) : ∀ ls : List (List UInt8), Lib.join ls [c] = joi c ls
  | [] => rfl
  | [p] => Lib.join_one p [c]
  | p :: q :: r => by
    have ih := join_joi c (q :: r)
    rw [joi_cons (by simp), ← ih, Lib.join_cons, Lib.join_cons]
    simp [Lib.joinTail]
end Go.Proofs.YtiofdmjecjcdbaaGreatDoor

