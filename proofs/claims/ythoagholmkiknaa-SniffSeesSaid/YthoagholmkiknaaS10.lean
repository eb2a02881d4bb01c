/- Sniff: the law SniffSees: lemmas; each with the conditions that it states. -/
import Derived.Test.YthoagholmkiknaaFh
import Derived.Test.YthoagholmkiknaaSd
import Derived.Test.YthoagholmkiknaaS9
import Derived.Test.YthoagholmkiknaaS11

namespace Go.Proofs.Ythoagholmkiknaa
open Go Go.Proofs Go.Sl
set_option maxRecDepth 100000
set_option maxHeartbeats 4000000
set_option linter.unusedSimpArgs false
set_option linter.unusedVariables false
attribute [local irreducible] evG evC spl thenC inBlockC noGotoC CallT retC RetG TurnG CutG pt ro exP star sep pureP
attribute [local irreducible] mp mit
variable {R C : List HP} {K : Value → List HP → Prop}
section
variable {x q i0 i1 s0 s1 m : Nat} {cn0 cn1 b0 b1 it0 it1 n : Int} {t st k on w c la : Int} {e xx : Bool} {d : ByteArray} {ps : List Pr}
theorem see10n_ok (h : RightP 10 0 e d k on w xx c la n ps) (hn : 0 ≤ n ∧ n ≤ 2147483647) (hd : d.size ≤ 10000) (hc0 : -1000000000000 ≤ cn0 ∧ cn0 ≤ 1000000000000) (hb0 : -1000000000000 ≤ b0 ∧ b0 ≤ 1000000000000) (hi0 : -1000000000000 ≤ it0 ∧ it0 ≤ 1000000000000) (hK : ∀ A c, K (.slice A 0 c) (pt x [.pointer (some ⟨i0, 0, none⟩), .pointer (some ⟨i1, 0, none⟩), .slice (some ⟨s0, 0, none⟩) 1 1, .slice (some ⟨s1, 0, none⟩) 1 1, .int .i64 0, .int .i64 0, .int .i64 (cn0 + n), .int .i64 cn1, .map (some m)] 55 :: spP i1 [] 0 :: mp m [⟨1, .pointer (some ⟨q, 0, none⟩), 0⟩] 1 :: pt q [.int .i64 b0, .int .i64 b1, .int .i64 it0, .int .i64 it1, .int .i64 1, .int .i64 1] 70 :: row A c 3 siC [] :: R)) : CallT Try.prog 8 #[.pointer (some ⟨x, 0, none⟩), .int .i64 1, .string (frB 10 0 e d k on w xx c la n ps)] (pt x [.pointer (some ⟨i0, 0, none⟩), .pointer (some ⟨i1, 0, none⟩), .slice (some ⟨s0, 0, none⟩) 1 1, .slice (some ⟨s1, 0, none⟩) 1 1, .int .i64 0, .int .i64 0, .int .i64 cn0, .int .i64 cn1, .map (some m)] 55 :: spP i1 [] 0 :: mp m [⟨1, .pointer (some ⟨q, 0, none⟩), 0⟩] 1 :: pt q [.int .i64 b0, .int .i64 b1, .int .i64 it0, .int .i64 it1, .int .i64 1, .int .i64 1] 70 :: R) K := by
  have eC : nC 10 0 d n cn0 = (cn0 + n) := by simp [nC]
  have eB : nB 10 0 d n b0 = b0 := by simp [nB]
  have eI : nI 10 e d n it0 = it0 := by simp [nI]
  have eO : outW 10 e d cn0 b0 it0 = [] := by simp [outW]
  refine see10_ok h hn hd hc0 hb0 hi0 fun A c => ?_
  rw [eC, eB, eI, eO]
  exact hK A c
theorem see10bn_ok (h : RightP 10 1 e d k on w xx c la n ps) (hn : 0 ≤ n ∧ n ≤ 2147483647) (hd : d.size ≤ 10000) (hc0 : -1000000000000 ≤ cn0 ∧ cn0 ≤ 1000000000000) (hb0 : -1000000000000 ≤ b0 ∧ b0 ≤ 1000000000000) (hi0 : -1000000000000 ≤ it0 ∧ it0 ≤ 1000000000000) (hK : ∀ A c, K (.slice A 0 c) (pt x [.pointer (some ⟨i0, 0, none⟩), .pointer (some ⟨i1, 0, none⟩), .slice (some ⟨s0, 0, none⟩) 1 1, .slice (some ⟨s1, 0, none⟩) 1 1, .int .i64 0, .int .i64 0, .int .i64 cn0, .int .i64 cn1, .map (some m)] 55 :: spP i1 [] 0 :: mp m [⟨1, .pointer (some ⟨q, 0, none⟩), 0⟩] 1 :: pt q [.int .i64 (b0 + n), .int .i64 b1, .int .i64 it0, .int .i64 it1, .int .i64 1, .int .i64 1] 70 :: row A c 3 siC [] :: R)) : CallT Try.prog 8 #[.pointer (some ⟨x, 0, none⟩), .int .i64 1, .string (frB 10 1 e d k on w xx c la n ps)] (pt x [.pointer (some ⟨i0, 0, none⟩), .pointer (some ⟨i1, 0, none⟩), .slice (some ⟨s0, 0, none⟩) 1 1, .slice (some ⟨s1, 0, none⟩) 1 1, .int .i64 0, .int .i64 0, .int .i64 cn0, .int .i64 cn1, .map (some m)] 55 :: spP i1 [] 0 :: mp m [⟨1, .pointer (some ⟨q, 0, none⟩), 0⟩] 1 :: pt q [.int .i64 b0, .int .i64 b1, .int .i64 it0, .int .i64 it1, .int .i64 1, .int .i64 1] 70 :: R) K := by
  have eC : nC 10 1 d n cn0 = cn0 := by simp [nC]
  have eB : nB 10 1 d n b0 = (b0 + n) := by simp [nB]
  have eI : nI 10 e d n it0 = it0 := by simp [nI]
  have eO : outW 10 e d cn0 b0 it0 = [] := by simp [outW]
  refine see10b_ok h hn hd hc0 hb0 hi0 fun A c => ?_
  rw [eC, eB, eI, eO]
  exact hK A c
theorem see11n_ok (h : RightP 11 1 e d k on w xx c la n ps) (hn : 0 ≤ n ∧ n ≤ 2147483647) (hd : d.size ≤ 10000) (hc0 : -1000000000000 ≤ cn0 ∧ cn0 ≤ 1000000000000) (hb0 : -1000000000000 ≤ b0 ∧ b0 ≤ 1000000000000) (hi0 : -1000000000000 ≤ it0 ∧ it0 ≤ 1000000000000) (hK : ∀ A c, K (.slice A 0 c) (pt x [.pointer (some ⟨i0, 0, none⟩), .pointer (some ⟨i1, 0, none⟩), .slice (some ⟨s0, 0, none⟩) 1 1, .slice (some ⟨s1, 0, none⟩) 1 1, .int .i64 0, .int .i64 0, .int .i64 cn0, .int .i64 cn1, .map (some m)] 55 :: spP i1 [] 0 :: mp m [⟨1, .pointer (some ⟨q, 0, none⟩), 0⟩] 1 :: pt q [.int .i64 b0, .int .i64 b1, .int .i64 (it0 + n), .int .i64 it1, .int .i64 1, .int .i64 1] 70 :: row A c 3 siC [] :: R)) : CallT Try.prog 8 #[.pointer (some ⟨x, 0, none⟩), .int .i64 1, .string (frB 11 1 e d k on w xx c la n ps)] (pt x [.pointer (some ⟨i0, 0, none⟩), .pointer (some ⟨i1, 0, none⟩), .slice (some ⟨s0, 0, none⟩) 1 1, .slice (some ⟨s1, 0, none⟩) 1 1, .int .i64 0, .int .i64 0, .int .i64 cn0, .int .i64 cn1, .map (some m)] 55 :: spP i1 [] 0 :: mp m [⟨1, .pointer (some ⟨q, 0, none⟩), 0⟩] 1 :: pt q [.int .i64 b0, .int .i64 b1, .int .i64 it0, .int .i64 it1, .int .i64 1, .int .i64 1] 70 :: R) K := by
  have eC : nC 11 1 d n cn0 = cn0 := by simp [nC]
  have eB : nB 11 1 d n b0 = b0 := by simp [nB]
  have eI : nI 11 e d n it0 = (it0 + n) := by simp [nI]
  have eO : outW 11 e d cn0 b0 it0 = [] := by simp [outW]
  refine see11_ok h hn hd hc0 hb0 hi0 fun A c => ?_
  rw [eC, eB, eI, eO]
  exact hK A c
end
theorem spN_rng {a z : Int} {B j : Int} (hz : 0 ≤ z ∧ z ≤ 10000) (ha : -(3000000000 * j) ≤ a ∧ a ≤ 3000000000 * j) (hj : 1 ≤ j) : -(3000000000 * (j + 1)) ≤ spN a z ∧ spN a z ≤ 3000000000 * (j + 1) := by
  unfold spN
  split <;> omega
theorem sees_rng {t st : Int} {e : Bool} {d : ByteArray} {n cn b i j : Int} (hj : 1 ≤ j) (hd : d.size ≤ 10000) (hn : 0 ≤ n ∧ n ≤ 2147483647) (hc : -(3000000000 * j) ≤ cn ∧ cn ≤ 3000000000 * j) (hb : -(3000000000 * j) ≤ b ∧ b ≤ 3000000000 * j) (hi : -(3000000000 * j) ≤ i ∧ i ≤ 3000000000 * j) : (-(3000000000 * (j + 1)) ≤ nC t st d n cn ∧ nC t st d n cn ≤ 3000000000 * (j + 1)) ∧ (-(3000000000 * (j + 1)) ≤ nB t st d n b ∧ nB t st d n b ≤ 3000000000 * (j + 1)) ∧ (-(3000000000 * (j + 1)) ≤ nI t e d n i ∧ nI t e d n i ≤ 3000000000 * (j + 1)) := by
  have hz : (0 : Int) ≤ (d.size : Nat) ∧ ((d.size : Nat) : Int) ≤ 10000 := by omega
  have g1 := spN_rng (B := 0) hz hc hj
  have g2 := spN_rng (B := 0) hz hb hj
  have g3 := spN_rng (B := 0) (z := 1) (by omega) hi hj
  refine ⟨?_, ?_, ?_⟩
  · unfold nC; split
    · exact g1
    · split <;> omega
  · unfold nB; split
    · exact g2
    · split <;> omega
  · unfold nI; split
    · split
      · omega
      · exact g3
    · split <;> omega
/-- credits stay small -/
def rgS (j a : Int) : Prop := -(3000000000 * j) ≤ a ∧ a ≤ 3000000000 * j
theorem rrightT_ok {t st : Int} {e : Bool} {d : ByteArray} {k on w : Int} {x : Bool} {c la n : Int} {pa : Option Addr} {pn pc : Nat} {ps : List Pr} (h : chkB t st e d k on w x c la n ps = true) (hv : View C pa prC ps) (hn : ps.length = pn) (hn2 : pn < 1000000000000000) (hK : K (.bool true) C) : CallT Try.prog 14 #[.agg #[.int .i64 t, .int .i64 st, .bool e, .string d, .int .i64 k, .int .i64 on, .int .i64 w, .bool x, .int .i64 c, .int .i64 la, .int .i64 n, .slice pa pn pc]] C K := rright3_ok hv hn hn2 (by rw [h]; exact hK)
theorem rrightF_ok {t st : Int} {e : Bool} {d : ByteArray} {k on w : Int} {x : Bool} {c la n : Int} {pa : Option Addr} {pn pc : Nat} {ps : List Pr} (h : chkB t st e d k on w x c la n ps = false) (hv : View C pa prC ps) (hn : ps.length = pn) (hn2 : pn < 1000000000000000) (hK : K (.bool false) C) : CallT Try.prog 14 #[.agg #[.int .i64 t, .int .i64 st, .bool e, .string d, .int .i64 k, .int .i64 on, .int .i64 w, .bool x, .int .i64 c, .int .i64 la, .int .i64 n, .slice pa pn pc]] C K := rright3_ok hv hn hn2 (by rw [h]; exact hK)
theorem ints0_ok {A B : Option Addr} {c1 c2 : Nat} (hv : View C A siC []) (hw : View C B siC []) (hK : K (.bool true) C) : CallT Try.prog 9 #[.slice A 0 c1, .slice B 0 c2] C K := ints_ok (l := []) hv hw (by decide) hK

set_option maxHeartbeats 40000000 in
theorem sniffSees_ok {A : Option Addr} {n c : Nat} {xs : List Fm} (hv : View C A fmC xs) (hps : ∀ y ∈ xs, FmV C y) (hpn : ∀ y ∈ xs, y.pn < 1000000000000000) (hn : xs.length = n) (hn2 : n < 1000000000000000) (hK : ∀ C, K (.bool true) C) : CallT Try.prog 4 #[.slice A n c] C K := by
  subst hn
  refine callT_intro mixed Try.func4 rfl (by decide) (by decide +kernel) (by exact Nat.le_of_ble_eq_true rfl) ?_
  repeat' (first
    | (show evG _ _ _ _ _ _ _; first | refine G_add64 ?_ | refine G_pure0 ?_ | refine G_load ?_ | refine evG_nil ?_ | refine G_br ?_ ?_ | refine G_field ?_ | refine G_pure ?_ | refine G_store ?_ | refine G_loadV ?_ | refine G_loadV0 ?_ | refine G_loadV2 ?_ | refine G_not ?_ | refine G_index ?_ | refine G_indexA ?_ | refine G_build ?_ | refine G_cat ?_ | refine G_eql_agg ?_ | refine G_neq_agg ?_ | refine G_call ?_ | refine G_call0 ?_ | (refine G_box ?_; intro _) | (refine G_alloc ?_; intro _) | (refine G_indexV ?_; intro _ _ hA; subst hA) | refine G_skip ?_ | refine G_skip0 ?_)
    | (show spl _ _ _; first | refine spl_no rfl ?_ | refine spl_yes rfl ?_)
    | (show evC _ _ _ _ _; first | refine c_seq ?_ | refine c_region (by exact rfl) ?_ | refine c_cond (by exact rfl) ?_ | refine c_ret ?_ | refine c_skip ?_ | refine c_block ?_ | refine c_exit ?_ | (show evC _ (.region 21 _ true) _ _ _; refine c_drawB (bl := [0, 0, 3, 7, 15, 31, 63, 31, 159, 415, 927, 2047, 4095, 8191, 16383, 32767, 16383, 81919, 212991, 475135, 1048575, 2097151, 4194303, 8388607, 16777215, 8388607, 41943039, 109051903, 243269631, 536870911, 1073741823]) (br := [1073741823, 536870911, 243269631, 109051903, 41943039, 8388607, 16777215, 8388607, 4194303, 2097151, 1048575, 475135, 212991, 81919, 16383, 32767, 16383, 8191, 4095, 2047, 927, 415, 159, 31, 63, 31, 15, 7, 3, 0, 0]) (l := [(0, 0), (1, 0), (2, 1), (3, 0), (4, 0), (5, 0), (6, 1), (7, 1), (8, 1), (9, 1), (10, 1), (11, 0), (12, 0), (13, 0), (14, 0), (15, 1), (16, 1), (17, 1), (18, 1), (19, 1), (20, 0), (21, 0), (22, 0), (23, 0), (24, 1), (25, 1), (26, 1), (27, 1), (28, 1), (29, 0), (30, 0)]) (by decide +kernel) (by decide +kernel) (by decide +kernel) (by decide +kernel) (by exact rfl) ?_) | refine std ?_)
    | (show Br _ _ _; first | refine Br.t rfl ?_ | refine Br.f rfl ?_ | refine brs ?_ | (first | refine Br.mkN (fun h => ?_) (fun h => ?_) | refine Br.mk (fun h => ?_) (fun h => ?_)) <;> (try (first | contradiction | (exfalso; omega) | (exfalso; simp at h; done))))
    | refine stp ?_
    | (show CallT _ 7 _ _ _; refine CA (h := snew33_ok (fun x i0 i1 s0 s1 m => ?_)))
    | (show CallT _ 6 _ _ _; refine CA (h := awake33_ok ?_))
    | (show CallT _ 12 _ _ _; refine CA (h := rlay3_ok (ps := []) right_open view_nil rfl ?_))
    | (show CallT _ 8 _ _ _; refine CA (h := seeO_ok (fun q A9 c9 => ?_))))
  rename_i p
  refine LOOP (fun kk a C' => ∃ (j : Nat) (cn0 b0 it0 : Int), j + kk = xs.length ∧ rgS ((j : Int) + 1) cn0 ∧ rgS ((j : Int) + 1) b0 ∧ rgS ((j : Int) + 1) it0 ∧ Agree a [(0, .slice A xs.length c), (2, .bool false), (3, .pointer (some ⟨x, 0, none⟩)), (4, .pointer (some ⟨p, 0, none⟩)), (5, .int .i64 j)] ∧ C' = pt x [.pointer (some ⟨i0, 0, none⟩), .pointer (some ⟨i1, 0, none⟩), .slice (some ⟨s0, 0, none⟩) 1 1, .slice (some ⟨s1, 0, none⟩) 1 1, .int .i64 0, .int .i64 0, .int .i64 cn0, .int .i64 512, .map (some m)] 55 :: spP i0 [] 0 :: spP i1 [] 0 :: pt s0 [.int .i64 64, .int .i64 8, .int .i64 4] 58 :: pt s1 [.int .i64 64, .int .i64 8, .int .i64 4] 58 :: mp m [⟨1, .pointer (some ⟨q, 0, none⟩), 0⟩] 1 :: pt q [.int .i64 b0, .int .i64 64, .int .i64 it0, .int .i64 0, .int .i64 1, .int .i64 1] 70 :: pt p [.int .i64 cn0, .int .i64 b0, .int .i64 it0] 41 :: C) xs.length (turn xs.length ⟨0, 512, 64, 0, by omega, by unfold rgS; omega, by unfold rgS; omega, by unfold rgS; omega, ⟨rfl, rfl, rfl, rfl, rfl, trivial⟩, rfl⟩ (by omega)) ?_
  rintro kk a C' ⟨j, cn0, b0, it0, hj, hg1, hg2, hg3, ha, rfl⟩
  refine c_fr _ ha ?_
  simp only [updL]
  by_cases hlt : j < xs.length ∧ j < 60
  · obtain ⟨hlt, h60⟩ := hlt
    obtain ⟨y, hy, hdr⟩ := at_drop (l := xs) (j := j) (by omega)
    have hm := List.mem_of_getElem? hy
    have hp := hps y hm
    have hpy := hpn y hm
    obtain ⟨t, st, e, d, k, on, w, xx, c', la, n, pa, pn, pc, ps⟩ := y
    obtain ⟨hpv, hpl⟩ := hp
    have hpv : View C pa prC ps := hpv
    have hpl : ps.length = pn := hpl
    have hpy : pn < 1000000000000000 := hpy
    have hc1 : -1000000000000 ≤ cn0 ∧ cn0 ≤ 1000000000000 := by unfold rgS at hg1; omega
    have hb1 : -1000000000000 ≤ b0 ∧ b0 ≤ 1000000000000 := by unfold rgS at hg2; omega
    have hi1 : -1000000000000 ≤ it0 ∧ it0 ≤ 1000000000000 := by unfold rgS at hg3; omega
    cases hb : chkB t st e d k on w xx c' la n ps
    · repeat' (first
        | (show evG _ _ _ _ _ _ _; first | refine G_add64 ?_ | refine G_pure0 ?_ | refine G_load ?_ | refine evG_nil ?_ | refine G_br ?_ ?_ | refine G_field ?_ | refine G_pure ?_ | refine G_store ?_ | refine G_loadV ?_ | refine G_loadV0 ?_ | refine G_loadV2 ?_ | refine G_not ?_ | refine G_index ?_ | refine G_indexA ?_ | refine G_build ?_ | refine G_cat ?_ | refine G_eql_agg ?_ | refine G_neq_agg ?_ | refine G_call ?_ | refine G_call0 ?_ | (refine G_box ?_; intro _) | (refine G_alloc ?_; intro _) | (refine G_indexV ?_; intro _ _ hA; subst hA) | refine G_skip ?_ | refine G_skip0 ?_)
        | (show spl _ _ _; first | refine spl_no rfl ?_ | refine spl_yes rfl ?_)
        | (show evC _ _ _ _ _; first | refine c_seq ?_ | refine c_region (by exact rfl) ?_ | refine c_cond (by exact rfl) ?_ | refine c_ret ?_ | refine c_skip ?_ | refine c_block ?_ | refine c_exit ?_ | (show evC _ (.region 21 _ true) _ _ _; refine c_drawB (bl := [0, 0, 3, 7, 15, 31, 63, 31, 159, 415, 927, 2047, 4095, 8191, 16383, 32767, 16383, 81919, 212991, 475135, 1048575, 2097151, 4194303, 8388607, 16777215, 8388607, 41943039, 109051903, 243269631, 536870911, 1073741823]) (br := [1073741823, 536870911, 243269631, 109051903, 41943039, 8388607, 16777215, 8388607, 4194303, 2097151, 1048575, 475135, 212991, 81919, 16383, 32767, 16383, 8191, 4095, 2047, 927, 415, 159, 31, 63, 31, 15, 7, 3, 0, 0]) (l := [(0, 0), (1, 0), (2, 1), (3, 0), (4, 0), (5, 0), (6, 1), (7, 1), (8, 1), (9, 1), (10, 1), (11, 0), (12, 0), (13, 0), (14, 0), (15, 1), (16, 1), (17, 1), (18, 1), (19, 1), (20, 0), (21, 0), (22, 0), (23, 0), (24, 1), (25, 1), (26, 1), (27, 1), (28, 1), (29, 0), (30, 0)]) (by decide +kernel) (by decide +kernel) (by decide +kernel) (by decide +kernel) (by exact rfl) ?_) | refine std ?_)
        | (show Br _ _ _; first | refine Br.t rfl ?_ | refine Br.f rfl ?_ | refine brs ?_ | (first | refine Br.mkN (fun h => ?_) (fun h => ?_) | refine Br.mk (fun h => ?_) (fun h => ?_)) <;> (try (first | contradiction | (exfalso; omega) | (exfalso; simp at h; done))))
        | refine stp ?_
        | (show CallT _ 13 _ _ _; refine CA (h := light3_ok ?_))
        | (show CallT _ 14 _ _ _; refine CA (h := rrightF_ok (ps := ps) hb (by (repeat (first | exact hpv | apply view_there))) hpl hpy ?_)))
      all_goals (show TurnG _ _ _ _; exact turn (kk - 1) ⟨j + 1, cn0, b0, it0, by omega, by unfold rgS at *; omega, by unfold rgS at *; omega, by unfold rgS at *; omega, ⟨rfl, rfl, rfl, rfl, rfl, trivial⟩, rfl⟩)
    have hR0 := (chk_iff _ _ _ _ _ _ _ _ _ _ _ _).1 hb
    have hq := hR0.1
    have hq1 := hR0.2.1
    have hq2 := hR0.2.2.1
    have hq3 := hR0.2.2.2.1
    by_cases hst : 1 < st
    · repeat' (first
        | (show evG _ _ _ _ _ _ _; first | refine G_add64 ?_ | refine G_pure0 ?_ | refine G_load ?_ | refine evG_nil ?_ | refine G_br ?_ ?_ | refine G_field ?_ | refine G_pure ?_ | refine G_store ?_ | refine G_loadV ?_ | refine G_loadV0 ?_ | refine G_loadV2 ?_ | refine G_not ?_ | refine G_index ?_ | refine G_indexA ?_ | refine G_build ?_ | refine G_cat ?_ | refine G_eql_agg ?_ | refine G_neq_agg ?_ | refine G_call ?_ | refine G_call0 ?_ | (refine G_box ?_; intro _) | (refine G_alloc ?_; intro _) | (refine G_indexV ?_; intro _ _ hA; subst hA) | refine G_skip ?_ | refine G_skip0 ?_)
        | (show spl _ _ _; first | refine spl_no rfl ?_ | refine spl_yes rfl ?_)
        | (show evC _ _ _ _ _; first | refine c_seq ?_ | refine c_region (by exact rfl) ?_ | refine c_cond (by exact rfl) ?_ | refine c_ret ?_ | refine c_skip ?_ | refine c_block ?_ | refine c_exit ?_ | (show evC _ (.region 21 _ true) _ _ _; refine c_drawB (bl := [0, 0, 3, 7, 15, 31, 63, 31, 159, 415, 927, 2047, 4095, 8191, 16383, 32767, 16383, 81919, 212991, 475135, 1048575, 2097151, 4194303, 8388607, 16777215, 8388607, 41943039, 109051903, 243269631, 536870911, 1073741823]) (br := [1073741823, 536870911, 243269631, 109051903, 41943039, 8388607, 16777215, 8388607, 4194303, 2097151, 1048575, 475135, 212991, 81919, 16383, 32767, 16383, 8191, 4095, 2047, 927, 415, 159, 31, 63, 31, 15, 7, 3, 0, 0]) (l := [(0, 0), (1, 0), (2, 1), (3, 0), (4, 0), (5, 0), (6, 1), (7, 1), (8, 1), (9, 1), (10, 1), (11, 0), (12, 0), (13, 0), (14, 0), (15, 1), (16, 1), (17, 1), (18, 1), (19, 1), (20, 0), (21, 0), (22, 0), (23, 0), (24, 1), (25, 1), (26, 1), (27, 1), (28, 1), (29, 0), (30, 0)]) (by decide +kernel) (by decide +kernel) (by decide +kernel) (by decide +kernel) (by exact rfl) ?_) | refine std ?_)
        | (show Br _ _ _; first | refine Br.t rfl ?_ | refine Br.f rfl ?_ | refine brs ?_ | (first | refine Br.mkN (fun h => ?_) (fun h => ?_) | refine Br.mk (fun h => ?_) (fun h => ?_)) <;> (try (first | contradiction | (exfalso; omega) | (exfalso; simp at h; done))))
        | refine stp ?_
        | (show CallT _ 13 _ _ _; refine CA (h := light3_ok ?_))
        | (show CallT _ 14 _ _ _; refine CA (h := rrightT_ok (ps := ps) hb (by (repeat (first | exact hpv | apply view_there))) hpl hpy ?_)))
      all_goals (show TurnG _ _ _ _; exact turn (kk - 1) ⟨j + 1, cn0, b0, it0, by omega, by unfold rgS at *; omega, by unfold rgS at *; omega, by unfold rgS at *; omega, ⟨rfl, rfl, rfl, rfl, rfl, trivial⟩, rfl⟩)
    · rcases (show (t = 0 ∧ st = 1) ∨ (t = 1 ∧ st = 1) ∨ (t = 10 ∧ st = 0) ∨ (t = 10 ∧ st = 1) ∨ (t = 11 ∧ st = 1) ∨ (2 ≤ t ∧ t ≤ 9) by omega) with ⟨rfl, rfl⟩ | ⟨rfl, rfl⟩ | ⟨rfl, rfl⟩ | ⟨rfl, rfl⟩ | ⟨rfl, rfl⟩ | ht
      · skip
        have hR := (chk_iff _ _ _ _ _ _ _ _ _ _ _ _).1 hb
        have hbare := right_bare hR (by unfold dataT; omega)
        have hn0 : 0 ≤ n ∧ n ≤ 2147483647 := ⟨hbare.2.2.2.2.2.2.2.2.2.1, hbare.2.2.2.2.2.2.2.2.2.2.1⟩
        have hd0 : d.size ≤ 10000 := by have := hR.2.2.2.2.2.2.2.2.2.2.2.2.1 (by omega); omega
        obtain ⟨hS1, hS2, hS3⟩ := sees_rng (t := 0) (st := 1) (e := e) (d := d) (n := n) (cn := cn0) (b := b0) (i := it0) (j := (j : Int) + 1) (by omega) hd0 hn0 hg1 hg2 hg3
        repeat' (first
          | (show evG _ _ _ _ _ _ _; first | refine G_add64 ?_ | refine G_pure0 ?_ | refine G_load ?_ | refine evG_nil ?_ | refine G_br ?_ ?_ | refine G_field ?_ | refine G_pure ?_ | refine G_store ?_ | refine G_loadV ?_ | refine G_loadV0 ?_ | refine G_loadV2 ?_ | refine G_not ?_ | refine G_index ?_ | refine G_indexA ?_ | refine G_build ?_ | refine G_cat ?_ | refine G_eql_agg ?_ | refine G_neq_agg ?_ | refine G_call ?_ | refine G_call0 ?_ | (refine G_box ?_; intro _) | (refine G_alloc ?_; intro _) | (refine G_indexV ?_; intro _ _ hA; subst hA) | refine G_skip ?_ | refine G_skip0 ?_)
          | (show spl _ _ _; first | refine spl_no rfl ?_ | refine spl_yes rfl ?_)
          | (show evC _ _ _ _ _; first | refine c_seq ?_ | refine c_region (by exact rfl) ?_ | refine c_cond (by exact rfl) ?_ | refine c_ret ?_ | refine c_skip ?_ | refine c_block ?_ | refine c_exit ?_ | (show evC _ (.region 21 _ true) _ _ _; refine c_drawB (bl := [0, 0, 3, 7, 15, 31, 63, 31, 159, 415, 927, 2047, 4095, 8191, 16383, 32767, 16383, 81919, 212991, 475135, 1048575, 2097151, 4194303, 8388607, 16777215, 8388607, 41943039, 109051903, 243269631, 536870911, 1073741823]) (br := [1073741823, 536870911, 243269631, 109051903, 41943039, 8388607, 16777215, 8388607, 4194303, 2097151, 1048575, 475135, 212991, 81919, 16383, 32767, 16383, 8191, 4095, 2047, 927, 415, 159, 31, 63, 31, 15, 7, 3, 0, 0]) (l := [(0, 0), (1, 0), (2, 1), (3, 0), (4, 0), (5, 0), (6, 1), (7, 1), (8, 1), (9, 1), (10, 1), (11, 0), (12, 0), (13, 0), (14, 0), (15, 1), (16, 1), (17, 1), (18, 1), (19, 1), (20, 0), (21, 0), (22, 0), (23, 0), (24, 1), (25, 1), (26, 1), (27, 1), (28, 1), (29, 0), (30, 0)]) (by decide +kernel) (by decide +kernel) (by decide +kernel) (by decide +kernel) (by exact rfl) ?_) | refine std ?_)
          | (show Br _ _ _; first | refine Br.t rfl ?_ | refine Br.f rfl ?_ | refine brs ?_ | (first | refine Br.mkN (fun h => ?_) (fun h => ?_) | refine Br.mk (fun h => ?_) (fun h => ?_)) <;> (try (first | contradiction | (exfalso; omega) | (exfalso; simp at h; done))))
          | refine stp ?_
          | (show CallT _ 13 _ _ _; refine CA (h := light3_ok ?_))
          | (show CallT _ 14 _ _ _; refine CA (h := rrightT_ok (ps := ps) hb (by (repeat (first | exact hpv | apply view_there))) hpl hpy ?_))
          | (show CallT _ 12 _ _ _; refine CA (h := rlay3_ok (ps := ps) hR (by (repeat (first | exact hpv | apply view_there))) hpl ?_))
          | (show CallT _ 8 _ _ _; refine CA (h := see0_ok hR hn0 hd0 hc1 hb1 hi1 (fun A2 c2 => ?_)))
          | (show CallT _ 15 _ _ _; refine CA (h := bsent0_ok hd0 hc1 hb1 hi1 (fun A3 c3 => ?_)))
          | (show CallT _ 9 _ _ _; refine CA (h := ints_ok (l := outW 0 e d cn0 b0 it0) (by exact viewA) (by exact viewA) (Nat.le_trans (outW_len _ _ _ _ _ _) (by decide)) ?_))
          | (show CallT _ 11 _ _ _; refine CA (h := sbytes0_ok ?_))
          | (show CallT _ 11 _ _ _; refine CA (h := sbytes1_ok ?_))
          | (show CallT _ 17 _ _ _; refine CA (h := sitems1_ok ?_)))
        all_goals first
          | ((show TurnG _ _ _ _; exact turn (kk - 1) ⟨j + 1, (nC 0 1 d n cn0), (nB 0 1 d n b0), (nI 0 e d n it0), by omega, by unfold rgS at *; omega, by unfold rgS at *; omega, by unfold rgS at *; omega, ⟨rfl, rfl, rfl, rfl, rfl, trivial⟩, rfl⟩))
          | ((show TurnG _ _ _ _; exact turn (kk - 1) ⟨j + 1, cn0, b0, it0, by omega, by unfold rgS at *; omega, by unfold rgS at *; omega, by unfold rgS at *; omega, ⟨rfl, rfl, rfl, rfl, rfl, trivial⟩, rfl⟩))
      · skip
        have hR := (chk_iff _ _ _ _ _ _ _ _ _ _ _ _).1 hb
        have hbare := right_bare hR (by unfold dataT; omega)
        have hn0 : 0 ≤ n ∧ n ≤ 2147483647 := ⟨hbare.2.2.2.2.2.2.2.2.2.1, hbare.2.2.2.2.2.2.2.2.2.2.1⟩
        have hd0 : d.size ≤ 10000 := by have := hR.2.2.2.2.2.2.2.2.2.2.2.2.1 (by omega); omega
        obtain ⟨hS1, hS2, hS3⟩ := sees_rng (t := 1) (st := 1) (e := e) (d := d) (n := n) (cn := cn0) (b := b0) (i := it0) (j := (j : Int) + 1) (by omega) hd0 hn0 hg1 hg2 hg3
        repeat' (first
          | (show evG _ _ _ _ _ _ _; first | refine G_add64 ?_ | refine G_pure0 ?_ | refine G_load ?_ | refine evG_nil ?_ | refine G_br ?_ ?_ | refine G_field ?_ | refine G_pure ?_ | refine G_store ?_ | refine G_loadV ?_ | refine G_loadV0 ?_ | refine G_loadV2 ?_ | refine G_not ?_ | refine G_index ?_ | refine G_indexA ?_ | refine G_build ?_ | refine G_cat ?_ | refine G_eql_agg ?_ | refine G_neq_agg ?_ | refine G_call ?_ | refine G_call0 ?_ | (refine G_box ?_; intro _) | (refine G_alloc ?_; intro _) | (refine G_indexV ?_; intro _ _ hA; subst hA) | refine G_skip ?_ | refine G_skip0 ?_)
          | (show spl _ _ _; first | refine spl_no rfl ?_ | refine spl_yes rfl ?_)
          | (show evC _ _ _ _ _; first | refine c_seq ?_ | refine c_region (by exact rfl) ?_ | refine c_cond (by exact rfl) ?_ | refine c_ret ?_ | refine c_skip ?_ | refine c_block ?_ | refine c_exit ?_ | (show evC _ (.region 21 _ true) _ _ _; refine c_drawB (bl := [0, 0, 3, 7, 15, 31, 63, 31, 159, 415, 927, 2047, 4095, 8191, 16383, 32767, 16383, 81919, 212991, 475135, 1048575, 2097151, 4194303, 8388607, 16777215, 8388607, 41943039, 109051903, 243269631, 536870911, 1073741823]) (br := [1073741823, 536870911, 243269631, 109051903, 41943039, 8388607, 16777215, 8388607, 4194303, 2097151, 1048575, 475135, 212991, 81919, 16383, 32767, 16383, 8191, 4095, 2047, 927, 415, 159, 31, 63, 31, 15, 7, 3, 0, 0]) (l := [(0, 0), (1, 0), (2, 1), (3, 0), (4, 0), (5, 0), (6, 1), (7, 1), (8, 1), (9, 1), (10, 1), (11, 0), (12, 0), (13, 0), (14, 0), (15, 1), (16, 1), (17, 1), (18, 1), (19, 1), (20, 0), (21, 0), (22, 0), (23, 0), (24, 1), (25, 1), (26, 1), (27, 1), (28, 1), (29, 0), (30, 0)]) (by decide +kernel) (by decide +kernel) (by decide +kernel) (by decide +kernel) (by exact rfl) ?_) | refine std ?_)
          | (show Br _ _ _; first | refine Br.t rfl ?_ | refine Br.f rfl ?_ | refine brs ?_ | (first | refine Br.mkN (fun h => ?_) (fun h => ?_) | refine Br.mk (fun h => ?_) (fun h => ?_)) <;> (try (first | contradiction | (exfalso; omega) | (exfalso; simp at h; done))))
          | refine stp ?_
          | (show CallT _ 13 _ _ _; refine CA (h := light3_ok ?_))
          | (show CallT _ 14 _ _ _; refine CA (h := rrightT_ok (ps := ps) hb (by (repeat (first | exact hpv | apply view_there))) hpl hpy ?_))
          | (show CallT _ 12 _ _ _; refine CA (h := rlay3_ok (ps := ps) hR (by (repeat (first | exact hpv | apply view_there))) hpl ?_))
          | (show CallT _ 8 _ _ _; refine CA (h := see1_ok hR hn0 hd0 hc1 hb1 hi1 (fun A2 c2 => ?_)))
          | (show CallT _ 15 _ _ _; refine CA (h := bsent1_ok hd0 hc1 hb1 hi1 (fun A3 c3 => ?_)))
          | (show CallT _ 9 _ _ _; refine CA (h := ints_ok (l := outW 1 e d cn0 b0 it0) (by exact viewA) (by exact viewA) (Nat.le_trans (outW_len _ _ _ _ _ _) (by decide)) ?_))
          | (show CallT _ 11 _ _ _; refine CA (h := sbytes0_ok ?_))
          | (show CallT _ 11 _ _ _; refine CA (h := sbytes1_ok ?_))
          | (show CallT _ 17 _ _ _; refine CA (h := sitems1_ok ?_)))
        all_goals first
          | ((show TurnG _ _ _ _; exact turn (kk - 1) ⟨j + 1, (nC 1 1 d n cn0), (nB 1 1 d n b0), (nI 1 e d n it0), by omega, by unfold rgS at *; omega, by unfold rgS at *; omega, by unfold rgS at *; omega, ⟨rfl, rfl, rfl, rfl, rfl, trivial⟩, rfl⟩))
          | ((show TurnG _ _ _ _; exact turn (kk - 1) ⟨j + 1, cn0, b0, it0, by omega, by unfold rgS at *; omega, by unfold rgS at *; omega, by unfold rgS at *; omega, ⟨rfl, rfl, rfl, rfl, rfl, trivial⟩, rfl⟩))
      · skip
        have hR := (chk_iff _ _ _ _ _ _ _ _ _ _ _ _).1 hb
        have hbare := right_bare hR (by unfold dataT; omega)
        have hn0 : 0 ≤ n ∧ n ≤ 2147483647 := ⟨hbare.2.2.2.2.2.2.2.2.2.1, hbare.2.2.2.2.2.2.2.2.2.2.1⟩
        have hd0 : d.size ≤ 10000 := by rw [hbare.2.2.2.2.2.2.2.2.1 (by omega)]; decide
        repeat' (first
          | (show evG _ _ _ _ _ _ _; first | refine G_add64 ?_ | refine G_pure0 ?_ | refine G_load ?_ | refine evG_nil ?_ | refine G_br ?_ ?_ | refine G_field ?_ | refine G_pure ?_ | refine G_store ?_ | refine G_loadV ?_ | refine G_loadV0 ?_ | refine G_loadV2 ?_ | refine G_not ?_ | refine G_index ?_ | refine G_indexA ?_ | refine G_build ?_ | refine G_cat ?_ | refine G_eql_agg ?_ | refine G_neq_agg ?_ | refine G_call ?_ | refine G_call0 ?_ | (refine G_box ?_; intro _) | (refine G_alloc ?_; intro _) | (refine G_indexV ?_; intro _ _ hA; subst hA) | refine G_skip ?_ | refine G_skip0 ?_)
          | (show spl _ _ _; first | refine spl_no rfl ?_ | refine spl_yes rfl ?_)
          | (show evC _ _ _ _ _; first | refine c_seq ?_ | refine c_region (by exact rfl) ?_ | refine c_cond (by exact rfl) ?_ | refine c_ret ?_ | refine c_skip ?_ | refine c_block ?_ | refine c_exit ?_ | (show evC _ (.region 21 _ true) _ _ _; refine c_drawB (bl := [0, 0, 3, 7, 15, 31, 63, 31, 159, 415, 927, 2047, 4095, 8191, 16383, 32767, 16383, 81919, 212991, 475135, 1048575, 2097151, 4194303, 8388607, 16777215, 8388607, 41943039, 109051903, 243269631, 536870911, 1073741823]) (br := [1073741823, 536870911, 243269631, 109051903, 41943039, 8388607, 16777215, 8388607, 4194303, 2097151, 1048575, 475135, 212991, 81919, 16383, 32767, 16383, 8191, 4095, 2047, 927, 415, 159, 31, 63, 31, 15, 7, 3, 0, 0]) (l := [(0, 0), (1, 0), (2, 1), (3, 0), (4, 0), (5, 0), (6, 1), (7, 1), (8, 1), (9, 1), (10, 1), (11, 0), (12, 0), (13, 0), (14, 0), (15, 1), (16, 1), (17, 1), (18, 1), (19, 1), (20, 0), (21, 0), (22, 0), (23, 0), (24, 1), (25, 1), (26, 1), (27, 1), (28, 1), (29, 0), (30, 0)]) (by decide +kernel) (by decide +kernel) (by decide +kernel) (by decide +kernel) (by exact rfl) ?_) | refine std ?_)
          | (show Br _ _ _; first | refine Br.t rfl ?_ | refine Br.f rfl ?_ | refine brs ?_ | (first | refine Br.mkN (fun h => ?_) (fun h => ?_) | refine Br.mk (fun h => ?_) (fun h => ?_)) <;> (try (first | contradiction | (exfalso; omega) | (exfalso; simp at h; done))))
          | refine stp ?_
          | (show CallT _ 13 _ _ _; refine CA (h := light3_ok ?_))
          | (show CallT _ 14 _ _ _; refine CA (h := rrightT_ok (ps := ps) hb (by (repeat (first | exact hpv | apply view_there))) hpl hpy ?_))
          | (show CallT _ 12 _ _ _; refine CA (h := rlay3_ok (ps := ps) hR (by (repeat (first | exact hpv | apply view_there))) hpl ?_))
          | (show CallT _ 8 _ _ _; refine CA (h := see10n_ok hR hn0 hd0 hc1 hb1 hi1 (fun A2 c2 => ?_)))
          | (show CallT _ 16 _ _ _; refine CA (h := bgrantC_ok hn0 hc1 hb1 hi1 ?_))
          | (show CallT _ 9 _ _ _; refine CA (h := ints0_ok (by exact viewA) view_nil ?_))
          | (show CallT _ 11 _ _ _; refine CA (h := sbytes0_ok ?_))
          | (show CallT _ 11 _ _ _; refine CA (h := sbytes1_ok ?_))
          | (show CallT _ 17 _ _ _; refine CA (h := sitems1_ok ?_)))
        all_goals first
          | ((show TurnG _ _ _ _; exact turn (kk - 1) ⟨j + 1, (cn0 + n), b0, it0, by omega, by unfold rgS at *; omega, by unfold rgS at *; omega, by unfold rgS at *; omega, ⟨rfl, rfl, rfl, rfl, rfl, trivial⟩, rfl⟩))
          | ((show TurnG _ _ _ _; exact turn (kk - 1) ⟨j + 1, cn0, b0, it0, by omega, by unfold rgS at *; omega, by unfold rgS at *; omega, by unfold rgS at *; omega, ⟨rfl, rfl, rfl, rfl, rfl, trivial⟩, rfl⟩))
      · skip
        have hR := (chk_iff _ _ _ _ _ _ _ _ _ _ _ _).1 hb
        have hbare := right_bare hR (by unfold dataT; omega)
        have hn0 : 0 ≤ n ∧ n ≤ 2147483647 := ⟨hbare.2.2.2.2.2.2.2.2.2.1, hbare.2.2.2.2.2.2.2.2.2.2.1⟩
        have hd0 : d.size ≤ 10000 := by rw [hbare.2.2.2.2.2.2.2.2.1 (by omega)]; decide
        repeat' (first
          | (show evG _ _ _ _ _ _ _; first | refine G_add64 ?_ | refine G_pure0 ?_ | refine G_load ?_ | refine evG_nil ?_ | refine G_br ?_ ?_ | refine G_field ?_ | refine G_pure ?_ | refine G_store ?_ | refine G_loadV ?_ | refine G_loadV0 ?_ | refine G_loadV2 ?_ | refine G_not ?_ | refine G_index ?_ | refine G_indexA ?_ | refine G_build ?_ | refine G_cat ?_ | refine G_eql_agg ?_ | refine G_neq_agg ?_ | refine G_call ?_ | refine G_call0 ?_ | (refine G_box ?_; intro _) | (refine G_alloc ?_; intro _) | (refine G_indexV ?_; intro _ _ hA; subst hA) | refine G_skip ?_ | refine G_skip0 ?_)
          | (show spl _ _ _; first | refine spl_no rfl ?_ | refine spl_yes rfl ?_)
          | (show evC _ _ _ _ _; first | refine c_seq ?_ | refine c_region (by exact rfl) ?_ | refine c_cond (by exact rfl) ?_ | refine c_ret ?_ | refine c_skip ?_ | refine c_block ?_ | refine c_exit ?_ | (show evC _ (.region 21 _ true) _ _ _; refine c_drawB (bl := [0, 0, 3, 7, 15, 31, 63, 31, 159, 415, 927, 2047, 4095, 8191, 16383, 32767, 16383, 81919, 212991, 475135, 1048575, 2097151, 4194303, 8388607, 16777215, 8388607, 41943039, 109051903, 243269631, 536870911, 1073741823]) (br := [1073741823, 536870911, 243269631, 109051903, 41943039, 8388607, 16777215, 8388607, 4194303, 2097151, 1048575, 475135, 212991, 81919, 16383, 32767, 16383, 8191, 4095, 2047, 927, 415, 159, 31, 63, 31, 15, 7, 3, 0, 0]) (l := [(0, 0), (1, 0), (2, 1), (3, 0), (4, 0), (5, 0), (6, 1), (7, 1), (8, 1), (9, 1), (10, 1), (11, 0), (12, 0), (13, 0), (14, 0), (15, 1), (16, 1), (17, 1), (18, 1), (19, 1), (20, 0), (21, 0), (22, 0), (23, 0), (24, 1), (25, 1), (26, 1), (27, 1), (28, 1), (29, 0), (30, 0)]) (by decide +kernel) (by decide +kernel) (by decide +kernel) (by decide +kernel) (by exact rfl) ?_) | refine std ?_)
          | (show Br _ _ _; first | refine Br.t rfl ?_ | refine Br.f rfl ?_ | refine brs ?_ | (first | refine Br.mkN (fun h => ?_) (fun h => ?_) | refine Br.mk (fun h => ?_) (fun h => ?_)) <;> (try (first | contradiction | (exfalso; omega) | (exfalso; simp at h; done))))
          | refine stp ?_
          | (show CallT _ 13 _ _ _; refine CA (h := light3_ok ?_))
          | (show CallT _ 14 _ _ _; refine CA (h := rrightT_ok (ps := ps) hb (by (repeat (first | exact hpv | apply view_there))) hpl hpy ?_))
          | (show CallT _ 12 _ _ _; refine CA (h := rlay3_ok (ps := ps) hR (by (repeat (first | exact hpv | apply view_there))) hpl ?_))
          | (show CallT _ 8 _ _ _; refine CA (h := see10bn_ok hR hn0 hd0 hc1 hb1 hi1 (fun A2 c2 => ?_)))
          | (show CallT _ 16 _ _ _; refine CA (h := bgrantB_ok hn0 hc1 hb1 hi1 ?_))
          | (show CallT _ 9 _ _ _; refine CA (h := ints0_ok (by exact viewA) view_nil ?_))
          | (show CallT _ 11 _ _ _; refine CA (h := sbytes0_ok ?_))
          | (show CallT _ 11 _ _ _; refine CA (h := sbytes1_ok ?_))
          | (show CallT _ 17 _ _ _; refine CA (h := sitems1_ok ?_)))
        all_goals first
          | ((show TurnG _ _ _ _; exact turn (kk - 1) ⟨j + 1, cn0, (b0 + n), it0, by omega, by unfold rgS at *; omega, by unfold rgS at *; omega, by unfold rgS at *; omega, ⟨rfl, rfl, rfl, rfl, rfl, trivial⟩, rfl⟩))
          | ((show TurnG _ _ _ _; exact turn (kk - 1) ⟨j + 1, cn0, b0, it0, by omega, by unfold rgS at *; omega, by unfold rgS at *; omega, by unfold rgS at *; omega, ⟨rfl, rfl, rfl, rfl, rfl, trivial⟩, rfl⟩))
      · skip
        have hR := (chk_iff _ _ _ _ _ _ _ _ _ _ _ _).1 hb
        have hbare := right_bare hR (by unfold dataT; omega)
        have hn0 : 0 ≤ n ∧ n ≤ 2147483647 := ⟨hbare.2.2.2.2.2.2.2.2.2.1, hbare.2.2.2.2.2.2.2.2.2.2.1⟩
        have hd0 : d.size ≤ 10000 := by rw [hbare.2.2.2.2.2.2.2.2.1 (by omega)]; decide
        repeat' (first
          | (show evG _ _ _ _ _ _ _; first | refine G_add64 ?_ | refine G_pure0 ?_ | refine G_load ?_ | refine evG_nil ?_ | refine G_br ?_ ?_ | refine G_field ?_ | refine G_pure ?_ | refine G_store ?_ | refine G_loadV ?_ | refine G_loadV0 ?_ | refine G_loadV2 ?_ | refine G_not ?_ | refine G_index ?_ | refine G_indexA ?_ | refine G_build ?_ | refine G_cat ?_ | refine G_eql_agg ?_ | refine G_neq_agg ?_ | refine G_call ?_ | refine G_call0 ?_ | (refine G_box ?_; intro _) | (refine G_alloc ?_; intro _) | (refine G_indexV ?_; intro _ _ hA; subst hA) | refine G_skip ?_ | refine G_skip0 ?_)
          | (show spl _ _ _; first | refine spl_no rfl ?_ | refine spl_yes rfl ?_)
          | (show evC _ _ _ _ _; first | refine c_seq ?_ | refine c_region (by exact rfl) ?_ | refine c_cond (by exact rfl) ?_ | refine c_ret ?_ | refine c_skip ?_ | refine c_block ?_ | refine c_exit ?_ | (show evC _ (.region 21 _ true) _ _ _; refine c_drawB (bl := [0, 0, 3, 7, 15, 31, 63, 31, 159, 415, 927, 2047, 4095, 8191, 16383, 32767, 16383, 81919, 212991, 475135, 1048575, 2097151, 4194303, 8388607, 16777215, 8388607, 41943039, 109051903, 243269631, 536870911, 1073741823]) (br := [1073741823, 536870911, 243269631, 109051903, 41943039, 8388607, 16777215, 8388607, 4194303, 2097151, 1048575, 475135, 212991, 81919, 16383, 32767, 16383, 8191, 4095, 2047, 927, 415, 159, 31, 63, 31, 15, 7, 3, 0, 0]) (l := [(0, 0), (1, 0), (2, 1), (3, 0), (4, 0), (5, 0), (6, 1), (7, 1), (8, 1), (9, 1), (10, 1), (11, 0), (12, 0), (13, 0), (14, 0), (15, 1), (16, 1), (17, 1), (18, 1), (19, 1), (20, 0), (21, 0), (22, 0), (23, 0), (24, 1), (25, 1), (26, 1), (27, 1), (28, 1), (29, 0), (30, 0)]) (by decide +kernel) (by decide +kernel) (by decide +kernel) (by decide +kernel) (by exact rfl) ?_) | refine std ?_)
          | (show Br _ _ _; first | refine Br.t rfl ?_ | refine Br.f rfl ?_ | refine brs ?_ | (first | refine Br.mkN (fun h => ?_) (fun h => ?_) | refine Br.mk (fun h => ?_) (fun h => ?_)) <;> (try (first | contradiction | (exfalso; omega) | (exfalso; simp at h; done))))
          | refine stp ?_
          | (show CallT _ 13 _ _ _; refine CA (h := light3_ok ?_))
          | (show CallT _ 14 _ _ _; refine CA (h := rrightT_ok (ps := ps) hb (by (repeat (first | exact hpv | apply view_there))) hpl hpy ?_))
          | (show CallT _ 12 _ _ _; refine CA (h := rlay3_ok (ps := ps) hR (by (repeat (first | exact hpv | apply view_there))) hpl ?_))
          | (show CallT _ 8 _ _ _; refine CA (h := see11n_ok hR hn0 hd0 hc1 hb1 hi1 (fun A2 c2 => ?_)))
          | (show CallT _ 16 _ _ _; refine CA (h := bgrantI_ok hn0 hc1 hb1 hi1 ?_))
          | (show CallT _ 9 _ _ _; refine CA (h := ints0_ok (by exact viewA) view_nil ?_))
          | (show CallT _ 11 _ _ _; refine CA (h := sbytes0_ok ?_))
          | (show CallT _ 11 _ _ _; refine CA (h := sbytes1_ok ?_))
          | (show CallT _ 17 _ _ _; refine CA (h := sitems1_ok ?_)))
        all_goals first
          | ((show TurnG _ _ _ _; exact turn (kk - 1) ⟨j + 1, cn0, b0, (it0 + n), by omega, by unfold rgS at *; omega, by unfold rgS at *; omega, by unfold rgS at *; omega, ⟨rfl, rfl, rfl, rfl, rfl, trivial⟩, rfl⟩))
          | ((show TurnG _ _ _ _; exact turn (kk - 1) ⟨j + 1, cn0, b0, it0, by omega, by unfold rgS at *; omega, by unfold rgS at *; omega, by unfold rgS at *; omega, ⟨rfl, rfl, rfl, rfl, rfl, trivial⟩, rfl⟩))
      · skip
        have hR := (chk_iff _ _ _ _ _ _ _ _ _ _ _ _).1 hb
        repeat' (first
          | (show evG _ _ _ _ _ _ _; first | refine G_add64 ?_ | refine G_pure0 ?_ | refine G_load ?_ | refine evG_nil ?_ | refine G_br ?_ ?_ | refine G_field ?_ | refine G_pure ?_ | refine G_store ?_ | refine G_loadV ?_ | refine G_loadV0 ?_ | refine G_loadV2 ?_ | refine G_not ?_ | refine G_index ?_ | refine G_indexA ?_ | refine G_build ?_ | refine G_cat ?_ | refine G_eql_agg ?_ | refine G_neq_agg ?_ | refine G_call ?_ | refine G_call0 ?_ | (refine G_box ?_; intro _) | (refine G_alloc ?_; intro _) | (refine G_indexV ?_; intro _ _ hA; subst hA) | refine G_skip ?_ | refine G_skip0 ?_)
          | (show spl _ _ _; first | refine spl_no rfl ?_ | refine spl_yes rfl ?_)
          | (show evC _ _ _ _ _; first | refine c_seq ?_ | refine c_region (by exact rfl) ?_ | refine c_cond (by exact rfl) ?_ | refine c_ret ?_ | refine c_skip ?_ | refine c_block ?_ | refine c_exit ?_ | (show evC _ (.region 21 _ true) _ _ _; refine c_drawB (bl := [0, 0, 3, 7, 15, 31, 63, 31, 159, 415, 927, 2047, 4095, 8191, 16383, 32767, 16383, 81919, 212991, 475135, 1048575, 2097151, 4194303, 8388607, 16777215, 8388607, 41943039, 109051903, 243269631, 536870911, 1073741823]) (br := [1073741823, 536870911, 243269631, 109051903, 41943039, 8388607, 16777215, 8388607, 4194303, 2097151, 1048575, 475135, 212991, 81919, 16383, 32767, 16383, 8191, 4095, 2047, 927, 415, 159, 31, 63, 31, 15, 7, 3, 0, 0]) (l := [(0, 0), (1, 0), (2, 1), (3, 0), (4, 0), (5, 0), (6, 1), (7, 1), (8, 1), (9, 1), (10, 1), (11, 0), (12, 0), (13, 0), (14, 0), (15, 1), (16, 1), (17, 1), (18, 1), (19, 1), (20, 0), (21, 0), (22, 0), (23, 0), (24, 1), (25, 1), (26, 1), (27, 1), (28, 1), (29, 0), (30, 0)]) (by decide +kernel) (by decide +kernel) (by decide +kernel) (by decide +kernel) (by exact rfl) ?_) | refine std ?_)
          | (show Br _ _ _; first | refine Br.t rfl ?_ | refine Br.f rfl ?_ | refine brs ?_ | (first | refine Br.mkN (fun h => ?_) (fun h => ?_) | refine Br.mk (fun h => ?_) (fun h => ?_)) <;> (try (first | contradiction | (exfalso; omega) | (exfalso; simp at h; done))))
          | refine stp ?_
          | (show CallT _ 13 _ _ _; refine CA (h := light3_ok ?_))
          | (show CallT _ 14 _ _ _; refine CA (h := rrightT_ok (ps := ps) hb (by (repeat (first | exact hpv | apply view_there))) hpl hpy ?_))
          | (show CallT _ 9 _ _ _; refine CA (h := ints0_ok view_nil view_nil ?_))
          | (show CallT _ 11 _ _ _; refine CA (h := sbytes0_ok ?_))
          | (show CallT _ 11 _ _ _; refine CA (h := sbytes1_ok ?_))
          | (show CallT _ 17 _ _ _; refine CA (h := sitems1_ok ?_)))
        all_goals first
          | ((show TurnG _ _ _ _; exact turn (kk - 1) ⟨j + 1, cn0, b0, it0, by omega, by unfold rgS at *; omega, by unfold rgS at *; omega, by unfold rgS at *; omega, ⟨rfl, rfl, rfl, rfl, rfl, trivial⟩, rfl⟩))
          | ((show TurnG _ _ _ _; exact turn (kk - 1) ⟨j + 1, cn0, b0, it0, by omega, by unfold rgS at *; omega, by unfold rgS at *; omega, by unfold rgS at *; omega, ⟨rfl, rfl, rfl, rfl, rfl, trivial⟩, rfl⟩))
  · repeat' (first
      | (show evG _ _ _ _ _ _ _; first | refine G_add64 ?_ | refine G_pure0 ?_ | refine G_load ?_ | refine evG_nil ?_ | refine G_br ?_ ?_ | refine G_field ?_ | refine G_pure ?_ | refine G_store ?_ | refine G_loadV ?_ | refine G_loadV0 ?_ | refine G_loadV2 ?_ | refine G_not ?_ | refine G_index ?_ | refine G_indexA ?_ | refine G_build ?_ | refine G_cat ?_ | refine G_eql_agg ?_ | refine G_neq_agg ?_ | refine G_call ?_ | refine G_call0 ?_ | (refine G_box ?_; intro _) | (refine G_alloc ?_; intro _) | (refine G_indexV ?_; intro _ _ hA; subst hA) | refine G_skip ?_ | refine G_skip0 ?_)
      | (show spl _ _ _; first | refine spl_no rfl ?_ | refine spl_yes rfl ?_)
      | (show evC _ _ _ _ _; first | refine c_seq ?_ | refine c_region (by exact rfl) ?_ | refine c_cond (by exact rfl) ?_ | refine c_ret ?_ | refine c_skip ?_ | refine c_block ?_ | refine c_exit ?_ | (show evC _ (.region 21 _ true) _ _ _; refine c_drawB (bl := [0, 0, 3, 7, 15, 31, 63, 31, 159, 415, 927, 2047, 4095, 8191, 16383, 32767, 16383, 81919, 212991, 475135, 1048575, 2097151, 4194303, 8388607, 16777215, 8388607, 41943039, 109051903, 243269631, 536870911, 1073741823]) (br := [1073741823, 536870911, 243269631, 109051903, 41943039, 8388607, 16777215, 8388607, 4194303, 2097151, 1048575, 475135, 212991, 81919, 16383, 32767, 16383, 8191, 4095, 2047, 927, 415, 159, 31, 63, 31, 15, 7, 3, 0, 0]) (l := [(0, 0), (1, 0), (2, 1), (3, 0), (4, 0), (5, 0), (6, 1), (7, 1), (8, 1), (9, 1), (10, 1), (11, 0), (12, 0), (13, 0), (14, 0), (15, 1), (16, 1), (17, 1), (18, 1), (19, 1), (20, 0), (21, 0), (22, 0), (23, 0), (24, 1), (25, 1), (26, 1), (27, 1), (28, 1), (29, 0), (30, 0)]) (by decide +kernel) (by decide +kernel) (by decide +kernel) (by decide +kernel) (by exact rfl) ?_) | refine std ?_)
      | (show Br _ _ _; first | refine Br.t rfl ?_ | refine Br.f rfl ?_ | refine brs ?_ | (first | refine Br.mkN (fun h => ?_) (fun h => ?_) | refine Br.mk (fun h => ?_) (fun h => ?_)) <;> (try (first | contradiction | (exfalso; omega) | (exfalso; simp at h; done))))
      | refine stp ?_)
    all_goals (show retC _ _ _ _ _ _; refine RETC ?_; exact ret_done (hK _))
end Go.Proofs.Ythoagholmkiknaa

