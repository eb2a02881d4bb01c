/- Split: bytes fed: lemmas; each with the conditions that it states. -/
import Derived.Test.YthoagholmkiknaaFh
import Derived.Test.YthoagholmkiknaaPa
import Derived.Test.YthoagholmkiknaaFg

namespace Go.Proofs.Ythoagholmkiknaa
open Go Go.Proofs Go.Sl
set_option maxRecDepth 100000
set_option maxHeartbeats 4000000
set_option linter.unusedSimpArgs false
set_option linter.unusedVariables false
attribute [local irreducible] evG evC spl thenC inBlockC noGotoC CallT retC RetG TurnG CutG pt ro exP star sep pureP
attribute [local irreducible] ByteArray.extract nAt scanP
variable {R C : List HP} {K : Value → List HP → Prop}
/-- a frame but for where its settings lie -/
def coreF (y : Fm) : Fm := ⟨y.t, y.st, y.e, y.d, y.k, y.on, y.w, y.x, y.c, y.la, y.n, none, y.pn, 0, y.ps⟩
def cfr (p : ByteArray) : Fm := coreF (frA p none 0)
/-- the frames that bytes are, what is kept, and the code -/
def parse : Nat → List UInt8 → List ByteArray × List UInt8 × Int
  | 0, bs => ([], bs, 0)
  | k + 1, bs => match stS (bsB bs) with
    | some e => ([], bs, e)
    | none => (bsB bs :: (parse k (bs.drop (9 + sL (bsB bs)).toNat)).1, (parse k (bs.drop (9 + sL (bsB bs)).toNat)).2)
def pF (bs : List UInt8) : List ByteArray × List UInt8 × Int := parse (bs.length + 1) bs
theorem drop_less {bs : List UInt8} (h : stS (bsB bs) = none) : (bs.drop (9 + sL (bsB bs)).toNat).length + 9 ≤ bs.length := by
  obtain ⟨h1, h2, h3, h4, h5, h6, h7⟩ := st_none h
  have := bsB_size bs
  rw [List.length_drop]
  omega
theorem parse_fuel : ∀ (k m : Nat) (bs : List UInt8), bs.length < k → bs.length < m → parse k bs = parse m bs
  | 0, _, _, h, _ => by omega
  | _ + 1, 0, _, _, h => by omega
  | k + 1, m + 1, bs, h1, h2 => by
    unfold parse
    cases hs : stS (bsB bs) with
    | some e => rfl
    | none =>
      have hd := drop_less hs
      rw [parse_fuel k m _ (by omega) (by omega)]
theorem pF_some {bs : List UInt8} {e : Int} (h : stS (bsB bs) = some e) : pF bs = ([], bs, e) := by
  unfold pF parse; rw [h]
theorem pF_none {bs : List UInt8} (h : stS (bsB bs) = none) : pF bs = (bsB bs :: (pF (bs.drop (9 + sL (bsB bs)).toNat)).1, (pF (bs.drop (9 + sL (bsB bs)).toNat)).2) := by
  have hd := drop_less h
  have e : pF (bs.drop (9 + sL (bsB bs)).toNat) = parse bs.length (bs.drop (9 + sL (bsB bs)).toNat) := parse_fuel _ _ _ (by omega) (by omega)
  rw [e]
  unfold pF
  conv => lhs; unfold parse
  rw [h]
theorem out_nil {r : Nat} : Ent (pt r [.slice none 0 0] 32 :: R) (outP r [] :: R) := Ent.trans (Ent.pick Pick.here (Ent.nilrow' (Ent.allnil (Ent.refl _)))) (out_fold (A := none) (c := 0) (fs := []) rfl)
theorem feed_loop {Q : Exit → Fr → List HP → Prop} {a : Fr} {r7 r2 r6 x nx cx c : Nat} {A S : Option Addr} {all : List UInt8} (hc : all.length ≤ c) (hz : all.length < 1000000)
    (ha : Agree a [(2, .pointer (some ⟨r2, 0, none⟩)), (6, .pointer (some ⟨r6, 0, none⟩)), (7, .pointer (some ⟨r7, 0, none⟩)), (8, .func (.func 33) #[] #[.pointer (some ⟨r7, 0, none⟩), .pointer (some ⟨r2, 0, none⟩), .pointer (some ⟨r6, 0, none⟩)])])
    (hK : ∀ a A c F cF fs, (pF all).2.1.length ≤ all.length → fs.map coreF = (pF all).1.map cfr → fs.length ≤ all.length → Q (.exit 0) (updL a [(2, .pointer (some ⟨r2, 0, none⟩)), (6, .pointer (some ⟨r6, 0, none⟩)), (7, .pointer (some ⟨r7, 0, none⟩))]) (pt r7 [.slice A (pF all).2.1.length c] 47 :: rrow A byteC (pF all).2.1 :: pt x [.slice S nx cx, .int .i64 (pF all).2.2] 78 :: pt r2 [.pointer (some ⟨x, 0, none⟩)] 49 :: pt r6 [.slice F fs.length cF] 32 :: row F cF 38 fmC fs :: allP fmP fs :: R)) :
    evC Try.prog (loopAt Try.f22 0) Q a (pt r7 [.slice A all.length c] 47 :: rrow A byteC all :: pt x [.slice S nx cx, .int .i64 0] 78 :: pt r2 [.pointer (some ⟨x, 0, none⟩)] 49 :: outP r6 [] :: R) := by
  refine LOOP (fun m a C' => ∃ (bs : List UInt8) (A : Option Addr) (c : Nat) (srcs : List ByteArray) (fs : List Fm), bs.length = m ∧ bs.length ≤ c ∧ fs.map coreF = srcs.map cfr ∧ (pF all).1 = srcs ++ (pF bs).1 ∧ (pF all).2 = (pF bs).2 ∧ fs.length + bs.length ≤ all.length ∧ C' = pt r7 [.slice A bs.length c] 47 :: rrow A byteC bs :: pt x [.slice S nx cx, .int .i64 0] 78 :: pt r2 [.pointer (some ⟨x, 0, none⟩)] 49 :: outP r6 fs :: R ∧ Agree a [(2, .pointer (some ⟨r2, 0, none⟩)), (6, .pointer (some ⟨r6, 0, none⟩)), (7, .pointer (some ⟨r7, 0, none⟩)), (8, .func (.func 33) #[] #[.pointer (some ⟨r7, 0, none⟩), .pointer (some ⟨r2, 0, none⟩), .pointer (some ⟨r6, 0, none⟩)])]) all.length (turn all.length ⟨all, A, c, [], [], rfl, hc, rfl, rfl, rfl, by simp, rfl, ha⟩) ?_
  clear ha hc
  rintro n1 a C' ⟨bs, A, c, srcs, fs, hm, hbc, hfs, h1, h2, hfl, rfl, ha⟩
  refine c_fr _ ha ?_
  simp only [updL]
  have hbz : bs.length < 1000000000000 := by omega
  have hfz : fs.length < 1000000 := by omega
  cases hs : stS (bsB bs) with
  | none =>
    have hd := drop_less hs
    obtain ⟨g1, g2, g3, g4, g5, g6, g7⟩ := st_none hs
    have hp := pF_none hs
    repeat' (first
      | (show evG _ _ _ _ _ _ _; first | refine G_andNot0 ?_ | refine G_andNot1 ?_ | refine G_add64 ?_ | refine G_sub64 ?_ | refine G_mul64 ?_ | refine G_quo ?_ | refine G_rem ?_ | refine G_shl8 ?_ | refine G_orb ?_ | refine G_shr ?_ | refine G_pure0 ?_ | refine G_load ?_ | refine evG_nil ?_ | refine G_br ?_ ?_ | refine G_field ?_ | refine G_pure ?_ | refine G_store ?_ | refine G_loadV ?_ | refine G_loadV0 ?_ | refine G_loadV2 ?_ | (refine G_append ?_; intro _ _) | (refine G_appendN ?_; intro _ _) | refine G_not ?_ | refine G_index ?_ | refine G_indexA ?_ | refine G_indexS ?_ | refine G_conv64 ?_ | refine G_conv8 ?_ | refine G_convu ?_ | refine G_conv ?_ | refine G_build ?_ | refine G_slh ?_ | refine G_slo ?_ | refine G_shi ?_ | refine G_cat ?_ | refine G_min ?_ | refine G_max ?_ | refine G_neg64 ?_ | refine G_eql_agg ?_ | refine G_neq_agg ?_ | refine G_bytesP ?_ | refine G_bytesstr ?_ | refine G_call ?_ | refine G_call0 ?_ | refine G_callv ?_ | refine G_callv0 ?_ | (refine G_box ?_; intro _) | (refine G_alloc ?_; intro _) | (refine G_buildSlice ?_; intro _) | (refine G_strrow ?_; intro _ _) | (refine G_indexV ?_; intro _ _ hA; subst hA) | (refine G_sliceR ?_; intro _) | (refine G_sliceO ?_; intro _) | refine G_skip ?_ | refine G_skip0 ?_)
      | (show spl _ _ _; first | refine spl_no rfl ?_ | refine spl_yes rfl ?_)
      | (show evC _ _ _ _ _; first | refine c_seq ?_ | refine c_region (by exact rfl) ?_ | refine c_cond (by exact rfl) ?_ | refine c_ret ?_ | refine c_skip ?_ | refine c_block ?_ | refine c_exit ?_ | refine std ?_)
      | (show Br _ _ _; first | refine Br.t rfl ?_ | refine Br.f rfl ?_ | refine brs ?_ | (first | refine Br.mkN (fun h => ?_) (fun h => ?_) | refine Br.mk (fun h => ?_) (fun h => ?_)) <;> (try (first | contradiction | (exfalso; omega) | (exfalso; simp at h; done))))
      | refine stp ?_
      | (show CallT _ 33 _ _ _; refine CA (h := tookF_ok rfl rfl hbc hbz hfz hs (fun A' c' A2 c2 hc' => ?_))))
    rw [← List.length_drop] at *
    exact turn (bs.drop (9 + sL (bsB bs)).toNat).length ⟨bs.drop (9 + sL (bsB bs)).toNat, A', c', srcs ++ [bsB bs], fs ++ [frA (bsB bs) A2 c2], rfl, hc', by rw [List.map_append, List.map_append, hfs]; rfl, by rw [h1, hp]; simp, by rw [h2, hp], by rw [List.length_append]; simp only [List.length_cons, List.length_nil]; omega, rfl, rfl, rfl, rfl, rfl, trivial⟩
  | some e =>
    have hp := pF_some hs
    rw [hp, List.append_nil] at h1
    rw [hp] at h2
    refine evC_ent (C' := outP r6 fs :: pt r7 [.slice A bs.length c] 47 :: rrow A byteC bs :: pt x [.slice S nx cx, .int .i64 0] 78 :: pt r2 [.pointer (some ⟨x, 0, none⟩)] 49 :: R) (by exact entA) ?_
    refine evC_ex fun F => evC_ex fun cF => evC_unsep (evC_ent (Ent.cons Ent.unsep) ?_)
    repeat' (first
      | (show evG _ _ _ _ _ _ _; first | refine G_andNot0 ?_ | refine G_andNot1 ?_ | refine G_add64 ?_ | refine G_sub64 ?_ | refine G_mul64 ?_ | refine G_quo ?_ | refine G_rem ?_ | refine G_shl8 ?_ | refine G_orb ?_ | refine G_shr ?_ | refine G_pure0 ?_ | refine G_load ?_ | refine evG_nil ?_ | refine G_br ?_ ?_ | refine G_field ?_ | refine G_pure ?_ | refine G_store ?_ | refine G_loadV ?_ | refine G_loadV0 ?_ | refine G_loadV2 ?_ | (refine G_append ?_; intro _ _) | (refine G_appendN ?_; intro _ _) | refine G_not ?_ | refine G_index ?_ | refine G_indexA ?_ | refine G_indexS ?_ | refine G_conv64 ?_ | refine G_conv8 ?_ | refine G_convu ?_ | refine G_conv ?_ | refine G_build ?_ | refine G_slh ?_ | refine G_slo ?_ | refine G_shi ?_ | refine G_cat ?_ | refine G_min ?_ | refine G_max ?_ | refine G_neg64 ?_ | refine G_eql_agg ?_ | refine G_neq_agg ?_ | refine G_bytesP ?_ | refine G_bytesstr ?_ | refine G_call ?_ | refine G_call0 ?_ | refine G_callv ?_ | refine G_callv0 ?_ | (refine G_box ?_; intro _) | (refine G_alloc ?_; intro _) | (refine G_buildSlice ?_; intro _) | (refine G_strrow ?_; intro _ _) | (refine G_indexV ?_; intro _ _ hA; subst hA) | (refine G_sliceR ?_; intro _) | (refine G_sliceO ?_; intro _) | refine G_skip ?_ | refine G_skip0 ?_)
      | (show spl _ _ _; first | refine spl_no rfl ?_ | refine spl_yes rfl ?_)
      | (show evC _ _ _ _ _; first | refine c_seq ?_ | refine c_region (by exact rfl) ?_ | refine c_cond (by exact rfl) ?_ | refine c_ret ?_ | refine c_skip ?_ | refine c_block ?_ | refine c_exit ?_ | refine std ?_)
      | (show Br _ _ _; first | refine Br.t rfl ?_ | refine Br.f rfl ?_ | refine brs ?_ | (first | refine Br.mkN (fun h => ?_) (fun h => ?_) | refine Br.mk (fun h => ?_) (fun h => ?_)) <;> (try (first | contradiction | (exfalso; omega) | (exfalso; simp at h; done))))
      | refine stp ?_
      | (show CallT _ 33 _ _ _; refine CA (h := tookS_ok rfl hbc hbz hs ?_)))
    rw [h2, h1] at hK
    exact at_updL (p := fun a => Q (.exit 0) a _) [(2, .pointer (some ⟨r2, 0, none⟩)), (6, .pointer (some ⟨r6, 0, none⟩)), (7, .pointer (some ⟨r7, 0, none⟩))] ⟨rfl, rfl, rfl, trivial⟩ (hK _ A c F cF fs (by show bs.length ≤ _; omega) hfs (by omega))
theorem sp_nil {x : Nat} {e : Int} : Ent (pt x [.slice none 0 0, .int .i64 e] 78 :: R) (spP x [] e :: R) := Ent.trans (Ent.pick Pick.here (Ent.nilrow' (Ent.refl _))) (sp_fold (A := none) (c := 0) (bs := []) rfl)
theorem feed_ok {x : Nat} {ks : List UInt8} {s : ByteArray} (hz : ks.length + s.size < 1000000) (hK : ∀ F c fs, fs.map coreF = (pF (ks ++ s.data.toList)).1.map cfr → K (.tuple #[.slice F fs.length c, .int .i64 (pF (ks ++ s.data.toList)).2.2]) (row F c 38 fmC fs :: allP fmP fs :: spP x (if (pF (ks ++ s.data.toList)).2.2 = 0 then (pF (ks ++ s.data.toList)).2.1 else []) (pF (ks ++ s.data.toList)).2.2 :: R)) : CallT Try.prog 22 #[.pointer (some ⟨x, 0, none⟩), .string s] (spP x ks 0 :: R) K := by
  have hsl : s.data.toList.length = s.size := by simp
  refine sp_open fun A c => ?_
  refine call_rowfact (l := ks) (A := A) (c := c) (by ((repeat (first | exact Pick.here | apply Pick.there)) <;> exact Pick.here)) fun hkc => ?_
  have e0 : List.take (((ks.length : Nat) : Int).toNat - (0 : Int).toNat) (List.drop (0 : Int).toNat ks) = ks := by simp
  have e1 : (List.take (((ks.length : Nat) : Int).toNat - (0 : Int).toNat) (List.drop (0 : Int).toNat ks)).length = ((ks.length : Nat) : Int).toNat - (0 : Int).toNat := by simp
  refine callT_intro mixed Try.func22 rfl (by decide) (by decide +kernel) (by exact Nat.le_of_ble_eq_true rfl) ?_
  repeat' (first
    | (show evG _ _ _ _ _ _ _; first | refine G_pure0 ?_ | refine G_load ?_ | refine evG_nil ?_ | refine G_br ?_ ?_ | refine G_field ?_ | refine G_pure ?_ | refine G_store ?_ | refine G_loadV ?_ | refine G_loadV0 ?_ | refine G_loadV2 ?_ | (refine G_append ?_; intro _ _) | (refine G_appendN ?_; intro _ _) | refine G_not ?_ | refine G_slh ?_ | refine G_slo ?_ | refine G_shi ?_ | refine G_neq_agg ?_ | refine G_call ?_ | refine G_call0 ?_ | refine G_callv ?_ | refine G_callv0 ?_ | (refine G_box ?_; intro _) | (refine G_alloc ?_; intro _) | (refine G_sliceR ?_; intro _) | (refine G_sliceO ?_; intro _))
    | (show spl _ _ _; first | refine spl_no rfl ?_ | refine spl_yes rfl ?_)
    | (show evC _ _ _ _ _; first | refine c_seq ?_ | refine c_region (by exact rfl) ?_ | refine c_cond (by exact rfl) ?_ | refine c_ret ?_ | refine c_skip ?_ | refine c_block ?_ | refine c_exit ?_ | (show evC _ (.region 4 _ true) _ _ _; refine c_drawT (t := (.br (.st 0 1 (.st 1 1 (.st 2 1 (.st 3 1 (.st 4 1 (.st 5 1 (.st 6 1 (.st 7 1 (.st 8 1 (.st 9 1 (.st 10 1 (.st 11 1 (.st 12 1 (.st 13 1 (.st 14 1 (.st 15 1 (.st 16 2 (.st 17 2 (.st 18 1 .nil))))))))))))))))))) (.st 17 2 (.st 0 1 (.st 1 1 (.st 2 1 (.st 3 1 (.st 4 1 (.st 5 1 (.st 6 1 (.st 7 1 (.st 8 1 (.st 9 1 (.st 10 1 (.st 11 1 (.st 12 1 (.st 13 1 (.st 14 1 (.st 15 1 (.st 16 2 (.st 18 1 .nil))))))))))))))))))))) (by kernel_rfl) (by decide +kernel) (by exact rfl) ?_) | (show evC _ (.region 7 _ true) _ _ _; refine c_draw (l := [(1, 0), (2, 1), (0, 1), (3, 0), (4, 0), (5, 1)]) (by decide +kernel) (by decide +kernel) (by exact rfl) ?_) | (show evC _ (.region 10 _ true) _ _ _; refine c_draw (l := [(0, 0), (1, 0), (2, 0), (3, 0), (4, 0), (5, 0), (6, 0)]) (by decide +kernel) (by decide +kernel) (by exact rfl) ?_) | refine std ?_)
    | (show Br _ _ _; first | refine Br.t rfl ?_ | refine Br.f rfl ?_ | refine brs ?_ | (first | refine Br.mkN (fun h => ?_) (fun h => ?_) | refine Br.mk (fun h => ?_) (fun h => ?_)) <;> (try (first | contradiction | (exfalso; omega) | (exfalso; simp at h; done))))
    | refine stp ?_
    | (show CallT _ 21 _ _ _; refine CA (h := brokenR_ok ?_)))
  all_goals
    rw [e0]
    refine evC_rowfact (l := ks ++ s.data.toList) (by ((repeat (first | exact Pick.here | apply Pick.there)) <;> exact Pick.here)) fun hc => ?_
    have hall : (ks ++ s.data.toList).length < 1000000 := by rw [List.length_append]; omega
    refine evC_ent (row_freeze (E := byteC) (xs := ks ++ s.data.toList) (by ((repeat (first | exact Pick.here | apply Pick.there)) <;> exact Pick.here)) (Ent.trans (by exact entA) (Ent.trans out_nil (by exact entA)))) (feed_loop (S := A) (nx := ks.length) (cx := c) hc hall ⟨rfl, rfl, rfl, rfl, trivial⟩ (fun a A2 c2 F cF fs hl hfs hfl => ?_))
    have hrz : (pF (ks ++ s.data.toList)).2.1.length < 1000000 := by omega
    generalize pF (ks ++ s.data.toList) = res at *
    obtain ⟨srcs, rest, e⟩ := res
    simp only at hK hl hfs hrz
    by_cases he : e = 0
    · subst he
      rw [if_pos rfl] at hK
      repeat' (first
        | (show evG _ _ _ _ _ _ _; first | refine G_pure0 ?_ | refine G_load ?_ | refine evG_nil ?_ | refine G_br ?_ ?_ | refine G_field ?_ | refine G_pure ?_ | refine G_store ?_ | refine G_loadV ?_ | refine G_loadV0 ?_ | refine G_loadV2 ?_ | (refine G_append ?_; intro _ _) | (refine G_appendN ?_; intro _ _) | refine G_not ?_ | refine G_slh ?_ | refine G_slo ?_ | refine G_shi ?_ | refine G_neq_agg ?_ | refine G_call ?_ | refine G_call0 ?_ | refine G_callv ?_ | refine G_callv0 ?_ | (refine G_box ?_; intro _) | (refine G_alloc ?_; intro _) | (refine G_sliceR ?_; intro _) | (refine G_sliceO ?_; intro _))
        | (show spl _ _ _; first | refine spl_no rfl ?_ | refine spl_yes rfl ?_)
        | (show evC _ _ _ _ _; first | refine c_seq ?_ | refine c_region (by exact rfl) ?_ | refine c_cond (by exact rfl) ?_ | refine c_ret ?_ | refine c_skip ?_ | refine c_block ?_ | refine c_exit ?_ | (show evC _ (.region 4 _ true) _ _ _; refine c_drawT (t := (.br (.st 0 1 (.st 1 1 (.st 2 1 (.st 3 1 (.st 4 1 (.st 5 1 (.st 6 1 (.st 7 1 (.st 8 1 (.st 9 1 (.st 10 1 (.st 11 1 (.st 12 1 (.st 13 1 (.st 14 1 (.st 15 1 (.st 16 2 (.st 17 2 (.st 18 1 .nil))))))))))))))))))) (.st 17 2 (.st 0 1 (.st 1 1 (.st 2 1 (.st 3 1 (.st 4 1 (.st 5 1 (.st 6 1 (.st 7 1 (.st 8 1 (.st 9 1 (.st 10 1 (.st 11 1 (.st 12 1 (.st 13 1 (.st 14 1 (.st 15 1 (.st 16 2 (.st 18 1 .nil))))))))))))))))))))) (by kernel_rfl) (by decide +kernel) (by exact rfl) ?_) | (show evC _ (.region 7 _ true) _ _ _; refine c_draw (l := [(1, 0), (2, 1), (0, 1), (3, 0), (4, 0), (5, 1)]) (by decide +kernel) (by decide +kernel) (by exact rfl) ?_) | (show evC _ (.region 10 _ true) _ _ _; refine c_draw (l := [(0, 0), (1, 0), (2, 0), (3, 0), (4, 0), (5, 0), (6, 0)]) (by decide +kernel) (by decide +kernel) (by exact rfl) ?_) | refine std ?_)
        | (show Br _ _ _; first | refine Br.t rfl ?_ | refine Br.f rfl ?_ | refine brs ?_ | (first | refine Br.mkN (fun h => ?_) (fun h => ?_) | refine Br.mk (fun h => ?_) (fun h => ?_)) <;> (try (first | contradiction | (exfalso; omega) | (exfalso; simp at h; done))))
        | refine stp ?_)
      all_goals
        refine RETC ?_
        exact ret_of (Ent.trans (by exact entA) (Ent.trans (sp_fold (bs := rest) rfl) (by exact entA))) (hK F cF fs hfs)
    · rw [if_neg he] at hK
      repeat' (first
        | (show evG _ _ _ _ _ _ _; first | refine G_pure0 ?_ | refine G_load ?_ | refine evG_nil ?_ | refine G_br ?_ ?_ | refine G_field ?_ | refine G_pure ?_ | refine G_store ?_ | refine G_loadV ?_ | refine G_loadV0 ?_ | refine G_loadV2 ?_ | (refine G_append ?_; intro _ _) | (refine G_appendN ?_; intro _ _) | refine G_not ?_ | refine G_slh ?_ | refine G_slo ?_ | refine G_shi ?_ | refine G_neq_agg ?_ | refine G_call ?_ | refine G_call0 ?_ | refine G_callv ?_ | refine G_callv0 ?_ | (refine G_box ?_; intro _) | (refine G_alloc ?_; intro _) | (refine G_sliceR ?_; intro _) | (refine G_sliceO ?_; intro _))
        | (show spl _ _ _; first | refine spl_no rfl ?_ | refine spl_yes rfl ?_)
        | (show evC _ _ _ _ _; first | refine c_seq ?_ | refine c_region (by exact rfl) ?_ | refine c_cond (by exact rfl) ?_ | refine c_ret ?_ | refine c_skip ?_ | refine c_block ?_ | refine c_exit ?_ | (show evC _ (.region 4 _ true) _ _ _; refine c_drawT (t := (.br (.st 0 1 (.st 1 1 (.st 2 1 (.st 3 1 (.st 4 1 (.st 5 1 (.st 6 1 (.st 7 1 (.st 8 1 (.st 9 1 (.st 10 1 (.st 11 1 (.st 12 1 (.st 13 1 (.st 14 1 (.st 15 1 (.st 16 2 (.st 17 2 (.st 18 1 .nil))))))))))))))))))) (.st 17 2 (.st 0 1 (.st 1 1 (.st 2 1 (.st 3 1 (.st 4 1 (.st 5 1 (.st 6 1 (.st 7 1 (.st 8 1 (.st 9 1 (.st 10 1 (.st 11 1 (.st 12 1 (.st 13 1 (.st 14 1 (.st 15 1 (.st 16 2 (.st 18 1 .nil))))))))))))))))))))) (by kernel_rfl) (by decide +kernel) (by exact rfl) ?_) | (show evC _ (.region 7 _ true) _ _ _; refine c_draw (l := [(1, 0), (2, 1), (0, 1), (3, 0), (4, 0), (5, 1)]) (by decide +kernel) (by decide +kernel) (by exact rfl) ?_) | (show evC _ (.region 10 _ true) _ _ _; refine c_draw (l := [(0, 0), (1, 0), (2, 0), (3, 0), (4, 0), (5, 0), (6, 0)]) (by decide +kernel) (by decide +kernel) (by exact rfl) ?_) | refine std ?_)
        | (show Br _ _ _; first | refine Br.t rfl ?_ | refine Br.f rfl ?_ | refine brs ?_ | (first | refine Br.mkN (fun h => ?_) (fun h => ?_) | refine Br.mk (fun h => ?_) (fun h => ?_)) <;> (try (first | contradiction | (exfalso; omega) | (exfalso; simp at h; done))))
        | refine stp ?_)
      all_goals
        refine RETC ?_
        exact ret_of (Ent.trans (by exact entA) (Ent.trans sp_nil (by exact entA))) (hK F cF fs hfs)
end Go.Proofs.Ythoagholmkiknaa

