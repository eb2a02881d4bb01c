/- A run without arguments, reckoned by the kernel: heaps. Appends, apart: nothing appended, in place, anew; copies; bytes. A run without arguments, reckoned by the kernel: operations that change memory. A run without arguments, reckoned by the kernel: stores, texts, maps. A run without arguments, reckoned by the kernel: maps: lemmas; each with the conditions that it states. -/
import Derived.Test.YtiofdmjecjcdbaaGreatDoorGb
set_option linter.unusedVariables false
set_option linter.unusedSimpArgs false
namespace Go.Ex
open Go Go.Sl
set_option maxHeartbeats 2000000
inductive DM (ρ : Rho) : List (Int × CV × Nat) → List MEnt → Prop where
  | nil : DM ρ [] []
  | cons {k : Int} {c : CV} {b : Nat} {v : Value} {es : List (Int × CV × Nat)} {ms : List MEnt} (h : DV ρ c v) (t : DM ρ es ms) : DM ρ ((k, c, b) :: es) (⟨k, v, b⟩ :: ms)
theorem DM.mono {ρ ρ' : Rho} (he : Ext ρ ρ') {es : List (Int × CV × Nat)} {ms : List MEnt} (h : DM ρ es ms) : DM ρ' es ms := by
  induction h with
  | nil => exact .nil
  | cons h _ ih => exact .cons (h.mono he) ih
theorem DM.app {ρ : Rho} : ∀ {es fs : List (Int × CV × Nat)} {ms ns : List MEnt}, DM ρ es ms → DM ρ fs ns → DM ρ (es ++ fs) (ms ++ ns)
  | [], _, _, _, h, k => by cases h; exact k
  | _ :: _, _, _, _, h, k => by cases h with | cons h1 h2 => exact .cons h1 (DM.app h2 k)
def DB (ρ : Rho) (cb : CB) (H : Hp) (r b N : Nat) : Prop := match cb with
  | .cells cs e sz => ∃ pre vs post, pre.length = b ∧ DL ρ cs vs ∧ H r = some (.cells (pre ++ vs ++ post) e true) ∧ cs.length + post.length = N * sz
  | .mp es ck => b = 0 ∧ ∃ ms, DM ρ es ms ∧ H r = some (.obj (.map (ms.map meV).toArray ck))
  | .it m s seen last => b = 0 ∧ ∃ rm bm Nm, ρ m = some (rm, bm, Nm) ∧ H r = some (.obj (.mapIter (some rm) s seen.toArray last))
  | .dead => True
theorem DB.mono {ρ ρ' : Rho} (he : Ext ρ ρ') {cb : CB} {H : Hp} {r b N : Nat} (h : DB ρ cb H r b N) : DB ρ' cb H r b N := by
  cases cb with
  | cells cs e sz => obtain ⟨pre, vs, post, h1, h2, h3, h4⟩ := h; exact ⟨pre, vs, post, h1, h2.mono he, h3, h4⟩
  | mp es ck => obtain ⟨h0, ms, h1, h2⟩ := h; exact ⟨h0, ms, h1.mono he, h2⟩
  | it m s seen last => obtain ⟨h0, rm, bm, Nm, h1, h2⟩ := h; exact ⟨h0, rm, bm, Nm, he _ _ h1, h2⟩
  | dead => trivial
theorem DB.at {ρ : Rho} {cb : CB} {H H' : Hp} {r b N : Nat} (h : DB ρ cb H r b N) (hr : H' r = H r) : DB ρ cb H' r b N := by
  cases cb with
  | cells cs e sz => obtain ⟨pre, vs, post, h1, h2, h3, h4⟩ := h; exact ⟨pre, vs, post, h1, h2, by rw [hr]; exact h3, h4⟩
  | mp es ck => obtain ⟨h0, ms, h1, h2⟩ := h; exact ⟨h0, ms, h1, by rw [hr]; exact h2⟩
  | it m s seen last => obtain ⟨h0, rm, bm, Nm, h1, h2⟩ := h; exact ⟨h0, rm, bm, Nm, h1, by rw [hr]; exact h2⟩
  | dead => trivial
theorem DB.some {ρ : Rho} {cb : CB} {H : Hp} {r b N : Nat} (h : DB ρ cb H r b N) (hd : cb ≠ .dead) : H r ≠ none := by
  cases cb with
  | cells cs e sz => obtain ⟨pre, vs, post, h1, h2, h3, h4⟩ := h; rw [h3]; simp
  | mp es ck => obtain ⟨h0, ms, h1, h2⟩ := h; rw [h2]; simp
  | it m s seen last => obtain ⟨h0, rm, bm, Nm, h1, h2⟩ := h; rw [h2]; simp
  | dead => exact absurd rfl hd
def Rep0 (ρ : Rho) (hp : T CB) (H : Hp) : Prop := ∀ i cb, getN hp i = some cb → ∃ r b N, ρ i = some (r, b, N) ∧ DB ρ cb H r b N
theorem Rep0.mono {ρ ρ' : Rho} (he : Ext ρ ρ') {hp : T CB} {H : Hp} (h : Rep0 ρ hp H) : Rep0 ρ' hp H := fun i cb hi => by
  obtain ⟨r, b, N, h1, h2⟩ := h i cb hi
  exact ⟨r, b, N, he _ _ h1, h2.mono he⟩
structure RepH (ρ : Rho) (hp : T CB) (H0 H : Hp) : Prop where
  frame : Hsub H0 H
  rep : Rep0 ρ hp H
  own : ∀ i r b N, ρ i = some (r, b, N) → H0 r = none
  dom : ∀ i x, ρ i = some x → (getN hp i).isSome = true
  inj : ∀ i j cb db r b N b' N', getN hp i = some cb → getN hp j = some db → cb ≠ .dead → db ≠ .dead → ρ i = some (r, b, N) → ρ j = some (r, b', N') → i = j
theorem Rep0.get {ρ : Rho} {hp : T CB} {H : Hp} (h : Rep0 ρ hp H) {i : Nat} {cb : CB} (hi : getN hp i = some cb) {r b N : Nat} (hρ : ρ i = some (r, b, N)) : DB ρ cb H r b N := by
  obtain ⟨r', b', N', h1, h2⟩ := h i cb hi
  rw [hρ] at h1
  cases h1
  exact h2
/-- a block is written -/
theorem RepH.put {ρ : Rho} {hp hp' : T CB} {H0 H : Hp} (h : RepH ρ hp H0 H) {i : Nat} {cb cb' : CB} {r b N : Nat} {blk : Blk} (hi : getN hp i = some cb) (hd : cb ≠ .dead) (hρ : ρ i = some (r, b, N)) (hp'e : ∀ j, getN hp' j = if i = j then some cb' else getN hp j) (hdb : DB ρ cb' (hupd H r blk) r b N) : RepH ρ hp' H0 (hupd H r blk) := by
  have h0 := h.own i r b N hρ
  have hne : ∀ B x, H0 B = some x → B ≠ r := fun B x hx e => by rw [e, h0] at hx; cases hx
  refine ⟨fun B x hx => by rw [hupd_ne _ _ (hne B x hx)]; exact h.frame B x hx, fun j db hj => ?_, h.own, fun j x hx => ?_, fun j k db eb r' b1 N1 b2 N2 hj hk hdj hdk hρj hρk => ?_⟩
  · rw [hp'e] at hj
    by_cases hij : i = j
    · subst hij
      rw [if_pos rfl] at hj
      cases hj
      exact ⟨r, b, N, hρ, hdb⟩
    · rw [if_neg hij] at hj
      obtain ⟨r', b', N', h1, h2⟩ := h.rep j db hj
      refine ⟨r', b', N', h1, ?_⟩
      by_cases hdd : db = .dead
      · subst hdd; trivial
      · have hne : r' ≠ r := fun e => hij (h.inj i j cb db r b N b' N' hi hj hd hdd hρ (e ▸ h1))
        exact h2.at (hupd_ne _ _ hne)
  · rw [hp'e]
    by_cases hij : i = j
    · rw [if_pos hij]; rfl
    · rw [if_neg hij]; exact h.dom j x hx
  · have key : ∀ j db, getN hp' j = some db → db ≠ .dead → ∃ db', getN hp j = some db' ∧ db' ≠ .dead := fun j db hj hdj => by
      rw [hp'e] at hj
      by_cases hij : i = j
      · subst hij; exact ⟨cb, hi, hd⟩
      · rw [if_neg hij] at hj; exact ⟨db, hj, hdj⟩
    obtain ⟨d1, k1, k2⟩ := key j db hj hdj
    obtain ⟨d2, k3, k4⟩ := key k eb hk hdk
    exact h.inj j k d1 d2 r' b1 N1 b2 N2 k1 k3 k2 k4 hρj hρk
def ext (ρ : Rho) (n : Nat) (x : Nat × Nat × Nat) : Rho := fun i => if i = n then some x else ρ i
theorem ext_ext {ρ : Rho} {n : Nat} (x : Nat × Nat × Nat) (h : ρ n = none) : Ext ρ (ext ρ n x) := fun i y hy => by
  unfold ext
  rw [if_neg (fun e => by rw [e, h] at hy; cases hy)]
  exact hy
theorem ext_new (ρ : Rho) (n : Nat) (x : Nat × Nat × Nat) : ext ρ n x n = some x := by simp [ext]
theorem RepH.none {ρ : Rho} {hp : T CB} {H0 H : Hp} (h : RepH ρ hp H0 H) {n : Nat} (hn : getN hp n = none) : ρ n = none := by
  cases hx : ρ n with
  | none => rfl
  | some x => have := h.dom n x hx; rw [hn] at this; cases this
/-- a new block: r is no block of which is known -/
theorem RepH.new {ρ : Rho} {hp hp' : T CB} {H0 H H' : Hp} (h : RepH ρ hp H0 H) {n r b N : Nat} {cb : CB} (hn : getN hp n = Option.none) (hr0 : H0 r = Option.none) (hr : ∀ i db r' b' N', getN hp i = some db → db ≠ .dead → ρ i = some (r', b', N') → r' ≠ r) (hH : ∀ B, B ≠ r → H' B = H B)
    (hp'e : ∀ j, getN hp' j = if n = j then some cb else getN hp j) (hdb : DB (ext ρ n (r, b, N)) cb H' r b N) : Ext ρ (ext ρ n (r, b, N)) ∧ RepH (ext ρ n (r, b, N)) hp' H0 H' := by
  have he := ext_ext (r, b, N) (h.none hn)
  refine ⟨he, fun B x hx => ?_, fun j db hj => ?_, fun i r' b' N' hi => ?_, fun j x hx => ?_, fun j k db eb r' b1 N1 b2 N2 hj hk hdj hdk hρj hρk => ?_⟩
  · rw [hH B (fun e => by rw [e, hr0] at hx; cases hx)]; exact h.frame B x hx
  · rw [hp'e] at hj
    by_cases hij : n = j
    · subst hij
      rw [if_pos rfl] at hj
      cases hj
      exact ⟨r, b, N, ext_new _ _ _, hdb⟩
    · rw [if_neg hij] at hj
      obtain ⟨r', b', N', h1, h2⟩ := h.rep j db hj
      refine ⟨r', b', N', he _ _ h1, ?_⟩
      by_cases hdd : db = .dead
      · subst hdd; trivial
      · exact (h2.mono he).at (hH _ (hr j db r' b' N' hj hdd h1))
  · unfold ext at hi
    by_cases hin : i = n
    · rw [if_pos hin] at hi; cases hi; exact hr0
    · rw [if_neg hin] at hi; exact h.own i r' b' N' hi
  · unfold ext at hx
    rw [hp'e]
    by_cases hij : n = j
    · rw [if_pos hij]; rfl
    · rw [if_neg hij]; rw [if_neg (Ne.symm hij)] at hx; exact h.dom j x hx
  · unfold ext at hρj hρk
    rw [hp'e] at hj hk
    by_cases h1 : n = j
    · by_cases h2 : n = k
      · exact h1.symm.trans h2
      · rw [if_neg h2] at hk
        rw [if_neg (Ne.symm h2)] at hρk
        rw [if_pos h1.symm] at hρj
        cases hρj
        exact absurd rfl (hr k eb _ b2 N2 hk hdk hρk)
    · rw [if_neg h1] at hj
      rw [if_neg (Ne.symm h1)] at hρj
      by_cases h2 : n = k
      · rw [if_pos h2.symm] at hρk
        cases hρk
        exact absurd rfl (hr j db _ b1 N1 hj hdj hρj)
      · rw [if_neg h2] at hk
        rw [if_neg (Ne.symm h2)] at hρk
        exact h.inj j k db eb r' b1 N1 b2 N2 hj hk hdj hdk hρj hρk
theorem RepH.fresh {ρ : Rho} {hp : T CB} {H0 H : Hp} (h : RepH ρ hp H0 H) {r : Nat} (hr : H r = Option.none) : H0 r = Option.none ∧ ∀ i db r' b' N', getN hp i = some db → db ≠ .dead → ρ i = some (r', b', N') → r' ≠ r := by
  refine ⟨?_, fun i db r' b' N' hi hd hρ e => ?_⟩
  · cases hx : H0 r with
    | none => rfl
    | some x => have := h.frame r x hx; rw [hr] at this; cases this
  · subst e; exact (h.rep.get hi hρ).some hd hr
/-- a block is given up -/
theorem RepH.kill {ρ : Rho} {hp hp' : T CB} {H0 H : Hp} (h : RepH ρ hp H0 H) {i : Nat} {cb : CB} (hi : getN hp i = some cb) (hp'e : ∀ j, getN hp' j = if i = j then some CB.dead else getN hp j) : RepH ρ hp' H0 H := by
  refine ⟨h.frame, fun j db hj => ?_, h.own, fun j x hx => ?_, fun j k db eb r' b1 N1 b2 N2 hj hk hdj hdk hρj hρk => ?_⟩
  · rw [hp'e] at hj
    by_cases hij : i = j
    · subst hij
      rw [if_pos rfl] at hj
      cases hj
      obtain ⟨r, b, N, h1, _⟩ := h.rep i cb hi
      exact ⟨r, b, N, h1, trivial⟩
    · rw [if_neg hij] at hj; exact h.rep j db hj
  · rw [hp'e]
    by_cases hij : i = j
    · rw [if_pos hij]; rfl
    · rw [if_neg hij]; exact h.dom j x hx
  · rw [hp'e] at hj hk
    by_cases h1 : i = j
    · rw [if_pos h1] at hj; cases hj; exact absurd rfl hdj
    · rw [if_neg h1] at hj
      by_cases h2 : i = k
      · rw [if_pos h2] at hk; cases hk; exact absurd rfl hdk
      · rw [if_neg h2] at hk
        exact h.inj j k db eb r' b1 N1 b2 N2 hj hk hdj hdk hρj hρk
/-! reading and writing -/
theorem getB_spec {hp : T CB} {i : Nat} {k : CB → R} (h : Fin (getB hp i k)) : ∃ cb, getN hp i = some cb ∧ getB hp i k = k cb := optR_some h
theorem newK_spec {hp : T CB} {i : Nat} {b : CB} {k : T CB → R} (h : Fin (newK hp i b k)) : ∃ hp', newK hp i b k = k hp' ∧ getN hp i = none ∧ ∀ j, getN hp' j = if i = j then some b else getN hp j := by
  unfold newK at *
  cases hg : getN hp i with
  | some _ => rw [hg] at h; exact h.elim
  | none =>
    obtain ⟨hp', h1, h2⟩ := setK_spec b hp i k
    exact ⟨hp', h1, rfl, h2⟩
theorem mid_drop {pre vs post : List Value} {o n : Nat} (h : o + n ≤ vs.length) : ((pre ++ vs ++ post).drop (pre.length + o)).take n = (vs.drop o).take n := by
  rw [List.append_assoc, List.drop_append, List.drop_eq_nil_of_le (by omega : pre.length ≤ pre.length + o), List.nil_append, Nat.add_sub_cancel_left, List.drop_append_of_le_length (by omega), List.take_append_of_le_length (by rw [List.length_drop]; omega)]
theorem rd_cells {P : Program} {H : Hp} {r off n : Nat} {all : List Value} {e : TypeId} (hb : H r = some (.cells all e true)) (hle : 0 < n → off + n ≤ all.length) : (loadCells ⟨r, off, none⟩ n).rd P H = some ((all.drop off).take n).toArray := by
  cases n with
  | zero => simp [loadCells, loadCellsFrom, rd_pure]
  | succ n =>
    unfold loadCells
    rw [rd_loadCells hb off (n + 1) 0 #[] (by have := hle (by omega); omega)]
    simp
theorem rdK_spec {ρ : Rho} {hp : T CB} {H : Hp} (hr : Rep0 ρ hp H) {i o n r b N : Nat} {k : List CV → R} (hρ : ρ i = some (r, b, N)) (h : Fin (rdK hp i o n k)) :
    ∃ cs vs all e, rdK hp i o n k = k cs ∧ DL ρ cs vs ∧ vs.length = n ∧ H r = some (.cells all e true) ∧ (all.drop (b + o)).take n = vs ∧ (0 < n → b + o + n ≤ all.length) := by
  unfold rdK at *
  obtain ⟨cb, h1, h2⟩ := getB_spec h
  rw [h2] at h ⊢
  obtain ⟨cs, e, sz, rfl, h3⟩ := onCells_spec h
  rw [h3, dropK_eq, takeK_eq] at h ⊢
  obtain ⟨h4, h5⟩ := lenEq_spec h
  obtain ⟨pre, vs, post, a1, a2, a3, a4⟩ := hr.get h1 hρ
  have hl := a2.length
  have hlen : o + n ≤ vs.length ∨ n = 0 := by
    rw [List.length_take, List.length_drop] at h4
    omega
  rcases hlen with hle | h0
  · refine ⟨_, (vs.drop o).take n, pre ++ vs ++ post, e, h5, (a2.drop o).take n, by rw [List.length_take, List.length_drop]; omega, a3, ?_, fun _ => by simp; omega⟩
    rw [← a1]
    exact mid_drop hle
  · subst h0
    exact ⟨_, [], pre ++ vs ++ post, e, h5, by simpa using Dn.nil, rfl, a3, by simp, fun h => by omega⟩
theorem ldK_spec {ρ : Rho} {hp : T CB} {H : Hp} {P : Program} {t : TypeId} (hr : Rep0 ρ hp H) {i o r b N : Nat} {k : CV → R} (hρ : ρ i = some (r, b, N)) (h : Fin (ldK P t i o hp k)) :
    ∃ c v, ldK P t i o hp k = k c ∧ DV ρ c v ∧ ldV P H t (.pointer (some ⟨r, b + o, none⟩)) = some v := by
  unfold ldK at *
  obtain ⟨ag, h1, h2⟩ := optR_some h
  rw [h2] at h ⊢
  cases ag with
  | true =>
    rw [B_true] at h ⊢
    obtain ⟨n, h3, h4⟩ := optR_some h
    rw [h4] at h ⊢
    cases hn : Nat.beq n 0 with
    | true => rw [hn] at h; exact h.elim
    | false =>
      rw [hn, B_false] at h
      rw [B_false]
      have hn0 : n ≠ 0 := Nat.ne_of_beq_eq_false hn
      obtain ⟨cs, vs, all, e, a1, a2, a3, a4, a5, a6⟩ := rdK_spec hr hρ h
      obtain ⟨inf, hi, rfl⟩ := infoSz_spec h3
      refine ⟨_, _, a1, .agg a2, ?_⟩
      simp only [ldV, a4, h1, hi]
      rw [if_pos (a6 (by omega)), a5]
  | false =>
    rw [B_false] at h ⊢
    obtain ⟨cb, h3, h4⟩ := getB_spec h
    rw [h4] at h ⊢
    obtain ⟨cs, e, sz, rfl, h5⟩ := onCells_spec h
    rw [h5, dropK_eq] at h ⊢
    obtain ⟨pre, vs, post, a1, a2, a3, a4⟩ := hr.get h3 hρ
    cases hd : cs.drop o with
    | nil => rw [hd] at h; exact h.elim
    | cons c l =>
      have hc : cs[o]? = some c := by
        have : (cs.drop o)[0]? = some c := by rw [hd]; rfl
        rw [List.getElem?_drop] at this
        simpa using this
      obtain ⟨v, hv, hcv⟩ := DL.get o a2 hc
      refine ⟨c, v, rfl, hcv, ?_⟩
      simp only [ldV, a3, h1]
      have hlt : o < vs.length := by
        have := (List.getElem?_eq_some_iff.1 hv).1
        exact this
      rw [List.append_assoc, List.getElem?_append_right (by omega), List.getElem?_append_left (by omega)]
      rw [show b + o - pre.length = o by omega]
      exact hv
theorem wrK_spec {ρ : Rho} {hp : T CB} {H0 H : Hp} (hr : RepH ρ hp H0 H) {i o r b N : Nat} {ws : List CV} {us : List Value} {k : T CB → R} (hρ : ρ i = some (r, b, N)) (hws : DL ρ ws us) (h : Fin (wrK hp i o ws k)) :
    ∃ hp' all e, wrK hp i o ws k = k hp' ∧ H r = some (.cells all e true) ∧ b + o + us.length ≤ all.length ∧ RepH ρ hp' H0 (hupd H r (.cells (setAt all (b + o) us) e true)) := by
  unfold wrK at *
  obtain ⟨cb, h1, h2⟩ := getB_spec h
  rw [h2] at h ⊢
  obtain ⟨cs, e, sz, rfl, h3⟩ := onCells_spec h
  rw [h3, lenK0, lenK_eq] at h ⊢
  obtain ⟨h4, h5⟩ := B_t h (fun h => h)
  rw [h5, putK_eq] at h ⊢
  have hle := Nat.le_of_ble_eq_true h4
  obtain ⟨pre, vs, post, a1, a2, a3, a4⟩ := hr.rep.get h1 hρ
  obtain ⟨hp', h6, h7⟩ := setK_spec (CB.cells (putC cs o ws) e sz) hp i k
  have hl := a2.length
  have hl2 := hws.length
  refine ⟨hp', pre ++ vs ++ post, e, h6, a3, by simp; omega, hr.put h1 (by simp) hρ h7 ?_⟩
  refine ⟨pre, setF vs o us, post, a1, putC_setF o a2 hws, ?_, by rw [putC_len]; exact a4⟩
  rw [hupd_same]
  have e1 := setF_pre pre (vs ++ post) o us
  rw [setF_app vs post o us (by omega)] at e1
  rw [← setF_eq, ← a1, List.append_assoc, e1, List.append_assoc]
end Go.Ex

namespace Go.Sl
section
variable {P : Program} {H : Hp}
/-- what append needs of its types -/
structure AppT (P : Program) (st xt e : TypeId) (sz bytes : Nat) : Prop where
  hst : P.underlying st = some (.slice e)
  hxt : notIntT P xt = true
  hby : bytes ≠ 0
  inf : ∃ i z, P.info? e = some i ∧ i.size = sz ∧ i.bytes = bytes ∧ i.zero = some z ∧ z.cells.size = sz
theorem appT0_spec {st xt e : TypeId} {sz b : Nat} (h : appT0 P st xt = some (e, sz, b)) : AppT P st xt e sz b := by
  unfold appT0 at h
  split at h
  · rename_i e' hst
    split at h
    · rename_i inf hi
      split at h
      · rename_i z hz
        split at h
        · rename_i hc; cases h; exact ⟨hst, hc.2.2, hc.2.1, inf, z, hi, rfl, rfl, hz, hc.1⟩
        · cases h
      · cases h
    · cases h
  · cases h
/-- what is written in place -/
def stApp (A : Option Addr) (off : Nat) (news : List Value) : Sem Unit := match A with
  | some a => storeCells (a.add off) news
  | none => pure ()
theorem ev_app_in {st xt ty e : TypeId} {sz bytes : Nat} {x : Value} {A : Option Addr} {n m c : Nat} {news : List Value} {q : Value → Hp → Prop} (ht : AppT P st xt e sz bytes) (hlen : (Builtin.lenOf x).pr P = some m) (hnews : (Builtin.firstCells sz m x).rd P H = some news.toArray) (hle : n + m ≤ c)
    (hq : (stApp A (n * sz) news).ev P H fun _ H' => q (.slice A (n + m) c) H') : (Builtin.append_ #[st, xt] ty #[.slice A n c, x]).ev P H q := by
  obtain ⟨hst, hxt, hby, inf, z, hi, rfl, rfl, hz, hzs⟩ := ht
  obtain ⟨D, hD, hDn⟩ := notIntT_spec hxt
  unfold Builtin.append_
  simp only [List.getElem?_toArray, List.getElem?_cons_zero, List.getElem?_cons_succ]
  rw [ev_bind', ev_pr_eq (pr_underlying hst)]
  simp only
  rw [ev_bind', ev_pr_eq (pr_sizeOf hi)]
  rw [ev_bind', ev_pr_eq (pr_underlying hD), pure_bind]
  simp only [Bool.false_eq_true, if_false, Bool.not_false, if_true, false_or]
  rw [ev_bind', ev_pr_eq hlen]
  rw [if_pos hle, ev_bind']
  refine ev_rd_eq hnews ?_
  cases A with
  | none => exact hq
  | some a =>
    simp only
    rw [ev_bind']
    exact hq
theorem ev_app_grow {st xt ty e : TypeId} {sz bytes : Nat} {x : Value} {A : Option Addr} {n m c : Nat} {xs news : List Value} {q : Value → Hp → Prop} (ht : AppT P st xt e sz bytes) (hlen : (Builtin.lenOf x).pr P = some m) (hnews : (Builtin.firstCells sz m x).rd P H = some news.toArray) (hxs : (Builtin.firstCells sz n (.slice A n c)).rd P H = some xs.toArray)
    (hle : c < n + m) (hbig : (2 * (n + m) + 512) * bytes ≤ 281474976710656) (hk : ∀ r post N, H r = none → n + m ≤ N → post.length = (N - (n + m)) * sz → q (.slice (some ⟨r, 0, none⟩) (n + m) N) (hupd H r (.cells (xs ++ news ++ post) e true))) :
    (Builtin.append_ #[st, xt] ty #[.slice A n c, x]).ev P H q := by
  obtain ⟨hst, hxt, hby, inf, z, hi, rfl, rfl, hz, hzs⟩ := ht
  obtain ⟨D, hD, hDn⟩ := notIntT_spec hxt
  unfold Builtin.append_
  simp only [List.getElem?_toArray, List.getElem?_cons_zero, List.getElem?_cons_succ]
  rw [ev_bind', ev_pr_eq (pr_underlying hst)]
  simp only
  rw [ev_bind', ev_pr_eq (pr_sizeOf hi)]
  rw [ev_bind', ev_pr_eq (pr_underlying hD), pure_bind]
  simp only [Bool.false_eq_true, if_false, Bool.not_false, if_true, false_or]
  rw [ev_bind', ev_pr_eq hlen]
  rw [if_neg (by omega)]
  have hpos : 0 < inf.bytes := Nat.pos_of_ne_zero hby
  have hnc := nextcap_le hle
  have hle2 : Builtin.nextslicecap (n + m) c * inf.bytes ≤ 281474976710656 := Nat.le_trans (Nat.mul_le_mul_right _ hnc) hbig
  rw [ev_bind', ev_pr_eq (pr_typeInfo hi), if_neg (by simp [hby])]
  rw [ev_bind', ev_pr_eq (pr_typeInfo hi)]
  rw [if_neg (by have : (2 : Nat) ^ 48 = 281474976710656 := by decide
                 omega)]
  simp only [ev_bind']
  simp only [choose, Sem.ev]
  rw [if_neg (by simp [Question.forced])]
  intro t
  simp only [Question.cut]
  generalize hN : n + m + t % (2 ^ 63 - (n + m)) = N
  have hNle : n + m ≤ N := by omega
  rw [ev_pr_eq (pr_typeInfo hi)]
  refine ev_askRoom ?_
  refine ev_rd_eq hxs ?_
  refine ev_rd_eq hnews ?_
  rw [ev_pr_eq (show (zeroValue e).pr P = some z from by simp only [zeroValue, pr_bind, pr_typeInfo hi, Option.bind_some, hz]; rfl)]
  simp only [newRow, ev_bind']
  intro r hr
  refine ⟨rfl, ?_⟩
  have := hk r (Builtin.zeroCells z.cells (N - (n + m))).toList N hr hNle (by simp [Builtin.zeroCells, hzs])
  have hcells : (xs.toArray ++ news.toArray ++ Builtin.zeroCells z.cells (N - (n + m))).toList = xs ++ news ++ (Builtin.zeroCells z.cells (N - (n + m))).toList := by simp
  rw [hcells]
  exact this
theorem eo_of_app {a : Fr} {d : Option Tmp} {ty : TypeId} {pos : String} {after : Array Edge} {g : Option (Nat × Bool)} {x y : Operand} {st xt : TypeId} {k : Value → Hp → Prop} (h : (Builtin.append_ #[st, xt] ty #[opd a x, opd a y]).ev P H k) :
    evOp P ⟨d, .call { callee := .builtin .append, args := #[x, y], argTypes := #[st, xt] }, ty, pos, after, g⟩ a H k := by
  refine evOp_of ?_
  simp only [execOp, resolve, List.map_toArray, List.map_cons, List.map_nil]
  rw [ev_bind', ev_pr_eq (show (pure _ : Sem Deferred).pr P = some _ from rfl)]
  simp only [invoke, builtin, ev_bind']
  exact h
theorem rd_forNats {f : Value → ByteArray → Sem (ForInStep ByteArray)} (hf : ∀ (n : Nat) s, (f (.int .u8 n) s).rd P H = some (.yield (s.push (UInt8.ofNat n)))) : ∀ (l : List Nat) (acc : ByteArray), (forIn (l.map fun n : Nat => Value.int .u8 n) acc f).rd P H = some ⟨acc.data ++ (l.map UInt8.ofNat).toArray⟩ := by
  intro l
  induction l with
  | nil => intro acc; simp; rfl
  | cons b l ih =>
    intro acc
    simp only [List.map_cons, List.forIn_cons]
    rw [rd_bind, hf, Option.bind_some]
    simp only
    rw [ih (acc.push (UInt8.ofNat b))]
    simp [ByteArray.push]
theorem rd_b2s {A : Addr} {n c : Nat} {l : List Nat} (h : (loadCells A n).rd P H = some (l.map fun n : Nat => Value.int .u8 n).toArray) : (Conv.bytesToString (.slice (some A) n c)).rd P H = some (.string ⟨(l.map UInt8.ofNat).toArray⟩) := by
  simp only [Conv.bytesToString]
  rw [rd_bind, h, Option.bind_some, rd_bind]
  rw [← Array.forIn_toList]
  rw [show (l.map fun n : Nat => Value.int .u8 n).toArray.toList = l.map (fun n : Nat => Value.int .u8 n) from rfl, rd_forNats]
  · simp
    rfl
  · intro b s
    simp
    rfl
end
theorem eo_buildSlice' {P : Program} {a : Fr} {d : Option Tmp} {t ty : TypeId} {pos : String} {after : Array Edge} {g : Option (Nat × Bool)} {ps : Array (Nat × Operand)} {n : Nat} {vs : List (Nat × Value)} {cs : List Value} {e : TypeId} {H : Hp} {k : Value → Hp → Prop} (hps : (ps.map fun (i, x) => (i, opd a x)).toList = vs) (he : elemOfS P t = some e) (hc : bsCells P t n vs = some cs)
    (hk : ∀ r, H r = none → k (.slice (some ⟨r, 0, none⟩) n n) (hupd H r (.cells cs e true))) : evOp P ⟨d, .buildSlice t n ps, ty, pos, after, g⟩ a H k := by
  have hu := elemOfS_spec he
  have epar := hps
  unfold bsCells at hc
  rw [he] at hc
  simp only at hc
  split at hc
  · rename_i sz zs hsz hzs
    split at hc
    · rename_i hle
      split at hc
      · rename_i cs' hfill
        have hcs := copyL_eq hc
        subst hcs
        obtain ⟨inf, hi, rfl⟩ := infoSz_spec hsz
        obtain ⟨z, hz, hzl⟩ := zeroL_spec hzs
        refine evOp_of ?_
        simp only [execOp, Instr.buildSlice, ev_bind']
        rw [ev_pr_eq (pr_underlying hu)]
        simp only [ev_bind']
        rw [ev_pr_eq (pr_sizeOf hi), if_neg (by have := hle.1; omega)]
        rw [if_neg hle.2]
        simp only [ev_bind']
        rw [ev_pr_eq hz]
        have hb : ((Array.range (n * inf.size)).map fun i => z.cells[i % z.cells.size]!) = ((List.range (n * inf.size)).map fun i => (zs[i % zs.length]?).getD default).toArray := by
          apply Array.ext'
          rw [Array.toList_map, Array.toList_range, ← hzl]
          apply List.map_congr_left
          intro i _
          simp [getElem!_def, Array.getElem?_toList]
          rfl
        have hf := fill_fillL (p := fun i => some (i * inf.size, inf.size)) (fun _ _ h => h) _ _ _ hfill
        rw [ev_pr_eq (show (pure z.cells : Sem (Array Value)).pr P = some z.cells from rfl), hb]
        rw [show (Array.map (fun x => (x.1, opd a x.2)) ps).toList = vs from epar, hf]
        simp only [ev_bind', newRow]
        intro r hr
        exact ⟨rfl, hk r hr⟩
      · cases hc
    · cases hc
  · cases hc
end Go.Sl

namespace Go.Ex
open Go Go.Sl
set_option maxHeartbeats 2000000
def Post (ρ : Rho) (H0 : Hp) (v : CV) (hp' : T CB) : Value → Hp → Prop := fun V H' => ∃ ρ', Ext ρ ρ' ∧ DV ρ' v V ∧ RepH ρ' hp' H0 H'
def ClOk (P : Program) (cl : Cl) : Prop := ∀ {f : Nat} {args : List CV} {hp : T CB} {nx : Nat} {v : CV} {hp' : T CB} {nx' : Nat}, cl f args hp nx = .ret v hp' nx' → ∀ {ρ : Rho} {H0 H : Hp} {Args : List Value}, RepH ρ hp H0 H → DL ρ args Args → CallS P f Args.toArray H (Post ρ H0 v hp')
def OtOk (f : Oth) (P : Program) (o : Op) : Prop := ∀ {cl : Cl} {ρ : Rho} {fr : FM} {A : Fr} {hp : T CB} {nx : Nat} {H0 H : Hp} {k : CV → T CB → Nat → R} {d : Option Tmp} {ty : TypeId} {pos : String} {after : Array Edge} {g : Option (Nat × Bool)},
  ClOk P cl → FrR ρ fr A → RepH ρ hp H0 H → Fin (f P cl fr hp nx k) → ∃ v hp' nx', f P cl fr hp nx k = k v hp' nx' ∧ evOp P ⟨d, o, ty, pos, after, g⟩ A H (Post ρ H0 v hp')
section
variable {P : Program}
theorem badO_ok {o : Op} : OtOk badO P o := fun _ _ _ h => h.elim
/-- a new block of cells -/
theorem new_cells {ρ : Rho} {hp hp' : T CB} {H0 H : Hp} (h : RepH ρ hp H0 H) {n r e sz N : Nat} {cs : List CV} {vs post : List Value} (hn : getN hp n = none) (hr : H r = none) (hp'e : ∀ j, getN hp' j = if n = j then some (CB.cells cs e sz) else getN hp j) (hl : DL ρ cs vs) (hN : cs.length + post.length = N * sz) :
    Ext ρ (ext ρ n (r, 0, N)) ∧ RepH (ext ρ n (r, 0, N)) hp' H0 (hupd H r (.cells (vs ++ post) e true)) := by
  obtain ⟨h0, h1⟩ := h.fresh hr
  exact h.new hn h0 h1 (fun B hB => hupd_ne _ _ hB) hp'e ⟨[], vs, post, rfl, hl.mono (ext_ext _ (h.none hn)), by rw [hupd_same]; rfl, hN⟩
theorem new_obj {ρ : Rho} {hp hp' : T CB} {H0 H : Hp} (h : RepH ρ hp H0 H) {n r : Nat} {cb : CB} {o : Obj} (hn : getN hp n = none) (hr : H r = none) (hp'e : ∀ j, getN hp' j = if n = j then some cb else getN hp j) (hdb : ∀ ρ' H', Ext ρ ρ' → H' r = some (.obj o) → DB ρ' cb H' r 0 0) :
    Ext ρ (ext ρ n (r, 0, 0)) ∧ RepH (ext ρ n (r, 0, 0)) hp' H0 (hupd H r (.obj o)) := by
  obtain ⟨h0, h1⟩ := h.fresh hr
  exact h.new hn h0 h1 (fun B hB => hupd_ne _ _ hB) hp'e (hdb _ _ (ext_ext _ (h.none hn)) (hupd_same _ _ _))
theorem dv_ptr {ρ : Rho} {i o r N : Nat} (h : ρ i = some (r, 0, N)) : DV ρ (.ptr i o) (.pointer (some ⟨r, o, none⟩)) := by
  have := Dn.ptr (o := o) h
  rw [Nat.zero_add] at this
  exact this
theorem dv_slx {ρ : Rho} {i o r n c N : Nat} (h : ρ i = some (r, 0, N)) (hn : n ≤ c) : DV ρ (.slx i o n c) (.slice (some ⟨r, o, none⟩) n c) := by
  have := Dn.slx (o := o) h hn
  rw [Nat.zero_add] at this
  exact this
theorem dv_sl {ρ : Rho} {i r n N : Nat} (h : ρ i = some (r, 0, N)) (hn : n ≤ N) : DV ρ (.sl i 0 n 0) (.slice (some ⟨r, 0, none⟩) n N) := Dn.sl (k := 0) h hn (.inl rfl)
theorem allocO_ok {e : TypeId} : OtOk (allocO e) P (.alloc e) := by
  intro cl ρ fr A hp nx H0 H k d ty pos after g hcl hf hh h
  unfold allocO at *
  obtain ⟨cs, h1, h2⟩ := optR_some h
  rw [h2, lenK0] at h ⊢
  obtain ⟨hp', h3, h4, h5⟩ := newK_spec h
  rw [h3, forceN_eq]
  obtain ⟨zs, h6, h7⟩ := zC_spec (ρ := ρ) h1
  refine ⟨_, _, _, rfl, eo_alloc h6 fun r hr => ?_⟩
  obtain ⟨a1, a2⟩ := new_cells (post := []) (N := 1) hh h4 hr h5 h7 (by simp)
  rw [List.append_nil] at a2
  exact ⟨_, a1, dv_ptr (ext_new _ _ _), a2⟩
theorem boxO_ok {e : TypeId} {x : Operand} : OtOk (boxO e x) P (.box e x) := by
  intro cl ρ fr A hp nx H0 H k d ty pos after g hcl hf hh h
  unfold boxO at *
  obtain ⟨v, h1, h2⟩ := srcX_spec hf h
  rw [h1, lenK0] at h ⊢
  obtain ⟨hp', h3, h4, h5⟩ := newK_spec h
  rw [h3, forceN_eq]
  refine ⟨_, _, _, rfl, eo_box rfl rfl fun r hr => ?_⟩
  obtain ⟨a1, a2⟩ := new_cells (post := []) (N := 1) hh h4 hr h5 (cells_spec h2) (by simp)
  rw [List.append_nil] at a2
  exact ⟨_, a1, dv_ptr (ext_new _ _ _), a2⟩
theorem repK_spec (zs : List CV) : ∀ (n : Nat) (k : List CV → R), repK n zs k = k (List.replicate n zs).flatten
  | 0, k => rfl
  | n + 1, k => by
    have e : repK (n + 1) zs k = repK n zs fun r => appK zs r k := rfl
    rw [e, repK_spec zs n, appK_eq]
    simp [List.replicate_succ]
theorem flat_rep (zs : List Value) (n : Nat) : (List.replicate n zs).flatten = (List.range (n * zs.length)).map fun i => (zs[i % zs.length]?).getD default := by
  by_cases h0 : zs.length = 0
  · have : zs = [] := List.eq_nil_of_length_eq_zero h0
    subst this
    simp
  · apply List.ext_getElem
    · simp
    · intro i h1 h2
      simp only [List.getElem_map, List.getElem_range]
      induction n generalizing i with
      | zero => simp at h1
      | succ n ih =>
        simp only [List.replicate_succ, List.flatten_cons] at h1 ⊢
        by_cases hi : i < zs.length
        · rw [List.getElem_append_left hi, Nat.mod_eq_of_lt hi, List.getElem?_eq_getElem hi]; rfl
        · have hlen : (List.replicate n zs).flatten.length = n * zs.length := by simp
          rw [List.getElem_append_right (by omega)]
          have hm : (n + 1) * zs.length = n * zs.length + zs.length := Nat.succ_mul _ _
          rw [ih (i - zs.length) (by rw [List.length_append] at h1; omega) (by simp at h2 ⊢; omega)]
          have : (i - zs.length) % zs.length = i % zs.length := (Nat.mod_eq_sub_mod (by omega)).symm
          rw [this]
theorem bslO_ok {t : TypeId} {n : Nat} {ps : Array (Nat × Operand)} : OtOk (bslO t n ps) P (.buildSlice t n ps) := by
  intro cl ρ fr A hp nx H0 H k d ty pos after g hcl hf hh h
  unfold bslO at *
  obtain ⟨e, h1, h2⟩ := optR_some h
  rw [h2] at h ⊢
  obtain ⟨sz, h3, h4⟩ := optR_some h
  rw [h4] at h ⊢
  cases hn : Nat.beq n 0 with
  | true =>
    rw [hn, B_true] at h
    rw [B_true]
    have hn0 := Nat.eq_of_beq_eq_true hn
    subst hn0
    cases hps : ps.toList with
    | cons _ _ => rw [hps] at h; exact h.elim
    | nil =>
      rw [hps] at h
      obtain ⟨hp', a1, a2, a3⟩ := newK_spec h
      refine ⟨_, _, _, (show newK hp nx (.cells [] e sz) (fun hp' => forceN (nx + 1) fun nx' => k (.slx nx 0 0 0) hp' nx') = _ from by rw [a1, forceN_eq]), eo_buildSlice0 hps h1 h3 fun r hr => ?_⟩
      obtain ⟨b1, b2⟩ := new_cells (vs := []) (post := []) (N := 0) hh a2 hr a3 .nil (by simp)
      exact ⟨_, b1, dv_slx (ext_new _ _ _) (Nat.le_refl _), b2⟩
  | false =>
    rw [hn, B_false] at h
    rw [B_false]
    have hn0 : n ≠ 0 := Nat.ne_of_beq_eq_false hn
    obtain ⟨zs, h5, h6⟩ := optR_some h
    rw [h6] at h ⊢
    obtain ⟨h7, h8⟩ := lenEq_spec h
    rw [h8] at h ⊢
    cases hs : Nat.beq sz 0 with
    | true => rw [hs] at h; exact h.elim
    | false =>
      rw [hs, B_false] at h
      rw [B_false]
      have hs0 : sz ≠ 0 := Nat.ne_of_beq_eq_false hs
      obtain ⟨h9, h10⟩ := B_t h (fun h => h)
      rw [h10, repK_spec] at h ⊢
      have hle := Nat.le_of_ble_eq_true h9
      obtain ⟨zv, h11, h12⟩ := zC_spec (ρ := ρ) h5
      obtain ⟨cs', vs', h13, h14, h15, h16⟩ := fillX_spec hf ps.toList (h12.rep n) h
      rw [h13] at h ⊢
      obtain ⟨hp', a1, a2, a3⟩ := newK_spec h
      rw [a1, forceN_eq]
      have hzl : zv.length = sz := by rw [← h12.length]; exact h7
      have hcl2 : cs'.length = n * sz := by rw [h16]; simp [h7]
      have hbs : bsCells P t n (ps.toList.map fun q => (q.1, opd A q.2)) = some vs' := by
        unfold bsCells
        simp only [h1, h3, h11]
        rw [if_pos ⟨hle, fun e => by rcases Nat.mul_eq_zero.1 e with h | h; exact hn0 h; exact hs0 h⟩]
        rw [← hzl, ← flat_rep zv n, hzl, h15]
        exact copyL_some _
      refine ⟨_, _, _, rfl, ?_⟩
      have hgo : ∀ r, H r = none → Post ρ H0 (.slx nx 0 n n) hp' (.slice (some ⟨r, 0, none⟩) n n) (hupd H r (.cells vs' e true)) := fun r hr => by
        obtain ⟨b1, b2⟩ := new_cells (post := []) (N := n) hh a2 hr a3 h14 (by rw [hcl2]; simp)
        rw [List.append_nil] at b2
        exact ⟨_, b1, dv_slx (ext_new _ _ _) (Nat.le_refl _), b2⟩
      exact eo_buildSlice' (by rw [Array.toList_map]) h1 hbs hgo
end
end Go.Ex

namespace Go.Ex
open Go Go.Sl
set_option maxHeartbeats 2000000
section
variable {P : Program}
theorem one_spec {ρ : Rho} {c : CV} {v : Value} (h : DV ρ c v) (ho : one c = true) : v.oneCell' = true := by
  cases h <;> first | rfl | (cases ho; done)
theorem oneL_spec {ρ : Rho} : ∀ {cs : List CV} {vs : List Value}, DL ρ cs vs → oneL cs = true → (vs.all Value.oneCell') = true
  | [], _, h, _ => by cases h; rfl
  | c :: cs, _, h, ho => by
    cases h with
    | cons h1 h2 =>
      have e : oneL (c :: cs) = @Bool.rec (fun _ => Bool) false (oneL cs) (one c) := rfl
      rw [e] at ho
      cases hc : one c with
      | false => rw [hc] at ho; cases ho
      | true => rw [hc] at ho; rw [List.all_cons, one_spec h1 hc, oneL_spec h2 ho]; rfl
theorem storeO_ok {t : TypeId} {x y : Operand} : OtOk (storeO t x y) P (.store t x y) := by
  intro cl ρ fr A hp nx H0 H k d ty pos after g hcl hf hh h
  unfold storeO at *
  obtain ⟨v, h1, h2⟩ := srcX_spec hf h
  rw [h1] at h ⊢
  obtain ⟨w, h3, h4⟩ := srcX_spec hf h
  rw [h3] at h ⊢
  obtain ⟨i, o, rfl, h5⟩ := onPtr_spec h
  rw [h5] at h ⊢
  obtain ⟨n, h6, h7⟩ := optR_some h
  rw [h7] at h ⊢
  obtain ⟨h8, h9⟩ := lenEq_spec h
  rw [h9] at h ⊢
  obtain ⟨h10, h11⟩ := B_t h (fun h => h)
  rw [h11] at h ⊢
  obtain ⟨W, hW, h2⟩ := inv h2
  cases h2 with
  | ptr hρ =>
    have hc := cells_spec h4
    obtain ⟨hp', all, e, a1, a2, a3, a4⟩ := wrK_spec hh hρ hc h
    have hl := hc.length
    refine ⟨_, _, _, a1, eo_store hW rfl rfl h6 (by rw [← hl]; exact h8) (oneL_spec hc h10) a2 (by omega) ⟨ρ, .refl ρ, .und, a4⟩⟩
theorem valsK_spec : ∀ (l : List Nat) (k : List CV → R), valsK l k = k (l.map fun b => .int .u8 (.ofNat (Nat.mod b 256)))
  | [], k => rfl
  | b :: l, k => by
    have e : valsK (b :: l) k = forceN (Nat.mod b 256) fun b' => valsK l fun r => k (.int .u8 (.ofNat b') :: r) := rfl
    rw [e, forceN_eq, valsK_spec l]
    rfl
theorem vals_dl {ρ : Rho} : ∀ (l : List Nat), DL ρ (l.map fun b => .int .u8 (.ofNat (Nat.mod b 256))) ((l.map UInt8.ofNat).map byteV)
  | [] => .nil
  | b :: l => by
    simp only [List.map_cons]
    refine .cons ?_ (vals_dl l)
    have : byteV (UInt8.ofNat b) = .int .u8 (Int.ofNat (Nat.mod b 256)) := by
      unfold byteV
      have e : (UInt8.ofNat b).toNat = b % 256 := by simp
      rw [e]; rfl
    rw [this]
    exact .int _ _
theorem bytesK_spec {ρ : Rho} : ∀ {cs : List CV} {vs : List Value} {k : List Nat → R}, DL ρ cs vs → Fin (bytesK cs k) → ∃ l, bytesK cs k = k l ∧ vs = l.map fun n : Nat => Value.int .u8 n
  | [], _, k, h, _ => ⟨[], rfl, by cases h; rfl⟩
  | c :: cs, _, k, h, hh => by
    cases h with
    | cons h1 h2 =>
      have e : bytesK (c :: cs) k = onInt c fun i z => B (eqK i .u8) (natI z fun n => bytesK cs fun r => k (n :: r)) (.er [98]) := rfl
      rw [e] at hh ⊢
      obtain ⟨i, z, rfl, h3⟩ := onInt_spec hh
      rw [h3] at hh ⊢
      obtain ⟨h4, h5⟩ := B_t hh (fun h => h)
      rw [h5] at hh ⊢
      obtain ⟨n, rfl, h6⟩ := natI_spec hh
      rw [h6] at hh ⊢
      obtain ⟨l, h7, h8⟩ := bytesK_spec h2 hh
      have := eqK_spec h4
      subst this
      cases h1
      exact ⟨n :: l, h7, by rw [h8]; rfl⟩
/-- what a slice or a text gives -/
theorem elsK_spec {ρ : Rho} {hp : T CB} {H : Hp} (hr : Rep0 ρ hp H) {sz : Nat} {w : CV} {W : Value} {k : Nat → List CV → R} (hw : DV ρ w W) (h : Fin (elsK sz w hp k)) :
    ∃ m cs vs, elsK sz w hp k = k m cs ∧ DL ρ cs vs ∧ vs.length = m * sz ∧ (Builtin.lenOf W).pr P = some m ∧ ∀ j, j ≤ m → (Builtin.firstCells sz j W).rd P H = some (vs.take (j * sz)).toArray := by
  unfold elsK at *
  cases hs : isStr w with
  | true =>
    rw [hs, B_true] at h
    rw [B_true]
    obtain ⟨h1, h2⟩ := B_t h (fun h => h)
    rw [h2] at h ⊢
    have := Nat.eq_of_beq_eq_true h1
    subst this
    obtain ⟨l, rfl, h3⟩ := onStr_spec h
    rw [h3, valsK_spec, lenK0]
    cases hw
    refine ⟨_, _, _, rfl, vals_dl l, by simp, by simp [Builtin.lenOf, bs_size]; rfl, fun j hj => ?_⟩
    simp only [Builtin.firstCells, rd_pure, Nat.mul_one]
    congr 1
    apply Array.ext'
    simp [bs, ByteArray.data_extract, List.map_take]
    rfl
  | false =>
    rw [hs, B_false] at h
    rw [B_false]
    rcases onSl_spec h with ⟨rfl, e⟩ | ⟨i, o, n, kk, rfl, e⟩ | ⟨i, o, n, c, rfl, e⟩
    · rw [e]
      cases hw
      refine ⟨0, [], [], rfl, .nil, by simp, rfl, fun j hj => ?_⟩
      simp [Builtin.firstCells, rd_pure]
    · rw [e] at h ⊢
      cases hw with
      | @sl _ _ _ _ r b N o' hρ hn ho =>
        obtain ⟨cs, vs, all, ee, a1, a2, a3, a4, a5, a6⟩ := rdK_spec hr hρ h
        refine ⟨n, cs, vs, a1, a2, a3, rfl, fun j hj => ?_⟩
        simp only [Builtin.firstCells]
        by_cases h0 : n * sz = 0
        · have : j * sz = 0 := by
            rcases Nat.mul_eq_zero.1 h0 with h | h
            · have : j = 0 := by omega
              subst this; simp
            · subst h; simp
          rw [this]
          simp [loadCells, loadCellsFrom, rd_pure]
        · have ho' : o' = o := ho.resolve_right (fun h => h0 (by have : n = 0 := by omega
                                                                 rw [this]; simp))
          subst ho'
          have hle : j * sz ≤ n * sz := Nat.mul_le_mul_right _ hj
          have := a6 (by omega)
          rw [rd_cells a4 (fun _ => by omega), ← a5, List.take_take, Nat.min_eq_left hle]
    · rw [e] at h ⊢
      cases hw with
      | @slx _ _ _ _ r b N hρ hn =>
        obtain ⟨cs, vs, all, ee, a1, a2, a3, a4, a5, a6⟩ := rdK_spec hr hρ h
        refine ⟨n, cs, vs, a1, a2, a3, rfl, fun j hj => ?_⟩
        simp only [Builtin.firstCells]
        have hle : j * sz ≤ n * sz := Nat.mul_le_mul_right _ hj
        rw [rd_cells a4 (fun h => by have := a6 (by omega); omega), ← a5, List.take_take, Nat.min_eq_left hle]
theorem lenOf_slice {ρ : Rho} {v : CV} {W : Value} {m : Nat} (h : DV ρ v W) (hs : isStr v = false) (hl : (Builtin.lenOf W).pr P = some m) : ∃ A c, W = .slice A m c ∧ (A = none → m = 0) := by
  cases h <;> first | (cases hs; done) | (cases hl; done) | (cases (show (none : Option Nat) = some m from hl); done) | skip
  · cases (show some 0 = some m from hl); exact ⟨none, 0, rfl, fun _ => rfl⟩
  · rename_i n _ _ _ _ _ _ _ _ _
    cases (show some _ = some m from hl); exact ⟨_, _, rfl, fun h => by cases h⟩
  · cases (show some _ = some m from hl); exact ⟨_, _, rfl, fun h => by cases h⟩
theorem convO_ok {s t : TypeId} {x : Operand} : OtOk (convO s t x) P (.convert s t x) := by
  intro cl ρ fr A hp nx H0 H k d ty pos after g hcl hf hh h
  unfold convO at *
  obtain ⟨v, h1, h2⟩ := srcX_spec hf h
  rw [h1] at h ⊢
  obtain ⟨W, hW, h2⟩ := inv h2
  cases hs : isStrT P s with
  | true =>
    rw [hs, B_true] at h
    rw [B_true]
    obtain ⟨e, h3, h4⟩ := optR_some h
    rw [h4] at h ⊢
    unfold s2bO at *
    obtain ⟨l, rfl, h5⟩ := onStr_spec h
    rw [h5, valsK_spec, lenK0] at h ⊢
    obtain ⟨hp', a1, a2, a3⟩ := newK_spec h
    rw [a1, forceN_eq]
    cases h2
    refine ⟨_, _, _, rfl, eo_strbytes hs h3 hW fun r N hr hN => ?_⟩
    rw [bs_size] at hN
    have hb : bytesV (bs l) = (l.map UInt8.ofNat).map byteV := by simp [bytesV, bs]
    rw [hb, bs_size]
    obtain ⟨b1, b2⟩ := new_cells (post := List.replicate (N - l.length) (.int .u8 0)) (N := N) hh a2 hr a3 (vals_dl l) (by simp; omega)
    refine ⟨_, b1, ?_, b2⟩
    rw [List.length_map]
    exact dv_sl (ext_new _ _ _) hN
  | false =>
    rw [hs, B_false] at h
    rw [B_false]
    obtain ⟨h3, h4⟩ := B_t h (fun h => h)
    rw [h4] at h ⊢
    obtain ⟨e, h5, h6⟩ := optR_some h
    rw [h6] at h ⊢
    cases hi : isStr v with
    | true => rw [hi] at h; exact h.elim
    | false =>
      rw [hi, B_false] at h
      rw [B_false]
      unfold b2sO at *
      obtain ⟨m, cs, vs, a1, a2, a3, a4, a5⟩ := elsK_spec (P := P) hh.rep h2 h
      rw [a1] at h ⊢
      obtain ⟨l, b1, b2⟩ := bytesK_spec a2 h
      rw [b1]
      obtain ⟨c1, c2⟩ := bytesT_spec h5
      refine ⟨_, _, _, rfl, ?_⟩
      have hlen : m = l.length := by rw [b2, List.length_map, Nat.mul_one] at a3; exact a3.symm
      have hfc := a5 m (Nat.le_refl _)
      rw [List.take_of_length_le (by omega), b2] at hfc
      have hfin : Post ρ H0 (.str l) hp (.string (bs l)) H := ⟨ρ, .refl ρ, .str l, hh⟩
      obtain ⟨AA, cc, rfl, hA⟩ := lenOf_slice h2 hi a4
      have hconv : (Conv.bytesToString (.slice AA m cc)).rd P H = some (.string (bs l)) := by
        cases AA with
        | none =>
          have : l = [] := List.eq_nil_of_length_eq_zero (by rw [← hlen]; exact hA rfl)
          subst this
          rfl
        | some a =>
          simp only [Builtin.firstCells, Nat.mul_one] at hfc
          exact rd_b2s hfc
      refine evOp_of ?_
      simp only [execOp, hW, convert, ev_bind']
      rw [ev_pr_eq (pr_underlying c1), ev_pr_eq (pr_underlying (isStrT_spec h3))]
      simp only [ev_bind']
      rw [ev_pr_eq (pr_underlying c2)]
      exact ev_rd_eq hconv hfin
end
end Go.Ex

namespace Go.Ex
open Go Go.Sl
set_option maxHeartbeats 2000000
section
variable {P : Program}
theorem newMapO_ok {t : TypeId} {r : Option Operand} : OtOk (newMapO t r) P (.makeMap t r) := by
  intro cl ρ fr A hp nx H0 H k d ty pos after g hcl hf hh h
  cases r with
  | some _ => exact h.elim
  | none =>
    have e : newMapO t none P cl fr hp nx k = newK hp nx (.mp [] 0) fun hp' => forceN (nx + 1) fun nx' => k (.mp nx) hp' nx' := rfl
    rw [e] at h ⊢
    obtain ⟨hp', a1, a2, a3⟩ := newK_spec h
    rw [a1, forceN_eq]
    refine ⟨_, _, _, rfl, eo_makeMap fun r hr => ?_⟩
    obtain ⟨b1, b2⟩ := new_obj (o := .map #[] 0) hh a2 hr a3 (fun ρ' H' _ hH => ⟨rfl, [], .nil, hH⟩)
    exact ⟨_, b1, .mp (ext_new _ _ _), b2⟩
theorem on64_spec {v : CV} {k : Int → R} (h : Fin (on64 v k)) : ∃ z, v = .int .i64 z ∧ on64 v k = k z := by
  unfold on64 at *
  obtain ⟨i, z, rfl, h1⟩ := onInt_spec h
  rw [h1] at h ⊢
  obtain ⟨h2, h3⟩ := B_t h (fun h => h)
  have := eqK_spec h2
  subst this
  exact ⟨z, rfl, h3⟩
theorem mfK_spec {ρ : Rho} {n : Int} : ∀ {es : List (Int × CV × Nat)} {ms : List MEnt} (d : R) (k : CV → R) (j : Nat), DM ρ es ms →
    (mfK n es d k = d ∧ mfind n ms j = none) ∨ (∃ c v i, mfK n es d k = k c ∧ DV ρ c v ∧ mfind n ms j = some (i, v))
  | [], _, d, k, j, h => by cases h; exact .inl ⟨rfl, rfl⟩
  | e :: es, _, d, k, j, h => by
    cases h with
    | @cons kk c b v es ms h1 h2 =>
      have e : mfK n ((kk, c, b) :: es) d k = B (eqI n kk) (k c) (mfK n es d k) := rfl
      rw [e, eqI_eq]
      by_cases hk : n = kk
      · rw [decide_eq_true hk]
        exact .inr ⟨c, v, j, rfl, h1, by simp [mfind, hk]⟩
      · rw [decide_eq_false hk, B_false]
        have : mfind n (⟨kk, v, b⟩ :: ms) j = mfind n ms (j + 1) := by simp [mfind, hk]
        rw [this]
        exact mfK_spec d k (j + 1) h2
theorem mputK_spec {ρ : Rho} {n : Int} {c : CV} {v : Value} (hv : DV ρ c v) : ∀ {es : List (Int × CV × Nat)} {ms : List MEnt} (k : List (Int × CV × Nat) → R), DM ρ es ms → ∃ es', mputK n c es k = k es' ∧ DM ρ es' (mput n v ms)
  | [], _, k, h => by cases h; exact ⟨[], rfl, .nil⟩
  | e :: es, _, k, h => by
    cases h with
    | @cons kk c' b v' es ms h1 h2 =>
      have e : mputK n c ((kk, c', b) :: es) k = B (eqI n kk) (k ((kk, c, b) :: es)) (mputK n c es fun r => k ((kk, c', b) :: r)) := rfl
      rw [e, eqI_eq]
      by_cases hk : n = kk
      · rw [decide_eq_true hk]
        refine ⟨_, rfl, ?_⟩
        have : mput n v (⟨kk, v', b⟩ :: ms) = ⟨kk, v, b⟩ :: ms := by simp [mput, hk]
        rw [this]
        exact .cons hv h2
      · rw [decide_eq_false hk, B_false]
        obtain ⟨es', a1, a2⟩ := mputK_spec hv (fun r => k ((kk, c', b) :: r)) h2
        refine ⟨_, a1, ?_⟩
        have : mput n v (⟨kk, v', b⟩ :: ms) = ⟨kk, v', b⟩ :: mput n v ms := by simp [mput, hk]
        rw [this]
        exact .cons h1 a2
theorem mdelK_spec {ρ : Rho} {n : Int} : ∀ {es : List (Int × CV × Nat)} {ms : List MEnt} (k : List (Int × CV × Nat) → R), DM ρ es ms → ∃ es', mdelK n es k = k es' ∧ DM ρ es' (mdel n ms)
  | [], _, k, h => by cases h; exact ⟨[], rfl, .nil⟩
  | e :: es, _, k, h => by
    cases h with
    | @cons kk c' b v' es ms h1 h2 =>
      have e : mdelK n ((kk, c', b) :: es) k = B (eqI n kk) (k es) (mdelK n es fun r => k ((kk, c', b) :: r)) := rfl
      rw [e, eqI_eq]
      by_cases hk : n = kk
      · rw [decide_eq_true hk]
        refine ⟨_, rfl, ?_⟩
        have : mdel n (⟨kk, v', b⟩ :: ms) = ms := by simp [mdel, hk]
        rw [this]
        exact h2
      · rw [decide_eq_false hk, B_false]
        obtain ⟨es', a1, a2⟩ := mdelK_spec (fun r => k ((kk, c', b) :: r)) h2
        refine ⟨_, a1, ?_⟩
        have : mdel n (⟨kk, v', b⟩ :: ms) = ⟨kk, v', b⟩ :: mdel n ms := by simp [mdel, hk]
        rw [this]
        exact .cons h1 a2
theorem zC1_spec {ρ : Rho} {t : TypeId} {c : CV} (h : zC1 P t = some c) : ∃ z, zeroT P t = some z ∧ DV ρ c z := by
  unfold zC1 at h
  split at h
  · rename_i z hz; exact ⟨z, hz, cvV_spec h⟩
  · cases h
/-- a map that is there -/
theorem map_at {ρ : Rho} {hp : T CB} {H : Hp} (hr : Rep0 ρ hp H) {i r b N : Nat} {k : List (Int × CV × Nat) → Nat → R} (hρ : ρ i = some (r, b, N)) (h : Fin (getB hp i fun b => onMp b k)) :
    ∃ es ck ms, (getB hp i fun b => onMp b k) = k es ck ∧ getN hp i = some (.mp es ck) ∧ b = 0 ∧ DM ρ es ms ∧ H r = some (.obj (.map (ms.map meV).toArray ck)) := by
  obtain ⟨cb, h1, h2⟩ := getB_spec h
  rw [h2] at h ⊢
  obtain ⟨es, ck, rfl, h3⟩ := onMp_spec h
  obtain ⟨h0, ms, h4, h5⟩ := hr.get h1 hρ
  exact ⟨es, ck, ms, h3, h1, h0, h4, h5⟩
theorem lkO_ok {t : TypeId} {x y : Operand} {ok : Bool} : OtOk (lkO t x y ok) P (.lookup t x y ok) := by
  intro cl ρ fr A hp nx H0 H k d ty pos after g hcl hf hh h
  unfold lkO at *
  obtain ⟨et, h1, h2⟩ := optR_some h
  rw [h2] at h ⊢
  obtain ⟨z, h3, h4⟩ := optR_some h
  rw [h4] at h ⊢
  obtain ⟨v, h5, h6⟩ := srcX_spec hf h
  rw [h5] at h ⊢
  obtain ⟨w, h7, h8⟩ := srcX_spec hf h
  rw [h7] at h ⊢
  obtain ⟨n, rfl, h9⟩ := on64_spec h
  rw [h9] at h ⊢
  obtain ⟨i, rfl, h10⟩ := onMap_spec h
  rw [h10] at h ⊢
  obtain ⟨X, hX, h6⟩ := inv h6
  obtain ⟨Y, hY, h8⟩ := inv h8
  cases h8
  cases h6 with
  | mp hρ =>
    obtain ⟨es, ck, ms, a1, a2, a3, a4, a5⟩ := map_at hh.rep hρ h
    rw [a1] at h ⊢
    obtain ⟨zv, b1, b2⟩ := zC1_spec (ρ := ρ) h3
    have hok : ∀ {u : CV} {U : Value} (b : Bool), DV ρ u U → DV ρ (okC ok u b) (okV ok U b) := fun b hu => by
      cases ok with
      | true => exact .tup (.cons hu (DL.one (.bool b)))
      | false => exact hu
    rcases mfK_spec (k (okC ok z false) hp nx) (fun u => k (okC ok u true) hp nx) 0 a4 with ⟨c1, c2⟩ | ⟨c, u, j, c1, c2, c3⟩
    · refine ⟨_, _, _, c1, eo_lookup h1 b1 hX hY a5 ?_⟩
      rw [c2]
      exact ⟨ρ, .refl ρ, hok false b2, hh⟩
    · refine ⟨_, _, _, c1, eo_lookup h1 b1 hX hY a5 ?_⟩
      rw [c3]
      exact ⟨ρ, .refl ρ, hok true c2, hh⟩
theorem muO_ok {t : TypeId} {x y z : Operand} : OtOk (muO t x y z) P (.mapUpdate t x y z) := by
  intro cl ρ fr A hp nx H0 H k d ty pos after g hcl hf hh h
  unfold muO at *
  obtain ⟨et, h1, h2⟩ := optR_some h
  rw [h2] at h ⊢
  obtain ⟨v, h5, h6⟩ := srcX_spec hf h
  rw [h5] at h ⊢
  obtain ⟨w, h7, h8⟩ := srcX_spec hf h
  rw [h7] at h ⊢
  obtain ⟨u, h11, h12⟩ := srcX_spec hf h
  rw [h11] at h ⊢
  obtain ⟨n, rfl, h9⟩ := on64_spec h
  rw [h9] at h ⊢
  obtain ⟨i, rfl, h10⟩ := onMap_spec h
  rw [h10] at h ⊢
  obtain ⟨X, hX, h6⟩ := inv h6
  obtain ⟨Y, hY, h8⟩ := inv h8
  cases h8
  cases h6 with
  | mp hρ =>
    obtain ⟨es, ck, ms, a1, a2, a3, a4, a5⟩ := map_at hh.rep hρ h
    rw [a1] at h ⊢
    rcases mfK_spec (appK es [(n, u, ck)] fun es' => forceN (ck + 1) fun ck' => setK hp i (.mp es' ck') fun hp' => k .und hp' nx) (fun _ => mputK n u es fun es' => setK hp i (.mp es' ck) fun hp' => k .und hp' nx) 0 a4 with ⟨c1, c2⟩ | ⟨c, u', j, c1, c2, c3⟩
    · rw [c1, appK_eq, forceN_eq]
      obtain ⟨hp', d1, d2⟩ := setK_spec (CB.mp (es ++ [(n, u, ck)]) (ck + 1)) hp i (fun hp' => k .und hp' nx)
      refine ⟨_, _, _, d1, eo_mapUpdate h1 hX hY rfl a5 ?_⟩
      rw [c2]
      refine ⟨ρ, .refl ρ, .und, hh.put a2 (by simp) hρ d2 ⟨a3, _, a4.app (.cons h12 .nil), hupd_same _ _ _⟩⟩
    · rw [c1]
      obtain ⟨es', e1, e2⟩ := mputK_spec (n := n) h12 (fun es' => setK hp i (.mp es' ck) fun hp' => k .und hp' nx) a4
      rw [e1]
      obtain ⟨hp', d1, d2⟩ := setK_spec (CB.mp es' ck) hp i (fun hp' => k .und hp' nx)
      refine ⟨_, _, _, d1, eo_mapUpdate h1 hX hY rfl a5 ?_⟩
      rw [c3]
      exact ⟨ρ, .refl ρ, .und, hh.put a2 (by simp) hρ d2 ⟨a3, _, e2, hupd_same _ _ _⟩⟩
/-! entries by their stamp -/
theorem hupd_self {H : Hp} {r : Nat} {b : Blk} (h : H r = some b) : hupd H r b = H := by
  funext j
  unfold hupd
  by_cases hj : j = r
  · subst hj; simp [h]
  · simp [hj]
def bornAt (es : List MEnt) (j : Nat) : Nat := match es[j]? with
  | some e => e.b
  | none => 0
def entV (es : List MEnt) (zv : Value) (ck : Nat) : Option (Nat × Value) → Value
  | some (j, v) => .tuple #[v, .int .i64 (Int.ofNat (bornAt es j))]
  | none => .tuple #[zv, .int .i64 (Int.ofNat ck)]
section
variable {a : Fr} {H : Hp} {k : Value → Hp → Prop} {d : Option Tmp} {ty : TypeId} {pos : String} {after : Array Edge} {g : Option (Nat × Bool)} {t : TypeId} {x y z : Operand}
theorem modify_key {n : Int} {v : Value} {es : List MEnt} {i j : Nat} (h : mfind n es i = some (j, v)) : (es.map meV).modify (j - i) (fun e => { e with key := .int .i64 n }) = es.map meV := by
  obtain ⟨_, _, e, he, hek, _⟩ := mfind_lt h
  apply List.ext_getElem?
  intro m
  rw [List.getElem?_modify]
  by_cases hm : j - i = m
  · subst hm
    simp [he, meV, hek]
  · simp [hm]
theorem eo_mapEntry {r ck : Nat} {es : List MEnt} {et : TypeId} {n : Int} {zv : Value} (hm : mapT P t = some et) (hz : zeroT P et = some zv) (hx : opd a x = .map (some r)) (hy : opd a y = .int .i64 n) (hH : H r = some (.obj (.map (es.map meV).toArray ck)))
    (hk : k (entV es zv ck (mfind n es 0)) (hupd H r (.obj (match mfind n es 0 with | some _ => Obj.map (es.map meV).toArray ck | none => Obj.map ((es ++ [(⟨n, zv, ck⟩ : MEnt)]).map meV).toArray (ck + 1))))) : evOp P ⟨d, .mapEntry t x y, ty, pos, after, g⟩ a H k := by
  obtain ⟨kt, kd, h1, h2⟩ := mapT_spec hm
  refine evOp_of ?_
  simp only [execOp, hx, hy, Instr.mapEntry, ev_bind']
  rw [ev_pr_eq (pr_underlying h1)]
  simp only [ev_bind']
  refine ⟨_, hH, ?_⟩
  simp only [Sem.ev, ev_bind']
  rw [ev_pr_eq (pr_checkKey h2), ev_pr_eq (pr_findKey h2)]
  cases hf : mfind n es 0 with
  | some p =>
    obtain ⟨j, w⟩ := p
    rw [hf] at hk
    obtain ⟨_, _, e, he, hek, _⟩ := mfind_lt hf
    simp only [Nat.sub_zero] at he
    simp only [ev_bind']
    have hkey : ((Option.map (fun e => MapEntry.key e) ((List.map meV es).toArray[j]?)).getD (.int .i64 n)) = .int .i64 n := by
      simp [he, meV, hek]
    have hborn : ((Option.map (fun e => ((MapEntry.born e : Nat) : Int)) ((List.map meV es).toArray[j]?)).getD 0) = Int.ofNat (bornAt es j) := by
      simp [he, meV, bornAt]
    rw [hkey, hborn]
    rw [ev_pr_eq (show (Instr.keyThatStays (.int .i64 n) (.int .i64 n)).pr P = some (.int .i64 n) by unfold Instr.keyThatStays; rw [sameBits_int]; rfl)]
    refine ⟨⟨_, hH⟩, rfl, ?_⟩
    have hmod := modify_key hf
    rw [Nat.sub_zero] at hmod
    have e1 : (List.map meV es).toArray.modify j (fun e => { e with key := .int .i64 n }) = (es.map meV).toArray := by
      apply Array.ext'
      simpa using hmod
    rw [e1]
    exact hk
  | none =>
    rw [hf] at hk
    simp only [ev_bind']
    rw [ev_pr_eq (zeroT_pr hz)]
    refine ⟨⟨_, hH⟩, rfl, ?_⟩
    have e1 : (List.map meV es).toArray.push { key := .int .i64 n, val := zv, born := ck } = ((es ++ [(⟨n, zv, ck⟩ : MEnt)]).map meV).toArray := by
      apply Array.ext'
      simp [meV]
    rw [e1]
    exact hk
def mputB (n : Int) (w : Value) : List MEnt → Option (List MEnt)
  | [] => none
  | e :: es => if ((e.b : Nat) : Int) = n then some (⟨e.k, w, e.b⟩ :: es) else (mputB n w es).map (e :: ·)
theorem mputB_spec {n : Int} {w : Value} : ∀ {es es' : List MEnt}, mputB n w es = some es' → ∃ i, (es.map meV).findIdx? (fun e => (e.born : Int) == n) = some i ∧ (es.map meV).modify i (fun e => { e with val := w }) = es'.map meV
  | [], _, h => by cases h
  | e :: es, es', h => by
    unfold mputB at h
    by_cases hb : ((e.b : Nat) : Int) = n
    · rw [if_pos hb] at h
      cases h
      refine ⟨0, ?_, ?_⟩
      · simp [List.findIdx?_cons, meV, hb]
      · simp [meV]
    · rw [if_neg hb] at h
      cases hq : mputB n w es with
      | none => rw [hq] at h; cases h
      | some q =>
        rw [hq] at h
        cases h
        obtain ⟨i, h1, h2⟩ := mputB_spec hq
        refine ⟨i + 1, ?_, ?_⟩
        · have hb2 : (((meV e).born : Int) == n) = false := by simpa [meV] using hb
          simp only [List.map_cons, List.findIdx?_cons, hb2, h1]
          rfl
        · simp only [List.map_cons, List.modify_succ_cons, h2]
theorem eo_entryStore {r ck : Nat} {es es' : List MEnt} {n : Int} {v : Value} (hx : opd a x = .map (some r)) (hy : opd a y = .int .i64 n) (hv : opd a z = v) (hH : H r = some (.obj (.map (es.map meV).toArray ck))) (he : mputB n v es = some es')
    (hk : k undef (hupd H r (.obj (.map (es'.map meV).toArray ck)))) : evOp P ⟨d, .entryStore t x y z, ty, pos, after, g⟩ a H k := by
  obtain ⟨i, h1, h2⟩ := mputB_spec he
  refine evOp_of ?_
  simp only [execOp, hx, hy, hv, Instr.entryStore, ev_bind']
  refine ⟨_, hH, ?_⟩
  simp only [Sem.ev, ev_bind']
  rw [ev_pr_eq (show (asInt (.int .i64 n)).pr P = some n from rfl)]
  have e0 : (List.map meV es).toArray.findIdx? (fun e => (e.born : Int) == n) = some i := by simpa using h1
  rw [e0]
  refine ⟨⟨_, hH⟩, rfl, ?_⟩
  have e1 : (List.map meV es).toArray.modify i (fun e => { e with val := v }) = (es'.map meV).toArray := by
    apply Array.ext'
    simpa using h2
  rw [e1]
  exact hk
end
theorem meK_spec {ρ : Rho} {n : Int} : ∀ {es : List (Int × CV × Nat)} {ms : List MEnt} (d : R) (k : CV → Nat → R) (j : Nat), DM ρ es ms →
    (meK n es d k = d ∧ mfind n ms j = none) ∨ (∃ c b v i, meK n es d k = k c b ∧ DV ρ c v ∧ mfind n ms j = some (i, v) ∧ j ≤ i ∧ bornAt ms (i - j) = b)
  | [], _, d, k, j, h => by cases h; exact .inl ⟨rfl, rfl⟩
  | e :: es, _, d, k, j, h => by
    cases h with
    | @cons kk c b v es ms h1 h2 =>
      have e : meK n ((kk, c, b) :: es) d k = B (eqI n kk) (k c b) (meK n es d k) := rfl
      rw [e, eqI_eq]
      by_cases hk : n = kk
      · rw [decide_eq_true hk]
        exact .inr ⟨c, b, v, j, rfl, h1, by simp [mfind, hk], Nat.le_refl _, by simp [bornAt]⟩
      · rw [decide_eq_false hk, B_false]
        have : mfind n (⟨kk, v, b⟩ :: ms) j = mfind n ms (j + 1) := by simp [mfind, hk]
        rw [this]
        rcases meK_spec d k (j + 1) h2 with h3 | ⟨c', b', v', i, a1, a2, a3, a4, a5⟩
        · exact .inl h3
        · refine .inr ⟨c', b', v', i, a1, a2, a3, by omega, ?_⟩
          rw [show i - j = (i - (j + 1)) + 1 by omega]
          simpa [bornAt] using a5
theorem stK_spec {ρ : Rho} {n : Int} {c : CV} {v : Value} (hv : DV ρ c v) : ∀ {es : List (Int × CV × Nat)} {ms : List MEnt} (k : List (Int × CV × Nat) → R), DM ρ es ms → Fin (stK n c es k) → ∃ es' ms', stK n c es k = k es' ∧ mputB n v ms = some ms' ∧ DM ρ es' ms'
  | [], _, k, h, hf => hf.elim
  | e :: es, _, k, h, hf => by
    cases h with
    | @cons kk c' b v' es ms h1 h2 =>
      have e : stK n c ((kk, c', b) :: es) k = B (eqI (.ofNat b) n) (k ((kk, c, b) :: es)) (stK n c es fun r => k ((kk, c', b) :: r)) := rfl
      rw [e, eqI_eq] at hf ⊢
      by_cases hk : Int.ofNat b = n
      · rw [decide_eq_true hk] at hf ⊢
        refine ⟨_, _, rfl, ?_, .cons hv h2⟩
        unfold mputB
        exact if_pos hk
      · rw [decide_eq_false hk, B_false] at hf ⊢
        obtain ⟨es', ms', a1, a2, a3⟩ := stK_spec hv (fun r => k ((kk, c', b) :: r)) h2 hf
        refine ⟨_, _, a1, ?_, .cons h1 a3⟩
        unfold mputB
        exact (if_neg hk).trans (by rw [a2]; rfl)
theorem meO_ok {t : TypeId} {x y : Operand} : OtOk (meO t x y) P (.mapEntry t x y) := by
  intro cl ρ fr A hp nx H0 H k d ty pos after g hcl hf hh h
  unfold meO at *
  obtain ⟨et, h1, h2⟩ := optR_some h
  rw [h2] at h ⊢
  obtain ⟨z, h3, h4⟩ := optR_some h
  rw [h4] at h ⊢
  obtain ⟨v, h5, h6⟩ := srcX_spec hf h
  rw [h5] at h ⊢
  obtain ⟨w, h7, h8⟩ := srcX_spec hf h
  rw [h7] at h ⊢
  obtain ⟨n, rfl, h9⟩ := on64_spec h
  rw [h9] at h ⊢
  obtain ⟨i, rfl, h10⟩ := onMap_spec h
  rw [h10] at h ⊢
  obtain ⟨X, hX, h6⟩ := inv h6
  obtain ⟨Y, hY, h8⟩ := inv h8
  cases h8
  cases h6 with
  | mp hρ =>
    obtain ⟨es, ck, ms, a1, a2, a3, a4, a5⟩ := map_at hh.rep hρ h
    rw [a1] at h ⊢
    obtain ⟨zv, b1, b2⟩ := zC1_spec (ρ := ρ) h3
    rcases meK_spec (appK es [(n, z, ck)] fun es' => forceN (ck + 1) fun ck' => setK hp i (.mp es' ck') fun hp' => k (.tup [z, .int .i64 (.ofNat ck)]) hp' nx) (fun u b => k (.tup [u, .int .i64 (.ofNat b)]) hp nx) 0 a4 with ⟨c1, c2⟩ | ⟨c, b, u, j, c1, c2, c3, c4, c5⟩
    · rw [c1, appK_eq, forceN_eq]
      obtain ⟨hp', d1, d2⟩ := setK_spec (CB.mp (es ++ [(n, z, ck)]) (ck + 1)) hp i (fun hp' => k (.tup [z, .int .i64 (.ofNat ck)]) hp' nx)
      refine ⟨_, _, _, d1, eo_mapEntry h1 b1 hX hY a5 ?_⟩
      rw [c2]
      refine ⟨ρ, .refl ρ, .tup (.cons b2 (DL.one (.int _ _))), hh.put a2 (by simp) hρ d2 ⟨a3, _, a4.app (.cons b2 .nil), hupd_same _ _ _⟩⟩
    · rw [c1]
      refine ⟨_, _, _, rfl, eo_mapEntry h1 b1 hX hY a5 ?_⟩
      rw [c3]
      simp only
      rw [hupd_self a5]
      have e : bornAt ms j = b := by simpa using c5
      refine ⟨ρ, .refl ρ, ?_, hh⟩
      unfold entV
      simp only [e]
      exact .tup (.cons c2 (DL.one (.int _ _)))
theorem esO_ok {t : TypeId} {x y z : Operand} : OtOk (esO x y z) P (.entryStore t x y z) := by
  intro cl ρ fr A hp nx H0 H k d ty pos after g hcl hf hh h
  unfold esO at *
  obtain ⟨v, h5, h6⟩ := srcX_spec hf h
  rw [h5] at h ⊢
  obtain ⟨w, h7, h8⟩ := srcX_spec hf h
  rw [h7] at h ⊢
  obtain ⟨u, h11, h12⟩ := srcX_spec hf h
  rw [h11] at h ⊢
  obtain ⟨n, rfl, h9⟩ := on64_spec h
  rw [h9] at h ⊢
  obtain ⟨i, rfl, h10⟩ := onMap_spec h
  rw [h10] at h ⊢
  obtain ⟨X, hX, h6⟩ := inv h6
  obtain ⟨Y, hY, h8⟩ := inv h8
  cases h8
  cases h6 with
  | mp hρ =>
    obtain ⟨es, ck, ms, a1, a2, a3, a4, a5⟩ := map_at hh.rep hρ h
    rw [a1] at h ⊢
    obtain ⟨es', ms', e1, e2, e3⟩ := stK_spec h12 (fun es' => setK hp i (.mp es' ck) fun hp' => k .und hp' nx) a4 h
    rw [e1]
    obtain ⟨hp', d1, d2⟩ := setK_spec (CB.mp es' ck) hp i (fun hp' => k .und hp' nx)
    refine ⟨_, _, _, d1, eo_entryStore hX hY rfl a5 e2 ?_⟩
    exact ⟨ρ, .refl ρ, .und, hh.put a2 (by simp) hρ d2 ⟨a3, _, e3, hupd_same _ _ _⟩⟩
theorem rngO_ok {t : TypeId} {x : Operand} : OtOk (rngO t x) P (.range t x) := by
  intro cl ρ fr A hp nx H0 H k d ty pos after g hcl hf hh h
  unfold rngO at *
  obtain ⟨et, h1, h2⟩ := optR_some h
  rw [h2] at h ⊢
  obtain ⟨v, h5, h6⟩ := srcX_spec hf h
  rw [h5] at h ⊢
  obtain ⟨i, rfl, h10⟩ := onMap_spec h
  rw [h10] at h ⊢
  obtain ⟨X, hX, h6⟩ := inv h6
  cases h6 with
  | mp hρ =>
    obtain ⟨es, ck, ms, a1, a2, a3, a4, a5⟩ := map_at hh.rep hρ h
    rw [a1] at h ⊢
    obtain ⟨hp', b1, b2, b3⟩ := newK_spec h
    rw [b1, forceN_eq]
    refine ⟨_, _, _, rfl, eo_range h1 hX a5 fun r hr => ?_⟩
    obtain ⟨c1, c2⟩ := new_obj (o := .mapIter _ ck #[] ck) hh b2 hr b3 (fun ρ' H' he hH => ⟨rfl, _, _, _, he _ _ hρ, hH⟩)
    exact ⟨_, c1, dv_ptr (ext_new _ _ _), c2⟩
theorem memN_eq (n : Nat) : ∀ (l : List Nat), memN n l = l.contains n
  | [] => rfl
  | x :: l => by
    have e : memN n (x :: l) = @Bool.rec (fun _ => Bool) (memN n l) true (Nat.beq n x) := rfl
    rw [e, memN_eq n l, List.contains_cons, beq_iff']
    by_cases h : n = x
    · simp [h]
    · simp [h]
theorem DM.all {ρ : Rho} {p : Nat → Bool} : ∀ {es : List (Int × CV × Nat)} {ms : List MEnt}, DM ρ es ms → (es.all fun e => p e.2.2) = true → ∀ m ∈ ms, p m.b = true
  | [], _, h, _, m, hm => by cases h; cases hm
  | e :: es, _, h, ha, m, hm => by
    cases h with
    | cons h1 h2 =>
      rw [List.all_cons, Bool.and_eq_true] at ha
      rcases List.mem_cons.1 hm with rfl | hm
      · exact ha.1
      · exact DM.all h2 ha.2 m hm
theorem DM.any {ρ : Rho} {p : Nat → Bool} : ∀ {es : List (Int × CV × Nat)} {ms : List MEnt}, DM ρ es ms → (es.any fun e => p e.2.2) = true → ∃ m ∈ ms, p m.b = true
  | [], _, h, ha => by cases ha
  | e :: es, _, h, ha => by
    cases h with
    | cons h1 h2 =>
      rw [List.any_cons, Bool.or_eq_true] at ha
      rcases ha with ha | ha
      · exact ⟨_, List.mem_cons_self, ha⟩
      · obtain ⟨m, hm, hp⟩ := DM.any h2 ha; exact ⟨m, List.mem_cons_of_mem _ hm, hp⟩
theorem DM.filter {ρ : Rho} (p : Nat → Bool) : ∀ {es : List (Int × CV × Nat)} {ms : List MEnt}, DM ρ es ms → DM ρ (es.filter fun e => p e.2.2) (ms.filter fun m => p m.b)
  | [], _, h => by cases h; exact .nil
  | e :: es, _, h => by
    cases h with
    | @cons kk c b v es ms h1 h2 =>
      by_cases hp : p b = true
      · rw [List.filter_cons_of_pos (by simpa using hp), List.filter_cons_of_pos (by simpa using hp)]
        exact .cons h1 (DM.filter p h2)
      · rw [List.filter_cons_of_neg (by simpa using hp), List.filter_cons_of_neg (by simpa using hp)]
        exact DM.filter p h2
theorem DM.nil_iff {ρ : Rho} {es : List (Int × CV × Nat)} {ms : List MEnt} (h : DM ρ es ms) (he : es.isEmpty = true) : ms = [] := by
  cases h with
  | nil => rfl
  | cons _ _ => cases he
/-- an iterator that is there -/
theorem it_at {ρ : Rho} {hp : T CB} {H : Hp} (hr : Rep0 ρ hp H) {i r b N : Nat} {k : Nat → Nat → List Nat → Nat → R} (hρ : ρ i = some (r, b, N)) (h : Fin (getB hp i fun b => onIt b k)) :
    ∃ m s seen last rm bm Nm, (getB hp i fun b => onIt b k) = k m s seen last ∧ getN hp i = some (.it m s seen last) ∧ b = 0 ∧ ρ m = some (rm, bm, Nm) ∧ H r = some (.obj (.mapIter (some rm) s seen.toArray last)) := by
  obtain ⟨cb, h1, h2⟩ := getB_spec h
  rw [h2] at h ⊢
  obtain ⟨m, s, seen, last, rfl, h3⟩ := onIt_spec h
  obtain ⟨h0, rm, bm, Nm, h4, h5⟩ := hr.get h1 hρ
  exact ⟨m, s, seen, last, rm, bm, Nm, h3, h1, h0, h4, h5⟩
theorem nxtO_ok {x : Operand} {s : Bool} : OtOk (nxtO x s) P (.next x s) := by
  intro cl ρ fr A hp nx H0 H k d ty pos after g hcl hf hh h
  unfold nxtO at *
  cases s with
  | true => exact h.elim
  | false =>
    rw [B_false] at h ⊢
    obtain ⟨v, h1, h2⟩ := srcX_spec hf h
    rw [h1] at h ⊢
    obtain ⟨i, o, rfl, h3⟩ := onPtr_spec h
    rw [h3] at h ⊢
    obtain ⟨h4, h5⟩ := B_t h (fun h => h)
    rw [h5] at h ⊢
    have := Nat.eq_of_beq_eq_true h4
    subst this
    obtain ⟨X, hX, h2⟩ := inv h2
    cases h2 with
    | ptr hρ =>
      obtain ⟨m, since, seen, last, rm, bm, Nm, a1, a2, a3, a4, a5⟩ := it_at hh.rep hρ h
      rw [a1] at h ⊢
      subst a3
      obtain ⟨es, ck, ms, b1, b2, b3, b4, b5⟩ := map_at hh.rep a4 h
      rw [b1] at h ⊢
      obtain ⟨c1, c2⟩ := B_t h (fun h => h)
      rw [c2] at h ⊢
      obtain ⟨c3, c4⟩ := B_t h (fun h => h)
      rw [c4] at h ⊢
      have hold : ∀ e ∈ ms, e.b < since := fun e he => by
        have := b4.all (p := fun b => Nat.blt b since) c1 e he
        rw [blt_iff] at this
        exact of_decide_eq_true this
      have hlast : seen = [] ∨ ms = [] ∨ ∃ e ∈ ms, e.b < last := by
        rw [Bool.or_eq_true, Bool.or_eq_true] at c3
        rcases c3 with (c3 | c3) | c3
        · exact .inl (List.isEmpty_iff.1 c3)
        · exact .inr (.inl (b4.nil_iff c3))
        · obtain ⟨e, he, hl⟩ := b4.any (p := fun b => Nat.blt b last) c3
          rw [blt_iff] at hl
          exact .inr (.inr ⟨e, he, of_decide_eq_true hl⟩)
      have hfil := b4.filter (fun b => !memN b seen)
      have hu : unseen seen es = es.filter fun e => !memN e.2.2 seen := rfl
      have hX' : opd A x = .pointer (some ⟨_, 0, none⟩) := hX
      cases hun : unseen seen es with
      | nil =>
        rw [hun] at h
        rw [hu] at hun
        rw [hun] at hfil
        have hms : ∀ e ∈ ms, e.b ∈ seen := fun e he => by
          cases hq : memN e.b seen with
          | true => rw [memN_eq] at hq; simpa using hq
          | false =>
            have : e ∈ ms.filter fun m => !memN m.b seen := List.mem_filter.2 ⟨he, by simp [hq]⟩
            generalize ms.filter (fun m => !memN m.b seen) = L at this hfil
            cases hfil
            cases this
        refine ⟨_, _, _, rfl, eo_next hX' a5 b5 hold (fun e he hn => absurd (hms e he) hn) (fun _ => ?_) hlast⟩
        exact ⟨ρ, .refl ρ, .tup (DL.one (.bool false)), hh⟩
      | cons e l =>
        rw [hun] at h
        cases l with
        | cons _ _ => exact h.elim
        | nil =>
          show ∃ v hp' nx', (appK seen [e.2.2] fun seen' => setK hp i (.it m since seen' ck) fun hp' => k (.tup [.bool true, .int .i64 e.1, e.2.1]) hp' nx) = k v hp' nx' ∧ _
          rw [appK_eq]
          obtain ⟨hp', d1, d2⟩ := setK_spec (CB.it m since (seen ++ [e.2.2]) ck) hp i (fun hp' => k (.tup [.bool true, .int .i64 e.1, e.2.1]) hp' nx)
          rw [hu] at hun
          rw [hun] at hfil
          have hone : ∃ e', ms.filter (fun m => !memN m.b seen) = [e'] ∧ e'.k = e.1 ∧ e'.b = e.2.2 ∧ DV ρ e.2.1 e'.v := by
            generalize ms.filter (fun m => !memN m.b seen) = L at hfil
            cases hfil with
            | cons q1 q2 => cases q2; exact ⟨_, rfl, rfl, rfl, q1⟩
          obtain ⟨e', q0, q1, q2, q3⟩ := hone
          refine ⟨_, _, _, d1, eo_next hX' a5 b5 hold (fun e2 he hn => ?_) (fun hall => ?_) hlast⟩
          · have hin : e2 ∈ ms.filter fun m => !memN m.b seen := List.mem_filter.2 ⟨he, by rw [memN_eq]; simpa using hn⟩
            rw [q0] at hin
            have := List.mem_singleton.1 hin
            subst this
            rw [q1, q2]
            refine ⟨ρ, .refl ρ, .tup (.cons (.bool true) (.cons (.int _ _) (DL.one q3))), hh.put a2 (by simp) hρ d2 ⟨rfl, _, _, _, a4, hupd_same _ _ _⟩⟩
          · have hin : e' ∈ ms.filter fun m => !memN m.b seen := by rw [q0]; exact List.mem_singleton.2 rfl
            obtain ⟨m1, m2⟩ := List.mem_filter.1 hin
            have := hall e' m1
            rw [memN_eq] at m2
            simp [this] at m2
theorem DM.find {ρ : Rho} {p : Nat → Bool} : ∀ {es : List (Int × CV × Nat)} {ms : List MEnt} {e : Int × CV × Nat}, DM ρ es ms → (es.find? fun e => p e.2.2) = some e → ∃ m, (ms.find? fun m => p m.b) = some m ∧ m.k = e.1 ∧ DV ρ e.2.1 m.v
  | [], _, e, h, he => by cases he
  | e0 :: es, _, e, h, he => by
    cases h with
    | @cons kk c b v es ms h1 h2 =>
      by_cases hp : p b = true
      · rw [List.find?_cons_of_pos (by simpa using hp)] at he
        cases he
        exact ⟨_, List.find?_cons_of_pos (by simpa using hp), rfl, h1⟩
      · rw [List.find?_cons_of_neg (by simpa using hp)] at he
        rw [List.find?_cons_of_neg (by simpa using hp)]
        exact DM.find h2 he
theorem entO_ok {x : Operand} : OtOk (entO x) P (.entry x) := by
  intro cl ρ fr A hp nx H0 H k d ty pos after g hcl hf hh h
  unfold entO at *
  obtain ⟨v, h1, h2⟩ := srcX_spec hf h
  rw [h1] at h ⊢
  obtain ⟨i, o, rfl, h3⟩ := onPtr_spec h
  rw [h3] at h ⊢
  obtain ⟨h4, h5⟩ := B_t h (fun h => h)
  rw [h5] at h ⊢
  have := Nat.eq_of_beq_eq_true h4
  subst this
  obtain ⟨X, hX, h2⟩ := inv h2
  cases h2 with
  | ptr hρ =>
    obtain ⟨m, since, seen, last, rm, bm, Nm, a1, a2, a3, a4, a5⟩ := it_at hh.rep hρ h
    rw [a1] at h ⊢
    subst a3
    unfold lastK at *
    obtain ⟨b, q1, q2⟩ := optR_some h
    rw [q2] at h ⊢
    obtain ⟨es, ck, ms, b1, b2, b3, b4, b5⟩ := map_at hh.rep a4 h
    rw [b1] at h ⊢
    obtain ⟨c1, c2⟩ := B_t h (fun h => h)
    rw [c2] at h ⊢
    have := Nat.eq_of_beq_eq_true c1
    subst this
    obtain ⟨e, c3, c4⟩ := optR_some h
    rw [c4]
    obtain ⟨e', d1, d2, d3⟩ := b4.find (p := fun z => Nat.beq z b) c3
    have hseen : seen = seen.dropLast ++ [b] := by
      have hne : seen ≠ [] := fun h => by rw [h] at q1; cases q1
      rw [List.getLast?_eq_some_getLast hne] at q1
      cases q1
      exact (List.dropLast_concat_getLast hne).symm
    rw [hseen] at a5
    have hfd : (ms.find? fun e => e.b == b) = some e' := by
      rw [← d1]
      congr 1
      funext z
      rw [beq_iff']
      by_cases hz : z.b = b <;> simp [hz]
    refine ⟨_, _, _, rfl, eo_entry hX a5 b5 hfd ?_⟩
    rw [d2]
    exact ⟨ρ, .refl ρ, .tup (.cons (.int _ _) (DL.one d3)), hh⟩
theorem delO_ok {x y : Operand} {st xt : TypeId} : OtOk (delO x y st xt) P (.call { callee := .builtin .delete, args := #[x, y], argTypes := #[st, xt] }) := by
  intro cl ρ fr A hp nx H0 H k d ty pos after g hcl hf hh h
  unfold delO at *
  obtain ⟨et, h1, h2⟩ := optR_some h
  rw [h2] at h ⊢
  obtain ⟨v, h5, h6⟩ := srcX_spec hf h
  rw [h5] at h ⊢
  obtain ⟨w, h7, h8⟩ := srcX_spec hf h
  rw [h7] at h ⊢
  obtain ⟨n, rfl, h9⟩ := on64_spec h
  rw [h9] at h ⊢
  obtain ⟨i, rfl, h10⟩ := onMap_spec h
  rw [h10] at h ⊢
  obtain ⟨X, hX, h6⟩ := inv h6
  obtain ⟨Y, hY, h8⟩ := inv h8
  cases h8
  cases h6 with
  | mp hρ =>
    obtain ⟨es, ck, ms, a1, a2, a3, a4, a5⟩ := map_at hh.rep hρ h
    rw [a1] at h ⊢
    obtain ⟨es', e1, e2⟩ := mdelK_spec (n := n) (fun es' => setK hp i (.mp es' ck) fun hp' => k (.tup []) hp' nx) a4
    rw [e1]
    obtain ⟨hp', d1, d2⟩ := setK_spec (CB.mp es' ck) hp i (fun hp' => k (.tup []) hp' nx)
    refine ⟨_, _, _, d1, eo_delete h1 hX hY a5 ⟨ρ, .refl ρ, .tup .nil, hh.put a2 (by simp) hρ d2 ⟨a3, _, e2, hupd_same _ _ _⟩⟩⟩
end
end Go.Ex

