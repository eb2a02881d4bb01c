/- Append to a slice with nothing in it; appends of elements of many bytes: lemmas; each with the conditions that it states. -/
import Derived.Test.YtbmkghbjooobeaaT13
namespace Go.Sl
theorem Ent.unsep {A B : HP} {C : List HP} : Ent (Go.Sl.sep A B :: C) (A :: B :: C) := fun _ hs => Sats.star (l := [A, B]) hs
def natG (n : Nat) : Option Nat := if n < 95 then natF n else if n < 190 then (natF (n - 95)).map (· + 95) else (natF (n - 190)).map (· + 190)
theorem natG_eq {n m : Nat} (h : natG n = some m) : n = m := by
  unfold natG at h
  split at h
  · exact natF_eq h
  · split at h
    · cases h1 : natF (n - 95) with
      | none => rw [h1] at h; cases h
      | some k => rw [h1] at h; cases h; have := natF_eq h1; show n = k + _; omega
    · cases h1 : natF (n - 190) with
      | none => rw [h1] at h; cases h
      | some k => rw [h1] at h; cases h; have := natF_eq h1; show n = k + _; omega
def appU (P : Program) (st xt : TypeId) : Option (TypeId × Nat × Nat) := match appT0 P st xt with
  | some (e, sz, b) => match natF sz with
    | some sz => match natG b with
      | some b => some (e, sz, b)
      | none => none
    | none => none
  | none => none
theorem append_ofU {P : Program} {st xt e : TypeId} {sz b : Nat} (h : appU P st xt = some (e, sz, b)) : ∃ inf z, P.underlying st = some (.slice e) ∧ notIntT P xt = true ∧ P.info? e = some inf ∧ inf.zero = some z ∧ z.cells.size = inf.size ∧ inf.bytes ≠ 0 ∧ inf.size = sz ∧ inf.bytes = b := by
  unfold appU at h
  split at h
  · rename_i e' sz' b' h0
    split at h
    · rename_i sz2 h1
      split at h
      · rename_i b2 h2
        cases h
        unfold appT0 at h0
        split at h0
        · rename_i e2 hst
          split at h0
          · rename_i inf hi
            split at h0
            · rename_i z hz
              split at h0
              · rename_i hc
                cases h0
                exact ⟨inf, z, hst, hc.2.2, hi, hz, hc.1, hc.2.1, natF_eq h1, natG_eq h2⟩
              · cases h0
            · cases h0
          · cases h0
        · cases h0
      · cases h
    · cases h
  · cases h
section
variable {α : Type} {E : Cod α} {xs : List α}
variable {P : Program} {ops : Array Oper} {Q : Fr → List HP → Prop} {a : Fr} {C R : List HP} {c d' : Nat} {d : Option Tmp} {gd : Bool} {es : ET} {hist : List (List HP)}
variable {ty : TypeId} {pos : String} {after : Array Edge} {g : Option (Nat × Bool)} {x y : Operand}
theorem eo_appendU {st xt e : TypeId} {sz bytes cp c0 n : Nat} {A : Option Addr} {ys : List α} {u : Value} {R : List HP} {k : Value → List HP → Prop} (ht : appU P st xt = some (e, sz, bytes)) (hsz : E.sz = sz) (hx : opd a x = .slice A n cp) (hn : xs.length = n) (hy : opd a y = u) (hsrc : Src P C u E ys)
    (hp : Pick (row A c0 e E xs) C R) (hcc : cp = c0 ∨ (n ≤ cp ∧ cp ≤ c0)) (hbig : (2 * (n + ys.length) + 512) * bytes ≤ 281474976710656)
    (hk : ∀ A' c', k (.slice A' (xs ++ ys).length c') (row A' c' e E (xs ++ ys) :: R)) : EvOp P ⟨d, .call { callee := .builtin .append, args := #[x, y], argTypes := #[st, xt] }, ty, pos, after, g⟩ a C k := fun H hs => by
  obtain ⟨inf, zz, h1, h2, h3, h4, h5, h6, h7, rfl⟩ := append_ofU ht
  subst hsz
  have hrs := hp.sats hs
  have hr := sats_row hrs
  have hcl : n ≤ cp ∧ cp ≤ c0 := by
    rcases hcc with rfl | h
    · rcases hr with ⟨g1, g2, g3, g4⟩ | ⟨B, pre, post, g1, g2, g3, g4⟩
      · subst g2 g3; simp at hn; omega
      · omega
    · exact h
  obtain ⟨hcp, hc0⟩ := hcl
  have hmn : (xs ++ ys).length = n + ys.length := by rw [List.length_append, hn]
  refine evOp_of ?_
  simp only [execOp, resolve, List.map_toArray, List.map_cons, List.map_nil, hx, hy]
  rw [ev_bind', ev_pr_eq (show (pure _ : Sem Deferred).pr P = some _ from rfl)]
  simp only [invoke, builtin, ev_bind']
  obtain ⟨hlen, hcells⟩ := hsrc
  rw [hmn] at hk
  refine ev_append2 (xs := xs.flatMap E.enc) (news := ys.flatMap E.enc) h1 h2 h3 h4 h5 hlen (by rw [h7]; exact hcells H hs) (by rw [E.flat_len, h7]) (E.flat_one ys) (by rw [E.flat_len, hn, h7]) ?_ hbig h6 ?_ ?_ ?_
  · rcases hr with ⟨g1, g2, g3, g4⟩ | ⟨B, pre, post, g1, g2, g3, g4⟩
    · subst g2; simp at hn; exact .inl ⟨g1, by omega, by omega⟩
    · refine .inr ⟨B, pre, post, e, true, g1, (sats_pt g2).1, hcp, ?_, .inr (.inl rfl)⟩
      rw [h7]
      exact Nat.le_trans (Nat.mul_le_mul_right _ (by omega)) g4
  · intro hm0
    have hys : ys = [] := by simpa using hm0
    have hk' := hk A cp
    subst hys
    rw [List.append_nil, List.length_nil, Nat.add_zero] at hk'
    refine ⟨_, ?_, hk'⟩
    rcases hr with ⟨g1, g2, g3, g4⟩ | ⟨B, pre, post, g1, g2, g3, g4⟩
    · subst g1 g2 g3
      have : cp = 0 := by omega
      subst this
      exact row_nil_sats g4
    · exact row_sats g1 g2 (by omega) (Nat.le_trans (Nat.mul_le_mul_right _ (by omega)) g4)
  · intro B pre post e' hA hB hle hpl
    rcases hr with ⟨g1, _⟩ | ⟨B', pre', post', g1, g2, g3, g4⟩
    · rw [g1] at hA; cases hA
    · rw [g1] at hA
      have hBB : B' = B := congrArg Addr.block (Option.some.inj hA)
      subst hBB
      have hpre : pre'.length = pre.length := congrArg Addr.off (Option.some.inj hA)
      have hB' := (sats_pt g2).1
      rw [hB'] at hB
      injection hB with hB
      injection hB with hcs he _
      subst he
      rw [List.append_assoc, List.append_assoc] at hcs
      obtain ⟨q1, q2⟩ := List.append_inj hcs hpre
      obtain ⟨_, q3⟩ := List.append_inj q2 rfl
      subst q1 q3
      refine ⟨_, row_sats (pre := pre') (post := post'.drop (ys.flatMap E.enc).length) g1 ?_ (by rw [hmn]; exact hle) ?_, hk A cp⟩
      · rw [List.flatMap_append]
        exact sats_put g2
      · rw [hmn, List.length_drop, E.flat_len, ← Nat.sub_sub, Nat.sub_mul, ← h7]
        omega
  · intro r post N hr0 hN hpl _
    refine ⟨_, row_sats (pre := []) (post := post) rfl ?_ (by rw [hmn]; exact hN) (by rw [hmn, hpl, h7]; exact Nat.le_refl _), hk _ N⟩
    rw [List.flatMap_append, List.nil_append]
    exact sats_new hr0 hrs.tail
theorem G_appendU {st xt e : TypeId} {sz bytes cp c0 n : Nat} {A : Option Addr} {ys : List α} {u : Value} {R : List HP} (h : ∀ A' c', spl gd (.slice A' (xs ++ ys).length c') fun v => evG P ops Q es (C :: hist) (upd a d' v) (row A' c' e E (xs ++ ys) :: R))
    (hx : opd a x = .slice A n cp := by exact rfl) (hy : opd a y = u := by exact rfl) (ht : appU P st xt = some (e, sz, bytes) := by exact rfl) (hp : Pick (row A c0 e E xs) C R := by ((repeat (first | exact Pick.here | apply Pick.there)) <;> exact Pick.here)) (hsrc : Src P C u E ys := by first | exact src_byte | exact src_one | exact src_str | exact src_view) (hsz : E.sz = sz := by exact rfl) (hn : xs.length = n := by first | exact rfl | assumption | omega)
    (hcc : cp = c0 ∨ (n ≤ cp ∧ cp ≤ c0) := by first | exact .inl rfl | exact .inr ⟨by omega, by omega⟩) (hbig : (2 * (n + ys.length) + 512) * bytes ≤ 281474976710656 := by first | omega | assumption | (simp only [List.length_cons, List.length_nil]; omega))
    (hw : wantB ops ⟨some d', .call { callee := .builtin .append, args := #[x, y], argTypes := #[st, xt] }, ty, pos, after, g⟩ a = true := by exact rfl) : evG P ops Q (ET.cons (c, gd, ⟨some d', .call { callee := .builtin .append, args := #[x, y], argTypes := #[st, xt] }, ty, pos, after, g⟩) es) hist a C :=
  G_o (hw := hw) (eo_appendU ht hsz hx hn hy hsrc hp hcc hbig h)
/-- append to a slice that is nil -/
theorem G_appendNU {st xt e : TypeId} {sz bytes : Nat} {ys : List α} {u : Value} (h : ∀ A' c', spl gd (.slice A' ys.length c') fun v => evG P ops Q es (C :: hist) (upd a d' v) (row A' c' e E ys :: C))
    (hx : opd a x = .slice none 0 0 := by exact rfl) (hy : opd a y = u := by exact rfl) (ht : appU P st xt = some (e, sz, bytes) := by exact rfl) (hsrc : Src P C u E ys := by first | exact src_byte | exact src_one | exact src_str | exact src_view) (hsz : E.sz = sz := by exact rfl)
    (hbig : (2 * (0 + ys.length) + 512) * bytes ≤ 281474976710656 := by first | omega | assumption | (simp only [List.length_cons, List.length_nil]; omega))
    (hw : wantB ops ⟨some d', .call { callee := .builtin .append, args := #[x, y], argTypes := #[st, xt] }, ty, pos, after, g⟩ a = true := by exact rfl) : evG P ops Q (ET.cons (c, gd, ⟨some d', .call { callee := .builtin .append, args := #[x, y], argTypes := #[st, xt] }, ty, pos, after, g⟩) es) hist a C :=
  G_o (hw := hw) (EvOp.ent (Ent.nilrow e E C) (eo_appendU (xs := []) ht hsz hx rfl hy ⟨hsrc.1, fun H hs => hsrc.2 H hs.tail⟩ Pick.here (.inl rfl) hbig h))
theorem row_of_empty {r : Nat} {e : TypeId} (hp : Pick (pt r [] e) C R) : Ent C (row (some ⟨r, 0, none⟩) 0 e E ([] : List α) :: R) := fun H hs => row_sats (pre := []) (post := []) rfl (hp.sats hs) (Nat.le_refl _) (by simp)
theorem G_appendZU {st xt e : TypeId} {sz bytes r : Nat} {ys : List α} {u : Value} (h : ∀ A' c', spl gd (.slice A' ys.length c') fun v => evG P ops Q es ((row (some ⟨r, 0, none⟩) 0 e E ([] : List α) :: R) :: hist) (upd a d' v) (row A' c' e E ys :: R))
    (hx : opd a x = .slice (some ⟨r, 0, none⟩) 0 0 := by exact rfl) (hy : opd a y = u := by exact rfl) (ht : appU P st xt = some (e, sz, bytes) := by exact rfl) (hp : Pick (pt r [] e) C R := by ((repeat (first | exact Pick.here | apply Pick.there)) <;> exact Pick.here)) (hsrc : Src P (row (some ⟨r, 0, none⟩) 0 e E ([] : List α) :: R) u E ys := by first | exact src_byte | exact src_one | exact src_str | exact src_view) (hsz : E.sz = sz := by exact rfl)
    (hbig : (2 * (0 + ys.length) + 512) * bytes ≤ 281474976710656 := by first | omega | assumption | (simp only [List.length_cons, List.length_nil]; omega))
    (hw : wantB ops ⟨some d', .call { callee := .builtin .append, args := #[x, y], argTypes := #[st, xt] }, ty, pos, after, g⟩ a = true := by exact rfl) : evG P ops Q (ET.cons (c, gd, ⟨some d', .call { callee := .builtin .append, args := #[x, y], argTypes := #[st, xt] }, ty, pos, after, g⟩) es) hist a C :=
  evG_ent (row_of_empty hp) (G_appendU (xs := []) (n := 0) h hx hy ht Pick.here hsrc hsz rfl (.inl rfl) hbig hw)
end
end Go.Sl
