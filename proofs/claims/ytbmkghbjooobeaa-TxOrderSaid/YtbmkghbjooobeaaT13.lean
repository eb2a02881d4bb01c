/- A store into an element of an owned row: lemmas; each with the conditions that it states. -/
import Derived.Test.YtbmkghbjooobeaaFe
namespace Go.Sl
theorem ovL_app : ∀ (vs mid post : List Value), vs.length ≤ mid.length → ovL vs (mid ++ post) = ovL vs mid ++ post
  | [], _, _, _ => by simp [ovL]
  | v :: vs, [], _, h => by simp at h
  | v :: vs, m :: mid, post, h => by
    have := ovL_app vs mid post (by simpa using h)
    simp [ovL, this]
theorem setF_pre : ∀ (pre l : List Value) (n : Nat) (vs : List Value), setF (pre ++ l) (pre.length + n) vs = pre ++ setF l n vs
  | [], l, n, vs => by simp
  | p :: pre, l, n, vs => by
    have := setF_pre pre l n vs
    rw [List.length_cons, show pre.length + 1 + n = (pre.length + n) + 1 by omega, List.cons_append]
    show p :: setF (pre ++ l) (pre.length + n) vs = _
    rw [this]; rfl
theorem setF_app : ∀ (mid post : List Value) (k : Nat) (vs : List Value), k + vs.length ≤ mid.length → setF (mid ++ post) k vs = setF mid k vs ++ post
  | mid, post, 0, vs, h => by
    have z : ∀ l, setF l 0 vs = ovL vs l := fun l => by cases l <;> rfl
    rw [z, z]
    exact ovL_app vs mid post (by omega)
  | [], post, k + 1, vs, h => by simp at h
  | m :: mid, post, k + 1, vs, h => by
    show m :: setF (mid ++ post) k vs = m :: (setF mid k vs ++ post)
    rw [setF_app mid post k vs (by simp at h; omega)]
section
variable {α : Type} {E : Cod α} {xs : List α}
theorem flat_set {j k : Nat} {y y' : α} {vs pre post : List Value} (hj : xs[j]? = some y) (hk : k + vs.length ≤ E.sz) (he : setF (E.enc y) k vs = E.enc y') :
    setF (pre ++ xs.flatMap E.enc ++ post) (pre.length + (j * E.sz + k)) vs = pre ++ (xs.set j y').flatMap E.enc ++ post := by
  have hlt : j < xs.length := by
    rcases Nat.lt_or_ge j xs.length with h | h
    · exact h
    · rw [List.getElem?_eq_none h] at hj; cases hj
  have e1 : xs = xs.take j ++ y :: xs.drop (j + 1) := by
    have h2 := List.drop_eq_getElem_cons hlt
    rw [List.getElem?_eq_getElem hlt] at hj
    cases hj
    rw [← h2, List.take_append_drop]
  have e2 : xs.set j y' = xs.take j ++ y' :: xs.drop (j + 1) := List.set_eq_take_append_cons_drop ▸ (by rw [if_pos hlt])
  have hl : ((xs.take j).flatMap E.enc).length = j * E.sz := by rw [E.flat_len, List.length_take, Nat.min_eq_left (by omega)]
  have hE := E.len y
  rw [e2, List.append_assoc, setF_pre]
  have e3 : xs.flatMap E.enc ++ post = (xs.take j).flatMap E.enc ++ (E.enc y ++ ((xs.drop (j + 1)).flatMap E.enc ++ post)) := by
    conv => lhs; rw [e1]
    simp only [List.flatMap_append, List.flatMap_cons, List.append_assoc]
  rw [e3, ← hl, setF_pre, setF_app _ _ _ _ (by omega), he]
  simp only [List.flatMap_append, List.flatMap_cons, List.append_assoc]
variable {P : Program} {ops : Array Oper} {Q : Fr → List HP → Prop} {a : Fr} {C R : List HP} {c : Nat} {gd : Bool} {es : ET} {hist : List (List HP)}
variable {ty : TypeId} {pos : String} {after : Array Edge} {g : Option (Nat × Bool)} {t : TypeId} {x z : Operand}
theorem G_storeE {B off j k c0 n sz : Nat} {e : TypeId} {vs : List Value} {u : Value} {y y' : α} (h : evG P ops Q es (C :: hist) a (row (some ⟨B, off, none⟩) c0 e E (xs.set j y') :: R)) (hx : opd a x = .pointer (some ⟨B, off + j * sz + k, none⟩) := by exact rfl)
    (hp : Pick (row (some ⟨B, off, none⟩) c0 e E xs) C R := by ((repeat (first | exact Pick.here | apply Pick.there)) <;> exact Pick.here)) (hsz : E.sz = sz := by exact rfl) (hy : force (opd a z) = some u := by exact rfl) (hvs : copyL u.cells.toList = some vs := by exact rfl) (ht : infoSz P t = some n := by exact rfl)
    (hn : (vs.length == n) = true := by exact rfl) (hone : (vs.all Value.oneCell') = true := by exact rfl) (hle : Nat.ble (k + n) sz = true := by exact rfl) (hj : xs[j]? = some y := by first | assumption | exact rfl) (hs : E.dec (setF (E.enc y) k vs) = some y' := by exact rfl)
    (hw : wantB ops ⟨none, .store t x z, ty, pos, after, g⟩ a = true := by exact rfl) : evG P ops Q (ET.cons (c, gd, ⟨none, .store t x z, ty, pos, after, g⟩) es) hist a C :=
  G_o0 (hw := hw) fun H hH => by
    have hn' : vs.length = n := by simpa using hn
    have hle' : k + n ≤ sz := by simpa using hle
    rcases sats_row (hp.sats hH) with ⟨h1, _⟩ | ⟨B', pre, post, h1, h2, h3, h4⟩
    · cases h1
    · cases h1
      subst hsz
      have hlt : j < xs.length := by
        rcases Nat.lt_or_ge j xs.length with h | h
        · exact h
        · rw [List.getElem?_eq_none h] at hj; cases hj
      have hfl := E.flat_len xs
      have hmul : (j + 1) * E.sz ≤ xs.length * E.sz := Nat.mul_le_mul_right _ hlt
      rw [Nat.add_mul, Nat.one_mul] at hmul
      refine eo_store hx (force_eq hy) (copyL_eq hvs) ht hn' hone (sats_pt h2).1 (by simp only [List.length_append, hfl]; omega) ?_
      rw [← setF_eq, show pre.length + j * E.sz + k = pre.length + (j * E.sz + k) by omega, flat_set hj (by omega) (E.ok _ _ hs).symm]
      exact ⟨_, row_sats rfl (sats_put h2) (by rw [List.length_set]; exact h3) (by rw [List.length_set]; exact h4), h⟩
theorem G_storeE0 {B off j c0 n sz : Nat} {e : TypeId} {vs : List Value} {u : Value} {y y' : α} (h : evG P ops Q es (C :: hist) a (row (some ⟨B, off, none⟩) c0 e E (xs.set j y') :: R)) (hx : opd a x = .pointer (some ⟨B, off + j * sz, none⟩) := by exact rfl)
    (hp : Pick (row (some ⟨B, off, none⟩) c0 e E xs) C R := by ((repeat (first | exact Pick.here | apply Pick.there)) <;> exact Pick.here)) (hsz : E.sz = sz := by exact rfl) (hy : force (opd a z) = some u := by exact rfl) (hvs : copyL u.cells.toList = some vs := by exact rfl) (ht : infoSz P t = some n := by exact rfl)
    (hn : (vs.length == n) = true := by exact rfl) (hone : (vs.all Value.oneCell') = true := by exact rfl) (hle : Nat.ble (0 + n) sz = true := by exact rfl) (hj : xs[j]? = some y := by first | assumption | exact rfl) (hs : E.dec (setF (E.enc y) 0 vs) = some y' := by exact rfl)
    (hw : wantB ops ⟨none, .store t x z, ty, pos, after, g⟩ a = true := by exact rfl) : evG P ops Q (ET.cons (c, gd, ⟨none, .store t x z, ty, pos, after, g⟩) es) hist a C :=
  G_storeE (k := 0) h (by rw [hx, Nat.add_zero]) hp hsz hy hvs ht hn hone hle hj hs hw
end
end Go.Sl
