/- The walk's steps, second part (printed by a small program): lemmas; each with the conditions that it states. -/
import Derived.Test.YtgdfmbnbknhhiaaSl10
namespace Go.Sl
section
variable {P : Program} {ops : Array Oper} {Q : Fr → Hp → Prop} {a : Fr} {H : Hp} {i c : Nat} {rest : List Oper} {l : List (Nat × Nat)} {hist : List Hp} {d' : Nat} {d : Option Tmp}
variable {ty : TypeId} {pos : String} {after : Array Edge} {g : Option (Nat × Bool)} {t yt : TypeId} {x y z : Operand}
section
variable {P : Program} {ops : Array Oper} {Q : Fr → Hp → Prop} {a : Fr} {H : Hp} {i c : Nat} {rest : List Oper} {l : List (Nat × Nat)} {hist : List Hp} {d' : Nat} {d : Option Tmp}
variable {ty : TypeId} {pos : String} {after : Array Edge} {g : Option (Nat × Bool)} {t yt : TypeId} {x y z : Operand}
theorem wrap64 {z : Int} (h0 : -9223372036854775808 ≤ z) (h1 : z ≤ 9223372036854775807) : IntKind.wrap .i64 z = z := by
  simp [IntKind.wrap, IntKind.bits, IntKind.signed]
  split <;> omega
theorem pv_add64 {m n : Int} (hx : opd a x = .int .i64 m) (hy : opd a y = .int .i64 n) (h0 : -9223372036854775808 ≤ m + n) (h1 : m + n ≤ 9223372036854775807) : pureV P ⟨d, .binOp .add t x y yt, ty, pos, after, g⟩ a = some (.int .i64 (m + n)) := by
  have := pv_int (P := P) (d := d) (t := t) (yt := yt) (ty := ty) (pos := pos) (after := after) (g := g) (op := .add) hx hy rfl rfl
  rw [wrap64 h0 h1] at this; exact this
theorem pv_sub64 {m n : Int} (hx : opd a x = .int .i64 m) (hy : opd a y = .int .i64 n) (h0 : -9223372036854775808 ≤ m - n) (h1 : m - n ≤ 9223372036854775807) : pureV P ⟨d, .binOp .sub t x y yt, ty, pos, after, g⟩ a = some (.int .i64 (m - n)) := by
  have := pv_int (P := P) (d := d) (t := t) (yt := yt) (ty := ty) (pos := pos) (after := after) (g := g) (op := .sub) hx hy rfl rfl
  rw [wrap64 h0 h1] at this; exact this
theorem pv_mul64 {m n : Int} (hx : opd a x = .int .i64 m) (hy : opd a y = .int .i64 n) (h0 : -9223372036854775808 ≤ m * n) (h1 : m * n ≤ 9223372036854775807) : pureV P ⟨d, .binOp .mul t x y yt, ty, pos, after, g⟩ a = some (.int .i64 (m * n)) := by
  have := pv_int (P := P) (d := d) (t := t) (yt := yt) (ty := ty) (pos := pos) (after := after) (g := g) (op := .mul) hx hy rfl rfl
  rw [wrap64 h0 h1] at this; exact this
section
variable {P : Program} {a : Fr} {H : Hp}
theorem rs_nil : resVs P a H [] = some [] := rfl
theorem rs_tmp {t : Tmp} {rs : List ResultVar} {v : Value} {vs : List Value} (hx : force (a t) = some v) (h : resVs P a H rs = some vs) : resVs P a H (.tmp t :: rs) = some (v :: vs) := by
  simp only [resVs, resV, h, force_eq hx]
theorem rs_tmp' {t : Tmp} {rs : List ResultVar} {v : Value} {vs : List Value} (hx : a t = v) (h : resVs P a H rs = some vs) : resVs P a H (.tmp t :: rs) = some (v :: vs) := by
  simp only [resVs, resV, h, hx]
theorem rs_cell {p : Tmp} {t : TypeId} {B off : Nat} {cs : List Value} {e : TypeId} {rw : Bool} {rs : List ResultVar} {v : Value} {vs : List Value} (hx : a p = .pointer (some ⟨B, off, none⟩)) (hb : H B = some (.cells cs e rw)) (hv : ldC P t cs off = some v) (h : resVs P a H rs = some vs) :
    resVs P a H (.cell p t :: rs) = some (v :: vs) := by
  simp only [resVs, resV, h, hx, ldC_ldV hb hv]
end


theorem get_skip3 {H H0 : Hp} {r B : Nat} {b b' c : Blk} (hr : H0 r = none) (h0 : H0 B = some c) (hB : H B = some b) : hupd H r b' B = some b := by
  rw [hupd_ne]
  · exact hB
  · rintro rfl; rw [hr] at h0; cases h0
theorem eo_store_t {P : Program} {a : Fr} {H1 : Hp} {d : Option Tmp} {t ty : TypeId} {pos : String} {after : Array Edge} {g : Option (Nat × Bool)} {x y : Operand} {k : Value → Hp → Prop} {B off n : Nat} {cs cs' vs : List Value} {e : TypeId} {u : Value} (hx : opd a x = .pointer (some ⟨B, off, none⟩)) (hy : force (opd a y) = some u) (hvs : copyL u.cells.toList = some vs) (ht : infoSz P t = some n) (hn : (vs.length == n) = true)
    (hone : (vs.all Value.oneCell') = true) (hle : Nat.ble (off + n) cs.length = true) (hs : copyL (setF cs off vs) = some cs') (hk : k undef (hupd H1 B (.cells cs' e true))) :
    evOp P ⟨d, .store t x y, ty, pos, after, g⟩ a (hupd H1 B (.cells cs e true)) k :=
  eo_store_c hx hy hvs ht hn hone (hupd_same _ _ _) hle hs (by rw [hupd_hupd]; exact hk)
theorem none_back {H : Hp} {r s : Nat} {b : Blk} (h : hupd H r b s = none) : H s = none := by
  unfold hupd at h; split at h
  · cases h
  · exact h
theorem histOk_nil {p : Hp → Prop} : histOk p [] := trivial
theorem histOk_cons {p : Hp → Prop} {h : Hp} {hs : List Hp} (h1 : p h) (h2 : histOk p hs) : histOk p (h :: hs) := ⟨h1, h2⟩

/-- A frame that is known at some places. -/
def Agree (a : Fr) : List (Nat × Value) → Prop
  | [] => True
  | (t, v) :: l => a t = v ∧ Agree a l
def updL (a : Fr) : List (Nat × Value) → Fr
  | [] => a
  | (t, v) :: l => upd (updL a l) t v
theorem updL_eq {a : Fr} : ∀ {l : List (Nat × Value)}, Agree a l → updL a l = a := by
  intro l
  induction l with
  | nil => intro _; rfl
  | cons x l ih =>
    intro h
    obtain ⟨h1, h2⟩ := h
    have := ih h2
    show upd (updL a l) x.1 x.2 = a
    rw [this]
    funext i
    unfold upd
    split
    · rename_i e; subst e; exact h1.symm
    · rfl
theorem ev_fr {P : Program} {c : Code} {Q : Exit → Fr → Hp → Prop} {a : Fr} {H : Hp} (l : List (Nat × Value)) (h : Agree a l) (he : ev P c Q (updL a l) H) : ev P c Q a H := by
  rw [updL_eq h] at he; exact he

theorem Kv {K : Value → Hp → Prop} {v v' : Value} {H : Hp} (h : K v H) (e : v = v') : K v' H := e ▸ h
theorem Ki {K : Value → Hp → Prop} {k : IntKind} {x y : Int} {H : Hp} (h : K (.int k x) H) (e : x = y) : K (.int k y) H := e ▸ h
theorem Kb {K : Value → Hp → Prop} {b c : Bool} {H : Hp} (h : K (.bool b) H) (e : (b = true) ↔ (c = true)) : K (.bool c) H := by
  have : b = c := by cases b <;> cases c <;> simp_all
  exact this ▸ h
end
end
end Go.Sl
