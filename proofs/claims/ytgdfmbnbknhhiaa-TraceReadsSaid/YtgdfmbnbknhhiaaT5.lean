/- Rows: what a slice reads as: lemmas; each with the conditions that it states. -/
import Derived.Test.YtgdfmbnbknhhiaaT3
namespace Go.Sl

theorem ev_append2 {P : Program} {H : Hp} {st xt ty e : TypeId} {inf : TypeInfo} {z x : Value} {A : Option Addr} {n m c : Nat} {xs news : List Value} {q : Value → Hp → Prop} (hst : P.underlying st = some (.slice e)) (hxt : notIntT P xt = true) (hi : P.info? e = some inf) (hz : inf.zero = some z)
    (hzs : z.cells.size = inf.size) (hlen : (Builtin.lenOf x).pr P = some m) (hnews : (Builtin.firstCells inf.size m x).rd P H = some news.toArray) (hnl : news.length = m * inf.size) (hone : (news.all Value.oneCell') = true) (hxl : xs.length = n * inf.size)
    (hrow : (A = none ∧ n = 0 ∧ c = 0) ∨ ∃ B pre post e' rw, A = some ⟨B, pre.length, none⟩ ∧ H B = some (.cells (pre ++ xs ++ post) e' rw) ∧ n ≤ c ∧ (c - n) * inf.size ≤ post.length ∧ (m = 0 ∨ rw = true ∨ c < n + m))
    (hbig : (2 * (n + m) + 512) * inf.bytes ≤ 281474976710656) (hby : inf.bytes ≠ 0)
    (h0 : m = 0 → q (.slice A n c) H)
    (h1 : ∀ B pre post e', A = some ⟨B, pre.length, none⟩ → H B = some (.cells (pre ++ xs ++ post) e' true) → n + m ≤ c → (c - n) * inf.size ≤ post.length → q (.slice A (n + m) c) (hupd H B (.cells (pre ++ (xs ++ news) ++ post.drop news.length) e' true)))
    (hk : ∀ r post N, H r = none → n + m ≤ N → post.length = (N - (n + m)) * inf.size → c < n + m → q (.slice (some ⟨r, 0, none⟩) (n + m) N) (hupd H r (.cells (xs ++ news ++ post) e true))) :
    (Builtin.append_ #[st, xt] ty #[.slice A n c, x]).ev P H q := by
  obtain ⟨D, hD, hDn⟩ := notIntT_spec hxt
  unfold Builtin.append_
  simp only [List.getElem?_toArray, List.getElem?_cons_zero, List.getElem?_cons_succ]
  rw [ev_bind', ev_pr_eq (pr_underlying hst)]
  simp only
  rw [ev_bind', ev_pr_eq (pr_sizeOf hi)]
  rw [ev_bind', ev_pr_eq (pr_underlying hD), pure_bind]
  simp only [Bool.false_eq_true, if_false, Bool.not_false, if_true, false_or]
  rw [ev_bind', ev_pr_eq hlen]
  by_cases hle : n + m ≤ c
  · rw [if_pos hle, ev_bind']
    refine ev_rd_eq hnews ?_
    rcases hrow with ⟨g1, g2, g3⟩ | ⟨B, pre, post, e', rw, g1, hb, hnc, hpl, hrw⟩
    · subst g1 g2 g3
      have hm0 : m = 0 := by omega
      subst hm0
      exact h0 rfl
    · subst g1
      simp only
      rw [ev_bind', add_off]
      by_cases hm0 : m = 0
      · subst hm0
        have : news = [] := by simpa using hnl
        subst this
        exact h0 rfl
      · have hrt : rw = true := by
          rcases hrw with h | h | h
          · exact absurd h hm0
          · exact h
          · omega
        subst hrt
        have hml : m * inf.size ≤ post.length := Nat.le_trans (Nat.mul_le_mul_right _ (by omega)) hpl
        refine ev_storeCells news 0 _ _ H _ hb (by simp [hxl, hnl]; omega) hone ?_
        have hset : setAt (pre ++ xs ++ post) (pre.length + n * inf.size + 0) news = pre ++ (xs ++ news) ++ post.drop news.length := by
          have := setAt_app news (pre ++ xs) post (by rw [hnl]; exact hml)
          rw [List.length_append, hxl] at this
          rw [Nat.add_zero, this]
          simp
        rw [hset]
        exact h1 B pre post e' rfl hb hle hpl
  · rw [if_neg hle]
    have hmax : IntKind.i64.max = 9223372036854775807 := by decide
    have hpos : 0 < inf.bytes := Nat.pos_of_ne_zero hby
    have hcap : c < n + m := by omega
    have hnc := nextcap_le hcap
    have hle2 : Builtin.nextslicecap (n + m) c * inf.bytes ≤ 281474976710656 := Nat.le_trans (Nat.mul_le_mul_right _ hnc) hbig
    rw [ev_bind', ev_pr_eq (pr_typeInfo hi), if_neg (by simp [hby])]
    rw [ev_bind', ev_pr_eq (pr_typeInfo hi)]
    rw [if_neg (by have : (2 : Nat) ^ 48 = 281474976710656 := by decide
                   omega)]
    simp only [ev_bind']
    simp only [choose, Sem.ev]
    rw [if_neg (by simp [Question.forced])]
    intro t
    simp only [Question.cut]
    generalize hN : n + m + t % (2 ^ 63 - (n + m)) = N
    have hNle : n + m ≤ N := by omega
    rw [ev_pr_eq (pr_typeInfo hi)]
    refine ev_askRoom ?_
    have hold : (Builtin.firstCells inf.size n (.slice A n c)).rd P H = some xs.toArray := by
      rcases hrow with ⟨g1, g2, g3⟩ | ⟨B, pre, post, e', rw, g1, hb, hnc, hpl, hrw⟩
      · subst g1 g2 g3
        have : xs = [] := by simpa using hxl
        subst this
        rfl
      · subst g1
        rw [rd_firstCells hb (by simp [hxl])]
        congr 1
        have : (pre ++ xs ++ post).drop pre.length = xs ++ post := by simp
        rw [this, ← hxl]
        simp
    refine ev_rd_eq hold ?_
    refine ev_rd_eq hnews ?_
    rw [ev_pr_eq (show (zeroValue e).pr P = some z from by simp only [zeroValue, pr_bind, pr_typeInfo hi, Option.bind_some, hz]; rfl)]
    simp only [newRow, ev_bind']
    intro r hr
    refine ⟨rfl, ?_⟩
    have hcells : (xs.toArray ++ news.toArray ++ Builtin.zeroCells z.cells (N - (n + m))).toList = xs ++ news ++ (Builtin.zeroCells z.cells (N - (n + m))).toList := by simp
    have := hk r (Builtin.zeroCells z.cells (N - (n + m))).toList N hr hNle (by simp [Builtin.zeroCells, hzs]) hcap
    rw [← hcells] at this
    exact this

theorem append_of {P : Program} {st xt e : TypeId} {sz b : Nat} (h : appT P st xt = some (e, sz, b)) : ∃ inf z, P.underlying st = some (.slice e) ∧ notIntT P xt = true ∧ P.info? e = some inf ∧ inf.zero = some z ∧ z.cells.size = inf.size ∧ inf.bytes ≠ 0 ∧ inf.size = sz ∧ inf.bytes = b := by
  have ht := appT_spec h
  unfold appT0 at ht
  split at ht
  · rename_i e' hst
    split at ht
    · rename_i inf hi
      split at ht
      · rename_i z hz
        split at ht
        · rename_i hc
          cases ht
          exact ⟨inf, z, hst, hc.2.2, hi, hz, hc.1, hc.2.1, rfl, rfl⟩
        · cases ht
      · cases ht
    · cases ht
  · cases ht

/-- how the elements of a row lie in cells -/
structure Cod (α : Type) where
  enc : α → List Value
  sz : Nat
  dec : List Value → Option α
  len : ∀ x, (enc x).length = sz
  one : ∀ x, ((enc x).all Value.oneCell') = true
  ok : ∀ cs y, dec cs = some y → enc y = cs

section
variable {α : Type}
theorem Cod.flat_len (E : Cod α) : ∀ l : List α, (l.flatMap E.enc).length = l.length * E.sz
  | [] => by simp
  | x :: l => by rw [List.flatMap_cons, List.length_append, E.len x, E.flat_len l, List.length_cons, Nat.add_mul, Nat.one_mul, Nat.add_comm]
theorem Cod.flat_one (E : Cod α) (l : List α) : ((l.flatMap E.enc).all Value.oneCell') = true := by
  rw [List.all_flatMap]
  exact List.all_eq_true.2 fun x _ => E.one x
/-- an owned row -/
def row (A : Option Addr) (c : Nat) (e : TypeId) (E : Cod α) (xs : List α) : HP := fun H =>
  (A = none ∧ xs = [] ∧ c = 0) ∨ ∃ B pre post, A = some ⟨B, pre.length, none⟩ ∧ H B = some (.cells (pre ++ xs.flatMap E.enc ++ post) e true) ∧ xs.length ≤ c ∧ (c - xs.length) * E.sz ≤ post.length
/-- a row that nobody writes -/
def rrow (A : Option Addr) (E : Cod α) (xs : List α) : HP := fun H =>
  xs = [] ∨ ∃ B pre post e rw, A = some ⟨B, pre.length, none⟩ ∧ H B = some (.cells (pre ++ xs.flatMap E.enc ++ post) e rw)
/-- what a slice reads as -/
def View (C : List HP) (A : Option Addr) (E : Cod α) (xs : List α) : Prop := ∀ H, Sats C H →
  xs = [] ∨ ∃ B pre post e rw, A = some ⟨B, pre.length, none⟩ ∧ H B = some (.cells (pre ++ xs.flatMap E.enc ++ post) e rw)

theorem le_rw (cs : List Value) (e : TypeId) (rw : Bool) : (Blk.cells cs e false).le (.cells cs e rw) := by
  cases rw
  · exact .inl rfl
  · exact .inr ⟨cs, e, rfl, rfl⟩
/-- more of the heap does not hurt -/
def MonoP (A : HP) : Prop := ∀ H H', A H → Hle H H' → A H'
theorem cells_up {H H' : Hp} {B : Nat} {cs : List Value} {e : TypeId} {rw : Bool} (h : H B = some (.cells cs e rw)) (hl : Hle H H') : ∃ rw', H' B = some (.cells cs e rw') := by
  obtain ⟨b, hb, l⟩ := hl B _ h
  rcases l with rfl | ⟨cs', e', g1, rfl⟩
  · exact ⟨rw, hb⟩
  · cases g1; exact ⟨true, hb⟩
theorem mono_rrow (A : Option Addr) (E : Cod α) (xs : List α) : MonoP (rrow A E xs) := fun H H' h hl => by
  rcases h with h | ⟨B, pre, post, e, rw, h1, h2⟩
  · exact .inl h
  · obtain ⟨rw', h3⟩ := cells_up h2 hl
    exact .inr ⟨B, pre, post, e, rw', h1, h3⟩
theorem pers_rrow (A : Option Addr) (E : Cod α) (xs : List α) : Pers (rrow A E xs) := fun H h2 => by
  rcases h2 with h3 | ⟨B, pre, post, e, rw, h2, h3⟩
  · exact ⟨fun _ => none, (fun _ _ h => by cases h), .inl h3, (fun _ _ h => by cases h)⟩
  · exact ⟨hone B (.cells (pre ++ xs.flatMap E.enc ++ post) e false), hone_le h3 (le_rw _ _ _), .inr ⟨B, pre, post, e, false, h2, hone_same _ _⟩, fun r b hb => by rw [(hone_eq hb).2]; rfl⟩
def andP (A B : HP) : HP := fun H => A H ∧ B H
/-- two read-only chunks as one -/
theorem sats_and {A B : HP} {C : List HP} {H : Hp} (pa : Pers A) (pb : Pers B) (ma : MonoP A) (mb : MonoP B) (h : Sats (A :: B :: C) H) : Sats (andP A B :: C) H := by
  obtain ⟨H1, H2, hc, h1, h2, ha, G1, G2, kc, k1, k2, kb, ks⟩ := h
  obtain ⟨X, x1, x2, x3⟩ := pa H1 ha
  obtain ⟨Y, y1, y2, y3⟩ := pb G1 kb
  have hxy : Comp X Y := fun r b c hb hc => ⟨x3 r b hb, y3 r c hc⟩
  have hx : Hle X H := x1.trans h1
  have hy : Hle Y H := y1.trans (k1.trans h2)
  refine ⟨hjoin X Y, G2, Comp.join (hc.le x1 |>.le2 k2) (kc.le y1), hjoin_le hx hy, k2.trans h2, ⟨ma _ _ x2 (hjoin_left _ _), mb _ _ y2 (hjoin_right hxy hx hy)⟩, ks⟩
variable {C R : List HP} {A : Option Addr} {c : Nat} {e : TypeId} {E : Cod α} {xs : List α}
theorem view_row : View (row A c e E xs :: C) A E xs := fun H ⟨H1, H2, _, k1, _, h2, _⟩ => by
  rcases h2 with ⟨h2, h3, _⟩ | ⟨B, pre, post, h2, h3, _⟩
  · exact .inl h3
  · obtain ⟨b, hb, l⟩ := k1 B _ h3
    have := Blk.le_own l rfl
    subst this
    exact .inr ⟨B, pre, post, e, true, h2, hb⟩
theorem view_rrow : View (rrow A E xs :: C) A E xs := fun H ⟨H1, H2, _, k1, _, h2, _⟩ => by
  rcases h2 with h3 | ⟨B, pre, post, e, rw, h2, h3⟩
  · exact .inl h3
  · obtain ⟨rw', hb⟩ := cells_up h3 k1
    exact .inr ⟨B, pre, post, e, rw', h2, hb⟩
theorem view_there {X : HP} (h : View C A E xs) : View (X :: C) A E xs := fun H hs => h H hs.tail
theorem view_nil : View C A E ([] : List α) := fun _ _ => .inl rfl
theorem view_ent {C' : List HP} (he : Ent C C') (h : View C' A E xs) : View C A E xs := fun H hs => h H (he H hs)
/-- a part of a slice -/
theorem view_sub {B off lo : Nat} {A' : Option Addr} (h : View C (some ⟨B, off, none⟩) E xs) (k : Nat) (hlo : lo ≤ xs.length) (hA : A' = some ⟨B, off + lo * E.sz, none⟩) : View C A' E ((xs.drop lo).take k) := fun H hs => by
  rcases h H hs with h2 | ⟨B', pre, post, e, rw, h2, h3⟩
  · subst h2; exact .inl (by simp)
  · cases h2
    refine .inr ⟨B, pre ++ (xs.take lo).flatMap E.enc, ((xs.drop lo).drop k).flatMap E.enc ++ post, e, rw, ?_, ?_⟩
    · rw [hA, List.length_append, E.flat_len, List.length_take, Nat.min_eq_left hlo]
    · rw [h3]
      have e1 : xs = xs.take lo ++ ((xs.drop lo).take k ++ (xs.drop lo).drop k) := by rw [List.take_append_drop, List.take_append_drop]
      have e2 : xs.flatMap E.enc = (xs.take lo).flatMap E.enc ++ (((xs.drop lo).take k).flatMap E.enc ++ ((xs.drop lo).drop k).flatMap E.enc) := by
        rw [← List.flatMap_append, ← List.flatMap_append, ← e1]
      rw [e2]
      simp only [List.append_assoc]
/-- elements out of cells -/
def decL (E : Cod α) : Nat → List Value → Option (List α)
  | _, [] => some []
  | 0, _ :: _ => none
  | n + 1, v :: cs => match E.dec ((v :: cs).take E.sz) with
    | some x => match decL E n ((v :: cs).drop E.sz) with
      | some xs => some (x :: xs)
      | none => none
    | none => none
theorem decL_flat (E : Cod α) : ∀ (n : Nat) (cs : List Value) (xs : List α), decL E n cs = some xs → xs.flatMap E.enc = cs
  | 0, [], xs, h => by cases h; rfl
  | n + 1, [], xs, h => by cases h; rfl
  | 0, _ :: _, xs, h => by cases h
  | n + 1, v :: cs, xs, h => by
    simp only [decL] at h
    split at h
    · rename_i x hx
      split at h
      · rename_i ys hy
        cases h
        have h1 := decL_flat E n _ _ hy
        have h3 := E.ok _ _ hx
        rw [List.flatMap_cons, h1, h3, List.take_append_drop]
      · cases h
    · cases h
theorem view_pt {B : Nat} {cs : List Value} (hd : decL E cs.length cs = some xs := by exact rfl) : View (pt B cs e :: C) (some ⟨B, 0, none⟩) E xs := fun H ⟨H1, H2, _, k1, _, h3, _⟩ => by
  obtain ⟨b, hb, l⟩ := k1 B _ h3
  have := Blk.le_own l rfl
  subst this
  exact .inr ⟨B, [], [], e, true, rfl, by rw [decL_flat E _ cs xs hd, List.nil_append, List.append_nil]; exact hb⟩
/-- the cells of one element -/
theorem view_elem {B off j : Nat} {x : α} {H : Hp} (h : View C (some ⟨B, off, none⟩) E xs) (hs : Sats C H) (hx : xs[j]? = some x) : ∃ cs e rw, H B = some (.cells cs e rw) ∧ off + j * E.sz + E.sz ≤ cs.length ∧ (cs.drop (off + j * E.sz)).take E.sz = E.enc x := by
  rcases h H hs with h2 | ⟨B', pre, post, e, rw, h2, h3⟩
  · subst h2; simp at hx
  · cases h2
    have hj : j < xs.length := by
      rcases Nat.lt_or_ge j xs.length with h | h
      · exact h
      · rw [List.getElem?_eq_none h] at hx; cases hx
    have hx' : xs[j] = x := by rw [List.getElem?_eq_getElem hj] at hx; exact Option.some.inj hx
    have e1 : xs = xs.take j ++ x :: xs.drop (j + 1) := by
      conv => lhs; rw [← List.take_append_drop j xs, List.drop_eq_getElem_cons hj, hx']
    have e2 : xs.flatMap E.enc = (xs.take j).flatMap E.enc ++ (E.enc x ++ (xs.drop (j + 1)).flatMap E.enc) := by
      conv => lhs; rw [e1]
      simp
    have l1 : ((xs.take j).flatMap E.enc).length = j * E.sz := by rw [E.flat_len, List.length_take, Nat.min_eq_left (by omega)]
    refine ⟨_, e, rw, h3, ?_, ?_⟩
    · simp only [List.length_append, E.flat_len]
      have := Nat.mul_le_mul_right E.sz hj
      rw [Nat.succ_mul] at this
      omega
    · rw [e2]
      have : pre ++ ((xs.take j).flatMap E.enc ++ (E.enc x ++ (xs.drop (j + 1)).flatMap E.enc)) ++ post = (pre ++ (xs.take j).flatMap E.enc) ++ (E.enc x ++ ((xs.drop (j + 1)).flatMap E.enc ++ post)) := by simp [List.append_assoc]
      rw [this, List.drop_left' (by rw [List.length_append, l1]), List.take_left' (E.len x)]
end

theorem ldC_in {P : Program} {t : TypeId} {cs ys : List Value} {o k : Nat} {v : Value} (hy : (cs.drop o).take ys.length = ys) (hl : o + ys.length ≤ cs.length) (h : ldC P t ys k = some v) : ldC P t cs (o + k) = some v := by
  unfold ldC at h ⊢
  split at h
  · split at h
    · rename_i i _
      split at h
      · rename_i hle
        rw [if_pos (by omega)]
        have : (cs.drop (o + k)).take i.size = (ys.drop k).take i.size := by
          rw [← hy, List.drop_take, List.drop_drop, List.take_take, Nat.min_eq_left (by omega)]
        rw [this]; exact h
      · cases h
    · cases h
  · have hk : k < ys.length := by
      rcases Nat.lt_or_ge k ys.length with h' | h'
      · exact h'
      · rw [List.getElem?_eq_none h'] at h; cases h
    have e1 : ys[k]? = cs[o + k]? := by
      conv => lhs; rw [← hy]
      rw [List.getElem?_take_of_lt hk, List.getElem?_drop]
    rw [← e1]; exact h
  · cases h

section
variable {P : Program} {ops : Array Oper} {Q : Fr → List HP → Prop} {a : Fr} {C : List HP} {c : Nat} {gd : Bool} {es : ET} {hist : List (List HP)} {d' : Tmp} {d : Option Tmp} {v : Value}
variable {ty : TypeId} {pos : String} {after : Array Edge} {g : Option (Nat × Bool)} {t yt : TypeId} {x y z : Operand} {op : Op} {α : Type} {E : Cod α} {xs : List α}

theorem evG_some {A : Option Addr} {j : Nat} (hv : View C A E xs) (hj : j < xs.length) (h : ∀ B off, A = some ⟨B, off, none⟩ → evG P ops Q es hist a C) : evG P ops Q es hist a C := fun Hs H h1 h2 => by
  rcases hv H h2 with h3 | ⟨B, pre, post, e, rw, h3, _⟩
  · subst h3; simp at hj
  · exact h B pre.length h3 Hs H h1 h2
/-- the address of an element of a slice of which not even is known whether it is nil -/
theorem G_indexV {A : Option Addr} {n cp sz : Nat} {k : IntKind} {j : Int} (h : ∀ B off, A = some ⟨B, off, none⟩ → spl gd (.pointer (some ⟨B, off + j.toNat * sz, none⟩)) fun v => evG P ops Q es hist (upd a d' v) C)
    (hx : opd a x = .slice A n cp := by exact rfl) (hy : opd a y = .int k j := by exact rfl) (ht : elemSz P t = some sz := by exact rfl) (hv : View C A E xs := by ((repeat (first | exact view_row | exact view_rrow | exact view_pt | assumption | apply view_there)) <;> exact view_row))
    (hn : xs.length = n := by first | exact rfl | assumption | omega) (h0 : 0 ≤ j := by first | omega | assumption) (h1 : j < n := by first | omega | assumption) (hw : wantB ops ⟨some d', .indexAddr t x y, ty, pos, after, g⟩ a = true := by exact rfl) :
    evG P ops Q (ET.cons (c, gd, ⟨some d', .indexAddr t x y, ty, pos, after, g⟩) es) hist a C :=
  evG_some (j := j.toNat) hv (by omega) fun B off hA => by
    subst hA
    exact evG_p rfl hw (pv_index ht hx hy h0 h1) (h B off rfl)

theorem rd_view {B off j k sz : Nat} {y : α} (hv : View C (some ⟨B, off, none⟩) E xs) (hsz : E.sz = sz) (hj : xs[j]? = some y) (hx : opd a x = .pointer (some ⟨B, off + j * sz + k, none⟩)) (hl : ldC P t (E.enc y) k = some v) : RdC P ⟨d, .load t x, ty, pos, after, g⟩ a C v := fun H hs => by
  obtain ⟨cs, e, rw, h1, h2, h3⟩ := view_elem hv hs hj
  subst hsz
  exact rv_load (by rw [hx]; exact ldC_ldV h1 (ldC_in (by rw [E.len]; exact h3) (by rw [E.len]; exact h2) hl))
def HasV (P : Program) (t : TypeId) (B off sz j k : Nat) (v : Value) (C : List HP) : Prop := ∃ (α : Type) (E : Cod α) (xs : List α) (y : α), View C (some ⟨B, off, none⟩) E xs ∧ E.sz = sz ∧ xs[j]? = some y ∧ ldC P t (E.enc y) k = some v
theorem hv_mk {B off sz j k : Nat} {y : α} (hv : View C (some ⟨B, off, none⟩) E xs := by ((repeat (first | exact view_row | exact view_rrow | exact view_pt | assumption | apply view_there)) <;> exact view_row)) (hs : E.sz = sz := by exact rfl) (hj : xs[j]? = some y := by first | assumption | exact rfl) (hl : ldC P t (E.enc y) k = some v := by exact rfl) : HasV P t B off sz j k v C := ⟨α, E, xs, y, hv, hs, hj, hl⟩
theorem G_loadV {B off sz j k : Nat} {u : α} (h : spl gd v fun v => evG P ops Q es hist (upd a d' v) C) (hx : opd a x = .pointer (some ⟨B, off + j * sz + k, none⟩) := by exact rfl)
    (hv : View C (some ⟨B, off, none⟩) E xs := by ((repeat (first | exact view_row | exact view_rrow | exact view_pt | assumption | apply view_there)) <;> exact view_row)) (hs : E.sz = sz := by exact rfl) (hj : xs[j]? = some u := by first | assumption | exact rfl) (hl : ldC P t (E.enc u) k = some v := by exact rfl)
    (hh : allRd (HasV P t B off sz j k v) (hist.take c) := by ((repeat (first | exact ar_nil | refine ar_cons hv_mk ?_)) <;> exact ar_nil))
    (hw : wantB ops ⟨some d', .load t x, ty, pos, after, g⟩ a = true := by exact rfl) : evG P ops Q (ET.cons (c, gd, ⟨some d', .load t x, ty, pos, after, g⟩) es) hist a C :=
  evG_r rfl hw (rd_view hv hs hj hx hl) (ar_imp (fun _ ⟨_, _, _, _, k1, k4, k2, k3⟩ => rd_view k1 k4 k2 hx k3) hh) h
theorem G_loadV2 {B off sz j k k' : Nat} {u : α} (h : spl gd v fun v => evG P ops Q es hist (upd a d' v) C) (hx : opd a x = .pointer (some ⟨B, off + j * sz + k + k', none⟩) := by exact rfl)
    (hv : View C (some ⟨B, off, none⟩) E xs := by ((repeat (first | exact view_row | exact view_rrow | exact view_pt | assumption | apply view_there)) <;> exact view_row)) (hs : E.sz = sz := by exact rfl) (hj : xs[j]? = some u := by first | assumption | exact rfl) (hl : ldC P t (E.enc u) (k + k') = some v := by exact rfl)
    (hh : allRd (HasV P t B off sz j (k + k') v) (hist.take c) := by ((repeat (first | exact ar_nil | refine ar_cons hv_mk ?_)) <;> exact ar_nil))
    (hw : wantB ops ⟨some d', .load t x, ty, pos, after, g⟩ a = true := by exact rfl) : evG P ops Q (ET.cons (c, gd, ⟨some d', .load t x, ty, pos, after, g⟩) es) hist a C :=
  evG_r rfl hw (rd_view (k := k + k') hv hs hj (by rw [hx, Nat.add_assoc (off + j * sz)]) hl) (ar_imp (fun _ ⟨_, _, _, _, k1, k4, k2, k3⟩ => rd_view (k := k + k') k1 k4 k2 (by rw [hx, Nat.add_assoc (off + j * sz)]) k3) hh) h
theorem G_loadV0 {B off sz j : Nat} {u : α} (h : spl gd v fun v => evG P ops Q es hist (upd a d' v) C) (hx : opd a x = .pointer (some ⟨B, off + j * sz, none⟩) := by exact rfl)
    (hv : View C (some ⟨B, off, none⟩) E xs := by ((repeat (first | exact view_row | exact view_rrow | exact view_pt | assumption | apply view_there)) <;> exact view_row)) (hs : E.sz = sz := by exact rfl) (hj : xs[j]? = some u := by first | assumption | exact rfl) (hl : ldC P t (E.enc u) 0 = some v := by exact rfl)
    (hh : allRd (HasV P t B off sz j 0 v) (hist.take c) := by ((repeat (first | exact ar_nil | refine ar_cons hv_mk ?_)) <;> exact ar_nil))
    (hw : wantB ops ⟨some d', .load t x, ty, pos, after, g⟩ a = true := by exact rfl) : evG P ops Q (ET.cons (c, gd, ⟨some d', .load t x, ty, pos, after, g⟩) es) hist a C :=
  evG_r rfl hw (rd_view (k := 0) hv hs hj (by rw [hx, Nat.add_zero]) hl) (ar_imp (fun _ ⟨_, _, _, _, k1, k4, k2, k3⟩ => rd_view (k := 0) k1 k4 k2 (by rw [hx, Nat.add_zero]) k3) hh) h

def byteI (n : Int) : UInt8 := UInt8.ofNat (n % 256).toNat
theorem byteV_of (n : Int) : byteV (byteI n) = .int .u8 (n % 256) := by
  unfold byteV byteI
  congr 1
  rw [UInt8.toNat_ofNat']
  omega
/-! append -/
/-- what is appended -/
def Src (P : Program) (C : List HP) (u : Value) (E : Cod α) (ys : List α) : Prop := (Builtin.lenOf u).pr P = some ys.length ∧ ∀ H, Sats C H → (Builtin.firstCells E.sz ys.length u).rd P H = some (ys.flatMap E.enc).toArray
theorem src_nilrd {A : Option Addr} {cp sz : Nat} {H : Hp} : (Builtin.firstCells sz ([] : List α).length (.slice A ([] : List α).length cp)).rd P H = some (([] : List α).flatMap E.enc).toArray := by
  cases A with
  | none => rfl
  | some ad =>
    simp only [Builtin.firstCells, List.length_nil, Nat.zero_mul, loadCells, loadCellsFrom]
    rfl
theorem src_view {A : Option Addr} {m cp : Nat} {ys : List α} (hv : View C A E ys := by first | assumption | (((repeat (first | exact view_row | exact view_rrow | exact view_pt | assumption | apply view_there)) <;> exact view_row))) (hm : ys.length = m := by first | exact rfl | assumption | omega) : Src P C (.slice A m cp) E ys := by
  subst hm
  refine ⟨rfl, fun H hs => ?_⟩
  rcases hv H hs with rfl | ⟨B, pre, post, e, rw, rfl, h3⟩
  · exact src_nilrd
  · rw [rd_firstCells h3 (by simp [E.flat_len])]
    congr 1
    have : (pre ++ ys.flatMap E.enc ++ post).drop pre.length = ys.flatMap E.enc ++ post := by simp
    rw [this, ← E.flat_len]
    simp
theorem src_one {B cp : Nat} {cs : List Value} {y : α} (hb : Has C B cs := by ((repeat (first | exact has_pt | exact has_ro | apply has_there)) <;> exact has_pt)) (hd : E.dec cs = some y := by exact rfl) : Src P C (.slice (some ⟨B, 0, none⟩) 1 cp) E [y] := by
  refine ⟨rfl, fun H hs => ?_⟩
  obtain ⟨e, rw, h⟩ := hb H hs
  have hc := E.ok _ _ hd
  have hl := E.len y
  rw [hc] at hl
  rw [rd_firstCells h (by simp [hl])]
  simp [hc, ← hl]
def byteC : Cod UInt8 := { enc := fun b => [byteV b], sz := 1, dec := fun _ => none, len := fun _ => rfl, one := fun _ => rfl, ok := fun _ _ h => by cases h }
theorem bytes_flat (l : List UInt8) : l.flatMap byteC.enc = l.map byteV := by
  induction l with
  | nil => rfl
  | cons b l ih => rw [List.flatMap_cons, ih]; rfl
theorem src_str {s : ByteArray} : Src P C (.string s) byteC s.data.toList := by
  refine ⟨by simp [Builtin.lenOf]; rfl, fun H hs => ?_⟩
  simp only [Builtin.firstCells]
  have : s.extract 0 s.data.toList.length = s := by
    apply ByteArray.ext
    simp
  rw [this]
  simp only [rd_pure]
  congr 1
  apply Array.ext'
  rw [bytes_flat]
  simp [byteV]

theorem src_byte {B cp : Nat} {n : Int} (hb : Has C B [.int .u8 (n % 256)] := by ((repeat (first | exact has_pt | exact has_ro | apply has_there)) <;> exact has_pt)) : Src P C (.slice (some ⟨B, 0, none⟩) 1 cp) byteC [byteI n] := by
  refine ⟨rfl, fun H hs => ?_⟩
  obtain ⟨e, rw, h⟩ := hb H hs
  rw [rd_firstCells h (by simp [byteC])]
  simp [byteC, byteV_of]

theorem sats_row {A : Option Addr} {c : Nat} {e : TypeId} {R : List HP} {H : Hp} (hs : Sats (row A c e E xs :: R) H) :
    (A = none ∧ xs = [] ∧ c = 0 ∧ Sats R H) ∨ ∃ B pre post, A = some ⟨B, pre.length, none⟩ ∧ Sats (pt B (pre ++ xs.flatMap E.enc ++ post) e :: R) H ∧ xs.length ≤ c ∧ (c - xs.length) * E.sz ≤ post.length := by
  obtain ⟨H1, H2, hc, k1, k2, h2, hs⟩ := hs
  rcases h2 with ⟨h2, h3, h4⟩ | ⟨B, pre, post, h2, h3, h4, h5⟩
  · exact .inl ⟨h2, h3, h4, hs.mono k2⟩
  · exact .inr ⟨B, pre, post, h2, ⟨H1, H2, hc, k1, k2, h3, hs⟩, h4, h5⟩
theorem row_sats {B c : Nat} {e : TypeId} {pre post : List Value} {R : List HP} {H : Hp} {A : Option Addr} (hA : A = some ⟨B, pre.length, none⟩) (hs : Sats (pt B (pre ++ xs.flatMap E.enc ++ post) e :: R) H) (h4 : xs.length ≤ c)
    (h5 : (c - xs.length) * E.sz ≤ post.length) : Sats (row A c e E xs :: R) H := by
  obtain ⟨H1, H2, hc, k1, k2, h3, hs⟩ := hs
  exact ⟨H1, H2, hc, k1, k2, .inr ⟨B, pre, post, hA, h3, h4, h5⟩, hs⟩
theorem row_nil_sats {e : TypeId} {R : List HP} {H : Hp} (hs : Sats R H) : Sats (row none 0 e E ([] : List α) :: R) H :=
  ⟨fun _ => none, H, (fun _ _ _ h => by cases h), (fun _ _ h => by cases h), Hle.refl H, .inl ⟨rfl, rfl, rfl⟩, hs⟩
theorem Ent.nilrow (e : TypeId) (E : Cod α) (C : List HP) : Ent C (row none 0 e E ([] : List α) :: C) := fun _ hs => row_nil_sats hs
theorem Ent.nilrow' {e : TypeId} {C C' : List HP} (h : Ent C C') : Ent C (row none 0 e E ([] : List α) :: C') := fun H hs => row_nil_sats (h H hs)
theorem row_freeze {A : Option Addr} {c : Nat} {e : TypeId} {R C C' : List HP} (hp : Pick (row A c e E xs) C R) (h : Ent (rrow A E xs :: R) C') : Ent C C' := fun H hs => by
  refine h H ?_
  obtain ⟨H1, H2, hc, h1, h2, ha, hs⟩ := hp.sats hs
  refine ⟨H1, H2, hc, h1, h2, ?_, hs⟩
  rcases ha with ⟨g1, g2, _⟩ | ⟨B, pre, post, g1, g2, _⟩
  · exact .inl g2
  · exact .inr ⟨B, pre, post, e, true, g1, g2⟩

theorem EvOp.ent {o : Oper} {C' : List HP} {k : Value → List HP → Prop} (he : Ent C C') (h : EvOp P o a C' k) : EvOp P o a C k := fun H hs => h H (he H hs)
/-- append to an owned row -/
theorem eo_append {st xt e : TypeId} {sz bytes cp c0 n : Nat} {A : Option Addr} {ys : List α} {u : Value} {R : List HP} {k : Value → List HP → Prop} (ht : appT P st xt = some (e, sz, bytes)) (hsz : E.sz = sz) (hx : opd a x = .slice A n cp) (hn : xs.length = n) (hy : opd a y = u) (hsrc : Src P C u E ys)
    (hp : Pick (row A c0 e E xs) C R) (hcc : cp = c0 ∨ (n ≤ cp ∧ cp ≤ c0)) (hbig : (2 * (n + ys.length) + 512) * bytes ≤ 281474976710656)
    (hk : ∀ A' c', k (.slice A' (xs ++ ys).length c') (row A' c' e E (xs ++ ys) :: R)) : EvOp P ⟨d, .call { callee := .builtin .append, args := #[x, y], argTypes := #[st, xt] }, ty, pos, after, g⟩ a C k := fun H hs => by
  obtain ⟨inf, zz, h1, h2, h3, h4, h5, h6, h7, rfl⟩ := append_of ht
  subst hsz
  have hrs := hp.sats hs
  have hr := sats_row hrs
  have hcl : n ≤ cp ∧ cp ≤ c0 := by
    rcases hcc with rfl | h
    · rcases hr with ⟨g1, g2, g3, g4⟩ | ⟨B, pre, post, g1, g2, g3, g4⟩
      · subst g2 g3; simp at hn; omega
      · omega
    · exact h
  obtain ⟨hcp, hc0⟩ := hcl
  have hmn : (xs ++ ys).length = n + ys.length := by rw [List.length_append, hn]
  refine evOp_of ?_
  simp only [execOp, resolve, List.map_toArray, List.map_cons, List.map_nil, hx, hy]
  rw [ev_bind', ev_pr_eq (show (pure _ : Sem Deferred).pr P = some _ from rfl)]
  simp only [invoke, builtin, ev_bind']
  obtain ⟨hlen, hcells⟩ := hsrc
  rw [hmn] at hk
  refine ev_append2 (xs := xs.flatMap E.enc) (news := ys.flatMap E.enc) h1 h2 h3 h4 h5 hlen (by rw [h7]; exact hcells H hs) (by rw [E.flat_len, h7]) (E.flat_one ys) (by rw [E.flat_len, hn, h7]) ?_ hbig h6 ?_ ?_ ?_
  · rcases hr with ⟨g1, g2, g3, g4⟩ | ⟨B, pre, post, g1, g2, g3, g4⟩
    · subst g2; simp at hn; exact .inl ⟨g1, by omega, by omega⟩
    · refine .inr ⟨B, pre, post, e, true, g1, (sats_pt g2).1, hcp, ?_, .inr (.inl rfl)⟩
      rw [h7]
      exact Nat.le_trans (Nat.mul_le_mul_right _ (by omega)) g4
  · intro hm0
    have hys : ys = [] := by simpa using hm0
    have hk' := hk A cp
    subst hys
    rw [List.append_nil, List.length_nil, Nat.add_zero] at hk'
    refine ⟨_, ?_, hk'⟩
    rcases hr with ⟨g1, g2, g3, g4⟩ | ⟨B, pre, post, g1, g2, g3, g4⟩
    · subst g1 g2 g3
      have : cp = 0 := by omega
      subst this
      exact row_nil_sats g4
    · exact row_sats g1 g2 (by omega) (Nat.le_trans (Nat.mul_le_mul_right _ (by omega)) g4)
  · intro B pre post e' hA hB hle hpl
    rcases hr with ⟨g1, _⟩ | ⟨B', pre', post', g1, g2, g3, g4⟩
    · rw [g1] at hA; cases hA
    · rw [g1] at hA
      have hBB : B' = B := congrArg Addr.block (Option.some.inj hA)
      subst hBB
      have hpre : pre'.length = pre.length := congrArg Addr.off (Option.some.inj hA)
      have hB' := (sats_pt g2).1
      rw [hB'] at hB
      injection hB with hB
      injection hB with hcs he _
      subst he
      rw [List.append_assoc, List.append_assoc] at hcs
      obtain ⟨q1, q2⟩ := List.append_inj hcs hpre
      obtain ⟨_, q3⟩ := List.append_inj q2 rfl
      subst q1 q3
      refine ⟨_, row_sats (pre := pre') (post := post'.drop (ys.flatMap E.enc).length) g1 ?_ (by rw [hmn]; exact hle) ?_, hk A cp⟩
      · rw [List.flatMap_append]
        exact sats_put g2
      · rw [hmn, List.length_drop, E.flat_len, ← Nat.sub_sub, Nat.sub_mul, ← h7]
        omega
  · intro r post N hr0 hN hpl _
    refine ⟨_, row_sats (pre := []) (post := post) rfl ?_ (by rw [hmn]; exact hN) (by rw [hmn, hpl, h7]; exact Nat.le_refl _), hk _ N⟩
    rw [List.flatMap_append, List.nil_append]
    exact sats_new hr0 hrs.tail
theorem G_append {st xt e : TypeId} {sz bytes cp c0 n : Nat} {A : Option Addr} {ys : List α} {u : Value} {R : List HP} (h : ∀ A' c', spl gd (.slice A' (xs ++ ys).length c') fun v => evG P ops Q es (C :: hist) (upd a d' v) (row A' c' e E (xs ++ ys) :: R))
    (hx : opd a x = .slice A n cp := by exact rfl) (hy : opd a y = u := by exact rfl) (ht : appT P st xt = some (e, sz, bytes) := by exact rfl) (hp : Pick (row A c0 e E xs) C R := by ((repeat (first | exact Pick.here | apply Pick.there)) <;> exact Pick.here)) (hsrc : Src P C u E ys := by first | exact src_byte | exact src_one | exact src_str | exact src_view) (hsz : E.sz = sz := by exact rfl) (hn : xs.length = n := by first | exact rfl | assumption | omega)
    (hcc : cp = c0 ∨ (n ≤ cp ∧ cp ≤ c0) := by first | exact .inl rfl | exact .inr ⟨by omega, by omega⟩) (hbig : (2 * (n + ys.length) + 512) * bytes ≤ 281474976710656 := by first | omega | assumption | (simp only [List.length_cons, List.length_nil]; omega))
    (hw : wantB ops ⟨some d', .call { callee := .builtin .append, args := #[x, y], argTypes := #[st, xt] }, ty, pos, after, g⟩ a = true := by exact rfl) : evG P ops Q (ET.cons (c, gd, ⟨some d', .call { callee := .builtin .append, args := #[x, y], argTypes := #[st, xt] }, ty, pos, after, g⟩) es) hist a C :=
  G_o (hw := hw) (eo_append ht hsz hx hn hy hsrc hp hcc hbig h)
/-- append to a slice that is nil -/
theorem G_appendN {st xt e : TypeId} {sz bytes : Nat} {ys : List α} {u : Value} (h : ∀ A' c', spl gd (.slice A' ys.length c') fun v => evG P ops Q es (C :: hist) (upd a d' v) (row A' c' e E ys :: C))
    (hx : opd a x = .slice none 0 0 := by exact rfl) (hy : opd a y = u := by exact rfl) (ht : appT P st xt = some (e, sz, bytes) := by exact rfl) (hsrc : Src P C u E ys := by first | exact src_byte | exact src_one | exact src_str | exact src_view) (hsz : E.sz = sz := by exact rfl)
    (hbig : (2 * (0 + ys.length) + 512) * bytes ≤ 281474976710656 := by first | omega | assumption | (simp only [List.length_cons, List.length_nil]; omega))
    (hw : wantB ops ⟨some d', .call { callee := .builtin .append, args := #[x, y], argTypes := #[st, xt] }, ty, pos, after, g⟩ a = true := by exact rfl) : evG P ops Q (ET.cons (c, gd, ⟨some d', .call { callee := .builtin .append, args := #[x, y], argTypes := #[st, xt] }, ty, pos, after, g⟩) es) hist a C :=
  G_o (hw := hw) (EvOp.ent (Ent.nilrow e E C) (eo_append (xs := []) ht hsz hx rfl hy ⟨hsrc.1, fun H hs => hsrc.2 H hs.tail⟩ Pick.here (.inl rfl) hbig h))
end
end Go.Sl
