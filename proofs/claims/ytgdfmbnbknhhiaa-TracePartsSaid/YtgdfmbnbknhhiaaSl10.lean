/- append, and bytes and strings turned into each other: lemmas; each with the conditions that it states. -/
import Derived.Test.YtgdfmbnbknhhiaaSl9
namespace Go.Sl

def herase (H : Hp) (r : Nat) : Hp := fun i => if i = r then none else H i
def heraseV (H : Hp) : Value → Hp
  | .slice (some a) _ _ => herase H a.block
  | _ => H
theorem herase_sub (H : Hp) (r : Nat) : Hsub (herase H r) H := fun B b hb => by
  unfold herase at hb
  split at hb
  · cases hb
  · exact hb
theorem heraseV_sub (H : Hp) (v : Value) : Hsub (heraseV H v) H := by
  unfold heraseV
  split
  · exact herase_sub H _
  · exact Hsub.refl _
theorem hupd_herase (H : Hp) (r : Nat) (b : Blk) : hupd (herase H r) r b = hupd H r b := by
  funext i; unfold hupd herase; split <;> simp_all
theorem herase_hupd {H : Hp} {r : Nat} {b : Blk} (hr : H r = none) : herase (hupd H r b) r = H := by
  funext i; unfold hupd herase
  split
  · rename_i e; subst e; exact hr.symm
  · rename_i e; simp [e]
theorem herase_none {H : Hp} {r s : Nat} (h : H s = none) : herase H r s = none := by
  unfold herase; split
  · rfl
  · exact h

/-- the slice value 's' of n elements, sz cells each, owns the row of cells xs -/
def Row (H : Hp) (s : Value) (e : TypeId) (sz n : Nat) (xs : List Value) : Prop :=
  xs.length = n * sz ∧ ((s = .slice none 0 0 ∧ n = 0) ∨ ∃ B pre post cap, s = .slice (some ⟨B, pre.length, none⟩) n cap ∧ H B = some (.cells (pre ++ xs ++ post) e true) ∧ n ≤ cap ∧ post.length = (cap - n) * sz)

theorem setAt_app : ∀ (news A B : List Value), news.length ≤ B.length → setAt (A ++ B) A.length news = A ++ news ++ B.drop news.length := by
  intro news
  induction news with
  | nil => intro A B _; simp [setAt]
  | cons v news ih =>
    intro A B hle
    cases B with
    | nil => simp at hle
    | cons b B =>
      simp only [setAt]
      have : (A ++ b :: B).set A.length v = (A ++ [v]) ++ B := by simp
      rw [this]
      have := ih (A ++ [v]) B (by simpa using hle)
      simp only [List.length_append, List.length_cons, List.length_nil] at this
      rw [this]
      simp

theorem growBy_le (N : Nat) : ∀ (k c : Nat), c ≤ 2 * N + 192 → Builtin.growBy N k c ≤ 2 * N + 192 := by
  intro k
  induction k with
  | zero => exact fun c h => h
  | succ k ih =>
    intro c h
    unfold Builtin.growBy
    split
    · exact h
    · exact ih _ (by omega)
theorem nextcap_le {need cap : Nat} (h : cap < need) : Builtin.nextslicecap need cap ≤ 2 * need + 512 := by
  unfold Builtin.nextslicecap
  split
  · omega
  · split
    · omega
    · have := growBy_le need 4 cap (by omega); omega

section
variable {P : Program} {H : Hp}

theorem rd_firstCells {sz n cap off B : Nat} {cs : List Value} {e : TypeId} {rw : Bool} {m : Nat} (hb : H B = some (.cells cs e rw)) (hle : off + m * sz ≤ cs.length) :
    (Builtin.firstCells sz m (.slice (some ⟨B, off, none⟩) n cap)).rd P H = some ((cs.drop off).take (m * sz)).toArray := by
  simp only [Builtin.firstCells, loadCells]
  rw [rd_loadCells hb off (m * sz) 0 #[] (by omega)]
  simp

theorem ev_rd_eq {α : Type} {s : Sem α} {v : α} {q : α → Hp → Prop} (h : s.rd P H = some v) (hq : q v H) : s.ev P H q := rd_ev P s v q h hq

theorem ev_askRoom {n : Nat} {q : Unit → Hp → Prop} (hq : q () H) : (askRoom n).ev P H q := by
  unfold askRoom
  split
  · exact hq
  · exact hq

def notIntT (P : Program) (t : TypeId) : Bool := match P.underlying t with
  | some (.int _) => false
  | some _ => true
  | none => false
theorem notIntT_spec {t : TypeId} (h : notIntT P t = true) : ∃ D, P.underlying t = some D ∧ ∀ k, D ≠ .int k := by
  unfold notIntT at h
  split at h
  · cases h
  · rename_i D hne hD; exact ⟨D, hD, fun k hk => hne k hk⟩
  · cases h

theorem ev_append {st xt ty e : TypeId} {inf : TypeInfo} {z x s : Value} {n m : Nat} {xs news : List Value} {q : Value → Hp → Prop} (hst : P.underlying st = some (.slice e)) (hxt : notIntT P xt = true) (hi : P.info? e = some inf) (hz : inf.zero = some z)
    (hzs : z.cells.size = inf.size) (hlen : (Builtin.lenOf x).pr P = some m) (hnews : (Builtin.firstCells inf.size m x).rd P H = some news.toArray) (hnl : news.length = m * inf.size) (hone : (news.all Value.oneCell') = true) (hrow : Row H s e inf.size n xs)
    (hbig : (2 * (n + m) + 512) * inf.bytes ≤ 281474976710656) (hby : inf.bytes ≠ 0) (h0 : s = .slice none 0 0 → n = 0 → m = 0 → wk q (.slice none 0 0) H)
    (hk : ∀ r pre post cap, heraseV H s r = none → n + m ≤ cap → post.length = (cap - (n + m)) * inf.size → ∃ H', Hsub H' (hupd (heraseV H s) r (.cells (pre ++ (xs ++ news) ++ post) e true)) ∧ q (.slice (some ⟨r, pre.length, none⟩) (n + m) cap) H') :
    (Builtin.append_ #[st, xt] ty #[s, x]).ev P H (wk q) := by
  obtain ⟨D, hD, hDn⟩ := notIntT_spec hxt
  have hs : ∃ A c, s = .slice A n c := by
    rcases hrow.2 with ⟨h1, h2⟩ | ⟨B, pre, post, cap, h1, _⟩
    · exact ⟨none, 0, by rw [h1, h2]⟩
    · exact ⟨_, _, h1⟩
  obtain ⟨A, c, hsv⟩ := hs
  unfold Builtin.append_
  simp only [List.getElem?_toArray, List.getElem?_cons_zero, List.getElem?_cons_succ]
  rw [ev_bind', ev_pr_eq (pr_underlying hst)]
  rw [hsv]
  simp only
  rw [ev_bind', ev_pr_eq (pr_sizeOf hi)]
  rw [ev_bind', ev_pr_eq (pr_underlying hD), pure_bind]
  simp only [Bool.false_eq_true, if_false, Bool.not_false, if_true, false_or]
  rw [ev_bind', ev_pr_eq hlen]
  by_cases hle : n + m ≤ c
  · rw [if_pos hle, ev_bind']
    refine ev_rd_eq hnews ?_
    rcases hrow.2 with ⟨h1, h2⟩ | ⟨B, pre, post, cap, h1, hb, hnc, hpl⟩
    · rw [hsv] at h1
      cases h1
      have hm0 : m = 0 := by omega
      subst hm0
      exact h0 hsv rfl rfl
    · rw [hsv] at h1
      cases h1
      simp only
      rw [ev_bind', add_off]
      have hxl := hrow.1
      have hml : m * inf.size ≤ post.length := by rw [hpl]; exact Nat.mul_le_mul_right _ (by omega)
      refine ev_storeCells news 0 _ _ H _ hb (by simp [hxl, hnl]; omega) hone ?_
      have hset : setAt (pre ++ xs ++ post) (pre.length + n * inf.size + 0) news = pre ++ (xs ++ news) ++ post.drop news.length := by
        have := setAt_app news (pre ++ xs) post (by rw [hnl]; exact hml)
        rw [List.length_append, hxl] at this
        rw [Nat.add_zero, this]
        simp
      rw [hset]
      have hfr : heraseV H s B = none := by rw [hsv]; simp [heraseV, herase]
      obtain ⟨H', hsub, hq⟩ := hk B pre (post.drop news.length) c hfr hle (by
        rw [List.length_drop, hpl, hnl]
        rw [← Nat.sub_mul]
        congr 1
        omega)
      refine ⟨H', ?_, hq⟩
      rw [hsv] at hsub
      simp only [heraseV, hupd_herase] at hsub
      exact hsub
  · rw [if_neg hle]
    have hmax : IntKind.i64.max = 9223372036854775807 := by decide
    have hpos : 0 < inf.bytes := Nat.pos_of_ne_zero hby
    have hcap : c < n + m := by omega
    have hnc := nextcap_le hcap
    have hle2 : Builtin.nextslicecap (n + m) c * inf.bytes ≤ 281474976710656 := Nat.le_trans (Nat.mul_le_mul_right _ hnc) hbig
    rw [ev_bind', ev_pr_eq (pr_typeInfo hi), if_neg (by simp [hby])]
    rw [ev_bind', ev_pr_eq (pr_typeInfo hi)]
    rw [if_neg (by have : (2 : Nat) ^ 48 = 281474976710656 := by decide
                   omega)]
    simp only [ev_bind']
    simp only [choose, Sem.ev]
    rw [if_neg (by simp [Question.forced])]
    intro t
    simp only [Question.cut]
    generalize hN : n + m + t % (2 ^ 63 - (n + m)) = N
    have hNle : n + m ≤ N := by omega
    rw [ev_pr_eq (pr_typeInfo hi)]
    refine ev_askRoom ?_
    have hold : (Builtin.firstCells inf.size n (.slice A n c)).rd P H = some xs.toArray := by
      rcases hrow.2 with ⟨h1, h2⟩ | ⟨B, pre, post, cap, h1, hb, hnc, hpl⟩
      · rw [hsv] at h1
        cases h1
        have : xs = [] := by have := hrow.1; rw [h2] at this; simpa using this
        subst this
        rfl
      · rw [hsv] at h1
        cases h1
        rw [rd_firstCells hb (by simp [hrow.1])]
        congr 1
        have : (pre ++ xs ++ post).drop pre.length = xs ++ post := by simp
        rw [this, ← hrow.1]
        simp
    refine ev_rd_eq hold ?_
    refine ev_rd_eq hnews ?_
    rw [ev_pr_eq (show (zeroValue e).pr P = some z from by simp only [zeroValue, pr_bind, pr_typeInfo hi, Option.bind_some, hz]; rfl)]
    simp only [newRow, ev_bind']
    intro r hr
    refine ⟨rfl, ?_⟩
    obtain ⟨H', hsub, hq⟩ := hk r [] (Builtin.zeroCells z.cells (N - (n + m))).toList N (by
      have := heraseV_sub H s
      cases hx : heraseV H s r with
      | none => rfl
      | some b => have h1 := this r b hx; rw [hr] at h1; exact absurd h1 (by simp)) hNle (by simp [Builtin.zeroCells, hzs])
    refine ⟨H', hsub.trans ?_, hq⟩
    have hcells : (xs.toArray ++ news.toArray ++ Builtin.zeroCells z.cells (N - (n + m))).toList = [] ++ (xs ++ news) ++ (Builtin.zeroCells z.cells (N - (n + m))).toList := by simp
    rw [hcells]
    exact Hsub.hupd_both (heraseV_sub H s)
end

/-- over the heap H0 there is, besides, the row that 's' owns, and nothing more -/
def RowOn (H0 H : Hp) (s : Value) (e : TypeId) (sz n : Nat) (xs : List Value) : Prop :=
  xs.length = n * sz ∧ ((s = .slice none 0 0 ∧ n = 0 ∧ H = H0) ∨
    ∃ r pre post cap, s = .slice (some ⟨r, pre.length, none⟩) n cap ∧ H0 r = none ∧ H = hupd H0 r (.cells (pre ++ xs ++ post) e true) ∧ n ≤ cap ∧ post.length = (cap - n) * sz)

theorem RowOn.nil (H0 : Hp) (e : TypeId) (sz : Nat) : RowOn H0 H0 (.slice none 0 0) e sz 0 [] := ⟨by simp, .inl ⟨rfl, rfl, rfl⟩⟩
theorem RowOn.form {H0 H : Hp} {s : Value} {e : TypeId} {sz n : Nat} {xs : List Value} (h : RowOn H0 H s e sz n xs) : ∃ A c, s = .slice A n c := by
  rcases h.2 with ⟨h1, h2, _⟩ | ⟨r, pre, post, cap, h1, _⟩
  · exact ⟨none, 0, by rw [h1, h2]⟩
  · exact ⟨_, _, h1⟩
theorem RowOn.base {H0 H : Hp} {s : Value} {e : TypeId} {sz n : Nat} {xs : List Value} (h : RowOn H0 H s e sz n xs) : Hsub H0 H := by
  rcases h.2 with ⟨_, _, h1⟩ | ⟨r, pre, post, cap, _, h1, h2, _⟩
  · rw [h1]; exact Hsub.refl _
  · rw [h2]; exact (Hsub.refl _).hupd_fresh h1
theorem RowOn.get {H0 H : Hp} {s : Value} {e : TypeId} {sz n : Nat} {xs : List Value} (h : RowOn H0 H s e sz n xs) {B : Nat} {b : Blk} (hb : H0 B = some b) : H B = some b := h.base B b hb

section
variable {P : Program} {a : Fr} {d : Option Tmp} {ty : TypeId} {pos : String} {after : Array Edge} {g : Option (Nat × Bool)} {x y : Operand} {H0 Hr H : Hp} {k : Value → Hp → Prop}

def appT0 (P : Program) (st xt : TypeId) : Option (TypeId × Nat × Nat) := match P.underlying st with
  | some (.slice e) => match P.info? e with
    | some i => match i.zero with
      | some z => if z.cells.size = i.size ∧ i.bytes ≠ 0 ∧ notIntT P xt = true then some (e, i.size, i.bytes) else none
      | none => none
    | none => none
  | _ => none

def appT (P : Program) (st xt : TypeId) : Option (TypeId × Nat × Nat) := match appT0 P st xt with
  | some (e, sz, b) => match natF sz with
    | some sz => match natF b with
      | some b => some (e, sz, b)
      | none => none
    | none => none
  | none => none
theorem appT_spec {P : Program} {st xt e : TypeId} {sz b : Nat} (h : appT P st xt = some (e, sz, b)) : appT0 P st xt = some (e, sz, b) := by
  unfold appT at h
  split at h
  · rename_i e' sz' b' h0
    split at h
    · rename_i sz2 h1
      split at h
      · rename_i b2 h2
        cases h
        rw [h0, natF_eq h1, natF_eq h2]
      · cases h
    · cases h
  · cases h

theorem eo_app {st xt e : TypeId} {sz bytes n m : Nat} {xs news : List Value} {s u : Value} (ht : appT P st xt = some (e, sz, bytes)) (hx : opd a x = s) (hy : opd a y = u) (hlen : (Builtin.lenOf u).pr P = some m) (hnews : (Builtin.firstCells sz m u).rd P H = some news.toArray)
    (hnl : news.length = m * sz) (hone : (news.all Value.oneCell') = true) (hro : RowOn H0 Hr s e sz n xs) (hsub : Hsub Hr H) (hbig : (2 * (n + m) + 512) * bytes ≤ 281474976710656)
    (hk : ∀ v' H', RowOn H0 H' v' e sz (n + m) (xs ++ news) → k v' H') : evOp P ⟨d, .call { callee := .builtin .append, args := #[x, y], argTypes := #[st, xt] }, ty, pos, after, g⟩ a H k := by
  have ht := appT_spec ht
  unfold appT0 at ht
  split at ht
  · rename_i e' hst
    split at ht
    · rename_i inf hi
      split at ht
      · rename_i z hz
        split at ht
        · rename_i hc
          cases ht
          obtain ⟨hzs, hby, hxt⟩ := hc
          have hrow : Row H s e inf.size n xs := by
            refine ⟨hro.1, ?_⟩
            rcases hro.2 with ⟨h1, h2, _⟩ | ⟨r, pre, post, cap, h1, h2, h3, h4, h5⟩
            · exact .inl ⟨h1, h2⟩
            · exact .inr ⟨r, pre, post, cap, h1, hsub _ _ (by rw [h3]; exact hupd_same _ _ _), h4, h5⟩
          have hb0 : Hsub H0 (heraseV H s) := by
            rcases hro.2 with ⟨h1, _, h3⟩ | ⟨r, pre, post, cap, h1, h2, h3, _⟩
            · rw [h1]; simp only [heraseV]; rw [h3] at hsub; exact hsub
            · rw [h1]
              intro B b hb
              simp only [heraseV, herase]
              have hne : B ≠ r := fun e => by rw [e, h2] at hb; cases hb
              rw [if_neg hne]
              exact hsub B b (by rw [h3, hupd_ne _ _ hne]; exact hb)
          have hnl0 : (xs ++ news).length = (n + m) * inf.size := by rw [List.length_append, hro.1, hnl, Nat.add_mul]
          have key := ev_append (P := P) (ty := ty) (q := k) hst hxt hi hz hzs hlen hnews hnl hone hrow hbig hby (fun hs hn hm => ⟨H0, (by
            rcases hro.2 with ⟨_, _, h3⟩ | ⟨r, pre, post, cap, h1, _⟩
            · rw [h3] at hsub; exact hsub
            · rw [h1] at hs; cases hs), hk _ _ ⟨hnl0, .inl ⟨rfl, by omega, rfl⟩⟩⟩) (fun r pre post cap h1 h2 h3 => by
            have hr0 : H0 r = none := by
              cases hx : H0 r with
              | none => rfl
              | some b => have := hb0 r b hx; rw [h1] at this; cases this
            exact ⟨hupd H0 r (.cells (pre ++ (xs ++ news) ++ post) e true), Hsub.hupd_both hb0, hk _ _ ⟨hnl0, .inr ⟨r, pre, post, cap, rfl, hr0, rfl, h2, h3⟩⟩⟩)
          unfold evOp
          simp only [execOp, resolve, List.map_toArray, List.map_cons, List.map_nil, hx, hy]
          rw [ev_bind', ev_pr_eq (show (pure _ : Sem Deferred).pr P = some _ from rfl)]
          simp only [invoke, builtin, ev_bind']
          exact key
        · cases ht
      · cases ht
    · cases ht
  · cases ht

/-- one element, made on the spot -/
theorem eo_app1 {st xt e : TypeId} {sz bytes n B cap : Nat} {xs news : List Value} {s : Value} {e' : TypeId} {rw : Bool} (ht : appT P st xt = some (e, sz, bytes)) (hx : opd a x = s) (hy : opd a y = .slice (some ⟨B, 0, none⟩) 1 cap) (hb : H B = some (.cells news e' rw)) (hnl : (news.length == sz) = true)
    (hone : (news.all Value.oneCell') = true) (hro : RowOn H0 Hr s e sz n xs) (hsub : Hsub Hr H) (hbig : (2 * (n + 1) + 512) * bytes ≤ 281474976710656)
    (hk : ∀ v' H', RowOn H0 H' v' e sz (n + 1) (xs ++ news) → k v' H') : evOp P ⟨d, .call { callee := .builtin .append, args := #[x, y], argTypes := #[st, xt] }, ty, pos, after, g⟩ a H k := by
  have hl : news.length = sz := by simpa using hnl
  refine eo_app ht hx hy (m := 1) rfl ?_ (by omega) hone hro hsub hbig hk
  rw [rd_firstCells hb (by omega)]
  simp [← hl]

theorem eo_appstr {st xt e : TypeId} {bytes n : Nat} {xs : List Value} {s : Value} {str : ByteArray} (ht : appT P st xt = some (e, 1, bytes)) (hx : opd a x = s) (hy : opd a y = .string str) (hro : RowOn H0 Hr s e 1 n xs) (hsub : Hsub Hr H)
    (hbig : (2 * (n + str.size) + 512) * bytes ≤ 281474976710656) (hk : ∀ v' H', RowOn H0 H' v' e 1 (n + str.size) (xs ++ str.data.toList.map fun b => .int .u8 b.toNat) → k v' H') :
    evOp P ⟨d, .call { callee := .builtin .append, args := #[x, y], argTypes := #[st, xt] }, ty, pos, after, g⟩ a H k := by
  refine eo_app ht hx hy (m := str.size) rfl ?_ (by simp) (List.all_eq_true.2 fun v hv => by obtain ⟨b, _, rfl⟩ := List.mem_map.1 hv; rfl) hro hsub hbig hk
  simp only [Builtin.firstCells]
  have : str.extract 0 str.size = str := by
    apply ByteArray.ext
    simp
  rw [this]
  simp only [rd_pure]
  congr 1
  apply Array.ext'
  simp
end

end Go.Sl
