/- Copies of bytes into an owned row; a new row of zeros: lemmas; each with the conditions that it states. -/
import Derived.Test.YtbmkghbjooobeaaT17
namespace Go.Sl
section
variable {P : Program} {a : Fr} {d : Option Tmp} {ty : TypeId} {pos : String} {after : Array Edge} {g : Option (Nat × Bool)} {x y : Operand}
theorem setF_all (pre mid post vs : List Value) (h : mid.length = vs.length) : setF (pre ++ mid ++ post) pre.length vs = pre ++ vs ++ post := by
  have h1 := setF_pre pre (mid ++ post) 0 vs
  rw [Nat.add_zero] at h1
  rw [List.append_assoc, h1, setF_app mid post 0 vs (by omega)]
  have h2 : ∀ (vs mid : List Value), mid.length = vs.length → ovL vs mid = vs := by
    intro vs
    induction vs with
    | nil => intro mid h; rw [List.length_eq_zero_iff.1 h]; rfl
    | cons v vs ih =>
      intro mid h
      cases mid with
      | nil => simp at h
      | cons m mid => simp only [ovL]; rw [ih mid (by simpa using h)]
  have z : ∀ l, setF l 0 vs = ovL vs l := fun l => by cases l <;> rfl
  rw [z, h2 vs mid h, List.append_assoc]
theorem eo_copyS {st xt e : TypeId} {B off j dl dc c0 : Nat} {s : ByteArray} {xs : List UInt8} {C R : List HP} {k : Value → List HP → Prop} (hst : P.underlying st = some (.slice e)) (hi : infoSz P e = some 1) (hx : opd a x = .slice (some ⟨B, off + j, none⟩) dl dc) (hy : opd a y = .string s)
    (hp : Pick (row (some ⟨B, off, none⟩) c0 e byteC xs) C R) (hj : j + min s.size dl ≤ xs.length)
    (hk : k (.int .i64 (min s.size dl : Nat)) (row (some ⟨B, off, none⟩) c0 e byteC (xs.take j ++ (s.data.toList.take (min s.size dl) ++ xs.drop (j + min s.size dl))) :: R)) :
    EvOp P ⟨d, .call { callee := .builtin .copy, args := #[x, y], argTypes := #[st, xt] }, ty, pos, after, g⟩ a C k := fun H hs => by
  obtain ⟨inf, hi2, hsz⟩ := infoSz_spec hi
  refine evOp_of ?_
  simp only [execOp, resolve, List.map_toArray, List.map_cons, List.map_nil, hx, hy]
  rw [ev_bind', ev_pr_eq (show (pure _ : Sem Deferred).pr P = some _ from rfl)]
  simp only [invoke, builtin, ev_bind']
  unfold Builtin.copy_
  simp only [List.getElem?_toArray, List.getElem?_cons_zero, List.getElem?_cons_succ, ev_bind']
  rw [ev_pr_eq (pr_underlying hst)]
  simp only [ev_bind']
  have hln : (Builtin.lenOf (.string s)).pr P = some s.size := by simp [Builtin.lenOf]; rfl
  rw [ev_pr_eq hln, ev_pr_eq (pr_sizeOf hi2)]
  have hcl : (Builtin.firstCells inf.size (Nat.min s.size dl) (.string s)).rd P H = some ((s.data.toList.take (min s.size dl)).map byteV).toArray := by
    simp only [Builtin.firstCells, rd_pure]
    congr 1
    apply Array.ext'
    simp
    rfl
  refine ev_rd_eq hcl ?_
  rcases sats_row (hp.sats hs) with ⟨h1, _⟩ | ⟨B', pre, post, h1, h2, h3, h4⟩
  · cases h1
  · cases h1
    have hfl := byteC.flat_len xs
    have h1s : byteC.sz = 1 := rfl
    rw [h1s, Nat.mul_one] at hfl
    have hmin : Nat.min s.size dl = min s.size dl := rfl
    have hvl : (List.map byteV (List.take (min s.size dl) s.data.toList)).length = min s.size dl := by simp
    refine ev_storeCells _ 0 (pre.length + j) _ H _ (sats_pt h2).1 (by rw [List.length_append, List.length_append, hfl, hvl]; omega) (by rw [← bytes_flat]; exact byteC.flat_one _) ?_
    have hmid : (List.map byteV (List.take (min s.size dl) (List.drop j xs))).length = (List.map byteV (List.take (min s.size dl) s.data.toList)).length := by
      rw [hvl, List.length_map, List.length_take, List.length_drop]; omega
    have hsplit : pre ++ xs.flatMap byteC.enc ++ post = (pre ++ List.map byteV (xs.take j)) ++ List.map byteV (List.take (min s.size dl) (List.drop j xs)) ++ (List.map byteV (xs.drop (j + min s.size dl)) ++ post) := by
      rw [bytes_flat]
      conv => lhs; rw [← List.take_append_drop j xs, ← List.take_append_drop (min s.size dl) (List.drop j xs), List.drop_drop]
      simp only [List.map_append, List.append_assoc]
    have hset : setAt (pre ++ xs.flatMap byteC.enc ++ post) (pre.length + j + 0) (List.map byteV (List.take (min s.size dl) s.data.toList)) = pre ++ (xs.take j ++ (s.data.toList.take (min s.size dl) ++ xs.drop (j + min s.size dl))).flatMap byteC.enc ++ post := by
      rw [← setF_eq, hsplit]
      have e1 : pre.length + j + 0 = (pre ++ List.map byteV (xs.take j)).length := by
        rw [List.length_append, List.length_map, List.length_take]; omega
      rw [e1, setF_all _ _ _ _ hmid, bytes_flat]
      simp only [List.map_append, List.append_assoc]
    rw [hset]
    have hlen : (xs.take j ++ (s.data.toList.take (min s.size dl) ++ xs.drop (j + min s.size dl))).length = xs.length := by
      have hsl : s.data.toList.length = s.size := by simp
      simp only [List.length_append, List.length_take, List.length_drop, hsl]
      omega
    exact ⟨_, row_sats rfl (sats_put h2) (by rw [hlen]; exact h3) (by rw [hlen]; exact h4), hk⟩
variable {ops : Array Oper} {Q : Fr → List HP → Prop} {C R : List HP} {c d' : Nat} {gd : Bool} {es : ET} {hist : List (List HP)}
/-- a text's bytes into an owned row, from a place on -/
theorem G_copyS {st xt e : TypeId} {B off j dl dc c0 : Nat} {s : ByteArray} {xs : List UInt8} (h : spl gd (.int .i64 (min s.size dl : Nat)) fun v => evG P ops Q es (C :: hist) (upd a d' v) (row (some ⟨B, off, none⟩) c0 e byteC (xs.take j ++ (s.data.toList.take (min s.size dl) ++ xs.drop (j + min s.size dl))) :: R))
    (hx : opd a x = .slice (some ⟨B, off + j, none⟩) dl dc := by exact rfl) (hy : opd a y = .string s := by exact rfl) (hst : P.underlying st = some (.slice e) := by exact rfl) (hi : infoSz P e = some 1 := by exact rfl)
    (hp : Pick (row (some ⟨B, off, none⟩) c0 e byteC xs) C R := by ((repeat (first | exact Pick.here | apply Pick.there)) <;> exact Pick.here)) (hj : j + min s.size dl ≤ xs.length := by first | omega | assumption)
    (hk : kd P (.call { callee := .builtin .copy, args := #[x, y], argTypes := #[st, xt] }) = .other := by exact rfl) (hw : wantB ops ⟨some d', .call { callee := .builtin .copy, args := #[x, y], argTypes := #[st, xt] }, ty, pos, after, g⟩ a = true := by exact rfl) : evG P ops Q (ET.cons (c, gd, ⟨some d', .call { callee := .builtin .copy, args := #[x, y], argTypes := #[st, xt] }, ty, pos, after, g⟩) es) hist a C :=
  G_o (hk := hk) (hw := hw) (eo_copyS hst hi hx hy hp hj h)
end
end Go.Sl
