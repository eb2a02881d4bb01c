/- What each operation yields: one small law a kind of operation, for the walk: lemmas; each with the conditions that it states. -/
import Derived.Test.YtgdfmbnbknhhiaaSl5
import Derived.Laws.Entries
namespace Go.Sl

/-- A value written out. -/
def force : Value → Option Value
  | .bool b => some (.bool b)
  | .int k n => some (.int k n)
  | .string s => some (.string s)
  | .pointer none => some (.pointer none)
  | .pointer (some ⟨b, o, s⟩) => some (.pointer (some ⟨b, o, s⟩))
  | .slice A n c => some (.slice A n c)
  | .map r => some (.map r)
  | .func fn f c => some (.func fn f c)
  | .nilFunc => some .nilFunc
  | .iface t v => some (.iface t v)
  | .nilIface => some .nilIface
  | .agg cs => some (.agg cs)
  | .tuple vs => some (.tuple vs)
  | _ => none

theorem force_eq {x v : Value} (h : force x = some v) : x = v := by
  unfold force at h
  split at h <;> first | (cases h; rfl) | cases h

section
variable {P : Program} {ops : Array Oper} {Q : Fr → Hp → Prop} {a : Fr} {H : Hp} {i : Nat} {o : Oper} {rest : List Oper} {v : Value}

theorem pureV_pr (h : (execOp (opd a) o).pr P = some (.value v)) : pureV P o a = some v := by unfold pureV; rw [h]; rfl
theorem pureV_run (h : pureV P o a = some v) : (execOp (opd a) o).pr P = some (.value v) := by
  unfold pureV at h
  cases hx : (execOp (opd a) o).pr P with
  | none => rw [hx] at h; cases h
  | some n => rw [hx] at h; cases n <;> first | (simp [valOf] at h; subst h; rfl) | cases h

theorem evOp_of_rd {k : Value → Hp → Prop} (h : rdV P o a H = some v) (hk : k v H) : evOp P o a H k := by
  refine evOp_of (rd_ev P _ (.value v) (nxt P k) ?_ (show nxt P k (.value v) H from hk))
  unfold rdV at h
  cases hx : (execOp (opd a) o).rd P H with
  | none => rw [hx] at h; cases h
  | some n => rw [hx] at h; cases n <;> first | (simp [valOf] at h; subst h; rfl) | cases h

theorem rdV_of_pureV (h : pureV P o a = some v) : rdV P o a H = some v := by
  have := pureV_run h
  unfold rdV
  rw [pr_rd P _ H _ this]
  rfl

theorem evL_p (hw : wantB ops o a = true) (hv : pureV P o a = some v) (h : spl (isG ops i) v fun v => evL P ops Q (i + 1) rest (putO a o.dst v) H) : evL P ops Q i (o :: rest) a H := by
  unfold evL
  rw [if_pos hw]
  exact evOp_of_rd (rdV_of_pureV hv) h
theorem evL_r (hw : wantB ops o a = true) (hv : rdV P o a H = some v) (h : spl (isG ops i) v fun v => evL P ops Q (i + 1) rest (putO a o.dst v) H) : evL P ops Q i (o :: rest) a H := by
  unfold evL
  rw [if_pos hw]
  exact evOp_of_rd hv h
theorem evL_o (hw : wantB ops o a = true) (h : evOp P o a H fun v H' => spl (isG ops i) v fun v => evL P ops Q (i + 1) rest (putO a o.dst v) H') : evL P ops Q i (o :: rest) a H := by
  unfold evL
  rw [if_pos hw]
  exact h
theorem evL_s (hw : wantB ops o a = false) (h : evL P ops Q (i + 1) rest (putO a o.dst undef) H) : evL P ops Q i (o :: rest) a H := by
  unfold evL
  rw [if_neg (by rw [hw]; simp)]
  exact h
theorem evL_nil (h : Q a H) : evL P ops Q i [] a H := h

variable {c : Nat} {l : List (Nat × Nat)} {hist : List Hp}
theorem evD_p (ho : ops[i]? = some o) (hk : kd P o.op = .pure) (hw : wantB ops o a = true) (hv : pureV P o a = some v) (h : spl (isG ops i) v fun v => evD P ops Q l hist (putO a o.dst v) H) : evD P ops Q ((i, c) :: l) hist a H := by
  simp only [evD, ho, hw, if_true, hk]
  exact ⟨v, hv, h⟩
theorem evD_r (ho : ops[i]? = some o) (hk : kd P o.op = .load) (hw : wantB ops o a = true) (hv : rdV P o a H = some v) (hh : ∀ h ∈ hist.take c, rdV P o a h = some v) (h : spl (isG ops i) v fun v => evD P ops Q l hist (putO a o.dst v) H) :
    evD P ops Q ((i, c) :: l) hist a H := by
  simp only [evD, ho, hw, if_true, hk]
  exact ⟨v, hv, hh, h⟩
theorem evD_o (ho : ops[i]? = some o) (hk : kd P o.op = .other) (hw : wantB ops o a = true) (h : evOp P o a H fun v H' => spl (isG ops i) v fun v => evD P ops Q l (H :: hist) (putO a o.dst v) H') : evD P ops Q ((i, c) :: l) hist a H := by
  simp only [evD, ho, hw, if_true, hk]
  exact h
theorem evD_s (ho : ops[i]? = some o) (hw : wantB ops o a = false) (h : evD P ops Q l hist (putO a o.dst undef) H) : evD P ops Q ((i, c) :: l) hist a H := by
  simp only [evD, ho, hw]
  exact h
theorem evD_nil (h : Q a H) : evD P ops Q [] hist a H := h
end

theorem spl_no {g : Bool} {v : Value} {k : Value → Prop} (_hg : g = false) (h : k v) : spl g v k := (spl_iff g v k).2 h
theorem spl_yes {g b : Bool} {k : Value → Prop} (hg : g = true) (h : Br b (k (.bool true)) (k (.bool false))) : spl g (.bool b) k := by subst hg; exact h
theorem Br.t {b : Bool} {x y : Prop} (hb : b = true) (h : x) : Br b x y := ⟨fun _ => h, fun h' => by rw [hb] at h'; cases h'⟩
theorem Br.f {b : Bool} {x y : Prop} (hb : b = false) (h : y) : Br b x y := ⟨fun h' => (by rw [hb] at h'; cases h'), fun _ => h⟩

section
variable {P : Program} {a : Fr} {d : Option Tmp} {ty : TypeId} {pos : String} {after : Array Edge} {g : Option (Nat × Bool)} {t yt : TypeId} {x y z : Operand}

theorem pv_move {v : Value} (hx : force (opd a x) = some v) : pureV P ⟨d, .move x, ty, pos, after, g⟩ a = some v := by
  rw [← force_eq hx]; rfl
theorem pv_assign {v : Value} (hx : force (opd a x) = some v) : pureV P ⟨d, .assign x, ty, pos, after, g⟩ a = some v := by
  rw [← force_eq hx]; rfl
theorem pv_move' {v : Value} (hx : opd a x = v) : pureV P ⟨d, .move x, ty, pos, after, g⟩ a = some v := by subst hx; rfl
theorem pv_assign' {v : Value} (hx : opd a x = v) : pureV P ⟨d, .assign x, ty, pos, after, g⟩ a = some v := by subst hx; rfl
theorem pv_pick_t {v : Value} (hx : opd a x = .bool true) (hy : force (opd a y) = some v) : pureV P ⟨d, .pick x y z, ty, pos, after, g⟩ a = some v := by
  refine pureV_pr ?_
  simp only [execOp, hx, asBool, pr_bind, pure, Sem.pr, Option.bind_some, if_true, force_eq hy]
theorem pv_pick_f {v : Value} (hx : opd a x = .bool false) (hz : force (opd a z) = some v) : pureV P ⟨d, .pick x y z, ty, pos, after, g⟩ a = some v := by
  refine pureV_pr ?_
  simp only [execOp, hx, asBool, pr_bind, pure, Sem.pr, Option.bind_some, force_eq hz]
  rfl
theorem pv_nil {p : Addr} (hx : opd a x = .pointer (some p)) : pureV P ⟨d, .nilCheck x, ty, pos, after, g⟩ a = some (.pointer (some p)) := by
  refine pureV_pr ?_
  simp only [execOp, hx]; rfl
theorem pv_nilF {fn : FuncId} {fs cs : Array Value} (hx : opd a x = .func (.func fn) fs cs) : pureV P ⟨d, .nilCheck x, ty, pos, after, g⟩ a = some (.func (.func fn) fs cs) := by
  refine pureV_pr ?_
  simp only [execOp, hx]; rfl

/-! integers -/
def intBin : BinOp → IntKind → Int → Int → Value
  | .add, k, m, n => .int k (k.wrap (m + n))
  | .sub, k, m, n => .int k (k.wrap (m - n))
  | .mul, k, m, n => .int k (k.wrap (m * n))
  | .eql, _, m, n => .bool (m == n)
  | .neq, _, m, n => .bool (m != n)
  | .lss, _, m, n => .bool (m < n)
  | .leq, _, m, n => .bool (m ≤ n)
  | .gtr, _, m, n => .bool (m > n)
  | .geq, _, m, n => .bool (m ≥ n)
  | .and, k, m, n => .int k (k.wrap (BitVec.ofInt k.bits m &&& BitVec.ofInt k.bits n).toNat)
  | .or, k, m, n => .int k (k.wrap (BitVec.ofInt k.bits m ||| BitVec.ofInt k.bits n).toNat)
  | .xor, k, m, n => .int k (k.wrap (BitVec.ofInt k.bits m ^^^ BitVec.ofInt k.bits n).toNat)
  | .andNot, k, m, n => .int k (k.wrap (BitVec.ofInt k.bits m &&& ~~~BitVec.ofInt k.bits n).toNat)
  | _, _, _, _ => undef
def intPlain : BinOp → Bool
  | .quo | .rem | .shl | .shr => false
  | _ => true
theorem pv_int {op : BinOp} {k : IntKind} {m n : Int} {v : Value} (hx : opd a x = .int k m) (hy : opd a y = .int k n) (hp : intPlain op = true) (hv : force (intBin op k m n) = some v) :
    pureV P ⟨d, .binOp op t x y yt, ty, pos, after, g⟩ a = some v := by
  refine pureV_pr ?_
  rw [← force_eq hv]
  have hb : binOp op t (.int k m) (.int k n) = pure (intBin op k m n) := by
    cases op <;> first | exact absurd hp (by decide) | (simp [binOp, Op.intArith, Op.intCmp, Op.intBits, intBin])
  simp only [execOp, hx, hy, eqGuard_at_int, hb]
  rfl
theorem pv_quo {k : IntKind} {m n : Int} (hx : opd a x = .int k m) (hy : opd a y = .int k n) (hn : n ≠ 0) : pureV P ⟨d, .binOp .quo t x y yt, ty, pos, after, g⟩ a = some (.int k (k.wrap (m.tdiv n))) := by
  refine pureV_pr ?_
  simp only [execOp, hx, hy, eqGuard_at_int]
  have : (binOp .quo t (.int k m) (.int k n)).pr P = some (.int k (k.wrap (m.tdiv n))) := by simp [binOp, Op.intDiv, hn]; rfl
  simp only [pr_bind, this]
  rfl
theorem pv_rem {k : IntKind} {m n : Int} (hx : opd a x = .int k m) (hy : opd a y = .int k n) (hn : n ≠ 0) : pureV P ⟨d, .binOp .rem t x y yt, ty, pos, after, g⟩ a = some (.int k (m.tmod n)) := by
  refine pureV_pr ?_
  simp only [execOp, hx, hy, eqGuard_at_int]
  have : (binOp .rem t (.int k m) (.int k n)).pr P = some (.int k (m.tmod n)) := by simp [binOp, Op.intDiv, hn]; rfl
  simp only [pr_bind, this]
  rfl
theorem pv_shl {k yk : IntKind} {m n : Int} (hx : opd a x = .int k m) (hy : opd a y = .int yk n) (hn : ¬ n < 0) : pureV P ⟨d, .binOp .shl t x y yt, ty, pos, after, g⟩ a = some (.int k (k.wrap (m * 2 ^ (min n.toNat k.bits)))) := by
  refine pureV_pr ?_
  simp only [execOp, hx, hy, eqGuard_at_int]
  have : (binOp .shl t (.int k m) (.int yk n)).pr P = some (.int k (k.wrap (m * 2 ^ (min n.toNat k.bits)))) := by simp [binOp, Op.shift, hn]; rfl
  simp only [pr_bind, this]
  rfl
theorem pv_shr {k yk : IntKind} {m n : Int} (hx : opd a x = .int k m) (hy : opd a y = .int yk n) (hn : ¬ n < 0) : pureV P ⟨d, .binOp .shr t x y yt, ty, pos, after, g⟩ a = some (.int k (m.fdiv (2 ^ (min n.toNat k.bits)))) := by
  refine pureV_pr ?_
  simp only [execOp, hx, hy, eqGuard_at_int]
  have : (binOp .shr t (.int k m) (.int yk n)).pr P = some (.int k (m.fdiv (2 ^ (min n.toNat k.bits)))) := by simp [binOp, Op.shift, hn]; rfl
  simp only [pr_bind, this]
  rfl

/-! strings -/
def strBin : BinOp → ByteArray → ByteArray → Value
  | .eql, m, n => .bool (m.toList == n.toList)
  | .neq, m, n => .bool (!(m.toList == n.toList))
  | .lss, m, n => .bool (Op.bytesLess m.toList n.toList)
  | .leq, m, n => .bool (Op.bytesLess m.toList n.toList || m.toList == n.toList)
  | .gtr, m, n => .bool (!(Op.bytesLess m.toList n.toList || m.toList == n.toList))
  | .geq, m, n => .bool (!(Op.bytesLess m.toList n.toList))
  | _, _, _ => undef
def strPlain : BinOp → Bool
  | .eql | .neq | .lss | .leq | .gtr | .geq => true
  | _ => false
theorem pv_str {op : BinOp} {m n : ByteArray} {v : Value} (hx : opd a x = .string m) (hy : opd a y = .string n) (hp : strPlain op = true) (hv : force (strBin op m n) = some v) :
    pureV P ⟨d, .binOp op t x y yt, ty, pos, after, g⟩ a = some v := by
  refine pureV_pr ?_
  rw [← force_eq hv]
  have hb : binOp op t (.string m) (.string n) = pure (strBin op m n) := by
    cases op <;> first | exact absurd hp (by decide) | (simp [binOp, Op.stringOp, strBin])
  simp only [execOp, hx, hy, eqGuard_at_string, hb]
  rfl
theorem pv_cat {m n : ByteArray} (hx : opd a x = .string m) (hy : opd a y = .string n) (hs : m.size + n.size ≤ 9223372036854775807) :
    pureV P ⟨d, .binOp .add t x y yt, ty, pos, after, g⟩ a = some (.string (m ++ n)) := by
  refine pureV_pr ?_
  simp only [execOp, hx, hy]
  have h : ¬ ((m.size + n.size : Nat) : Int) > IntKind.i64.max := by
    have : IntKind.i64.max = 9223372036854775807 := by decide
    rw [this]; omega
  have : (binOp .add t (.string m) (.string n)).pr P = some (.string (m ++ n)) := by simp only [binOp, Op.stringOp]; rw [if_neg h]; rfl
  simp only [pr_bind, this]
  rfl

/-! equality with nil, of bools -/
theorem eqGuard_pr {op : BinOp} {u w : Value} (h : (∃ p, u = .pointer p) ∨ (∃ b n c, u = .slice b n c) ∨ (∃ r, u = .map r) ∨ (∃ b, u = .bool b) ∨ u = .nilFunc ∨ (∃ f x y, u = .func f x y)) : (eqGuard op t x y u w).pr P = some () := by
  rcases h with ⟨p, rfl⟩ | ⟨b, n, c, rfl⟩ | ⟨r, rfl⟩ | ⟨b, rfl⟩ | rfl | ⟨f, x, y, rfl⟩ <;> cases op <;> rfl

theorem pr_underlying {D : TypeDesc} (h : P.underlying t = some D) : (underlying t).pr P = some D := by
  simp only [underlying, pr_bind, program, Sem.pr, Option.bind_some, h]; rfl

theorem pr_equal_ptr {e : TypeId} {p : Option Addr} (ht : P.underlying t = some (.pointer e)) : (Op.equal t (.pointer p) (.pointer none)).pr P = some p.isNone := by
  unfold Op.equal Op.maxDepth Op.equalIn
  rw [pr_bind, pr_underlying ht, Option.bind_some]
  cases p <;> rfl
theorem pr_equal_slice {e : TypeId} {p : Option Addr} {n c n' c' : Nat} (ht : P.underlying t = some (.slice e)) : (Op.equal t (.slice p n c) (.slice none n' c')).pr P = some p.isNone := by
  unfold Op.equal Op.maxDepth Op.equalIn
  rw [pr_bind, pr_underlying ht, Option.bind_some]
  cases p <;> rfl
theorem pr_equal_bool {b b' : Bool} (ht : P.underlying t = some .bool) : (Op.equal t (.bool b) (.bool b')).pr P = some (b == b') := by
  unfold Op.equal Op.maxDepth Op.equalIn
  rw [pr_bind, pr_underlying ht, Option.bind_some]
  rfl

def isPtrT (P : Program) (t : TypeId) : Bool := match P.underlying t with
  | some (.pointer _) => true
  | _ => false
def isSliceT (P : Program) (t : TypeId) : Bool := match P.underlying t with
  | some (.slice _) => true
  | _ => false
def isBoolT (P : Program) (t : TypeId) : Bool := match P.underlying t with
  | some .bool => true
  | _ => false
theorem isPtrT_spec (h : isPtrT P t = true) : ∃ e, P.underlying t = some (.pointer e) := by
  unfold isPtrT at h; split at h
  · exact ⟨_, ‹_›⟩
  · cases h
theorem isSliceT_spec (h : isSliceT P t = true) : ∃ e, P.underlying t = some (.slice e) := by
  unfold isSliceT at h; split at h
  · exact ⟨_, ‹_›⟩
  · cases h
theorem isBoolT_spec (h : isBoolT P t = true) : P.underlying t = some .bool := by
  unfold isBoolT at h; split at h
  · assumption
  · cases h

theorem binOp_eql_ne {u w : Value} (h : (∃ p q, u = .pointer p ∧ w = .pointer q) ∨ (∃ p n c q n' c', u = .slice p n c ∧ w = .slice q n' c') ∨ (∃ b b', u = .bool b ∧ w = .bool b')) :
    binOp .eql t u w = (do pure (.bool (← Op.equal t u w))) ∧ binOp .neq t u w = (do pure (.bool (!(← Op.equal t u w)))) := by
  rcases h with ⟨p, q, rfl, rfl⟩ | ⟨p, n, c, q, n', c', rfl, rfl⟩ | ⟨b, b', rfl, rfl⟩ <;> exact ⟨rfl, rfl⟩

theorem pv_eql_of {u w : Value} {b : Bool} (hx : opd a x = u) (hy : opd a y = w) (h : (∃ p q, u = .pointer p ∧ w = .pointer q) ∨ (∃ p n c q n' c', u = .slice p n c ∧ w = .slice q n' c') ∨ (∃ b b', u = .bool b ∧ w = .bool b')) (he : (Op.equal t u w).pr P = some b) :
    pureV P ⟨d, .binOp .eql t x y yt, ty, pos, after, g⟩ a = some (.bool b) ∧ pureV P ⟨d, .binOp .neq t x y yt, ty, pos, after, g⟩ a = some (.bool (!b)) := by
  have hg : ∀ op, (eqGuard op t x y u w).pr P = some () := fun op => eqGuard_pr (by
    rcases h with ⟨p, q, rfl, rfl⟩ | ⟨p, n, c, q, n', c', rfl, rfl⟩ | ⟨b, b', rfl, rfl⟩
    · exact .inl ⟨_, rfl⟩
    · exact .inr (.inl ⟨_, _, _, rfl⟩)
    · exact .inr (.inr (.inr (.inl ⟨_, rfl⟩))))
  obtain ⟨h1, h2⟩ := binOp_eql_ne (t := t) h
  constructor
  · refine pureV_pr ?_
    simp only [execOp, hx, hy, pr_bind, hg, Option.bind_some, h1, he]
    rfl
  · refine pureV_pr ?_
    simp only [execOp, hx, hy, pr_bind, hg, Option.bind_some, h2, he]
    rfl

theorem pv_eql_nil {p : Option Addr} {v : Value} (ht : isPtrT P t = true) (hx : opd a x = .pointer p) (hy : opd a y = .pointer none) (hv : force (.bool p.isNone) = some v) : pureV P ⟨d, .binOp .eql t x y yt, ty, pos, after, g⟩ a = some v := by
  obtain ⟨e, he⟩ := isPtrT_spec ht
  rw [← force_eq hv]
  exact (pv_eql_of hx hy (.inl ⟨_, _, rfl, rfl⟩) (pr_equal_ptr he)).1
theorem pv_neq_nil {p : Option Addr} {v : Value} (ht : isPtrT P t = true) (hx : opd a x = .pointer p) (hy : opd a y = .pointer none) (hv : force (.bool (!p.isNone)) = some v) : pureV P ⟨d, .binOp .neq t x y yt, ty, pos, after, g⟩ a = some v := by
  obtain ⟨e, he⟩ := isPtrT_spec ht
  rw [← force_eq hv]
  exact (pv_eql_of hx hy (.inl ⟨_, _, rfl, rfl⟩) (pr_equal_ptr he)).2
theorem pv_eql_bool {b b' : Bool} (ht : isBoolT P t = true) (hx : opd a x = .bool b) (hy : opd a y = .bool b') : pureV P ⟨d, .binOp .eql t x y yt, ty, pos, after, g⟩ a = some (.bool (b == b')) :=
  (pv_eql_of hx hy (.inr (.inr ⟨_, _, rfl, rfl⟩)) (pr_equal_bool (isBoolT_spec ht))).1
theorem pv_neq_bool {b b' : Bool} (ht : isBoolT P t = true) (hx : opd a x = .bool b) (hy : opd a y = .bool b') : pureV P ⟨d, .binOp .neq t x y yt, ty, pos, after, g⟩ a = some (.bool (!(b == b'))) :=
  (pv_eql_of hx hy (.inr (.inr ⟨_, _, rfl, rfl⟩)) (pr_equal_bool (isBoolT_spec ht))).2
theorem pv_eql_slice {p : Option Addr} {n c n' c' : Nat} (ht : isSliceT P t = true) (hx : opd a x = .slice p n c) (hy : opd a y = .slice none n' c') : pureV P ⟨d, .binOp .eql t x y yt, ty, pos, after, g⟩ a = some (.bool p.isNone) := by
  obtain ⟨e, he⟩ := isSliceT_spec ht
  exact (pv_eql_of hx hy (.inr (.inl ⟨_, _, _, _, _, _, rfl, rfl⟩)) (pr_equal_slice he)).1
theorem pv_neq_slice {p : Option Addr} {n c n' c' : Nat} (ht : isSliceT P t = true) (hx : opd a x = .slice p n c) (hy : opd a y = .slice none n' c') : pureV P ⟨d, .binOp .neq t x y yt, ty, pos, after, g⟩ a = some (.bool (!p.isNone)) := by
  obtain ⟨e, he⟩ := isSliceT_spec ht
  exact (pv_eql_of hx hy (.inr (.inl ⟨_, _, _, _, _, _, rfl, rfl⟩)) (pr_equal_slice he)).2

theorem pv_not {b : Bool} {v : Value} (hx : opd a x = .bool b) (hv : force (.bool !b) = some v) : pureV P ⟨d, .unOp .not t x, ty, pos, after, g⟩ a = some v := by
  rw [← force_eq hv]
  refine pureV_pr ?_
  simp only [execOp, hx]; rfl
theorem pv_neg {k : IntKind} {n : Int} (hx : opd a x = .int k n) : pureV P ⟨d, .unOp .neg t x, ty, pos, after, g⟩ a = some (.int k (k.wrap (0 - n))) := by
  refine pureV_pr ?_
  simp only [execOp, hx]; rfl

theorem pr_typeInfo {i : TypeInfo} (h : P.info? t = some i) : (typeInfo t).pr P = some i := by
  simp only [typeInfo, pr_bind, program, Sem.pr, Option.bind_some, h]; rfl
theorem pr_sizeOf {i : TypeInfo} (h : P.info? t = some i) : (sizeOf t).pr P = some i.size := by
  simp only [sizeOf, pr_bind, pr_typeInfo h, Option.bind_some]; rfl

/-- where a field lies (its type not of size 0) -/
def fieldOff (P : Program) (t : TypeId) (f : Nat) : Option Nat := match P.underlying t with
  | some (.struct fs) => match fs[f]? with
    | some fd => match P.info? fd.type with
      | some i => if i.size = 0 then none else some fd.offset
      | none => none
    | none => none
  | _ => none
theorem pv_field {B off n f : Nat} (hx : opd a x = .pointer (some ⟨B, off, none⟩)) (hf : fieldOff P t f = some n) : pureV P ⟨d, .fieldAddr t x f, ty, pos, after, g⟩ a = some (.pointer (some ⟨B, off + n, none⟩)) := by
  refine pureV_pr ?_
  unfold fieldOff at hf
  split at hf
  · rename_i fs hu
    split at hf
    · rename_i fd hfd
      split at hf
      · rename_i i hi
        split at hf
        · cases hf
        · rename_i hz
          cases hf
          simp only [execOp, hx, Instr.fieldAt, pr_bind, pr_underlying hu, Option.bind_some, hfd, Instr.sureAddr, pure, Sem.pr, fieldPlace, pr_sizeOf hi, if_neg hz, add_off]
      · cases hf
    · cases hf
  · cases hf

/-- the size of an element -/
def elemSz (P : Program) (t : TypeId) : Option Nat := match P.underlying t with
  | some (.slice e) => match P.info? e with
    | some i => some i.size
    | none => none
  | _ => none
theorem elemSz_spec {sz : Nat} (h : elemSz P t = some sz) : ∃ e i, P.underlying t = some (.slice e) ∧ P.info? e = some i ∧ i.size = sz := by
  unfold elemSz at h
  split at h
  · rename_i e hu
    split at h
    · rename_i i hi; exact ⟨e, i, hu, hi, by simpa using h⟩
    · cases h
  · cases h
theorem pv_index {B off n c sz : Nat} {k : IntKind} {j : Int} (ht : elemSz P t = some sz) (hx : opd a x = .slice (some ⟨B, off, none⟩) n c) (hy : opd a y = .int k j) (h0 : 0 ≤ j) (h1 : j < n) :
    pureV P ⟨d, .indexAddr t x y, ty, pos, after, g⟩ a = some (.pointer (some ⟨B, off + j.toNat * sz, none⟩)) := by
  obtain ⟨e, i, hu, hi, rfl⟩ := elemSz_spec ht
  refine pureV_pr ?_
  simp only [execOp, hx, hy, Instr.indexAt, pr_bind, asIntOf, pure, Sem.pr, Option.bind_some, pr_underlying hu, h0, h1, and_self, if_true, pr_sizeOf hi, add_off]
theorem pv_len_slice {A : Option Addr} {n c : Nat} {as : Array Operand} {ts : Array TypeId} (hargs : as.toList.map (opd a) = [.slice A n c]) (ht : (ts[0]?).any (isSliceT P) = true) :
    pureV P ⟨d, .call { callee := .builtin .len, args := as, argTypes := ts }, ty, pos, after, g⟩ a = some (.int .i64 n) := by
  refine pureV_pr ?_
  have h1 : as.map (opd a) = #[.slice A n c] := by apply Array.ext'; simpa using hargs
  cases h0 : ts[0]? with
  | none => rw [h0] at ht; cases ht
  | some t0 =>
    rw [h0] at ht
    obtain ⟨e, he⟩ := isSliceT_spec (by simpa using ht)
    simp only [execOp, resolve, h1, pr_bind, pure, Sem.pr, Option.bind_some, invoke, builtin, Builtin.len_, h0]
    simp only [List.getElem?_toArray, List.getElem?_cons_zero, pr_bind, pr_underlying he, Option.bind_some]
    rfl
def isStrT (P : Program) (t : TypeId) : Bool := match P.underlying t with
  | some .string => true
  | _ => false
theorem isStrT_spec (h : isStrT P t = true) : P.underlying t = some .string := by
  unfold isStrT at h; split at h
  · assumption
  · cases h
theorem pv_len_str {s : ByteArray} {as : Array Operand} {ts : Array TypeId} (hargs : as.toList.map (opd a) = [.string s]) (ht : (ts[0]?).any (isStrT P) = true) :
    pureV P ⟨d, .call { callee := .builtin .len, args := as, argTypes := ts }, ty, pos, after, g⟩ a = some (.int .i64 s.size) := by
  refine pureV_pr ?_
  have h1 : as.map (opd a) = #[.string s] := by apply Array.ext'; simpa using hargs
  cases h0 : ts[0]? with
  | none => rw [h0] at ht; cases ht
  | some t0 =>
    rw [h0] at ht
    have he := isStrT_spec (by simpa using ht)
    simp only [execOp, resolve, h1, pr_bind, pure, Sem.pr, Option.bind_some, invoke, builtin, Builtin.len_, h0]
    simp only [List.getElem?_toArray, List.getElem?_cons_zero, pr_bind, pr_underlying he, Option.bind_some]
    rfl
theorem pv_extract {vs : Array Value} {n : Nat} {v : Value} (hx : opd a x = .tuple vs) (hv : vs[n]? = some v) : pureV P ⟨d, .extract x n, ty, pos, after, g⟩ a = some v := by
  refine pureV_pr ?_
  simp only [execOp, hx, Instr.extract, hv]; rfl
theorem pv_makeFunc {fn : Fn} {fs cs : Array Operand} {l1 l2 : List Value} (h1 : fs.toList.map (opd a) = l1) (h2 : cs.toList.map (opd a) = l2) : pureV P ⟨d, .makeFunc fn fs cs, ty, pos, after, g⟩ a = some (.func fn l1.toArray l2.toArray) := by
  refine pureV_pr ?_
  have e1 : fs.map (opd a) = l1.toArray := by apply Array.ext'; simpa using h1
  have e2 : cs.map (opd a) = l2.toArray := by apply Array.ext'; simpa using h2
  simp only [execOp, e1, e2]; rfl

/-! string and slice expressions -/
theorem pv_strslice_lo {s : ByteArray} {k : IntKind} {j : Int} (ht : isStrT P t = true) (hx : opd a x = .string s) (hy : opd a y = .int k j) (h0 : 0 ≤ j) (h1 : j ≤ s.size) :
    pureV P ⟨d, .slice t x (some y) none none, ty, pos, after, g⟩ a = some (.string (s.extract j.toNat s.size)) := by
  refine pureV_pr ?_
  simp only [execOp, hx, Option.map_some, Option.map_none, hy, Instr.sliceAt, Instr.slice, pr_bind, pr_underlying (isStrT_spec ht), Option.bind_some, Instr.sliceBounds, Instr.sliceBound, asIntOf, pure, Sem.pr, h0, h1, and_self, if_true,
    Option.isSome_none, Bool.false_eq_true, if_false]
theorem pv_strslice_hi {s : ByteArray} {k : IntKind} {j : Int} (ht : isStrT P t = true) (hx : opd a x = .string s) (hy : opd a y = .int k j) (h0 : 0 ≤ j) (h1 : j ≤ s.size) :
    pureV P ⟨d, .slice t x none (some y) none, ty, pos, after, g⟩ a = some (.string (s.extract 0 j.toNat)) := by
  refine pureV_pr ?_
  simp only [execOp, hx, Option.map_some, Option.map_none, hy, Instr.sliceAt, Instr.slice, pr_bind, pr_underlying (isStrT_spec ht), Option.bind_some, Instr.sliceBounds, Instr.sliceBound, asIntOf, pure, Sem.pr, h0, h1, and_self, if_true,
    Option.isSome_none, Bool.false_eq_true, if_false]
theorem pv_strslice {s : ByteArray} {k k' : IntKind} {j m : Int} (ht : isStrT P t = true) (hx : opd a x = .string s) (hy : opd a y = .int k j) (hz : opd a z = .int k' m) (h0 : 0 ≤ j) (h1 : j ≤ m) (h2 : m ≤ s.size) :
    pureV P ⟨d, .slice t x (some y) (some z) none, ty, pos, after, g⟩ a = some (.string (s.extract j.toNat m.toNat)) := by
  refine pureV_pr ?_
  have e1 : 0 ≤ m := by omega
  have e2 : j ≤ (m.toNat : Int) := by omega
  simp only [execOp, hx, Option.map_some, hy, hz, Option.map_none, Instr.sliceAt, Instr.slice, pr_bind, pr_underlying (isStrT_spec ht), Option.bind_some, Instr.sliceBounds, Instr.sliceBound, asIntOf, pure, Sem.pr, h0, h2, e1, e2, and_self, if_true,
    Option.isSome_none, Bool.false_eq_true, if_false]

/-! loads -/
theorem rv_load {H : Hp} {v : Value} (h : ldV P H t (opd a x) = some v) : rdV P ⟨d, .load t x, ty, pos, after, g⟩ a H = some v := by
  unfold rdV
  simp only [execOp, rd_bind, rd_loadAt h, Option.bind_some, rd_pure]; rfl
end

end Go.Sl
