/- What each operation yields: one small law a kind of operation, for the walk. What changes memory: stores, new variables, calls. The walk's steps: each kind of operation at the head of what is left. Most of this text was printed by a small program: lemmas; each with the conditions that it states. -/
import Derived.Test.YtiofdmjecjcdbaaGreatDoorFa
import Derived.Laws.Entries
set_option linter.unusedVariables false
set_option linter.unusedSimpArgs false
namespace Go.Sl

/-- A value written out. -/
def force : Value → Option Value
  | .bool b => some (.bool b)
  | .int k n => some (.int k n)
  | .string s => some (.string s)
  | .pointer none => some (.pointer none)
  | .pointer (some ⟨b, o, s⟩) => some (.pointer (some ⟨b, o, s⟩))
  | .slice A n c => some (.slice A n c)
  | .map r => some (.map r)
  | .func fn f c => some (.func fn f c)
  | .nilFunc => some .nilFunc
  | .iface t v => some (.iface t v)
  | .nilIface => some .nilIface
  | .agg cs => some (.agg cs)
  | .tuple vs => some (.tuple vs)
  | _ => none

theorem force_eq {x v : Value} (h : force x = some v) : x = v := by
  unfold force at h
  split at h <;> first | (cases h; rfl) | cases h

section
variable {P : Program} {ops : Array Oper} {Q : Fr → Hp → Prop} {a : Fr} {H : Hp} {i : Nat} {o : Oper} {rest : List Oper} {v : Value}

theorem pureV_pr (h : (execOp (opd a) o).pr P = some (.value v)) : pureV P o a = some v := by unfold pureV; rw [h]; rfl
theorem pureV_run (h : pureV P o a = some v) : (execOp (opd a) o).pr P = some (.value v) := by
  unfold pureV at h
  cases hx : (execOp (opd a) o).pr P with
  | none => rw [hx] at h; cases h
  | some n => rw [hx] at h; cases n <;> first | (simp [valOf] at h; subst h; rfl) | cases h

theorem evOp_of_rd {k : Value → Hp → Prop} (h : rdV P o a H = some v) (hk : k v H) : evOp P o a H k := by
  refine evOp_of (rd_ev P _ (.value v) (nxt P k) ?_ (show nxt P k (.value v) H from hk))
  unfold rdV at h
  cases hx : (execOp (opd a) o).rd P H with
  | none => rw [hx] at h; cases h
  | some n => rw [hx] at h; cases n <;> first | (simp [valOf] at h; subst h; rfl) | cases h

theorem rdV_of_pureV (h : pureV P o a = some v) : rdV P o a H = some v := by
  have := pureV_run h
  unfold rdV
  rw [pr_rd P _ H _ this]
  rfl

theorem evL_p (hw : wantB ops o a = true) (hv : pureV P o a = some v) (h : spl (isG ops i) v fun v => evL P ops Q (i + 1) rest (putO a o.dst v) H) : evL P ops Q i (o :: rest) a H := by
  unfold evL
  rw [if_pos hw]
  exact evOp_of_rd (rdV_of_pureV hv) h
theorem evL_r (hw : wantB ops o a = true) (hv : rdV P o a H = some v) (h : spl (isG ops i) v fun v => evL P ops Q (i + 1) rest (putO a o.dst v) H) : evL P ops Q i (o :: rest) a H := by
  unfold evL
  rw [if_pos hw]
  exact evOp_of_rd hv h
theorem evL_o (hw : wantB ops o a = true) (h : evOp P o a H fun v H' => spl (isG ops i) v fun v => evL P ops Q (i + 1) rest (putO a o.dst v) H') : evL P ops Q i (o :: rest) a H := by
  unfold evL
  rw [if_pos hw]
  exact h
theorem evL_s (hw : wantB ops o a = false) (h : evL P ops Q (i + 1) rest (putO a o.dst undef) H) : evL P ops Q i (o :: rest) a H := by
  unfold evL
  rw [if_neg (by rw [hw]; simp)]
  exact h
variable {c : Nat} {l : List (Nat × Nat)} {hist : List Hp}
theorem evD_p (ho : ops[i]? = some o) (hk : kd P o.op = .pure) (hw : wantB ops o a = true) (hv : pureV P o a = some v) (h : spl (isG ops i) v fun v => evD P ops Q l hist (putO a o.dst v) H) : evD P ops Q ((i, c) :: l) hist a H := by
  simp only [evD, ho, hw, if_true, hk]
  exact ⟨v, hv, h⟩
theorem evD_r (ho : ops[i]? = some o) (hk : kd P o.op = .load) (hw : wantB ops o a = true) (hv : rdV P o a H = some v) (hh : ∀ h ∈ hist.take c, rdV P o a h = some v) (h : spl (isG ops i) v fun v => evD P ops Q l hist (putO a o.dst v) H) :
    evD P ops Q ((i, c) :: l) hist a H := by
  simp only [evD, ho, hw, if_true, hk]
  exact ⟨v, hv, hh, h⟩
theorem evD_o (ho : ops[i]? = some o) (hk : kd P o.op = .other) (hw : wantB ops o a = true) (h : evOp P o a H fun v H' => spl (isG ops i) v fun v => evD P ops Q l (H :: hist) (putO a o.dst v) H') : evD P ops Q ((i, c) :: l) hist a H := by
  simp only [evD, ho, hw, if_true, hk]
  exact h
theorem evD_s (ho : ops[i]? = some o) (hw : wantB ops o a = false) (h : evD P ops Q l hist (putO a o.dst undef) H) : evD P ops Q ((i, c) :: l) hist a H := by
  simp only [evD, ho, hw]
  exact h
end

theorem spl_no {g : Bool} {v : Value} {k : Value → Prop} (_hg : g = false) (h : k v) : spl g v k := (spl_iff g v k).2 h
theorem spl_yes {g b : Bool} {k : Value → Prop} (hg : g = true) (h : Br b (k (.bool true)) (k (.bool false))) : spl g (.bool b) k := by subst hg; exact h
theorem Br.t {b : Bool} {x y : Prop} (hb : b = true) (h : x) : Br b x y := ⟨fun _ => h, fun h' => by rw [hb] at h'; cases h'⟩
theorem Br.f {b : Bool} {x y : Prop} (hb : b = false) (h : y) : Br b x y := ⟨fun h' => (by rw [hb] at h'; cases h'), fun _ => h⟩

section
variable {P : Program} {a : Fr} {d : Option Tmp} {ty : TypeId} {pos : String} {after : Array Edge} {g : Option (Nat × Bool)} {t yt : TypeId} {x y z : Operand}

theorem pv_move {v : Value} (hx : force (opd a x) = some v) : pureV P ⟨d, .move x, ty, pos, after, g⟩ a = some v := by
  rw [← force_eq hx]; rfl
theorem pv_assign {v : Value} (hx : force (opd a x) = some v) : pureV P ⟨d, .assign x, ty, pos, after, g⟩ a = some v := by
  rw [← force_eq hx]; rfl
theorem pv_move' {v : Value} (hx : opd a x = v) : pureV P ⟨d, .move x, ty, pos, after, g⟩ a = some v := by subst hx; rfl
theorem pv_assign' {v : Value} (hx : opd a x = v) : pureV P ⟨d, .assign x, ty, pos, after, g⟩ a = some v := by subst hx; rfl
theorem pv_pick_t {v : Value} (hx : opd a x = .bool true) (hy : force (opd a y) = some v) : pureV P ⟨d, .pick x y z, ty, pos, after, g⟩ a = some v := by
  refine pureV_pr ?_
  simp only [execOp, hx, asBool, pr_bind, pure, Sem.pr, Option.bind_some, if_true, force_eq hy]
theorem pv_pick_f {v : Value} (hx : opd a x = .bool false) (hz : force (opd a z) = some v) : pureV P ⟨d, .pick x y z, ty, pos, after, g⟩ a = some v := by
  refine pureV_pr ?_
  simp only [execOp, hx, asBool, pr_bind, pure, Sem.pr, Option.bind_some, force_eq hz]
  rfl
theorem pv_nil {p : Addr} (hx : opd a x = .pointer (some p)) : pureV P ⟨d, .nilCheck x, ty, pos, after, g⟩ a = some (.pointer (some p)) := by
  refine pureV_pr ?_
  simp only [execOp, hx]; rfl
theorem pv_nilF {fn : FuncId} {fs cs : Array Value} (hx : opd a x = .func (.func fn) fs cs) : pureV P ⟨d, .nilCheck x, ty, pos, after, g⟩ a = some (.func (.func fn) fs cs) := by
  refine pureV_pr ?_
  simp only [execOp, hx]; rfl

/-! integers -/
def intBin : BinOp → IntKind → Int → Int → Value
  | .add, k, m, n => .int k (k.wrap (m + n))
  | .sub, k, m, n => .int k (k.wrap (m - n))
  | .mul, k, m, n => .int k (k.wrap (m * n))
  | .eql, _, m, n => .bool (m == n)
  | .neq, _, m, n => .bool (m != n)
  | .lss, _, m, n => .bool (m < n)
  | .leq, _, m, n => .bool (m ≤ n)
  | .gtr, _, m, n => .bool (m > n)
  | .geq, _, m, n => .bool (m ≥ n)
  | .and, k, m, n => .int k (k.wrap (BitVec.ofInt k.bits m &&& BitVec.ofInt k.bits n).toNat)
  | .or, k, m, n => .int k (k.wrap (BitVec.ofInt k.bits m ||| BitVec.ofInt k.bits n).toNat)
  | .xor, k, m, n => .int k (k.wrap (BitVec.ofInt k.bits m ^^^ BitVec.ofInt k.bits n).toNat)
  | .andNot, k, m, n => .int k (k.wrap (BitVec.ofInt k.bits m &&& ~~~BitVec.ofInt k.bits n).toNat)
  | _, _, _, _ => undef
def intPlain : BinOp → Bool
  | .quo | .rem | .shl | .shr => false
  | _ => true
theorem pv_int {op : BinOp} {k : IntKind} {m n : Int} {v : Value} (hx : opd a x = .int k m) (hy : opd a y = .int k n) (hp : intPlain op = true) (hv : force (intBin op k m n) = some v) :
    pureV P ⟨d, .binOp op t x y yt, ty, pos, after, g⟩ a = some v := by
  refine pureV_pr ?_
  rw [← force_eq hv]
  have hb : binOp op t (.int k m) (.int k n) = pure (intBin op k m n) := by
    cases op <;> first | exact absurd hp (by decide) | (simp [binOp, Op.intArith, Op.intCmp, Op.intBits, intBin])
  simp only [execOp, hx, hy, eqGuard_at_int, hb]
  rfl
theorem pv_quo {k : IntKind} {m n : Int} (hx : opd a x = .int k m) (hy : opd a y = .int k n) (hn : n ≠ 0) : pureV P ⟨d, .binOp .quo t x y yt, ty, pos, after, g⟩ a = some (.int k (k.wrap (m.tdiv n))) := by
  refine pureV_pr ?_
  simp only [execOp, hx, hy, eqGuard_at_int]
  have : (binOp .quo t (.int k m) (.int k n)).pr P = some (.int k (k.wrap (m.tdiv n))) := by simp [binOp, Op.intDiv, hn]; rfl
  simp only [pr_bind, this]
  rfl
theorem pv_rem {k : IntKind} {m n : Int} (hx : opd a x = .int k m) (hy : opd a y = .int k n) (hn : n ≠ 0) : pureV P ⟨d, .binOp .rem t x y yt, ty, pos, after, g⟩ a = some (.int k (m.tmod n)) := by
  refine pureV_pr ?_
  simp only [execOp, hx, hy, eqGuard_at_int]
  have : (binOp .rem t (.int k m) (.int k n)).pr P = some (.int k (m.tmod n)) := by simp [binOp, Op.intDiv, hn]; rfl
  simp only [pr_bind, this]
  rfl
theorem pv_shl {k yk : IntKind} {m n : Int} (hx : opd a x = .int k m) (hy : opd a y = .int yk n) (hn : ¬ n < 0) : pureV P ⟨d, .binOp .shl t x y yt, ty, pos, after, g⟩ a = some (.int k (k.wrap (m * 2 ^ (min n.toNat k.bits)))) := by
  refine pureV_pr ?_
  simp only [execOp, hx, hy, eqGuard_at_int]
  have : (binOp .shl t (.int k m) (.int yk n)).pr P = some (.int k (k.wrap (m * 2 ^ (min n.toNat k.bits)))) := by simp [binOp, Op.shift, hn]; rfl
  simp only [pr_bind, this]
  rfl
theorem pv_shr {k yk : IntKind} {m n : Int} (hx : opd a x = .int k m) (hy : opd a y = .int yk n) (hn : ¬ n < 0) : pureV P ⟨d, .binOp .shr t x y yt, ty, pos, after, g⟩ a = some (.int k (m.fdiv (2 ^ (min n.toNat k.bits)))) := by
  refine pureV_pr ?_
  simp only [execOp, hx, hy, eqGuard_at_int]
  have : (binOp .shr t (.int k m) (.int yk n)).pr P = some (.int k (m.fdiv (2 ^ (min n.toNat k.bits)))) := by simp [binOp, Op.shift, hn]; rfl
  simp only [pr_bind, this]
  rfl

/-! strings -/
def strBin : BinOp → ByteArray → ByteArray → Value
  | .eql, m, n => .bool (m.toList == n.toList)
  | .neq, m, n => .bool (!(m.toList == n.toList))
  | .lss, m, n => .bool (Op.bytesLess m.toList n.toList)
  | .leq, m, n => .bool (Op.bytesLess m.toList n.toList || m.toList == n.toList)
  | .gtr, m, n => .bool (!(Op.bytesLess m.toList n.toList || m.toList == n.toList))
  | .geq, m, n => .bool (!(Op.bytesLess m.toList n.toList))
  | _, _, _ => undef
def strPlain : BinOp → Bool
  | .eql | .neq | .lss | .leq | .gtr | .geq => true
  | _ => false
theorem pv_str {op : BinOp} {m n : ByteArray} {v : Value} (hx : opd a x = .string m) (hy : opd a y = .string n) (hp : strPlain op = true) (hv : force (strBin op m n) = some v) :
    pureV P ⟨d, .binOp op t x y yt, ty, pos, after, g⟩ a = some v := by
  refine pureV_pr ?_
  rw [← force_eq hv]
  have hb : binOp op t (.string m) (.string n) = pure (strBin op m n) := by
    cases op <;> first | exact absurd hp (by decide) | (simp [binOp, Op.stringOp, strBin])
  simp only [execOp, hx, hy, eqGuard_at_string, hb]
  rfl
theorem pv_cat {m n : ByteArray} (hx : opd a x = .string m) (hy : opd a y = .string n) (hs : m.size + n.size ≤ 9223372036854775807) :
    pureV P ⟨d, .binOp .add t x y yt, ty, pos, after, g⟩ a = some (.string (m ++ n)) := by
  refine pureV_pr ?_
  simp only [execOp, hx, hy]
  have h : ¬ ((m.size + n.size : Nat) : Int) > IntKind.i64.max := by
    have : IntKind.i64.max = 9223372036854775807 := by decide
    rw [this]; omega
  have : (binOp .add t (.string m) (.string n)).pr P = some (.string (m ++ n)) := by simp only [binOp, Op.stringOp]; rw [if_neg h]; rfl
  simp only [pr_bind, this]
  rfl

/-! equality with nil, of bools -/
theorem eqGuard_pr {op : BinOp} {u w : Value} (h : (∃ p, u = .pointer p) ∨ (∃ b n c, u = .slice b n c) ∨ (∃ r, u = .map r) ∨ (∃ b, u = .bool b) ∨ u = .nilFunc ∨ (∃ f x y, u = .func f x y)) : (eqGuard op t x y u w).pr P = some () := by
  rcases h with ⟨p, rfl⟩ | ⟨b, n, c, rfl⟩ | ⟨r, rfl⟩ | ⟨b, rfl⟩ | rfl | ⟨f, x, y, rfl⟩ <;> cases op <;> rfl

theorem pr_underlying {D : TypeDesc} (h : P.underlying t = some D) : (underlying t).pr P = some D := by
  simp only [underlying, pr_bind, program, Sem.pr, Option.bind_some, h]; rfl

theorem pr_equal_ptr {e : TypeId} {p : Option Addr} (ht : P.underlying t = some (.pointer e)) : (Op.equal t (.pointer p) (.pointer none)).pr P = some p.isNone := by
  unfold Op.equal Op.maxDepth Op.equalIn
  rw [pr_bind, pr_underlying ht, Option.bind_some]
  cases p <;> rfl
theorem pr_equal_slice {e : TypeId} {p : Option Addr} {n c n' c' : Nat} (ht : P.underlying t = some (.slice e)) : (Op.equal t (.slice p n c) (.slice none n' c')).pr P = some p.isNone := by
  unfold Op.equal Op.maxDepth Op.equalIn
  rw [pr_bind, pr_underlying ht, Option.bind_some]
  cases p <;> rfl
theorem pr_equal_bool {b b' : Bool} (ht : P.underlying t = some .bool) : (Op.equal t (.bool b) (.bool b')).pr P = some (b == b') := by
  unfold Op.equal Op.maxDepth Op.equalIn
  rw [pr_bind, pr_underlying ht, Option.bind_some]
  rfl

def isPtrT (P : Program) (t : TypeId) : Bool := match P.underlying t with
  | some (.pointer _) => true
  | _ => false
def isSliceT (P : Program) (t : TypeId) : Bool := match P.underlying t with
  | some (.slice _) => true
  | _ => false
def isBoolT (P : Program) (t : TypeId) : Bool := match P.underlying t with
  | some .bool => true
  | _ => false
theorem isPtrT_spec (h : isPtrT P t = true) : ∃ e, P.underlying t = some (.pointer e) := by
  unfold isPtrT at h; split at h
  · exact ⟨_, ‹_›⟩
  · cases h
theorem isSliceT_spec (h : isSliceT P t = true) : ∃ e, P.underlying t = some (.slice e) := by
  unfold isSliceT at h; split at h
  · exact ⟨_, ‹_›⟩
  · cases h
theorem isBoolT_spec (h : isBoolT P t = true) : P.underlying t = some .bool := by
  unfold isBoolT at h; split at h
  · assumption
  · cases h

theorem binOp_eql_ne {u w : Value} (h : (∃ p q, u = .pointer p ∧ w = .pointer q) ∨ (∃ p n c q n' c', u = .slice p n c ∧ w = .slice q n' c') ∨ (∃ b b', u = .bool b ∧ w = .bool b')) :
    binOp .eql t u w = (do pure (.bool (← Op.equal t u w))) ∧ binOp .neq t u w = (do pure (.bool (!(← Op.equal t u w)))) := by
  rcases h with ⟨p, q, rfl, rfl⟩ | ⟨p, n, c, q, n', c', rfl, rfl⟩ | ⟨b, b', rfl, rfl⟩ <;> exact ⟨rfl, rfl⟩

theorem pv_eql_of {u w : Value} {b : Bool} (hx : opd a x = u) (hy : opd a y = w) (h : (∃ p q, u = .pointer p ∧ w = .pointer q) ∨ (∃ p n c q n' c', u = .slice p n c ∧ w = .slice q n' c') ∨ (∃ b b', u = .bool b ∧ w = .bool b')) (he : (Op.equal t u w).pr P = some b) :
    pureV P ⟨d, .binOp .eql t x y yt, ty, pos, after, g⟩ a = some (.bool b) ∧ pureV P ⟨d, .binOp .neq t x y yt, ty, pos, after, g⟩ a = some (.bool (!b)) := by
  have hg : ∀ op, (eqGuard op t x y u w).pr P = some () := fun op => eqGuard_pr (by
    rcases h with ⟨p, q, rfl, rfl⟩ | ⟨p, n, c, q, n', c', rfl, rfl⟩ | ⟨b, b', rfl, rfl⟩
    · exact .inl ⟨_, rfl⟩
    · exact .inr (.inl ⟨_, _, _, rfl⟩)
    · exact .inr (.inr (.inr (.inl ⟨_, rfl⟩))))
  obtain ⟨h1, h2⟩ := binOp_eql_ne (t := t) h
  constructor
  · refine pureV_pr ?_
    simp only [execOp, hx, hy, pr_bind, hg, Option.bind_some, h1, he]
    rfl
  · refine pureV_pr ?_
    simp only [execOp, hx, hy, pr_bind, hg, Option.bind_some, h2, he]
    rfl

theorem pv_eql_nil {p : Option Addr} {v : Value} (ht : isPtrT P t = true) (hx : opd a x = .pointer p) (hy : opd a y = .pointer none) (hv : force (.bool p.isNone) = some v) : pureV P ⟨d, .binOp .eql t x y yt, ty, pos, after, g⟩ a = some v := by
  obtain ⟨e, he⟩ := isPtrT_spec ht
  rw [← force_eq hv]
  exact (pv_eql_of hx hy (.inl ⟨_, _, rfl, rfl⟩) (pr_equal_ptr he)).1
theorem pv_neq_nil {p : Option Addr} {v : Value} (ht : isPtrT P t = true) (hx : opd a x = .pointer p) (hy : opd a y = .pointer none) (hv : force (.bool (!p.isNone)) = some v) : pureV P ⟨d, .binOp .neq t x y yt, ty, pos, after, g⟩ a = some v := by
  obtain ⟨e, he⟩ := isPtrT_spec ht
  rw [← force_eq hv]
  exact (pv_eql_of hx hy (.inl ⟨_, _, rfl, rfl⟩) (pr_equal_ptr he)).2
theorem pv_eql_bool {b b' : Bool} (ht : isBoolT P t = true) (hx : opd a x = .bool b) (hy : opd a y = .bool b') : pureV P ⟨d, .binOp .eql t x y yt, ty, pos, after, g⟩ a = some (.bool (b == b')) :=
  (pv_eql_of hx hy (.inr (.inr ⟨_, _, rfl, rfl⟩)) (pr_equal_bool (isBoolT_spec ht))).1
theorem pv_neq_bool {b b' : Bool} (ht : isBoolT P t = true) (hx : opd a x = .bool b) (hy : opd a y = .bool b') : pureV P ⟨d, .binOp .neq t x y yt, ty, pos, after, g⟩ a = some (.bool (!(b == b'))) :=
  (pv_eql_of hx hy (.inr (.inr ⟨_, _, rfl, rfl⟩)) (pr_equal_bool (isBoolT_spec ht))).2
theorem pv_eql_slice {p : Option Addr} {n c n' c' : Nat} (ht : isSliceT P t = true) (hx : opd a x = .slice p n c) (hy : opd a y = .slice none n' c') : pureV P ⟨d, .binOp .eql t x y yt, ty, pos, after, g⟩ a = some (.bool p.isNone) := by
  obtain ⟨e, he⟩ := isSliceT_spec ht
  exact (pv_eql_of hx hy (.inr (.inl ⟨_, _, _, _, _, _, rfl, rfl⟩)) (pr_equal_slice he)).1
theorem pv_neq_slice {p : Option Addr} {n c n' c' : Nat} (ht : isSliceT P t = true) (hx : opd a x = .slice p n c) (hy : opd a y = .slice none n' c') : pureV P ⟨d, .binOp .neq t x y yt, ty, pos, after, g⟩ a = some (.bool (!p.isNone)) := by
  obtain ⟨e, he⟩ := isSliceT_spec ht
  exact (pv_eql_of hx hy (.inr (.inl ⟨_, _, _, _, _, _, rfl, rfl⟩)) (pr_equal_slice he)).2

theorem pv_not {b : Bool} {v : Value} (hx : opd a x = .bool b) (hv : force (.bool !b) = some v) : pureV P ⟨d, .unOp .not t x, ty, pos, after, g⟩ a = some v := by
  rw [← force_eq hv]
  refine pureV_pr ?_
  simp only [execOp, hx]; rfl
theorem pv_neg {k : IntKind} {n : Int} (hx : opd a x = .int k n) : pureV P ⟨d, .unOp .neg t x, ty, pos, after, g⟩ a = some (.int k (k.wrap (0 - n))) := by
  refine pureV_pr ?_
  simp only [execOp, hx]; rfl

theorem pr_typeInfo {i : TypeInfo} (h : P.info? t = some i) : (typeInfo t).pr P = some i := by
  simp only [typeInfo, pr_bind, program, Sem.pr, Option.bind_some, h]; rfl
theorem pr_sizeOf {i : TypeInfo} (h : P.info? t = some i) : (sizeOf t).pr P = some i.size := by
  simp only [sizeOf, pr_bind, pr_typeInfo h, Option.bind_some]; rfl

/-- where a field lies (its type not of size 0) -/
def fieldOff (P : Program) (t : TypeId) (f : Nat) : Option Nat := match P.underlying t with
  | some (.struct fs) => match fs[f]? with
    | some fd => match P.info? fd.type with
      | some i => if i.size = 0 then none else some fd.offset
      | none => none
    | none => none
  | _ => none
theorem pv_field {B off n f : Nat} (hx : opd a x = .pointer (some ⟨B, off, none⟩)) (hf : fieldOff P t f = some n) : pureV P ⟨d, .fieldAddr t x f, ty, pos, after, g⟩ a = some (.pointer (some ⟨B, off + n, none⟩)) := by
  refine pureV_pr ?_
  unfold fieldOff at hf
  split at hf
  · rename_i fs hu
    split at hf
    · rename_i fd hfd
      split at hf
      · rename_i i hi
        split at hf
        · cases hf
        · rename_i hz
          cases hf
          simp only [execOp, hx, Instr.fieldAt, pr_bind, pr_underlying hu, Option.bind_some, hfd, Instr.sureAddr, pure, Sem.pr, fieldPlace, pr_sizeOf hi, if_neg hz, add_off]
      · cases hf
    · cases hf
  · cases hf

/-- the size of an element -/
def elemSz (P : Program) (t : TypeId) : Option Nat := match P.underlying t with
  | some (.slice e) => match P.info? e with
    | some i => some i.size
    | none => none
  | _ => none
theorem elemSz_spec {sz : Nat} (h : elemSz P t = some sz) : ∃ e i, P.underlying t = some (.slice e) ∧ P.info? e = some i ∧ i.size = sz := by
  unfold elemSz at h
  split at h
  · rename_i e hu
    split at h
    · rename_i i hi; exact ⟨e, i, hu, hi, by simpa using h⟩
    · cases h
  · cases h
theorem pv_index {B off n c sz : Nat} {k : IntKind} {j : Int} (ht : elemSz P t = some sz) (hx : opd a x = .slice (some ⟨B, off, none⟩) n c) (hy : opd a y = .int k j) (h0 : 0 ≤ j) (h1 : j < n) :
    pureV P ⟨d, .indexAddr t x y, ty, pos, after, g⟩ a = some (.pointer (some ⟨B, off + j.toNat * sz, none⟩)) := by
  obtain ⟨e, i, hu, hi, rfl⟩ := elemSz_spec ht
  refine pureV_pr ?_
  simp only [execOp, hx, hy, Instr.indexAt, pr_bind, asIntOf, pure, Sem.pr, Option.bind_some, pr_underlying hu, h0, h1, and_self, if_true, pr_sizeOf hi, add_off]
theorem pv_len_slice {A : Option Addr} {n c : Nat} {as : Array Operand} {ts : Array TypeId} (hargs : as.toList.map (opd a) = [.slice A n c]) (ht : (ts[0]?).any (isSliceT P) = true) :
    pureV P ⟨d, .call { callee := .builtin .len, args := as, argTypes := ts }, ty, pos, after, g⟩ a = some (.int .i64 n) := by
  refine pureV_pr ?_
  have h1 : as.map (opd a) = #[.slice A n c] := by apply Array.ext'; simpa using hargs
  cases h0 : ts[0]? with
  | none => rw [h0] at ht; cases ht
  | some t0 =>
    rw [h0] at ht
    obtain ⟨e, he⟩ := isSliceT_spec (by simpa using ht)
    simp only [execOp, resolve, h1, pr_bind, pure, Sem.pr, Option.bind_some, invoke, builtin, Builtin.len_, h0]
    simp only [List.getElem?_toArray, List.getElem?_cons_zero, pr_bind, pr_underlying he, Option.bind_some]
    rfl
def isStrT (P : Program) (t : TypeId) : Bool := match P.underlying t with
  | some .string => true
  | _ => false
theorem isStrT_spec (h : isStrT P t = true) : P.underlying t = some .string := by
  unfold isStrT at h; split at h
  · assumption
  · cases h
theorem pv_len_str {s : ByteArray} {as : Array Operand} {ts : Array TypeId} (hargs : as.toList.map (opd a) = [.string s]) (ht : (ts[0]?).any (isStrT P) = true) :
    pureV P ⟨d, .call { callee := .builtin .len, args := as, argTypes := ts }, ty, pos, after, g⟩ a = some (.int .i64 s.size) := by
  refine pureV_pr ?_
  have h1 : as.map (opd a) = #[.string s] := by apply Array.ext'; simpa using hargs
  cases h0 : ts[0]? with
  | none => rw [h0] at ht; cases ht
  | some t0 =>
    rw [h0] at ht
    have he := isStrT_spec (by simpa using ht)
    simp only [execOp, resolve, h1, pr_bind, pure, Sem.pr, Option.bind_some, invoke, builtin, Builtin.len_, h0]
    simp only [List.getElem?_toArray, List.getElem?_cons_zero, pr_bind, pr_underlying he, Option.bind_some]
    rfl
theorem pv_extract {vs : Array Value} {n : Nat} {v : Value} (hx : opd a x = .tuple vs) (hv : vs[n]? = some v) : pureV P ⟨d, .extract x n, ty, pos, after, g⟩ a = some v := by
  refine pureV_pr ?_
  simp only [execOp, hx, Instr.extract, hv]; rfl
theorem pv_makeFunc {fn : Fn} {fs cs : Array Operand} {l1 l2 : List Value} (h1 : fs.toList.map (opd a) = l1) (h2 : cs.toList.map (opd a) = l2) : pureV P ⟨d, .makeFunc fn fs cs, ty, pos, after, g⟩ a = some (.func fn l1.toArray l2.toArray) := by
  refine pureV_pr ?_
  have e1 : fs.map (opd a) = l1.toArray := by apply Array.ext'; simpa using h1
  have e2 : cs.map (opd a) = l2.toArray := by apply Array.ext'; simpa using h2
  simp only [execOp, e1, e2]; rfl

/-! string and slice expressions -/
theorem pv_strslice_lo {s : ByteArray} {k : IntKind} {j : Int} (ht : isStrT P t = true) (hx : opd a x = .string s) (hy : opd a y = .int k j) (h0 : 0 ≤ j) (h1 : j ≤ s.size) :
    pureV P ⟨d, .slice t x (some y) none none, ty, pos, after, g⟩ a = some (.string (s.extract j.toNat s.size)) := by
  refine pureV_pr ?_
  simp only [execOp, hx, Option.map_some, Option.map_none, hy, Instr.sliceAt, Instr.slice, pr_bind, pr_underlying (isStrT_spec ht), Option.bind_some, Instr.sliceBounds, Instr.sliceBound, asIntOf, pure, Sem.pr, h0, h1, and_self, if_true,
    Option.isSome_none, Bool.false_eq_true, if_false]
theorem pv_strslice_hi {s : ByteArray} {k : IntKind} {j : Int} (ht : isStrT P t = true) (hx : opd a x = .string s) (hy : opd a y = .int k j) (h0 : 0 ≤ j) (h1 : j ≤ s.size) :
    pureV P ⟨d, .slice t x none (some y) none, ty, pos, after, g⟩ a = some (.string (s.extract 0 j.toNat)) := by
  refine pureV_pr ?_
  simp only [execOp, hx, Option.map_some, Option.map_none, hy, Instr.sliceAt, Instr.slice, pr_bind, pr_underlying (isStrT_spec ht), Option.bind_some, Instr.sliceBounds, Instr.sliceBound, asIntOf, pure, Sem.pr, h0, h1, and_self, if_true,
    Option.isSome_none, Bool.false_eq_true, if_false]
theorem pv_strslice {s : ByteArray} {k k' : IntKind} {j m : Int} (ht : isStrT P t = true) (hx : opd a x = .string s) (hy : opd a y = .int k j) (hz : opd a z = .int k' m) (h0 : 0 ≤ j) (h1 : j ≤ m) (h2 : m ≤ s.size) :
    pureV P ⟨d, .slice t x (some y) (some z) none, ty, pos, after, g⟩ a = some (.string (s.extract j.toNat m.toNat)) := by
  refine pureV_pr ?_
  have e1 : 0 ≤ m := by omega
  have e2 : j ≤ (m.toNat : Int) := by omega
  simp only [execOp, hx, Option.map_some, hy, hz, Option.map_none, Instr.sliceAt, Instr.slice, pr_bind, pr_underlying (isStrT_spec ht), Option.bind_some, Instr.sliceBounds, Instr.sliceBound, asIntOf, pure, Sem.pr, h0, h2, e1, e2, and_self, if_true,
    Option.isSome_none, Bool.false_eq_true, if_false]

/-! loads -/
theorem rv_load {H : Hp} {v : Value} (h : ldV P H t (opd a x) = some v) : rdV P ⟨d, .load t x, ty, pos, after, g⟩ a H = some v := by
  unfold rdV
  simp only [execOp, rd_bind, rd_loadAt h, Option.bind_some, rd_pure]; rfl
end

end Go.Sl

namespace Go.Sl

def setAt : List Value → Nat → List Value → List Value
  | cs, _, [] => cs
  | cs, off, v :: vs => setAt (cs.set off v) (off + 1) vs

/-- the same, in one go through the list -/
def ovL : List Value → List Value → List Value
  | [], cs => cs
  | _ :: _, [] => []
  | v :: vs, _ :: cs => v :: ovL vs cs
def setF : List Value → Nat → List Value → List Value
  | cs, 0, vs => ovL vs cs
  | [], _ + 1, _ => []
  | c :: cs, n + 1, vs => c :: setF cs n vs
theorem setAt_nil : ∀ (vs : List Value) (off : Nat), setAt [] off vs = [] := by
  intro vs
  induction vs with
  | nil => intro off; rfl
  | cons v vs ih => intro off; simp only [setAt, List.set_nil, ih]
theorem setAt_succ : ∀ (vs : List Value) (c : Value) (cs : List Value) (off : Nat), setAt (c :: cs) (off + 1) vs = c :: setAt cs off vs := by
  intro vs
  induction vs with
  | nil => intro c cs off; rfl
  | cons v vs ih => intro c cs off; simp only [setAt, List.set_cons_succ, ih]
theorem setAt_zero : ∀ (vs cs : List Value), setAt cs 0 vs = ovL vs cs := by
  intro vs
  induction vs with
  | nil => intro cs; rfl
  | cons v vs ih =>
    intro cs
    cases cs with
    | nil => simp only [setAt_nil, ovL]
    | cons c cs => simp only [setAt, List.set_cons_zero, setAt_succ, ovL, ih]
theorem setF_eq : ∀ (cs : List Value) (off : Nat) (vs : List Value), setF cs off vs = setAt cs off vs := by
  intro cs
  induction cs with
  | nil =>
    intro off vs
    cases off with
    | zero => simp only [setF, setAt_zero]
    | succ n => simp only [setF, setAt_nil]
  | cons c cs ih =>
    intro off vs
    cases off with
    | zero => simp only [setF, setAt_zero]
    | succ n => simp only [setF, setAt_succ, ih]

theorem hupd_hupd (H : Hp) (r : Nat) (b c : Blk) : hupd (hupd H r b) r c = hupd H r c := by
  funext i; unfold hupd; split <;> rfl
theorem hupd_self {H : Hp} {r : Nat} {b : Blk} (h : H r = some b) : hupd H r b = H := by
  funext i; unfold hupd; split
  · rename_i e; rw [e, h]
  · rfl
/-- the values of operands, written out -/
def forceL (a : Fr) : List Operand → Option (List Value)
  | [] => some []
  | x :: xs => match force (opd a x), forceL a xs with
    | some v, some vs => some (v :: vs)
    | _, _ => none
theorem forceL_eq {a : Fr} : ∀ {xs : List Operand} {vs : List Value}, forceL a xs = some vs → xs.map (opd a) = vs := by
  intro xs
  induction xs with
  | nil => intro vs h; cases h; rfl
  | cons x xs ih =>
    intro vs h
    simp only [forceL] at h
    split at h
    · rename_i v vs' h1 h2
      cases h
      rw [List.map_cons, ih h2, force_eq h1]
    · cases h

section
variable {P : Program} {a : Fr} {H : Hp} {k : Value → Hp → Prop} {d : Option Tmp} {ty : TypeId} {pos : String} {after : Array Edge} {g : Option (Nat × Bool)} {t : TypeId} {x y : Operand}

theorem ev_pr_eq {α : Type} {s : Sem α} {v : α} (h : s.pr P = some v) (H : Hp) (q : α → Hp → Prop) : s.ev P H q = q v H := by
  induction s with
  | pure a => simp [Sem.pr] at h; subst h; rfl
  | program k ih => exact ih P h
  | mark m k ih => exact ih h
  | _ => cases h

theorem ev_storeCells {B : Nat} {e : TypeId} : ∀ (vs : List Value) (i off : Nat) (cs : List Value) (H : Hp) (q : Unit → Hp → Prop), H B = some (.cells cs e true) → off + i + vs.length ≤ cs.length → (vs.all Value.oneCell') = true →
    q () (hupd H B (.cells (setAt cs (off + i) vs) e true)) → (storeCells ⟨B, off, none⟩ vs i).ev P H q := by
  intro vs
  induction vs with
  | nil =>
    intro i off cs H q hb _ _ hq
    simp only [setAt, hupd_self hb] at hq
    unfold storeCells
    exact hq
  | cons v vs ih =>
    intro i off cs H q hb hle hone hq
    simp only [List.all_cons, Bool.and_eq_true] at hone
    unfold storeCells
    rw [ev_bind', add_off]
    simp only [List.length_cons] at hle
    refine ⟨hone.1, cs, e, hb, rfl, by simp only; omega, ?_⟩
    refine ih (i + 1) off (cs.set (off + i) v) _ q (hupd_same _ _ _) (by simp; omega) hone.2 ?_
    rw [hupd_hupd]
    exact hq

def infoSz (P : Program) (t : TypeId) : Option Nat := match P.info? t with
  | some i => some i.size
  | none => none
theorem infoSz_spec {n : Nat} (h : infoSz P t = some n) : ∃ i, P.info? t = some i ∧ i.size = n := by
  unfold infoSz at h
  split at h
  · exact ⟨_, ‹_›, by simpa using h⟩
  · cases h

theorem eo_store {B off n : Nat} {cs vs : List Value} {e : TypeId} {u : Value} (hx : opd a x = .pointer (some ⟨B, off, none⟩)) (hy : opd a y = u) (hvs : u.cells.toList = vs) (ht : infoSz P t = some n) (hn : vs.length = n)
    (hone : (vs.all Value.oneCell') = true) (hb : H B = some (.cells cs e true)) (hle : off + n ≤ cs.length) (hk : k undef (hupd H B (.cells (setAt cs off vs) e true))) :
    evOp P ⟨d, .store t x y, ty, pos, after, g⟩ a H k := by
  obtain ⟨i, hi, rfl⟩ := infoSz_spec ht
  refine evOp_of ?_
  simp only [execOp, hx, hy, Instr.storeAt, ev_bind']
  rw [ev_pr_eq (show (Instr.sureAddr (.pointer (some ⟨B, off, none⟩))).pr P = some ⟨B, off, none⟩ from rfl)]
  have hsz : u.cells.size = i.size := by rw [← hn, ← hvs]; simp
  simp only [storeVar, ev_bind']
  rw [ev_pr_eq (pr_sizeOf hi), if_neg (by rw [hsz]; simp)]
  refine ev_storeCells _ 0 off cs H _ hb (by rw [hvs, hn]; omega) (by rw [hvs]; exact hone) ?_
  rw [hvs]
  exact hk

def zeroL (P : Program) (t : TypeId) : Option (List Value) := match P.info? t with
  | some i => match i.zero with
    | some z => some z.cells.toList
    | none => none
  | none => none

theorem ev_newVar {v : Value} {q : Addr → Hp → Prop} (hk : ∀ r, H r = none → q ⟨r, 0, none⟩ (hupd H r (.cells v.cells.toList t true))) : (newVar t v).ev P H q := by
  unfold newVar newRow
  rw [ev_bind']
  intro r hr
  exact ⟨rfl, hk r hr⟩

theorem eo_alloc {zs : List Value} (hz : zeroL P t = some zs) (hk : ∀ r, H r = none → k (.pointer (some ⟨r, 0, none⟩)) (hupd H r (.cells zs t true))) : evOp P ⟨d, .alloc t, ty, pos, after, g⟩ a H k := by
  unfold zeroL at hz
  split at hz
  · rename_i i hi
    split at hz
    · rename_i z hz'
      cases hz
      have hzv : (zeroValue t).pr P = some z := by simp only [zeroValue, pr_bind, pr_typeInfo hi, Option.bind_some, hz']; rfl
      refine evOp_of ?_
      simp only [execOp, Instr.alloc, ev_bind']
      rw [ev_pr_eq hzv]
      exact ev_newVar hk
    · cases hz
  · cases hz

theorem eo_box {v : Value} {vs : List Value} (hx : opd a x = v) (hvs : v.cells.toList = vs) (hk : ∀ r, H r = none → k (.pointer (some ⟨r, 0, none⟩)) (hupd H r (.cells vs t true))) : evOp P ⟨d, .box t x, ty, pos, after, g⟩ a H k := by
  subst hx hvs
  refine evOp_of ?_
  simp only [execOp, Instr.box, ev_bind']
  exact ev_newVar hk

theorem ev_callFunc {f : FuncId} {args : Array Value} (h : CallS P f args H k) : (callFunc f args).ev P H (nxt P k) := by
  obtain ⟨fn, h1, h2, h3⟩ := h.has
  unfold callFunc
  rw [ev_bind', ev_pr_eq (show program.pr P = some P from rfl)]
  simp only [h1, h2, h3, Bool.false_eq_true, if_false]
  exact h

theorem eo_callv {f : FuncId} {fs cs : Array Value} {as : Array Operand} {ts : Array TypeId} {vs : List Value} (hx : opd a x = .func (.func f) fs cs) (hargs : forceL a as.toList = some vs) (h : CallS P f (fs ++ vs.toArray ++ cs) H k) :
    evOp P ⟨d, .call { callee := .value x, args := as, argTypes := ts }, ty, pos, after, g⟩ a H k := by
  have e1 : as.map (opd a) = vs.toArray := by apply Array.ext'; simpa using forceL_eq hargs
  refine evOp_of ?_
  simp only [execOp, resolve, hx, e1, Deferred.ofValue]
  rw [ev_bind', ev_pr_eq (show (pure _ : Sem Deferred).pr P = some _ from rfl)]
  simp only [invoke]
  exact ev_callFunc h
theorem eo_call {f : FuncId} {as : Array Operand} {ts : Array TypeId} {vs : List Value} (hargs : forceL a as.toList = some vs) (h : CallS P f vs.toArray H k) :
    evOp P ⟨d, .call { callee := .value (.func f), args := as, argTypes := ts }, ty, pos, after, g⟩ a H k :=
  eo_callv (f := f) (fs := #[]) (cs := #[]) rfl hargs (by simpa using h)
end

end Go.Sl

namespace Go.Sl

def natF : Nat → Option Nat
  | 0 => some 0 | 1 => some 1 | 2 => some 2 | 3 => some 3 | 4 => some 4 | 5 => some 5 | 6 => some 6 | 7 => some 7 | 8 => some 8 | 9 => some 9 | 10 => some 10 | 11 => some 11 | 12 => some 12 | 13 => some 13 | 14 => some 14 | 15 => some 15
  | 16 => some 16 | 17 => some 17 | 18 => some 18 | 19 => some 19 | 20 => some 20 | 21 => some 21 | 22 => some 22 | 23 => some 23 | 24 => some 24 | 25 => some 25 | 26 => some 26 | 27 => some 27 | 28 => some 28 | 29 => some 29 | 30 => some 30 | 31 => some 31
  | 32 => some 32 | 33 => some 33 | 34 => some 34 | 35 => some 35 | 36 => some 36 | 37 => some 37 | 38 => some 38 | 39 => some 39 | 40 => some 40 | 41 => some 41 | 42 => some 42 | 43 => some 43 | 44 => some 44 | 45 => some 45 | 46 => some 46 | 47 => some 47
  | 48 => some 48 | 49 => some 49 | 50 => some 50 | 51 => some 51 | 52 => some 52 | 53 => some 53 | 54 => some 54 | 55 => some 55 | 56 => some 56 | 57 => some 57 | 58 => some 58 | 59 => some 59 | 60 => some 60 | 61 => some 61 | 62 => some 62 | 63 => some 63
  | 64 => some 64 | 65 => some 65 | 66 => some 66 | 67 => some 67 | 68 => some 68 | 69 => some 69 | 70 => some 70 | 71 => some 71 | 72 => some 72 | 73 => some 73 | 74 => some 74 | 75 => some 75 | 76 => some 76 | 77 => some 77 | 78 => some 78 | 79 => some 79
  | 80 => some 80 | 81 => some 81 | 82 => some 82 | 83 => some 83 | 84 => some 84 | 85 => some 85 | 86 => some 86 | 87 => some 87 | 88 => some 88 | 89 => some 89 | 90 => some 90 | 91 => some 91 | 92 => some 92 | 93 => some 93 | 94 => some 94 | 95 => some 95 | _ => none
theorem natF_eq {n m : Nat} (h : natF n = some m) : n = m := by
  unfold natF at h
  split at h <;> first | exact Option.some.inj h | cases h
def pairsF : List (Nat × Nat) → Option (List (Nat × Nat))
  | [] => some []
  | (x, y) :: l => match natF x with
    | some x => match natF y with
      | some y => match pairsF l with
        | some l => some ((x, y) :: l)
        | none => none
      | none => none
    | none => none
theorem pairsF_eq : ∀ {l l' : List (Nat × Nat)}, pairsF l = some l' → l = l' := by
  intro l
  induction l with
  | nil => intro l' h; exact Option.some.inj h
  | cons x l ih =>
    intro l' h
    obtain ⟨x, y⟩ := x
    simp only [pairsF] at h
    split at h
    · rename_i a ha
      split at h
      · rename_i b hb
        split at h
        · rename_i c hc; cases h; rw [natF_eq ha, natF_eq hb, ih hc]
        · cases h
      · cases h
    · cases h


/-- a list's spine, written out -/
def copyL {α : Type} : List α → Option (List α)
  | [] => some []
  | x :: xs => match copyL xs with
    | some ys => some (x :: ys)
    | none => none
theorem copyL_eq {α : Type} : ∀ {l l' : List α}, copyL l = some l' → l = l' := by
  intro l
  induction l with
  | nil => intro l' h; cases h; rfl
  | cons x xs ih =>
    intro l' h
    simp only [copyL] at h
    split at h
    · rename_i ys hy; cases h; rw [ih hy]
    · cases h

/-- what a load finds in known cells -/
def ldC (P : Program) (t : TypeId) (cs : List Value) (off : Nat) : Option Value := match isAggT P t with
  | some true => match P.info? t with
    | some i => if off + i.size ≤ cs.length then match copyL ((cs.drop off).take i.size) with
        | some vs => some (.agg vs.toArray)
        | none => none
      else none
    | none => none
  | some false => cs[off]?
  | none => none
theorem ldC_ldV {P : Program} {t : TypeId} {cs : List Value} {off B : Nat} {e : TypeId} {rw : Bool} {H : Hp} {v : Value} (hb : H B = some (.cells cs e rw)) (h : ldC P t cs off = some v) : ldV P H t (.pointer (some ⟨B, off, none⟩)) = some v := by
  unfold ldC at h
  simp only [ldV, hb]
  split at h
  · rename_i hag
    simp only [hag]
    split at h
    · rename_i i hi
      simp only [hi]
      split at h
      · rename_i hle
        simp only [hle, if_true]
        split at h
        · rename_i vs hvs; rw [copyL_eq hvs]; exact h
        · cases h
      · cases h
    · cases h
  · rename_i hag; simp only [hag]; exact h
  · cases h

section
variable {P : Program} {Q : Exit → Fr → Hp → Prop} {K : Fr → Hp → Prop} {a : Fr} {H : Hp} {x y : Code} {id : Nat} {ol : List Oper}
theorem ev_cond {c : Operand} {b : Bool} (hc : opd a c = .bool b) (h : Br b (ev P x Q a H) (ev P y Q a H)) : ev P (.cond c x y) Q a H := by
  simp only [ev, hc]; exact h
end

section
variable {P : Program} {ops : Array Oper} {Q : Fr → Hp → Prop} {a : Fr} {H : Hp} {i c : Nat} {rest : List Oper} {l : List (Nat × Nat)} {hist : List Hp} {d' : Nat} {d : Option Tmp}
variable {ty : TypeId} {pos : String} {after : Array Edge} {g : Option (Nat × Bool)} {t yt : TypeId} {x y z : Operand}

variable {k : Value → Hp → Prop}
/-- the same with all written out -/
theorem eo_store_c {B off n : Nat} {cs cs' vs : List Value} {e : TypeId} {u : Value} (hx : opd a x = .pointer (some ⟨B, off, none⟩)) (hy : force (opd a y) = some u) (hvs : copyL u.cells.toList = some vs) (ht : infoSz P t = some n) (hn : (vs.length == n) = true)
    (hone : (vs.all Value.oneCell') = true) (hb : H B = some (.cells cs e true)) (hle : Nat.ble (off + n) cs.length = true) (hs : copyL (setF cs off vs) = some cs') (hk : k undef (hupd H B (.cells cs' e true))) :
    evOp P ⟨d, .store t x y, ty, pos, after, g⟩ a H k :=
  eo_store hx (force_eq hy) (copyL_eq hvs) ht (by simpa using hn) hone hb (by simpa using hle) (by rw [← setF_eq, copyL_eq hs]; exact hk)
theorem eo_alloc_c {zs zs' : List Value} (hz : zeroL P t = some zs) (hc : copyL zs = some zs') (hk : ∀ r, H r = none → k (.pointer (some ⟨r, 0, none⟩)) (hupd H r (.cells zs' t true))) : evOp P ⟨d, .alloc t, ty, pos, after, g⟩ a H k :=
  eo_alloc hz (by rw [copyL_eq hc]; exact hk)
theorem eo_box_c {v : Value} {vs : List Value} (hx : force (opd a x) = some v) (hvs : copyL v.cells.toList = some vs) (hk : ∀ r, H r = none → k (.pointer (some ⟨r, 0, none⟩)) (hupd H r (.cells vs t true))) : evOp P ⟨d, .box t x, ty, pos, after, g⟩ a H k :=
  eo_box (force_eq hx) (copyL_eq hvs) hk

/-! ### All that only computes, in one function -/
def ptrEq (op : BinOp) : Option Addr → Option Value
  | none => match op with | .eql => some (.bool true) | .neq => some (.bool false) | _ => none
  | some _ => match op with | .eql => some (.bool false) | .neq => some (.bool true) | _ => none
def binV (P : Program) (op : BinOp) (t : TypeId) : Value → Value → Option Value
  | .int k m, .int k' n => match op with
    | .shl => if n < 0 then none else some (.int k (k.wrap (m * 2 ^ (min n.toNat k.bits))))
    | .shr => if n < 0 then none else some (.int k (m.fdiv (2 ^ (min n.toNat k.bits))))
    | .quo => if k = k' then if n = 0 then none else some (.int k (k.wrap (m.tdiv n))) else none
    | .rem => if k = k' then if n = 0 then none else some (.int k (m.tmod n)) else none
    | op => if k = k' then force (intBin op k m n) else none
  | .string m, .string n => if strPlain op = true then force (strBin op m n) else none
  | .pointer p, .pointer none => if isPtrT P t = true then ptrEq op p else none
  | .slice p _ _, .slice none _ _ => if isSliceT P t = true then ptrEq op p else none
  | .bool b, .bool b' => if isBoolT P t = true then match op with
    | .eql => some (.bool (b == b'))
    | .neq => some (.bool (!(b == b')))
    | _ => none else none
  | _, _ => none

def lenV (P : Program) (t : TypeId) : Value → Option Value
  | .slice _ n _ => if isSliceT P t = true then some (.int .i64 n) else none
  | .string s => if isStrT P t = true then some (.int .i64 s.size) else none
  | _ => none

def opV (P : Program) (o : Op) (a : Fr) : Option Value :=
  match o with
  | .move x => force (opd a x)
  | .assign x => force (opd a x)
  | .pick c x y => match opd a c with
    | .bool true => force (opd a x)
    | .bool false => force (opd a y)
    | _ => none
  | .nilCheck x => match opd a x with
    | .pointer (some ⟨B, off, s⟩) => some (.pointer (some ⟨B, off, s⟩))
    | .func (.func f) fs cs => some (.func (.func f) fs cs)
    | _ => none
  | .binOp op t x y _ => binV P op t (opd a x) (opd a y)
  | .unOp .not _ x => match opd a x with
    | .bool true => some (.bool false)
    | .bool false => some (.bool true)
    | _ => none
  | .fieldAddr t x f => match opd a x with
    | .pointer (some ⟨B, off, none⟩) => match fieldOff P t f with
      | some n => match natF n with
        | some 0 => some (.pointer (some ⟨B, off, none⟩))
        | some n => match natF (off + n) with
          | some m => some (.pointer (some ⟨B, m, none⟩))
          | none => some (.pointer (some ⟨B, off + n, none⟩))
        | none => none
      | none => none
    | _ => none
  | .extract x n => match opd a x with
    | .tuple vs => match vs.toList[n]? with
      | some v => force v
      | none => none
    | _ => none
  | .makeFunc fn fs cs => match forceL a fs.toList, forceL a cs.toList with
    | some l1, some l2 => some (.func fn l1.toArray l2.toArray)
    | _, _ => none
  | .call { callee := .builtin .len, args, argTypes } => match args.toList with
    | [x] => match argTypes[0]? with
      | some t => lenV P t (opd a x)
      | none => none
    | _ => none
  | _ => none

section
variable {P : Program} {a : Fr} {d : Option Tmp} {ty : TypeId} {pos : String} {after : Array Edge} {g : Option (Nat × Bool)} {v : Value}

theorem binV_pure {op : BinOp} {t yt : TypeId} {x y : Operand} {u w : Value} (hx : opd a x = u) (hy : opd a y = w) (h : binV P op t u w = some v) : pureV P ⟨d, .binOp op t x y yt, ty, pos, after, g⟩ a = some v := by
  unfold binV at h
  split at h
  · rename_i k m k' n
    split at h
    · split at h
      · cases h
      · rename_i hn; cases h; exact pv_shl hx hy hn
    · split at h
      · cases h
      · rename_i hn; cases h; exact pv_shr hx hy hn
    · split at h
      · rename_i hk; subst hk
        split at h
        · cases h
        · rename_i hn; cases h; exact pv_quo hx hy hn
      · cases h
    · split at h
      · rename_i hk; subst hk
        split at h
        · cases h
        · rename_i hn; cases h; exact pv_rem hx hy hn
      · cases h
    · rename_i h1 h2 h3 h4
      split at h
      · rename_i hk; subst hk
        refine pv_int hx hy ?_ h
        cases op <;> first | rfl | exact absurd rfl h1 | exact absurd rfl h2 | exact absurd rfl h3 | exact absurd rfl h4
      · cases h
  · split at h
    · rename_i hp; exact pv_str hx hy hp h
    · cases h
  · rename_i p
    split at h
    · rename_i ht
      cases p <;> cases op <;> simp only [ptrEq] at h <;> first | (cases h; done) | (cases h; exact pv_eql_nil ht hx hy rfl) | (cases h; exact pv_neq_nil ht hx hy rfl)
    · cases h
  · rename_i p _ _ _ _
    split at h
    · rename_i ht
      cases p <;> cases op <;> simp only [ptrEq] at h <;> first | (cases h; done) | (cases h; exact pv_eql_slice ht hx hy) | (cases h; exact pv_neq_slice ht hx hy)
    · cases h
  · split at h
    · rename_i ht
      cases op <;> first | (cases h; done) | (cases h; exact pv_eql_bool ht hx hy) | (cases h; exact pv_neq_bool ht hx hy)
    · cases h
  · cases h

theorem opV_pure {o : Op} (h : opV P o a = some v) : pureV P ⟨d, o, ty, pos, after, g⟩ a = some v := by
  unfold opV at h
  split at h
  · exact pv_move h
  · exact pv_assign h
  · split at h
    · rename_i hb; exact pv_pick_t hb h
    · rename_i hb; exact pv_pick_f hb h
    · cases h
  · split at h
    · rename_i hx; cases h; exact pv_nil hx
    · rename_i hx; cases h; exact pv_nilF hx
    · cases h
  · exact binV_pure rfl rfl h
  · split at h
    · rename_i hx; cases h; exact pv_not hx rfl
    · rename_i hx; cases h; exact pv_not hx rfl
    · cases h
  · split at h
    · rename_i B off hx
      split at h
      · rename_i n hn
        split at h
        · rename_i h0
          cases h
          have := natF_eq h0
          subst this
          exact pv_field hx hn
        · rename_i n' _ hn'
          have := natF_eq hn'
          subst this
          split at h
          · rename_i m hm
            cases h
            rw [← natF_eq hm]
            exact pv_field hx hn
          · cases h; exact pv_field hx hn
        · cases h
      · cases h
    · cases h
  · split at h
    · rename_i vs hx
      split at h
      · rename_i u hu
        refine pv_extract hx ?_
        rw [← force_eq h, ← hu, Array.getElem?_toList]
      · cases h
    · cases h
  · split at h
    · rename_i l1 l2 h1 h2
      cases h
      exact pv_makeFunc (forceL_eq h1) (forceL_eq h2)
    · cases h
  · rename_i args argTypes
    split at h
    · rename_i x hargs
      split at h
      · rename_i t ht
        have key : ∀ q : TypeId → Bool, q t = true → (argTypes[0]?).any q = true := fun q hq => by rw [ht]; exact hq
        unfold lenV at h
        split at h
        · rename_i A n c hx
          split at h
          · rename_i hs; cases h
            exact pv_len_slice (by rw [hargs, List.map_cons, hx]; rfl) (key _ hs)
          · cases h
        · rename_i s hx
          split at h
          · rename_i hs; cases h
            exact pv_len_str (by rw [hargs, List.map_cons, hx]; rfl) (key _ hs)
          · cases h
        · cases h
      · cases h
    · cases h
  · cases h

theorem mapLen_no {P : Program} {ts : Array TypeId} (h : (ts[0]?).any (isSliceT P) = true ∨ (ts[0]?).any (isStrT P) = true) : mapLen P ts = false := by
  unfold mapLen
  cases ht : ts[0]? with
  | none => rfl
  | some t =>
    rw [ht] at h
    simp only [Option.any_some] at h
    rcases h with h | h
    · obtain ⟨e, he⟩ := isSliceT_spec h; simp only [he]
    · simp only [isStrT_spec h]
theorem lenV_no {t : TypeId} {u : Value} (h : lenV P t u = some v) : isSliceT P t = true ∨ isStrT P t = true := by
  unfold lenV at h
  split at h
  · split at h
    · exact .inl ‹_›
    · cases h
  · split at h
    · exact .inr ‹_›
    · cases h
  · cases h
theorem opV_kd {o : Op} (h : opV P o a = some v) : kd P o = .pure := by
  unfold opV at h
  split at h <;> first | rfl | (cases h; done) | skip
  split at h
  · split at h
    · rename_i ht
      have := mapLen_no (P := P) (by rw [ht]; exact lenV_no h)
      simp only [kd, this]
    · cases h
  · cases h
end

section
variable {P : Program} {ops : Array Oper} {Q : Fr → Hp → Prop} {a : Fr} {H : Hp} {i c : Nat} {rest : List Oper} {l : List (Nat × Nat)} {hist : List Hp} {d' : Nat} {v : Value}
variable {ty : TypeId} {pos : String} {after : Array Edge} {g : Option (Nat × Bool)} {o : Op}
end
end
end Go.Sl

