/- The walk's steps: each kind of operation at the head of what is left. Most of this text was printed by a small program: lemmas; each with the conditions that it states. -/
import Derived.Test.YtgdfmbnbknhhiaaSl7
namespace Go.Sl

def natF : Nat → Option Nat
  | 0 => some 0 | 1 => some 1 | 2 => some 2 | 3 => some 3 | 4 => some 4 | 5 => some 5 | 6 => some 6 | 7 => some 7 | 8 => some 8 | 9 => some 9 | 10 => some 10 | 11 => some 11 | 12 => some 12 | 13 => some 13 | 14 => some 14 | 15 => some 15
  | 16 => some 16 | 17 => some 17 | 18 => some 18 | 19 => some 19 | 20 => some 20 | 21 => some 21 | 22 => some 22 | 23 => some 23 | 24 => some 24 | 25 => some 25 | 26 => some 26 | 27 => some 27 | 28 => some 28 | 29 => some 29 | 30 => some 30 | 31 => some 31
  | 32 => some 32 | 33 => some 33 | 34 => some 34 | 35 => some 35 | 36 => some 36 | 37 => some 37 | 38 => some 38 | 39 => some 39 | 40 => some 40 | 41 => some 41 | 42 => some 42 | 43 => some 43 | 44 => some 44 | 45 => some 45 | 46 => some 46 | 47 => some 47
  | 48 => some 48 | 49 => some 49 | 50 => some 50 | 51 => some 51 | 52 => some 52 | 53 => some 53 | 54 => some 54 | 55 => some 55 | 56 => some 56 | 57 => some 57 | 58 => some 58 | 59 => some 59 | 60 => some 60 | 61 => some 61 | 62 => some 62 | 63 => some 63
  | 64 => some 64 | 65 => some 65 | 66 => some 66 | 67 => some 67 | 68 => some 68 | 69 => some 69 | 70 => some 70 | 71 => some 71 | 72 => some 72 | 73 => some 73 | 74 => some 74 | 75 => some 75 | 76 => some 76 | 77 => some 77 | 78 => some 78 | 79 => some 79
  | 80 => some 80 | 81 => some 81 | 82 => some 82 | 83 => some 83 | 84 => some 84 | 85 => some 85 | 86 => some 86 | 87 => some 87 | 88 => some 88 | 89 => some 89 | 90 => some 90 | 91 => some 91 | 92 => some 92 | 93 => some 93 | 94 => some 94 | 95 => some 95 | _ => none
theorem natF_eq {n m : Nat} (h : natF n = some m) : n = m := by
  unfold natF at h
  split at h <;> first | exact Option.some.inj h | cases h
def pairsF : List (Nat × Nat) → Option (List (Nat × Nat))
  | [] => some []
  | (x, y) :: l => match natF x with
    | some x => match natF y with
      | some y => match pairsF l with
        | some l => some ((x, y) :: l)
        | none => none
      | none => none
    | none => none
theorem pairsF_eq : ∀ {l l' : List (Nat × Nat)}, pairsF l = some l' → l = l' := by
  intro l
  induction l with
  | nil => intro l' h; exact Option.some.inj h
  | cons x l ih =>
    intro l' h
    obtain ⟨x, y⟩ := x
    simp only [pairsF] at h
    split at h
    · rename_i a ha
      split at h
      · rename_i b hb
        split at h
        · rename_i c hc; cases h; rw [natF_eq ha, natF_eq hb, ih hc]
        · cases h
      · cases h
    · cases h


/-- a list's spine, written out -/
def copyL {α : Type} : List α → Option (List α)
  | [] => some []
  | x :: xs => match copyL xs with
    | some ys => some (x :: ys)
    | none => none
theorem copyL_eq {α : Type} : ∀ {l l' : List α}, copyL l = some l' → l = l' := by
  intro l
  induction l with
  | nil => intro l' h; cases h; rfl
  | cons x xs ih =>
    intro l' h
    simp only [copyL] at h
    split at h
    · rename_i ys hy; cases h; rw [ih hy]
    · cases h

def evD1 (P : Program) (ops : Array Oper) (Q : Fr → Hp → Prop) (i c : Nat) (o : Oper) (l : List (Nat × Nat)) (hist : List Hp) (a : Fr) (H : Hp) : Prop := ops[i]? = some o → evD P ops Q ((i, c) :: l) hist a H
theorem evD_cons {P : Program} {ops : Array Oper} {Q : Fr → Hp → Prop} {i c : Nat} {o : Oper} {l : List (Nat × Nat)} {hist : List Hp} {a : Fr} {H : Hp} (ho : ops[i]? = some o) (h : evD1 P ops Q i c o l hist a H) : evD P ops Q ((i, c) :: l) hist a H := h ho

def histOk (p : Hp → Prop) : List Hp → Prop
  | [] => True
  | h :: hs => p h ∧ histOk p hs
theorem histOk_spec {p : Hp → Prop} : ∀ {l : List Hp}, histOk p l → ∀ h ∈ l, p h := by
  intro l
  induction l with
  | nil => intro _ h hh; cases hh
  | cons x xs ih =>
    intro hp h hh
    rcases List.mem_cons.1 hh with rfl | hh
    · exact hp.1
    · exact ih hp.2 h hh

/-- what a load finds in known cells -/
def ldC (P : Program) (t : TypeId) (cs : List Value) (off : Nat) : Option Value := match isAggT P t with
  | some true => match P.info? t with
    | some i => if off + i.size ≤ cs.length then match copyL ((cs.drop off).take i.size) with
        | some vs => some (.agg vs.toArray)
        | none => none
      else none
    | none => none
  | some false => cs[off]?
  | none => none
theorem ldC_ldV {P : Program} {t : TypeId} {cs : List Value} {off B : Nat} {e : TypeId} {rw : Bool} {H : Hp} {v : Value} (hb : H B = some (.cells cs e rw)) (h : ldC P t cs off = some v) : ldV P H t (.pointer (some ⟨B, off, none⟩)) = some v := by
  unfold ldC at h
  simp only [ldV, hb]
  split at h
  · rename_i hag
    simp only [hag]
    split at h
    · rename_i i hi
      simp only [hi]
      split at h
      · rename_i hle
        simp only [hle, if_true]
        split at h
        · rename_i vs hvs; rw [copyL_eq hvs]; exact h
        · cases h
      · cases h
    · cases h
  · rename_i hag; simp only [hag]; exact h
  · cases h

section
variable {P : Program} {Q : Exit → Fr → Hp → Prop} {K : Fr → Hp → Prop} {a : Fr} {H : Hp} {x y : Code} {id : Nat} {ol : List Oper}
theorem ev_seq (h : ev P x (thenE (ev P y Q) Q) a H) : ev P (.seq x y) Q a H := h
theorem ev_cond {c : Operand} {b : Bool} (hc : opd a c = .bool b) (h : Br b (ev P x Q a H) (ev P y Q a H)) : ev P (.cond c x y) Q a H := by
  simp only [ev, hc]; exact h
theorem ev_block (h : ev P x (inBlockE id Q) a H) : ev P (.block id x) Q a H := h
theorem ev_scope (h : ev P x (noGotoE Q) a H) : ev P (.scope x) Q a H := h
theorem ev_label (h : Q .normal a H) : ev P (.label id) Q a H := h
theorem ev_skip (h : Q .normal a H) : ev P .skip Q a H := h
theorem ev_exit (h : Q (.exit id) a H) : ev P (.exit id) Q a H := h
theorem ev_ret (h : Q .ret a H) : ev P .ret Q a H := h
theorem th_n (h : K a H) : thenE K Q .normal a H := h
theorem th_e (h : Q (.exit id) a H) : thenE K Q (.exit id) a H := h
theorem th_r (h : Q .ret a H) : thenE K Q .ret a H := h
theorem ib_n (h : Q .normal a H) : inBlockE id Q .normal a H := h
theorem ib_r (h : Q .ret a H) : inBlockE id Q .ret a H := h
theorem ib_hit {j : Nat} (hj : (j == id) = true) (h : Q .normal a H) : inBlockE id Q (.exit j) a H := by simp at hj; simp only [inBlockE, hj, if_true]; exact h
theorem ib_miss {j : Nat} (hj : (j == id) = false) (h : Q (.exit j) a H) : inBlockE id Q (.exit j) a H := by simp at hj; simp only [inBlockE, hj, if_false]; exact h
theorem ng_n (h : Q .normal a H) : noGotoE Q .normal a H := h
theorem ng_r (h : Q .ret a H) : noGotoE Q .ret a H := h
theorem ng_e (h : Q (.exit id) a H) : noGotoE Q (.exit id) a H := h
theorem ev_loop {c : Code} (I : Nat → Fr → Hp → Prop) (n : Nat) (h0 : I n a H) (hr : ∀ n a H, I n a H → ev P c (thenE (fun a' H' => ∃ m, m < n ∧ I m a' H') Q) a H) : ev P (.loop c) Q a H := ⟨I, n, h0, hr⟩
theorem ret_r {fn : Func} {K : Value → Hp → Prop} {rs : List ResultVar} {vs : List Value} {v : Value} {H' : Hp} (hl : copyL fn.results.toList = some rs) (hv : resVs P a H rs = some vs) (ht : force (tupV vs) = some v) (hk : K v H') (hs : Hsub H' H) : retQ P fn K .ret a H := ⟨vs, by rw [copyL_eq hl]; exact hv, H', hs, by rw [force_eq ht]; exact hk⟩
theorem ret_n {fn : Func} {K : Value → Hp → Prop} {rs : List ResultVar} {vs : List Value} {v : Value} {H' : Hp} (hl : copyL fn.results.toList = some rs) (hv : resVs P a H rs = some vs) (ht : force (tupV vs) = some v) (hk : K v H') (hs : Hsub H' H) : retQ P fn K .normal a H := ⟨vs, by rw [copyL_eq hl]; exact hv, H', hs, by rw [force_eq ht]; exact hk⟩
end

theorem get_skip {H : Hp} {r B : Nat} {b b' : Blk} (hr : H r = none) (hB : H B = some b) : hupd H r b' B = some b := by
  rw [hupd_ne]
  · exact hB
  · rintro rfl; rw [hr] at hB; cases hB
theorem get_skip2 {H : Hp} {r B : Nat} {b b' : Blk} (hr : B ≠ r) (hB : H B = some b) : hupd H r b' B = some b := by
  rw [hupd_ne _ _ hr]; exact hB
theorem none_skip {H : Hp} {r B : Nat} {b b' : Blk} (hr : H r = none) (hB : H B = some b) : hupd H B b' r = none := by
  rw [hupd_ne]
  · exact hr
  · rintro rfl; rw [hr] at hB; cases hB
theorem Hsub.hupd_new {H' H : Hp} {r : Nat} {b : Blk} (h : Hsub H' H) (hr : H' r = none) : Hsub H' (hupd H r b) := fun B c hc => by
  rw [hupd_ne]
  · exact h B c hc
  · rintro rfl; rw [hr] at hc; cases hc

section
variable {P : Program} {ops : Array Oper} {Q : Fr → Hp → Prop} {a : Fr} {H : Hp} {i c : Nat} {rest : List Oper} {l : List (Nat × Nat)} {hist : List Hp} {d' : Nat} {d : Option Tmp}
variable {ty : TypeId} {pos : String} {after : Array Edge} {g : Option (Nat × Bool)} {t yt : TypeId} {x y z : Operand}

variable {k : Value → Hp → Prop}
/-- the same with all written out -/
theorem eo_store_c {B off n : Nat} {cs cs' vs : List Value} {e : TypeId} {u : Value} (hx : opd a x = .pointer (some ⟨B, off, none⟩)) (hy : force (opd a y) = some u) (hvs : copyL u.cells.toList = some vs) (ht : infoSz P t = some n) (hn : (vs.length == n) = true)
    (hone : (vs.all Value.oneCell') = true) (hb : H B = some (.cells cs e true)) (hle : Nat.ble (off + n) cs.length = true) (hs : copyL (setF cs off vs) = some cs') (hk : k undef (hupd H B (.cells cs' e true))) :
    evOp P ⟨d, .store t x y, ty, pos, after, g⟩ a H k :=
  eo_store hx (force_eq hy) (copyL_eq hvs) ht (by simpa using hn) hone hb (by simpa using hle) (by rw [← setF_eq, copyL_eq hs]; exact hk)
theorem eo_alloc_c {zs zs' : List Value} (hz : zeroL P t = some zs) (hc : copyL zs = some zs') (hk : ∀ r, H r = none → k (.pointer (some ⟨r, 0, none⟩)) (hupd H r (.cells zs' t true))) : evOp P ⟨d, .alloc t, ty, pos, after, g⟩ a H k :=
  eo_alloc hz (by rw [copyL_eq hc]; exact hk)
theorem eo_box_c {v : Value} {vs : List Value} (hx : force (opd a x) = some v) (hvs : copyL v.cells.toList = some vs) (hk : ∀ r, H r = none → k (.pointer (some ⟨r, 0, none⟩)) (hupd H r (.cells vs t true))) : evOp P ⟨d, .box t x, ty, pos, after, g⟩ a H k :=
  eo_box (force_eq hx) (copyL_eq hvs) hk

/-! ### All that only computes, in one function -/
def ptrEq (op : BinOp) : Option Addr → Option Value
  | none => match op with | .eql => some (.bool true) | .neq => some (.bool false) | _ => none
  | some _ => match op with | .eql => some (.bool false) | .neq => some (.bool true) | _ => none
def notV : Bool → Value
  | true => .bool false
  | false => .bool true

def binV (P : Program) (op : BinOp) (t : TypeId) : Value → Value → Option Value
  | .int k m, .int k' n => match op with
    | .shl => if n < 0 then none else some (.int k (k.wrap (m * 2 ^ (min n.toNat k.bits))))
    | .shr => if n < 0 then none else some (.int k (m.fdiv (2 ^ (min n.toNat k.bits))))
    | .quo => if k = k' then if n = 0 then none else some (.int k (k.wrap (m.tdiv n))) else none
    | .rem => if k = k' then if n = 0 then none else some (.int k (m.tmod n)) else none
    | op => if k = k' then force (intBin op k m n) else none
  | .string m, .string n => if strPlain op = true then force (strBin op m n) else none
  | .pointer p, .pointer none => if isPtrT P t = true then ptrEq op p else none
  | .slice p _ _, .slice none _ _ => if isSliceT P t = true then ptrEq op p else none
  | .bool b, .bool b' => if isBoolT P t = true then match op with
    | .eql => some (.bool (b == b'))
    | .neq => some (.bool (!(b == b')))
    | _ => none else none
  | _, _ => none

def lenV (P : Program) (t : TypeId) : Value → Option Value
  | .slice _ n _ => if isSliceT P t = true then some (.int .i64 n) else none
  | .string s => if isStrT P t = true then some (.int .i64 s.size) else none
  | _ => none

def opV (P : Program) (o : Op) (a : Fr) : Option Value :=
  match o with
  | .move x => force (opd a x)
  | .assign x => force (opd a x)
  | .pick c x y => match opd a c with
    | .bool true => force (opd a x)
    | .bool false => force (opd a y)
    | _ => none
  | .nilCheck x => match opd a x with
    | .pointer (some ⟨B, off, s⟩) => some (.pointer (some ⟨B, off, s⟩))
    | .func (.func f) fs cs => some (.func (.func f) fs cs)
    | _ => none
  | .binOp op t x y _ => binV P op t (opd a x) (opd a y)
  | .unOp .not _ x => match opd a x with
    | .bool true => some (.bool false)
    | .bool false => some (.bool true)
    | _ => none
  | .fieldAddr t x f => match opd a x with
    | .pointer (some ⟨B, off, none⟩) => match fieldOff P t f with
      | some n => match natF n with
        | some 0 => some (.pointer (some ⟨B, off, none⟩))
        | some n => match natF (off + n) with
          | some m => some (.pointer (some ⟨B, m, none⟩))
          | none => some (.pointer (some ⟨B, off + n, none⟩))
        | none => none
      | none => none
    | _ => none
  | .extract x n => match opd a x with
    | .tuple vs => match vs.toList[n]? with
      | some v => force v
      | none => none
    | _ => none
  | .makeFunc fn fs cs => match forceL a fs.toList, forceL a cs.toList with
    | some l1, some l2 => some (.func fn l1.toArray l2.toArray)
    | _, _ => none
  | .call { callee := .builtin .len, args, argTypes } => match args.toList with
    | [x] => match argTypes[0]? with
      | some t => lenV P t (opd a x)
      | none => none
    | _ => none
  | _ => none

section
variable {P : Program} {a : Fr} {d : Option Tmp} {ty : TypeId} {pos : String} {after : Array Edge} {g : Option (Nat × Bool)} {v : Value}

theorem binV_pure {op : BinOp} {t yt : TypeId} {x y : Operand} {u w : Value} (hx : opd a x = u) (hy : opd a y = w) (h : binV P op t u w = some v) : pureV P ⟨d, .binOp op t x y yt, ty, pos, after, g⟩ a = some v := by
  unfold binV at h
  split at h
  · rename_i k m k' n
    split at h
    · split at h
      · cases h
      · rename_i hn; cases h; exact pv_shl hx hy hn
    · split at h
      · cases h
      · rename_i hn; cases h; exact pv_shr hx hy hn
    · split at h
      · rename_i hk; subst hk
        split at h
        · cases h
        · rename_i hn; cases h; exact pv_quo hx hy hn
      · cases h
    · split at h
      · rename_i hk; subst hk
        split at h
        · cases h
        · rename_i hn; cases h; exact pv_rem hx hy hn
      · cases h
    · rename_i h1 h2 h3 h4
      split at h
      · rename_i hk; subst hk
        refine pv_int hx hy ?_ h
        cases op <;> first | rfl | exact absurd rfl h1 | exact absurd rfl h2 | exact absurd rfl h3 | exact absurd rfl h4
      · cases h
  · split at h
    · rename_i hp; exact pv_str hx hy hp h
    · cases h
  · rename_i p
    split at h
    · rename_i ht
      cases p <;> cases op <;> simp only [ptrEq] at h <;> first | (cases h; done) | (cases h; exact pv_eql_nil ht hx hy rfl) | (cases h; exact pv_neq_nil ht hx hy rfl)
    · cases h
  · rename_i p _ _ _ _
    split at h
    · rename_i ht
      cases p <;> cases op <;> simp only [ptrEq] at h <;> first | (cases h; done) | (cases h; exact pv_eql_slice ht hx hy) | (cases h; exact pv_neq_slice ht hx hy)
    · cases h
  · split at h
    · rename_i ht
      cases op <;> first | (cases h; done) | (cases h; exact pv_eql_bool ht hx hy) | (cases h; exact pv_neq_bool ht hx hy)
    · cases h
  · cases h

theorem opV_pure {o : Op} (h : opV P o a = some v) : pureV P ⟨d, o, ty, pos, after, g⟩ a = some v := by
  unfold opV at h
  split at h
  · exact pv_move h
  · exact pv_assign h
  · split at h
    · rename_i hb; exact pv_pick_t hb h
    · rename_i hb; exact pv_pick_f hb h
    · cases h
  · split at h
    · rename_i hx; cases h; exact pv_nil hx
    · rename_i hx; cases h; exact pv_nilF hx
    · cases h
  · exact binV_pure rfl rfl h
  · split at h
    · rename_i hx; cases h; exact pv_not hx rfl
    · rename_i hx; cases h; exact pv_not hx rfl
    · cases h
  · split at h
    · rename_i B off hx
      split at h
      · rename_i n hn
        split at h
        · rename_i h0
          cases h
          have := natF_eq h0
          subst this
          exact pv_field hx hn
        · rename_i n' _ hn'
          have := natF_eq hn'
          subst this
          split at h
          · rename_i m hm
            cases h
            rw [← natF_eq hm]
            exact pv_field hx hn
          · cases h; exact pv_field hx hn
        · cases h
      · cases h
    · cases h
  · split at h
    · rename_i vs hx
      split at h
      · rename_i u hu
        refine pv_extract hx ?_
        rw [← force_eq h, ← hu, Array.getElem?_toList]
      · cases h
    · cases h
  · split at h
    · rename_i l1 l2 h1 h2
      cases h
      exact pv_makeFunc (forceL_eq h1) (forceL_eq h2)
    · cases h
  · rename_i args argTypes
    split at h
    · rename_i x hargs
      split at h
      · rename_i t ht
        have key : ∀ q : TypeId → Bool, q t = true → (argTypes[0]?).any q = true := fun q hq => by rw [ht]; exact hq
        unfold lenV at h
        split at h
        · rename_i A n c hx
          split at h
          · rename_i hs; cases h
            exact pv_len_slice (by rw [hargs, List.map_cons, hx]; rfl) (key _ hs)
          · cases h
        · rename_i s hx
          split at h
          · rename_i hs; cases h
            exact pv_len_str (by rw [hargs, List.map_cons, hx]; rfl) (key _ hs)
          · cases h
        · cases h
      · cases h
    · cases h
  · cases h

theorem opV_kd {o : Op} (h : opV P o a = some v) : kd P o = .pure := by
  unfold opV at h
  split at h <;> first | rfl | cases h
end

section
variable {P : Program} {ops : Array Oper} {Q : Fr → Hp → Prop} {a : Fr} {H : Hp} {i c : Nat} {rest : List Oper} {l : List (Nat × Nat)} {hist : List Hp} {d' : Nat} {v : Value}
variable {ty : TypeId} {pos : String} {after : Array Edge} {g : Option (Nat × Bool)} {o : Op}
end
end
end Go.Sl
