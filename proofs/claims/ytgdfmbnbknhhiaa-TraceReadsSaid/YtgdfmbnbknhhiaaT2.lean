/- Codes over chunks: the walk's steps: lemmas; each with the conditions that it states. -/
import Derived.Test.YtgdfmbnbknhhiaaT1
namespace Go.Sl

def thenC (K : Fr → List HP → Prop) (Q : Exit → Fr → List HP → Prop) : Exit → Fr → List HP → Prop
  | Exit.normal => K
  | e => Q e
def inBlockC (id : Nat) (Q : Exit → Fr → List HP → Prop) : Exit → Fr → List HP → Prop
  | Exit.exit j => if j = id then Q .normal else Q (.exit j)
  | e => Q e
def noGotoC (Q : Exit → Fr → List HP → Prop) : Exit → Fr → List HP → Prop
  | Exit.goto _ => fun _ _ => False
  | e => Q e

theorem Ent.pickA {A : HP} {C R C' : List HP} (hp : Pick A C R := by ((repeat (first | exact Pick.here | apply Pick.there)) <;> exact Pick.here)) (h : Ent R C') : Ent C (A :: C') := Ent.pick hp h
def sep (A B : HP) : HP := star [A, B]
theorem CallT.sep {P : Program} {f : FuncId} {args : Array Value} {A B : HP} {C : List HP} {K : Value → List HP → Prop} (h : CallT P f args (A :: B :: C) K) : CallT P f args (sep A B :: C) K := fun H hs => h H hs.star
theorem Ent.sep {A B : HP} {C C' : List HP} (h : Ent C (A :: B :: C')) : Ent C (sep A B :: C') := Ent.star h
theorem evC_sep {P : Program} {c : Code} {Q : Exit → Fr → List HP → Prop} {a : Fr} {A B : HP} {C : List HP} (h : evC P c Q a (A :: B :: C)) : evC P c Q a (sep A B :: C) := fun H hs => h H hs.star
theorem pers_sep {A B : HP} (h1 : Pers A) (h2 : Pers B) : Pers (sep A B) := pers_star_cons h1 (pers_star_cons h2 pers_star_nil)
section
variable {P : Program} {Q : Exit → Fr → List HP → Prop} {K : Fr → List HP → Prop} {a : Fr} {C : List HP} {x y : Code} {id : Nat}
theorem evC_ent {C' : List HP} (he : Ent C C') (h : evC P x Q a C') : evC P x Q a C := fun H hs => h H (he H hs)
theorem evC_ex {α : Type} {g : α → HP} (h : ∀ z, evC P x Q a (g z :: C)) : evC P x Q a (exP g :: C) := fun H hs => by
  obtain ⟨z, hz⟩ := hs.ex
  exact h z H hz
theorem evC_star {l : List HP} (h : evC P x Q a (l ++ C)) : evC P x Q a (star l :: C) := fun H hs => h H hs.star
theorem evC_pure {p : Prop} (h : p → evC P x Q a C) : evC P x Q a (pureP p :: C) := fun H hs => h hs.pure.1 H hs.pure.2
theorem c_seq (h : evC P x (thenC (evC P y Q) Q) a C) : evC P (.seq x y) Q a C := fun H hs => by
  refine ev_monoQ x (fun e a H hq => ?_) a H (h H hs)
  obtain ⟨C', h1, h2⟩ := hq
  cases e <;> first | exact ⟨C', h1, h2⟩ | exact h2 H h1
theorem c_cond {c : Operand} {b : Bool} (hc : opd a c = .bool b) (h : Br b (evC P x Q a C) (evC P y Q a C)) : evC P (.cond c x y) Q a C := fun H hs => by
  simp only [ev, hc]
  exact ⟨fun hb => h.yes hb H hs, fun hb => h.no hb H hs⟩
theorem c_block (h : evC P x (inBlockC id Q) a C) : evC P (.block id x) Q a C := fun H hs => by
  refine ev_monoQ x (fun e a H hq => ?_) a H (h H hs)
  obtain ⟨C', h1, h2⟩ := hq
  cases e <;> first
    | exact ⟨C', h1, h2⟩
    | (simp only [inBlockC, inBlockE] at h2 ⊢; split <;> rename_i hj <;> simp only [hj, if_true, if_false] at h2 <;> exact ⟨C', h1, h2⟩)
theorem c_scope (h : evC P x (noGotoC Q) a C) : evC P (.scope x) Q a C := fun H hs => by
  refine ev_monoQ x (fun e a H hq => ?_) a H (h H hs)
  obtain ⟨C', h1, h2⟩ := hq
  cases e <;> first | exact ⟨C', h1, h2⟩ | exact h2.elim
theorem c_skip (h : Q .normal a C) : evC P .skip Q a C := fun H hs => ⟨C, hs, h⟩
theorem c_label (h : Q .normal a C) : evC P (.label id) Q a C := fun H hs => ⟨C, hs, h⟩
theorem c_exit (h : Q (.exit id) a C) : evC P (.exit id) Q a C := fun H hs => ⟨C, hs, h⟩
theorem c_ret (h : Q .ret a C) : evC P .ret Q a C := fun H hs => ⟨C, hs, h⟩
theorem t_n (h : K a C) : thenC K Q .normal a C := h
theorem t_e (h : Q (.exit id) a C) : thenC K Q (.exit id) a C := h
theorem t_r (h : Q .ret a C) : thenC K Q .ret a C := h
theorem b_n (h : Q .normal a C) : inBlockC id Q .normal a C := h
theorem b_r (h : Q .ret a C) : inBlockC id Q .ret a C := h
theorem b_hit {j : Nat} (hj : (j == id) = true) (h : Q .normal a C) : inBlockC id Q (.exit j) a C := by simp at hj; simp only [inBlockC, hj, if_true]; exact h
theorem b_miss {j : Nat} (hj : (j == id) = false) (h : Q (.exit j) a C) : inBlockC id Q (.exit j) a C := by simp at hj; simp only [inBlockC, hj, if_false]; exact h
theorem g_n (h : Q .normal a C) : noGotoC Q .normal a C := h
theorem g_r (h : Q .ret a C) : noGotoC Q .ret a C := h
theorem g_e (h : Q (.exit id) a C) : noGotoC Q (.exit id) a C := h

/-- A loop: what holds at its head, by a number that goes down. -/
theorem c_loop (I : Nat → Fr → List HP → Prop) (n : Nat) (C0 : List HP) (he : Ent C C0) (h0 : I n a C0)
    (hr : ∀ n a C, I n a C → evC P x (thenC (fun a' C' => ∃ m C'', m < n ∧ Ent C' C'' ∧ I m a' C'') Q) a C) : evC P (.loop x) Q a C := fun H hs => by
  refine ⟨fun n a H => ∃ C, Sats C H ∧ I n a C, n, ⟨C0, he H hs, h0⟩, fun n a H ⟨C, hs, hI⟩ => ?_⟩
  refine ev_monoQ x (fun e a H hq => ?_) a H (hr n a C hI H hs)
  obtain ⟨C', h1, h2⟩ := hq
  cases e <;> first
    | exact ⟨C', h1, h2⟩
    | (obtain ⟨m, C'', hm, hE, hI⟩ := h2; exact ⟨m, hm, C'', hE H h1, hI⟩)
/-- Ways that meet again. -/
theorem c_cut (I : Fr → List HP → Prop) (h : evC P x (thenC (fun a' C' => ∃ C'', Ent C' C'' ∧ I a' C'') Q) a C) (k : ∀ a C, I a C → evC P y Q a C) : evC P (.seq x y) Q a C := fun H hs => by
  refine ev_monoQ x (fun e a H hq => ?_) a H (h H hs)
  obtain ⟨C', h1, h2⟩ := hq
  cases e <;> first
    | exact ⟨C', h1, h2⟩
    | (obtain ⟨C'', hE, hI⟩ := h2; exact k _ _ hI H (hE H h1))
theorem c_fr (l : List (Nat × Value)) (h : Agree a l) (he : evC P x Q (updL a l) C) : evC P x Q a C := by rw [updL_eq h] at he; exact he
end

/-! ### Regions -/
abbrev Entry := Nat × Bool × Oper
/-- what a region still has to do: a tree of orders -/
inductive ET where
  | nil
  | cons (e : Entry) (l : ET)
  | br (l m : ET)

def gev (P : Program) (ops : Array Oper) (Q : Fr → Hp → Prop) : ET → List Hp → Fr → Hp → Prop
  | .nil, _, a, H => Q a H
  | .br l m, hist, a, H => gev P ops Q l hist a H ∧ gev P ops Q m hist a H
  | ET.cons (c, _, o) l, hist, a, H =>
    if wantB ops o a = true then
      match kd P o.op with
      | .pure => ∃ v, pureV P o a = some v ∧ gev P ops Q l hist (putO a o.dst v) H
      | .load => ∃ v, rdV P o a H = some v ∧ (∀ h ∈ hist.take c, rdV P o a h = some v) ∧ gev P ops Q l hist (putO a o.dst v) H
      | .other => evOp P o a H fun v H' => gev P ops Q l (H :: hist) (putO a o.dst v) H'
    else gev P ops Q l hist (putO a o.dst undef) H

def entL (ops : Array Oper) : Nat → List Oper → Option (ET)
  | _, [] => some .nil
  | i, o :: l => match isG ops i with
    | true => match entL ops (i + 1) l with
      | some r => some (ET.cons (0, true, o) r)
      | none => none
    | false => match entL ops (i + 1) l with
      | some r => some (ET.cons (0, false, o) r)
      | none => none
def entD (ops : Array Oper) : List (Nat × Nat) → Option (ET)
  | [] => some .nil
  | (i, c) :: l => match ops[i]? with
    | none => none
    | some o => match isG ops i with
      | true => match entD ops l with
        | some r => some (ET.cons (c, true, o) r)
        | none => none
      | false => match entD ops l with
        | some r => some (ET.cons (c, false, o) r)
        | none => none

theorem entL_cons {ops : Array Oper} {i : Nat} {o : Oper} {l : List Oper} {es : ET} (h : entL ops i (o :: l) = some es) : ∃ g r, es = ET.cons (0, g, o) r ∧ entL ops (i + 1) l = some r := by
  simp only [entL] at h
  split at h <;> split at h <;> first | (cases h; done) | (rename_i r hr; cases h; exact ⟨_, r, rfl, hr⟩)
theorem entD_cons {ops : Array Oper} {i c : Nat} {l : List (Nat × Nat)} {es : ET} (h : entD ops ((i, c) :: l) = some es) : ∃ g r o, ops[i]? = some o ∧ es = ET.cons (c, g, o) r ∧ entD ops l = some r := by
  simp only [entD] at h
  split at h
  · cases h
  · rename_i o ho
    split at h <;> split at h <;> first | (cases h; done) | (rename_i r hr; cases h; exact ⟨_, r, o, ho, rfl, hr⟩)

theorem gev_L {P : Program} {ops : Array Oper} {Q : Fr → Hp → Prop} : ∀ (l : List Oper) (i : Nat) (es : ET) (hist : List Hp) (a : Fr) (H : Hp), entL ops i l = some es → gev P ops Q es hist a H → evL P ops Q i l a H
  | [], _, es, hist, a, H, he, h => by cases he; exact h
  | o :: l, i, es, hist, a, H, he, h => by
    obtain ⟨g, r, rfl, hr⟩ := entL_cons he
    simp only [gev] at h
    split at h
    · rename_i hw
      split at h
      · obtain ⟨v, hv, h⟩ := h
        exact evL_p hw hv ((spl_iff _ _ _).2 (gev_L l _ r _ _ _ hr h))
      · obtain ⟨v, hv, _, h⟩ := h
        exact evL_r hw hv ((spl_iff _ _ _).2 (gev_L l _ r _ _ _ hr h))
      · refine evL_o hw (evOp_mono (fun v H' hk => ?_) h)
        exact (spl_iff _ _ _).2 (gev_L l _ r _ _ _ hr hk)
    · rename_i hw
      exact evL_s (by simpa using hw) (gev_L l _ r _ _ _ hr h)
theorem gev_D {P : Program} {ops : Array Oper} {Q : Fr → Hp → Prop} : ∀ (l : List (Nat × Nat)) (es : ET) (hist : List Hp) (a : Fr) (H : Hp), entD ops l = some es → gev P ops Q es hist a H → evD P ops Q l hist a H
  | [], es, hist, a, H, he, h => by cases he; exact h
  | (i, c) :: l, es, hist, a, H, he, h => by
    obtain ⟨g, r, o, ho, rfl, hr⟩ := entD_cons he
    simp only [gev] at h
    split at h
    · rename_i hw
      split at h
      · rename_i hk
        obtain ⟨v, hv, h⟩ := h
        exact evD_p ho hk hw hv ((spl_iff _ _ _).2 (gev_D l r _ _ _ hr h))
      · rename_i hk
        obtain ⟨v, hv, hh, h⟩ := h
        exact evD_r ho hk hw hv hh ((spl_iff _ _ _).2 (gev_D l r _ _ _ hr h))
      · rename_i hk
        refine evD_o ho hk hw (evOp_mono (fun v H' hk => ?_) h)
        exact (spl_iff _ _ _).2 (gev_D l r _ _ _ hr hk)
    · rename_i hw
      exact evD_s ho (by simpa using hw) (gev_D l r _ _ _ hr h)


def entT (ops : Array Oper) : Tr → Option ET
  | .nil => some .nil
  | .br t u => match entT ops t with
    | some x => match entT ops u with
      | some y => some (.br x y)
      | none => none
    | none => none
  | .st i c l => match ops[i]? with
    | none => none
    | some o => match isG ops i with
      | true => match entT ops l with
        | some r => some (ET.cons (c, true, o) r)
        | none => none
      | false => match entT ops l with
        | some r => some (ET.cons (c, false, o) r)
        | none => none
theorem entT_st {ops : Array Oper} {i c : Nat} {l : Tr} {es : ET} (h : entT ops (.st i c l) = some es) : ∃ g r o, ops[i]? = some o ∧ es = ET.cons (c, g, o) r ∧ entT ops l = some r := by
  simp only [entT] at h
  split at h
  · cases h
  · rename_i o ho
    split at h <;> split at h <;> first | (cases h; done) | (rename_i r hr; cases h; exact ⟨_, r, o, ho, rfl, hr⟩)
theorem entT_br {ops : Array Oper} {t u : Tr} {es : ET} (h : entT ops (.br t u) = some es) : ∃ x y, es = .br x y ∧ entT ops t = some x ∧ entT ops u = some y := by
  simp only [entT] at h
  split at h
  · rename_i x hx
    split at h
    · rename_i y hy; cases h; exact ⟨x, y, rfl, hx, hy⟩
    · cases h
  · cases h
theorem gev_T {P : Program} {ops : Array Oper} {Q : Fr → Hp → Prop} : ∀ (t : Tr) (es : ET) (hist : List Hp) (a : Fr) (H : Hp), entT ops t = some es → gev P ops Q es hist a H → evT P ops Q t hist a H
  | .nil, es, hist, a, H, he, h => by cases he; exact h
  | .br t u, es, hist, a, H, he, h => by
    obtain ⟨x, y, rfl, hx, hy⟩ := entT_br he
    exact ⟨gev_T t x hist a H hx h.1, gev_T u y hist a H hy h.2⟩
  | .st i c l, es, hist, a, H, he, h => by
    obtain ⟨g, r, o, ho, rfl, hr⟩ := entT_st he
    simp only [gev] at h
    simp only [evT, ho]
    split at h
    · rename_i hw
      rw [if_pos hw]
      split at h
      · rename_i hkd; simp only [hkd]; obtain ⟨v, hv, h⟩ := h
        exact ⟨v, hv, (spl_iff _ _ _).2 (gev_T l r _ _ _ hr h)⟩
      · rename_i hkd; simp only [hkd]; obtain ⟨v, hv, hh, h⟩ := h
        exact ⟨v, hv, hh, (spl_iff _ _ _).2 (gev_T l r _ _ _ hr h)⟩
      · rename_i hkd; simp only [hkd]; refine evOp_mono (fun v H' hk => ?_) h
        exact (spl_iff _ _ _).2 (gev_T l r _ _ _ hr hk)
    · rename_i hw
      rw [if_neg hw]
      exact gev_T l r _ _ _ hr h
/-- all orders of a drawn region -/
def canonT (P : Program) (ops : Array Oper) (bs : Array Nat) : Nat → List Nat → List Nat → Tr
  | n, acc, S =>
    let all := List.range ops.size
    let cnt := fun i => nOther P ops ((all.map fun j => (j, 0)).filter fun j => !(bs.getD i 0).testBit j.1 && !(bs.getD j.1 0).testBit i)
    match n with
    | 0 => (all.filter fun i => !acc.contains i).foldr (fun i t => .st i (cnt i) t) .nil
    | n + 1 =>
      let one := fun e => let new := (all.filter fun i => (bs.getD e 0).testBit i && !acc.contains i) ++ [e]
        new.foldr (fun i t => .st i (cnt i) t) (canonT P ops bs n (acc ++ new) (S.filter fun j => !(j == e)))
      match S.filter fun e => !S.any fun j => (bs.getD e 0).testBit j with
      | [] => .nil
      | e :: l => l.foldl (fun t e => .br t (one e)) (one e)
def othersOf (P : Program) (ops : Array Oper) : List Nat := (List.range ops.size).filter fun i => match ops[i]? with | some o => isOther P o.op | none => false
def trF : Tr → Option Tr
  | .nil => some .nil
  | .st i c t => match natF i with
    | some i => match natF c with
      | some c => match trF t with
        | some t => some (.st i c t)
        | none => none
      | none => none
    | none => none
  | .br t u => match trF t with
    | some t => match trF u with
      | some u => some (.br t u)
      | none => none
    | none => none
def SatsL : List (List HP) → List Hp → Prop
  | [], [] => True
  | C :: l, H :: m => Sats C H ∧ SatsL l m
  | _, _ => False
theorem SatsL.take : ∀ {l : List (List HP)} {m : List Hp}, SatsL l m → ∀ {c : Nat} {h : Hp}, h ∈ m.take c → ∃ C ∈ l.take c, Sats C h
  | [], [], _, _, _, hh => by simp at hh
  | C :: l, H :: m, hs, 0, _, hh => by simp at hh
  | C :: l, H :: m, hs, c + 1, h, hh => by
    simp only [List.take_succ_cons, List.mem_cons] at hh
    rcases hh with rfl | hh
    · exact ⟨C, by simp, hs.1⟩
    · obtain ⟨C', h1, h2⟩ := SatsL.take hs.2 hh
      exact ⟨C', by simp [h1], h2⟩
  | [], _ :: _, hs, _, _, _ => hs.elim
  | _ :: _, [], hs, _, _, _ => hs.elim

def evG (P : Program) (ops : Array Oper) (Q : Fr → List HP → Prop) (es : ET) (hist : List (List HP)) (a : Fr) (C : List HP) : Prop :=
  ∀ Hs H, SatsL hist Hs → Sats C H → gev P ops (upC Q) es Hs a H
def RdC (P : Program) (o : Oper) (a : Fr) (C : List HP) (v : Value) : Prop := ∀ H, Sats C H → rdV P o a H = some v
def allRd (p : List HP → Prop) : List (List HP) → Prop
  | [] => True
  | C :: l => p C ∧ allRd p l
theorem allRd_spec {p : List HP → Prop} : ∀ {l : List (List HP)}, allRd p l → ∀ C ∈ l, p C
  | [], _, _, h => by cases h
  | _ :: _, hp, C, h => by
    rcases List.mem_cons.1 h with rfl | h
    · exact hp.1
    · exact allRd_spec hp.2 C h
def EvOp (P : Program) (o : Oper) (a : Fr) (C : List HP) (k : Value → List HP → Prop) : Prop := ∀ H, Sats C H → evOp P o a H (upV k)

section
variable {P : Program} {ops : Array Oper} {Q : Fr → List HP → Prop} {a : Fr} {C : List HP} {c : Nat} {g : Bool} {o : Oper} {es : ET} {hist : List (List HP)} {v : Value}
theorem evG_p (hk : kd P o.op = .pure) (hw : wantB ops o a = true) (hv : pureV P o a = some v) (h : spl g v fun v => evG P ops Q es hist (putO a o.dst v) C) : evG P ops Q (ET.cons (c, g, o) es) hist a C := fun Hs H h1 h2 => by
  simp only [gev, hw, if_true, hk]
  rw [spl_iff] at h
  exact ⟨v, hv, h Hs H h1 h2⟩
theorem evG_r (hk : kd P o.op = .load) (hw : wantB ops o a = true) (hv : RdC P o a C v) (hh : allRd (fun C' => RdC P o a C' v) (hist.take c)) (h : spl g v fun v => evG P ops Q es hist (putO a o.dst v) C) : evG P ops Q (ET.cons (c, g, o) es) hist a C := fun Hs H h1 h2 => by
  simp only [gev, hw, if_true, hk]
  rw [spl_iff] at h
  refine ⟨v, hv H h2, fun x hx => ?_, h Hs H h1 h2⟩
  obtain ⟨C', k1, k2⟩ := h1.take hx
  exact allRd_spec hh C' k1 x k2
theorem evG_o (hk : kd P o.op = .other) (hw : wantB ops o a = true) (h : EvOp P o a C fun v C' => spl g v fun v => evG P ops Q es (C :: hist) (putO a o.dst v) C') : evG P ops Q (ET.cons (c, g, o) es) hist a C := fun Hs H h1 h2 => by
  simp only [gev, hw, if_true, hk]
  refine evOp_mono (fun v H' hk => ?_) (h H h2)
  obtain ⟨C', k1, k2⟩ := hk
  rw [spl_iff] at k2
  exact k2 (H :: Hs) H' ⟨h2, h1⟩ k1
theorem evG_s (hw : wantB ops o a = false) (h : evG P ops Q es hist (putO a o.dst undef) C) : evG P ops Q (ET.cons (c, g, o) es) hist a C := fun Hs H h1 h2 => by
  simp only [gev, hw]
  exact h Hs H h1 h2
theorem G_br {x y : ET} (h1 : evG P ops Q x hist a C) (h2 : evG P ops Q y hist a C) : evG P ops Q (.br x y) hist a C := fun Hs H k1 k2 => ⟨h1 Hs H k1 k2, h2 Hs H k1 k2⟩
theorem evG_nil (h : Q a C) : evG P ops Q .nil hist a C := fun _ _ _ h2 => ⟨C, h2, h⟩
theorem evG_ent {C' : List HP} (he : Ent C C') (h : evG P ops Q es hist a C') : evG P ops Q es hist a C := fun Hs H h1 h2 => h Hs H h1 (he H h2)
end

section
variable {P : Program} {Q : Exit → Fr → List HP → Prop} {a : Fr} {C : List HP} {id : Nat} {ol : List Oper} {es : ET}
theorem c_region (he : entL ol.toArray 0 ol = some es) (h : evG P ol.toArray (Q .normal) es [] a C) : evC P (.region id ol.toArray false) Q a C := fun H hs =>
  gev_L ol 0 es [] a H he (h [] H trivial hs)
theorem c_draw {l : List (Nat × Nat)} (hl : pairsF (canon P ol.toArray (Region.before ol.toArray)) = some l) (hc : canonOk P ol.toArray (Region.before ol.toArray) l = true) (he : entD ol.toArray l = some es)
    (h : evG P ol.toArray (Q .normal) es [] a C) : evC P (.region id ol.toArray true) Q a C := fun H hs => by
  have e := pairsF_eq hl
  exact .inl ⟨by rw [e]; exact hc, by rw [e]; exact gev_D l es [] a H he (h [] H trivial hs)⟩
theorem c_drawT {t : Tr} (hl : trF (canonT P ol.toArray (Region.before ol.toArray) (othersOf P ol.toArray).length [] (othersOf P ol.toArray)) = some t) (hc : treeOk P ol.toArray (Region.before ol.toArray) t = true) (he : entT ol.toArray t = some es)
    (h : evG P ol.toArray (Q .normal) es [] a C) : evC P (.region id ol.toArray true) Q a C := fun H hs =>
  .inr ⟨t, hc, gev_T t es [] a H he (h [] H trivial hs)⟩
end

/-! ### A function's contract out of its code -/
def retC (P : Program) (fn : Func) (K : Value → List HP → Prop) : Exit → Fr → List HP → Prop
  | Exit.normal => fun a C => ∀ H, Sats C H → resP P fn (upV K) a H
  | Exit.ret => fun a C => ∀ H, Sats C H → resP P fn (upV K) a H
  | _ => fun _ _ => False
theorem callT_intro {P : Program} (hm : P.follows .mixedOrders = true) {f : FuncId} {fn : Func} {c : Code} {args : Array Value} {C : List HP} {K : Value → List HP → Prop} (hf : P.funcs[f]? = some fn) (hb : fn.body = some c)
    (hn : (fn.name == "runtime.NumGoroutine") = false) (hc : codeOk fn.ntmps c = true) (hsz : args.size ≤ fn.ntmps) (h : evC P c (retC P fn K) (frameOf args.toList) C) : CallT P f args C K := fun H hs => by
  refine callS_intro hm hf hb hn hc hsz (ev_monoQ c (fun e a H hq => ?_) _ H (h H hs))
  obtain ⟨C', h1, h2⟩ := hq
  cases e <;> first | exact h2 H h1 | exact h2.elim

def resVC (P : Program) (a : Fr) (C : List HP) (rs : List ResultVar) (vs : List Value) : Prop := ∀ H, Sats C H → resVs P a H rs = some vs
theorem rc_nil {P : Program} {a : Fr} {C : List HP} : resVC P a C [] [] := fun _ _ => rfl
theorem rc_tmp {P : Program} {a : Fr} {C : List HP} {t : Tmp} {rs : List ResultVar} {v : Value} {vs : List Value} (hx : force (a t) = some v) (h : resVC P a C rs vs) : resVC P a C (.tmp t :: rs) (v :: vs) := fun H hs => rs_tmp hx (h H hs)

/-- what a chunk says of a block -/
def Has (C : List HP) (B : Nat) (cs : List Value) : Prop := ∀ H, Sats C H → ∃ e rw, H B = some (.cells cs e rw)
theorem has_pt {C : List HP} {B : Nat} {cs : List Value} {e : TypeId} : Has (pt B cs e :: C) B cs := fun H ⟨H1, H2, _, h1, _, ha, _⟩ => by
  obtain ⟨b, h, l⟩ := h1 B _ ha
  have := Blk.le_own l rfl
  subst this
  exact ⟨e, true, h⟩
theorem has_ro {C : List HP} {B : Nat} {cs : List Value} {e : TypeId} : Has (ro B cs e :: C) B cs := fun H ⟨H1, H2, _, h1, _, ha, _⟩ => by
  obtain ⟨b, h, l⟩ := h1 B _ ha
  rcases l with rfl | ⟨cs', e', h1, rfl⟩
  · exact ⟨e, false, h⟩
  · cases h1; exact ⟨e, true, h⟩
theorem has_there {A : HP} {C : List HP} {B : Nat} {cs : List Value} (h : Has C B cs) : Has (A :: C) B cs := fun H hs => h H hs.tail
theorem rc_cell {P : Program} {a : Fr} {C : List HP} {p : Tmp} {t : TypeId} {B off : Nat} {cs : List Value} {rs : List ResultVar} {v : Value} {vs : List Value} (hx : a p = .pointer (some ⟨B, off, none⟩)) (hb : Has C B cs) (hv : ldC P t cs off = some v)
    (h : resVC P a C rs vs) : resVC P a C (.cell p t :: rs) (v :: vs) := fun H hs => by
  obtain ⟨e, rw, hB⟩ := hb H hs
  exact rs_cell hx hB hv (h H hs)
theorem retC_r {P : Program} {fn : Func} {K : Value → List HP → Prop} {a : Fr} {C C' : List HP} {rs : List ResultVar} {vs : List Value} {v : Value} (hl : copyL fn.results.toList = some rs) (hv : resVC P a C rs vs) (ht : force (tupV vs) = some v) (he : Ent C C') (hk : K v C') :
    retC P fn K .ret a C := fun H hs => ⟨vs, by rw [copyL_eq hl]; exact hv H hs, H, Hsub.refl H, C', he H hs, by rw [force_eq ht]; exact hk⟩
theorem retC_n {P : Program} {fn : Func} {K : Value → List HP → Prop} {a : Fr} {C C' : List HP} {rs : List ResultVar} {vs : List Value} {v : Value} (hl : copyL fn.results.toList = some rs) (hv : resVC P a C rs vs) (ht : force (tupV vs) = some v) (he : Ent C C') (hk : K v C') :
    retC P fn K .normal a C := fun H hs => ⟨vs, by rw [copyL_eq hl]; exact hv H hs, H, Hsub.refl H, C', he H hs, by rw [force_eq ht]; exact hk⟩
end Go.Sl
