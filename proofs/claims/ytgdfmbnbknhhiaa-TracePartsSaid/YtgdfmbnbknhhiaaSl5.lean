/- A function's whole code over a partial heap; a contract out of it: lemmas; each with the conditions that it states. -/
import Derived.Test.YtgdfmbnbknhhiaaSlt
namespace Go.Sl

/-- The order in which a drawn region is taken: what changes memory as early as it may come, each behind what it waits for. -/
def canonIdx (P : Program) (ops : Array Oper) (bs : Array Nat) : List Nat :=
  let all := List.range ops.size
  let acc := (all.filter fun i => match ops[i]? with
    | some o => isOther P o.op
    | none => false).foldl (fun acc e => if acc.contains e then acc else acc ++ (all.filter fun i => (bs.getD e 0).testBit i && !acc.contains i) ++ [e]) []
  acc ++ all.filter fun i => !acc.contains i
def canon (P : Program) (ops : Array Oper) (bs : Array Nat) : List (Nat × Nat) :=
  let l := (canonIdx P ops bs).map fun i => (i, 0)
  l.map fun d => (d.1, nOther P ops (l.filter fun j => !(bs.getD d.1 0).testBit j.1 && !(bs.getD j.1 0).testBit d.1))

def ev (P : Program) : Code → (Exit → Fr → Hp → Prop) → Fr → Hp → Prop
  | .skip, Q => Q .normal
  | .region _ ops false, Q => evL P ops (Q .normal) 0 ops.toList
  | .region _ ops true, Q => fun a H => (canonOk P ops (Region.before ops) (canon P ops (Region.before ops)) = true ∧ evD P ops (Q .normal) (canon P ops (Region.before ops)) [] a H) ∨ ∃ t, treeOk P ops (Region.before ops) t = true ∧ evT P ops (Q .normal) t [] a H
  | .seq x y, Q => ev P x (thenE (ev P y Q) Q)
  | .cond c x y, Q => fun a H => match opd a c with
    | .bool b => Br b (ev P x Q a H) (ev P y Q a H)
    | _ => False
  | .block id c, Q => ev P c (inBlockE id Q)
  | .loop c, Q => fun a H => ∃ (I : Nat → Fr → Hp → Prop) (n : Nat), I n a H ∧ ∀ n a H, I n a H → ev P c (thenE (fun a' H' => ∃ m, m < n ∧ I m a' H') Q) a H
  | .exit id, Q => Q (.exit id)
  | .scope c, Q => ev P c (noGotoE Q)
  | .label _, Q => Q .normal
  | .ret, Q => Q .ret
  | _, _ => fun _ _ => False

def codeOk (n : Nat) : Code → Bool
  | .region _ ops _ => ops.all (dstOk n)
  | .seq x y => codeOk n x && codeOk n y
  | .cond _ x y => codeOk n x && codeOk n y
  | .block _ c => codeOk n c
  | .loop c => codeOk n c
  | .scope c => codeOk n c
  | _ => true

theorem wp_loop_ix {P : Program} {Q : Exit → Act → World → Prop} {c : Code} (I : Nat → Act → World → Prop)
    (round : ∀ n a w, I n a w → c.wp P (Exit.then (fun a' w' => ∃ m, m < n ∧ I m a' w') Q) a w) {n : Nat} {a : Act} {w : World} (h : I n a w) : (Code.loop c).wp P Q a w := by
  intro b k cs
  have key : ∀ n a w, I n a w → ∃ e a' w', Q e a' w' ∧ Arrives P (lone (b.at a (.code c :: .inLoop c :: k)) cs w) b k cs e a' w' := by
    intro n
    induction n using Nat.strongRecOn with
    | _ n ih =>
      intro a w hI
      obtain ⟨e, a₁, w₁, hq, harr⟩ := round n a w hI b (.inLoop c :: k) cs
      cases e with
      | normal =>
        obtain ⟨m, hlt, hI₁⟩ := hq
        obtain ⟨e₂, a₂, w₂, hq₂, harr₂⟩ := ih m hlt a₁ w₁ hI₁
        exact ⟨e₂, a₂, w₂, hq₂, .of_steps (Steps.trans harr (.one step_inLoop)) harr₂⟩
      | exit id => exact ⟨_, a₁, w₁, hq, .pass (x := .inLoop c) rfl (fun _ _ => .inl (by simp)) harr⟩
      | goto l => exact ⟨_, a₁, w₁, hq, .pass (x := .inLoop c) rfl (fun _ _ => .inl (by simp)) harr⟩
      | ret => exact ⟨_, a₁, w₁, hq, .pass (x := .inLoop c) rfl (fun _ _ => .inl (by simp)) harr⟩
      | panic ch => exact ⟨_, a₁, w₁, hq, .pass (x := .inLoop c) rfl (fun _ _ => .inl (by simp)) harr⟩
      | outgrown => exact ⟨_, a₁, w₁, hq, .pass (x := .inLoop c) rfl (fun _ _ => .inl (by simp)) harr⟩
  obtain ⟨e, a', w', hq, harr⟩ := key n a w h
  exact ⟨e, a', w', hq, .of_steps (.one step_loop) harr⟩

theorem ev_code {P : Program} (hm : P.follows .mixedOrders = true) {n : Nat} {own : Nat → Prop} {w0 : World} {H0 : Hp} (c : Code) : ∀ (Q : Exit → Fr → Hp → Prop) (a : Fr) (H : Hp) (A : Act) (w : World),
    codeOk n c = true → ev P c Q a H → FrOk n a A → To own w0 H0 w H → c.wp P (Fits own n w0 H0 Q) A w := by
  induction c with
  | skip => exact fun Q a H A w _ h hf ht => wp_skip ⟨a, H, h, hf, ht⟩
  | region id ops d =>
    intro Q a H A w hc h hf ht
    have hd : ∀ o ∈ ops.toList, dstOk n o = true := fun o ho => Array.all_eq_true_iff_forall_mem.1 hc o (Array.mem_toList_iff.1 ho)
    cases d with
    | false => exact wp_region_list (evL_sound ops.toList 0 a H A w hd h hf ht)
    | true =>
      rcases h with h | ⟨t, h1, h2⟩
      · exact evD_region hm (fun i o ho => hd o (Array.mem_toList_iff.2 (Array.mem_of_getElem? ho))) h.1 h.2 hf ht
      · exact evT_region hm (fun i o ho => hd o (Array.mem_toList_iff.2 (Array.mem_of_getElem? ho))) h1 h2 hf ht
  | seq x y ihx ihy =>
    intro Q a H A w hc h hf ht
    simp only [codeOk, Bool.and_eq_true] at hc
    refine wp_seq (wp_mono (ihx _ a H A w hc.1 h hf ht) fun e A' w' hq => ?_)
    obtain ⟨a', H', hq, hf', ht'⟩ := hq
    cases e with
    | normal => exact ihy Q a' H' A' w' hc.2 hq hf' ht'
    | _ => exact ⟨a', H', hq, hf', ht'⟩
  | cond c x y ihx ihy =>
    intro Q a H A w hc h hf ht
    simp only [codeOk, Bool.and_eq_true] at hc
    simp only [ev] at h
    split at h
    · rename_i b hb
      refine wp_cond_split (t := b) (by rw [hf.eval]; exact hb) (fun hb => ihx Q a H A w hc.1 (h.yes hb) hf ht) (fun hb => ihy Q a H A w hc.2 (h.no hb) hf ht)
    · exact h.elim
  | block id c ih =>
    intro Q a H A w hc h hf ht
    refine wp_block (wp_mono (ih _ a H A w hc h hf ht) fun e A' w' hq => ?_)
    obtain ⟨a', H', hq, hf', ht'⟩ := hq
    cases e with
    | exit j =>
      simp only [inBlockE] at hq
      simp only [Exit.inBlock]
      split <;> rename_i hj
      · rw [if_pos hj] at hq; exact ⟨a', H', hq, hf', ht'⟩
      · rw [if_neg hj] at hq; exact ⟨a', H', hq, hf', ht'⟩
    | _ => exact ⟨a', H', hq, hf', ht'⟩
  | loop c ih =>
    intro Q a H A w hc h hf ht
    obtain ⟨I, k, h0, hround⟩ := h
    refine wp_loop_ix (fun k A w => ∃ a H, I k a H ∧ FrOk n a A ∧ To own w0 H0 w H) (fun k A w hI => ?_) ⟨a, H, h0, hf, ht⟩
    obtain ⟨a, H, hI, hf, ht⟩ := hI
    refine wp_mono (ih _ a H A w hc (hround k a H hI) hf ht) fun e A' w' hq => ?_
    obtain ⟨a', H', hq, hf', ht'⟩ := hq
    cases e with
    | normal => obtain ⟨m, hm, hI⟩ := hq; exact ⟨m, hm, a', H', hI, hf', ht'⟩
    | _ => exact ⟨a', H', hq, hf', ht'⟩
  | exit id => exact fun Q a H A w _ h hf ht => wp_exit ⟨a, H, h, hf, ht⟩
  | scope c ih =>
    intro Q a H A w hc h hf ht
    refine wp_scope_straight (wp_mono (ih _ a H A w hc h hf ht) fun e A' w' hq => ?_)
    obtain ⟨a', H', hq, hf', ht'⟩ := hq
    cases e with
    | goto l => exact hq.elim
    | _ => exact ⟨a', H', hq, hf', ht'⟩
  | label l => exact fun Q a H A w _ h hf ht => wp_label ⟨a, H, h, hf, ht⟩
  | ret => exact fun Q a H A w _ h hf ht => wp_ret ⟨a, H, h, hf, ht⟩
  | _ => exact fun Q a H A w _ h hf ht => h.elim

/-! ### Loads of whole variables -/
def isAggT (P : Program) (t : TypeId) : Option Bool := match P.underlying t with
  | some (.struct _) | some (.array _ _) => some true
  | some _ => some false
  | none => none

def ldV (P : Program) (H : Hp) (t : TypeId) : Value → Option Value
  | .pointer (some ⟨B, off, none⟩) => match H B with
    | some (.cells cs _ _) => match isAggT P t with
      | some true => match P.info? t with
        | some i => if off + i.size ≤ cs.length then some (.agg ((cs.drop off).take i.size).toArray) else none
        | none => none
      | some false => cs[off]?
      | none => none
    | _ => none
  | _ => none

theorem rd_bind (P : Program) {α β : Type} (s : Sem α) (f : α → Sem β) (H : Hp) : (s >>= f).rd P H = (s.rd P H).bind fun x => (f x).rd P H := by
  change (s.bind f).rd P H = _
  induction s with
  | pure a => rfl
  | load m a c ih =>
    simp only [Sem.bind, Sem.rd]
    split
    · split
      · split
        · exact ih _
        · rfl
      · rfl
    · rfl
  | program k ih => simp only [Sem.bind, Sem.rd]; exact ih _
  | mark m k ih => simp only [Sem.bind, Sem.rd]; exact ih
  | _ => rfl

theorem pr_bind (P : Program) {α β : Type} (s : Sem α) (f : α → Sem β) : (s >>= f).pr P = (s.pr P).bind fun x => (f x).pr P := by
  change (s.bind f).pr P = _
  induction s with
  | pure a => rfl
  | program k ih => simp only [Sem.bind, Sem.pr]; exact ih _
  | mark m k ih => simp only [Sem.bind, Sem.pr]; exact ih
  | _ => rfl

theorem add_off (B off n : Nat) : (⟨B, off, none⟩ : Addr).add n = ⟨B, off + n, none⟩ := by
  unfold Addr.add
  split
  · rename_i h; subst h; rfl
  · rfl

theorem rd_load {P : Program} {H : Hp} {B off : Nat} {cs : List Value} {e : TypeId} {rw : Bool} (hb : H B = some (.cells cs e rw)) (m : Mode) : (load ⟨B, off, none⟩ m).rd P H = cs[off]? := by
  simp only [load, Sem.rd, hb, Option.isNone_none, if_true]
  cases cs[off]? <;> rfl

theorem rd_loadCells {P : Program} {H : Hp} {B : Nat} {cs : List Value} {e : TypeId} {rw : Bool} (hb : H B = some (.cells cs e rw)) (off : Nat) : ∀ (n i : Nat) (acc : Array Value), off + i + n ≤ cs.length →
    (loadCellsFrom ⟨B, off, none⟩ i n acc).rd P H = some (acc ++ ((cs.drop (off + i)).take n).toArray) := by
  intro n
  induction n with
  | zero => intro i acc _; simp [loadCellsFrom, pure, Sem.rd]
  | succ n ih =>
    intro i acc hle
    unfold loadCellsFrom
    have hlt : off + i < cs.length := by omega
    rw [rd_bind, add_off, rd_load hb, List.getElem?_eq_getElem hlt, Option.bind_some, ih (i + 1) _ (by omega)]
    rw [List.drop_eq_getElem_cons hlt, List.take_succ_cons]
    congr 1
    apply Array.ext'
    simp [Nat.add_assoc]

theorem rd_program {P : Program} {H : Hp} : program.rd P H = some P := rfl
theorem rd_pure {P : Program} {H : Hp} {α : Type} (x : α) : (pure x : Sem α).rd P H = some x := rfl

theorem rd_typeInfo {P : Program} {H : Hp} {t : TypeId} {i : TypeInfo} (h : P.info? t = some i) : (typeInfo t).rd P H = some i := by
  simp only [typeInfo, rd_bind, rd_program, Option.bind_some, h]; rfl
theorem rd_underlying {P : Program} {H : Hp} {t : TypeId} {d : TypeDesc} (h : P.underlying t = some d) : (underlying t).rd P H = some d := by
  simp only [underlying, rd_bind, rd_program, Option.bind_some, h]; rfl
theorem rd_sizeOf {P : Program} {H : Hp} {t : TypeId} {i : TypeInfo} (h : P.info? t = some i) : (sizeOf t).rd P H = some i.size := by
  simp only [sizeOf, rd_bind, rd_typeInfo h, Option.bind_some]; rfl
theorem rd_isAgg {P : Program} {H : Hp} {t : TypeId} {b : Bool} (h : isAggT P t = some b) : (isAgg t).rd P H = some b := by
  unfold isAggT at h
  unfold isAgg
  split at h
  · rename_i fs hu; rw [rd_bind, rd_underlying hu]; exact h
  · rename_i n e hu; rw [rd_bind, rd_underlying hu]; exact h
  · rename_i d h1 h2 hu
    rw [rd_bind, rd_underlying hu, Option.bind_some]
    split
    · exact (h1 _ rfl).elim
    · exact (h2 _ _ rfl).elim
    · exact h
  · cases h

theorem rd_loadVar {P : Program} {H : Hp} {t : TypeId} {a : Addr} {v : Value} (h : ldV P H t (.pointer (some a)) = some v) : (loadVar t a).rd P H = some v := by
  obtain ⟨B, off, sp⟩ := a
  cases sp with
  | some s => simp [ldV] at h
  | none =>
    simp only [ldV] at h
    split at h
    · rename_i cs e rw hb
      split at h
      · rename_i hag
        split at h
        · rename_i i hi
          split at h
          · rename_i hle
            simp only [loadVar, rd_bind, rd_isAgg hag, Option.bind_some, if_true, rd_sizeOf hi, loadCells]
            rw [rd_loadCells hb off i.size 0 #[] (by omega)]
            simpa [rd_pure] using h
          · cases h
        · cases h
      · rename_i hag
        simp only [loadVar, rd_bind, rd_isAgg hag, Option.bind_some]
        exact (rd_load hb _).trans h
      · cases h
    · cases h

theorem rd_loadAt {P : Program} {H : Hp} {t : TypeId} {x v : Value} (h : ldV P H t x = some v) : (Instr.loadAt t x).rd P H = some v := by
  unfold Instr.loadAt
  rw [rd_bind]
  cases x with
  | pointer a =>
    cases a with
    | none => simp [ldV] at h
    | some a => exact rd_loadVar h
  | _ => simp [ldV] at h

/-! ### Results -/
def resV (P : Program) (a : Fr) (H : Hp) : ResultVar → Option Value
  | .tmp t => some (a t)
  | .cell p t => ldV P H t (a p)
def resVs (P : Program) (a : Fr) (H : Hp) : List ResultVar → Option (List Value)
  | [] => some []
  | r :: rs => match resV P a H r, resVs P a H rs with
    | some v, some vs => some (v :: vs)
    | _, _ => none
def tupV : List Value → Value
  | [v] => v
  | vs => .tuple vs.toArray
def resP (P : Program) (fn : Func) (K : Value → Hp → Prop) (a : Fr) (H : Hp) : Prop :=
  ∃ vs, resVs P a H fn.results.toList = some vs ∧ ∃ H', Hsub H' H ∧ K (tupV vs) H'
def retQ (P : Program) (fn : Func) (K : Value → Hp → Prop) : Exit → Fr → Hp → Prop
  | Exit.normal => resP P fn K
  | Exit.ret => resP P fn K
  | _ => fun _ _ => False

theorem rd_mapM_list {P : Program} {H : Hp} {f : ResultVar → Sem Value} {g : ResultVar → Option Value} (hfg : ∀ r v, g r = some v → (f r).rd P H = some v) :
    ∀ (l : List ResultVar) (vs : List Value), (match l with | l => l.foldr (fun r acc => (g r).bind fun v => acc.map (v :: ·)) (some [])) = some vs → (l.mapM f).rd P H = some vs := by
  intro l
  induction l with
  | nil => intro vs h; simp at h; subst h; rfl
  | cons r l ih =>
    intro vs h
    simp only [List.foldr_cons] at h
    cases hg : g r with
    | none => rw [hg] at h; cases h
    | some v =>
      rw [hg] at h
      simp only [Option.bind_some, Option.map_eq_some_iff] at h
      obtain ⟨vs', h', rfl⟩ := h
      rw [List.mapM_cons, rd_bind, hfg r v hg, Option.bind_some, rd_bind, ih vs' h']
      rfl

theorem resVs_fold {P : Program} {a : Fr} {H : Hp} : ∀ (l : List ResultVar), resVs P a H l = l.foldr (fun r acc => (resV P a H r).bind fun v => acc.map (v :: ·)) (some []) := by
  intro l
  induction l with
  | nil => rfl
  | cons r l ih =>
    simp only [resVs, List.foldr_cons, ← ih]
    cases resV P a H r <;> cases resVs P a H l <;> rfl

theorem results_run {P : Program} {fn : Func} {n : Nat} {a : Fr} {A : Act} {H : Hp} {own : Nat → Prop} {w : World} {vs : List Value} (hf : FrOk n a A) (hs : Sat own H w) (h : resVs P a H fn.results.toList = some vs) :
    (results fn A.tmps).run P w = .ok (tupV vs) w := by
  refine rd_run P hs _ _ ?_
  unfold results
  rw [rd_bind, Array.mapM_eq_mapM_toList]
  rw [resVs_fold] at h
  have key : ∀ f : ResultVar → Sem Value, (∀ r v, resV P a H r = some v → (f r).rd P H = some v) → (fn.results.toList.mapM f).rd P H = some vs := fun f hf => rd_mapM_list hf _ _ h
  rw [map_eq_pure_bind, rd_bind, key]
  · simp only [Option.bind_some, rd_pure]
    match vs with
    | [] => rfl
    | [v] => rfl
    | _ :: _ :: _ => simp [tupV]
  · intro r v hr
    cases r with
    | tmp t => simp only [resV, Option.some.injEq] at hr; subst hr; rw [← hf.get t]; rfl
    | cell p t =>
      simp only [resV] at hr
      simp only [rd_bind]
      rw [hf.get p]
      cases hp : a p with
      | pointer ad =>
        cases ad with
        | none => rw [hp] at hr; simp [ldV] at hr
        | some ad =>
          rw [hp] at hr
          exact rd_loadVar hr
      | _ => rw [hp] at hr; simp [ldV] at hr

def frameOf (args : List Value) : Fr := fun t => args.getD t undef

/-- A contract out of the code. -/
theorem callS_intro {P : Program} (hm : P.follows .mixedOrders = true) {f : FuncId} {fn : Func} {c : Code} {args : Array Value} {H : Hp} {K : Value → Hp → Prop} (hf : P.funcs[f]? = some fn) (hb : fn.body = some c)
    (hn : (fn.name == "runtime.NumGoroutine") = false) (hc : codeOk fn.ntmps c = true) (hsz : args.size ≤ fn.ntmps) (h : ev P c (retQ P fn K) (frameOf args.toList) H) : CallS P f args H K := by
  refine ⟨⟨fn, hf, by rw [hb]; rfl, hn⟩, fun own w hs => ?_⟩
  refine calls_of_wp hf hb (wp_mono (ev_code hm (n := fn.ntmps) c _ _ H _ w hc h ⟨?_, fun t => ?_, rfl⟩ (To.refl hs)) fun e A' w' hq => ?_)
  · simp; omega
  · simp only [frameOf, Array.getD_eq_getD_getElem?, List.getD_eq_getElem?_getD]
    by_cases ht : t < args.size
    · rw [Array.getElem?_append_left ht, Array.getElem?_toList]
    · rw [Array.getElem?_append_right (by omega)]
      have h1 : args.toList[t]? = none := by simp; omega
      rw [h1]
      by_cases h2 : t - args.size < fn.ntmps - args.size
      · simp [h2]
      · simp [h2]
  · obtain ⟨a, H', hq, hf', ht⟩ := hq
    have fin : resP P fn K a H' → A'.defers = [] ∧ ∃ v, (results fn A'.tmps).run P w' = .ok v w' ∧ ∃ v_1 H', Ending.returned v = .returned v_1 ∧ K v_1 H' ∧ To own w H w' H' := fun ⟨vs, h1, H'', h2, h3⟩ =>
      ⟨hf'.defers, tupV vs, results_run hf' ht.sat h1, tupV vs, H'', rfl, h3, ht.sub h2⟩
    cases e with
    | normal => exact fin hq
    | ret => exact fin hq
    | _ => exact hq.elim

end Go.Sl
