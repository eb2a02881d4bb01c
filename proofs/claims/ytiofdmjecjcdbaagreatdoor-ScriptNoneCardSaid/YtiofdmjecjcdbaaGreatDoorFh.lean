/- Maps whose keys are whole numbers. Steps of the walk for maps. Great regions: what comes before is reckoned step by step. One step of a walk, whichever it is: what is left to be shown is found by the first law that fits: lemmas; each with the conditions that it states. -/
import Derived.Test.YtiofdmjecjcdbaaGreatDoorFg
set_option linter.unusedVariables false
set_option linter.unusedSimpArgs false
namespace Go.Sl
structure MEnt where
  k : Int
  v : Value
  b : Nat
def meV (e : MEnt) : MapEntry := { key := .int .i64 e.k, val := e.v, born := e.b }
/-- a map: its entries, its clock -/
def mp (r : Nat) (es : List MEnt) (ck : Nat) : HP := fun H => H r = some (.obj (.map (es.map meV).toArray ck))
/-- an iterator over a map -/
def mit (r m since : Nat) (seen : List Nat) (last : Nat) : HP := fun H => H r = some (.obj (.mapIter (some m) since seen.toArray last))
def mfind (n : Int) : List MEnt → Nat → Option (Nat × Value)
  | [], _ => none
  | e :: es, i => if n == e.k then some (i, e.v) else mfind n es (i + 1)
def mput (n : Int) (v : Value) : List MEnt → List MEnt
  | [] => []
  | e :: es => if n == e.k then ⟨e.k, v, e.b⟩ :: es else e :: mput n v es
def mdel (n : Int) : List MEnt → List MEnt
  | [] => []
  | e :: es => if n == e.k then es else e :: mdel n es
theorem mfind_lt {n : Int} : ∀ {es : List MEnt} {i j : Nat} {v : Value}, mfind n es i = some (j, v) → i ≤ j ∧ j - i < es.length ∧ ∃ e, es[j - i]? = some e ∧ e.k = n ∧ e.v = v
  | [], _, _, _, h => by cases h
  | e :: es, i, j, v, h => by
    unfold mfind at h
    split at h
    · rename_i he
      cases h
      have := eq_of_beq he
      exact ⟨Nat.le_refl _, by simp, e, by simp, this.symm, rfl⟩
    · obtain ⟨h1, h2, e', h3, h4, h5⟩ := mfind_lt h
      refine ⟨by omega, by simp; omega, e', ?_, h4, h5⟩
      rw [show j - i = (j - (i + 1)) + 1 by omega]
      simpa using h3
theorem mput_modify {n : Int} {w : Value} : ∀ {es : List MEnt} {i j : Nat} {v : Value}, mfind n es i = some (j, v) → (es.map meV).modify (j - i) (fun e => { key := .int .i64 n, val := w, born := e.born }) = (mput n w es).map meV
  | [], _, _, _, h => by cases h
  | e :: es, i, j, v, h => by
    have hj := (mfind_lt h).1
    unfold mfind at h
    split at h
    · rename_i he
      cases h
      have := eq_of_beq he
      subst this
      simp [mput, meV]
    · rename_i he
      have h1 := (mfind_lt h).1
      rw [show j - i = (j - (i + 1)) + 1 by omega]
      simp only [List.map_cons, List.modify_succ_cons, mput, he]
      rw [mput_modify h]
      rfl
theorem mdel_erase {n : Int} : ∀ {es : List MEnt} {i j : Nat} {v : Value}, mfind n es i = some (j, v) → (es.map meV).eraseIdx (j - i) = (mdel n es).map meV
  | [], _, _, _, h => by cases h
  | e :: es, i, j, v, h => by
    unfold mfind at h
    split at h
    · rename_i he
      cases h
      simp [mdel, he]
    · rename_i he
      have h1 := (mfind_lt h).1
      rw [show j - i = (j - (i + 1)) + 1 by omega]
      simp only [List.map_cons, List.eraseIdx_cons_succ, mdel, he]
      rw [mdel_erase h]
      rfl
theorem findNow_me {kd : IntKind} {n : Int} : ∀ (es : List MEnt) (i : Nat), Instr.findNow (.int kd) (.int .i64 n) (es.map meV) i = some (mfind n es i)
  | [], _ => rfl
  | e :: es, i => by
    simp only [List.map_cons, Instr.findNow, meV, Instr.sameNow, if_true, mfind]
    cases h : (n == e.k) with
    | true => rfl
    | false => simpa using findNow_me es (i + 1)
def mapT (P : Program) (t : TypeId) : Option TypeId := match P.underlying t with
  | some (.map kt et) => match P.underlying kt with
    | some (.int _) => some et
    | _ => none
  | _ => none
theorem mapT_spec {P : Program} {t et : TypeId} (h : mapT P t = some et) : ∃ kt kd, P.underlying t = some (.map kt et) ∧ P.underlying kt = some (.int kd) := by
  unfold mapT at h
  split at h
  · split at h
    · cases h; exact ⟨_, _, ‹_›, ‹_›⟩
    · cases h
  · cases h
def zeroT (P : Program) (t : TypeId) : Option Value := match P.info? t with
  | some i => i.zero
  | none => none
section
variable {P : Program} {H : Hp}
theorem zeroT_pr {t : TypeId} {z : Value} (h : zeroT P t = some z) : (zeroValue t).pr P = some z := by
  unfold zeroT at h
  split at h
  · rename_i i hi
    simp only [zeroValue, pr_bind, pr_typeInfo hi, Option.bind_some, h]; rfl
  · cases h
theorem pr_checkKey {b : Bool} {t : TypeId} {kd : IntKind} {n : Int} (h : P.underlying t = some (.int kd)) : (Instr.checkKey b 10000 t (.int .i64 n)).pr P = some () := by
  rw [show (10000 : Nat) = 9999 + 1 from rfl, Instr.checkKey, pr_bind, pr_underlying h]
  rfl
theorem pr_findKey {t : TypeId} {kd : IntKind} {n : Int} {es : List MEnt} (h : P.underlying t = some (.int kd)) : (Instr.findKey t (.int .i64 n) (es.map meV)).pr P = some (mfind n es 0) := by
  unfold Instr.findKey
  rw [pr_bind, pr_underlying h]
  simp only [Option.bind_some, findNow_me]
  rfl
end
section
variable {P : Program} {a : Fr} {H : Hp} {k : Value → Hp → Prop} {d : Option Tmp} {ty : TypeId} {pos : String} {after : Array Edge} {g : Option (Nat × Bool)} {t : TypeId} {x y z : Operand}
theorem eo_makeMap (hk : ∀ r, H r = none → k (.map (some r)) (hupd H r (.obj (.map #[] 0)))) : evOp P ⟨d, .makeMap t none, ty, pos, after, g⟩ a H k := by
  refine evOp_of ?_
  simp only [execOp, Instr.makeMap, ev_bind', Option.map_none]
  intro r hr
  exact hk r hr
def okV (ok : Bool) (v : Value) (b : Bool) : Value := if ok then .tuple #[v, .bool b] else v
def lookV (ok : Bool) (zv : Value) : Option (Nat × Value) → Value
  | some (_, v) => okV ok v true
  | none => okV ok zv false
theorem eo_lookup {r ck : Nat} {es : List MEnt} {et : TypeId} {n : Int} {zv : Value} {ok : Bool} (hm : mapT P t = some et) (hz : zeroT P et = some zv) (hx : opd a x = .map (some r)) (hy : opd a y = .int .i64 n) (hH : H r = some (.obj (.map (es.map meV).toArray ck)))
    (hk : k (lookV ok zv (mfind n es 0)) H) : evOp P ⟨d, .lookup t x y ok, ty, pos, after, g⟩ a H k := by
  obtain ⟨kt, kd, h1, h2⟩ := mapT_spec hm
  refine evOp_of ?_
  simp only [execOp, hx, hy, Instr.lookup, ev_bind']
  rw [ev_pr_eq (pr_underlying h1)]
  simp only [ev_bind']
  refine ⟨_, hH, ?_⟩
  simp only [Sem.ev]
  rw [pure_bind, ev_bind', ev_pr_eq (pr_checkKey h2), ev_bind', ev_pr_eq (pr_findKey h2)]
  cases hf : mfind n es 0 with
  | some p =>
    rw [hf] at hk
    cases ok <;> exact hk
  | none =>
    rw [hf] at hk
    simp only [ev_bind']
    rw [ev_pr_eq (zeroT_pr hz)]
    cases ok <;> exact hk
theorem sameBits_int (j : IntKind) (n : Int) : Instr.sameBits 10000 (.int j n) (.int j n) = true := by
  rw [show (10000 : Nat) = 9999 + 1 from rfl]
  simp [Instr.sameBits]
theorem eo_mapUpdate {r ck : Nat} {es : List MEnt} {et : TypeId} {n : Int} {v : Value} (hm : mapT P t = some et) (hx : opd a x = .map (some r)) (hy : opd a y = .int .i64 n) (hv : opd a z = v) (hH : H r = some (.obj (.map (es.map meV).toArray ck)))
    (hk : k undef (hupd H r (.obj (match mfind n es 0 with | some _ => Obj.map ((mput n v es).map meV).toArray ck | none => Obj.map ((es ++ [(⟨n, v, ck⟩ : MEnt)]).map meV).toArray (ck + 1))))) : evOp P ⟨d, .mapUpdate t x y z, ty, pos, after, g⟩ a H k := by
  obtain ⟨kt, kd, h1, h2⟩ := mapT_spec hm
  refine evOp_of ?_
  simp only [execOp, hx, hy, hv, Instr.mapUpdate, ev_bind']
  rw [ev_pr_eq (pr_underlying h1)]
  simp only [ev_bind']
  refine ⟨_, hH, ?_⟩
  simp only [Sem.ev, ev_bind']
  rw [ev_pr_eq (pr_checkKey h2), ev_pr_eq (pr_findKey h2)]
  cases hf : mfind n es 0 with
  | some p =>
    obtain ⟨j, w⟩ := p
    rw [hf] at hk
    obtain ⟨_, _, e, he, hek, _⟩ := mfind_lt hf
    simp only [Nat.sub_zero] at he
    simp only [ev_bind']
    have hkey : ((Option.map (fun e => MapEntry.key e) ((List.map meV es).toArray[j]?)).getD (.int .i64 n)) = .int .i64 n := by
      simp [he, meV, hek]
    rw [hkey]
    rw [ev_pr_eq (show (Instr.keyThatStays (.int .i64 n) (.int .i64 n)).pr P = some (.int .i64 n) by unfold Instr.keyThatStays; rw [sameBits_int]; rfl)]
    refine ⟨⟨_, hH⟩, rfl, ?_⟩
    have hmod := mput_modify (w := v) hf
    rw [Nat.sub_zero] at hmod
    have e1 : (List.map meV es).toArray.modify j (fun e => { key := .int .i64 n, val := v, born := e.born }) = ((mput n v es).map meV).toArray := by
      apply Array.ext'
      simpa using hmod
    rw [e1]
    exact hk
  | none =>
    rw [hf] at hk
    refine ⟨⟨_, hH⟩, rfl, ?_⟩
    have e1 : (List.map meV es).toArray.push { key := .int .i64 n, val := v, born := ck } = ((es ++ [(⟨n, v, ck⟩ : MEnt)]).map meV).toArray := by
      apply Array.ext'
      simp [meV]
    rw [e1]
    exact hk
theorem eo_delete {r ck : Nat} {es : List MEnt} {et ts1 : TypeId} {n : Int} (hm : mapT P t = some et) (hx : opd a x = .map (some r)) (hy : opd a y = .int .i64 n) (hH : H r = some (.obj (.map (es.map meV).toArray ck)))
    (hk : k (.tuple #[]) (hupd H r (.obj (.map ((mdel n es).map meV).toArray ck)))) : evOp P ⟨d, .call { callee := .builtin .delete, args := #[x, y], argTypes := #[t, ts1] }, ty, pos, after, g⟩ a H k := by
  obtain ⟨kt, kd, h1, h2⟩ := mapT_spec hm
  refine evOp_of ?_
  simp only [execOp, resolve, List.map_toArray, List.map_cons, List.map_nil, hx, hy]
  rw [ev_bind', ev_pr_eq (show (pure _ : Sem Deferred).pr P = some _ from rfl)]
  simp only [invoke, builtin, ev_bind']
  unfold Builtin.delete_
  simp only [List.getElem?_toArray, List.getElem?_cons_zero, List.getElem?_cons_succ, ev_bind']
  rw [ev_pr_eq (pr_underlying h1)]
  simp only [ev_bind']
  refine ⟨_, hH, ?_⟩
  simp only [Sem.ev, ev_bind']
  rw [ev_pr_eq (pr_checkKey h2), ev_pr_eq (pr_findKey h2)]
  cases hf : mfind n es 0 with
  | some p =>
    obtain ⟨j, w⟩ := p
    refine ⟨⟨_, hH⟩, rfl, ?_⟩
    have hmod := mdel_erase hf
    rw [Nat.sub_zero] at hmod
    have e1 : (List.map meV es).toArray.eraseIdxIfInBounds j = ((mdel n es).map meV).toArray := by
      apply Array.ext'
      rw [← hmod]
      simp
    rw [e1]
    exact hk
  | none =>
    refine ⟨⟨_, hH⟩, rfl, ?_⟩
    have e1 : mdel n es = es := by
      have key : ∀ (es : List MEnt) (i : Nat), mfind n es i = none → mdel n es = es := by
        intro es
        induction es with
        | nil => intro _ _; rfl
        | cons e es ih =>
          intro i h
          unfold mfind at h
          split at h
          · cases h
          · rename_i he
            simp only [mdel, he]
            rw [ih _ h]
            rfl
      exact key es 0 hf
    rw [e1] at hk
    exact hk
theorem eo_range {r ck : Nat} {es : List MEnt} {et : TypeId} (hm : mapT P t = some et) (hx : opd a x = .map (some r)) (hH : H r = some (.obj (.map (es.map meV).toArray ck)))
    (hk : ∀ i, H i = none → k (.pointer (some ⟨i, 0, none⟩)) (hupd H i (.obj (.mapIter (some r) ck #[] ck)))) : evOp P ⟨d, .range t x, ty, pos, after, g⟩ a H k := by
  obtain ⟨kt, kd, h1, h2⟩ := mapT_spec hm
  refine evOp_of ?_
  simp only [execOp, Instr.range, hx, ev_bind']
  rw [ev_pr_eq (pr_underlying h1)]
  simp only [ev_bind']
  refine ⟨_, hH, ?_⟩
  simp only [Sem.ev]
  intro i hi
  exact hk i hi
theorem ev_chooseN {n : Nat} {q : Nat → Hp → Prop} (hn : 1 ≤ n) (h : ∀ j, j < n → q j H) : (choose (.mapNext n)).ev P H q := by
  unfold choose
  simp only [Sem.ev]
  split
  · exact h 0 (by omega)
  · exact fun t => h _ (Nat.mod_lt _ (by omega))
/-- what a range over a map may give next: an entry not seen yet; or that it is over, if all that were there at its begin are seen -/
theorem eo_next {i r since last ck : Nat} {es : List MEnt} {seen : List Nat} (hx : opd a x = .pointer (some ⟨i, 0, none⟩)) (hI : H i = some (.obj (.mapIter (some r) since seen.toArray last))) (hH : H r = some (.obj (.map (es.map meV).toArray ck)))
    (hold : ∀ e ∈ es, e.b < since)
    (h1 : ∀ e ∈ es, e.b ∉ seen → k (.tuple #[.bool true, .int .i64 e.k, e.v]) (hupd H i (.obj (.mapIter (some r) since (seen ++ [e.b]).toArray ck))))
    (h0 : (∀ e ∈ es, e.b ∈ seen) → k (.tuple #[.bool false]) H) (hlast : seen = [] ∨ es = [] ∨ ∃ e ∈ es, e.b < last) : evOp P ⟨d, .next x false, ty, pos, after, g⟩ a H k := by
  refine evOp_of ?_
  simp only [execOp, Instr.next, hx, ev_bind']
  refine ⟨_, hI, ?_⟩
  simp only [Sem.ev, ev_bind']
  refine ⟨_, hH, ?_⟩
  simp only [Sem.ev]
  have hcond : ¬ ((!seen.toArray.isEmpty && !(List.map meV es).toArray.isEmpty && (List.map meV es).toArray.all fun x => decide (x.born ≥ last)) = true) := by
    intro h
    rcases hlast with rfl | rfl | ⟨e, he, hl⟩
    · simp at h
    · simp at h
    · simp only [Bool.and_eq_true, Array.all_eq_true] at h
      obtain ⟨j, hj, hje⟩ := List.mem_iff_getElem.1 he
      have h3 := h.2 j (by simpa using hj)
      simp [meV, hje] at h3
      omega
  rw [if_neg hcond]
  have hA : Array.filter (fun x => decide (x.born < since)) (Array.filter (fun e => !seen.toArray.contains e.born) (List.map meV es).toArray) = ((es.filter fun e => !seen.contains e.b).map meV).toArray := by
    apply Array.ext'
    simp only [Array.toList_filter]
    rw [List.filter_map, List.filter_map, List.filter_filter]
    congr 1
    apply List.filter_congr
    intro e he
    have := hold e he
    have hd : decide ((meV e).born < since) = true := decide_eq_true this
    simp only [Function.comp, hd, Bool.true_and]
    simp [meV]
  have hB : Array.filter (fun x => decide (x.born ≥ since)) (Array.filter (fun e => !seen.toArray.contains e.born) (List.map meV es).toArray) = #[] := by
    apply Array.ext'
    simp only [Array.toList_filter]
    rw [List.filter_map, List.filter_map, List.filter_filter]
    have : List.filter (fun a => ((fun x => decide (x.born ≥ since)) ∘ meV) a && ((fun e => !seen.toArray.contains e.born) ∘ meV) a) es = [] := by
      rw [List.filter_eq_nil_iff]
      intro e he
      have := hold e he
      have hd : decide ((meV e).born ≥ since) = false := decide_eq_false (Nat.not_le.2 this)
      simp [Function.comp, hd]
    rw [this]
    rfl
  simp only [hA, hB]
  generalize hL : (es.filter fun e => !seen.contains e.b) = L
  have hmem : ∀ e ∈ L, e ∈ es ∧ e.b ∉ seen := by
    intro e he
    rw [← hL] at he
    simpa using List.mem_filter.1 he
  rw [ev_bind']
  cases L with
  | nil =>
    have hc : ((if ((List.map meV []).toArray).isEmpty = true then #[none] else #[]) ++ Array.map some ((List.map meV []).toArray ++ #[]) : Array (Option MapEntry)) = #[none] := by
      apply Array.ext'
      simp
    rw [hc]
    refine ev_chooseN (n := 1) (by omega) fun j hj => ?_
    obtain rfl : j = 0 := by omega
    refine h0 fun e he => ?_
    by_cases hs : e.b ∈ seen
    · exact hs
    · have : e ∈ es.filter fun e => !seen.contains e.b := List.mem_filter.2 ⟨he, by simpa using hs⟩
      rw [hL] at this
      cases this
  | cons e0 L =>
    have hc : ((if ((List.map meV (e0 :: L)).toArray).isEmpty = true then #[none] else #[]) ++ Array.map some ((List.map meV (e0 :: L)).toArray ++ #[]) : Array (Option MapEntry)) = ((e0 :: L).map fun e => some (meV e)).toArray := by
      apply Array.ext'
      simp
    rw [hc]
    refine ev_chooseN (n := (((e0 :: L).map fun e => some (meV e)).toArray).size) (by simp) fun j hj => ?_
    have hj2 : j < (e0 :: L).length := by simpa using hj
    have hg : ((e0 :: L).map fun e => some (meV e)).toArray[j]? = some (some (meV (e0 :: L)[j])) := by
      rw [List.getElem?_toArray, List.getElem?_map, List.getElem?_eq_getElem hj2]
      rfl
    rw [hg]
    obtain ⟨m1, m2⟩ := hmem _ (List.getElem_mem hj2)
    refine ⟨⟨_, hI⟩, rfl, ?_⟩
    have := h1 _ m1 m2
    have e2 : seen.toArray.push (meV (e0 :: L)[j]).born = (seen ++ [((e0 :: L)[j]).b]).toArray := by
      apply Array.ext'; simp [meV]
    rw [e2]
    exact this
/-- the entry that the iterator stands at -/
theorem eo_entry {i r since ck : Nat} {es : List MEnt} {seen : List Nat} {b : Nat} {e : MEnt} (hx : opd a x = .pointer (some ⟨i, 0, none⟩)) (hI : H i = some (.obj (.mapIter (some r) since (seen ++ [b]).toArray ck))) (hH : H r = some (.obj (.map (es.map meV).toArray ck)))
    (he : es.find? (fun e => e.b == b) = some e) (hk : k (.tuple #[.int .i64 e.k, e.v]) H) : evOp P ⟨d, .entry x, ty, pos, after, g⟩ a H k := by
  refine evOp_of ?_
  simp only [execOp, Instr.entry, hx, ev_bind']
  refine ⟨_, hI, ?_⟩
  simp only [Sem.ev]
  have hb : (seen ++ [b]).toArray.back? = some b := by simp
  rw [hb]
  simp only [ev_bind']
  refine ⟨_, hH, ?_⟩
  have hf : (List.map meV es).toArray.find? (fun x => x.born == b) = some (meV e) := by
    rw [List.find?_toArray, List.find?_map]
    have : ((fun x => x.born == b) ∘ meV) = fun e => e.b == b := by funext e; rfl
    rw [this, he]
    rfl
  have hne : (ck != ck) = false := by simp
  simp only [Sem.ev, hne, hf]
  exact hk
end
end Go.Sl

namespace Go.Sl
theorem sats_ownNew {r : Nat} {b : Blk} {C : List HP} {H : Hp} (hr : H r = none) (hs : Sats C H) : Sats ((fun H => H r = some b) :: C) (hupd H r b) :=
  ⟨hone r b, H, (fun B b x hb hx => by rw [(hone_eq hb).1, hr] at hx; cases hx), hone_le (hupd_same _ _ _) (Blk.le_refl _),
    (fun B b hb => ⟨b, by rw [hupd_ne _ _ (fun e => by subst e; rw [hr] at hb; cases hb)]; exact hb, b.le_refl⟩), hone_same _ _, hs⟩
section
variable {P : Program} {ops : Array Oper} {Q : Fr → List HP → Prop} {a : Fr} {C R : List HP} {c : Nat} {gd : Bool} {es : ET} {hist : List (List HP)} {d' : Tmp} {v : Value}
variable {ty : TypeId} {pos : String} {after : Array Edge} {g : Option (Nat × Bool)} {t : TypeId} {x y z : Operand}
theorem G_makeMap (h : ∀ r, spl gd (.map (some r)) fun v => evG P ops Q es (C :: hist) (upd a d' v) (mp r [] 0 :: C)) (hw : wantB ops ⟨some d', .makeMap t none, ty, pos, after, g⟩ a = true := by exact rfl) :
    evG P ops Q (ET.cons (c, gd, ⟨some d', .makeMap t none, ty, pos, after, g⟩) es) hist a C :=
  evG_o rfl hw fun _ hH => eo_makeMap fun r hr => ⟨_, sats_ownNew hr hH, h r⟩
end
end Go.Sl

namespace Go.Sl
def natH : Nat → Option Nat
  | 0 => some 0
  | m + 1 => some (m + 1)
theorem natH_eq {n m : Nat} (h : natH n = some m) : n = m := by
  cases n <;> (unfold natH at h; cases h; rfl)
def edgesF (acc : List Nat) (len : Nat) : List Edge → Nat → Option Nat
  | [], s => natH s
  | e :: l, s => match Region.binds .any e with
    | true => match natH (s ||| 2 ^ e.on ||| (if e.on < len then acc.getD (len - 1 - e.on) 0 else 0)) with
      | some n => edgesF acc len l n
      | none => none
    | false => edgesF acc len l s
def befF : List Oper → List Nat → Nat → Option (List Nat)
  | [], acc, _ => some acc
  | o :: l, acc, len => match edgesF acc len o.after.toList 0 with
    | some n => match natH (len + 1) with
      | some m => befF l (n :: acc) m
      | none => none
    | none => none
theorem getD_rev (acc : List Nat) (i : Nat) : (if i < acc.length then acc.getD (acc.length - 1 - i) 0 else 0) = acc.reverse.toArray.getD i 0 := by
  rw [Array.getD_eq_getD_getElem?, List.getElem?_toArray]
  by_cases h : i < acc.length
  · rw [if_pos h, List.getElem?_reverse h, List.getD_eq_getElem?_getD]
  · rw [if_neg h, List.getElem?_eq_none (by simpa using h)]
    rfl
theorem edgesF_eq {acc : List Nat} : ∀ {l : List Edge} {s n : Nat}, edgesF acc acc.length l s = some n → l.foldl (fun s e => if Region.binds .any e then s ||| 2 ^ e.on ||| acc.reverse.toArray.getD e.on 0 else s) s = n
  | [], s, n, h => natH_eq h
  | e :: l, s, n, h => by
    unfold edgesF at h
    rw [List.foldl_cons]
    split at h
    · rename_i hb
      split at h
      · rename_i k hk
        have := natH_eq hk
        rw [getD_rev] at this
        rw [if_pos hb, this]
        exact edgesF_eq h
      · cases h
    · rename_i hb
      rw [if_neg (by rw [hb]; simp)]
      exact edgesF_eq h
theorem befF_eq : ∀ {l : List Oper} {acc r : List Nat}, befF l acc acc.length = some r → l.foldl (fun acc o => acc.push (o.after.foldl (fun s e => if Region.binds .any e then s ||| 2 ^ e.on ||| acc.getD e.on 0 else s) 0)) acc.reverse.toArray = r.reverse.toArray
  | [], acc, r, h => by cases h; rfl
  | o :: l, acc, r, h => by
    unfold befF at h
    split at h
    · rename_i n hn
      split at h
      · rename_i m hm
        have e1 := edgesF_eq hn
        have e2 := natH_eq hm
        subst e2
        rw [List.foldl_cons, ← Array.foldl_toList, e1]
        have := befF_eq (acc := n :: acc) h
        rw [← this]
        congr 1
        simp
      · cases h
    · cases h
theorem before_of {ops : Array Oper} {r : List Nat} (h : befF ops.toList [] 0 = some r) : Region.before ops = r.reverse.toArray := by
  unfold Region.before
  rw [← Array.foldl_toList]
  exact befF_eq (acc := []) h
section
variable {P : Program} {Q : Exit → Fr → List HP → Prop} {a : Fr} {C : List HP} {id : Nat} {ol : List Oper} {es : ET}
theorem c_drawB {l : List (Nat × Nat)} {bl br : List Nat} (hb : befF ol [] 0 = some br) (hr : br.reverse = bl) (hl : pairsF (canon P ol.toArray bl.toArray) = some l) (hc : canonOk P ol.toArray bl.toArray l = true) (he : entD ol.toArray l = some es)
    (h : evG P ol.toArray (Q .normal) es [] a C) : evC P (.region id ol.toArray true) Q a C := by
  have e : Region.before ol.toArray = bl.toArray := by rw [← hr]; exact before_of hb
  exact c_draw (by rw [e]; exact hl) (by rw [e]; exact hc) he h
end
end Go.Sl

namespace Go.Sl
theorem stp {X Y : Prop} (h : X) (hs : X → Y := by
  first
  | (show _ → thenC _ _ _ _ _; first | exact fun h => t_n h | exact fun h => t_r h | exact fun h => t_e h)
  | (show _ → inBlockC _ _ _ _ _; first | exact fun h => b_n h | exact fun h => b_r h | exact fun h => b_hit rfl h | exact fun h => b_miss rfl h)
  | (show _ → noGotoC _ _ _ _; first | exact fun h => g_n h | exact fun h => g_r h | exact fun h => g_e h)) : Y := hs h
theorem std {X Y : Prop} (h : X) (hs : X → Y := by
  show _ → evC _ _ _ _ _
  first | exact fun h => c_scope h | exact fun h => c_label h | exact fun h => c_draw (by exact rfl) (by decide +kernel) (by exact rfl) h | exact fun h => c_drawT (by exact rfl) (by decide +kernel) (by exact rfl) h) : Y := hs h
theorem brs {X Y : Prop} (h : X) (hs : X → Y := by
  show _ → Br _ _ _
  first | exact fun h => Br.t rfl h | exact fun h => Br.f rfl h | exact fun h => Br.t (beq_self_eq_true _) h | exact fun h => Br.f (not_beq_self _) h | exact fun h => Br.t (by assumption) h | exact fun h => Br.f (by assumption) h | exact fun h => Br.t (nb_f (by assumption)) h | exact fun h => Br.f (nb_t (by assumption)) h) : Y := hs h
theorem Br.mkN {b : Bool} {X Y p q : Prop} (hX : p → X) (hY : q → Y)
  (hp : b = true → p := by
    intro h
    first
    | (simp only [Bool.and_eq_true, Bool.or_eq_true, Bool.and_eq_false_iff, Bool.or_eq_false_iff, decide_eq_true_eq, decide_eq_false_iff_not, beq_iff_eq, bne_iff_ne, beq_eq_false_iff_ne, bne_eq_false_iff_eq, ne_eq, Bool.not_eq_true', Bool.not_eq_false', not_true_eq_false, not_false_eq_true, Int.not_lt, Int.not_le, gt_iff_lt, ge_iff_le] at h; exact h)
    | exact h)
  (hq : b = false → q := by
    intro h
    first
    | (simp only [Bool.and_eq_true, Bool.or_eq_true, Bool.and_eq_false_iff, Bool.or_eq_false_iff, decide_eq_true_eq, decide_eq_false_iff_not, beq_iff_eq, bne_iff_ne, beq_eq_false_iff_ne, bne_eq_false_iff_eq, ne_eq, Bool.not_eq_true', Bool.not_eq_false', not_true_eq_false, not_false_eq_true, Int.not_lt, Int.not_le, gt_iff_lt, ge_iff_le] at h; exact h)
    | exact h) : Br b X Y := Br.mk (fun h => hX (hp h)) (fun h => hY (hq h))
theorem entA {C C' : List HP} (he : Ent C C' := by ((iterate 30 (try (first | exact Ent.refl _ | exact Ent.nil | (apply Ent.pick; focus ((repeat (first | exact Pick.here | apply Pick.there)) <;> exact Pick.here)) | (apply Ent.pickP; focus ((repeat (first | exact pers_ro _ _ _ | exact pers_rrow _ _ _ | exact pers_pure _ | refine pers_sep ?_ ?_ | refine pers_ex fun _ => ?_)) <;> exact pers_pure _); focus ((repeat (first | exact Pick.here | apply Pick.there)) <;> exact Pick.here)) | (apply Ent.pure; focus (first | assumption | exact rfl | omega)) | apply Ent.nilrow' | apply Ent.ex | apply Ent.sep | apply Ent.drop))) <;> exact Ent.nil)) : Ent C C' := he
theorem viewA {α : Type} {C : List HP} {A : Option Addr} {E : Cod α} {xs : List α} (hv : View C A E xs := by ((repeat (first | exact view_row | exact view_rrow | exact view_pt | assumption | apply view_there)) <;> exact view_row)) : View C A E xs := hv
end Go.Sl

