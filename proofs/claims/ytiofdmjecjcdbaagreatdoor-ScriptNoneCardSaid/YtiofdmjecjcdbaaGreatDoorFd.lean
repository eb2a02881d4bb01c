/- Structs built and compared, arrays, slices made and appended to, conversions. append, and bytes and strings turned into each other. The walk's steps, second part (printed by a small program): lemmas; each with the conditions that it states. -/
import Derived.Test.YtiofdmjecjcdbaaGreatDoorFc
import Derived.Laws.StructEq
set_option linter.unusedVariables false
set_option linter.unusedSimpArgs false
namespace Go.Sl

/-! ### build -/
def placeF (P : Program) (t : TypeId) (i : Nat) : Option (Nat × Nat) := match P.underlying t with
  | some (.struct fs) => match fs[i]? with
    | some f => match P.info? f.type with
      | some inf => some (f.offset, inf.size)
      | none => none
    | none => none
  | some (.array _ e) => match P.info? e with
    | some inf => some (i * inf.size, inf.size)
    | none => none
  | _ => none
def fieldsOk (P : Program) (t : TypeId) : Bool := match P.underlying t with
  | some (.struct fs) => fs.toList.all fun f => (P.info? f.type).isSome
  | some (.array _ e) => (P.info? e).isSome
  | _ => false

def fillL (place : Nat → Option (Nat × Nat)) : List Value → List (Nat × Value) → Option (List Value)
  | cs, [] => some cs
  | cs, (i, v) :: rest => match place i with
    | none => none
    | some (off, sz) => if v.cells.toList.length = sz ∧ off + sz ≤ cs.length then match copyL (setF cs off v.cells.toList) with
      | some cs' => fillL place cs' rest
      | none => none
    else none

theorem fold_setAt : ∀ (l : List Value) (k off : Nat) (cs : Array Value), ((l.zipIdx k).foldl (fun cs (c, j) => cs.setIfInBounds (off + j) c) cs) = (setAt cs.toList (off + k) l).toArray := by
  intro l
  induction l with
  | nil => intro k off cs; simp [setAt]
  | cons v l ih =>
    intro k off cs
    simp only [List.zipIdx_cons, List.foldl_cons, setAt]
    rw [ih]
    congr 1
    simp [Nat.add_assoc]

theorem fill_fillL {p' p : Nat → Option (Nat × Nat)} (hp : ∀ i x, p' i = some x → p i = some x) : ∀ (parts : List (Nat × Value)) (cs r : List Value), fillL p' cs parts = some r → Instr.fill p cs.toArray parts = some r.toArray := by
  intro parts
  induction parts with
  | nil => intro cs r h; cases h; rfl
  | cons x parts ih =>
    obtain ⟨i, v⟩ := x
    intro cs r h
    simp only [fillL] at h
    split at h
    · cases h
    · rename_i off sz hi
      split at h
      · rename_i hc
        simp only [Instr.fill, hp i _ hi]
        have h1 : v.cells.size = sz := by simpa using hc.1
        have h2 : ¬ (off + v.cells.size > cs.toArray.size) := by simp; omega
        rw [if_neg (by simp [h1]; omega)]
        have : (v.cells.zipIdx.foldl (fun cs (c, j) => cs.setIfInBounds (off + j) c) cs.toArray) = (setAt cs off v.cells.toList).toArray := by
          rw [← Array.foldl_toList, Array.toList_zipIdx]
          exact fold_setAt v.cells.toList 0 off cs.toArray
        rw [this]
        split at h
        · rename_i cs' hcs'
          rw [← setF_eq, copyL_eq hcs']
          exact ih _ _ h
        · cases h
      · cases h

def partsV (a : Fr) : List (Nat × Operand) → Option (List (Nat × Value))
  | [] => some []
  | (i, x) :: xs => match force (opd a x), partsV a xs with
    | some v, some vs => some ((i, v) :: vs)
    | _, _ => none
theorem partsV_eq {a : Fr} : ∀ {xs : List (Nat × Operand)} {vs : List (Nat × Value)}, partsV a xs = some vs → xs.map (fun (i, x) => (i, opd a x)) = vs := by
  intro xs
  induction xs with
  | nil => intro vs h; cases h; rfl
  | cons x xs ih =>
    obtain ⟨i, x⟩ := x
    intro vs h
    simp only [partsV] at h
    split at h
    · rename_i v vs' h1 h2; cases h; rw [List.map_cons, ih h2, ← force_eq h1]
    · cases h

def buildV (P : Program) (t : TypeId) (parts : List (Nat × Value)) : Option Value :=
  if fieldsOk P t = true then match zeroL P t with
    | some zs => match fillL (placeF P t) zs parts with
      | some cs => match copyL cs with
        | some cs => some (.agg cs.toArray)
        | none => none
      | none => none
    | none => none
  else none

theorem pr_mapM_list {P : Program} {α β : Type} {f : α → Sem β} {g : α → β} {l : List α} (h : ∀ x ∈ l, (f x).pr P = some (g x)) : (l.mapM f).pr P = some (l.map g) := by
  induction l with
  | nil => rfl
  | cons x l ih =>
    rw [List.mapM_cons, pr_bind, h x (by simp), Option.bind_some, pr_bind, ih (fun y hy => h y (by simp [hy]))]
    rfl

theorem zeroL_spec {P : Program} {t : TypeId} {zs : List Value} (h : zeroL P t = some zs) : ∃ z, (zeroValue t).pr P = some z ∧ z.cells.toList = zs := by
  unfold zeroL at h
  split at h
  · rename_i i hi
    split at h
    · rename_i z hz
      exact ⟨z, by simp only [zeroValue, pr_bind, pr_typeInfo hi, Option.bind_some, hz]; rfl, by simpa using h⟩
    · cases h
  · cases h

theorem pr_build {P : Program} {t : TypeId} {parts : Array (Nat × Value)} {v : Value} (h : buildV P t parts.toList = some v) : (Instr.build t parts).pr P = some v := by
  unfold buildV at h
  split at h
  · rename_i hok
    split at h
    · rename_i zs hzs
      split at h
      · rename_i cs hfill
        split at h
        · rename_i cs' hcs
          cases h
          obtain ⟨z, hz, hzl⟩ := zeroL_spec hzs
          have hcs' := copyL_eq hcs
          subst hcs'
          unfold Instr.build
          rw [pr_bind, hz, Option.bind_some]
          unfold fieldsOk at hok
          have hza : z.cells = zs.toArray := by rw [← hzl]
          split at hok
          · rename_i fs hu
            rw [pr_bind, pr_underlying hu, Option.bind_some]
            simp only
            have hm : (fs.mapM fun f => (do pure (f.offset, ← sizeOf f.type) : Sem (Nat × Nat))).pr P = some (fs.toList.map fun f => (f.offset, ((P.info? f.type).map (·.size)).getD 0)).toArray := by
              rw [Array.mapM_eq_mapM_toList, map_eq_pure_bind, pr_bind, pr_mapM_list (g := fun f => (f.offset, ((P.info? f.type).map (·.size)).getD 0))]
              · rfl
              · intro f hf
                have := List.all_eq_true.1 hok f hf
                cases hi : P.info? f.type with
                | none => rw [hi] at this; cases this
                | some i => simp only [pr_bind, pr_sizeOf hi, Option.bind_some]; rfl
            rw [pr_bind, hm, Option.bind_some]
            have := fill_fillL (p := fun i => ((fs.toList.map fun f => (f.offset, ((P.info? f.type).map (·.size)).getD 0)).toArray)[i]?) (fun i x hx => by
              simp only [placeF, hu] at hx
              split at hx
              · rename_i f hf
                split at hx
                · rename_i inf hinf; cases hx; simp [hf, hinf]
                · cases hx
              · cases hx) _ _ _ hfill
            rw [hza, this]
            rfl
          · rename_i n e hu
            rw [pr_bind, pr_underlying hu, Option.bind_some]
            simp only
            have hpl : ∀ i, placeF P t i = match P.info? e with | some inf => some (i * inf.size, inf.size) | none => none := fun i => by simp only [placeF, hu]
            cases hi : P.info? e with
            | none => rw [hi] at hok; cases hok
            | some inf =>
              rw [pr_bind, pr_sizeOf hi, Option.bind_some]
              have := fill_fillL (p := fun i => some (i * inf.size, inf.size)) (fun i x hx => by rw [hpl, hi] at hx; exact hx) _ _ _ hfill
              rw [hza, this]
              rfl
          · cases hok
        · cases h
      · cases h
    · cases h
  · cases h

section
variable {P : Program} {a : Fr} {d : Option Tmp} {ty : TypeId} {pos : String} {after : Array Edge} {g : Option (Nat × Bool)} {t yt : TypeId} {x y z : Operand}
theorem pv_build {ps : Array (Nat × Operand)} {vs : List (Nat × Value)} {v : Value} (hps : partsV a ps.toList = some vs) (hv : buildV P t vs = some v) : pureV P ⟨d, .build t ps, ty, pos, after, g⟩ a = some v := by
  refine pureV_pr ?_
  have e : (ps.map fun (i, x) => (i, opd a x)).toList = vs := by rw [Array.toList_map]; exact partsV_eq hps
  simp only [execOp, pr_bind]
  rw [pr_build (v := v) (by rw [e]; exact hv)]
  rfl

/-! ### slices made of their elements -/
def elemOfS (P : Program) (t : TypeId) : Option TypeId := match P.underlying t with
  | some (.slice e) => some e
  | _ => none
theorem elemOfS_spec {e : TypeId} (h : elemOfS P t = some e) : P.underlying t = some (.slice e) := by
  unfold elemOfS at h; split at h
  · cases h; assumption
  · cases h

def bsCells (P : Program) (t : TypeId) (n : Nat) (parts : List (Nat × Value)) : Option (List Value) := match elemOfS P t with
  | some e => match infoSz P e, zeroL P e with
    | some sz, some zs => if n * sz ≤ 16777216 ∧ n * sz ≠ 0 then match fillL (fun i => some (i * sz, sz)) ((List.range (n * sz)).map fun i => (zs[i % zs.length]?).getD default) parts with
        | some cs => copyL cs
        | none => none
      else none
    | _, _ => none
  | none => none

theorem eo_buildSlice {ps : Array (Nat × Operand)} {n : Nat} {vs : List (Nat × Value)} {cs : List Value} {e : TypeId} {H : Hp} {k : Value → Hp → Prop} (hps : partsV a ps.toList = some vs) (he : elemOfS P t = some e) (hc : bsCells P t n vs = some cs)
    (hk : ∀ r, H r = none → k (.slice (some ⟨r, 0, none⟩) n n) (hupd H r (.cells cs e true))) : evOp P ⟨d, .buildSlice t n ps, ty, pos, after, g⟩ a H k := by
  have hu := elemOfS_spec he
  have epar : (ps.map fun (i, x) => (i, opd a x)).toList = vs := by rw [Array.toList_map]; exact partsV_eq hps
  unfold bsCells at hc
  rw [he] at hc
  simp only at hc
  split at hc
  · rename_i sz zs hsz hzs
    split at hc
    · rename_i hle
      split at hc
      · rename_i cs' hfill
        have hcs := copyL_eq hc
        subst hcs
        obtain ⟨inf, hi, rfl⟩ := infoSz_spec hsz
        obtain ⟨z, hz, hzl⟩ := zeroL_spec hzs
        refine evOp_of ?_
        simp only [execOp, Instr.buildSlice, ev_bind']
        rw [ev_pr_eq (pr_underlying hu)]
        simp only [ev_bind']
        rw [ev_pr_eq (pr_sizeOf hi), if_neg (by have := hle.1; omega)]
        rw [if_neg hle.2]
        simp only [ev_bind']
        rw [ev_pr_eq hz]
        have hb : ((Array.range (n * inf.size)).map fun i => z.cells[i % z.cells.size]!) = ((List.range (n * inf.size)).map fun i => (zs[i % zs.length]?).getD default).toArray := by
          apply Array.ext'
          rw [Array.toList_map, Array.toList_range, ← hzl]
          apply List.map_congr_left
          intro i _
          simp [getElem!_def, Array.getElem?_toList]
          rfl
        have hf := fill_fillL (p := fun i => some (i * inf.size, inf.size)) (fun _ _ h => h) _ _ _ hfill
        rw [ev_pr_eq (show (pure z.cells : Sem (Array Value)).pr P = some z.cells from rfl), hb]
        rw [show (Array.map (fun x => (x.1, opd a x.2)) ps).toList = vs from epar, hf]
        simp only [ev_bind', newRow]
        intro r hr
        exact ⟨rfl, hk r hr⟩
      · cases hc
    · cases hc
  · cases hc

/-! ### arrays -/
def arrT (P : Program) (t : TypeId) : Option (Nat × Nat) := match P.underlying t with
  | some (.array n e) => match P.info? e with
    | some i => some (n, i.size)
    | none => none
  | _ => none
theorem pv_indexA {B off n sz : Nat} {k : IntKind} {j : Int} (ht : arrT P t = some (n, sz)) (hx : opd a x = .pointer (some ⟨B, off, none⟩)) (hy : opd a y = .int k j) (h0 : 0 ≤ j) (h1 : j < n) :
    pureV P ⟨d, .indexAddr t x y, ty, pos, after, g⟩ a = some (.pointer (some ⟨B, off + j.toNat * sz, none⟩)) := by
  refine pureV_pr ?_
  unfold arrT at ht
  split at ht
  · rename_i m e hu
    split at ht
    · rename_i i hi
      cases ht
      simp only [execOp, hx, hy, Instr.indexAt, pr_bind, asIntOf, pure, Sem.pr, Option.bind_some, pr_underlying hu, Instr.sureAddr, h0, h1, and_self, if_true, pr_sizeOf hi, add_off]
    · cases ht
  · cases ht
theorem pv_indexS {s : ByteArray} {k : IntKind} {j : Int} {b : UInt8} (ht : isStrT P t = true) (hx : opd a x = .string s) (hy : opd a y = .int k j) (h0 : 0 ≤ j) (hb : s[j.toNat]? = some b) :
    pureV P ⟨d, .index t x y, ty, pos, after, g⟩ a = some (.int .u8 b.toNat) := by
  refine pureV_pr ?_
  simp only [execOp, hx, hy, Instr.index, pr_bind, asIntOf, pure, Sem.pr, Option.bind_some, pr_underlying (isStrT_spec ht), h0, if_true, hb]

/-! ### numbers into numbers -/
def intT (P : Program) (t : TypeId) : Option IntKind := match P.underlying t with
  | some (.int k) => some k
  | _ => none
theorem pv_conv {t' : TypeId} {k k' : IntKind} {n : Int} (hs : (P.underlying t).isSome = true) (ht : intT P t' = some k) (hx : opd a x = .int k' n) :
    pureV P ⟨d, .convert t t' x, ty, pos, after, g⟩ a = some (.int k (k.wrap n)) := by
  refine pureV_pr ?_
  unfold intT at ht
  split at ht
  · rename_i k0 hu
    cases ht
    cases hs' : P.underlying t with
    | none => rw [hs'] at hs; cases hs
    | some D =>
      simp only [execOp, hx, convert, pr_bind, pr_underlying hs', pr_underlying hu, Option.bind_some]
      cases D <;> rfl
  · cases ht

/-! ### structs compared -/
def partV (P : Program) (t : TypeId) (cs : List Value) (off : Nat) : Option Value := match isAggT P t with
  | some true => match P.info? t with
    | some i => match copyL ((cs.drop off).take i.size) with
      | some vs => some (.agg vs.toArray)
      | none => none
    | none => none
  | some false => cs[off]?
  | none => none

def andB : Option Bool → Option Bool → Option Bool
  | some b, some r => some (b && r)
  | _, _ => none

def eqFs (eq : TypeId → Value → Value → Option Bool) (P : Program) (xs ys : List Value) : List Field → Option Bool
  | [] => some true
  | [f] => match partV P f.type xs f.offset, partV P f.type ys f.offset with
    | some u, some w => eq f.type u w
    | _, _ => none
  | f :: fs => match partV P f.type xs f.offset, partV P f.type ys f.offset with
    | some u, some w => andB (eq f.type u w) (eqFs eq P xs ys fs)
    | _, _ => none

/-- a type of which values are compared part by part, and nothing of it is stood in -/
def eqFree (P : Program) : Nat → TypeId → Bool
  | 0, _ => false
  | n + 1, t => match P.underlying t with
    | some .bool => true
    | some (.int _) => true
    | some .string => true
    | some (.struct fs) => !P.stoodInHeld t && fs.toList.all fun f => f.name != "_" && eqFree P n f.type
    | _ => false

def eqV (P : Program) : Nat → TypeId → Value → Value → Option Bool
  | 0, _, _, _ => none
  | n + 1, t, u, w => match P.underlying t with
    | some .bool => match u, w with
      | .bool b, .bool b' => some (b == b')
      | _, _ => none
    | some (.int _) => match u, w with
      | .int k m, .int k' m' => if k = k' then some (m == m') else none
      | _, _ => none
    | some .string => match u, w with
      | .string b, .string b' => some (b.toList == b'.toList)
      | _, _ => none
    | some (.struct fs) => match u, w with
      | .agg xs, .agg ys => eqFs (eqV P n) P xs.toList ys.toList fs.toList
      | _, _ => none
    | _ => none

theorem pr_isAgg {b : Bool} (h : isAggT P t = some b) : (isAgg t).pr P = some b := by
  unfold isAggT at h
  unfold isAgg
  split at h
  · rename_i fs hu; rw [pr_bind, pr_underlying hu]; exact h
  · rename_i n e hu; rw [pr_bind, pr_underlying hu]; exact h
  · rename_i d h1 h2 hu
    rw [pr_bind, pr_underlying hu, Option.bind_some]
    split
    · exact (h1 _ rfl).elim
    · exact (h2 _ _ rfl).elim
    · exact h
  · cases h

theorem pr_part {cs : Array Value} {off : Nat} {v : Value} (h : partV P t cs.toList off = some v) : (part t cs off).pr P = some v := by
  unfold partV at h
  unfold part
  split at h
  · rename_i hag
    split at h
    · rename_i i hi
      split at h
      · rename_i vs hvs
        cases h
        rw [pr_bind, pr_isAgg hag, Option.bind_some]
        simp only [if_true]
        rw [pr_bind, pr_sizeOf hi, Option.bind_some]
        have : cs.extract off (off + i.size) = vs.toArray := by
          rw [← copyL_eq hvs]
          apply Array.ext'
          simp
        rw [this]; rfl
      · cases h
    · cases h
  · rename_i hag
    rw [pr_bind, pr_isAgg hag, Option.bind_some]
    simp only [Bool.false_eq_true, if_false]
    rw [Array.getElem?_toList] at h
    rw [h]; rfl
  · cases h

theorem andB_spec {x y : Option Bool} {b : Bool} (h : andB x y = some b) : ∃ c r, x = some c ∧ y = some r ∧ b = (c && r) := by
  unfold andB at h
  split at h
  · exact ⟨_, _, rfl, rfl, by cases h; rfl⟩
  · cases h

theorem eqFs_cons {eq : TypeId → Value → Value → Option Bool} {xs ys : List Value} {f : Field} {fs : List Field} {b : Bool} (h : eqFs eq P xs ys (f :: fs) = some b) :
    ∃ u w c r, partV P f.type xs f.offset = some u ∧ partV P f.type ys f.offset = some w ∧ eq f.type u w = some c ∧ eqFs eq P xs ys fs = some r ∧ b = (c && r) := by
  cases fs with
  | nil =>
    simp only [eqFs] at h
    split at h
    · rename_i u w hu hw; exact ⟨u, w, b, true, hu, hw, h, rfl, by simp⟩
    · cases h
  | cons f' fs' =>
    simp only [eqFs] at h
    split at h
    · rename_i u w hu hw
      obtain ⟨c, r, h1, h2, h3⟩ := andB_spec h
      exact ⟨u, w, c, r, hu, hw, h1, h2, h3⟩
    · cases h

theorem pr_equalIn : ∀ (n m : Nat) (t : TypeId) (u w : Value) (b : Bool), n ≤ m → eqFree P n t = true → eqV P n t u w = some b → (Op.equalIn m t u w).pr P = some b := by
  intro n
  induction n with
  | zero => intro m t u w b _ _ h; cases h
  | succ n ih =>
    intro m t u w b hm hfree h
    obtain ⟨m, rfl⟩ : ∃ m', m = m' + 1 := ⟨m - 1, by omega⟩
    unfold Op.equalIn
    simp only [eqV] at h
    split at h
    · rename_i hu
      rw [pr_bind, pr_underlying hu, Option.bind_some]
      split at h
      · exact h
      · cases h
    · rename_i k hu
      rw [pr_bind, pr_underlying hu, Option.bind_some]
      split at h
      · split at h
        · rename_i hk; subst hk; simp only [if_true]; exact h
        · cases h
      · cases h
    · rename_i hu
      rw [pr_bind, pr_underlying hu, Option.bind_some]
      split at h
      · rename_i x y
        have : (x == y) = (x.toList == y.toList) := beq_toListBytes x y
        simp only [this]
        exact h
      · cases h
    · rename_i fs hu
      rw [pr_bind, pr_underlying hu, Option.bind_some]
      simp only [eqFree, hu, Bool.and_eq_true, Bool.not_eq_true'] at hfree
      obtain ⟨hst, hall⟩ := hfree
      split at h
      · rename_i xs ys
        simp only
        rw [pr_bind, show program.pr P = some P from rfl, Option.bind_some, hst]
        simp only [Bool.false_eq_true, if_false]
        rw [← Array.forIn_toList]
        generalize fs.toList = l at h hall
        clear hu
        induction l generalizing b with
        | nil => cases h; rfl
        | cons f l ihl =>
          simp only [List.forIn_cons]
          obtain ⟨p, q, c, r, hp, hq, hc, hr, rfl⟩ := eqFs_cons h
          simp only [List.all_cons, Bool.and_eq_true] at hall
          obtain ⟨⟨hn, hf⟩, hall⟩ := hall
          have key := ih m f.type p q c (by omega) hf hc
          rw [if_pos (by simpa using hn)]
          have ihl' := ihl r hr hall
          simp only [pr_bind] at ihl'
          simp only [pr_bind, pr_part hp, pr_part hq, key, Option.bind_some]
          cases c with
          | false => rfl
          | true => exact ihl'
      · cases h
    · cases h

theorem pr_eqGuard_agg {op : BinOp} {xs ys : Array Value} (h : P.eqGuardType P.depth t = false) : (eqGuard op t x y (.agg xs) (.agg ys)).pr P = some () := by
  unfold eqGuard
  cases op <;> first | rfl | (show Sem.pr P (if (!true) = true then _ else _) = _; rw [if_neg (by simp)]; simp only [pr_bind, show program.pr P = some P from rfl, Option.bind_some, h]; rfl)

theorem pv_eql_agg {xs ys : Array Value} {b : Bool} (hx : opd a x = .agg xs) (hy : opd a y = .agg ys) (hg : (!P.eqGuardType P.depth t && eqFree P 20 t) = true) (he : eqV P 20 t (.agg xs) (.agg ys) = some b) :
    pureV P ⟨d, .binOp .eql t x y yt, ty, pos, after, g⟩ a = some (.bool b) := by
  refine pureV_pr ?_
  have h1 : (binOp .eql t (.agg xs) (.agg ys)).pr P = some (.bool b) := by
    simp only [binOp, pr_bind]
    rw [show (Op.equal t (.agg xs) (.agg ys)).pr P = some b from pr_equalIn 20 _ t _ _ b (by unfold Op.maxDepth; omega) (by simp only [Bool.and_eq_true] at hg; exact hg.2) he]
    rfl
  simp only [execOp, hx, hy, pr_bind]
  rw [pr_eqGuard_agg (by simp only [Bool.and_eq_true, Bool.not_eq_true'] at hg; exact hg.1), Option.bind_some, h1]
  rfl
theorem pv_neq_agg {xs ys : Array Value} {b : Bool} (hx : opd a x = .agg xs) (hy : opd a y = .agg ys) (hg : (!P.eqGuardType P.depth t && eqFree P 20 t) = true) (he : eqV P 20 t (.agg xs) (.agg ys) = some b) :
    pureV P ⟨d, .binOp .neq t x y yt, ty, pos, after, g⟩ a = some (.bool (!b)) := by
  refine pureV_pr ?_
  have h1 : (binOp .neq t (.agg xs) (.agg ys)).pr P = some (.bool (!b)) := by
    simp only [binOp, pr_bind]
    rw [show (Op.equal t (.agg xs) (.agg ys)).pr P = some b from pr_equalIn 20 _ t _ _ b (by unfold Op.maxDepth; omega) (by simp only [Bool.and_eq_true] at hg; exact hg.2) he]
    rfl
  simp only [execOp, hx, hy, pr_bind]
  rw [pr_eqGuard_agg (by simp only [Bool.and_eq_true, Bool.not_eq_true'] at hg; exact hg.1), Option.bind_some, h1]
  rfl
end
end Go.Sl

namespace Go.Sl

def herase (H : Hp) (r : Nat) : Hp := fun i => if i = r then none else H i
theorem setAt_app : ∀ (news A B : List Value), news.length ≤ B.length → setAt (A ++ B) A.length news = A ++ news ++ B.drop news.length := by
  intro news
  induction news with
  | nil => intro A B _; simp [setAt]
  | cons v news ih =>
    intro A B hle
    cases B with
    | nil => simp at hle
    | cons b B =>
      simp only [setAt]
      have : (A ++ b :: B).set A.length v = (A ++ [v]) ++ B := by simp
      rw [this]
      have := ih (A ++ [v]) B (by simpa using hle)
      simp only [List.length_append, List.length_cons, List.length_nil] at this
      rw [this]
      simp

theorem growBy_le (N : Nat) : ∀ (k c : Nat), c ≤ 2 * N + 192 → Builtin.growBy N k c ≤ 2 * N + 192 := by
  intro k
  induction k with
  | zero => exact fun c h => h
  | succ k ih =>
    intro c h
    unfold Builtin.growBy
    split
    · exact h
    · exact ih _ (by omega)
theorem nextcap_le {need cap : Nat} (h : cap < need) : Builtin.nextslicecap need cap ≤ 2 * need + 512 := by
  unfold Builtin.nextslicecap
  split
  · omega
  · split
    · omega
    · have := growBy_le need 4 cap (by omega); omega

section
variable {P : Program} {H : Hp}

theorem rd_firstCells {sz n cap off B : Nat} {cs : List Value} {e : TypeId} {rw : Bool} {m : Nat} (hb : H B = some (.cells cs e rw)) (hle : off + m * sz ≤ cs.length) :
    (Builtin.firstCells sz m (.slice (some ⟨B, off, none⟩) n cap)).rd P H = some ((cs.drop off).take (m * sz)).toArray := by
  simp only [Builtin.firstCells, loadCells]
  rw [rd_loadCells hb off (m * sz) 0 #[] (by omega)]
  simp

theorem ev_rd_eq {α : Type} {s : Sem α} {v : α} {q : α → Hp → Prop} (h : s.rd P H = some v) (hq : q v H) : s.ev P H q := rd_ev P s v q h hq

theorem ev_askRoom {n : Nat} {q : Unit → Hp → Prop} (hq : q () H) : (askRoom n).ev P H q := by
  unfold askRoom
  split
  · exact hq
  · exact hq

def notIntT (P : Program) (t : TypeId) : Bool := match P.underlying t with
  | some (.int _) => false
  | some _ => true
  | none => false
theorem notIntT_spec {t : TypeId} (h : notIntT P t = true) : ∃ D, P.underlying t = some D ∧ ∀ k, D ≠ .int k := by
  unfold notIntT at h
  split at h
  · cases h
  · rename_i D hne hD; exact ⟨D, hD, fun k hk => hne k hk⟩
  · cases h

end

/-- over the heap H0 there is, besides, the row that 's' owns, and nothing more -/
def RowOn (H0 H : Hp) (s : Value) (e : TypeId) (sz n : Nat) (xs : List Value) : Prop :=
  xs.length = n * sz ∧ ((s = .slice none 0 0 ∧ n = 0 ∧ H = H0) ∨
    ∃ r pre post cap, s = .slice (some ⟨r, pre.length, none⟩) n cap ∧ H0 r = none ∧ H = hupd H0 r (.cells (pre ++ xs ++ post) e true) ∧ n ≤ cap ∧ post.length = (cap - n) * sz)

theorem RowOn.nil (H0 : Hp) (e : TypeId) (sz : Nat) : RowOn H0 H0 (.slice none 0 0) e sz 0 [] := ⟨by simp, .inl ⟨rfl, rfl, rfl⟩⟩
theorem RowOn.base {H0 H : Hp} {s : Value} {e : TypeId} {sz n : Nat} {xs : List Value} (h : RowOn H0 H s e sz n xs) : Hsub H0 H := by
  rcases h.2 with ⟨_, _, h1⟩ | ⟨r, pre, post, cap, _, h1, h2, _⟩
  · rw [h1]; exact Hsub.refl _
  · rw [h2]; exact (Hsub.refl _).hupd_fresh h1
theorem RowOn.get {H0 H : Hp} {s : Value} {e : TypeId} {sz n : Nat} {xs : List Value} (h : RowOn H0 H s e sz n xs) {B : Nat} {b : Blk} (hb : H0 B = some b) : H B = some b := h.base B b hb

section
variable {P : Program} {a : Fr} {d : Option Tmp} {ty : TypeId} {pos : String} {after : Array Edge} {g : Option (Nat × Bool)} {x y : Operand} {H0 Hr H : Hp} {k : Value → Hp → Prop}

def appT0 (P : Program) (st xt : TypeId) : Option (TypeId × Nat × Nat) := match P.underlying st with
  | some (.slice e) => match P.info? e with
    | some i => match i.zero with
      | some z => if z.cells.size = i.size ∧ i.bytes ≠ 0 ∧ notIntT P xt = true then some (e, i.size, i.bytes) else none
      | none => none
    | none => none
  | _ => none

def appT (P : Program) (st xt : TypeId) : Option (TypeId × Nat × Nat) := match appT0 P st xt with
  | some (e, sz, b) => match natF sz with
    | some sz => match natF b with
      | some b => some (e, sz, b)
      | none => none
    | none => none
  | none => none
theorem appT_spec {P : Program} {st xt e : TypeId} {sz b : Nat} (h : appT P st xt = some (e, sz, b)) : appT0 P st xt = some (e, sz, b) := by
  unfold appT at h
  split at h
  · rename_i e' sz' b' h0
    split at h
    · rename_i sz2 h1
      split at h
      · rename_i b2 h2
        cases h
        rw [h0, natF_eq h1, natF_eq h2]
      · cases h
    · cases h
  · cases h

end

end Go.Sl

namespace Go.Sl
section
variable {P : Program} {ops : Array Oper} {Q : Fr → Hp → Prop} {a : Fr} {H : Hp} {i c : Nat} {rest : List Oper} {l : List (Nat × Nat)} {hist : List Hp} {d' : Nat} {d : Option Tmp}
variable {ty : TypeId} {pos : String} {after : Array Edge} {g : Option (Nat × Bool)} {t yt : TypeId} {x y z : Operand}
section
variable {P : Program} {ops : Array Oper} {Q : Fr → Hp → Prop} {a : Fr} {H : Hp} {i c : Nat} {rest : List Oper} {l : List (Nat × Nat)} {hist : List Hp} {d' : Nat} {d : Option Tmp}
variable {ty : TypeId} {pos : String} {after : Array Edge} {g : Option (Nat × Bool)} {t yt : TypeId} {x y z : Operand}
theorem wrap64 {z : Int} (h0 : -9223372036854775808 ≤ z) (h1 : z ≤ 9223372036854775807) : IntKind.wrap .i64 z = z := by
  simp [IntKind.wrap, IntKind.bits, IntKind.signed]
  split <;> omega
theorem pv_add64 {m n : Int} (hx : opd a x = .int .i64 m) (hy : opd a y = .int .i64 n) (h0 : -9223372036854775808 ≤ m + n) (h1 : m + n ≤ 9223372036854775807) : pureV P ⟨d, .binOp .add t x y yt, ty, pos, after, g⟩ a = some (.int .i64 (m + n)) := by
  have := pv_int (P := P) (d := d) (t := t) (yt := yt) (ty := ty) (pos := pos) (after := after) (g := g) (op := .add) hx hy rfl rfl
  rw [wrap64 h0 h1] at this; exact this
theorem pv_sub64 {m n : Int} (hx : opd a x = .int .i64 m) (hy : opd a y = .int .i64 n) (h0 : -9223372036854775808 ≤ m - n) (h1 : m - n ≤ 9223372036854775807) : pureV P ⟨d, .binOp .sub t x y yt, ty, pos, after, g⟩ a = some (.int .i64 (m - n)) := by
  have := pv_int (P := P) (d := d) (t := t) (yt := yt) (ty := ty) (pos := pos) (after := after) (g := g) (op := .sub) hx hy rfl rfl
  rw [wrap64 h0 h1] at this; exact this
theorem pv_mul64 {m n : Int} (hx : opd a x = .int .i64 m) (hy : opd a y = .int .i64 n) (h0 : -9223372036854775808 ≤ m * n) (h1 : m * n ≤ 9223372036854775807) : pureV P ⟨d, .binOp .mul t x y yt, ty, pos, after, g⟩ a = some (.int .i64 (m * n)) := by
  have := pv_int (P := P) (d := d) (t := t) (yt := yt) (ty := ty) (pos := pos) (after := after) (g := g) (op := .mul) hx hy rfl rfl
  rw [wrap64 h0 h1] at this; exact this
section
variable {P : Program} {a : Fr} {H : Hp}
theorem rs_tmp {t : Tmp} {rs : List ResultVar} {v : Value} {vs : List Value} (hx : force (a t) = some v) (h : resVs P a H rs = some vs) : resVs P a H (.tmp t :: rs) = some (v :: vs) := by
  simp only [resVs, resV, h, force_eq hx]
theorem rs_cell {p : Tmp} {t : TypeId} {B off : Nat} {cs : List Value} {e : TypeId} {rw : Bool} {rs : List ResultVar} {v : Value} {vs : List Value} (hx : a p = .pointer (some ⟨B, off, none⟩)) (hb : H B = some (.cells cs e rw)) (hv : ldC P t cs off = some v) (h : resVs P a H rs = some vs) :
    resVs P a H (.cell p t :: rs) = some (v :: vs) := by
  simp only [resVs, resV, h, hx, ldC_ldV hb hv]
end


/-- A frame that is known at some places. -/
def Agree (a : Fr) : List (Nat × Value) → Prop
  | [] => True
  | (t, v) :: l => a t = v ∧ Agree a l
def updL (a : Fr) : List (Nat × Value) → Fr
  | [] => a
  | (t, v) :: l => upd (updL a l) t v
theorem updL_eq {a : Fr} : ∀ {l : List (Nat × Value)}, Agree a l → updL a l = a := by
  intro l
  induction l with
  | nil => intro _; rfl
  | cons x l ih =>
    intro h
    obtain ⟨h1, h2⟩ := h
    have := ih h2
    show upd (updL a l) x.1 x.2 = a
    rw [this]
    funext i
    unfold upd
    split
    · rename_i e; subst e; exact h1.symm
    · rfl
end
end
end Go.Sl

