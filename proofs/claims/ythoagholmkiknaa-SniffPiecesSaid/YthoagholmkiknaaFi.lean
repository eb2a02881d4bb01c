/- Quotients and remainders of numbers below zero. Contracts of the kit, brought to chunks: what changes nothing; what lays one new block. The kit's contract of slices.Sort, brought to chunks: lemmas; each with the conditions that it states. -/
import Derived.Test.YthoagholmkiknaaFh
import Derived.Shelf.Sort.Plain
set_option linter.unusedVariables false
set_option linter.unusedSimpArgs false
namespace Go.Sl
theorem tdiv_np {m n : Int} : m.tdiv n = 0 - (0 - m).tdiv n := by
  rw [show (0 : Int) - m = -m by omega, Int.neg_tdiv]
  omega
theorem tmod_np {m n : Int} : m.tmod n = 0 - (0 - m).tmod n := by
  rw [show (0 : Int) - m = -m by omega, Int.neg_tmod]
  omega
section
variable {P : Program} {ops : Array Oper} {Q : Fr → List HP → Prop} {a : Fr} {C : List HP} {c : Nat} {gd : Bool} {es : ET} {hist : List (List HP)} {d' : Tmp}
variable {ty : TypeId} {pos : String} {after : Array Edge} {g : Option (Nat × Bool)} {t yt : TypeId} {x y : Operand}
theorem G_quoM {m n : Int} (h : spl gd (.int .i64 (0 - (0 - m) / n)) fun v => evG P ops Q es hist (upd a d' v) C) (hx : opd a x = .int .i64 m := by exact rfl) (hy : opd a y = .int .i64 n := by exact rfl) (h0 : m ≤ 0 := by first | omega | assumption) (h1 : 0 < n := by first | omega | assumption) (h2 : -9223372036854775808 ≤ 0 - (0 - m) / n := by first | omega | assumption) (h3 : 0 - (0 - m) / n ≤ 9223372036854775807 := by first | omega | assumption) (hw : wantB ops ⟨some d', .binOp .quo t x y yt, ty, pos, after, g⟩ a = true := by exact rfl) : evG P ops Q (ET.cons (c, gd, ⟨some d', .binOp .quo t x y yt, ty, pos, after, g⟩) es) hist a C := by
  refine evG_p rfl hw ?_ h
  rw [pv_quo hx hy (by omega), tdiv_np, Int.tdiv_eq_ediv_of_nonneg (by omega), wrap64 h2 h3]
theorem G_remM {k : IntKind} {m n : Int} (h : spl gd (.int k (0 - (0 - m) % n)) fun v => evG P ops Q es hist (upd a d' v) C) (hx : opd a x = .int k m := by exact rfl) (hy : opd a y = .int k n := by exact rfl) (h0 : m ≤ 0 := by first | omega | assumption) (h1 : 0 < n := by first | omega | assumption) (hw : wantB ops ⟨some d', .binOp .rem t x y yt, ty, pos, after, g⟩ a = true := by exact rfl) : evG P ops Q (ET.cons (c, gd, ⟨some d', .binOp .rem t x y yt, ty, pos, after, g⟩) es) hist a C := by
  refine evG_p rfl hw ?_ h
  rw [pv_rem hx hy (by omega), tmod_np, Int.tmod_eq_emod_of_nonneg (by omega)]
end
end Go.Sl
namespace Go.Sl
theorem CallT.ofSame {P : Program} {f : FuncId} {fn : Func} {args : Array Value} {v : Value} {C : List HP} {K : Value → List HP → Prop} (hf : P.funcs[f]? = some fn) (hb : fn.body.isNone = false) (hn : (fn.name == "runtime.NumGoroutine") = false)
    (h : ∀ w, Calls P f args w fun e w' => e = .returned v ∧ w' = w) (hK : K v C) : CallT P f args C K := fun H hs =>
  ⟨⟨fn, hf, hb, hn⟩, fun own w hw => (h w).mono fun e w' ⟨he, hww⟩ => ⟨v, H, he, ⟨C, hs, hK⟩, by rw [hww]; exact To.refl hw⟩⟩
/-- the same, where the contract asks something of the world -/
theorem CallT.ofSame' {P : Program} {f : FuncId} {fn : Func} {args : Array Value} {v : Value} {C : List HP} {K : Value → List HP → Prop} (hf : P.funcs[f]? = some fn) (hb : fn.body.isNone = false) (hn : (fn.name == "runtime.NumGoroutine") = false)
    (h : ∀ H own w, Sats C H → Sat own H w → Calls P f args w fun e w' => e = .returned v ∧ w' = w) (hK : K v C) : CallT P f args C K := fun H hs =>
  ⟨⟨fn, hf, hb, hn⟩, fun own w hw => (h H own w hs hw).mono fun e w' ⟨he, hww⟩ => ⟨v, H, he, ⟨C, hs, hK⟩, by rw [hww]; exact To.refl hw⟩⟩
theorem To.alloc {own : Nat → Prop} {H : Hp} {w : World} (h : Sat own H w) (arr : Array Value) (e : TypeId) : To own w H (w.alloc (.cells arr e)) (hupd H w.heap.size (.cells arr.toList e true)) := by
  refine ⟨h.alloc (o := .cells arr e) fun w' hw' => ⟨arr, (0, 0), hw', rfl, fun _ => .inr rfl⟩, Chg.alloc own w _, fun B hB hn => ?_⟩
  rw [hupd_ne _ _ (by omega)]
  exact hn
theorem CallT.ofAlloc {P : Program} {f : FuncId} {fn : Func} {args : Array Value} {g : Nat → Value} {arr : Array Value} {e : TypeId} {C : List HP} {K : Value → List HP → Prop} (hf : P.funcs[f]? = some fn) (hb : fn.body.isNone = false) (hn : (fn.name == "runtime.NumGoroutine") = false)
    (h : ∀ H own w, Sats C H → Sat own H w → Calls P f args w fun x w' => x = .returned (g w.heap.size) ∧ w' = w.alloc (.cells arr e)) (hK : ∀ r, K (g r) (pt r arr.toList e :: C)) : CallT P f args C K := fun H hs =>
  ⟨⟨fn, hf, hb, hn⟩, fun own w hw => (h H own w hs hw).mono fun x w' ⟨he, hww⟩ => ⟨g w.heap.size, _, he, ⟨_, sats_new (hw.fresh (Nat.le_refl _)) hs, hK _⟩, by rw [hww]; exact To.alloc hw arr e⟩⟩
end Go.Sl
namespace Go.Sl
open Go.Sort Go.Proofs
theorem putCells_toList {cs pre mid mid' post : List Value} {enc : Int → Value} {d : Array Int} (hc : cs = pre ++ mid ++ post) (hm : mid' = d.toList.map enc) (hl : mid.length = d.size) : (putCells enc pre.length d cs.toArray).toList = pre ++ mid' ++ post := by
  subst hc hm
  apply List.ext_getElem?
  intro i
  unfold putCells
  rw [Array.getElem?_toList, Array.getElem?_mapIdx]
  rw [List.getElem?_toArray]
  by_cases h1 : i < pre.length
  · rw [List.append_assoc, List.append_assoc, List.getElem?_append_left h1, List.getElem?_append_left h1, List.getElem?_eq_getElem h1]
    simp [show ¬ pre.length ≤ i by omega]
  · by_cases h2 : i < pre.length + d.size
    · have e1 : (pre ++ mid ++ post)[i]? = mid[i - pre.length]? := by
        rw [List.append_assoc, List.getElem?_append_right (by omega), List.getElem?_append_left (by omega)]
      have e2 : (pre ++ d.toList.map enc ++ post)[i]? = (d.toList.map enc)[i - pre.length]? := by
        rw [List.append_assoc, List.getElem?_append_right (by omega), List.getElem?_append_left (by simp; omega)]
      rw [e1, e2, List.getElem?_eq_getElem (by omega)]
      have hd : i - pre.length < d.size := by omega
      simp [show pre.length ≤ i by omega, h2, hd]
    · have e1 : (pre ++ mid ++ post)[i]? = post[i - pre.length - d.size]? := by
        rw [List.append_assoc, List.getElem?_append_right (by omega), List.getElem?_append_right (by omega), hl]
      have e2 : (pre ++ d.toList.map enc ++ post)[i]? = post[i - pre.length - d.size]? := by
        rw [List.append_assoc, List.getElem?_append_right (by omega), List.getElem?_append_right (by simp; omega)]
        simp
      rw [e1, e2]
      cases post[i - pre.length - d.size]? with
      | none => rfl
      | some v => simp [h2]
/-- a row of numbers is sorted -/
theorem CallT.ofSort {P : Program} {f : FuncId} {fn : Func} {E : Cod Int} {A : Option Addr} {n c : Nat} {e : TypeId} {xs : List Int} {C R : List HP} {K : Value → List HP → Prop} (hf : P.funcs[f]? = some fn) (hb : fn.body.isNone = false) (hn : (fn.name == "runtime.NumGoroutine") = false)
    (hE : ∀ x, E.enc x = [.int .i64 x])
    (h : ∀ (blk off cap : Nat) (zs : List Int) (w : World), Holds (Value.int .i64) w blk off zs.toArray → blk < w.heap.size → zs.length < 4611686018427387904 → Calls P f #[.slice (some ⟨blk, off, none⟩) zs.length cap] w fun x w' => x = .returned (.tuple #[]) ∧ ∃ m os, w' = grow (putRow (Value.int .i64) (Sort.ahead w m) blk off (zs.mergeSort fun x y => decide (x ≤ y)).toArray) os)
    (h0 : ∀ (p : Option Addr) (cap : Nat) (w : World), Calls P f #[.slice p 0 cap] w fun x w' => x = .returned (.tuple #[]) ∧ w' = w)
    (hp : Pick (row A c e E xs) C R) (hl : xs.length = n) (hs0 : n < 1000000000000000) (hK : K (.tuple #[]) (row A c e E (xs.mergeSort fun x y => decide (x ≤ y)) :: R)) : CallT P f #[.slice A n c] C K := by
  subst hl
  refine CallT.ent (fun H hs => hp.sats hs) ?_
  intro H hs
  by_cases hx : xs = []
  · subst hx
    rw [List.mergeSort_nil] at hK
    exact CallT.ofSame hf hb hn (h0 A c) hK H hs
  rcases sats_row hs with ⟨_, g2, _⟩ | ⟨B, pre, post, rfl, g2, g3, g4⟩
  · exact absurd g2 hx
  have hfl : ∀ l : List Int, l.flatMap E.enc = l.map (Value.int .i64) := fun l => by
    induction l with
    | nil => rfl
    | cons a l ih => rw [List.flatMap_cons, hE, ih]; rfl
  rw [hfl] at g2
  have hB := (sats_pt g2).1
  refine ⟨⟨fn, hf, hb, hn⟩, fun own w hw => ?_⟩
  obtain ⟨arr, fz, k1, k2, k3⟩ := hw.is B _ hB
  have hfz := k3 rfl
  have hlt := hw.lt hB
  have hsz : arr.size = pre.length + xs.length + post.length := by rw [← Array.length_toList, k2]; simp; omega
  have hHo : Holds (Value.int .i64) w B pre.length xs.toArray := by
    intro j hj
    have hj' : j < xs.length := by simpa using hj
    have hat : arr[pre.length + j]? = some (.int .i64 xs[j]) := by
      rw [← Array.getElem?_toList, k2, List.append_assoc, List.getElem?_append_right (by omega), List.getElem?_append_left (by simp; omega)]
      simp [hj']
    constructor
    · simp only [World.cell?, k1]
      simp [hat, hj']
    · simp only [World.frozen?, k1]
      have hlen : (pre ++ xs.map (Value.int .i64) ++ post).length = pre.length + xs.length + post.length := by simp; omega
      rw [hlen] at hfz
      simp
      omega
  refine (h B pre.length c xs w hHo hlt (by omega)).mono ?_
  rintro x w' ⟨rfl, m, os, rfl⟩
  refine ⟨.tuple #[], hupd H B (.cells (pre ++ (xs.mergeSort fun x y => decide (x ≤ y)).flatMap E.enc ++ post) e true), rfl, ⟨_, ?_, hK⟩, ?_⟩
  · have hms : (xs.mergeSort fun x y => decide (x ≤ y)).length = xs.length := List.length_mergeSort _
    exact row_sats rfl (sats_put g2) (by rw [hms]; exact g3) (by rw [hms]; exact g4)
  · have hmsz : (xs.mergeSort fun x y => decide (x ≤ y)).length = xs.length := List.length_mergeSort _
    have hcells : (putCells (Value.int .i64) pre.length (xs.mergeSort fun x y => decide (x ≤ y)).toArray arr).toList = pre ++ (xs.mergeSort fun x y => decide (x ≤ y)).flatMap E.enc ++ post := by
      have hq := putCells_toList (enc := Value.int .i64) (cs := arr.toList) (pre := pre) (mid := xs.map (Value.int .i64)) (post := post) (d := (xs.mergeSort fun x y => decide (x ≤ y)).toArray) (mid' := (xs.mergeSort fun x y => decide (x ≤ y)).flatMap E.enc) k2 (by rw [hfl]) (by simp [hmsz])
      rwa [Array.toArray_toList] at hq
    have hheap : (grow (putRow (Value.int .i64) (Sort.ahead w m) B pre.length (xs.mergeSort fun x y => decide (x ≤ y)).toArray) os).heap = (w.heap.modify B (onCells (putCells (Value.int .i64) pre.length (xs.mergeSort fun x y => decide (x ≤ y)).toArray))) ++ os := rfl
    have hold : ∀ i, i < w.heap.size → i ≠ B → (grow (putRow (Value.int .i64) (Sort.ahead w m) B pre.length (xs.mergeSort fun x y => decide (x ≤ y)).toArray) os).heap[i]? = w.heap[i]? := fun i hi hne => by
      rw [hheap, Array.getElem?_append_left (by simpa using hi), Array.getElem?_modify, if_neg (Ne.symm hne)]
    have hnew : (grow (putRow (Value.int .i64) (Sort.ahead w m) B pre.length (xs.mergeSort fun x y => decide (x ≤ y)).toArray) os).heap[B]? = some (.cells (putCells (Value.int .i64) pre.length (xs.mergeSort fun x y => decide (x ≤ y)).toArray arr) e fz) := by
      rw [hheap, Array.getElem?_append_left (by simpa using hlt), Array.getElem?_modify, if_pos rfl, k1]
      rfl
    have hsize : w.heap.size ≤ (grow (putRow (Value.int .i64) (Sort.ahead w m) B pre.length (xs.mergeSort fun x y => decide (x ≤ y)).toArray) os).heap.size := by
      rw [hheap]; simp
    have hown := hw.mine B _ hB rfl
    refine ⟨⟨fun b q hq => ?_, fun b q hq ho => ?_, fun i hi => hw.tail i (by omega)⟩, ⟨rfl, rfl, rfl, hsize, fun i hi ho => hold i hi fun he => ho (he ▸ hown)⟩, fun b hb hnone => ?_⟩
    · by_cases hbB : b = B
      · subst hbB
        rw [hupd_same] at hq
        cases hq
        refine ⟨_, fz, hnew, hcells, fun _ => ?_⟩
        have : (pre ++ (xs.mergeSort fun x y => decide (x ≤ y)).flatMap E.enc ++ post).length = (pre ++ xs.map (Value.int .i64) ++ post).length := by rw [hfl]; simp [hmsz]
        rw [this]
        exact hfz
      · rw [hupd_ne _ _ hbB] at hq
        exact (hw.is b q hq).of_heap (hold b (hw.lt hq) hbB)
    · by_cases hbB : b = B
      · subst hbB; exact hown
      · rw [hupd_ne _ _ hbB] at hq
        exact hw.mine b q hq ho
    · by_cases hbB : b = B
      · subst hbB; rw [hB] at hnone; cases hnone
      · rw [hupd_ne _ _ hbB]; exact hnone
end Go.Sl
