/- From a contract over the empty heap to the row of a law: it answers true and leaves what it was given. Strings and rows of bytes turned into each other: lemmas; each with the conditions that it states. -/
import Derived.Test.YtiofdmjecjcdbaaGreatDoorFd
import Derived.ProofKit
import Derived.Below
import Derived.ChangeSame
import Derived.Carry
set_option linter.unusedVariables false
set_option linter.unusedSimpArgs false
namespace Go.Sl
open Go.ChangeShapes Go.WideShapes Go.ChangeAt Go.RowKit

theorem CallS.below {P : Program} {f : FuncId} {args : Array Value} {r : Value} (h : CallS P f args (fun _ => none) fun v _ => v = r) (W : World) :
    Calls P f args W fun e W' => e = .returned r ∧ Below W.heap.size W W' := by
  refine (h.run (fun i => W.heap.size ≤ i) W ⟨(fun _ _ h => by cases h), (fun _ _ h _ => by cases h), (fun _ h => h)⟩).mono ?_
  rintro e W' ⟨v, H', rfl, rfl, ht⟩
  exact ⟨rfl, ht.chg.os, ht.chg.tape, ht.chg.output, ht.chg.size, fun k hk => ht.chg.kept k hk (by omega)⟩

section
variable {H : Type} {enc : TypeId × Value → H} {P : Program}
theorem stays_all (hl : laidOutB P = true) {W W' : World} (hb : Below W.heap.size W W') {sp : Nat → Bool} : ∀ {ts : List TypeId} {vs : List Value} {ds : List (DataW H)} {ps : List MemPlace},
    (∀ t ∈ ts, (P.readableRec t && decide (t < P.types.size)) = true) → DataW.TrodAll enc P W 0 (fun _ => true) true ts vs ds ps → (∀ p ∈ ps, p.block < W.heap.size) → (∀ p ∈ ps, sp p.block = true) → DataW.TrodAll enc P W' 0 sp true ts vs ds ps
  | [], [], [], _, _, h, _, _ => h
  | t :: ts, _ :: _, _ :: _, _, hT, ⟨p, q, h1, h2, e⟩, hlt, hs => by
    have ht := hT t (List.mem_cons.2 (Or.inl rfl))
    simp only [Bool.and_eq_true, decide_eq_true_eq] at ht
    exact ⟨p, q, WideElems.Trod_stays hl ht.1 ht.2 h1 (fun x hx => hb.same (hlt x (by rw [e]; exact List.mem_append_left _ hx))) (fun x hx => hs x (by rw [e]; exact List.mem_append_left _ hx)),
      stays_all hl hb (fun t ht => hT t (List.mem_cons.2 (Or.inr ht))) h2 (fun x hx => hlt x (by rw [e]; exact List.mem_append_right _ hx)) (fun x hx => hs x (by rw [e]; exact List.mem_append_right _ hx)), e⟩

theorem law_post {f : Func} {s : ChangeSpec} {apart fresh handsOn again : Bool} {W W' : World} {args : Array Value} {ds gs : List (DataW H)} {before : List MemPlace} {t : TypeId} (hl : laidOutB P = true)
    (hp : (f.params.toList.all fun t => P.readableRec t && decide (t < P.types.size)) = true) (hr : f.resultTypes = #[t]) (ht : P.underlying t = some .bool) (hv : s.vars = [])
    (hW : DataW.Whole enc P f.params.toList s.vars apart W args.toList ds gs before) (h1 : (s.fn H (ds ++ gs)).results = [.lit (.bool true)]) (h2 : (s.fn H (ds ++ gs)).args = ds) (h3 : (s.fn H (ds ++ gs)).vars = [])
    (hb : Below W.heap.size W W') : s.post enc P f apart fresh handsOn again W args (.bool true) W' := by
  have hW' := hW
  have hlt : ∀ p ∈ before, p.block < W.heap.size := fun p hp => hW.lt p hp
  obtain ⟨p, q, hA, hV, hpq, hz, hn⟩ := hW
  have hq : q = [] := by
    rw [hv] at hV
    exact (trodVars_none hV).2
  subst hq
  have hpq' : before = p := by rw [hpq]; simp
  subst hpq'
  have hT : ∀ t ∈ f.params.toList, (P.readableRec t && decide (t < P.types.size)) = true := List.all_eq_true.1 hp
  have hargs : ∀ sp : Nat → Bool, (∀ x ∈ before, sp x.block = true) → DataW.TrodAll enc P W' 0 sp true f.params.toList args.toList (s.fn H (ds ++ gs)).args before := fun sp hsp => by
    rw [h2]; exact stays_all hl hb hT hA hlt hsp
  have hres : ∀ (b : Nat) (sp : Nat → Bool) (hd : Bool), DataW.TrodAll enc P W' b sp hd f.resultTypes.toList ((Value.bool true).resultList f.resultTypes.size) (s.fn H (ds ++ gs)).results [] := fun b sp hd => by
    rw [h1, hr]; exact trodAll_mk1 (shut_bool ht true)
  have hvars : ∀ sp : Nat → Bool, DataW.TrodVars enc P W' sp s.vars (s.fn H (ds ++ gs)).vars [] := fun sp => by
    rw [h3, hv]; exact rfl
  have hold : ∀ x ∈ before, (fun b => decide (b < W.heap.size)) x.block = true := fun x hx => by simpa using hlt x hx
  refine ⟨ds, gs, before, [], before, [], hW', hres _ _ _, hargs _ hold, hvars _, World.keptBut_mono (fun x hx => ⟨hx, by simpa using hx⟩) (hb.frame (· ∈ before)), fun _ => ?_⟩
  refine ⟨ok_one hr rfl (okWide_bool_mk ht true), _, _, ([] ++ before) ++ [], ⟨[] ++ before, [], trodAll_append (hargs _ (fun _ _ => rfl)) (hres _ _ _), hvars _, rfl, ?_, ?_⟩, ?_⟩
  · intro b off hx
    have hin : MemPlace.cell b off ∈ before := by simpa using hx
    rw [hb.frozen (hlt _ hin)]
    exact hz b off hin
  · intro ha
    simpa using hn ha
  · intro x hx _
    simpa using hx
end
end Go.Sl

namespace Go.Sl

def byteV (b : UInt8) : Value := .int .u8 b.toNat
def bytesV (s : ByteArray) : List Value := s.data.toList.map byteV

section
variable {P : Program} {H : Hp}

theorem ev_stringToBytes {e : TypeId} {s : ByteArray} {q : Value → Hp → Prop} (hk : ∀ r N, H r = none → s.size ≤ N → q (.slice (some ⟨r, 0, none⟩) s.size N) (hupd H r (.cells (bytesV s ++ List.replicate (N - s.size) (.int .u8 0)) e true))) : (Conv.stringToBytes e s).ev P H q := by
  unfold Conv.stringToBytes
  simp only [ev_bind', choose, Sem.ev]
  rw [if_neg (by simp [Question.forced])]
  intro t
  simp only [Question.cut]
  generalize hN : s.size + 0 + t % (2 ^ 63 - (s.size + 0)) = N
  have hle : s.size ≤ N := by omega
  simp only [newRow, ev_bind']
  intro r hr
  refine ⟨rfl, ?_⟩
  simp only [markStringish, shape, freeze, ev_bind', Sem.ev]
  have hcells : (Array.map (fun b => Value.int IntKind.u8 (b.toNat : Int)) s.data ++ Array.replicate (N - s.size) (Value.int IntKind.u8 0)).toList = [] ++ bytesV s ++ List.replicate (N - s.size) (Value.int IntKind.u8 0) := by simp [bytesV, byteV]
  rw [hcells]
  have hrow : RowOn H (hupd H r (.cells ([] ++ bytesV s ++ List.replicate (N - s.size) (Value.int IntKind.u8 0)) e true)) (.slice (some ⟨r, 0, none⟩) s.size N) e 1 s.size (bytesV s) :=
    ⟨by simp [bytesV], .inr ⟨r, [], _, N, rfl, hr, rfl, hle, by simp⟩⟩
  show match (hupd H r (Blk.cells ([] ++ bytesV s ++ List.replicate (N - s.size) (Value.int IntKind.u8 0)) e true)) r with
    | some (Blk.cells cs e rw) => _
    | some (Blk.obj o) => _
    | none => False
  rw [hupd_same]
  simp only [Nat.one_ne_zero, if_false]
  exact ⟨_, _, rfl, Nat.le_refl _, hk r N hr hle⟩

theorem rd_forBytes {f : Value → ByteArray → Sem (ForInStep ByteArray)} (hf : ∀ b s, (f (byteV b) s).rd P H = some (.yield (s.push b))) : ∀ (l : List UInt8) (acc : ByteArray), (forIn (l.map byteV) acc f).rd P H = some ⟨acc.data ++ l.toArray⟩ := by
  intro l
  induction l with
  | nil => intro acc; simp; rfl
  | cons b l ih =>
    intro acc
    simp only [List.map_cons, List.forIn_cons]
    rw [rd_bind, hf, Option.bind_some]
    simp only
    rw [ih (acc.push b)]
    simp [ByteArray.push]

end

def bytesT (P : Program) (t : TypeId) : Option TypeId := match P.underlying t with
  | some (.slice e) => match P.underlying e with
    | some (.int .u8) => some e
    | _ => none
  | _ => none
theorem bytesT_spec {P : Program} {t e : TypeId} (h : bytesT P t = some e) : P.underlying t = some (.slice e) ∧ P.underlying e = some (.int .u8) := by
  unfold bytesT at h
  split at h
  · rename_i e' hu
    split at h
    · rename_i hue; cases h; exact ⟨hu, hue⟩
    · cases h
  · cases h

section
variable {P : Program} {a : Fr} {d : Option Tmp} {t t' ty : TypeId} {pos : String} {after : Array Edge} {g : Option (Nat × Bool)} {x : Operand} {H : Hp} {k : Value → Hp → Prop}
theorem eo_strbytes {e : TypeId} {s : ByteArray} (hs : isStrT P t = true) (ht : bytesT P t' = some e) (hx : opd a x = .string s) (hk : ∀ r N, H r = none → s.size ≤ N → k (.slice (some ⟨r, 0, none⟩) s.size N) (hupd H r (.cells (bytesV s ++ List.replicate (N - s.size) (.int .u8 0)) e true))) :
    evOp P ⟨d, .convert t t' x, ty, pos, after, g⟩ a H k := by
  obtain ⟨h1, h2⟩ := bytesT_spec ht
  refine evOp_of ?_
  simp only [execOp, hx, convert, ev_bind']
  rw [ev_pr_eq (pr_underlying (isStrT_spec hs)), ev_pr_eq (pr_underlying h1)]
  simp only [ev_bind']
  rw [ev_pr_eq (pr_underlying h2)]
  exact ev_stringToBytes hk
end
section
variable {P : Program} {ops : Array Oper} {Q : Fr → Hp → Prop} {a : Fr} {H : Hp} {i c : Nat} {rest : List Oper} {l : List (Nat × Nat)} {hist : List Hp} {d' : Nat} {d : Option Tmp}
variable {ty : TypeId} {pos : String} {after : Array Edge} {g : Option (Nat × Bool)} {t yt : TypeId} {x y z : Operand}
theorem pv_min {k k' : IntKind} {m n : Int} {as : Array Operand} {ts : Array TypeId} (hargs : as.toList.map (opd a) = [.int k m, .int k' n]) : pureV P ⟨d, .call { callee := .builtin .min, args := as, argTypes := ts }, ty, pos, after, g⟩ a = some (.int k (if n < m then n else m)) := by
  refine pureV_pr ?_
  have h1 : as.map (opd a) = #[.int k m, .int k' n] := by apply Array.ext'; simpa using hargs
  simp only [execOp, resolve, h1, pr_bind, pure, Sem.pr, Option.bind_some, invoke, builtin, Builtin.min_, List.foldlM, Builtin.min2]
theorem pv_max {k k' : IntKind} {m n : Int} {as : Array Operand} {ts : Array TypeId} (hargs : as.toList.map (opd a) = [.int k m, .int k' n]) : pureV P ⟨d, .call { callee := .builtin .max, args := as, argTypes := ts }, ty, pos, after, g⟩ a = some (.int k (if n > m then n else m)) := by
  refine pureV_pr ?_
  have h1 : as.map (opd a) = #[.int k m, .int k' n] := by apply Array.ext'; simpa using hargs
  simp only [execOp, resolve, h1, pr_bind, pure, Sem.pr, Option.bind_some, invoke, builtin, Builtin.max_, List.foldlM, Builtin.max2]
section
variable {P : Program} {ops : Array Oper} {Q : Fr → Hp → Prop} {a : Fr} {H : Hp} {i c : Nat} {rest : List Oper} {l : List (Nat × Nat)} {hist : List Hp} {d' : Nat} {d : Option Tmp}
variable {ty : TypeId} {pos : String} {after : Array Edge} {g : Option (Nat × Bool)} {t yt : TypeId} {x y z : Operand}
theorem pv_conv64 {t' : TypeId} {k' : IntKind} {n : Int} (hs : (P.underlying t).isSome = true) (ht : intT P t' = some .i64) (hx : opd a x = .int k' n) (h0 : -9223372036854775808 ≤ n) (h1 : n ≤ 9223372036854775807) : pureV P ⟨d, .convert t t' x, ty, pos, after, g⟩ a = some (.int .i64 n) := by
  have := pv_conv (P := P) (d := d) (ty := ty) (pos := pos) (after := after) (g := g) hs ht hx
  rw [wrap64 h0 h1] at this; exact this
end
end
end Go.Sl

