/- A new row of zeros: lemmas; each with the conditions that it states. -/
import Derived.Test.YtbmkghbjooobeaaT18
namespace Go.Sl
section
variable {P : Program} {a : Fr} {d : Option Tmp} {ty : TypeId} {pos : String} {after : Array Edge} {g : Option (Nat × Bool)} {t : TypeId} {x y : Operand}
theorem eo_makeBytes {e : TypeId} {n : Nat} {C : List HP} {k : Value → List HP → Prop} {inf : TypeInfo} {z : Value} (hst : P.underlying t = some (.slice e)) (hi : P.info? e = some inf) (hsz : inf.size = 1) (hby : inf.bytes = 1) (hz : inf.zero = some z) (hzc : z.cells = #[.int .u8 0]) (hx : opd a x = .int .i64 n) (hy : opd a y = .int .i64 n) (hn : n ≤ 1000000)
    (hk : ∀ r, k (.slice (some ⟨r, 0, none⟩) n n) (row (some ⟨r, 0, none⟩) n e byteC (List.replicate n 0) :: C)) : EvOp P ⟨d, .makeSlice t x y, ty, pos, after, g⟩ a C k := fun H hs => by
  refine evOp_of ?_
  have hw : IntKind.i64.wrap (n : Int) = n := wrap64 (by omega) (by omega)
  simp only [execOp, hx, hy]
  unfold Instr.makeSlice
  simp only [ev_bind']
  rw [ev_pr_eq (pr_underlying hst)]
  simp only [ev_bind']
  rw [ev_pr_eq (show (asInt (.int .i64 (n : Int))).pr P = some (n : Int) from rfl), ev_pr_eq (show (asInt (.int .i64 (n : Int))).pr P = some (n : Int) from rfl), ev_pr_eq (pr_typeInfo hi)]
  simp only [hw, hby]
  have h48 : (2 : Int) ^ 48 = 281474976710656 := by decide
  rw [if_neg (by simp only [h48, Bool.or_eq_true, decide_eq_true_eq]; omega)]
  simp only [ev_bind']
  refine ev_askRoom ?_
  rw [ev_pr_eq (pr_sizeOf hi), hsz]
  simp only [Int.toNat_natCast, Nat.mul_one]
  have hz0 : byteV 0 = .int .u8 0 := rfl
  have fin : ∀ (zs : Array Value) (r : Nat), H r = none → ((Array.range n).map (fun i => zs[i % zs.size]!)).toList = (List.replicate n (0 : UInt8)).map byteV → upV k (.slice (some ⟨r, 0, none⟩) n n) (hupd H r (.cells ((Array.range n).map (fun i => zs[i % zs.size]!)).toList e true)) := fun zs r hr he => by
    rw [he]
    refine ⟨_, row_sats (pre := []) (post := []) rfl ?_ (by rw [List.length_replicate]; exact Nat.le_refl _) (by rw [List.length_replicate]; simp), hk r⟩
    rw [List.nil_append, List.append_nil, bytes_flat]
    exact sats_new hr hs
  by_cases hn0 : n = 0
  · subst hn0
    rw [if_pos rfl]
    simp only [ev_bind', newRow]
    rw [ev_pr_eq (show (pure #[] : Sem (Array Value)).pr P = some #[] from rfl)]
    intro r hr
    exact ⟨rfl, fin #[] r hr (by simp)⟩
  · rw [if_neg hn0]
    simp only [ev_bind', newRow]
    rw [ev_pr_eq (show (zeroValue e).pr P = some z from by simp only [zeroValue, pr_bind, pr_typeInfo hi, Option.bind_some, hz]; rfl)]
    rw [ev_pr_eq (show (pure z.cells : Sem (Array Value)).pr P = some z.cells from rfl), hzc]
    intro r hr
    exact ⟨rfl, fin _ r hr (by
      apply List.ext_getElem (by simp)
      intro i h1 h2
      simp [Nat.mod_one]
      rfl)⟩
/-- the zero of bytes -/
def byteZ (P : Program) (e : TypeId) : Prop := ∃ inf z, P.info? e = some inf ∧ inf.size = 1 ∧ inf.bytes = 1 ∧ inf.zero = some z ∧ z.cells = #[.int .u8 0]
variable {ops : Array Oper} {Q : Fr → List HP → Prop} {C : List HP} {c d' : Nat} {gd : Bool} {es : ET} {hist : List (List HP)}
theorem G_makeBytes {e : TypeId} {n : Nat} (h : ∀ r, spl gd (.slice (some ⟨r, 0, none⟩) n n) fun v => evG P ops Q es (C :: hist) (upd a d' v) (row (some ⟨r, 0, none⟩) n e byteC (List.replicate n 0) :: C)) (hx : opd a x = .int .i64 n := by exact rfl) (hy : opd a y = .int .i64 n := by exact rfl) (hst : P.underlying t = some (.slice e) := by exact rfl) (hz : byteZ P e := by exact ⟨_, _, rfl, rfl, rfl, rfl, rfl⟩) (hn : n ≤ 1000000 := by first | omega | assumption)
    (hk : kd P (.makeSlice t x y) = .other := by exact rfl) (hw : wantB ops ⟨some d', .makeSlice t x y, ty, pos, after, g⟩ a = true := by exact rfl) : evG P ops Q (ET.cons (c, gd, ⟨some d', .makeSlice t x y, ty, pos, after, g⟩) es) hist a C := by
  obtain ⟨inf, z, h1, h2, h3, h4, h5⟩ := hz
  exact G_o (hk := hk) (hw := hw) (eo_makeBytes hst h1 h2 h3 h4 h5 hx hy hn h)
end
end Go.Sl
