/- An element of an array that is a value: lemmas; each with the conditions that it states. -/
import Derived.Test.YtbmkghbjooobeaaT22
namespace Go.Sl
def arrE (P : Program) (t : TypeId) : Option (Nat × TypeId) := match P.underlying t with
  | some (.array n e) => some (n, e)
  | _ => none
section
variable {P : Program} {a : Fr} {d : Option Tmp} {ty : TypeId} {pos : String} {after : Array Edge} {g : Option (Nat × Bool)} {t u : TypeId} {x y : Operand}
theorem pv_indexArr {k : IntKind} {j : Int} {n sz : Nat} {cs : Array Value} {v : Value} (hx : opd a x = .agg cs) (hy : opd a y = .int k j) (ht : arrE P t = some (n, u)) (hs : infoSz P u = some sz) (h0 : 0 ≤ j) (h1 : j < n) (hv : partV P u cs.toList (j.toNat * sz) = some v) : pureV P ⟨d, .index t x y, ty, pos, after, g⟩ a = some v := by
  unfold arrE at ht
  split at ht
  · rename_i n' e hu
    cases ht
    obtain ⟨i, hi, rfl⟩ := infoSz_spec hs
    refine pureV_pr ?_
    simp only [execOp, hx, hy]
    unfold Instr.index
    rw [pr_bind, pr_bind, show (asIntOf (.int k j)).pr P = some (k, j) from rfl, Option.bind_some]
    simp only
    rw [pr_bind, pr_underlying hu, Option.bind_some]
    simp only
    rw [if_pos ⟨h0, h1⟩, pr_bind, pr_sizeOf hi, Option.bind_some, pr_part hv]
    rfl
  · cases ht
variable {ops : Array Oper} {Q : Fr → List HP → Prop} {C : List HP} {c d' : Nat} {gd : Bool} {es : ET} {hist : List (List HP)}
theorem G_indexArr {k : IntKind} {j : Int} {n sz : Nat} {cs : Array Value} {v : Value} (h : spl gd v fun v => evG P ops Q es hist (upd a d' v) C) (hx : opd a x = .agg cs := by exact rfl) (hy : opd a y = .int k j := by exact rfl) (ht : arrE P t = some (n, u) := by exact rfl) (hs : infoSz P u = some sz := by exact rfl) (h0 : 0 ≤ j := by omega) (h1 : j < n := by omega) (hv : partV P u cs.toList (j.toNat * sz) = some v := by exact rfl)
    (hw : wantB ops ⟨some d', .index t x y, ty, pos, after, g⟩ a = true := by exact rfl) : evG P ops Q (ET.cons (c, gd, ⟨some d', .index t x y, ty, pos, after, g⟩) es) hist a C :=
  evG_p rfl hw (pv_indexArr hx hy ht hs h0 h1 hv) h
end
end Go.Sl
