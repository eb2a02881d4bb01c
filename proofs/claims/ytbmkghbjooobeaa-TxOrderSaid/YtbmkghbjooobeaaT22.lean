/- A field of a value: lemmas; each with the conditions that it states. -/
import Derived.Test.YtbmkghbjooobeaaT21
namespace Go.Sl
def fieldOf (P : Program) (t : TypeId) (f : Nat) : Option (TypeId × Nat) := match P.underlying t with
  | some (.struct fs) => match fs[f]? with
    | some fd => some (fd.type, fd.offset)
    | none => none
  | _ => none
section
variable {P : Program} {a : Fr} {d : Option Tmp} {ty : TypeId} {pos : String} {after : Array Edge} {g : Option (Nat × Bool)} {t u : TypeId} {x : Operand}
theorem pv_fieldV {f off : Nat} {cs : Array Value} {v : Value} (hx : opd a x = .agg cs) (hf : fieldOf P t f = some (u, off)) (hv : partV P u cs.toList off = some v) : pureV P ⟨d, .field t x f, ty, pos, after, g⟩ a = some v := by
  unfold fieldOf at hf
  split at hf
  · rename_i fs hu
    split at hf
    · rename_i fd hfd
      cases hf
      refine pureV_pr ?_
      simp only [execOp, hx]
      unfold Instr.field
      rw [pr_bind, pr_bind, pr_underlying hu, Option.bind_some]
      simp only [hfd]
      rw [pr_bind, show (asAgg (.agg cs)).pr P = some cs from rfl, Option.bind_some, pr_part hv]
      rfl
    · cases hf
  · cases hf
variable {ops : Array Oper} {Q : Fr → List HP → Prop} {C : List HP} {c d' : Nat} {gd : Bool} {es : ET} {hist : List (List HP)}
theorem G_fieldV {f off : Nat} {cs : Array Value} {v : Value} (h : spl gd v fun v => evG P ops Q es hist (upd a d' v) C) (hx : opd a x = .agg cs := by exact rfl) (hf : fieldOf P t f = some (u, off) := by exact rfl) (hv : partV P u cs.toList off = some v := by exact rfl)
    (hw : wantB ops ⟨some d', .field t x f, ty, pos, after, g⟩ a = true := by exact rfl) : evG P ops Q (ET.cons (c, gd, ⟨some d', .field t x f, ty, pos, after, g⟩) es) hist a C :=
  evG_p rfl hw (pv_fieldV hx hf hv) h
end
end Go.Sl
