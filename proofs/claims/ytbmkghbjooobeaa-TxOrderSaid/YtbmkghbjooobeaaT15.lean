/- A new slice with nothing in it: lemmas; each with the conditions that it states. -/
import Derived.Test.YtbmkghbjooobeaaT14
namespace Go.Sl
section
variable {P : Program} {a : Fr} {d : Option Tmp} {ty : TypeId} {pos : String} {after : Array Edge} {g : Option (Nat × Bool)} {t : TypeId}
theorem eo_buildSlice0 {ps : Array (Nat × Operand)} {sz : Nat} {e : TypeId} {H : Hp} {k : Value → Hp → Prop} (hps : ps.toList = []) (he : elemOfS P t = some e) (hc : infoSz P e = some sz)
    (hk : ∀ r, H r = none → k (.slice (some ⟨r, 0, none⟩) 0 0) (hupd H r (.cells [] e true))) : evOp P ⟨d, .buildSlice t 0 ps, ty, pos, after, g⟩ a H k := by
  have hu := elemOfS_spec he
  have hp0 : ps = #[] := by apply Array.ext'; simpa using hps
  subst hp0
  obtain ⟨inf, hi, rfl⟩ := infoSz_spec hc
  refine evOp_of ?_
  simp only [execOp, Instr.buildSlice, ev_bind']
  rw [ev_pr_eq (pr_underlying hu)]
  simp only [ev_bind']
  rw [ev_pr_eq (pr_sizeOf hi), if_neg (by simp)]
  rw [if_pos (by simp)]
  simp only [ev_bind']
  rw [ev_pr_eq (show (pure #[] : Sem (Array Value)).pr P = some #[] from rfl)]
  have hf : ∀ z : Nat → Value, Instr.fill (fun i => some (i * inf.size, inf.size)) ((Array.range (0 * inf.size)).map z) (Array.map (fun x : Nat × Operand => (x.1, opd a x.2)) #[]).toList = some #[] := fun z => by
    simp [Instr.fill]
  rw [hf]
  simp only [ev_bind', newRow]
  intro r hr
  exact ⟨rfl, hk r hr⟩
variable {ops : Array Oper} {Q : Fr → List HP → Prop} {C : List HP} {c d' : Nat} {gd : Bool} {es : ET} {hist : List (List HP)}
theorem G_buildSlice0 {ps : Array (Nat × Operand)} {sz : Nat} {e : TypeId} (h : ∀ r, spl gd (.slice (some ⟨r, 0, none⟩) 0 0) fun v => evG P ops Q es (C :: hist) (upd a d' v) (pt r [] e :: C))
    (hps : ps.toList = [] := by exact rfl) (he : elemOfS P t = some e := by exact rfl) (hc : infoSz P e = some sz := by exact rfl)
    (hw : wantB ops ⟨some d', .buildSlice t 0 ps, ty, pos, after, g⟩ a = true := by exact rfl) : evG P ops Q (ET.cons (c, gd, ⟨some d', .buildSlice t 0 ps, ty, pos, after, g⟩) es) hist a C :=
  evG_o rfl hw fun H hH => eo_buildSlice0 hps he hc fun r hr => ⟨_, sats_new hr hH, h r⟩
end
end Go.Sl
