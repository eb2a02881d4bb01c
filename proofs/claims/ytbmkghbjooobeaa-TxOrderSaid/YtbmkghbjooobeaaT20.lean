/- Facts of rows and of parts of rows: lemmas; each with the conditions that it states. -/
import Derived.Test.YtbmkghbjooobeaaT19
namespace Go.Sl
section
variable {P : Program} {α : Type} {E : Cod α} {A : Option Addr} {c : Nat} {e : TypeId} {l : List α} {C R : List HP} {K : Value → List HP → Prop}
theorem row_some {f : FuncId} {args : Array Value} (hp : Pick (row A c e E l) C R) (hl : 0 < l.length) (h : ∀ B off, A = some ⟨B, off, none⟩ → CallT P f args C K) : CallT P f args C K := fun H hs => by
  rcases sats_row (hp.sats hs) with ⟨_, g2, _⟩ | ⟨B, pre, post, g1, _⟩
  · subst g2; simp at hl
  · exact h _ _ g1 H hs
theorem sub_at {B off l m j : Nat} {A' : Option Addr} (h : SubA (some ⟨B, off, none⟩) A' l m 1) (hl : l = j) (hm : j < m) : A' = some ⟨B, off + j, none⟩ := by
  subst hl
  unfold SubA at h
  rw [h, if_neg (by omega), Nat.mul_one]
  simp [Addr.add]
/-- three parts out of one -/
theorem call_open3 {f : FuncId} {args : Array Value} {A B : HP} {p : Prop} (h : p → CallT P f args (A :: B :: R) K) : CallT P f args (sep A (sep B (pureP p)) :: R) K :=
  CallT.sep (CallT.ent (Ent.trans (Ent.cons Ent.unsep) (fun _ hs => (hs.perm (List.Perm.trans (List.Perm.cons _ (List.Perm.swap _ _ _)) (List.Perm.swap _ _ _))))) (CallT.pure fun hI => h hI))
theorem ent_fold3 {A B : HP} {p : Prop} (h : p) : Ent (A :: B :: R) (sep A (sep B (pureP p)) :: R) :=
  Ent.sep (Ent.pick Pick.here (Ent.sep (Ent.pick Pick.here (Ent.pure h (Ent.refl _)))))
/-- four parts out of one -/
theorem call_open4 {f : FuncId} {args : Array Value} {A B D : HP} {p : Prop} (h : p → CallT P f args (A :: B :: D :: R) K) : CallT P f args (sep A (sep B (sep D (pureP p))) :: R) K :=
  CallT.sep (CallT.ent (Ent.trans (Ent.cons Ent.unsep) (Ent.trans (Ent.cons (Ent.cons Ent.unsep)) (fun _ hs => hs.perm (List.Perm.symm (List.perm_middle (l₁ := [A, B, D])).symm)))) (CallT.pure fun hI => h hI))
theorem ent_fold4 {A B D : HP} {p : Prop} (h : p) : Ent (A :: B :: D :: R) (sep A (sep B (sep D (pureP p))) :: R) :=
  Ent.sep (Ent.pick Pick.here (Ent.sep (Ent.pick Pick.here (Ent.sep (Ent.pick Pick.here (Ent.pure h (Ent.refl _)))))))
end
end Go.Sl
namespace Go.Sl
section
variable {P : Program} {ops : Array Oper} {Q : Fr → List HP → Prop} {a : Fr} {C : List HP} {c : Nat} {gd : Bool} {es : ET} {hist : List (List HP)} {d' : Tmp}
variable {ty : TypeId} {pos : String} {after : Array Edge} {g : Option (Nat × Bool)} {t yt : TypeId} {x y : Operand}
/-- what is left over, of numbers below zero too -/
theorem G_remT {k : IntKind} {m n : Int} (h : spl gd (.int k (m.tmod n)) fun v => evG P ops Q es hist (upd a d' v) C) (hx : opd a x = .int k m := by exact rfl) (hy : opd a y = .int k n := by exact rfl) (h1 : n ≠ 0 := by first | omega | assumption) (hw : wantB ops ⟨some d', .binOp .rem t x y yt, ty, pos, after, g⟩ a = true := by exact rfl) : evG P ops Q (ET.cons (c, gd, ⟨some d', .binOp .rem t x y yt, ty, pos, after, g⟩) es) hist a C :=
  evG_p rfl hw (pv_rem hx hy h1) h
end
end Go.Sl
namespace Go.Sl
theorem CallT.satsK {P : Program} {f : FuncId} {args : Array Value} {C : List HP} {K K' : Value → List HP → Prop} (h : CallT P f args C K') (hk : ∀ v C' H, K' v C' → Sats C' H → ∃ C'', Sats C'' H ∧ K v C'') : CallT P f args C K := fun H hs =>
  (h H hs).mono fun v H' ⟨_, h1, h2⟩ => hk v _ H' h2 h1
theorem Sats.sep2 {A B : HP} {C : List HP} {H : Hp} (h : Sats (sep A B :: C) H) : Sats (A :: B :: C) H := Sats.star (l := [A, B]) h
end Go.Sl
