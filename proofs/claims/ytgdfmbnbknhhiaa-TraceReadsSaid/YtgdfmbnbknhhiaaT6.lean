/- Slices of slices; bytes to strings: lemmas; each with the conditions that it states. -/
import Derived.Test.YtgdfmbnbknhhiaaT5
namespace Go.Sl
/-- where a part of a slice begins -/
def SubA (A A' : Option Addr) (l m sz : Nat) : Prop := A' = (if m = l then A else A.map (·.add (l * sz)))
section
variable {α : Type} {C : List HP} {A A' : Option Addr} {E : Cod α} {xs : List α} {l m k sz : Nat}
theorem view_subA (h : View C A E xs) (hs : SubA A A' l m E.sz) (hl : l ≤ xs.length) (hm : xs.length ≤ m ∨ l + k ≤ m) : View C A' E ((xs.drop l).take k) := by
  unfold SubA at hs
  cases A with
  | none =>
    have : A' = none := by rw [hs]; split <;> rfl
    subst this
    intro H hH
    rcases h H hH with h2 | ⟨B, pre, post, e, rw, h2, _⟩
    · subst h2; exact .inl (by simp)
    · cases h2
  | some ad =>
    obtain ⟨B, off, sp⟩ := ad
    intro H hH
    have hk := h H hH
    rcases hk with h1 | ⟨B', pre, post, e, rw, h1, h2⟩
    · subst h1; exact .inl (by simp)
    · have hsp : sp = none := by injection h1 with h1; injection h1
      subst hsp
      by_cases hml : m = l
      · rw [if_pos hml] at hs
        have hnil : (xs.drop l).take k = [] := by
          rcases hm with hm | hm
          · rw [List.drop_eq_nil_of_le (by omega)]; simp
          · have : k = 0 := by omega
            subst this; simp
        rw [hnil, hs]
        cases h1
        exact .inr ⟨_, pre, xs.flatMap E.enc ++ post, e, rw, rfl, by rw [h2]; simp⟩
      · rw [if_neg hml] at hs
        refine view_sub h k hl ?_ H hH
        rw [hs]
        simp only [Option.map_some, add_off]
theorem rrow_sub {H : Hp} (h : rrow A E xs H) (hs : SubA A A' l m E.sz) (hl : l ≤ xs.length) (hm : xs.length ≤ m ∨ l + k ≤ m) : rrow A' E ((xs.drop l).take k) H := by
  have hv : View [rrow A E xs] A E xs := view_rrow
  have hs1 : Sats [rrow A E xs] H := ⟨H, fun _ => none, (fun _ _ _ _ h => by cases h), Hle.refl _, (fun _ _ h => by cases h), h, trivial⟩
  exact view_subA hv hs hl hm H hs1
theorem row_sub {c c' : Nat} {e : TypeId} {H : Hp} (h : row A c e E xs H) (hs : SubA A A' l m E.sz) (hlk : l + k ≤ xs.length) (hlm : l + k ≤ m) (hm : m ≤ c) : row A' (m - l) e E ((xs.drop l).take k) H := by
  unfold SubA at hs
  rcases h with ⟨rfl, rfl, rfl⟩ | ⟨B, pre, post, rfl, h2, h3, h4⟩
  · have : A' = none := by rw [hs]; split <;> rfl
    exact .inl ⟨this, by simp, by omega⟩
  · have hlen : ((xs.drop l).take k).length = k := by simp; omega
    by_cases hml : m = l
    · rw [if_pos hml] at hs
      have hk0 : k = 0 := by omega
      subst hk0
      refine .inr ⟨B, pre, xs.flatMap E.enc ++ post, hs, by rw [h2]; simp, by simp, ?_⟩
      rw [hml]; simp
    · rw [if_neg hml] at hs
      simp only [Option.map_some, add_off] at hs
      refine .inr ⟨B, pre ++ (xs.take l).flatMap E.enc, ((xs.drop l).drop k).flatMap E.enc ++ post, ?_, ?_, ?_, ?_⟩
      · rw [hs, List.length_append, E.flat_len, List.length_take, Nat.min_eq_left (by omega)]
      · rw [h2]
        have e1 : xs = xs.take l ++ ((xs.drop l).take k ++ (xs.drop l).drop k) := by rw [List.take_append_drop, List.take_append_drop]
        have e2 : xs.flatMap E.enc = (xs.take l).flatMap E.enc ++ (((xs.drop l).take k).flatMap E.enc ++ ((xs.drop l).drop k).flatMap E.enc) := by
          rw [← List.flatMap_append, ← List.flatMap_append, ← e1]
        rw [e2]
        simp only [List.append_assoc]
      · rw [hlen]; omega
      · rw [hlen, List.length_append, E.flat_len]
        simp only [List.length_drop]
        have h5 : (m - l - k) * E.sz ≤ (xs.length - l - k) * E.sz + (c - xs.length) * E.sz := by
          rw [← Nat.add_mul]
          exact Nat.mul_le_mul_right _ (by omega)
        omega
end
section
variable {P : Program} {a : Fr} {d : Option Tmp} {ty : TypeId} {pos : String} {after : Array Edge} {g : Option (Nat × Bool)} {t yt : TypeId} {x y z : Operand}
/-- a bound of a part -/
def bndV (a : Fr) (dflt : Int) : Option Operand → Option Int
  | none => some dflt
  | some o => match opd a o with
    | .int _ n => some n
    | _ => none
theorem bnd_eq {a : Fr} {dflt n : Int} {o : Option Operand} (h : bndV a dflt o = some n) : (o = none ∧ n = dflt) ∨ ∃ o' k, o = some o' ∧ opd a o' = .int k n := by
  unfold bndV at h
  split at h
  · exact .inl ⟨rfl, (Option.some.inj h).symm⟩
  · rename_i o'
    split at h
    · rename_i k n' he; cases h; exact .inr ⟨o', k, rfl, he⟩
    · cases h
theorem pr_sliceBound {k : IntKind} {j : Int} {n : Nat} {code : BoundsCode} (h0 : 0 ≤ j) (h1 : j ≤ n) : (Instr.sliceBound (.int k j) n code).pr P = some j.toNat := by
  simp only [Instr.sliceBound, pr_bind]
  rw [show (asIntOf (.int k j)).pr P = some (k, j) from rfl, Option.bind_some]
  simp only
  rw [if_pos ⟨h0, h1⟩]
  rfl
theorem pr_pure' {β : Type} (z : β) : (Sem.pure z).pr P = some z := rfl
theorem pr_bounds {n cp : Nat} {lo hi mx : Option Operand} {l h m : Int} (hl : bndV a 0 lo = some l) (hh : bndV a n hi = some h) (hm : bndV a cp mx = some m)
    (hmx : mx.isSome = true → hi.isSome = true) (h0 : 0 ≤ l) (h1 : l ≤ h) (h2 : h ≤ m) (h3 : m ≤ cp) : (Instr.sliceBounds true n cp (lo.map (opd a)) (hi.map (opd a)) (mx.map (opd a))).pr P = some (l.toNat, h.toNat, m.toNat) := by
  have b : ∀ (k : IntKind) (j : Int) (n : Nat) (code : BoundsCode), 0 ≤ j → j ≤ n → (Instr.sliceBound (.int k j) n code).pr P = some j.toNat := fun _ _ _ _ h0 h1 => pr_sliceBound h0 h1
  rcases bnd_eq hm with ⟨rfl, rfl⟩ | ⟨om, km, rfl, em⟩ <;> rcases bnd_eq hh with ⟨rfl, rfl⟩ | ⟨oh, kh, rfl, eh⟩ <;> rcases bnd_eq hl with ⟨rfl, rfl⟩ | ⟨ol, kl, rfl, el⟩
  · rfl
  · simp only [Instr.sliceBounds, pr_bind, pr_pure', pure, Option.bind_some, Option.map_none, Option.map_some, el]
    rw [b _ _ _ _ (by omega) (by omega)]; rfl
  · simp only [Instr.sliceBounds, pr_bind, pr_pure', pure, Option.bind_some, Option.map_none, Option.map_some, eh]
    rw [b _ _ _ _ (by omega) (by omega)]; rfl
  · simp only [Instr.sliceBounds, pr_bind, pr_pure', pure, Option.bind_some, Option.map_none, Option.map_some, eh, el]
    rw [b _ _ _ _ (by omega) (by omega), Option.bind_some, b _ _ _ _ (by omega) (by omega)]; rfl
  · exact absurd (hmx rfl) (by simp)
  · exact absurd (hmx rfl) (by simp)
  · simp only [Instr.sliceBounds, pr_bind, pr_pure', pure, Option.bind_some, Option.map_none, Option.map_some, eh, em]
    rw [b _ _ _ _ (by omega) (by omega), Option.bind_some, b _ _ _ _ (by omega) (by omega)]; rfl
  · simp only [Instr.sliceBounds, pr_bind, pr_pure', pure, Option.bind_some, Option.map_none, Option.map_some, eh, em, el]
    rw [b _ _ _ _ (by omega) (by omega), Option.bind_some, b _ _ _ _ (by omega) (by omega), Option.bind_some, b _ _ _ _ (by omega) (by omega)]; rfl
theorem pv_slice {A : Option Addr} {n cp sz : Nat} {lo hi mx : Option Operand} {l h m : Int} (ht : elemSz P t = some sz) (hx : opd a x = .slice A n cp) (hl : bndV a 0 lo = some l) (hh : bndV a n hi = some h) (hm : bndV a cp mx = some m)
    (hmx : mx.isSome = true → hi.isSome = true) (h0 : 0 ≤ l) (h1 : l ≤ h) (h2 : h ≤ m) (h3 : m ≤ cp) : pureV P ⟨d, .slice t x lo hi mx, ty, pos, after, g⟩ a = some (.slice (if m.toNat = l.toNat then A else A.map (·.add (l.toNat * sz))) (h.toNat - l.toNat) (m.toNat - l.toNat)) := by
  obtain ⟨e, i, hu, hi', rfl⟩ := elemSz_spec ht
  refine pureV_pr ?_
  simp only [execOp, hx, Instr.sliceAt, pr_bind]
  rw [pr_underlying hu, Option.bind_some]
  simp only [Instr.slice, pr_bind]
  rw [pr_underlying hu, Option.bind_some]
  simp only [pr_bind]
  rw [pr_bounds hl hh hm hmx h0 h1 h2 h3, Option.bind_some]
  simp only [pr_bind]
  rw [pr_sizeOf hi', Option.bind_some]; rfl
end
section
variable {P : Program} {ops : Array Oper} {Q : Fr → List HP → Prop} {a : Fr} {C : List HP} {c : Nat} {gd : Bool} {es : ET} {hist : List (List HP)} {d' : Tmp} {d : Option Tmp} {v : Value}
variable {ty : TypeId} {pos : String} {after : Array Edge} {g : Option (Nat × Bool)} {t yt : TypeId} {x y z : Operand} {op : Op} {α : Type} {E : Cod α} {xs : List α}
theorem evG_fact' {p : Prop} (hp : ∀ H, Sats C H → p) (h : p → evG P ops Q es hist a C) : evG P ops Q es hist a C := fun Hs H h1 h2 => h (hp H h2) Hs H h1 h2
/-- a part, and where it begins -/
theorem G_sliceV {A : Option Addr} {n cp sz : Nat} {lo hi mx : Option Operand} {l h m : Int} (hk : ∀ A', SubA A A' l.toNat m.toNat sz → spl gd (.slice A' (h.toNat - l.toNat) (m.toNat - l.toNat)) fun v => evG P ops Q es hist (upd a d' v) C)
    (hx : opd a x = .slice A n cp := by exact rfl) (ht : elemSz P t = some sz := by exact rfl) (hl : bndV a 0 lo = some l := by exact rfl) (hh : bndV a n hi = some h := by exact rfl) (hm : bndV a cp mx = some m := by exact rfl) (hmx : mx.isSome = true → hi.isSome = true := by first | exact fun h => h | exact fun _ => rfl)
    (h0 : 0 ≤ l := by first | omega | assumption) (h1 : l ≤ h := by first | omega | assumption) (h2 : h ≤ m := by first | omega | assumption) (h3 : m ≤ cp := by first | omega | assumption) (hw : wantB ops ⟨some d', .slice t x lo hi mx, ty, pos, after, g⟩ a = true := by exact rfl) :
    evG P ops Q (ET.cons (c, gd, ⟨some d', .slice t x lo hi mx, ty, pos, after, g⟩) es) hist a C :=
  evG_p rfl hw (pv_slice ht hx hl hh hm hmx h0 h1 h2 h3) (hk _ rfl)
/-- of a row that nobody writes -/
theorem G_sliceR {A : Option Addr} {n cp sz : Nat} {lo hi mx : Option Operand} {l h m : Int} (hk : ∀ A', spl gd (.slice A' (h.toNat - l.toNat) (m.toNat - l.toNat)) fun v => evG P ops Q es hist (upd a d' v) (rrow A' E ((xs.drop l.toNat).take (h.toNat - l.toNat)) :: C))
    (hx : opd a x = .slice A n cp := by exact rfl) {R : List HP} (hp : Pick (rrow A E xs) C R := by ((repeat (first | exact Pick.here | apply Pick.there)) <;> exact Pick.here)) (ht : elemSz P t = some sz := by exact rfl) (hsz : E.sz = sz := by exact rfl) (hn : xs.length = n := by first | exact rfl | assumption | omega) (hl : bndV a 0 lo = some l := by exact rfl) (hh : bndV a n hi = some h := by exact rfl) (hm : bndV a cp mx = some m := by exact rfl) (hmx : mx.isSome = true → hi.isSome = true := by first | exact fun h => h | exact fun _ => rfl)
    (h0 : 0 ≤ l := by first | omega | assumption) (h1 : l ≤ h := by first | omega | assumption) (h2 : h ≤ n := by first | omega | assumption) (h2 : h ≤ m := by first | omega | assumption) (h3 : m ≤ cp := by first | omega | assumption) (hw : wantB ops ⟨some d', .slice t x lo hi mx, ty, pos, after, g⟩ a = true := by exact rfl) :
    evG P ops Q (ET.cons (c, gd, ⟨some d', .slice t x lo hi mx, ty, pos, after, g⟩) es) hist a C := by
  refine evG_p rfl hw (pv_slice ht hx hl hh hm hmx h0 h1 h2 h3) ?_
  refine (spl_iff _ _ _).2 (evG_ent (fun H hs => ?_) ((spl_iff _ _ _).1 (hk _)))
  subst hsz
  have hd := ((hp.sats hs).dup (pers_rrow _ _ _))
  have h5 := (Ent.imp (fun H hr => rrow_sub (l := l.toNat) (m := m.toNat) (A' := if m.toNat = l.toNat then A else A.map (·.add (l.toNat * E.sz))) (k := h.toNat - l.toNat) hr rfl (by omega) (.inr (by omega))) (Ent.refl _)) H hd
  exact (Sats.perm (List.Perm.cons _ hp.perm.symm) h5)
/-- of an owned row, of which no more than that part is used any more -/
theorem G_sliceO {A : Option Addr} {n cp c0 sz : Nat} {e : TypeId} {lo hi mx : Option Operand} {l h m : Int} {R : List HP} (hk : ∀ A', spl gd (.slice A' (h.toNat - l.toNat) (m.toNat - l.toNat)) fun v => evG P ops Q es hist (upd a d' v) (row A' (m.toNat - l.toNat) e E ((xs.drop l.toNat).take (h.toNat - l.toNat)) :: R))
    (hx : opd a x = .slice A n cp := by exact rfl) (hp : Pick (row A c0 e E xs) C R := by ((repeat (first | exact Pick.here | apply Pick.there)) <;> exact Pick.here)) (ht : elemSz P t = some sz := by exact rfl) (hsz : E.sz = sz := by exact rfl) (hn : xs.length = n := by first | exact rfl | assumption | omega) (hl : bndV a 0 lo = some l := by exact rfl) (hh : bndV a n hi = some h := by exact rfl) (hm : bndV a cp mx = some m := by exact rfl) (hmx : mx.isSome = true → hi.isSome = true := by first | exact fun h => h | exact fun _ => rfl)
    (h0 : 0 ≤ l := by first | omega | assumption) (h1 : l ≤ h := by first | omega | assumption) (h4 : h ≤ n := by first | omega | assumption) (h2 : (m = cp ∧ cp = c0) ∨ (h ≤ m ∧ m ≤ cp ∧ cp ≤ c0) := by first | exact .inl ⟨rfl, rfl⟩ | exact .inr ⟨by omega, by omega, by omega⟩) (hw : wantB ops ⟨some d', .slice t x lo hi mx, ty, pos, after, g⟩ a = true := by exact rfl) :
    evG P ops Q (ET.cons (c, gd, ⟨some d', .slice t x lo hi mx, ty, pos, after, g⟩) es) hist a C := by
  refine evG_fact' (p := xs.length ≤ c0) (fun H hs => ?_) fun hfact => ?_
  · rcases sats_row (hp.sats hs) with ⟨_, g2, _⟩ | ⟨_, _, _, _, _, g, _⟩
    · subst g2; simp
    · exact g
  have h6 : h ≤ m ∧ m ≤ cp ∧ cp ≤ c0 := by
    rcases h2 with ⟨q1, q2⟩ | q
    · exact ⟨by omega, by omega, by omega⟩
    · exact q
  obtain ⟨h2, h3, h5⟩ := h6
  refine evG_p rfl hw (pv_slice ht hx hl hh hm hmx h0 h1 h2 h3) ?_
  refine (spl_iff _ _ _).2 (evG_ent (fun H hs => ?_) ((spl_iff _ _ _).1 (hk _)))
  subst hsz
  exact (Ent.imp (fun H hr => row_sub (c' := 0) (l := l.toNat) (m := m.toNat) (A' := if m.toNat = l.toNat then A else A.map (·.add (l.toNat * E.sz))) (k := h.toNat - l.toNat) hr rfl (by omega) (by omega) (by omega)) (Ent.refl _)) H (hp.sats hs)
/-- bytes to a string -/
theorem rd_bytesView {A : Option Addr} {n cp : Nat} {bs : List UInt8} {H : Hp} (hv : View C A byteC bs) (hn : bs.length = n) (hs : Sats C H) : (Conv.bytesToString (.slice A n cp)).rd P H = some (.string ⟨bs.toArray⟩) := by
  rcases hv H hs with h2 | ⟨B, pre, post, e, rw, h1, hb⟩
  · subst h2
    subst hn
    cases A <;> rfl
  · subst h1
    rw [bytes_flat] at hb
    simp only [Conv.bytesToString]
    rw [rd_bind]
    have hc : (loadCells ⟨B, pre.length, none⟩ n).rd P H = some (bs.map byteV).toArray := by
      unfold loadCells
      rw [rd_loadCells hb pre.length n 0 #[] (by simp; omega)]
      simp only [List.append_assoc, List.drop_left', Nat.add_zero]
      rw [List.take_append_of_le_length (by simp; omega), List.take_of_length_le (by simp; omega)]
      simp
    rw [hc, Option.bind_some, rd_bind]
    rw [← Array.forIn_toList]
    rw [show (bs.map byteV).toArray.toList = bs.map byteV from rfl, rd_forBytes]
    · simp
      rfl
    · intro b s
      simp [byteV]
      rfl
theorem G_bytesstr {t' e : TypeId} {A : Option Addr} {n cp : Nat} {bs : List UInt8} (h : spl gd (.string ⟨bs.toArray⟩) fun v => evG P ops Q es (C :: hist) (upd a d' v) C) (hx : opd a x = .slice A n cp := by exact rfl) (hs : bytesT P t = some e := by exact rfl) (ht : isStrT P t' = true := by exact rfl)
    (hv : View C A byteC bs := by first | assumption | (((repeat (first | exact view_row | exact view_rrow | exact view_pt | assumption | apply view_there)) <;> exact view_row))) (hn : bs.length = n := by first | assumption | exact rfl) (hk : kd P (.convert t t' x) = .other := by exact rfl) (hw : wantB ops ⟨some d', .convert t t' x, ty, pos, after, g⟩ a = true := by exact rfl) : evG P ops Q (ET.cons (c, gd, ⟨some d', .convert t t' x, ty, pos, after, g⟩) es) hist a C :=
  G_o (hk := hk) (hw := hw) fun H hH => by
    obtain ⟨h1, h2⟩ := bytesT_spec hs
    refine evOp_of ?_
    simp only [execOp, hx, convert, ev_bind']
    rw [ev_pr_eq (pr_underlying h1), ev_pr_eq (pr_underlying (isStrT_spec ht))]
    simp only [ev_bind']
    rw [ev_pr_eq (pr_underlying h2)]
    exact ev_rd_eq (rd_bytesView hv hn hH) ⟨C, hH, h⟩
end
end Go.Sl
