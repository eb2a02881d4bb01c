/- The end of a walk, calls of contracts, loops: lemmas; each with the conditions that it states. -/
import Derived.Test.YtgdfmbnbknhhiaaT6
namespace Go.Sl
theorem Ent.pickPA {A : HP} {C R C' : List HP} (hq : Pers A := by ((repeat (first | exact pers_ro _ _ _ | exact pers_rrow _ _ _ | exact pers_pure _ | refine pers_sep ?_ ?_ | refine pers_ex fun _ => ?_)) <;> exact pers_pure _)) (hp : Pick A C R := by ((repeat (first | exact Pick.here | apply Pick.there)) <;> exact Pick.here)) (h : Ent (A :: R) C') : Ent C (A :: C') := Ent.pickP hq hp h
theorem rc_tmpA {P : Program} {a : Fr} {C : List HP} {t : Tmp} {rs : List ResultVar} {v : Value} {vs : List Value} (hx : force (a t) = some v := by exact rfl) (h : resVC P a C rs vs) : resVC P a C (.tmp t :: rs) (v :: vs) := rc_tmp hx h
theorem rc_cellA {P : Program} {a : Fr} {C : List HP} {p : Tmp} {t : TypeId} {B off : Nat} {cs : List Value} {rs : List ResultVar} {v : Value} {vs : List Value} (hx : a p = .pointer (some ⟨B, off, none⟩) := by exact rfl) (hb : Has C B cs := by ((repeat (first | exact has_pt | exact has_ro | apply has_there)) <;> exact has_pt)) (hv : ldC P t cs off = some v := by exact rfl) (h : resVC P a C rs vs) : resVC P a C (.cell p t :: rs) (v :: vs) := rc_cell hx hb hv h
theorem Ent.pureA {p : Prop} {C C' : List HP} (hp : p := by first | assumption | exact rfl | omega) (h : Ent C C') : Ent C (pureP p :: C') := Ent.pure hp h
section
variable {P : Program} {fn : Func} {K : Value → List HP → Prop} {a : Fr} {C : List HP} {v : Value} {f : FuncId} {args : Array Value}
def RetG (C : List HP) (K : Value → List HP → Prop) (v : Value) : Prop := ∃ C', Ent C C' ∧ K v C'
def isRet : Exit → Bool
  | .ret => true
  | .normal => true
  | _ => false
theorem RETC {e : Exit} {rs : List ResultVar} {vs : List Value} (h : RetG C K v) (hE : isRet e = true := by exact rfl) (hl : copyL fn.results.toList = some rs := by exact rfl)
    (hv : resVC P a C rs vs := by first | exact rc_nil | exact rc_tmpA (h := by first | exact rc_nil | exact rc_tmpA (h := by first | exact rc_nil | exact rc_tmpA (h := by first | exact rc_nil | exact rc_tmpA (h := by first | exact rc_nil | exact rc_tmpA (h := by exact rc_nil) | exact rc_cellA (h := by exact rc_nil)) | exact rc_cellA (h := by first | exact rc_nil | exact rc_tmpA (h := by exact rc_nil) | exact rc_cellA (h := by exact rc_nil))) | exact rc_cellA (h := by first | exact rc_nil | exact rc_tmpA (h := by first | exact rc_nil | exact rc_tmpA (h := by exact rc_nil) | exact rc_cellA (h := by exact rc_nil)) | exact rc_cellA (h := by first | exact rc_nil | exact rc_tmpA (h := by exact rc_nil) | exact rc_cellA (h := by exact rc_nil)))) | exact rc_cellA (h := by first | exact rc_nil | exact rc_tmpA (h := by first | exact rc_nil | exact rc_tmpA (h := by first | exact rc_nil | exact rc_tmpA (h := by exact rc_nil) | exact rc_cellA (h := by exact rc_nil)) | exact rc_cellA (h := by first | exact rc_nil | exact rc_tmpA (h := by exact rc_nil) | exact rc_cellA (h := by exact rc_nil))) | exact rc_cellA (h := by first | exact rc_nil | exact rc_tmpA (h := by first | exact rc_nil | exact rc_tmpA (h := by exact rc_nil) | exact rc_cellA (h := by exact rc_nil)) | exact rc_cellA (h := by first | exact rc_nil | exact rc_tmpA (h := by exact rc_nil) | exact rc_cellA (h := by exact rc_nil))))) | exact rc_cellA (h := by first | exact rc_nil | exact rc_tmpA (h := by first | exact rc_nil | exact rc_tmpA (h := by first | exact rc_nil | exact rc_tmpA (h := by first | exact rc_nil | exact rc_tmpA (h := by exact rc_nil) | exact rc_cellA (h := by exact rc_nil)) | exact rc_cellA (h := by first | exact rc_nil | exact rc_tmpA (h := by exact rc_nil) | exact rc_cellA (h := by exact rc_nil))) | exact rc_cellA (h := by first | exact rc_nil | exact rc_tmpA (h := by first | exact rc_nil | exact rc_tmpA (h := by exact rc_nil) | exact rc_cellA (h := by exact rc_nil)) | exact rc_cellA (h := by first | exact rc_nil | exact rc_tmpA (h := by exact rc_nil) | exact rc_cellA (h := by exact rc_nil)))) | exact rc_cellA (h := by first | exact rc_nil | exact rc_tmpA (h := by first | exact rc_nil | exact rc_tmpA (h := by first | exact rc_nil | exact rc_tmpA (h := by exact rc_nil) | exact rc_cellA (h := by exact rc_nil)) | exact rc_cellA (h := by first | exact rc_nil | exact rc_tmpA (h := by exact rc_nil) | exact rc_cellA (h := by exact rc_nil))) | exact rc_cellA (h := by first | exact rc_nil | exact rc_tmpA (h := by first | exact rc_nil | exact rc_tmpA (h := by exact rc_nil) | exact rc_cellA (h := by exact rc_nil)) | exact rc_cellA (h := by first | exact rc_nil | exact rc_tmpA (h := by exact rc_nil) | exact rc_cellA (h := by exact rc_nil)))))) (ht : force (tupV vs) = some v := by exact rfl) :
    retC P fn K e a C := by
  obtain ⟨C', he, hk⟩ := h
  cases e <;> first | (cases hE; done) | exact retC_r hl hv ht he hk | exact retC_n hl hv ht he hk
theorem ret_of {C' : List HP} (he : Ent C C') (hk : K v C') : RetG C K v := ⟨C', he, hk⟩
theorem ret_done {C' : List HP} (hk : K v C') (he : Ent C C' := by ((iterate 30 (try (first | exact Ent.refl _ | exact Ent.nil | (apply Ent.pick; focus ((repeat (first | exact Pick.here | apply Pick.there)) <;> exact Pick.here)) | (apply Ent.pickP; focus ((repeat (first | exact pers_ro _ _ _ | exact pers_rrow _ _ _ | exact pers_pure _ | refine pers_sep ?_ ?_ | refine pers_ex fun _ => ?_)) <;> exact pers_pure _); focus ((repeat (first | exact Pick.here | apply Pick.there)) <;> exact Pick.here)) | (apply Ent.pure; focus (first | assumption | exact rfl | omega)) | apply Ent.nilrow' | apply Ent.ex | apply Ent.sep | apply Ent.drop))) <;> exact Ent.nil)) : RetG C K v := ⟨C', he, hk⟩
theorem CA {C' : List HP} (he : Ent C C' := by ((iterate 30 (try (first | exact Ent.refl _ | exact Ent.nil | (apply Ent.pick; focus ((repeat (first | exact Pick.here | apply Pick.there)) <;> exact Pick.here)) | (apply Ent.pickP; focus ((repeat (first | exact pers_ro _ _ _ | exact pers_rrow _ _ _ | exact pers_pure _ | refine pers_sep ?_ ?_ | refine pers_ex fun _ => ?_)) <;> exact pers_pure _); focus ((repeat (first | exact Pick.here | apply Pick.there)) <;> exact Pick.here)) | (apply Ent.pure; focus (first | assumption | exact rfl | omega)) | apply Ent.nilrow' | apply Ent.ex | apply Ent.sep | apply Ent.drop))) <;> exact Ent.nil)) (h : CallT P f args C' K) : CallT P f args C K := CallT.ent he h
theorem EA {c : Code} {Q : Exit → Fr → List HP → Prop} {C' : List HP} (he : Ent C C' := by ((iterate 30 (try (first | exact Ent.refl _ | exact Ent.nil | (apply Ent.pick; focus ((repeat (first | exact Pick.here | apply Pick.there)) <;> exact Pick.here)) | (apply Ent.pickP; focus ((repeat (first | exact pers_ro _ _ _ | exact pers_rrow _ _ _ | exact pers_pure _ | refine pers_sep ?_ ?_ | refine pers_ex fun _ => ?_)) <;> exact pers_pure _); focus ((repeat (first | exact Pick.here | apply Pick.there)) <;> exact Pick.here)) | (apply Ent.pure; focus (first | assumption | exact rfl | omega)) | apply Ent.nilrow' | apply Ent.ex | apply Ent.sep | apply Ent.drop))) <;> exact Ent.nil)) (h : evC P c Q a C') : evC P c Q a C := evC_ent he h
theorem kv {v v' : Value} (h : K v C) (e : v = v') : K v' C := e ▸ h
theorem ki {k : IntKind} {x y : Int} (h : K (.int k x) C) (e : x = y) : K (.int k y) C := e ▸ h
theorem kb {b c : Bool} (h : K (.bool b) C) (e : (b = true) ↔ (c = true)) : K (.bool c) C := by
  have : b = c := by cases b <;> cases c <;> simp_all
  exact this ▸ h
end
/-- the end of a turn -/
def TurnG (n : Nat) (I : Nat → Fr → List HP → Prop) (a : Fr) (C : List HP) : Prop := ∃ m C'', m < n ∧ Ent C C'' ∧ I m a C''
section
variable {P : Program} {Q : Exit → Fr → List HP → Prop} {a : Fr} {C : List HP} {x : Code} {id : Nat}
theorem LOOP (I : Nat → Fr → List HP → Prop) (n : Nat) (h0 : TurnG (n + 1) I a C) (hr : ∀ n a C, I n a C → evC P x (thenC (TurnG n I) Q) a C) : evC P (.loop x) Q a C := by
  obtain ⟨m, C0, _, he, hI⟩ := h0
  exact c_loop I m C0 he hI hr
theorem turn {n : Nat} {I : Nat → Fr → List HP → Prop} (m : Nat) {C' : List HP} (hi : I m a C') (hm : m < n := by omega) (he : Ent C C' := by ((iterate 30 (try (first | exact Ent.refl _ | exact Ent.nil | (apply Ent.pick; focus ((repeat (first | exact Pick.here | apply Pick.there)) <;> exact Pick.here)) | (apply Ent.pickP; focus ((repeat (first | exact pers_ro _ _ _ | exact pers_rrow _ _ _ | exact pers_pure _ | refine pers_sep ?_ ?_ | refine pers_ex fun _ => ?_)) <;> exact pers_pure _); focus ((repeat (first | exact Pick.here | apply Pick.there)) <;> exact Pick.here)) | (apply Ent.pure; focus (first | assumption | exact rfl | omega)) | apply Ent.nilrow' | apply Ent.ex | apply Ent.sep | apply Ent.drop))) <;> exact Ent.nil)) : TurnG n I a C := ⟨m, C', hm, he, hi⟩
def CutG (I : Fr → List HP → Prop) (a : Fr) (C : List HP) : Prop := ∃ C'', Ent C C'' ∧ I a C''
theorem CUT {y : Code} (I : Fr → List HP → Prop) (h : evC P x (thenC (CutG I) Q) a C) (k : ∀ a C, I a C → evC P y Q a C) : evC P (.seq x y) Q a C := c_cut I h k
theorem cut_done {I : Fr → List HP → Prop} {C' : List HP} (hi : I a C') (he : Ent C C' := by ((iterate 30 (try (first | exact Ent.refl _ | exact Ent.nil | (apply Ent.pick; focus ((repeat (first | exact Pick.here | apply Pick.there)) <;> exact Pick.here)) | (apply Ent.pickP; focus ((repeat (first | exact pers_ro _ _ _ | exact pers_rrow _ _ _ | exact pers_pure _ | refine pers_sep ?_ ?_ | refine pers_ex fun _ => ?_)) <;> exact pers_pure _); focus ((repeat (first | exact Pick.here | apply Pick.there)) <;> exact Pick.here)) | (apply Ent.pure; focus (first | assumption | exact rfl | omega)) | apply Ent.nilrow' | apply Ent.ex | apply Ent.sep | apply Ent.drop))) <;> exact Ent.nil)) : CutG I a C := ⟨C', he, hi⟩
end
/-- what is left for later -/
structure Hold (p : Prop) : Prop where
  h : p
/-- all orders of a region end alike -/
theorem c_drawTC {P : Program} {Q : Exit → Fr → List HP → Prop} {a : Fr} {C : List HP} {id : Nat} {ol : List Oper} {es : ET} {t : Tr} (I : Fr → List HP → Prop) (hl : trF (canonT P ol.toArray (Region.before ol.toArray) (othersOf P ol.toArray).length [] (othersOf P ol.toArray)) = some t) (hc : treeOk P ol.toArray (Region.before ol.toArray) t = true) (he : entT ol.toArray t = some es)
    (h : evG P ol.toArray (CutG I) es [] a C) (k : ∀ a C, I a C → Hold (Q .normal a C)) : evC P (.region id ol.toArray true) Q a C := fun H hs =>
  ev_monoQ _ (fun e a H hq => by
    obtain ⟨C', h1, h2⟩ := hq
    cases e <;> first
      | exact ⟨C', h1, h2⟩
      | (obtain ⟨C'', hE, hI⟩ := h2; exact ⟨C'', hE H h1, (k _ _ hI).h⟩)) a H ((c_drawT (id := id) (Q := thenC (CutG I) Q) hl hc he h) H hs)
end Go.Sl
