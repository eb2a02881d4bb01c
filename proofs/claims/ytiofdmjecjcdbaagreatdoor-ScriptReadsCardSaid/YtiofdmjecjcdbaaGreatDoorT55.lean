/- What a run in parts leaves, as a chunk: calls of the evaluator among calls with contracts: lemmas; each with the conditions that it states. -/
import Derived.Test.YtiofdmjecjcdbaaGreatDoorGe
set_option linter.unusedVariables false
set_option linter.unusedSimpArgs false
namespace Go.Ex
open Go Go.Sl
set_option maxHeartbeats 2000000
def live (cb : CB) : Bool := match cb with | .dead => false | _ => true
/-- the heap of a run that is reckoned, as a chunk -/
def evh (ρ : Rho) (hp : T CB) : HP := fun H => RepH ρ hp (fun _ => none) H ∧ allT live hp = true
def imgR (ρ : Rho) (B : Nat) : Prop := ∃ i b N, ρ i = some (B, b, N)
theorem live_ne {cb : CB} (h : live cb = true) : cb ≠ .dead := fun e => by subst e; cases h
theorem DB.own {ρ : Rho} {cb : CB} {H : Hp} {r b N : Nat} (h : DB ρ cb H r b N) (hd : cb ≠ .dead) : ∃ x : Blk, H r = Option.some x ∧ x.own = true := by
  cases cb with
  | cells cs e sz => obtain ⟨pre, vs, post, h1, h2, h3, h4⟩ := h; exact ⟨_, h3, rfl⟩
  | mp es ck => obtain ⟨h0, ms, h1, h2⟩ := h; exact ⟨_, h2, rfl⟩
  | it m s seen last => obtain ⟨h0, rm, bm, Nm, h1, h2⟩ := h; exact ⟨_, h2, rfl⟩
  | dead => exact absurd rfl hd
theorem le_own {x y : Blk} (h : x.le y) (ho : x.own = true) : y = x := by
  rcases h with rfl | ⟨cs, e, rfl, _⟩
  · rfl
  · cases ho
open Classical in
noncomputable def outR (ρ : Rho) (H : Hp) : Hp := fun B => if imgR ρ B then none else H B
open Classical in
noncomputable def inR_ (ρ : Rho) (H : Hp) : Hp := fun B => if imgR ρ B then H B else none
theorem outR_in {ρ : Rho} {H : Hp} {B : Nat} (h : imgR ρ B) : outR ρ H B = none := if_pos h
theorem outR_out {ρ : Rho} {H : Hp} {B : Nat} (h : ¬ imgR ρ B) : outR ρ H B = H B := if_neg h
theorem inR_in {ρ : Rho} {H : Hp} {B : Nat} (h : imgR ρ B) : inR_ ρ H B = H B := if_pos h
theorem inR_out {ρ : Rho} {H : Hp} {B : Nat} (h : ¬ imgR ρ B) : inR_ ρ H B = none := if_neg h
theorem evh_split {ρ : Rho} {hp : T CB} {R : List HP} {H : Hp} (hs : Sats (evh ρ hp :: R) H) : ∃ H0, RepH ρ hp H0 H ∧ Sats R H0 := by
  obtain ⟨H1, H2, hc, h1, h2, ⟨hr, hl⟩, hR⟩ := hs
  have himg : ∀ B, imgR ρ B → ∃ x : Blk, H1 B = Option.some x ∧ x.own = true := fun B ⟨i, b, N, hi⟩ => by
    have hd := hr.dom i _ hi
    cases hg : getN hp i with
    | none => rw [hg] at hd; cases hd
    | some cb =>
      exact DB.own (hr.rep.get hg hi) (live_ne (allT_spec hl i cb hg))
  refine ⟨outR ρ H, ⟨fun B b hb => ?_, fun i cb hi => ?_, fun i r b N hi => outR_in ⟨i, b, N, hi⟩, hr.dom, hr.inj⟩, hR.mono fun B b hb => ?_⟩
  · by_cases h : imgR ρ B
    · rw [outR_in h] at hb; cases hb
    · rw [outR_out h] at hb; exact hb
  · obtain ⟨r, b, N, e1, e2⟩ := hr.rep i cb hi
    refine ⟨r, b, N, e1, e2.at ?_⟩
    obtain ⟨x, g1, g2⟩ := himg r ⟨i, b, N, e1⟩
    obtain ⟨y, g3, g4⟩ := h1 r x g1
    rw [g3, g1, le_own g4 g2]
  · have hn : ¬ imgR ρ B := fun hi => by
      obtain ⟨x, g1, g2⟩ := himg B hi
      have := (hc B x b g1 hb).1
      rw [g2] at this
      cases this
    obtain ⟨b', g1, g2⟩ := h2 B b hb
    exact ⟨b', by rw [outR_out hn]; exact g1, g2⟩
theorem evh_join {ρ : Rho} {hp hp' : T CB} {R : List HP} {H0 H : Hp} (hr : RepH ρ hp H0 H) (hR : Sats R H0) (h1 : subT hp' hp = true) (h2 : allT (clB (hasN hp')) hp' = true) (h3 : allT live hp' = true) : Sats (evh (rst ρ (hasN hp')) hp' :: R) H := by
  have hrep : RepH (rst ρ (hasN hp')) hp' (fun _ => none) (inR_ (rst ρ (hasN hp')) H) := by
    refine ⟨(fun B b hb => by cases hb), fun i cb hi => ?_, fun _ _ _ _ _ => rfl, fun i x hi => (rst_some hi).1, fun i j cb db r b N b' N' hi hj hd1 hd2 hρ1 hρ2 => ?_⟩
    · obtain ⟨y, e1, e2⟩ := subT_spec h1 i cb hi
      obtain ⟨r, b, N, e3, e4⟩ := hr.rep i y e1
      have hin : rst ρ (hasN hp') i = Option.some (r, b, N) := by rw [rst_t (by unfold hasN; rw [hi]; rfl)]; exact e3
      refine ⟨r, b, N, hin, ?_⟩
      rcases e2 with rfl | rfl
      · exact absurd rfl (live_ne (allT_spec h3 i _ hi))
      · exact (DB.rst e4 (allT_spec h2 i cb hi)).at (inR_in ⟨i, b, N, hin⟩)
    · obtain ⟨y, e1, e2⟩ := subT_spec h1 i cb hi
      obtain ⟨z, e3, e4⟩ := subT_spec h1 j db hj
      rcases e2 with e | rfl
      · exact absurd e hd1
      rcases e4 with e | rfl
      · exact absurd e hd2
      exact hr.inj i j cb db r b N b' N' e1 e3 hd1 hd2 (rst_some hρ1).2 (rst_some hρ2).2
  refine ⟨inR_ (rst ρ (hasN hp')) H, H0, fun B b c hb hc => ?_, fun B b hb => ?_, fun B b hb => ⟨b, hr.frame B b hb, b.le_refl⟩, ⟨hrep, h3⟩, hR⟩
  · by_cases h : imgR (rst ρ (hasN hp')) B
    · obtain ⟨i, b', N, hi⟩ := h
      rw [hr.own i B b' N (rst_some hi).2] at hc
      cases hc
    · rw [inR_out h] at hb; cases hb
  · by_cases h : imgR (rst ρ (hasN hp')) B
    · rw [inR_in h] at hb; exact ⟨b, hb, b.le_refl⟩
    · rw [inR_out h] at hb; cases hb
theorem evh_nil {R : List HP} : Ent R (evh (fun _ => Option.none) .leaf :: R) := fun H hs => by
  have h1 : evh (fun _ => Option.none) .leaf (fun _ => Option.none) := And.intro (rep_nil _) rfl
  exact ⟨fun _ => Option.none, H, (fun B b c hb _ => by cases hb), (fun B b hb => by cases hb), Hle.refl H, h1, hs⟩
noncomputable def chkE (r : R) (v : CV) (hp' : T CB) : Bool := @R.rec (fun _ => Bool) (fun _ _ _ _ => false) (fun v0 hp _ => an (eqD 9 v0 v) (an (subT hp' hp) (an (clD (hasN hp') 9 v) (an (allT (clB (hasN hp')) hp') (allT live hp'))))) (fun _ => false) r
/-- a call that the evaluator reckons, from a chunk of its heap to another -/
theorem evcall {P : Program} {cl : Cl} (hcl : ClOk P cl) {f : Nat} {args : List CV} {hp hp' : T CB} {nx : Nat} {v : CV} (hx : chkE (cl f args hp nx) v hp' = true) {ρ : Rho} {Args : List Value} {R : List HP} {K : Value → List HP → Prop} (ha : DL ρ args Args)
    (hK : ∀ ρ' V, (∀ i x, ρ i = Option.some x → hasN hp' i = true → ρ' i = Option.some x) → DV ρ' v V → K V (evh ρ' hp' :: R)) : CallT P f Args.toArray (evh ρ hp :: R) K := fun H hs => by
  obtain ⟨H0, hr, hR⟩ := evh_split hs
  cases hc : cl f args hp nx with
  | ok _ _ _ _ => rw [hc] at hx; cases hx
  | er _ => rw [hc] at hx; cases hx
  | ret v0 hp1 nx1 =>
    rw [hc] at hx
    replace hx : an (eqD 9 v0 v) (an (subT hp' hp1) (an (clD (hasN hp') 9 v) (an (allT (clB (hasN hp')) hp') (allT live hp')))) = true := hx
    obtain ⟨e1, hx⟩ := an_t hx
    obtain ⟨e2, hx⟩ := an_t hx
    obtain ⟨e3, hx⟩ := an_t hx
    obtain ⟨e4, e5⟩ := an_t hx
    have hv := eqD_eq 9 e1
    subst hv
    refine (hcl hc hr ha).mono fun V H' ⟨ρ', k1, k2, k3⟩ => ?_
    exact ⟨_, evh_join k3 hR e2 e4 e5, hK _ _ (fun i x hi hn => by rw [rst_t hn]; exact k1 i x hi) (Dn.rst k2 9 e3)⟩
end Go.Ex

