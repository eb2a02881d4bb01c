/- What a run in parts leaves, as a chunk: calls of the evaluator among calls with contracts. Calls that the kernel reckons, each in the heap that the one before left. Script: what must come at any rate: lemmas; each with the conditions that it states. -/
import Derived.Test.YtiofdmjecjcdbaaGreatDoorGe
import Derived.Test.YtiofdmjecjcdbaaGreatDoorE7
import Derived.Test.YtiofdmjecjcdbaaGreatDoorGx
set_option linter.unusedVariables false
set_option linter.unusedSimpArgs false
namespace Go.Ex
open Go Go.Sl
set_option maxHeartbeats 2000000
def live (cb : CB) : Bool := match cb with | .dead => false | _ => true
/-- the heap of a run that is reckoned, as a chunk -/
def evh (ρ : Rho) (hp : T CB) : HP := fun H => RepH ρ hp (fun _ => none) H ∧ allT live hp = true
def imgR (ρ : Rho) (B : Nat) : Prop := ∃ i b N, ρ i = some (B, b, N)
theorem live_ne {cb : CB} (h : live cb = true) : cb ≠ .dead := fun e => by subst e; cases h
theorem DB.own {ρ : Rho} {cb : CB} {H : Hp} {r b N : Nat} (h : DB ρ cb H r b N) (hd : cb ≠ .dead) : ∃ x : Blk, H r = Option.some x ∧ x.own = true := by
  cases cb with
  | cells cs e sz => obtain ⟨pre, vs, post, h1, h2, h3, h4⟩ := h; exact ⟨_, h3, rfl⟩
  | mp es ck => obtain ⟨h0, ms, h1, h2⟩ := h; exact ⟨_, h2, rfl⟩
  | it m s seen last => obtain ⟨h0, rm, bm, Nm, h1, h2⟩ := h; exact ⟨_, h2, rfl⟩
  | dead => exact absurd rfl hd
theorem le_own {x y : Blk} (h : x.le y) (ho : x.own = true) : y = x := by
  rcases h with rfl | ⟨cs, e, rfl, _⟩
  · rfl
  · cases ho
open Classical in
noncomputable def outR (ρ : Rho) (H : Hp) : Hp := fun B => if imgR ρ B then none else H B
open Classical in
noncomputable def inR_ (ρ : Rho) (H : Hp) : Hp := fun B => if imgR ρ B then H B else none
theorem outR_in {ρ : Rho} {H : Hp} {B : Nat} (h : imgR ρ B) : outR ρ H B = none := if_pos h
theorem outR_out {ρ : Rho} {H : Hp} {B : Nat} (h : ¬ imgR ρ B) : outR ρ H B = H B := if_neg h
theorem inR_in {ρ : Rho} {H : Hp} {B : Nat} (h : imgR ρ B) : inR_ ρ H B = H B := if_pos h
theorem inR_out {ρ : Rho} {H : Hp} {B : Nat} (h : ¬ imgR ρ B) : inR_ ρ H B = none := if_neg h
theorem evh_split {ρ : Rho} {hp : T CB} {R : List HP} {H : Hp} (hs : Sats (evh ρ hp :: R) H) : ∃ H0, RepH ρ hp H0 H ∧ Sats R H0 := by
  obtain ⟨H1, H2, hc, h1, h2, ⟨hr, hl⟩, hR⟩ := hs
  have himg : ∀ B, imgR ρ B → ∃ x : Blk, H1 B = Option.some x ∧ x.own = true := fun B ⟨i, b, N, hi⟩ => by
    have hd := hr.dom i _ hi
    cases hg : getN hp i with
    | none => rw [hg] at hd; cases hd
    | some cb =>
      exact DB.own (hr.rep.get hg hi) (live_ne (allT_spec hl i cb hg))
  refine ⟨outR ρ H, ⟨fun B b hb => ?_, fun i cb hi => ?_, fun i r b N hi => outR_in ⟨i, b, N, hi⟩, hr.dom, hr.inj⟩, hR.mono fun B b hb => ?_⟩
  · by_cases h : imgR ρ B
    · rw [outR_in h] at hb; cases hb
    · rw [outR_out h] at hb; exact hb
  · obtain ⟨r, b, N, e1, e2⟩ := hr.rep i cb hi
    refine ⟨r, b, N, e1, e2.at ?_⟩
    obtain ⟨x, g1, g2⟩ := himg r ⟨i, b, N, e1⟩
    obtain ⟨y, g3, g4⟩ := h1 r x g1
    rw [g3, g1, le_own g4 g2]
  · have hn : ¬ imgR ρ B := fun hi => by
      obtain ⟨x, g1, g2⟩ := himg B hi
      have := (hc B x b g1 hb).1
      rw [g2] at this
      cases this
    obtain ⟨b', g1, g2⟩ := h2 B b hb
    exact ⟨b', by rw [outR_out hn]; exact g1, g2⟩
theorem evh_join {ρ : Rho} {hp hp' : T CB} {R : List HP} {H0 H : Hp} (hr : RepH ρ hp H0 H) (hR : Sats R H0) (h1 : subT hp' hp = true) (h2 : allT (clB (hasN hp')) hp' = true) (h3 : allT live hp' = true) : Sats (evh (rst ρ (hasN hp')) hp' :: R) H := by
  have hrep : RepH (rst ρ (hasN hp')) hp' (fun _ => none) (inR_ (rst ρ (hasN hp')) H) := by
    refine ⟨(fun B b hb => by cases hb), fun i cb hi => ?_, fun _ _ _ _ _ => rfl, fun i x hi => (rst_some hi).1, fun i j cb db r b N b' N' hi hj hd1 hd2 hρ1 hρ2 => ?_⟩
    · obtain ⟨y, e1, e2⟩ := subT_spec h1 i cb hi
      obtain ⟨r, b, N, e3, e4⟩ := hr.rep i y e1
      have hin : rst ρ (hasN hp') i = Option.some (r, b, N) := by rw [rst_t (by unfold hasN; rw [hi]; rfl)]; exact e3
      refine ⟨r, b, N, hin, ?_⟩
      rcases e2 with rfl | rfl
      · exact absurd rfl (live_ne (allT_spec h3 i _ hi))
      · exact (DB.rst e4 (allT_spec h2 i cb hi)).at (inR_in ⟨i, b, N, hin⟩)
    · obtain ⟨y, e1, e2⟩ := subT_spec h1 i cb hi
      obtain ⟨z, e3, e4⟩ := subT_spec h1 j db hj
      rcases e2 with e | rfl
      · exact absurd e hd1
      rcases e4 with e | rfl
      · exact absurd e hd2
      exact hr.inj i j cb db r b N b' N' e1 e3 hd1 hd2 (rst_some hρ1).2 (rst_some hρ2).2
  refine ⟨inR_ (rst ρ (hasN hp')) H, H0, fun B b c hb hc => ?_, fun B b hb => ?_, fun B b hb => ⟨b, hr.frame B b hb, b.le_refl⟩, ⟨hrep, h3⟩, hR⟩
  · by_cases h : imgR (rst ρ (hasN hp')) B
    · obtain ⟨i, b', N, hi⟩ := h
      rw [hr.own i B b' N (rst_some hi).2] at hc
      cases hc
    · rw [inR_out h] at hb; cases hb
  · by_cases h : imgR (rst ρ (hasN hp')) B
    · rw [inR_in h] at hb; exact ⟨b, hb, b.le_refl⟩
    · rw [inR_out h] at hb; cases hb
theorem evh_nil {R : List HP} : Ent R (evh (fun _ => Option.none) .leaf :: R) := fun H hs => by
  have h1 : evh (fun _ => Option.none) .leaf (fun _ => Option.none) := And.intro (rep_nil _) rfl
  exact ⟨fun _ => Option.none, H, (fun B b c hb _ => by cases hb), (fun B b hb => by cases hb), Hle.refl H, h1, hs⟩
noncomputable def chkE (r : R) (v : CV) (hp' : T CB) : Bool := @R.rec (fun _ => Bool) (fun _ _ _ _ => false) (fun v0 hp _ => an (eqD 9 v0 v) (an (subT hp' hp) (an (clD (hasN hp') 9 v) (an (allT (clB (hasN hp')) hp') (allT live hp'))))) (fun _ => false) r
/-- a call that the evaluator reckons, from a chunk of its heap to another -/
theorem evcall {P : Program} {cl : Cl} (hcl : ClOk P cl) {f : Nat} {args : List CV} {hp hp' : T CB} {nx : Nat} {v : CV} (hx : chkE (cl f args hp nx) v hp' = true) {ρ : Rho} {Args : List Value} {R : List HP} {K : Value → List HP → Prop} (ha : DL ρ args Args)
    (hK : ∀ ρ' V, (∀ i x, ρ i = Option.some x → hasN hp' i = true → ρ' i = Option.some x) → DV ρ' v V → K V (evh ρ' hp' :: R)) : CallT P f Args.toArray (evh ρ hp :: R) K := fun H hs => by
  obtain ⟨H0, hr, hR⟩ := evh_split hs
  cases hc : cl f args hp nx with
  | ok _ _ _ _ => rw [hc] at hx; cases hx
  | er _ => rw [hc] at hx; cases hx
  | ret v0 hp1 nx1 =>
    rw [hc] at hx
    replace hx : an (eqD 9 v0 v) (an (subT hp' hp1) (an (clD (hasN hp') 9 v) (an (allT (clB (hasN hp')) hp') (allT live hp')))) = true := hx
    obtain ⟨e1, hx⟩ := an_t hx
    obtain ⟨e2, hx⟩ := an_t hx
    obtain ⟨e3, hx⟩ := an_t hx
    obtain ⟨e4, e5⟩ := an_t hx
    have hv := eqD_eq 9 e1
    subst hv
    refine (hcl hc hr ha).mono fun V H' ⟨ρ', k1, k2, k3⟩ => ?_
    exact ⟨_, evh_join k3 hR e2 e4 e5, hK _ _ (fun i x hi hn => by rw [rst_t hn]; exact k1 i x hi) (Dn.rst k2 9 e3)⟩
end Go.Ex


namespace Go.Proofs.YtiofdmjecjcdbaaGreatDoor
open Go Go.Proofs Go.Sl Go.Ex
set_option maxRecDepth 1000000
set_option maxHeartbeats 4000000
def evl : T CB := .leaf
def evp (r : T CB) : T CB := .node .leaf .none r
def evq (l : T CB) : T CB := .node l .none .leaf
def evr (l r : T CB) : T CB := .node l .none r
def evs (v : Option CB) : T CB := .node .leaf v .leaf
def evt (l : T CB) (v : Option CB) (r : T CB) : T CB := .node l v r
def evc (l : List CV) (t n : Nat) : Option CB := .some (.cells l t n)
def evi (n : Nat) : CV := .int .i64 (.ofNat n)
def evb (n : Nat) : CV := .int .u8 (.ofNat n)
noncomputable def evz (n : Nat) : List CV := @Nat.rec (fun _ => List CV) [] (fun _ l => evb 0 :: l) n
noncomputable def evh0 : T CB := (evr (evr (evr (evr (evt evl (evc [(.sl 89 0 1 0)] 266 1) (evr (evp (evq (evs (evc [.nils, (evi 1048576), (evi 0), (evi 0)] 216 4)))) (evr (evq (evs (.some (.mp [] 0)))) (evq (evs (evc [(.ptr 142 0), (evi 0), .nils] 285 3)))))) (evr (evq (evs (.some (.mp [] 0)))) (evq (evq (evs (evc [(evi 1), (evi 2), (evi 0)] 270 3)))))) (evr (evr (evq (evt evl (evc [(evi 512), (evi 512), (evi 512), (evi 0), (evi 0)] 287 5) (evq (evs (.some (.mp [] 0)))))) (evp (evp (evq (evs (evc [(evi 64), .nils] 237 2)))))) (evp (evq (evq (evs (evc [(.bool false), (.bool false), (.bool false), (evi 0), (evi 0), (evi 0)] 234 6))))))) (evr (evt (evr (evp (evq (evt (evs (evc [(.ptr 5 0), (.ptr 178 0)] 87 2)) (.some (.mp [] 0)) evl))) (evp (evp (evq (evs (evc [(evi 64), (.mp 140)] 279 2)))))) (evc [(.ptr 17 0), (.ptr 102 0), (.ptr 90 0), (.ptr 175 0), (.bool false), (.bool false)] 129 6) (evr (evq (evs (evc [(evi 0), (evi 0), (evi 0), (.bool false), (.bool false)] 276 5))) (evq (evq (evs (evc [.nils, (evi 0)] 268 2)))))) (evr (evt (evr (evt evl (evc [(evi 512)] 333 1) (evq (evs (.some (.mp [] 0))))) (evr (evs (evc [(evi 5), (evi 0), (.bool false), (.str []), (evi 0), (evi 0), (evi 0), (.bool false), (evi 0), (evi 0), (evi 0), .nils] 214 12)) (evq (evs (evc [(evi 64), (evi 8), (evi 4)] 26 3))))) (evc [(.mp 8)] 260 1) (evp (evp (evq (evs (evc [(evi 0), (evi 0), (evi 0), (evi 0), (.bool false), (.bool false), (evi 0), (evi 0)] 274 8)))))) (evr (evs (evc [(evi 64), (evi 8), (evi 4), (evi 100), (evi 5), (evi 0), (evi 0), (evi 0), (evi 0), (.ptr 18 0), (.ptr 54 0), (.ptr 56 0), (.ptr 9 0), (.ptr 58 0), (.ptr 59 0), (.ptr 12 0), (evi 64), (evi 8), (evi 4), (.ptr 52 0), (.ptr 53 0), (.ptr 14 0), (.ptr 15 0), (.ptr 16 0), (evi 0), (.str []), .nils] 169 27)) (evq (evq (evs (evc [(evi 64), (evi 8), (evi 4), (evi 64), (evi 8), (evi 4), (.sl 153 0 1 0)] 263 7)))))))) (evr (evr (evr (evt (evp (evq (evs (evc [(.mp 93)] 260 1)))) (evc [(.bool false), (.bool false), (.bool false), (evi 0), (evi 0), (evi 0)] 234 6) (evr (evp (evq (evs (evc [(evi 5), (evi 0), (.bool false), (.str []), (evi 0), (evi 0), (evi 0), (.bool false), (evi 0), (evi 0), (evi 0), .nils] 214 12)))) (evr (evq (evs (.some (.mp [] 0)))) (evq (evs (evc [(evi 512)] 333 1)))))) (evr (evq (evs (evc [(evi 64), .nils] 237 2))) (evq (evq (evs (evc [(evi 64), (evi 8), (evi 4), (evi 100), (evi 5), (evi 0), (evi 0), (evi 0), (evi 0), (.ptr 103 0), (.ptr 139 0), (.ptr 141 0), (.ptr 94 0), (.ptr 143 0), (.ptr 144 0), (.ptr 97 0), (evi 64), (evi 8), (evi 4), (.ptr 137 0), (.ptr 138 0), (.ptr 99 0), (.ptr 100 0), (.ptr 101 0), (evi 0), (.str []), .nils] 169 27)))))) (evr (evr (evr (evt evl (evc [(.ptr 57 0), (evi 0), .nils] 285 3) (evq (evs (.some (.mp [] 0))))) (evq (evs (evc [.nils, (evi 1048576), (evi 0), (evi 0)] 216 4)))) (evp (evp (evq (evs (evc [(evi 0), (evi 0), (evi 0), (.bool false), (.bool false)] 276 5)))))) (evq (evt (evp (evq (evs (evc [(evi 64), (evi 8), (evi 4), (evi 100), (evi 5), (evi 0), (evi 0), (evi 0), (evi 0), (evi 64), (evi 8), (evi 4), (evi 100), (evi 5), (evi 0), (evi 0), (evi 0), (evi 0), (.mp 185), (.mp 206), (.mp 186), (.mp 207), (.mp 187), (.mp 208), (.bool false), (.bool false), (.bool false), (.bool false)] 142 28)))) (evc [(evi 0), (evi 1), (evi 0)] 270 3) evl)))) (evr (evr (evt evl (evc [(evi 64), (evi 8), (evi 4), (evi 64), (evi 8), (evi 4), (.sl 68 0 1 0)] 263 7) (evp (evp (evq (evs (.some (.mp [] 0))))))) (evr (evq (evs (evc [(evi 0), (evi 0), (evi 0), (evi 0), (.bool false), (.bool false), (evi 0), (evi 0)] 274 8))) (evr (evq (evs (evc [(.sl 174 0 1 0)] 266 1))) (evq (evs (evc [(evi 64), (evi 8), (evi 4)] 26 3)))))) (evr (evt (evq (evs (evc [(evi 64), (.mp 55)] 279 2))) (.some (.mp [] 0)) evl) (evq (evt evl (evc [.nils, (evi 0)] 268 2) (evr (evq (evs (.some (.mp [] 0)))) (evq (evs (evc [(evi 512), (evi 512), (evi 512), (evi 0), (evi 0)] 287 5))))))))))
def eva0 : List CV := [(.agg [(evi 64), (evi 8), (evi 4), (evi 100), (evi 5), (evi 0), (evi 0), (evi 0), (evi 0)]), (.agg [(evi 64), (evi 8), (evi 4), (evi 100), (evi 5), (evi 0), (evi 0), (evi 0), (evi 0)])]
def evv0 : CV := (.tup [(.ptr 221 0), (evi 0)])
theorem ev0_chk : chkE (runX Tryz.prog od 60 16 eva0 .leaf 1) evv0 evh0 = true := by decide +kernel
noncomputable def evh1 : T CB := (evr (evr (evr (evr (evt evl (evc [(.sl 279 0 2 0)] 266 1) (evr (evp (evq (evs (evc [.nils, (evi 1048576), (evi 0), (evi 0)] 216 4)))) (evr (evq (evs (.some (.mp [] 0)))) (evq (evs (evc [(.ptr 142 0), (evi 0), .nils] 285 3)))))) (evr (evr (evt evl (.some (.mp [((.ofNat 1), ((.agg [(evi 0), (evi 16)]), 0))] 1)) (evp (evq (evs (evc [(evi 1), (.ptr 309 0), (evi 0)] 402 3))))) (evp (evp (evq (evs (evc [(evi 5), (evi 0), (.bool false), (.str []), (evi 0), (evi 0), (evi 0), (.bool false), (evi 0), (evi 0), (evi 0), .nils, (evi 2), (evi 1), (.bool false), (.str []), (evi 1), (evi 0), (evi 16), (.bool false), (evi 0), (evi 0), (evi 0), .nils] 214 12)))))) (evq (evq (evs (evc [(evi 1), (evi 2), (evi 0)] 270 3)))))) (evr (evr (evq (evt evl (evc [(evi 512), (evi 512), (evi 512), (evi 0), (evi 0)] 287 5) (evq (evs (.some (.mp [((.ofNat 1), ((.bool true), 0))] 1)))))) (evp (evp (evq (evs (evc [(evi 64), .nils] 237 2)))))) (evp (evq (evr (evs (evc [(.bool false), (.bool false), (.bool false), (evi 0), (evi 0), (evi 0)] 234 6)) (evp (evq (evs (evc [(.slx 290 0 4096 4096), (evi 0), (evi 0)] 313 3))))))))) (evr (evt (evr (evp (evr (evt (evs (evc [(.ptr 5 0), (.ptr 178 0)] 87 2)) (.some (.mp [] 0)) evl) (evp (evq (evs (evc (evz 100) 5 1)))))) (evp (evp (evq (evs (evc [(evi 64), (.mp 140)] 279 2)))))) (evc [(.ptr 17 0), (.ptr 102 0), (.ptr 90 0), (.ptr 175 0), (.bool true), (.bool false)] 129 6) (evr (evq (evt evl (evc [(evi 0), (evi 0), (evi 0), (.bool false), (.bool false)] 276 5) (evp (evq (evs (evc [(evi 64)] 333 1)))))) (evq (evr (evs (evc [.nils, (evi 0)] 268 2)) (evp (evq (evs (evc [(evi 1)] 387 1)))))))) (evr (evt (evr (evt evl (evc [(evi 512)] 333 1) (evq (evs (.some (.mp [((.ofNat 1), ((.ptr 353 0), 0))] 1))))) (evp (evq (evs (evc [(evi 64), (evi 8), (evi 4)] 26 3))))) (evc [(.mp 8)] 260 1) (evp (evp (evq (evs (evc [(evi 0), (evi 0), (evi 0), (evi 0), (.bool false), (.bool false), (evi 0), (evi 0)] 274 8)))))) (evr (evs (evc [(evi 64), (evi 8), (evi 4), (evi 100), (evi 5), (evi 0), (evi 0), (evi 0), (evi 0), (.ptr 18 0), (.ptr 54 0), (.ptr 56 0), (.ptr 9 0), (.ptr 58 0), (.ptr 59 0), (.ptr 12 0), (evi 64), (evi 8), (evi 4), (.ptr 52 0), (.ptr 53 0), (.ptr 14 0), (.ptr 15 0), (.ptr 16 0), (evi 0), (.str []), .nils] 169 27)) (evq (evq (evt evl (evc [(evi 64), (evi 8), (evi 4), (evi 64), (evi 8), (evi 4), (.sl 153 0 1 0)] 263 7) (evq (evs (evc [(evi 1), (evi 100), (evi 0), .nils, (.str []), .nils, .nils, (.str []), (.bool false), (.bool false), (.bool false), (evi 0), (evi 0), (evi 0)] 377 14)))))))))) (evr (evr (evr (evt (evp (evr (evs (evc [(.mp 93)] 260 1)) (evp (evq (evs (evc [(.slx 285 0 100 100), (evi 0), (evi 0)] 313 3)))))) (evc [(.bool false), (.bool false), (.bool false), (evi 0), (evi 0), (evi 0)] 234 6) (evr (evp (evr (evs (evc [(evi 5), (evi 0), (.bool false), (.str []), (evi 0), (evi 0), (evi 0), (.bool false), (evi 0), (evi 0), (evi 0), .nils] 214 12)) (evq (evs (evc [(evi 1), (.ptr 294 0)] 239 2))))) (evr (evq (evs (.some (.mp [] 0)))) (evq (evs (evc [(evi 512)] 333 1)))))) (evr (evq (evs (evc [(evi 64), (.sl 302 0 1 0)] 237 2))) (evq (evr (evs (evc [(evi 64), (evi 8), (evi 4), (evi 100), (evi 5), (evi 0), (evi 0), (evi 0), (evi 0), (.ptr 103 0), (.ptr 139 0), (.ptr 141 0), (.ptr 94 0), (.ptr 143 0), (.ptr 144 0), (.ptr 97 0), (evi 64), (evi 8), (evi 4), (.ptr 137 0), (.ptr 138 0), (.ptr 99 0), (.ptr 100 0), (.ptr 101 0), (evi 0), (.str []), .nils] 169 27)) (evp (evq (evs (evc [(.ptr 293 0), (.ptr 284 0), (.ptr 288 0), (evi 1), (.bool true)] 242 5)))))))) (evr (evr (evr (evt (evp (evq (evs (evc [(evi 1), (.str []), .nils, (.bool false)] 324 4)))) (evc [(.ptr 57 0), (evi 0), (.sl 311 0 1 0)] 285 3) (evq (evs (.some (.mp [((.ofNat 1), ((.ptr 378 0), 0))] 1))))) (evq (evs (evc [.nils, (evi 1048576), (evi 0), (evi 0)] 216 4)))) (evp (evp (evq (evs (evc [(evi 0), (evi 0), (evi 0), (.bool false), (.bool false)] 276 5)))))) (evr (evt (evp (evq (evs (evc [(evi 64), (evi 8), (evi 4), (evi 100), (evi 5), (evi 0), (evi 0), (evi 0), (evi 0), (evi 64), (evi 8), (evi 4), (evi 100), (evi 5), (evi 0), (evi 0), (evi 0), (evi 0), (.mp 185), (.mp 206), (.mp 186), (.mp 207), (.mp 187), (.mp 208), (.bool false), (.bool false), (.bool false), (.bool false)] 142 28)))) (evc [(evi 0), (evi 3), (evi 0)] 270 3) evl) (evq (evp (evp (evq (evs (evc (evz 4096) 5 1))))))))) (evr (evr (evt (evp (evp (evp (evq (evs (evc [(evi 0), (evi 0), (evi 0), (evi 1), (.ptr 286 0), .nilp, .nilp, (.bool false), (.bool false)] 247 9)))))) (evc [(evi 64), (evi 8), (evi 4), (evi 64), (evi 8), (evi 4), (.sl 68 0 1 0)] 263 7) (evp (evp (evq (evs (.some (.mp [] 0))))))) (evr (evq (evs (evc [(evi 0), (evi 0), (evi 0), (evi 0), (.bool false), (.bool false), (evi 0), (evi 0)] 274 8))) (evr (evr (evs (evc [(.sl 174 0 1 0)] 266 1)) (evp (evq (evs (evc [(evi 64), (evi 64), (evi 64), (evi 0), (evi 0)] 287 5))))) (evq (evs (evc [(evi 64), (evi 8), (evi 4)] 26 3)))))) (evr (evt (evq (evs (evc [(evi 64), (.mp 55)] 279 2))) (.some (.mp [] 0)) evl) (evr (evt evl (evc [.nils, (evi 0)] 268 2) (evr (evq (evs (.some (.mp [] 0)))) (evq (evs (evc [(evi 512), (evi 512), (evi 512), (evi 0), (evi 0)] 287 5))))) (evq (evp (evp (evq (evs (evc [(evi 1), (.ptr 291 0), (.ptr 292 0), .nilp, .nilp, (evi 0), (evi 0), (.bool false)] 249 8)))))))))))
def eva1 : List CV := [(.ptr 221 0), (.agg [(evi 1), (evi 0), (evi 0), (evi 1), (evi 0), (.str []), (evi 0), (evi 16), (.bool false), (evi 0), (evi 0), (evi 0)])]
def evv1 : CV := (.tup [(.agg [(evi 0), (evi 1), (.str []), (.bool false), (.bool false)]), (.bool true)])
theorem ev1_chk : chkE (runX Tryz.prog od 60 33 eva1 evh0 222) evv1 evh1 = true := by decide +kernel
noncomputable def evh2 : T CB := (evr (evr (evr (evr (evt evl (evc [(.sl 279 0 2 0)] 266 1) (evr (evp (evq (evs (evc [.nils, (evi 1048576), (evi 0), (evi 0)] 216 4)))) (evr (evq (evs (.some (.mp [] 0)))) (evq (evs (evc [(.ptr 142 0), (evi 0), .nils] 285 3)))))) (evr (evr (evt evl (.some (.mp [((.ofNat 1), ((.agg [(evi 0), (evi 16)]), 0))] 1)) (evp (evq (evs (evc [(evi 1), (.ptr 309 0), (evi 0)] 402 3))))) (evp (evp (evq (evs (evc [(evi 5), (evi 0), (.bool false), (.str []), (evi 0), (evi 0), (evi 0), (.bool false), (evi 0), (evi 0), (evi 0), .nils, (evi 2), (evi 1), (.bool false), (.str []), (evi 1), (evi 0), (evi 16), (.bool false), (evi 0), (evi 0), (evi 0), .nils] 214 12)))))) (evq (evq (evs (evc [(evi 1), (evi 2), (evi 0)] 270 3)))))) (evr (evr (evq (evt evl (evc [(evi 512), (evi 512), (evi 512), (evi 0), (evi 0)] 287 5) (evq (evs (.some (.mp [((.ofNat 1), ((.bool true), 0))] 1)))))) (evp (evp (evq (evs (evc [(evi 64), .nils] 237 2)))))) (evp (evq (evr (evs (evc [(.bool false), (.bool false), (.bool false), (evi 0), (evi 0), (evi 0)] 234 6)) (evp (evq (evs (evc [(.slx 290 0 4096 4096), (evi 0), (evi 0)] 313 3))))))))) (evr (evt (evr (evp (evr (evt (evs (evc [(.ptr 5 0), (.ptr 178 0)] 87 2)) (.some (.mp [] 0)) evl) (evp (evq (evs (evc ((evb 97) :: (evb 32) :: (evb 98) :: evz 97) 5 1)))))) (evp (evp (evq (evs (evc [(evi 64), (.mp 140)] 279 2)))))) (evc [(.ptr 17 0), (.ptr 102 0), (.ptr 90 0), (.ptr 175 0), (.bool true), (.bool false)] 129 6) (evr (evq (evt evl (evc [(evi 0), (evi 0), (evi 0), (.bool false), (.bool false)] 276 5) (evp (evq (evs (evc [(evi 64)] 333 1)))))) (evq (evr (evs (evc [.nils, (evi 0)] 268 2)) (evp (evq (evs (evc [(evi 1)] 387 1)))))))) (evr (evt (evr (evt evl (evc [(evi 512)] 333 1) (evq (evs (.some (.mp [((.ofNat 1), ((.ptr 353 0), 0))] 1))))) (evp (evq (evs (evc [(evi 64), (evi 8), (evi 4)] 26 3))))) (evc [(.mp 8)] 260 1) (evp (evp (evq (evs (evc [(evi 0), (evi 0), (evi 0), (evi 0), (.bool false), (.bool false), (evi 0), (evi 0)] 274 8)))))) (evr (evs (evc [(evi 64), (evi 8), (evi 4), (evi 100), (evi 5), (evi 0), (evi 0), (evi 0), (evi 0), (.ptr 18 0), (.ptr 54 0), (.ptr 56 0), (.ptr 9 0), (.ptr 58 0), (.ptr 59 0), (.ptr 12 0), (evi 64), (evi 8), (evi 4), (.ptr 52 0), (.ptr 53 0), (.ptr 14 0), (.ptr 15 0), (.ptr 16 0), (evi 0), (.str []), .nils] 169 27)) (evq (evq (evt evl (evc [(evi 64), (evi 8), (evi 4), (evi 64), (evi 8), (evi 4), (.sl 153 0 1 0)] 263 7) (evq (evs (evc [(evi 1), (evi 100), (evi 0), .nils, (.str [97, 32, 98]), .nils, .nils, (.str []), (.bool false), (.bool false), (.bool false), (evi 3), (evi 0), (evi 0)] 377 14)))))))))) (evr (evr (evr (evt (evp (evr (evs (evc [(.mp 93)] 260 1)) (evp (evq (evs (evc [(.slx 285 0 100 100), (evi 0), (evi 3)] 313 3)))))) (evc [(.bool false), (.bool false), (.bool false), (evi 0), (evi 0), (evi 0)] 234 6) (evr (evp (evr (evs (evc [(evi 5), (evi 0), (.bool false), (.str []), (evi 0), (evi 0), (evi 0), (.bool false), (evi 0), (evi 0), (evi 0), .nils] 214 12)) (evq (evs (evc [(evi 1), (.ptr 294 0)] 239 2))))) (evr (evq (evs (.some (.mp [] 0)))) (evq (evs (evc [(evi 512)] 333 1)))))) (evr (evq (evs (evc [(evi 64), (.sl 302 0 1 0)] 237 2))) (evq (evr (evs (evc [(evi 64), (evi 8), (evi 4), (evi 100), (evi 5), (evi 0), (evi 0), (evi 0), (evi 0), (.ptr 103 0), (.ptr 139 0), (.ptr 141 0), (.ptr 94 0), (.ptr 143 0), (.ptr 144 0), (.ptr 97 0), (evi 64), (evi 8), (evi 4), (.ptr 137 0), (.ptr 138 0), (.ptr 99 0), (.ptr 100 0), (.ptr 101 0), (evi 0), (.str []), .nils] 169 27)) (evp (evq (evs (evc [(.ptr 293 0), (.ptr 284 0), (.ptr 288 0), (evi 1), (.bool true)] 242 5)))))))) (evr (evr (evr (evt (evp (evq (evs (evc [(evi 1), (.str []), .nils, (.bool false)] 324 4)))) (evc [(.ptr 57 0), (evi 0), (.sl 311 0 1 0)] 285 3) (evq (evs (.some (.mp [((.ofNat 1), ((.ptr 378 0), 0))] 1))))) (evq (evs (evc [.nils, (evi 1048576), (evi 0), (evi 0)] 216 4)))) (evp (evp (evq (evs (evc [(evi 0), (evi 0), (evi 0), (.bool false), (.bool false)] 276 5)))))) (evr (evt (evp (evq (evs (evc [(evi 64), (evi 8), (evi 4), (evi 100), (evi 5), (evi 0), (evi 0), (evi 0), (evi 0), (evi 64), (evi 8), (evi 4), (evi 100), (evi 5), (evi 0), (evi 0), (evi 0), (evi 0), (.mp 185), (.mp 206), (.mp 186), (.mp 207), (.mp 187), (.mp 208), (.bool false), (.bool false), (.bool false), (.bool false)] 142 28)))) (evc [(evi 0), (evi 3), (evi 0)] 270 3) evl) (evq (evp (evp (evq (evs (evc (evz 4096) 5 1))))))))) (evr (evr (evt (evp (evp (evp (evq (evs (evc [(evi 3), (evi 0), (evi 0), (evi 1), (.ptr 286 0), .nilp, .nilp, (.bool false), (.bool false)] 247 9)))))) (evc [(evi 64), (evi 8), (evi 4), (evi 64), (evi 8), (evi 4), (.sl 68 0 1 0)] 263 7) (evp (evp (evq (evs (.some (.mp [] 0))))))) (evr (evq (evs (evc [(evi 0), (evi 0), (evi 0), (evi 0), (.bool false), (.bool false), (evi 0), (evi 0)] 274 8))) (evr (evr (evs (evc [(.sl 174 0 1 0)] 266 1)) (evp (evq (evs (evc [(evi 64), (evi 64), (evi 64), (evi 0), (evi 0)] 287 5))))) (evq (evs (evc [(evi 64), (evi 8), (evi 4)] 26 3)))))) (evr (evt (evq (evs (evc [(evi 64), (.mp 55)] 279 2))) (.some (.mp [] 0)) evl) (evr (evt evl (evc [.nils, (evi 0)] 268 2) (evr (evq (evs (.some (.mp [] 0)))) (evq (evs (evc [(evi 512), (evi 512), (evi 512), (evi 0), (evi 0)] 287 5))))) (evq (evp (evp (evq (evs (evc [(evi 1), (.ptr 291 0), (.ptr 292 0), .nilp, .nilp, (evi 0), (evi 0), (.bool false)] 249 8)))))))))))
def eva2 : List CV := [(.ptr 221 0), (.agg [(evi 2), (evi 0), (evi 1), (evi 0), (evi 0), (.str [97, 32, 98]), (evi 0), (evi 0), (.bool false), (evi 0), (evi 0), (evi 0)])]
def evv2 : CV := (.tup [(.agg [(evi 0), (evi 3), (.str []), (.bool false), (.bool false)]), (.bool true)])
theorem ev2_chk : chkE (runX Tryz.prog od 60 33 eva2 evh1 379) evv2 evh2 = true := by decide +kernel
noncomputable def evh3 : T CB := (evr (evr (evr (evr (evt evl (evc [(.sl 279 0 2 0)] 266 1) (evr (evp (evq (evs (evc [.nils, (evi 1048576), (evi 0), (evi 0)] 216 4)))) (evr (evq (evs (.some (.mp [] 0)))) (evq (evs (evc [(.ptr 142 0), (evi 0), .nils] 285 3)))))) (evr (evr (evt evl (.some (.mp [((.ofNat 1), ((.agg [(evi 0), (evi 16)]), 0))] 1)) (evp (evq (evs (evc [(evi 1), (.ptr 309 0), (evi 0)] 402 3))))) (evp (evp (evq (evs (evc [(evi 5), (evi 0), (.bool false), (.str []), (evi 0), (evi 0), (evi 0), (.bool false), (evi 0), (evi 0), (evi 0), .nils, (evi 2), (evi 1), (.bool false), (.str []), (evi 1), (evi 0), (evi 16), (.bool false), (evi 0), (evi 0), (evi 0), .nils] 214 12)))))) (evq (evq (evs (evc [(evi 1), (evi 2), (evi 0)] 270 3)))))) (evr (evr (evq (evt evl (evc [(evi 512), (evi 512), (evi 512), (evi 0), (evi 0)] 287 5) (evq (evs (.some (.mp [((.ofNat 1), ((.bool true), 0))] 1)))))) (evp (evp (evq (evs (evc [(evi 64), .nils] 237 2)))))) (evp (evq (evr (evs (evc [(.bool false), (.bool false), (.bool false), (evi 0), (evi 0), (evi 0)] 234 6)) (evp (evq (evs (evc [(.slx 290 0 4096 4096), (evi 0), (evi 0)] 313 3))))))))) (evr (evt (evr (evp (evr (evt (evs (evc [(.ptr 5 0), (.ptr 178 0)] 87 2)) (.some (.mp [] 0)) evl) (evp (evq (evs (evc ((evb 97) :: (evb 32) :: (evb 98) :: evz 97) 5 1)))))) (evp (evp (evq (evs (evc [(evi 64), (.mp 140)] 279 2)))))) (evc [(.ptr 17 0), (.ptr 102 0), (.ptr 90 0), (.ptr 175 0), (.bool false), (.bool true)] 129 6) (evr (evq (evt evl (evc [(evi 0), (evi 0), (evi 0), (.bool false), (.bool false)] 276 5) (evp (evq (evs (evc [(evi 64)] 333 1)))))) (evq (evr (evs (evc [.nils, (evi 0)] 268 2)) (evp (evq (evs (evc [(evi 1)] 387 1)))))))) (evr (evt (evr (evt evl (evc [(evi 512)] 333 1) (evq (evs (.some (.mp [((.ofNat 1), ((.ptr 353 0), 0))] 1))))) (evp (evq (evs (evc [(evi 64), (evi 8), (evi 4)] 26 3))))) (evc [(.mp 8)] 260 1) (evp (evp (evq (evs (evc [(evi 0), (evi 0), (evi 0), (evi 0), (.bool false), (.bool false), (evi 0), (evi 0)] 274 8)))))) (evr (evs (evc [(evi 64), (evi 8), (evi 4), (evi 100), (evi 5), (evi 0), (evi 0), (evi 0), (evi 0), (.ptr 18 0), (.ptr 54 0), (.ptr 56 0), (.ptr 9 0), (.ptr 58 0), (.ptr 59 0), (.ptr 12 0), (evi 64), (evi 8), (evi 4), (.ptr 52 0), (.ptr 53 0), (.ptr 14 0), (.ptr 15 0), (.ptr 16 0), (evi 0), (.str []), .nils] 169 27)) (evq (evq (evt evl (evc [(evi 64), (evi 8), (evi 4), (evi 64), (evi 8), (evi 4), (.sl 153 0 1 0)] 263 7) (evq (evs (evc [(evi 1), (evi 100), (evi 0), .nils, (.str [97, 32, 98]), .nils, .nils, (.str []), (.bool false), (.bool false), (.bool false), (evi 3), (evi 0), (evi 0)] 377 14)))))))))) (evr (evr (evr (evt (evp (evr (evs (evc [(.mp 93)] 260 1)) (evp (evq (evs (evc [(.slx 285 0 100 100), (evi 0), (evi 3)] 313 3)))))) (evc [(.bool false), (.bool false), (.bool false), (evi 0), (evi 0), (evi 0)] 234 6) (evr (evp (evr (evs (evc [(evi 5), (evi 0), (.bool false), (.str []), (evi 0), (evi 0), (evi 0), (.bool false), (evi 0), (evi 0), (evi 0), .nils] 214 12)) (evq (evs (evc [(evi 1), (.ptr 294 0)] 239 2))))) (evr (evq (evs (.some (.mp [] 0)))) (evq (evs (evc [(evi 512)] 333 1)))))) (evr (evq (evs (evc [(evi 64), (.sl 302 0 1 0)] 237 2))) (evq (evr (evs (evc [(evi 64), (evi 8), (evi 4), (evi 100), (evi 5), (evi 0), (evi 0), (evi 0), (evi 0), (.ptr 103 0), (.ptr 139 0), (.ptr 141 0), (.ptr 94 0), (.ptr 143 0), (.ptr 144 0), (.ptr 97 0), (evi 64), (evi 8), (evi 4), (.ptr 137 0), (.ptr 138 0), (.ptr 99 0), (.ptr 100 0), (.ptr 101 0), (evi 0), (.str []), .nils] 169 27)) (evp (evq (evs (evc [(.ptr 293 0), (.ptr 284 0), (.ptr 288 0), (evi 1), (.bool true)] 242 5)))))))) (evr (evr (evr (evt (evp (evq (evs (evc [(evi 1), (.str []), .nils, (.bool false)] 324 4)))) (evc [(.ptr 57 0), (evi 0), (.sl 311 0 1 0)] 285 3) (evq (evs (.some (.mp [((.ofNat 1), ((.ptr 378 0), 0))] 1))))) (evq (evs (evc [.nils, (evi 1048576), (evi 0), (evi 0)] 216 4)))) (evp (evp (evq (evs (evc [(evi 0), (evi 0), (evi 0), (.bool false), (.bool false)] 276 5)))))) (evr (evt (evp (evq (evs (evc [(evi 64), (evi 8), (evi 4), (evi 100), (evi 5), (evi 0), (evi 0), (evi 0), (evi 0), (evi 64), (evi 8), (evi 4), (evi 100), (evi 5), (evi 0), (evi 0), (evi 0), (evi 0), (.mp 185), (.mp 206), (.mp 186), (.mp 207), (.mp 187), (.mp 208), (.bool false), (.bool false), (.bool false), (.bool false)] 142 28)))) (evc [(evi 0), (evi 3), (evi 0)] 270 3) evl) (evq (evp (evp (evq (evs (evc (evz 4096) 5 1))))))))) (evr (evr (evt (evp (evp (evp (evq (evs (evc [(evi 3), (evi 0), (evi 0), (evi 1), (.ptr 286 0), .nilp, .nilp, (.bool false), (.bool false)] 247 9)))))) (evc [(evi 64), (evi 8), (evi 4), (evi 64), (evi 8), (evi 4), (.sl 68 0 1 0)] 263 7) (evp (evp (evq (evs (.some (.mp [] 0))))))) (evr (evq (evs (evc [(evi 0), (evi 0), (evi 0), (evi 0), (.bool false), (.bool false), (evi 0), (evi 0)] 274 8))) (evr (evr (evs (evc [(.sl 174 0 1 0)] 266 1)) (evp (evq (evs (evc [(evi 64), (evi 64), (evi 64), (evi 0), (evi 0)] 287 5))))) (evq (evs (evc [(evi 64), (evi 8), (evi 4)] 26 3)))))) (evr (evt (evq (evs (evc [(evi 64), (.mp 55)] 279 2))) (.some (.mp [] 0)) evl) (evr (evt evl (evc [.nils, (evi 0)] 268 2) (evr (evq (evs (.some (.mp [] 0)))) (evq (evs (evc [(evi 512), (evi 512), (evi 512), (evi 0), (evi 0)] 287 5))))) (evq (evp (evp (evq (evs (evc [(evi 1), (.ptr 291 0), (.ptr 292 0), .nilp, .nilp, (evi 0), (evi 0), (.bool false)] 249 8)))))))))))
def eva3 : List CV := [(.ptr 221 0), (.agg [(evi 4), (evi 1), (evi 1), (evi 5), (evi 0), (.str []), (evi 0), (evi 0), (.bool false), (evi 0), (evi 0), (evi 0)])]
def evv3 : CV := (.tup [(.agg [(evi 7), (evi 0), (.str []), (.bool false), (.bool false)]), (.bool true)])
theorem ev3_chk : chkE (runX Tryz.prog od 60 33 eva3 evh2 379) evv3 evh3 = true := by decide +kernel
end Go.Proofs.YtiofdmjecjcdbaaGreatDoor


namespace Go.Proofs.YtiofdmjecjcdbaaGreatDoor
open Go Go.Proofs Go.Sl Go.Ex
set_option maxRecDepth 100000
set_option maxHeartbeats 4000000
set_option linter.unusedSimpArgs false
set_option linter.unusedVariables false
attribute [local irreducible] evG evC spl thenC inBlockC noGotoC CallT retC RetG TurnG CutG pt ro exP star sep pureP
attribute [local irreducible] evh
variable {R C : List HP} {K : Value → List HP → Prop}
theorem runX31 (n : Nat) : ClOk Tryz.prog (runX Tryz.prog od n) := runX_ok mixed od_ok fn_ok n
/-- the watch, after k acts -/
def wch (r o : Nat) (hp : T CB) : HP := exP fun ρ => sep (pureP (DV ρ (.ptr 221 0) (.pointer (some ⟨r, o, none⟩)))) (evh ρ hp)
theorem wch_in {r o : Nat} {hp : T CB} {ρ : Rho} (h : DV ρ (.ptr 221 0) (.pointer (some ⟨r, o, none⟩))) : Ent (evh ρ hp :: R) (wch r o hp :: R) := by
  unfold wch
  exact Ent.ex (x := ρ) (Ent.sep (Ent.pure h (Ent.refl _)))
theorem over31_ok (hK : ∀ r o, K (.tuple #[.pointer (some ⟨r, o, none⟩), .int .i64 0]) (wch r o evh0 :: R)) : CallT Tryz.prog 16 #[.agg #[.int .i64 64, .int .i64 8, .int .i64 4, .int .i64 100, .int .i64 5, .int .i64 0, .int .i64 0, .int .i64 0, .int .i64 0], .agg #[.int .i64 64, .int .i64 8, .int .i64 4, .int .i64 100, .int .i64 5, .int .i64 0, .int .i64 0, .int .i64 0, .int .i64 0]] R K := by
  refine CallT.ent evh_nil ?_
  refine CallT.entK ?_
  refine evcall (cl := runX Tryz.prog od 60) (Args := [.agg #[.int .i64 64, .int .i64 8, .int .i64 4, .int .i64 100, .int .i64 5, .int .i64 0, .int .i64 0, .int .i64 0, .int .i64 0], .agg #[.int .i64 64, .int .i64 8, .int .i64 4, .int .i64 100, .int .i64 5, .int .i64 0, .int .i64 0, .int .i64 0, .int .i64 0]]) (runX31 60) ev0_chk ?_ ?_
  · unfold eva0 evi
    exact .cons (.agg (.cons (.int _ _) (.cons (.int _ _) (.cons (.int _ _) (.cons (.int _ _) (.cons (.int _ _) (.cons (.int _ _) (.cons (.int _ _) (.cons (.int _ _) (.cons (.int _ _) .nil)))))))))) (.cons (.agg (.cons (.int _ _) (.cons (.int _ _) (.cons (.int _ _) (.cons (.int _ _) (.cons (.int _ _) (.cons (.int _ _) (.cons (.int _ _) (.cons (.int _ _) (.cons (.int _ _) .nil)))))))))) .nil)
  · intro ρ V _ hV
    unfold evv0 evi at hV
    obtain ⟨vs, rfl, h1⟩ : ∃ vs, V = .tuple vs.toArray ∧ DL ρ _ vs := by cases hV; exact ⟨_, rfl, by assumption⟩
    cases h1 with
    | cons h1 h2 =>
      cases h2 with
      | cons h2 h3 =>
        cases h3
        cases h2
        cases h1 with
        | ptr hρ => exact ⟨_, wch_in (.ptr hρ), hK _ _⟩
theorem do31_0_ok {r o : Nat} (hK : K (.tuple #[.agg #[.int .i64 0, .int .i64 1, .string ⟨#[]⟩, .bool false, .bool false], .bool true]) (wch r o evh1 :: R)) : CallT Tryz.prog 33 #[.pointer (some ⟨r, o, none⟩), .agg #[.int .i64 1, .int .i64 0, .int .i64 0, .int .i64 1, .int .i64 0, .string ⟨#[]⟩, .int .i64 0, .int .i64 16, .bool false, .int .i64 0, .int .i64 0, .int .i64 0]] (wch r o evh0 :: R) K := by
  unfold wch
  refine CallT.ex fun ρ => CallT.sep (CallT.pure fun hw => ?_)
  refine CallT.entK ?_
  refine evcall (cl := runX Tryz.prog od 60) (Args := [.pointer (some ⟨r, o, none⟩), .agg #[.int .i64 1, .int .i64 0, .int .i64 0, .int .i64 1, .int .i64 0, .string ⟨#[]⟩, .int .i64 0, .int .i64 16, .bool false, .int .i64 0, .int .i64 0, .int .i64 0]]) (runX31 60) ev1_chk ?_ ?_
  · unfold eva1 evi
    exact .cons hw (.cons (.agg (.cons (.int _ _) (.cons (.int _ _) (.cons (.int _ _) (.cons (.int _ _) (.cons (.int _ _) (.cons (.str _) (.cons (.int _ _) (.cons (.int _ _) (.cons (.bool _) (.cons (.int _ _) (.cons (.int _ _) (.cons (.int _ _) .nil))))))))))))) .nil)
  · intro ρ2 V hx hV
    unfold evv1 evi at hV
    cases hV with
    | tup h =>
      cases h with
      | cons h1 h2 =>
        cases h1 with
        | agg h3 =>
          cases h3 with
          | cons a1 h3 =>
            cases a1
            cases h3 with
            | cons a2 h3 =>
              cases a2
              cases h3 with
              | cons a3 h3 =>
                cases a3
                cases h3 with
                | cons a4 h3 =>
                  cases a4
                  cases h3 with
                  | cons a5 h3 =>
                    cases a5
                    cases h3
                    cases h2 with
                    | cons b1 h2 =>
                      cases b1
                      cases h2
                      cases hw with
                      | ptr hρ => exact ⟨_, wch_in (.ptr (hx 221 _ hρ (by decide +kernel))), hK⟩
theorem do31_1_ok {r o : Nat} (hK : K (.tuple #[.agg #[.int .i64 0, .int .i64 3, .string ⟨#[]⟩, .bool false, .bool false], .bool true]) (wch r o evh2 :: R)) : CallT Tryz.prog 33 #[.pointer (some ⟨r, o, none⟩), .agg #[.int .i64 2, .int .i64 0, .int .i64 1, .int .i64 0, .int .i64 0, .string ⟨#[97, 32, 98]⟩, .int .i64 0, .int .i64 0, .bool false, .int .i64 0, .int .i64 0, .int .i64 0]] (wch r o evh1 :: R) K := by
  unfold wch
  refine CallT.ex fun ρ => CallT.sep (CallT.pure fun hw => ?_)
  refine CallT.entK ?_
  refine evcall (cl := runX Tryz.prog od 60) (Args := [.pointer (some ⟨r, o, none⟩), .agg #[.int .i64 2, .int .i64 0, .int .i64 1, .int .i64 0, .int .i64 0, .string ⟨#[97, 32, 98]⟩, .int .i64 0, .int .i64 0, .bool false, .int .i64 0, .int .i64 0, .int .i64 0]]) (runX31 60) ev2_chk ?_ ?_
  · unfold eva2 evi
    exact .cons hw (.cons (.agg (.cons (.int _ _) (.cons (.int _ _) (.cons (.int _ _) (.cons (.int _ _) (.cons (.int _ _) (.cons (.str _) (.cons (.int _ _) (.cons (.int _ _) (.cons (.bool _) (.cons (.int _ _) (.cons (.int _ _) (.cons (.int _ _) .nil))))))))))))) .nil)
  · intro ρ2 V hx hV
    unfold evv2 evi at hV
    cases hV with
    | tup h =>
      cases h with
      | cons h1 h2 =>
        cases h1 with
        | agg h3 =>
          cases h3 with
          | cons a1 h3 =>
            cases a1
            cases h3 with
            | cons a2 h3 =>
              cases a2
              cases h3 with
              | cons a3 h3 =>
                cases a3
                cases h3 with
                | cons a4 h3 =>
                  cases a4
                  cases h3 with
                  | cons a5 h3 =>
                    cases a5
                    cases h3
                    cases h2 with
                    | cons b1 h2 =>
                      cases b1
                      cases h2
                      cases hw with
                      | ptr hρ => exact ⟨_, wch_in (.ptr (hx 221 _ hρ (by decide +kernel))), hK⟩
theorem do31_2_ok {r o : Nat} (hK : K (.tuple #[.agg #[.int .i64 7, .int .i64 0, .string ⟨#[]⟩, .bool false, .bool false], .bool true]) (wch r o evh3 :: R)) : CallT Tryz.prog 33 #[.pointer (some ⟨r, o, none⟩), .agg #[.int .i64 4, .int .i64 1, .int .i64 1, .int .i64 5, .int .i64 0, .string ⟨#[]⟩, .int .i64 0, .int .i64 0, .bool false, .int .i64 0, .int .i64 0, .int .i64 0]] (wch r o evh2 :: R) K := by
  unfold wch
  refine CallT.ex fun ρ => CallT.sep (CallT.pure fun hw => ?_)
  refine CallT.entK ?_
  refine evcall (cl := runX Tryz.prog od 60) (Args := [.pointer (some ⟨r, o, none⟩), .agg #[.int .i64 4, .int .i64 1, .int .i64 1, .int .i64 5, .int .i64 0, .string ⟨#[]⟩, .int .i64 0, .int .i64 0, .bool false, .int .i64 0, .int .i64 0, .int .i64 0]]) (runX31 60) ev3_chk ?_ ?_
  · unfold eva3 evi
    exact .cons hw (.cons (.agg (.cons (.int _ _) (.cons (.int _ _) (.cons (.int _ _) (.cons (.int _ _) (.cons (.int _ _) (.cons (.str _) (.cons (.int _ _) (.cons (.int _ _) (.cons (.bool _) (.cons (.int _ _) (.cons (.int _ _) (.cons (.int _ _) .nil))))))))))))) .nil)
  · intro ρ2 V hx hV
    unfold evv3 evi at hV
    cases hV with
    | tup h =>
      cases h with
      | cons h1 h2 =>
        cases h1 with
        | agg h3 =>
          cases h3 with
          | cons a1 h3 =>
            cases a1
            cases h3 with
            | cons a2 h3 =>
              cases a2
              cases h3 with
              | cons a3 h3 =>
                cases a3
                cases h3 with
                | cons a4 h3 =>
                  cases a4
                  cases h3 with
                  | cons a5 h3 =>
                    cases a5
                    cases h3
                    cases h2 with
                    | cons b1 h2 =>
                      cases b1
                      cases h2
                      cases hw with
                      | ptr hρ => exact ⟨_, wch_in (.ptr (hx 221 _ hρ (by decide +kernel))), hK⟩

theorem lit31 : scrS ⟨[64, 8, 4, 100, 5, 0, 0, 0, 0, 64, 8, 4, 100, 5, 0, 0, 0, 0], [⟨1, 0, 0, 1, 0, ⟨#[]⟩, 0, 16, false, 0, 0, 0⟩, ⟨2, 0, 1, 0, 0, ⟨#[97, 32, 98]⟩, 0, 0, false, 0, 0, 0⟩, ⟨4, 1, 1, 5, 0, ⟨#[]⟩, 0, 0, false, 0, 0, 0⟩]⟩ = [112, 97, 116, 101, 114, 110, 111, 115, 116, 101, 114, 32, 54, 52, 32, 56, 32, 52, 32, 49, 48, 48, 32, 53, 32, 48, 32, 48, 32, 48, 32, 48, 32, 54, 52, 32, 56, 32, 52, 32, 49, 48, 48, 32, 53, 32, 48, 32, 48, 32, 48, 32, 48, 10, 111, 112, 101, 110, 32, 48, 32, 49, 32, 48, 32, 48, 32, 49, 54, 32, 48, 10, 111, 102, 102, 101, 114, 32, 48, 32, 49, 32, 97, 37, 50, 48, 98, 10, 114, 101, 97, 100, 32, 49, 32, 49, 32, 53, 10] := by decide +kernel
theorem in31 : OkP ⟨[64, 8, 4, 100, 5, 0, 0, 0, 0, 64, 8, 4, 100, 5, 0, 0, 0, 0], [⟨1, 0, 0, 1, 0, ⟨#[]⟩, 0, 16, false, 0, 0, 0⟩, ⟨2, 0, 1, 0, 0, ⟨#[97, 32, 98]⟩, 0, 0, false, 0, 0, 0⟩, ⟨4, 1, 1, 5, 0, ⟨#[]⟩, 0, 0, false, 0, 0, 0⟩]⟩ := by
  have hr : ∀ n : Int, -1000 ≤ n ∧ n ≤ 1000 → inR n := fun n hn => ⟨by omega, by omega⟩
  refine ⟨rfl, fun n hn => hr n (by simp at hn; omega), by decide, fun a ha => ?_⟩
  have hok : ∀ a : AC, okK a → cano a = a → lineF a = some (lineS a) := fun a h1 h2 => lineF_some.2 ⟨⟨h1, h2⟩, rfl⟩
  simp only [List.mem_cons, List.mem_nil_iff, or_false] at ha
  rcases ha with rfl | rfl | rfl
  all_goals
    refine ⟨hok _ ⟨by decide, by decide, by decide⟩ ?_, ⟨hr _ (by decide), hr _ (by decide), hr _ (by decide), hr _ (by decide), hr _ (by decide), hr _ (by decide), hr _ (by decide), hr _ (by decide), hr _ (by decide)⟩⟩
    simp +decide [cano, wdF, cpA, AC0]
theorem rd31 : rdScr 0 PL0 (spl1 10 [112, 97, 116, 101, 114, 110, 111, 115, 116, 101, 114, 32, 54, 52, 32, 56, 32, 52, 32, 49, 48, 48, 32, 53, 32, 48, 32, 48, 32, 48, 32, 48, 32, 54, 52, 32, 56, 32, 52, 32, 49, 48, 48, 32, 53, 32, 48, 32, 48, 32, 48, 32, 48, 10, 111, 112, 101, 110, 32, 48, 32, 49, 32, 48, 32, 48, 32, 49, 54, 32, 48, 10, 111, 102, 102, 101, 114, 32, 48, 32, 49, 32, 97, 37, 50, 48, 98, 10, 114, 101, 97, 100, 32, 49, 32, 49, 32, 53, 10]) = (⟨[64, 8, 4, 100, 5, 0, 0, 0, 0, 64, 8, 4, 100, 5, 0, 0, 0, 0], [⟨1, 0, 0, 1, 0, ⟨#[]⟩, 0, 16, false, 0, 0, 0⟩, ⟨2, 0, 1, 0, 0, ⟨#[97, 32, 98]⟩, 0, 0, false, 0, 0, 0⟩, ⟨4, 1, 1, 5, 0, ⟨#[]⟩, 0, 0, false, 0, 0, 0⟩]⟩, 0, 0) := by
  rw [← lit31]
  exact rd_scr in31
end Go.Proofs.YtiofdmjecjcdbaaGreatDoor

