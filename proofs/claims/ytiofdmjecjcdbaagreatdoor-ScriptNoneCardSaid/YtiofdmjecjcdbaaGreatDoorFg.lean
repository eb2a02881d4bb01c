/- A store into an element of an owned row. Append to a slice with nothing in it; appends of elements of many bytes. A new slice with nothing in it. What an owned row says of its length; facts out of a list of assertions. What a call leaves may be weakened. A new row of zeros. Facts of rows and of parts of rows. A field of a value. An element of an array that is a value: lemmas; each with the conditions that it states. -/
import Derived.Test.YtiofdmjecjcdbaaGreatDoorFe
set_option linter.unusedVariables false
set_option linter.unusedSimpArgs false
namespace Go.Sl
theorem ovL_app : ∀ (vs mid post : List Value), vs.length ≤ mid.length → ovL vs (mid ++ post) = ovL vs mid ++ post
  | [], _, _, _ => by simp [ovL]
  | v :: vs, [], _, h => by simp at h
  | v :: vs, m :: mid, post, h => by
    have := ovL_app vs mid post (by simpa using h)
    simp [ovL, this]
theorem setF_pre : ∀ (pre l : List Value) (n : Nat) (vs : List Value), setF (pre ++ l) (pre.length + n) vs = pre ++ setF l n vs
  | [], l, n, vs => by simp
  | p :: pre, l, n, vs => by
    have := setF_pre pre l n vs
    rw [List.length_cons, show pre.length + 1 + n = (pre.length + n) + 1 by omega, List.cons_append]
    show p :: setF (pre ++ l) (pre.length + n) vs = _
    rw [this]; rfl
theorem setF_app : ∀ (mid post : List Value) (k : Nat) (vs : List Value), k + vs.length ≤ mid.length → setF (mid ++ post) k vs = setF mid k vs ++ post
  | mid, post, 0, vs, h => by
    have z : ∀ l, setF l 0 vs = ovL vs l := fun l => by cases l <;> rfl
    rw [z, z]
    exact ovL_app vs mid post (by omega)
  | [], post, k + 1, vs, h => by simp at h
  | m :: mid, post, k + 1, vs, h => by
    show m :: setF (mid ++ post) k vs = m :: (setF mid k vs ++ post)
    rw [setF_app mid post k vs (by simp at h; omega)]
section
variable {α : Type} {E : Cod α} {xs : List α}
variable {P : Program} {ops : Array Oper} {Q : Fr → List HP → Prop} {a : Fr} {C R : List HP} {c : Nat} {gd : Bool} {es : ET} {hist : List (List HP)}
variable {ty : TypeId} {pos : String} {after : Array Edge} {g : Option (Nat × Bool)} {t : TypeId} {x z : Operand}
end
end Go.Sl

namespace Go.Sl
theorem Ent.unsep {A B : HP} {C : List HP} : Ent (Go.Sl.sep A B :: C) (A :: B :: C) := fun _ hs => Sats.star (l := [A, B]) hs
def natG (n : Nat) : Option Nat := if n < 95 then natF n else if n < 190 then (natF (n - 95)).map (· + 95) else (natF (n - 190)).map (· + 190)
theorem natG_eq {n m : Nat} (h : natG n = some m) : n = m := by
  unfold natG at h
  split at h
  · exact natF_eq h
  · split at h
    · cases h1 : natF (n - 95) with
      | none => rw [h1] at h; cases h
      | some k => rw [h1] at h; cases h; have := natF_eq h1; show n = k + _; omega
    · cases h1 : natF (n - 190) with
      | none => rw [h1] at h; cases h
      | some k => rw [h1] at h; cases h; have := natF_eq h1; show n = k + _; omega
def appU (P : Program) (st xt : TypeId) : Option (TypeId × Nat × Nat) := match appT0 P st xt with
  | some (e, sz, b) => match natF sz with
    | some sz => match natG b with
      | some b => some (e, sz, b)
      | none => none
    | none => none
  | none => none
theorem append_ofU {P : Program} {st xt e : TypeId} {sz b : Nat} (h : appU P st xt = some (e, sz, b)) : ∃ inf z, P.underlying st = some (.slice e) ∧ notIntT P xt = true ∧ P.info? e = some inf ∧ inf.zero = some z ∧ z.cells.size = inf.size ∧ inf.bytes ≠ 0 ∧ inf.size = sz ∧ inf.bytes = b := by
  unfold appU at h
  split at h
  · rename_i e' sz' b' h0
    split at h
    · rename_i sz2 h1
      split at h
      · rename_i b2 h2
        cases h
        unfold appT0 at h0
        split at h0
        · rename_i e2 hst
          split at h0
          · rename_i inf hi
            split at h0
            · rename_i z hz
              split at h0
              · rename_i hc
                cases h0
                exact ⟨inf, z, hst, hc.2.2, hi, hz, hc.1, hc.2.1, natF_eq h1, natG_eq h2⟩
              · cases h0
            · cases h0
          · cases h0
        · cases h0
      · cases h
    · cases h
  · cases h
section
variable {α : Type} {E : Cod α} {xs : List α}
variable {P : Program} {ops : Array Oper} {Q : Fr → List HP → Prop} {a : Fr} {C R : List HP} {c d' : Nat} {d : Option Tmp} {gd : Bool} {es : ET} {hist : List (List HP)}
variable {ty : TypeId} {pos : String} {after : Array Edge} {g : Option (Nat × Bool)} {x y : Operand}
theorem eo_appendU {st xt e : TypeId} {sz bytes cp c0 n : Nat} {A : Option Addr} {ys : List α} {u : Value} {R : List HP} {k : Value → List HP → Prop} (ht : appU P st xt = some (e, sz, bytes)) (hsz : E.sz = sz) (hx : opd a x = .slice A n cp) (hn : xs.length = n) (hy : opd a y = u) (hsrc : Src P C u E ys)
    (hp : Pick (row A c0 e E xs) C R) (hcc : cp = c0 ∨ (n ≤ cp ∧ cp ≤ c0)) (hbig : (2 * (n + ys.length) + 512) * bytes ≤ 281474976710656)
    (hk : ∀ A' c', k (.slice A' (xs ++ ys).length c') (row A' c' e E (xs ++ ys) :: R)) : EvOp P ⟨d, .call { callee := .builtin .append, args := #[x, y], argTypes := #[st, xt] }, ty, pos, after, g⟩ a C k := fun H hs => by
  obtain ⟨inf, zz, h1, h2, h3, h4, h5, h6, h7, rfl⟩ := append_ofU ht
  subst hsz
  have hrs := hp.sats hs
  have hr := sats_row hrs
  have hcl : n ≤ cp ∧ cp ≤ c0 := by
    rcases hcc with rfl | h
    · rcases hr with ⟨g1, g2, g3, g4⟩ | ⟨B, pre, post, g1, g2, g3, g4⟩
      · subst g2 g3; simp at hn; omega
      · omega
    · exact h
  obtain ⟨hcp, hc0⟩ := hcl
  have hmn : (xs ++ ys).length = n + ys.length := by rw [List.length_append, hn]
  refine evOp_of ?_
  simp only [execOp, resolve, List.map_toArray, List.map_cons, List.map_nil, hx, hy]
  rw [ev_bind', ev_pr_eq (show (pure _ : Sem Deferred).pr P = some _ from rfl)]
  simp only [invoke, builtin, ev_bind']
  obtain ⟨hlen, hcells⟩ := hsrc
  rw [hmn] at hk
  refine ev_append2 (xs := xs.flatMap E.enc) (news := ys.flatMap E.enc) h1 h2 h3 h4 h5 hlen (by rw [h7]; exact hcells H hs) (by rw [E.flat_len, h7]) (E.flat_one ys) (by rw [E.flat_len, hn, h7]) ?_ hbig h6 ?_ ?_ ?_
  · rcases hr with ⟨g1, g2, g3, g4⟩ | ⟨B, pre, post, g1, g2, g3, g4⟩
    · subst g2; simp at hn; exact .inl ⟨g1, by omega, by omega⟩
    · refine .inr ⟨B, pre, post, e, true, g1, (sats_pt g2).1, hcp, ?_, .inr (.inl rfl)⟩
      rw [h7]
      exact Nat.le_trans (Nat.mul_le_mul_right _ (by omega)) g4
  · intro hm0
    have hys : ys = [] := by simpa using hm0
    have hk' := hk A cp
    subst hys
    rw [List.append_nil, List.length_nil, Nat.add_zero] at hk'
    refine ⟨_, ?_, hk'⟩
    rcases hr with ⟨g1, g2, g3, g4⟩ | ⟨B, pre, post, g1, g2, g3, g4⟩
    · subst g1 g2 g3
      have : cp = 0 := by omega
      subst this
      exact row_nil_sats g4
    · exact row_sats g1 g2 (by omega) (Nat.le_trans (Nat.mul_le_mul_right _ (by omega)) g4)
  · intro B pre post e' hA hB hle hpl
    rcases hr with ⟨g1, _⟩ | ⟨B', pre', post', g1, g2, g3, g4⟩
    · rw [g1] at hA; cases hA
    · rw [g1] at hA
      have hBB : B' = B := congrArg Addr.block (Option.some.inj hA)
      subst hBB
      have hpre : pre'.length = pre.length := congrArg Addr.off (Option.some.inj hA)
      have hB' := (sats_pt g2).1
      rw [hB'] at hB
      injection hB with hB
      injection hB with hcs he _
      subst he
      rw [List.append_assoc, List.append_assoc] at hcs
      obtain ⟨q1, q2⟩ := List.append_inj hcs hpre
      obtain ⟨_, q3⟩ := List.append_inj q2 rfl
      subst q1 q3
      refine ⟨_, row_sats (pre := pre') (post := post'.drop (ys.flatMap E.enc).length) g1 ?_ (by rw [hmn]; exact hle) ?_, hk A cp⟩
      · rw [List.flatMap_append]
        exact sats_put g2
      · rw [hmn, List.length_drop, E.flat_len, ← Nat.sub_sub, Nat.sub_mul, ← h7]
        omega
  · intro r post N hr0 hN hpl _
    refine ⟨_, row_sats (pre := []) (post := post) rfl ?_ (by rw [hmn]; exact hN) (by rw [hmn, hpl, h7]; exact Nat.le_refl _), hk _ N⟩
    rw [List.flatMap_append, List.nil_append]
    exact sats_new hr0 hrs.tail
theorem G_appendU {st xt e : TypeId} {sz bytes cp c0 n : Nat} {A : Option Addr} {ys : List α} {u : Value} {R : List HP} (h : ∀ A' c', spl gd (.slice A' (xs ++ ys).length c') fun v => evG P ops Q es (C :: hist) (upd a d' v) (row A' c' e E (xs ++ ys) :: R))
    (hx : opd a x = .slice A n cp := by exact rfl) (hy : opd a y = u := by exact rfl) (ht : appU P st xt = some (e, sz, bytes) := by exact rfl) (hp : Pick (row A c0 e E xs) C R := by ((repeat (first | exact Pick.here | apply Pick.there)) <;> exact Pick.here)) (hsrc : Src P C u E ys := by first | exact src_byte | exact src_one | exact src_str | exact src_view) (hsz : E.sz = sz := by exact rfl) (hn : xs.length = n := by first | exact rfl | assumption | omega)
    (hcc : cp = c0 ∨ (n ≤ cp ∧ cp ≤ c0) := by first | exact .inl rfl | exact .inr ⟨by omega, by omega⟩) (hbig : (2 * (n + ys.length) + 512) * bytes ≤ 281474976710656 := by first | omega | assumption | (simp only [List.length_cons, List.length_nil]; omega))
    (hw : wantB ops ⟨some d', .call { callee := .builtin .append, args := #[x, y], argTypes := #[st, xt] }, ty, pos, after, g⟩ a = true := by exact rfl) : evG P ops Q (ET.cons (c, gd, ⟨some d', .call { callee := .builtin .append, args := #[x, y], argTypes := #[st, xt] }, ty, pos, after, g⟩) es) hist a C :=
  G_o (hw := hw) (eo_appendU ht hsz hx hn hy hsrc hp hcc hbig h)
/-- append to a slice that is nil -/
theorem G_appendNU {st xt e : TypeId} {sz bytes : Nat} {ys : List α} {u : Value} (h : ∀ A' c', spl gd (.slice A' ys.length c') fun v => evG P ops Q es (C :: hist) (upd a d' v) (row A' c' e E ys :: C))
    (hx : opd a x = .slice none 0 0 := by exact rfl) (hy : opd a y = u := by exact rfl) (ht : appU P st xt = some (e, sz, bytes) := by exact rfl) (hsrc : Src P C u E ys := by first | exact src_byte | exact src_one | exact src_str | exact src_view) (hsz : E.sz = sz := by exact rfl)
    (hbig : (2 * (0 + ys.length) + 512) * bytes ≤ 281474976710656 := by first | omega | assumption | (simp only [List.length_cons, List.length_nil]; omega))
    (hw : wantB ops ⟨some d', .call { callee := .builtin .append, args := #[x, y], argTypes := #[st, xt] }, ty, pos, after, g⟩ a = true := by exact rfl) : evG P ops Q (ET.cons (c, gd, ⟨some d', .call { callee := .builtin .append, args := #[x, y], argTypes := #[st, xt] }, ty, pos, after, g⟩) es) hist a C :=
  G_o (hw := hw) (EvOp.ent (Ent.nilrow e E C) (eo_appendU (xs := []) ht hsz hx rfl hy ⟨hsrc.1, fun H hs => hsrc.2 H hs.tail⟩ Pick.here (.inl rfl) hbig h))
end
end Go.Sl

namespace Go.Sl
section
variable {P : Program} {a : Fr} {d : Option Tmp} {ty : TypeId} {pos : String} {after : Array Edge} {g : Option (Nat × Bool)} {t : TypeId}
theorem eo_buildSlice0 {ps : Array (Nat × Operand)} {sz : Nat} {e : TypeId} {H : Hp} {k : Value → Hp → Prop} (hps : ps.toList = []) (he : elemOfS P t = some e) (hc : infoSz P e = some sz)
    (hk : ∀ r, H r = none → k (.slice (some ⟨r, 0, none⟩) 0 0) (hupd H r (.cells [] e true))) : evOp P ⟨d, .buildSlice t 0 ps, ty, pos, after, g⟩ a H k := by
  have hu := elemOfS_spec he
  have hp0 : ps = #[] := by apply Array.ext'; simpa using hps
  subst hp0
  obtain ⟨inf, hi, rfl⟩ := infoSz_spec hc
  refine evOp_of ?_
  simp only [execOp, Instr.buildSlice, ev_bind']
  rw [ev_pr_eq (pr_underlying hu)]
  simp only [ev_bind']
  rw [ev_pr_eq (pr_sizeOf hi), if_neg (by simp)]
  rw [if_pos (by simp)]
  simp only [ev_bind']
  rw [ev_pr_eq (show (pure #[] : Sem (Array Value)).pr P = some #[] from rfl)]
  have hf : ∀ z : Nat → Value, Instr.fill (fun i => some (i * inf.size, inf.size)) ((Array.range (0 * inf.size)).map z) (Array.map (fun x : Nat × Operand => (x.1, opd a x.2)) #[]).toList = some #[] := fun z => by
    simp [Instr.fill]
  rw [hf]
  simp only [ev_bind', newRow]
  intro r hr
  exact ⟨rfl, hk r hr⟩
variable {ops : Array Oper} {Q : Fr → List HP → Prop} {C : List HP} {c d' : Nat} {gd : Bool} {es : ET} {hist : List (List HP)}
end
end Go.Sl

namespace Go.Sl
section
variable {α : Type} {E : Cod α} {A : Option Addr} {c : Nat} {e : TypeId} {l : List α} {C R : List HP}
theorem row_fact {H : Hp} (hs : Sats (row A c e E l :: R) H) : l.length ≤ c := by
  rcases sats_row hs with ⟨_, g2, _⟩ | ⟨_, _, _, _, _, g, _⟩
  · subst g2; simp
  · exact g
theorem evC_rowfact {P : Program} {x : Code} {Q : Exit → Fr → List HP → Prop} {a : Fr} (hp : Pick (row A c e E l) C R) (h : l.length ≤ c → evC P x Q a C) : evC P x Q a C := fun H hs => h (row_fact (hp.sats hs)) H hs
end
end Go.Sl

namespace Go.Sl
theorem CallT.entK {P : Program} {f : FuncId} {args : Array Value} {C : List HP} {K : Value → List HP → Prop} (h : CallT P f args C fun v C => ∃ C', Ent C C' ∧ K v C') : CallT P f args C K := fun H hs =>
  (h H hs).mono fun _ H' ⟨_, h1, C', h2, h3⟩ => ⟨C', h2 H' h1, h3⟩
end Go.Sl

namespace Go.Sl
section
variable {P : Program} {a : Fr} {d : Option Tmp} {ty : TypeId} {pos : String} {after : Array Edge} {g : Option (Nat × Bool)} {t : TypeId} {x y : Operand}
theorem eo_makeBytes {e : TypeId} {n : Nat} {C : List HP} {k : Value → List HP → Prop} {inf : TypeInfo} {z : Value} (hst : P.underlying t = some (.slice e)) (hi : P.info? e = some inf) (hsz : inf.size = 1) (hby : inf.bytes = 1) (hz : inf.zero = some z) (hzc : z.cells = #[.int .u8 0]) (hx : opd a x = .int .i64 n) (hy : opd a y = .int .i64 n) (hn : n ≤ 1000000)
    (hk : ∀ r, k (.slice (some ⟨r, 0, none⟩) n n) (row (some ⟨r, 0, none⟩) n e byteC (List.replicate n 0) :: C)) : EvOp P ⟨d, .makeSlice t x y, ty, pos, after, g⟩ a C k := fun H hs => by
  refine evOp_of ?_
  have hw : IntKind.i64.wrap (n : Int) = n := wrap64 (by omega) (by omega)
  simp only [execOp, hx, hy]
  unfold Instr.makeSlice
  simp only [ev_bind']
  rw [ev_pr_eq (pr_underlying hst)]
  simp only [ev_bind']
  rw [ev_pr_eq (show (asInt (.int .i64 (n : Int))).pr P = some (n : Int) from rfl), ev_pr_eq (show (asInt (.int .i64 (n : Int))).pr P = some (n : Int) from rfl), ev_pr_eq (pr_typeInfo hi)]
  simp only [hw, hby]
  have h48 : (2 : Int) ^ 48 = 281474976710656 := by decide
  rw [if_neg (by simp only [h48, Bool.or_eq_true, decide_eq_true_eq]; omega)]
  simp only [ev_bind']
  refine ev_askRoom ?_
  rw [ev_pr_eq (pr_sizeOf hi), hsz]
  simp only [Int.toNat_natCast, Nat.mul_one]
  have hz0 : byteV 0 = .int .u8 0 := rfl
  have fin : ∀ (zs : Array Value) (r : Nat), H r = none → ((Array.range n).map (fun i => zs[i % zs.size]!)).toList = (List.replicate n (0 : UInt8)).map byteV → upV k (.slice (some ⟨r, 0, none⟩) n n) (hupd H r (.cells ((Array.range n).map (fun i => zs[i % zs.size]!)).toList e true)) := fun zs r hr he => by
    rw [he]
    refine ⟨_, row_sats (pre := []) (post := []) rfl ?_ (by rw [List.length_replicate]; exact Nat.le_refl _) (by rw [List.length_replicate]; simp), hk r⟩
    rw [List.nil_append, List.append_nil, bytes_flat]
    exact sats_new hr hs
  by_cases hn0 : n = 0
  · subst hn0
    rw [if_pos rfl]
    simp only [ev_bind', newRow]
    rw [ev_pr_eq (show (pure #[] : Sem (Array Value)).pr P = some #[] from rfl)]
    intro r hr
    exact ⟨rfl, fin #[] r hr (by simp)⟩
  · rw [if_neg hn0]
    simp only [ev_bind', newRow]
    rw [ev_pr_eq (show (zeroValue e).pr P = some z from by simp only [zeroValue, pr_bind, pr_typeInfo hi, Option.bind_some, hz]; rfl)]
    rw [ev_pr_eq (show (pure z.cells : Sem (Array Value)).pr P = some z.cells from rfl), hzc]
    intro r hr
    exact ⟨rfl, fin _ r hr (by
      apply List.ext_getElem (by simp)
      intro i h1 h2
      simp [Nat.mod_one]
      rfl)⟩
/-- the zero of bytes -/
def byteZ (P : Program) (e : TypeId) : Prop := ∃ inf z, P.info? e = some inf ∧ inf.size = 1 ∧ inf.bytes = 1 ∧ inf.zero = some z ∧ z.cells = #[.int .u8 0]
variable {ops : Array Oper} {Q : Fr → List HP → Prop} {C : List HP} {c d' : Nat} {gd : Bool} {es : ET} {hist : List (List HP)}
theorem G_makeBytes {e : TypeId} {n : Nat} (h : ∀ r, spl gd (.slice (some ⟨r, 0, none⟩) n n) fun v => evG P ops Q es (C :: hist) (upd a d' v) (row (some ⟨r, 0, none⟩) n e byteC (List.replicate n 0) :: C)) (hx : opd a x = .int .i64 n := by exact rfl) (hy : opd a y = .int .i64 n := by exact rfl) (hst : P.underlying t = some (.slice e) := by exact rfl) (hz : byteZ P e := by exact ⟨_, _, rfl, rfl, rfl, rfl, rfl⟩) (hn : n ≤ 1000000 := by first | omega | assumption)
    (hk : kd P (.makeSlice t x y) = .other := by exact rfl) (hw : wantB ops ⟨some d', .makeSlice t x y, ty, pos, after, g⟩ a = true := by exact rfl) : evG P ops Q (ET.cons (c, gd, ⟨some d', .makeSlice t x y, ty, pos, after, g⟩) es) hist a C := by
  obtain ⟨inf, z, h1, h2, h3, h4, h5⟩ := hz
  exact G_o (hk := hk) (hw := hw) (eo_makeBytes hst h1 h2 h3 h4 h5 hx hy hn h)
end
end Go.Sl

namespace Go.Sl
section
variable {P : Program} {α : Type} {E : Cod α} {A : Option Addr} {c : Nat} {e : TypeId} {l : List α} {C R : List HP} {K : Value → List HP → Prop}
theorem ent_fold4 {A B D : HP} {p : Prop} (h : p) : Ent (A :: B :: D :: R) (sep A (sep B (sep D (pureP p))) :: R) :=
  Ent.sep (Ent.pick Pick.here (Ent.sep (Ent.pick Pick.here (Ent.sep (Ent.pick Pick.here (Ent.pure h (Ent.refl _)))))))
end
end Go.Sl
namespace Go.Sl
section
variable {P : Program} {ops : Array Oper} {Q : Fr → List HP → Prop} {a : Fr} {C : List HP} {c : Nat} {gd : Bool} {es : ET} {hist : List (List HP)} {d' : Tmp}
variable {ty : TypeId} {pos : String} {after : Array Edge} {g : Option (Nat × Bool)} {t yt : TypeId} {x y : Operand}
end
end Go.Sl
namespace Go.Sl
end Go.Sl

namespace Go.Sl
def fieldOf (P : Program) (t : TypeId) (f : Nat) : Option (TypeId × Nat) := match P.underlying t with
  | some (.struct fs) => match fs[f]? with
    | some fd => some (fd.type, fd.offset)
    | none => none
  | _ => none
section
variable {P : Program} {a : Fr} {d : Option Tmp} {ty : TypeId} {pos : String} {after : Array Edge} {g : Option (Nat × Bool)} {t u : TypeId} {x : Operand}
theorem pv_fieldV {f off : Nat} {cs : Array Value} {v : Value} (hx : opd a x = .agg cs) (hf : fieldOf P t f = some (u, off)) (hv : partV P u cs.toList off = some v) : pureV P ⟨d, .field t x f, ty, pos, after, g⟩ a = some v := by
  unfold fieldOf at hf
  split at hf
  · rename_i fs hu
    split at hf
    · rename_i fd hfd
      cases hf
      refine pureV_pr ?_
      simp only [execOp, hx]
      unfold Instr.field
      rw [pr_bind, pr_bind, pr_underlying hu, Option.bind_some]
      simp only [hfd]
      rw [pr_bind, show (asAgg (.agg cs)).pr P = some cs from rfl, Option.bind_some, pr_part hv]
      rfl
    · cases hf
  · cases hf
variable {ops : Array Oper} {Q : Fr → List HP → Prop} {C : List HP} {c d' : Nat} {gd : Bool} {es : ET} {hist : List (List HP)}
end
end Go.Sl

namespace Go.Sl
def arrE (P : Program) (t : TypeId) : Option (Nat × TypeId) := match P.underlying t with
  | some (.array n e) => some (n, e)
  | _ => none
section
variable {P : Program} {a : Fr} {d : Option Tmp} {ty : TypeId} {pos : String} {after : Array Edge} {g : Option (Nat × Bool)} {t u : TypeId} {x y : Operand}
theorem pv_indexArr {k : IntKind} {j : Int} {n sz : Nat} {cs : Array Value} {v : Value} (hx : opd a x = .agg cs) (hy : opd a y = .int k j) (ht : arrE P t = some (n, u)) (hs : infoSz P u = some sz) (h0 : 0 ≤ j) (h1 : j < n) (hv : partV P u cs.toList (j.toNat * sz) = some v) : pureV P ⟨d, .index t x y, ty, pos, after, g⟩ a = some v := by
  unfold arrE at ht
  split at ht
  · rename_i n' e hu
    cases ht
    obtain ⟨i, hi, rfl⟩ := infoSz_spec hs
    refine pureV_pr ?_
    simp only [execOp, hx, hy]
    unfold Instr.index
    rw [pr_bind, pr_bind, show (asIntOf (.int k j)).pr P = some (k, j) from rfl, Option.bind_some]
    simp only
    rw [pr_bind, pr_underlying hu, Option.bind_some]
    simp only
    rw [if_pos ⟨h0, h1⟩, pr_bind, pr_sizeOf hi, Option.bind_some, pr_part hv]
    rfl
  · cases ht
variable {ops : Array Oper} {Q : Fr → List HP → Prop} {C : List HP} {c d' : Nat} {gd : Bool} {es : ET} {hist : List (List HP)}
theorem G_indexArr {k : IntKind} {j : Int} {n sz : Nat} {cs : Array Value} {v : Value} (h : spl gd v fun v => evG P ops Q es hist (upd a d' v) C) (hx : opd a x = .agg cs := by exact rfl) (hy : opd a y = .int k j := by exact rfl) (ht : arrE P t = some (n, u) := by exact rfl) (hs : infoSz P u = some sz := by exact rfl) (h0 : 0 ≤ j := by omega) (h1 : j < n := by omega) (hv : partV P u cs.toList (j.toNat * sz) = some v := by exact rfl)
    (hw : wantB ops ⟨some d', .index t x y, ty, pos, after, g⟩ a = true := by exact rfl) : evG P ops Q (ET.cons (c, gd, ⟨some d', .index t x y, ty, pos, after, g⟩) es) hist a C :=
  evG_p rfl hw (pv_indexArr hx hy ht hs h0 h1 hv) h
end
end Go.Sl

