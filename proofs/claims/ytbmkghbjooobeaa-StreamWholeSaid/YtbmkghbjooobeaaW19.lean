/- A stream of bytes, by whether its end was sent, and came: lemmas; each with the conditions that it states. -/
import Derived.Test.YtbmkghbjooobeaaW18

namespace Go.Proofs.Ytbmkghbjooobeaa
open Go Go.Proofs Go.Sl
set_option maxRecDepth 100000
set_option maxHeartbeats 4000000
set_option linter.unusedSimpArgs false
set_option linter.unusedVariables false
attribute [local irreducible] evG evC spl thenC inBlockC noGotoC CallT retC RetG TurnG CutG pt ro exP star sep pureP
variable {R C : List HP} {K : Value → List HP → Prop}
section
variable {s li t r cap : Nat} {id ac se dr n rcap most gr got us : Int} {own en ou sd rd ren b : Bool} {bs rb : List UInt8} {d : ByteArray}
theorem staS (rd : Bool) : staOf false rd = 1 ∨ staOf false rd = 3 := by cases rd <;> simp [staOf]
theorem staN (rd : Bool) : ¬ (staOf true rd = 1 ∨ staOf true rd = 3) := by cases rd <;> simp [staOf]
theorem staR (sd : Bool) : staOf sd false = 1 ∨ staOf sd false = 2 := by cases sd <;> simp [staOf]
theorem sfinishW_ok (hK : K (.int .i64 (if en = true then 11 else 0)) (pt s [.pointer (some ⟨li, 0, none⟩), .pointer (some ⟨t, 0, none⟩), .pointer (some ⟨r, 0, none⟩), .int .i64 id, .bool own] 84 :: liP li (staOf false rd) :: txB t cap bs true ou ac se dr :: R)) : CallT Try.prog 70 #[.pointer (some ⟨s, 0, none⟩)] (pt s [.pointer (some ⟨li, 0, none⟩), .pointer (some ⟨t, 0, none⟩), .pointer (some ⟨r, 0, none⟩), .int .i64 id, .bool own] 84 :: liP li (staOf false rd) :: txB t cap bs en ou ac se dr :: R) K := sfinishB_ok (staS rd) hK
theorem sfinishWX_ok (hK : K (.int .i64 14) (pt s [.pointer (some ⟨li, 0, none⟩), .pointer (some ⟨t, 0, none⟩), .pointer (some ⟨r, 0, none⟩), .int .i64 id, .bool own] 84 :: liP li (staOf true rd) :: R)) : CallT Try.prog 70 #[.pointer (some ⟨s, 0, none⟩)] (pt s [.pointer (some ⟨li, 0, none⟩), .pointer (some ⟨t, 0, none⟩), .pointer (some ⟨r, 0, none⟩), .int .i64 id, .bool own] 84 :: liP li (staOf true rd) :: R) K := sfinishX_ok (staN rd) hK
theorem stakeW_ok (hr : rdB bs en ou n = true) (hb : (en && decide (bs.drop (tkB bs n) = [])) = b) (hK : K (.tuple #[.agg #[.int .i64 0, .int .i64 id, .bool b, .string ⟨(bs.take (tkB bs n)).toArray⟩, .int .i64 0, .int .i64 0, .int .i64 0, .bool false, .int .i64 0, .int .i64 0, .int .i64 0, .slice none 0 0], .bool true]) (pt s [.pointer (some ⟨li, 0, none⟩), .pointer (some ⟨t, 0, none⟩), .pointer (some ⟨r, 0, none⟩), .int .i64 id, .bool own] 84 :: liP li (staOf b rd) :: txB t cap (bs.drop (tkB bs n)) en b ac (se + (tkB bs n : Nat)) dr :: R)) : CallT Try.prog 69 #[.pointer (some ⟨s, 0, none⟩), .int .i64 n] (pt s [.pointer (some ⟨li, 0, none⟩), .pointer (some ⟨t, 0, none⟩), .pointer (some ⟨r, 0, none⟩), .int .i64 id, .bool own] 84 :: liP li (staOf false rd) :: txB t cap bs en ou ac se dr :: R) K := by
  have e : sEnd (staOf false rd) b = staOf b rd := by cases rd <;> cases b <;> rfl
  exact stakeB_ok (staS rd) hr hb (e ▸ hK)
theorem stakeWN_ok (hr : rdB bs en ou n = false) (hK : K (.tuple #[.agg #[.int .i64 0, .int .i64 0, .bool false, .string ⟨#[]⟩, .int .i64 0, .int .i64 0, .int .i64 0, .bool false, .int .i64 0, .int .i64 0, .int .i64 0, .slice none 0 0], .bool false]) (pt s [.pointer (some ⟨li, 0, none⟩), .pointer (some ⟨t, 0, none⟩), .pointer (some ⟨r, 0, none⟩), .int .i64 id, .bool own] 84 :: liP li (staOf false rd) :: txB t cap bs en ou ac se dr :: R)) : CallT Try.prog 69 #[.pointer (some ⟨s, 0, none⟩), .int .i64 n] (pt s [.pointer (some ⟨li, 0, none⟩), .pointer (some ⟨t, 0, none⟩), .pointer (some ⟨r, 0, none⟩), .int .i64 id, .bool own] 84 :: liP li (staOf false rd) :: txB t cap bs en ou ac se dr :: R) K := stakeN_ok (staS rd) hr hK
theorem stakeWX_ok (hK : K (.tuple #[.agg #[.int .i64 0, .int .i64 0, .bool false, .string ⟨#[]⟩, .int .i64 0, .int .i64 0, .int .i64 0, .bool false, .int .i64 0, .int .i64 0, .int .i64 0, .slice none 0 0], .bool false]) (pt s [.pointer (some ⟨li, 0, none⟩), .pointer (some ⟨t, 0, none⟩), .pointer (some ⟨r, 0, none⟩), .int .i64 id, .bool own] 84 :: liP li (staOf true rd) :: R)) : CallT Try.prog 69 #[.pointer (some ⟨s, 0, none⟩), .int .i64 n] (pt s [.pointer (some ⟨li, 0, none⟩), .pointer (some ⟨t, 0, none⟩), .pointer (some ⟨r, 0, none⟩), .int .i64 id, .bool own] 84 :: liP li (staOf true rd) :: R) K := stakeX_ok (staN rd) hK
theorem sofferW_ok (he : en = false) (hs : ac + d.size ≤ 900000000) {k : Nat} (hk : offB cap bs en d = k) (hK : K (.tuple #[.int .i64 k, .int .i64 0]) (pt s [.pointer (some ⟨li, 0, none⟩), .pointer (some ⟨t, 0, none⟩), .pointer (some ⟨r, 0, none⟩), .int .i64 id, .bool own] 84 :: liP li (staOf false rd) :: txB t cap (bs ++ d.data.toList.take k) en ou (ac + k) se dr :: R)) : CallT Try.prog 68 #[.pointer (some ⟨s, 0, none⟩), .string d] (pt s [.pointer (some ⟨li, 0, none⟩), .pointer (some ⟨t, 0, none⟩), .pointer (some ⟨r, 0, none⟩), .int .i64 id, .bool own] 84 :: liP li (staOf false rd) :: txB t cap bs en ou ac se dr :: R) K := by
  subst hk
  subst he
  exact sofferB_ok (staS rd) hs hK
theorem sofferWE_ok (he : en = true) (hs : ac + d.size ≤ 900000000) (hK : K (.tuple #[.int .i64 0, .int .i64 11]) (pt s [.pointer (some ⟨li, 0, none⟩), .pointer (some ⟨t, 0, none⟩), .pointer (some ⟨r, 0, none⟩), .int .i64 id, .bool own] 84 :: liP li (staOf false rd) :: txB t cap bs en ou ac se dr :: R)) : CallT Try.prog 68 #[.pointer (some ⟨s, 0, none⟩), .string d] (pt s [.pointer (some ⟨li, 0, none⟩), .pointer (some ⟨t, 0, none⟩), .pointer (some ⟨r, 0, none⟩), .int .i64 id, .bool own] 84 :: liP li (staOf false rd) :: txB t cap bs en ou ac se dr :: R) K := by
  subst he
  have e : offB cap bs true d = 0 := rfl
  refine sofferB_ok (staS rd) hs ?_
  rw [e, List.take_zero, List.append_nil]
  simpa using hK
theorem sofferWX_ok (hK : K (.tuple #[.int .i64 0, .int .i64 14]) (pt s [.pointer (some ⟨li, 0, none⟩), .pointer (some ⟨t, 0, none⟩), .pointer (some ⟨r, 0, none⟩), .int .i64 id, .bool own] 84 :: liP li (staOf true rd) :: R)) : CallT Try.prog 68 #[.pointer (some ⟨s, 0, none⟩), .string d] (pt s [.pointer (some ⟨li, 0, none⟩), .pointer (some ⟨t, 0, none⟩), .pointer (some ⟨r, 0, none⟩), .int .i64 id, .bool own] 84 :: liP li (staOf true rd) :: R) K := sofferX_ok (staN rd) hK
end
section
variable {s li tt r cap : Nat} {id ac se dr rcap most gr got us : Int} {own en ou ren sd rd : Bool} {bs rb : List UInt8}
variable {t st k on w c la n : Int} {e x : Bool} {d : ByteArray} {pa : Option Addr} {pn pc : Nat}
theorem scomeW_ok (hs : (d.size : Int) ≤ max (gr - got) 0) (hb : got + d.size ≤ 400000000) (hK : K (.tuple #[.int .i64 0, .bool true]) (pt s [.pointer (some ⟨li, 0, none⟩), .pointer (some ⟨tt, 0, none⟩), .pointer (some ⟨r, 0, none⟩), .int .i64 id, .bool own] 84 :: liP li (staOf sd e) :: txB tt cap bs en ou ac se dr :: rxB r rcap most gr (got + d.size) us (rb ++ d.data.toList) e :: R)) : CallT Try.prog 65 #[.pointer (some ⟨s, 0, none⟩), .agg #[.int .i64 0, .int .i64 st, .bool e, .string d, .int .i64 k, .int .i64 on, .int .i64 w, .bool x, .int .i64 c, .int .i64 la, .int .i64 n, .slice pa pn pc]] (pt s [.pointer (some ⟨li, 0, none⟩), .pointer (some ⟨tt, 0, none⟩), .pointer (some ⟨r, 0, none⟩), .int .i64 id, .bool own] 84 :: liP li (staOf sd false) :: txB tt cap bs en ou ac se dr :: rxB r rcap most gr got us rb false :: R) K := by
  have e : sCome (staOf sd false) e = staOf sd e := by cases sd <;> cases e <;> rfl
  exact scomeB_ok (staR sd) rfl hs hb (e ▸ hK)
end
end Go.Proofs.Ytbmkghbjooobeaa

