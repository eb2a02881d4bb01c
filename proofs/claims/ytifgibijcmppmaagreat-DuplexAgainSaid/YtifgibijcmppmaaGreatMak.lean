/- A part of the proof: lemmas; each with the conditions that it states. -/
import Derived.Test.YtifgibijcmppmaaGreatMal
import Derived.Test.YtifgibijcmppmaaGreatMaj
set_option linter.unusedVariables false
set_option linter.unusedSimpArgs false
namespace Go.Proofs.YtifgibijcmppmaaGreat
open Go Go.Proofs Go.Sl
set_option maxRecDepth 100000
set_option maxHeartbeats 40000000
attribute [local irreducible] aM fG cV bP aN aW aA dP dX aV dO pt ro eW star sep bH
section
variable {R C:List HP} {K:Value→List HP→Prop}
structure RA where
 k:Int
 m:Int
 s:ByteArray
 w:Int
 st:Int
 it:Int
section
variable {r x p n c:Nat} {A:Option Addr} {cap most gr got us mr room ask open_ a1 t1 d1 k m w st it v:Int} {bs:List UInt8} {l:List ByteArray} {en:Bool} {s:ByteArray}
end
section
variable {A:Option Addr} {n c:Nat} {ls:List RA} {kd w st it:Int}
end
end
end Go.Proofs.YtifgibijcmppmaaGreat
section
namespace Go.Proofs.YtifgibijcmppmaaGreat
open Go Go.Proofs Go.Sl
set_option maxRecDepth 100000
set_option maxHeartbeats 40000000
attribute [local irreducible] aM fG cV bP aN aW aA dP dX aV dO pt ro eW star sep bH
variable {R C:List HP} {K:Value→List HP→Prop}
theorem Ot (hK:K (.agg #[.int .i64 1,.int .i64 1,.int .i64 (-1),.int .i64 (-1),.int .i64 (-1),.int .i64 (-1),.int .i64 (-1),.int .i64 (-1),.int .i64 2,.int .i64 3,.int .i64 4,.int .i64 4,.int .i64 (-1),.int .i64 (-1),.int .i64 (-1),.int .i64 4,.int .i64 4,.int .i64 4,.int .i64 (-1),.int .i64 (-1),.int .i64 4,.int .i64 (-1),.int .i64 4,.int .i64 4,.int .i64 (-1),.int .i64 (-1),.int .i64 (-1),.int .i64 (-1),.int .i64 (-1),.int .i64 (-1)]) R):aA Tryz.prog 377 #[] R K:=by
 refine aH Tryz.func377 ?_
 repeat' (first|refine v5 ?_|refine wr ?_|refine w5 ?_ ?_|((refine bh fun h=>?_) <;> try exact w6 h)|(refine aE fun hA=>?_;subst hA)|intro _)
 (refine aC ?_;exact aB (hK))
def xC (s e:Int):Int:=([1,1,-1,-1,-1,-1,-1,-1,2,3,4,4,-1,-1,-1,4,4,4,-1,-1,4,-1,4,4,-1,-1,-1,-1,-1,-1]:List Int).getD (s.toNat * 6+e.toNat) (-1)
def Cm:List (Nat×Nat):= [(0,1),(1,1),(2,0),(3,1),(4,0),(5,0)]
theorem Kv {r2 r3:Nat} {s e:Int} (hs:s=0∨s=1∨s=2∨s=3∨s=4) (he:e=0∨e=1∨e=2∨e=3∨e=4∨e=5) (hK:K (.int .i64 (xC s e)) (pt r2 [.int .i64 s] 3::pt r3 [.int .i64 e] 3::R)):aA Tryz.prog 376 #[.pointer (some ⟨r2,0,none⟩),.pointer (some ⟨r3,0,none⟩)] (pt r2 [.int .i64 s] 3::pt r3 [.int .i64 e] 3::R) K:=by
 rcases hs with rfl|rfl|rfl|rfl|rfl <;> rcases he with rfl|rfl|rfl|rfl|rfl|rfl
 all_goals
  refine aH Tryz.func376 ?_
  repeat' (first|refine v25 ?_|refine dw Cm ?_|refine wr ?_|refine w5 ?_ ?_|((refine bh fun h=>?_) <;> try exact w6 h)|(refine aE fun hA=>?_;subst hA)|intro _|(show aA _ 377 _ _ _;refine CA (h:=Ot ?_))|(show aM _ _ _ _ _ _ _;refine x5 ?_))
  (refine aC ?_;exact aB (hK))
end Go.Proofs.YtifgibijcmppmaaGreat
namespace Go.Proofs.YtifgibijcmppmaaGreat
open Go Go.Proofs Go.Sl
set_option maxRecDepth 100000
set_option maxHeartbeats 40000000
attribute [local irreducible] aM fG cV bP aN aW aA dP dX aV dO pt ro eW star sep bH
variable {R C:List HP} {K:Value→List HP→Prop}
theorem Vg {s e:Int} (hs:0≤s∧s≤4) (he:0≤e∧e≤5) (hv:xC s e=-1) (hK:K (.tuple #[.int .i64 0,.int .i64 11]) R):aA Tryz.prog 325 #[.int .i64 s,.int .i64 e] R K:=by
 refine aH Tryz.func325 ?_
 repeat' (first|refine v26 ?_|refine wr ?_|refine w5 ?_ ?_|((refine bh fun h=>?_) <;> try exact w6 h)|(refine aE fun hA=>?_;subst hA)|intro _|(show aA _ 376 _ _ _;refine CA (h:=Kv (by omega) (by omega) ?_)))
 all_goals(refine aC ?_;exact aB (hK))
theorem Y3 {s e:Int} (hs:0≤s∧s≤4) (he:0≤e∧e≤5) (hv:xC s e≠-1) (hK:K (.tuple #[.int .i64 (xC s e),.int .i64 0]) R):aA Tryz.prog 325 #[.int .i64 s,.int .i64 e] R K:=by
 refine aH Tryz.func325 ?_
 repeat' (first|refine v26 ?_|refine wr ?_|refine w5 ?_ ?_|((refine bh fun h=>?_) <;> try exact w6 h)|(refine aE fun hA=>?_;subst hA)|intro _|(show aA _ 376 _ _ _;refine CA (h:=Kv (by omega) (by omega) ?_)))
 all_goals(refine aC ?_;exact aB (hK))
def oR (p:Nat) (s:Int):HP:=pt p [.int .i64 s] 361
theorem Gp (hK:∀p,K (.pointer (some ⟨p,0,none⟩)) (oR p 0::R)):aA Tryz.prog 236 #[] R K:=by
 refine aH Tryz.func236 ?_
 repeat' (first|refine v6 ?_|refine wr ?_|refine w5 ?_ ?_|((refine bh fun h=>?_) <;> try exact w6 h)|(refine aE fun hA=>?_;subst hA)|intro _)
 (refine aC ?_;exact aB (hK _))
section
variable {p:Nat} {s e v:Int}
theorem Q0 (hs:0≤s∧s≤4) (he:0≤e∧e≤5) (hv:xC s e=-1) (hK:K (.int .i64 11) (oR p s::R)):aA Tryz.prog 237 #[.pointer (some ⟨p,0,none⟩),.int .i64 e] (oR p s::R) K:=by
 unfold oR at *
 refine aH Tryz.func237 ?_
 repeat' (first|refine Ga ?_|refine wr ?_|refine w5 ?_ ?_|((refine bh fun h=>?_) <;> try exact w6 h)|(refine aE fun hA=>?_;subst hA)|intro _|(show aA _ 325 _ _ _;refine CA (h:=Vg hs he hv ?_)))
 (refine aC ?_;exact aB (hK))
theorem kK (hs:0≤s∧s≤4) (he:0≤e∧e≤5) (hv:xC s e=v) (h1:v≠-1) (hK:K (.int .i64 0) (oR p v::R)):aA Tryz.prog 237 #[.pointer (some ⟨p,0,none⟩),.int .i64 e] (oR p s::R) K:=by
 subst hv
 unfold oR at *
 refine aH Tryz.func237 ?_
 repeat' (first|refine Ga ?_|refine wr ?_|refine w5 ?_ ?_|((refine bh fun h=>?_) <;> try exact w6 h)|(refine aE fun hA=>?_;subst hA)|intro _|(show aA _ 325 _ _ _;refine CA (h:=Y3 hs he h1 ?_)))
 (refine aC ?_;exact aB (hK))
theorem EL (hK:K (.int .i64 s) (oR p s::R)):aA Tryz.prog 273 #[.pointer (some ⟨p,0,none⟩)] (oR p s::R) K:=by
 unfold oR at *
 refine aH Tryz.func273 ?_
 repeat' (first|refine v4 ?_|refine wr ?_|refine w5 ?_ ?_|((refine bh fun h=>?_) <;> try exact w6 h)|(refine aE fun hA=>?_;subst hA)|intro _)
 (refine aC ?_;exact aB (hK))
theorem nU (hK:K (.bool (decide (s=1∨s=3))) (oR p s::R)):aA Tryz.prog 182 #[.pointer (some ⟨p,0,none⟩)] (oR p s::R) K:=by
 refine aH Tryz.func182 ?_
 repeat' (first|refine v3 ?_|refine wr ?_|refine w5 ?_ ?_|((refine bh fun h=>?_) <;> try exact w6 h)|(refine aE fun hA=>?_;subst hA)|intro _|(show aA _ 273 _ _ _;refine CA (h:=EL ?_)))
 all_goals(refine aC ?_;exact aB (kb hK (by simp <;> omega)))
theorem eC (hK:K (.bool (decide (s=1∨s=2))) (oR p s::R)):aA Tryz.prog 188 #[.pointer (some ⟨p,0,none⟩)] (oR p s::R) K:=by
 refine aH Tryz.func188 ?_
 repeat' (first|refine v3 ?_|refine wr ?_|refine w5 ?_ ?_|((refine bh fun h=>?_) <;> try exact w6 h)|(refine aE fun hA=>?_;subst hA)|intro _|(show aA _ 273 _ _ _;refine CA (h:=EL ?_)))
 all_goals(refine aC ?_;exact aB (kb hK (by simp <;> omega)))
theorem Ef (hK:K (.bool (s == 4)) (oR p s::R)):aA Tryz.prog 312 #[.pointer (some ⟨p,0,none⟩)] (oR p s::R) K:=by
 refine aH Tryz.func312 ?_
 repeat' (first|refine v3 ?_|refine wr ?_|refine w5 ?_ ?_|((refine bh fun h=>?_) <;> try exact w6 h)|(refine aE fun hA=>?_;subst hA)|intro _|(show aA _ 273 _ _ _;refine CA (h:=EL ?_)))
 all_goals(refine aC ?_;exact aB (kb hK (by simp <;> omega)))
end
end Go.Proofs.YtifgibijcmppmaaGreat
end
namespace Go.Proofs.YtifgibijcmppmaaGreat
open Go Go.Proofs Go.Sl
set_option maxRecDepth 100000
set_option maxHeartbeats 40000000
attribute [local irreducible] aM fG cV bP aN aW aA dP dX aV dO pt ro eW star sep bH
section
variable {R C:List HP} {K:Value→List HP→Prop}
section
variable {s li t r:Nat} {id sta:Int} {own:Bool}
theorem YW (hK:K (.int .i64 (if sta=1∨sta=3 then 0 else 14)) (pt s [.pointer (some ⟨li,0,none⟩),.pointer (some ⟨t,0,none⟩),.pointer (some ⟨r,0,none⟩),.int .i64 id,.bool own] 258::oR li sta::R)):aA Tryz.prog 232 #[.pointer (some ⟨s,0,none⟩)] (pt s [.pointer (some ⟨li,0,none⟩),.pointer (some ⟨t,0,none⟩),.pointer (some ⟨r,0,none⟩),.int .i64 id,.bool own] 258::oR li sta::R) K:=by
 by_cases h:sta=1∨sta=3
 ·rw[if_pos h] at hK
  have hd:decide (sta=1∨sta=3)=true:=decide_eq_true h
  refine aH Tryz.func232 ?_
  repeat' (first|(show cV _ _ _;rw[hd])|refine I1 ?_|refine wr ?_|refine w5 ?_ ?_|((refine bh fun h=>?_) <;> try exact w6 h)|(refine aE fun hA=>?_;subst hA)|intro _|(show aA _ 182 _ _ _;refine CA (h:=nU ?_)))
  (refine aC ?_;exact aB (hK))
 ·rw[if_neg h] at hK
  have hd:decide (sta=1∨sta=3)=false:=decide_eq_false h
  refine aH Tryz.func232 ?_
  repeat' (first|(show cV _ _ _;rw[hd])|refine I1 ?_|refine wr ?_|refine w5 ?_ ?_|((refine bh fun h=>?_) <;> try exact w6 h)|(refine aE fun hA=>?_;subst hA)|intro _|(show aA _ 182 _ _ _;refine CA (h:=nU ?_)))
  (refine aC ?_;exact aB (hK))
theorem L9 (hK:K (.pointer (some ⟨t,0,none⟩)) (pt s [.pointer (some ⟨li,0,none⟩),.pointer (some ⟨t,0,none⟩),.pointer (some ⟨r,0,none⟩),.int .i64 id,.bool own] 258::R)):aA Tryz.prog 86 #[.pointer (some ⟨s,0,none⟩)] (pt s [.pointer (some ⟨li,0,none⟩),.pointer (some ⟨t,0,none⟩),.pointer (some ⟨r,0,none⟩),.int .i64 id,.bool own] 258::R) K:=by
 refine aH Tryz.func86 ?_
 repeat' (first|refine v4 ?_|refine wr ?_|refine w5 ?_ ?_|((refine bh fun h=>?_) <;> try exact w6 h)|(refine aE fun hA=>?_;subst hA)|intro _)
 (refine aC ?_;exact aB (hK))
theorem YF (hK:K (.pointer (some ⟨r,0,none⟩)) (pt s [.pointer (some ⟨li,0,none⟩),.pointer (some ⟨t,0,none⟩),.pointer (some ⟨r,0,none⟩),.int .i64 id,.bool own] 258::R)):aA Tryz.prog 89 #[.pointer (some ⟨s,0,none⟩)] (pt s [.pointer (some ⟨li,0,none⟩),.pointer (some ⟨t,0,none⟩),.pointer (some ⟨r,0,none⟩),.int .i64 id,.bool own] 258::R) K:=by
 refine aH Tryz.func89 ?_
 repeat' (first|refine v4 ?_|refine wr ?_|refine w5 ?_ ?_|((refine bh fun h=>?_) <;> try exact w6 h)|(refine aE fun hA=>?_;subst hA)|intro _)
 (refine aC ?_;exact aB (hK))
theorem Aho (hK:K (.int .i64 id) (pt s [.pointer (some ⟨li,0,none⟩),.pointer (some ⟨t,0,none⟩),.pointer (some ⟨r,0,none⟩),.int .i64 id,.bool own] 258::R)):aA Tryz.prog 224 #[.pointer (some ⟨s,0,none⟩)] (pt s [.pointer (some ⟨li,0,none⟩),.pointer (some ⟨t,0,none⟩),.pointer (some ⟨r,0,none⟩),.int .i64 id,.bool own] 258::R) K:=by
 refine aH Tryz.func224 ?_
 repeat' (first|refine v4 ?_|refine wr ?_|refine w5 ?_ ?_|((refine bh fun h=>?_) <;> try exact w6 h)|(refine aE fun hA=>?_;subst hA)|intro _)
 (refine aC ?_;exact aB (hK))
theorem Af4 (hK:K (.bool own) (pt s [.pointer (some ⟨li,0,none⟩),.pointer (some ⟨t,0,none⟩),.pointer (some ⟨r,0,none⟩),.int .i64 id,.bool own] 258::R)):aA Tryz.prog 178 #[.pointer (some ⟨s,0,none⟩)] (pt s [.pointer (some ⟨li,0,none⟩),.pointer (some ⟨t,0,none⟩),.pointer (some ⟨r,0,none⟩),.int .i64 id,.bool own] 258::R) K:=by
 refine aH Tryz.func178 ?_
 repeat' (first|refine v16 ?_|refine wr ?_|refine w5 ?_ ?_|((refine bh fun h=>?_) <;> try exact w6 h)|(refine aE fun hA=>?_;subst hA)|intro _)
 (refine aC ?_;exact aB (hK))
end
end
section
variable {R C:List HP} {K:Value→List HP→Prop}
section
variable {s li t r cap:Nat} {id sta ac se dr n rcap most gr got us e:Int} {own en ou ren b:Bool} {bs rb:List UInt8} {d:ByteArray}
theorem Ep (hK:K (.int .i64 1) (pt s [.pointer (some ⟨li,0,none⟩),.pointer (some ⟨t,0,none⟩),.pointer (some ⟨r,0,none⟩),.int .i64 id,.bool own] 258::xV t cap bs en ou ac se dr::R)):aA Tryz.prog 107 #[.pointer (some ⟨s,0,none⟩)] (pt s [.pointer (some ⟨li,0,none⟩),.pointer (some ⟨t,0,none⟩),.pointer (some ⟨r,0,none⟩),.int .i64 id,.bool own] 258::xV t cap bs en ou ac se dr::R) K:=by
 refine aH Tryz.func107 ?_
 repeat' (first|refine v0 ?_|refine wr ?_|refine w5 ?_ ?_|((refine bh fun h=>?_) <;> try exact w6 h)|(refine aE fun hA=>?_;subst hA)|intro _|(show aA _ 86 _ _ _;refine CA (h:=L9 ?_))|(show aA _ 208 _ _ _;refine CA (h:=QF ?_)))
 (refine aC ?_;exact aB (hK))
theorem qG (hK:K (.int .i64 0) (pt s [.pointer (some ⟨li,0,none⟩),.pointer (some ⟨t,0,none⟩),.pointer (some ⟨r,0,none⟩),.int .i64 id,.bool own] 258::xV t cap bs en ou ac se dr::R)):aA Tryz.prog 293 #[.pointer (some ⟨s,0,none⟩)] (pt s [.pointer (some ⟨li,0,none⟩),.pointer (some ⟨t,0,none⟩),.pointer (some ⟨r,0,none⟩),.int .i64 id,.bool own] 258::xV t cap bs en ou ac se dr::R) K:=by
 refine aH Tryz.func293 ?_
 repeat' (first|refine v3 ?_|refine wr ?_|refine w5 ?_ ?_|((refine bh fun h=>?_) <;> try exact w6 h)|(refine aE fun hA=>?_;subst hA)|intro _|(show aA _ 107 _ _ _;refine CA (h:=Ep ?_)))
 (refine aC ?_;exact aB (hK))
theorem tC {v:Int} (hv:(if sta=1∨sta=3 then 0 else 14)=v) (hK:K (.int .i64 v) (pt s [.pointer (some ⟨li,0,none⟩),.pointer (some ⟨t,0,none⟩),.pointer (some ⟨r,0,none⟩),.int .i64 id,.bool own] 258::oR li sta::R)):aA Tryz.prog 232 #[.pointer (some ⟨s,0,none⟩)] (pt s [.pointer (some ⟨li,0,none⟩),.pointer (some ⟨t,0,none⟩),.pointer (some ⟨r,0,none⟩),.int .i64 id,.bool own] 258::oR li sta::R) K:=by
 subst hv;exact YW hK
def Jy (sta:Int) (b:Bool):Int:=if b=true then(if sta=1 then 2 else 4) else sta
end
end
section
variable {R C:List HP} {K:Value→List HP→Prop}
section
variable {t st k on w c la n:Int} {e x:Bool} {d:ByteArray}
end
section
variable {id w st it sb si stg ev wa stl:Int} {own:Bool} {cap:Nat}
theorem PS (hid:1≤id∧id≤2147483647) (hcap:cap≤4096) (hs:rY w st it=true) (hK:∀s li t r,K (.tuple #[.pointer (some ⟨s,0,none⟩),.int .i64 0]) (pt s [.pointer (some ⟨li,0,none⟩),.pointer (some ⟨t,0,none⟩),.pointer (some ⟨r,0,none⟩),.int .i64 id,.bool own] 258::oR li 1::xV t cap [] false false 0 0 0::xX r w w w 0 0 [] false::R)):aA Tryz.prog 139 #[.int .i64 id,.int .i64 1,.bool own,.agg #[.int .i64 w,.int .i64 st,.int .i64 it,.int .i64 cap,.int .i64 si,.int .i64 stg,.int .i64 ev,.int .i64 wa,.int .i64 stl]] R K:=by
 cases own
 ·refine aH Tryz.func139 ?_
  repeat' (first|refine z8 ?_|refine wr ?_|refine w5 ?_ ?_|((refine bh fun h=>?_) <;> try exact w6 h)|(refine aE fun hA=>?_;subst hA)|intro _|(show aA _ 234 _ _ _;refine CA (h:=JQ hcap (fun t=>?_)))|(show aA _ 235 _ _ _;refine CA (h:=Kr hs (fun r=>?_)))|(show aA _ 236 _ _ _;refine CA (h:=Gp (fun li=>?_)))|(show aA _ 237 _ _ _;refine CA (h:=kK (v:=1) (by omega) (by omega) rfl (by omega) ?_)))
  (refine aC ?_;exact aB (hK _ _ _ _))
 ·refine aH Tryz.func139 ?_
  repeat' (first|refine z8 ?_|refine wr ?_|refine w5 ?_ ?_|((refine bh fun h=>?_) <;> try exact w6 h)|(refine aE fun hA=>?_;subst hA)|intro _|(show aA _ 234 _ _ _;refine CA (h:=JQ hcap (fun t=>?_)))|(show aA _ 235 _ _ _;refine CA (h:=Kr hs (fun r=>?_)))|(show aA _ 236 _ _ _;refine CA (h:=Gp (fun li=>?_)))|(show aA _ 237 _ _ _;refine CA (h:=kK (v:=1) (by omega) (by omega) rfl (by omega) ?_)))
  (refine aC ?_;exact aB (hK _ _ _ _))
end
section
variable {t st k on w c la n:Int} {e x:Bool} {d:ByteArray} {pa:Option Addr} {pn pc:Nat}
end
end
section
variable {R C:List HP} {K:Value→List HP→Prop}
section
variable {s li t r:Nat} {id sta rcap most gr got us:Int} {own ren:Bool} {rb:List UInt8}
theorem Wv {b:Bool} (hb:(decide (sta=4) && decide (rb= []))=b) (hK:K (.bool b) (pt s [.pointer (some ⟨li,0,none⟩),.pointer (some ⟨t,0,none⟩),.pointer (some ⟨r,0,none⟩),.int .i64 id,.bool own] 258::oR li sta::xX r rcap most gr got us rb ren::R)):aA Tryz.prog 222 #[.pointer (some ⟨s,0,none⟩)] (pt s [.pointer (some ⟨li,0,none⟩),.pointer (some ⟨t,0,none⟩),.pointer (some ⟨r,0,none⟩),.int .i64 id,.bool own] 258::oR li sta::xX r rcap most gr got us rb ren::R) K:=by
 subst hb
 by_cases h:sta=4
 ·have hd:(sta == 4)=true:=by simpa using h
  refine aH Tryz.func222 ?_
  repeat' (first|(show cV _ _ _;rw[hd])|refine I1 ?_|refine wr ?_|refine w5 ?_ ?_|((refine bh fun h=>?_) <;> try exact w6 h)|(refine aE fun hA=>?_;subst hA)|intro _|(show aA _ 312 _ _ _;refine CA (h:=Ef ?_))|(show aA _ 90 _ _ _;refine CA (h:=tN ?_)))
  all_goals(refine aC ?_;exact aB (kb hK (by cases rb <;> simp[h] <;> omega)))
 ·have hd:(sta == 4)=false:=by simpa using h
  refine aH Tryz.func222 ?_
  repeat' (first|(show cV _ _ _;rw[hd])|refine I1 ?_|refine wr ?_|refine w5 ?_ ?_|((refine bh fun h=>?_) <;> try exact w6 h)|(refine aE fun hA=>?_;subst hA)|intro _|(show aA _ 312 _ _ _;refine CA (h:=Ef ?_))|(show aA _ 90 _ _ _;refine CA (h:=tN ?_)))
  all_goals(refine aC ?_;exact aB (kb hK (by simp[h])))
end
section
variable {t st k on w c la n m:Int} {e x:Bool} {d:ByteArray} {pa:Option Addr} {pn pc:Nat}
end
end
section
variable {R C:List HP} {K:Value→List HP→Prop}
variable {id k w st it sb si stg ev wa stl:Int} {own:Bool} {cap:Nat}
theorem PZ (hid:1≤id∧id≤2147483647) (hcap:cap≤64) (hst:0≤stg∧stg≤2) (hs:rY w st it=true) (hK:∀s li t r,K (.tuple #[.pointer (some ⟨s,0,none⟩),.int .i64 0]) (pt s [.pointer (some ⟨li,0,none⟩),.pointer (some ⟨t,0,none⟩),.pointer (some ⟨r,0,none⟩),.int .i64 id,.bool own] 258::oR li 1::pN t cap stg [] 0 false false 0 0 0::uF r it it 0 0 [] 0 0 0 false::R)):aA Tryz.prog 139 #[.int .i64 id,.int .i64 2,.bool own,.agg #[.int .i64 w,.int .i64 st,.int .i64 it,.int .i64 sb,.int .i64 cap,.int .i64 stg,.int .i64 ev,.int .i64 wa,.int .i64 stl]] R K:=by
 cases own
 ·refine aH Tryz.func139 ?_
  repeat' (first|refine z8 ?_|refine wr ?_|refine w5 ?_ ?_|((refine bh fun h=>?_) <;> try exact w6 h)|(refine aE fun hA=>?_;subst hA)|intro _|(show aA _ 234 _ _ _;refine CA (h:=Kh hcap hst (fun t=>?_)))|(show aA _ 235 _ _ _;refine CA (h:=KI hs (fun r=>?_)))|(show aA _ 236 _ _ _;refine CA (h:=Gp (fun li=>?_)))|(show aA _ 237 _ _ _;refine CA (h:=kK (v:=1) (by omega) (by omega) rfl (by omega) ?_)))
  (refine aC ?_;exact aB (hK _ _ _ _))
 ·refine aH Tryz.func139 ?_
  repeat' (first|refine z8 ?_|refine wr ?_|refine w5 ?_ ?_|((refine bh fun h=>?_) <;> try exact w6 h)|(refine aE fun hA=>?_;subst hA)|intro _|(show aA _ 234 _ _ _;refine CA (h:=Kh hcap hst (fun t=>?_)))|(show aA _ 235 _ _ _;refine CA (h:=KI hs (fun r=>?_)))|(show aA _ 236 _ _ _;refine CA (h:=Gp (fun li=>?_)))|(show aA _ 237 _ _ _;refine CA (h:=kK (v:=1) (by omega) (by omega) rfl (by omega) ?_)))
  (refine aC ?_;exact aB (hK _ _ _ _))
section
variable {s li t r:Nat} {l:List ByteArray} {en ou:Bool} {ac se dr:Int}
theorem EQ (hK:K (.int .i64 2) (pt s [.pointer (some ⟨li,0,none⟩),.pointer (some ⟨t,0,none⟩),.pointer (some ⟨r,0,none⟩),.int .i64 id,.bool own] 258::pN t cap st l w en ou ac se dr::R)):aA Tryz.prog 107 #[.pointer (some ⟨s,0,none⟩)] (pt s [.pointer (some ⟨li,0,none⟩),.pointer (some ⟨t,0,none⟩),.pointer (some ⟨r,0,none⟩),.int .i64 id,.bool own] 258::pN t cap st l w en ou ac se dr::R) K:=by
 refine aH Tryz.func107 ?_
 repeat' (first|refine v0 ?_|refine wr ?_|refine w5 ?_ ?_|((refine bh fun h=>?_) <;> try exact w6 h)|(refine aE fun hA=>?_;subst hA)|intro _|(show aA _ 86 _ _ _;refine CA (h:=L9 ?_))|(show aA _ 208 _ _ _;refine CA (h:=S2 ?_)))
 (refine aC ?_;exact aB (hK))
end
end
section
variable {R C:List HP} {K:Value→List HP→Prop}
section
variable {s li tt r cap:Nat} {id sta ac se dr rcap most gr got us:Int} {own en ou ren:Bool} {bs rb:List UInt8}
variable {t st k on w c la n:Int} {e x:Bool} {d:ByteArray} {pa:Option Addr} {pn pc:Nat}
def nN (sta:Int) (e:Bool):Int:=if e=true then(if sta=1 then 3 else 4) else sta
def fQ:List (Nat×Nat):= [(2,0),(3,1),(0,1),(1,1),(4,0),(5,0)]
def fO:List (Nat×Nat):= [(0,0),(1,0),(2,0),(3,0),(4,0),(5,0),(6,0),(7,0),(8,1),(9,0),(10,0),(11,0),(12,0),(13,0)]
theorem RO (ht:t≠0) (hK:K (.tuple #[.int .i64 6,.bool false]) (pt s [.pointer (some ⟨li,0,none⟩),.pointer (some ⟨tt,0,none⟩),.pointer (some ⟨r,0,none⟩),.int .i64 id,.bool own] 258::xV tt cap bs en ou ac se dr::R)):aA Tryz.prog 261 #[.pointer (some ⟨s,0,none⟩),.agg #[.int .i64 t,.int .i64 st,.bool e,.string d,.int .i64 k,.int .i64 on,.int .i64 w,.bool x,.int .i64 c,.int .i64 la,.int .i64 n,.slice pa pn pc]] (pt s [.pointer (some ⟨li,0,none⟩),.pointer (some ⟨tt,0,none⟩),.pointer (some ⟨r,0,none⟩),.int .i64 id,.bool own] 258::xV tt cap bs en ou ac se dr::R) K:=by
 refine aH Tryz.func261 ?_
 repeat' (first|refine Bf ?_|refine dw fQ ?_|refine dw fO ?_|refine wr ?_|refine w5 ?_ ?_|((refine bh fun h=>?_) <;> try exact w6 h)|(refine aE fun hA=>?_;subst hA)|intro _|(show aA _ 293 _ _ _;refine CA (h:=qG ?_)))
 (refine aC ?_;exact aB (hK))
theorem QS (hm:¬(sta=1∨sta=2)) (hK:K (.tuple #[.int .i64 7,.bool false]) (pt s [.pointer (some ⟨li,0,none⟩),.pointer (some ⟨tt,0,none⟩),.pointer (some ⟨r,0,none⟩),.int .i64 id,.bool own] 258::oR li sta::xV tt cap bs en ou ac se dr::R)):aA Tryz.prog 261 #[.pointer (some ⟨s,0,none⟩),.agg #[.int .i64 0,.int .i64 st,.bool e,.string d,.int .i64 k,.int .i64 on,.int .i64 w,.bool x,.int .i64 c,.int .i64 la,.int .i64 n,.slice pa pn pc]] (pt s [.pointer (some ⟨li,0,none⟩),.pointer (some ⟨tt,0,none⟩),.pointer (some ⟨r,0,none⟩),.int .i64 id,.bool own] 258::oR li sta::xV tt cap bs en ou ac se dr::R) K:=by
 have hd:decide (sta=1∨sta=2)=false:=decide_eq_false hm
 refine aH Tryz.func261 ?_
 repeat' (first|(show cV _ _ _;rw[hd])|refine Bf ?_|refine dw fQ ?_|refine dw fO ?_|refine wr ?_|refine w5 ?_ ?_|((refine bh fun h=>?_) <;> try exact w6 h)|(refine aE fun hA=>?_;subst hA)|intro _|(show aA _ 293 _ _ _;refine CA (h:=qG ?_))|(show aA _ 188 _ _ _;refine CA (h:=eC ?_)))
 (refine aC ?_;exact aB (hK))
theorem RF (hm:sta=1∨sta=2) (hr:ren=true) (hK:K (.tuple #[.int .i64 7,.bool false]) (pt s [.pointer (some ⟨li,0,none⟩),.pointer (some ⟨tt,0,none⟩),.pointer (some ⟨r,0,none⟩),.int .i64 id,.bool own] 258::oR li sta::xV tt cap bs en ou ac se dr::xX r rcap most gr got us rb ren::R)):aA Tryz.prog 261 #[.pointer (some ⟨s,0,none⟩),.agg #[.int .i64 0,.int .i64 st,.bool e,.string d,.int .i64 k,.int .i64 on,.int .i64 w,.bool x,.int .i64 c,.int .i64 la,.int .i64 n,.slice pa pn pc]] (pt s [.pointer (some ⟨li,0,none⟩),.pointer (some ⟨tt,0,none⟩),.pointer (some ⟨r,0,none⟩),.int .i64 id,.bool own] 258::oR li sta::xV tt cap bs en ou ac se dr::xX r rcap most gr got us rb ren::R) K:=by
 have hd:decide (sta=1∨sta=2)=true:=decide_eq_true hm
 refine aH Tryz.func261 ?_
 repeat' (first|(show cV _ _ _;rw[hd])|refine Bf ?_|refine dw fQ ?_|refine dw fO ?_|refine wr ?_|refine w5 ?_ ?_|((refine bh fun h=>?_) <;> try exact w6 h)|(refine aE fun hA=>?_;subst hA)|intro _|(show aA _ 293 _ _ _;refine CA (h:=qG ?_))|(show aA _ 188 _ _ _;refine CA (h:=eC ?_))|(show aA _ 341 _ _ _;refine CA (h:=Jh hr ?_)))
 (refine aC ?_;exact aB (hK))
theorem SG (hm:sta=1∨sta=2) (hr:ren=false) (hs:max (gr - got) 0<d.size) (hK:K (.tuple #[.int .i64 8,.bool false]) (pt s [.pointer (some ⟨li,0,none⟩),.pointer (some ⟨tt,0,none⟩),.pointer (some ⟨r,0,none⟩),.int .i64 id,.bool own] 258::oR li sta::xV tt cap bs en ou ac se dr::xX r rcap most gr got us rb ren::R)):aA Tryz.prog 261 #[.pointer (some ⟨s,0,none⟩),.agg #[.int .i64 0,.int .i64 st,.bool e,.string d,.int .i64 k,.int .i64 on,.int .i64 w,.bool x,.int .i64 c,.int .i64 la,.int .i64 n,.slice pa pn pc]] (pt s [.pointer (some ⟨li,0,none⟩),.pointer (some ⟨tt,0,none⟩),.pointer (some ⟨r,0,none⟩),.int .i64 id,.bool own] 258::oR li sta::xV tt cap bs en ou ac se dr::xX r rcap most gr got us rb ren::R) K:=by
 have hd:decide (sta=1∨sta=2)=true:=decide_eq_true hm
 refine aH Tryz.func261 ?_
 repeat' (first|(show cV _ _ _;rw[hd])|refine Bf ?_|refine dw fQ ?_|refine dw fO ?_|refine wr ?_|refine w5 ?_ ?_|((refine bh fun h=>?_) <;> try exact w6 h)|(refine aE fun hA=>?_;subst hA)|intro _|(show aA _ 293 _ _ _;refine CA (h:=qG ?_))|(show aA _ 188 _ _ _;refine CA (h:=eC ?_))|(show aA _ 341 _ _ _;refine CA (h:=JA hr hs ?_)))
 (refine aC ?_;exact aB (hK))
theorem VV (hm:sta=1∨sta=2) (hr:ren=false) (hs:d.size≤max (gr - got) 0) (hb:got+d.size≤400000000) (hK:K (.tuple #[.int .i64 0,.bool true]) (pt s [.pointer (some ⟨li,0,none⟩),.pointer (some ⟨tt,0,none⟩),.pointer (some ⟨r,0,none⟩),.int .i64 id,.bool own] 258::oR li (nN sta e)::xV tt cap bs en ou ac se dr::xX r rcap most gr (got+d.size) us (rb++d.data.toList) e::R)):aA Tryz.prog 261 #[.pointer (some ⟨s,0,none⟩),.agg #[.int .i64 0,.int .i64 st,.bool e,.string d,.int .i64 k,.int .i64 on,.int .i64 w,.bool x,.int .i64 c,.int .i64 la,.int .i64 n,.slice pa pn pc]] (pt s [.pointer (some ⟨li,0,none⟩),.pointer (some ⟨tt,0,none⟩),.pointer (some ⟨r,0,none⟩),.int .i64 id,.bool own] 258::oR li sta::xV tt cap bs en ou ac se dr::xX r rcap most gr got us rb ren::R) K:=by
 have hd:decide (sta=1∨sta=2)=true:=decide_eq_true hm
 cases e
 ·rw[nN,if_neg (by simp)] at hK
  refine aH Tryz.func261 ?_
  repeat' (first|(show cV _ _ _;rw[hd])|refine Bf ?_|refine dw fQ ?_|refine dw fO ?_|refine wr ?_|refine w5 ?_ ?_|((refine bh fun h=>?_) <;> try exact w6 h)|(refine aE fun hA=>?_;subst hA)|intro _|(show aA _ 293 _ _ _;refine CA (h:=qG ?_))|(show aA _ 188 _ _ _;refine CA (h:=eC ?_))|(show aA _ 341 _ _ _;refine CA (h:=Dq hr hs hb ?_)))
  (refine aC ?_;exact aB (hK))
 ·have hl:xC sta 3=nN sta true:=by rcases hm with rfl|rfl <;> rfl
  have hl1:nN sta true≠-1:=by rcases hm with rfl|rfl <;> decide
  refine aH Tryz.func261 ?_
  repeat' (first|(show cV _ _ _;rw[hd])|refine Bf ?_|refine dw fQ ?_|refine dw fO ?_|refine wr ?_|refine w5 ?_ ?_|((refine bh fun h=>?_) <;> try exact w6 h)|(refine aE fun hA=>?_;subst hA)|intro _|(show aA _ 293 _ _ _;refine CA (h:=qG ?_))|(show aA _ 188 _ _ _;refine CA (h:=eC ?_))|(show aA _ 341 _ _ _;refine CA (h:=Dq hr hs hb ?_))|(show aA _ 237 _ _ _;refine CA (h:=kK (by omega) (by omega) hl hl1 ?_)))
  (refine aC ?_;exact aB (hK))
end
end
section
variable {R C:List HP} {K:Value→List HP→Prop}
section
variable {s li tt r cap:Nat} {id sta ac se dr w0 sg mr room open_ ask a1 t1 d1:Int} {own en ou ren:Bool} {l rl:List ByteArray}
variable {t st k on w c la n:Int} {e x:Bool} {d:ByteArray} {pa:Option Addr} {pn pc:Nat}
theorem nK (hK:K (.int .i64 1) (pt s [.pointer (some ⟨li,0,none⟩),.pointer (some ⟨tt,0,none⟩),.pointer (some ⟨r,0,none⟩),.int .i64 id,.bool own] 258::pN tt cap sg l w0 en ou ac se dr::R)):aA Tryz.prog 293 #[.pointer (some ⟨s,0,none⟩)] (pt s [.pointer (some ⟨li,0,none⟩),.pointer (some ⟨tt,0,none⟩),.pointer (some ⟨r,0,none⟩),.int .i64 id,.bool own] 258::pN tt cap sg l w0 en ou ac se dr::R) K:=by
 refine aH Tryz.func293 ?_
 repeat' (first|refine v3 ?_|refine wr ?_|refine w5 ?_ ?_|((refine bh fun h=>?_) <;> try exact w6 h)|(refine aE fun hA=>?_;subst hA)|intro _|(show aA _ 107 _ _ _;refine CA (h:=EQ ?_)))
 (refine aC ?_;exact aB (hK))
def eI:List (Nat×Nat):= [(2,0),(3,1),(0,1),(1,1),(4,0),(5,0)]
def eK:List (Nat×Nat):= [(0,0),(1,0),(2,0),(3,0),(4,0),(5,0),(6,0),(7,0),(8,1),(9,0),(10,0),(11,0),(12,0),(13,0)]
theorem Q1 (ht:t≠1) (hK:K (.tuple #[.int .i64 6,.bool false]) (pt s [.pointer (some ⟨li,0,none⟩),.pointer (some ⟨tt,0,none⟩),.pointer (some ⟨r,0,none⟩),.int .i64 id,.bool own] 258::pN tt cap sg l w0 en ou ac se dr::R)):aA Tryz.prog 261 #[.pointer (some ⟨s,0,none⟩),.agg #[.int .i64 t,.int .i64 st,.bool e,.string d,.int .i64 k,.int .i64 on,.int .i64 w,.bool x,.int .i64 c,.int .i64 la,.int .i64 n,.slice pa pn pc]] (pt s [.pointer (some ⟨li,0,none⟩),.pointer (some ⟨tt,0,none⟩),.pointer (some ⟨r,0,none⟩),.int .i64 id,.bool own] 258::pN tt cap sg l w0 en ou ac se dr::R) K:=by
 refine aH Tryz.func261 ?_
 repeat' (first|refine Bf ?_|refine dw eI ?_|refine dw eK ?_|refine wr ?_|refine w5 ?_ ?_|((refine bh fun h=>?_) <;> try exact w6 h)|(refine aE fun hA=>?_;subst hA)|intro _|(show aA _ 293 _ _ _;refine CA (h:=nK ?_)))
 (refine aC ?_;exact aB (hK))
theorem QB (hm:¬(sta=1∨sta=2)) (hK:K (.tuple #[.int .i64 7,.bool false]) (pt s [.pointer (some ⟨li,0,none⟩),.pointer (some ⟨tt,0,none⟩),.pointer (some ⟨r,0,none⟩),.int .i64 id,.bool own] 258::oR li sta::pN tt cap sg l w0 en ou ac se dr::R)):aA Tryz.prog 261 #[.pointer (some ⟨s,0,none⟩),.agg #[.int .i64 1,.int .i64 st,.bool e,.string d,.int .i64 k,.int .i64 on,.int .i64 w,.bool x,.int .i64 c,.int .i64 la,.int .i64 n,.slice pa pn pc]] (pt s [.pointer (some ⟨li,0,none⟩),.pointer (some ⟨tt,0,none⟩),.pointer (some ⟨r,0,none⟩),.int .i64 id,.bool own] 258::oR li sta::pN tt cap sg l w0 en ou ac se dr::R) K:=by
 have hd:decide (sta=1∨sta=2)=false:=decide_eq_false hm
 refine aH Tryz.func261 ?_
 repeat' (first|(show cV _ _ _;rw[hd])|refine Bf ?_|refine dw eI ?_|refine dw eK ?_|refine wr ?_|refine w5 ?_ ?_|((refine bh fun h=>?_) <;> try exact w6 h)|(refine aE fun hA=>?_;subst hA)|intro _|(show aA _ 293 _ _ _;refine CA (h:=nK ?_))|(show aA _ 188 _ _ _;refine CA (h:=eC ?_)))
 (refine aC ?_;exact aB (hK))
theorem R0 (hm:sta=1∨sta=2) (hr:ren=true) (hK:K (.tuple #[.int .i64 7,.bool false]) (pt s [.pointer (some ⟨li,0,none⟩),.pointer (some ⟨tt,0,none⟩),.pointer (some ⟨r,0,none⟩),.int .i64 id,.bool own] 258::oR li sta::pN tt cap sg l w0 en ou ac se dr::uF r mr room open_ ask rl a1 t1 d1 ren::R)):aA Tryz.prog 261 #[.pointer (some ⟨s,0,none⟩),.agg #[.int .i64 1,.int .i64 st,.bool e,.string d,.int .i64 k,.int .i64 on,.int .i64 w,.bool x,.int .i64 c,.int .i64 la,.int .i64 n,.slice pa pn pc]] (pt s [.pointer (some ⟨li,0,none⟩),.pointer (some ⟨tt,0,none⟩),.pointer (some ⟨r,0,none⟩),.int .i64 id,.bool own] 258::oR li sta::pN tt cap sg l w0 en ou ac se dr::uF r mr room open_ ask rl a1 t1 d1 ren::R) K:=by
 have hd:decide (sta=1∨sta=2)=true:=decide_eq_true hm
 refine aH Tryz.func261 ?_
 repeat' (first|(show cV _ _ _;rw[hd])|refine Bf ?_|refine dw eI ?_|refine dw eK ?_|refine wr ?_|refine w5 ?_ ?_|((refine bh fun h=>?_) <;> try exact w6 h)|(refine aE fun hA=>?_;subst hA)|intro _|(show aA _ 293 _ _ _;refine CA (h:=nK ?_))|(show aA _ 188 _ _ _;refine CA (h:=eC ?_))|(show aA _ 341 _ _ _;refine CA (h:=Jj hr ?_)))
 (refine aC ?_;exact aB (hK))
theorem QL (hm:sta=1∨sta=2) (hr:ren=false) (hs:d≠⟨#[]⟩∨e=false) (ho:open_<1) (hK:K (.tuple #[.int .i64 10,.bool false]) (pt s [.pointer (some ⟨li,0,none⟩),.pointer (some ⟨tt,0,none⟩),.pointer (some ⟨r,0,none⟩),.int .i64 id,.bool own] 258::oR li sta::pN tt cap sg l w0 en ou ac se dr::uF r mr room open_ ask rl a1 t1 d1 ren::R)):aA Tryz.prog 261 #[.pointer (some ⟨s,0,none⟩),.agg #[.int .i64 1,.int .i64 st,.bool e,.string d,.int .i64 k,.int .i64 on,.int .i64 w,.bool x,.int .i64 c,.int .i64 la,.int .i64 n,.slice pa pn pc]] (pt s [.pointer (some ⟨li,0,none⟩),.pointer (some ⟨tt,0,none⟩),.pointer (some ⟨r,0,none⟩),.int .i64 id,.bool own] 258::oR li sta::pN tt cap sg l w0 en ou ac se dr::uF r mr room open_ ask rl a1 t1 d1 ren::R) K:=by
 have hd:decide (sta=1∨sta=2)=true:=decide_eq_true hm
 refine aH Tryz.func261 ?_
 repeat' (first|(show cV _ _ _;rw[hd])|refine Bf ?_|refine dw eI ?_|refine dw eK ?_|refine wr ?_|refine w5 ?_ ?_|((refine bh fun h=>?_) <;> try exact w6 h)|(refine aE fun hA=>?_;subst hA)|intro _|(show aA _ 293 _ _ _;refine CA (h:=nK ?_))|(show aA _ 188 _ _ _;refine CA (h:=eC ?_))|(show aA _ 341 _ _ _;refine CA (h:=Jv hr hs ho ?_)))
 (refine aC ?_;exact aB (hK))
theorem Ry (hm:sta=1∨sta=2) (hr:ren=false) (hK:K (.tuple #[.int .i64 0,.bool true]) (pt s [.pointer (some ⟨li,0,none⟩),.pointer (some ⟨tt,0,none⟩),.pointer (some ⟨r,0,none⟩),.int .i64 id,.bool own] 258::oR li (nN sta true)::pN tt cap sg l w0 en ou ac se dr::uF r mr room open_ ask rl a1 t1 d1 true::R)):aA Tryz.prog 261 #[.pointer (some ⟨s,0,none⟩),.agg #[.int .i64 1,.int .i64 st,.bool true,.string ⟨#[]⟩,.int .i64 k,.int .i64 on,.int .i64 w,.bool x,.int .i64 c,.int .i64 la,.int .i64 n,.slice pa pn pc]] (pt s [.pointer (some ⟨li,0,none⟩),.pointer (some ⟨tt,0,none⟩),.pointer (some ⟨r,0,none⟩),.int .i64 id,.bool own] 258::oR li sta::pN tt cap sg l w0 en ou ac se dr::uF r mr room open_ ask rl a1 t1 d1 ren::R) K:=by
 have hd:decide (sta=1∨sta=2)=true:=decide_eq_true hm
 have hl:xC sta 3=nN sta true:=by rcases hm with rfl|rfl <;> rfl
 have hl1:nN sta true≠-1:=by rcases hm with rfl|rfl <;> decide
 refine aH Tryz.func261 ?_
 repeat' (first|(show cV _ _ _;rw[hd])|refine Bf ?_|refine dw eI ?_|refine dw eK ?_|refine wr ?_|refine w5 ?_ ?_|((refine bh fun h=>?_) <;> try exact w6 h)|(refine aE fun hA=>?_;subst hA)|intro _|(show aA _ 293 _ _ _;refine CA (h:=nK ?_))|(show aA _ 188 _ _ _;refine CA (h:=eC ?_))|(show aA _ 341 _ _ _;refine CA (h:=Jr hr ?_))|(show aA _ 237 _ _ _;refine CA (h:=kK (by omega) (by omega) hl hl1 ?_)))
 (refine aC ?_;exact aB (hK))
theorem WJ (hm:sta=1∨sta=2) (hr:ren=false) (hs:d≠⟨#[]⟩∨e=false) (ho:1≤open_) (hb:a1≤300000000) (hK:K (.tuple #[.int .i64 0,.bool true]) (pt s [.pointer (some ⟨li,0,none⟩),.pointer (some ⟨tt,0,none⟩),.pointer (some ⟨r,0,none⟩),.int .i64 id,.bool own] 258::oR li (nN sta e)::pN tt cap sg l w0 en ou ac se dr::uF r mr room (open_ - 1) ask (rl++ [d]) (a1+1) t1 d1 e::R)):aA Tryz.prog 261 #[.pointer (some ⟨s,0,none⟩),.agg #[.int .i64 1,.int .i64 st,.bool e,.string d,.int .i64 k,.int .i64 on,.int .i64 w,.bool x,.int .i64 c,.int .i64 la,.int .i64 n,.slice pa pn pc]] (pt s [.pointer (some ⟨li,0,none⟩),.pointer (some ⟨tt,0,none⟩),.pointer (some ⟨r,0,none⟩),.int .i64 id,.bool own] 258::oR li sta::pN tt cap sg l w0 en ou ac se dr::uF r mr room open_ ask rl a1 t1 d1 ren::R) K:=by
 have hd:decide (sta=1∨sta=2)=true:=decide_eq_true hm
 cases e
 ·rw[nN,if_neg (by simp)] at hK
  refine aH Tryz.func261 ?_
  repeat' (first|(show cV _ _ _;rw[hd])|refine Bf ?_|refine dw eI ?_|refine dw eK ?_|refine wr ?_|refine w5 ?_ ?_|((refine bh fun h=>?_) <;> try exact w6 h)|(refine aE fun hA=>?_;subst hA)|intro _|(show aA _ 293 _ _ _;refine CA (h:=nK ?_))|(show aA _ 188 _ _ _;refine CA (h:=eC ?_))|(show aA _ 341 _ _ _;refine CA (h:=D5 hr hs ho hb ?_)))
  (refine aC ?_;exact aB (hK))
 ·have hl:xC sta 3=nN sta true:=by rcases hm with rfl|rfl <;> rfl
  have hl1:nN sta true≠-1:=by rcases hm with rfl|rfl <;> decide
  refine aH Tryz.func261 ?_
  repeat' (first|(show cV _ _ _;rw[hd])|refine Bf ?_|refine dw eI ?_|refine dw eK ?_|refine wr ?_|refine w5 ?_ ?_|((refine bh fun h=>?_) <;> try exact w6 h)|(refine aE fun hA=>?_;subst hA)|intro _|(show aA _ 293 _ _ _;refine CA (h:=nK ?_))|(show aA _ 188 _ _ _;refine CA (h:=eC ?_))|(show aA _ 341 _ _ _;refine CA (h:=D5 hr hs ho hb ?_))|(show aA _ 237 _ _ _;refine CA (h:=kK (by omega) (by omega) hl hl1 ?_)))
  (refine aC ?_;exact aB (hK))
theorem Acy {ev:Int} (he:ev=4∨ev=5) (hs:sta=4) (hK:K (.int .i64 0) (pt s [.pointer (some ⟨li,0,none⟩),.pointer (some ⟨tt,0,none⟩),.pointer (some ⟨r,0,none⟩),.int .i64 id,.bool own] 258::oR li sta::R)):aA Tryz.prog 337 #[.pointer (some ⟨s,0,none⟩),.int .i64 ev] (pt s [.pointer (some ⟨li,0,none⟩),.pointer (some ⟨tt,0,none⟩),.pointer (some ⟨r,0,none⟩),.int .i64 id,.bool own] 258::oR li sta::R) K:=by
 subst hs
 have hl:xC 4 ev=-1:=by rcases he with rfl|rfl <;> rfl
 refine aH Tryz.func337 ?_
 repeat' (first|refine z8 ?_|refine wr ?_|refine w5 ?_ ?_|((refine bh fun h=>?_) <;> try exact w6 h)|(refine aE fun hA=>?_;subst hA)|intro _|(show aA _ 237 _ _ _;refine CA (h:=Q0 (by omega) (by omega) hl ?_)))
 all_goals(refine aC ?_;exact aB (hK))
theorem ZO {ev:Int} (he:ev=4∨ev=5) (hs:sta=1∨sta=2∨sta=3) (hK:K (.int .i64 0) (pt s [.pointer (some ⟨li,0,none⟩),.pointer (some ⟨tt,0,none⟩),.pointer (some ⟨r,0,none⟩),.int .i64 id,.bool own] 258::oR li 4::pN tt cap sg [] w0 en ou ac se (dr+l.length)::uF r mr room open_ ask [] a1 t1 (d1+rl.length) ren::R)):aA Tryz.prog 337 #[.pointer (some ⟨s,0,none⟩),.int .i64 ev] (pt s [.pointer (some ⟨li,0,none⟩),.pointer (some ⟨tt,0,none⟩),.pointer (some ⟨r,0,none⟩),.int .i64 id,.bool own] 258::oR li sta::pN tt cap sg l w0 en ou ac se dr::uF r mr room open_ ask rl a1 t1 d1 ren::R) K:=by
 have hl:xC sta ev=4:=by rcases hs with rfl|rfl|rfl <;> rcases he with rfl|rfl <;> rfl
 refine aH Tryz.func337 ?_
 repeat' (first|refine z8 ?_|refine wr ?_|refine w5 ?_ ?_|((refine bh fun h=>?_) <;> try exact w6 h)|(refine aE fun hA=>?_;subst hA)|intro _|(show aA _ 237 _ _ _;refine CA (h:=kK (by omega) (by omega) hl (by omega) ?_))|(show aA _ 385 _ _ _;refine CA (h:=PE ?_))|(show aA _ 338 _ _ _;refine CA (h:=FT ?_))|(show aA _ 107 _ _ _;refine CA (h:=EQ ?_)))
 all_goals(refine aC ?_;exact aB (hK))
end
section
variable {s li tt r cap:Nat} {id sta ac se dr rcap most gr got us:Int} {own en ou ren:Bool} {bs rb:List UInt8}
theorem X5 {ev:Int} (he:ev=4∨ev=5) (hs:sta=1∨sta=2∨sta=3) (hK:K (.int .i64 rb.length) (pt s [.pointer (some ⟨li,0,none⟩),.pointer (some ⟨tt,0,none⟩),.pointer (some ⟨r,0,none⟩),.int .i64 id,.bool own] 258::oR li 4::xV tt cap [] en ou ac se (dr+bs.length)::xX r rcap most gr got (us+rb.length) [] ren::R)):aA Tryz.prog 337 #[.pointer (some ⟨s,0,none⟩),.int .i64 ev] (pt s [.pointer (some ⟨li,0,none⟩),.pointer (some ⟨tt,0,none⟩),.pointer (some ⟨r,0,none⟩),.int .i64 id,.bool own] 258::oR li sta::xV tt cap bs en ou ac se dr::xX r rcap most gr got us rb ren::R) K:=by
 have hl:xC sta ev=4:=by rcases hs with rfl|rfl|rfl <;> rcases he with rfl|rfl <;> rfl
 refine aH Tryz.func337 ?_
 repeat' (first|refine z8 ?_|refine wr ?_|refine w5 ?_ ?_|((refine bh fun h=>?_) <;> try exact w6 h)|(refine aE fun hA=>?_;subst hA)|intro _|(show aA _ 237 _ _ _;refine CA (h:=kK (by omega) (by omega) hl (by omega) ?_))|(show aA _ 385 _ _ _;refine CA (h:=On ?_))|(show aA _ 338 _ _ _;refine CA (h:=Fx ?_))|(show aA _ 107 _ _ _;refine CA (h:=Ep ?_)))
 all_goals(refine aC ?_;exact aB (hK))
end
end
end Go.Proofs.YtifgibijcmppmaaGreat
