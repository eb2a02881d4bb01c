/- A part of the proof: lemmas; each with the conditions that it states. -/
import Derived.Test.YtifgibijcmppmaaGreatNaj
import Derived.Test.YtifgibijcmppmaaGreatNah
set_option linter.unusedVariables false
set_option linter.unusedSimpArgs false
namespace Go.Proofs.YtifgibijcmppmaaGreat
open Go Go.Proofs Go.Sl
set_option maxRecDepth 100000
set_option maxHeartbeats 40000000
attribute [local irreducible] aN fB cJ bO aM aY aA dM dQ aW dK pt ro fF star sep bI
section
variable {R C:List HP} {K:Value→List HP→Prop}
structure RA where
 k:Int
 m:Int
 s:ByteArray
 w:Int
 st:Int
 it:Int
section
variable {r x p n c:Nat} {A:Option Addr} {cap most gr got us mr room ask open_ a1 t1 d1 k m w st it v:Int} {bs:List UInt8} {l:List ByteArray} {en:Bool} {s:ByteArray}
end
section
variable {A:Option Addr} {n c:Nat} {ls:List RA} {kd w st it:Int}
end
end
end Go.Proofs.YtifgibijcmppmaaGreat
section
namespace Go.Proofs.YtifgibijcmppmaaGreat
open Go Go.Proofs Go.Sl
set_option maxRecDepth 100000
set_option maxHeartbeats 40000000
attribute [local irreducible] aN fB cJ bO aM aY aA dM dQ aW dK pt ro fF star sep bI
variable {R C:List HP} {K:Value→List HP→Prop}
theorem OC (hK:K (.agg #[.int .i64 1,.int .i64 1,.int .i64 (-1),.int .i64 (-1),.int .i64 (-1),.int .i64 (-1),.int .i64 (-1),.int .i64 (-1),.int .i64 2,.int .i64 3,.int .i64 4,.int .i64 4,.int .i64 (-1),.int .i64 (-1),.int .i64 (-1),.int .i64 4,.int .i64 4,.int .i64 4,.int .i64 (-1),.int .i64 (-1),.int .i64 4,.int .i64 (-1),.int .i64 4,.int .i64 4,.int .i64 (-1),.int .i64 (-1),.int .i64 (-1),.int .i64 (-1),.int .i64 (-1),.int .i64 (-1)]) R):aA Tryz.prog 377 #[] R K:=by
 refine aH Tryz.func377 ?_
 repeat' (first|refine v5 ?_|refine wr ?_|refine w5 ?_ ?_|((refine bh fun h=>?_) <;> try exact w6 h)|(refine aE fun hA=>?_;subst hA)|intro _)
 (refine aC ?_;exact aB (hK))
def xB (s e:Int):Int:=([1,1,-1,-1,-1,-1,-1,-1,2,3,4,4,-1,-1,-1,4,4,4,-1,-1,4,-1,4,4,-1,-1,-1,-1,-1,-1]:List Int).getD (s.toNat * 6+e.toNat) (-1)
def Ct:List (Nat×Nat):= [(0,1),(1,1),(2,0),(3,1),(4,0),(5,0)]
theorem Km {r2 r3:Nat} {s e:Int} (hs:s=0∨s=1∨s=2∨s=3∨s=4) (he:e=0∨e=1∨e=2∨e=3∨e=4∨e=5) (hK:K (.int .i64 (xB s e)) (pt r2 [.int .i64 s] 3::pt r3 [.int .i64 e] 3::R)):aA Tryz.prog 376 #[.pointer (some ⟨r2,0,none⟩),.pointer (some ⟨r3,0,none⟩)] (pt r2 [.int .i64 s] 3::pt r3 [.int .i64 e] 3::R) K:=by
 rcases hs with rfl|rfl|rfl|rfl|rfl <;> rcases he with rfl|rfl|rfl|rfl|rfl|rfl
 all_goals
  refine aH Tryz.func376 ?_
  repeat' (first|refine v25 ?_|refine dw Ct ?_|refine wr ?_|refine w5 ?_ ?_|((refine bh fun h=>?_) <;> try exact w6 h)|(refine aE fun hA=>?_;subst hA)|intro _|(show aA _ 377 _ _ _;refine CA (h:=OC ?_))|(show aN _ _ _ _ _ _ _;refine S4 ?_))
  (refine aC ?_;exact aB (hK))
end Go.Proofs.YtifgibijcmppmaaGreat
namespace Go.Proofs.YtifgibijcmppmaaGreat
open Go Go.Proofs Go.Sl
set_option maxRecDepth 100000
set_option maxHeartbeats 40000000
attribute [local irreducible] aN fB cJ bO aM aY aA dM dQ aW dK pt ro fF star sep bI
variable {R C:List HP} {K:Value→List HP→Prop}
theorem VA {s e:Int} (hs:0≤s∧s≤4) (he:0≤e∧e≤5) (hv:xB s e=-1) (hK:K (.tuple #[.int .i64 0,.int .i64 11]) R):aA Tryz.prog 325 #[.int .i64 s,.int .i64 e] R K:=by
 refine aH Tryz.func325 ?_
 repeat' (first|refine v26 ?_|refine wr ?_|refine w5 ?_ ?_|((refine bh fun h=>?_) <;> try exact w6 h)|(refine aE fun hA=>?_;subst hA)|intro _|(show aA _ 376 _ _ _;refine CA (h:=Km (by omega) (by omega) ?_)))
 all_goals(refine aC ?_;exact aB (hK))
theorem Zu {s e:Int} (hs:0≤s∧s≤4) (he:0≤e∧e≤5) (hv:xB s e≠-1) (hK:K (.tuple #[.int .i64 (xB s e),.int .i64 0]) R):aA Tryz.prog 325 #[.int .i64 s,.int .i64 e] R K:=by
 refine aH Tryz.func325 ?_
 repeat' (first|refine v26 ?_|refine wr ?_|refine w5 ?_ ?_|((refine bh fun h=>?_) <;> try exact w6 h)|(refine aE fun hA=>?_;subst hA)|intro _|(show aA _ 376 _ _ _;refine CA (h:=Km (by omega) (by omega) ?_)))
 all_goals(refine aC ?_;exact aB (hK))
def pG (p:Nat) (s:Int):HP:=pt p [.int .i64 s] 361
theorem Ga (hK:∀p,K (.pointer (some ⟨p,0,none⟩)) (pG p 0::R)):aA Tryz.prog 236 #[] R K:=by
 refine aH Tryz.func236 ?_
 repeat' (first|refine v6 ?_|refine wr ?_|refine w5 ?_ ?_|((refine bh fun h=>?_) <;> try exact w6 h)|(refine aE fun hA=>?_;subst hA)|intro _)
 (refine aC ?_;exact aB (hK _))
section
variable {p:Nat} {s e v:Int}
theorem Sa (hs:0≤s∧s≤4) (he:0≤e∧e≤5) (hv:xB s e=-1) (hK:K (.int .i64 11) (pG p s::R)):aA Tryz.prog 237 #[.pointer (some ⟨p,0,none⟩),.int .i64 e] (pG p s::R) K:=by
 unfold pG at *
 refine aH Tryz.func237 ?_
 repeat' (first|refine FL ?_|refine wr ?_|refine w5 ?_ ?_|((refine bh fun h=>?_) <;> try exact w6 h)|(refine aE fun hA=>?_;subst hA)|intro _|(show aA _ 325 _ _ _;refine CA (h:=VA hs he hv ?_)))
 (refine aC ?_;exact aB (hK))
theorem lI (hs:0≤s∧s≤4) (he:0≤e∧e≤5) (hv:xB s e=v) (h1:v≠-1) (hK:K (.int .i64 0) (pG p v::R)):aA Tryz.prog 237 #[.pointer (some ⟨p,0,none⟩),.int .i64 e] (pG p s::R) K:=by
 subst hv
 unfold pG at *
 refine aH Tryz.func237 ?_
 repeat' (first|refine FL ?_|refine wr ?_|refine w5 ?_ ?_|((refine bh fun h=>?_) <;> try exact w6 h)|(refine aE fun hA=>?_;subst hA)|intro _|(show aA _ 325 _ _ _;refine CA (h:=Zu hs he h1 ?_)))
 (refine aC ?_;exact aB (hK))
theorem E0 (hK:K (.int .i64 s) (pG p s::R)):aA Tryz.prog 273 #[.pointer (some ⟨p,0,none⟩)] (pG p s::R) K:=by
 unfold pG at *
 refine aH Tryz.func273 ?_
 repeat' (first|refine v4 ?_|refine wr ?_|refine w5 ?_ ?_|((refine bh fun h=>?_) <;> try exact w6 h)|(refine aE fun hA=>?_;subst hA)|intro _)
 (refine aC ?_;exact aB (hK))
theorem oT (hK:K (.bool (decide (s=1∨s=3))) (pG p s::R)):aA Tryz.prog 182 #[.pointer (some ⟨p,0,none⟩)] (pG p s::R) K:=by
 refine aH Tryz.func182 ?_
 repeat' (first|refine v3 ?_|refine wr ?_|refine w5 ?_ ?_|((refine bh fun h=>?_) <;> try exact w6 h)|(refine aE fun hA=>?_;subst hA)|intro _|(show aA _ 273 _ _ _;refine CA (h:=E0 ?_)))
 all_goals(refine aC ?_;exact aB (kb hK (by simp <;> omega)))
theorem eI (hK:K (.bool (decide (s=1∨s=2))) (pG p s::R)):aA Tryz.prog 188 #[.pointer (some ⟨p,0,none⟩)] (pG p s::R) K:=by
 refine aH Tryz.func188 ?_
 repeat' (first|refine v3 ?_|refine wr ?_|refine w5 ?_ ?_|((refine bh fun h=>?_) <;> try exact w6 h)|(refine aE fun hA=>?_;subst hA)|intro _|(show aA _ 273 _ _ _;refine CA (h:=E0 ?_)))
 all_goals(refine aC ?_;exact aB (kb hK (by simp <;> omega)))
theorem C3 (hK:K (.bool (s == 4)) (pG p s::R)):aA Tryz.prog 312 #[.pointer (some ⟨p,0,none⟩)] (pG p s::R) K:=by
 refine aH Tryz.func312 ?_
 repeat' (first|refine v3 ?_|refine wr ?_|refine w5 ?_ ?_|((refine bh fun h=>?_) <;> try exact w6 h)|(refine aE fun hA=>?_;subst hA)|intro _|(show aA _ 273 _ _ _;refine CA (h:=E0 ?_)))
 all_goals(refine aC ?_;exact aB (kb hK (by simp <;> omega)))
end
end Go.Proofs.YtifgibijcmppmaaGreat
end
namespace Go.Proofs.YtifgibijcmppmaaGreat
open Go Go.Proofs Go.Sl
set_option maxRecDepth 100000
set_option maxHeartbeats 40000000
attribute [local irreducible] aN fB cJ bO aM aY aA dM dQ aW dK pt ro fF star sep bI
section
variable {R C:List HP} {K:Value→List HP→Prop}
section
variable {s li t r:Nat} {id sta:Int} {own:Bool}
theorem Aaz (hK:K (.int .i64 (if sta=1∨sta=3 then 0 else 14)) (pt s [.pointer (some ⟨li,0,none⟩),.pointer (some ⟨t,0,none⟩),.pointer (some ⟨r,0,none⟩),.int .i64 id,.bool own] 258::pG li sta::R)):aA Tryz.prog 232 #[.pointer (some ⟨s,0,none⟩)] (pt s [.pointer (some ⟨li,0,none⟩),.pointer (some ⟨t,0,none⟩),.pointer (some ⟨r,0,none⟩),.int .i64 id,.bool own] 258::pG li sta::R) K:=by
 by_cases h:sta=1∨sta=3
 ·rw[if_pos h] at hK
  have hd:decide (sta=1∨sta=3)=true:=decide_eq_true h
  refine aH Tryz.func232 ?_
  repeat' (first|(show cJ _ _ _;rw[hd])|refine I7 ?_|refine wr ?_|refine w5 ?_ ?_|((refine bh fun h=>?_) <;> try exact w6 h)|(refine aE fun hA=>?_;subst hA)|intro _|(show aA _ 182 _ _ _;refine CA (h:=oT ?_)))
  (refine aC ?_;exact aB (hK))
 ·rw[if_neg h] at hK
  have hd:decide (sta=1∨sta=3)=false:=decide_eq_false h
  refine aH Tryz.func232 ?_
  repeat' (first|(show cJ _ _ _;rw[hd])|refine I7 ?_|refine wr ?_|refine w5 ?_ ?_|((refine bh fun h=>?_) <;> try exact w6 h)|(refine aE fun hA=>?_;subst hA)|intro _|(show aA _ 182 _ _ _;refine CA (h:=oT ?_)))
  (refine aC ?_;exact aB (hK))
theorem LQ (hK:K (.pointer (some ⟨t,0,none⟩)) (pt s [.pointer (some ⟨li,0,none⟩),.pointer (some ⟨t,0,none⟩),.pointer (some ⟨r,0,none⟩),.int .i64 id,.bool own] 258::R)):aA Tryz.prog 86 #[.pointer (some ⟨s,0,none⟩)] (pt s [.pointer (some ⟨li,0,none⟩),.pointer (some ⟨t,0,none⟩),.pointer (some ⟨r,0,none⟩),.int .i64 id,.bool own] 258::R) K:=by
 refine aH Tryz.func86 ?_
 repeat' (first|refine v4 ?_|refine wr ?_|refine w5 ?_ ?_|((refine bh fun h=>?_) <;> try exact w6 h)|(refine aE fun hA=>?_;subst hA)|intro _)
 (refine aC ?_;exact aB (hK))
theorem YH (hK:K (.pointer (some ⟨r,0,none⟩)) (pt s [.pointer (some ⟨li,0,none⟩),.pointer (some ⟨t,0,none⟩),.pointer (some ⟨r,0,none⟩),.int .i64 id,.bool own] 258::R)):aA Tryz.prog 89 #[.pointer (some ⟨s,0,none⟩)] (pt s [.pointer (some ⟨li,0,none⟩),.pointer (some ⟨t,0,none⟩),.pointer (some ⟨r,0,none⟩),.int .i64 id,.bool own] 258::R) K:=by
 refine aH Tryz.func89 ?_
 repeat' (first|refine v4 ?_|refine wr ?_|refine w5 ?_ ?_|((refine bh fun h=>?_) <;> try exact w6 h)|(refine aE fun hA=>?_;subst hA)|intro _)
 (refine aC ?_;exact aB (hK))
theorem Aj2 (hK:K (.int .i64 id) (pt s [.pointer (some ⟨li,0,none⟩),.pointer (some ⟨t,0,none⟩),.pointer (some ⟨r,0,none⟩),.int .i64 id,.bool own] 258::R)):aA Tryz.prog 224 #[.pointer (some ⟨s,0,none⟩)] (pt s [.pointer (some ⟨li,0,none⟩),.pointer (some ⟨t,0,none⟩),.pointer (some ⟨r,0,none⟩),.int .i64 id,.bool own] 258::R) K:=by
 refine aH Tryz.func224 ?_
 repeat' (first|refine v4 ?_|refine wr ?_|refine w5 ?_ ?_|((refine bh fun h=>?_) <;> try exact w6 h)|(refine aE fun hA=>?_;subst hA)|intro _)
 (refine aC ?_;exact aB (hK))
theorem Aee (hK:K (.bool own) (pt s [.pointer (some ⟨li,0,none⟩),.pointer (some ⟨t,0,none⟩),.pointer (some ⟨r,0,none⟩),.int .i64 id,.bool own] 258::R)):aA Tryz.prog 178 #[.pointer (some ⟨s,0,none⟩)] (pt s [.pointer (some ⟨li,0,none⟩),.pointer (some ⟨t,0,none⟩),.pointer (some ⟨r,0,none⟩),.int .i64 id,.bool own] 258::R) K:=by
 refine aH Tryz.func178 ?_
 repeat' (first|refine v16 ?_|refine wr ?_|refine w5 ?_ ?_|((refine bh fun h=>?_) <;> try exact w6 h)|(refine aE fun hA=>?_;subst hA)|intro _)
 (refine aC ?_;exact aB (hK))
end
end
section
variable {R C:List HP} {K:Value→List HP→Prop}
section
variable {s li t r cap:Nat} {id sta ac se dr n rcap most gr got us e:Int} {own en ou ren b:Bool} {bs rb:List UInt8} {d:ByteArray}
theorem Ff (hK:K (.int .i64 1) (pt s [.pointer (some ⟨li,0,none⟩),.pointer (some ⟨t,0,none⟩),.pointer (some ⟨r,0,none⟩),.int .i64 id,.bool own] 258::yA t cap bs en ou ac se dr::R)):aA Tryz.prog 107 #[.pointer (some ⟨s,0,none⟩)] (pt s [.pointer (some ⟨li,0,none⟩),.pointer (some ⟨t,0,none⟩),.pointer (some ⟨r,0,none⟩),.int .i64 id,.bool own] 258::yA t cap bs en ou ac se dr::R) K:=by
 refine aH Tryz.func107 ?_
 repeat' (first|refine v0 ?_|refine wr ?_|refine w5 ?_ ?_|((refine bh fun h=>?_) <;> try exact w6 h)|(refine aE fun hA=>?_;subst hA)|intro _|(show aA _ 86 _ _ _;refine CA (h:=LQ ?_))|(show aA _ 208 _ _ _;refine CA (h:=SA ?_)))
 (refine aC ?_;exact aB (hK))
theorem qX (hK:K (.int .i64 0) (pt s [.pointer (some ⟨li,0,none⟩),.pointer (some ⟨t,0,none⟩),.pointer (some ⟨r,0,none⟩),.int .i64 id,.bool own] 258::yA t cap bs en ou ac se dr::R)):aA Tryz.prog 293 #[.pointer (some ⟨s,0,none⟩)] (pt s [.pointer (some ⟨li,0,none⟩),.pointer (some ⟨t,0,none⟩),.pointer (some ⟨r,0,none⟩),.int .i64 id,.bool own] 258::yA t cap bs en ou ac se dr::R) K:=by
 refine aH Tryz.func293 ?_
 repeat' (first|refine v3 ?_|refine wr ?_|refine w5 ?_ ?_|((refine bh fun h=>?_) <;> try exact w6 h)|(refine aE fun hA=>?_;subst hA)|intro _|(show aA _ 107 _ _ _;refine CA (h:=Ff ?_)))
 (refine aC ?_;exact aB (hK))
theorem tZ {v:Int} (hv:(if sta=1∨sta=3 then 0 else 14)=v) (hK:K (.int .i64 v) (pt s [.pointer (some ⟨li,0,none⟩),.pointer (some ⟨t,0,none⟩),.pointer (some ⟨r,0,none⟩),.int .i64 id,.bool own] 258::pG li sta::R)):aA Tryz.prog 232 #[.pointer (some ⟨s,0,none⟩)] (pt s [.pointer (some ⟨li,0,none⟩),.pointer (some ⟨t,0,none⟩),.pointer (some ⟨r,0,none⟩),.int .i64 id,.bool own] 258::pG li sta::R) K:=by
 subst hv;exact Aaz hK
def Jk (sta:Int) (b:Bool):Int:=if b=true then(if sta=1 then 2 else 4) else sta
end
end
section
variable {R C:List HP} {K:Value→List HP→Prop}
section
variable {t st k on w c la n:Int} {e x:Bool} {d:ByteArray}
end
section
variable {id w st it sb si stg ev wa stl:Int} {own:Bool} {cap:Nat}
theorem PL (hid:1≤id∧id≤2147483647) (hcap:cap≤4096) (hs:sW w st it=true) (hK:∀s li t r,K (.tuple #[.pointer (some ⟨s,0,none⟩),.int .i64 0]) (pt s [.pointer (some ⟨li,0,none⟩),.pointer (some ⟨t,0,none⟩),.pointer (some ⟨r,0,none⟩),.int .i64 id,.bool own] 258::pG li 1::yA t cap [] false false 0 0 0::vY r w w w 0 0 [] false::R)):aA Tryz.prog 139 #[.int .i64 id,.int .i64 1,.bool own,.agg #[.int .i64 w,.int .i64 st,.int .i64 it,.int .i64 cap,.int .i64 si,.int .i64 stg,.int .i64 ev,.int .i64 wa,.int .i64 stl]] R K:=by
 cases own
 ·refine aH Tryz.func139 ?_
  repeat' (first|refine zB ?_|refine wr ?_|refine w5 ?_ ?_|((refine bh fun h=>?_) <;> try exact w6 h)|(refine aE fun hA=>?_;subst hA)|intro _|(show aA _ 234 _ _ _;refine CA (h:=J4 hcap (fun t=>?_)))|(show aA _ 235 _ _ _;refine CA (h:=J8 hs (fun r=>?_)))|(show aA _ 236 _ _ _;refine CA (h:=Ga (fun li=>?_)))|(show aA _ 237 _ _ _;refine CA (h:=lI (v:=1) (by omega) (by omega) rfl (by omega) ?_)))
  (refine aC ?_;exact aB (hK _ _ _ _))
 ·refine aH Tryz.func139 ?_
  repeat' (first|refine zB ?_|refine wr ?_|refine w5 ?_ ?_|((refine bh fun h=>?_) <;> try exact w6 h)|(refine aE fun hA=>?_;subst hA)|intro _|(show aA _ 234 _ _ _;refine CA (h:=J4 hcap (fun t=>?_)))|(show aA _ 235 _ _ _;refine CA (h:=J8 hs (fun r=>?_)))|(show aA _ 236 _ _ _;refine CA (h:=Ga (fun li=>?_)))|(show aA _ 237 _ _ _;refine CA (h:=lI (v:=1) (by omega) (by omega) rfl (by omega) ?_)))
  (refine aC ?_;exact aB (hK _ _ _ _))
end
section
variable {t st k on w c la n:Int} {e x:Bool} {d:ByteArray} {pa:Option Addr} {pn pc:Nat}
end
end
section
variable {R C:List HP} {K:Value→List HP→Prop}
section
variable {s li t r:Nat} {id sta rcap most gr got us:Int} {own ren:Bool} {rb:List UInt8}
theorem WV {b:Bool} (hb:(decide (sta=4) && decide (rb= []))=b) (hK:K (.bool b) (pt s [.pointer (some ⟨li,0,none⟩),.pointer (some ⟨t,0,none⟩),.pointer (some ⟨r,0,none⟩),.int .i64 id,.bool own] 258::pG li sta::vY r rcap most gr got us rb ren::R)):aA Tryz.prog 222 #[.pointer (some ⟨s,0,none⟩)] (pt s [.pointer (some ⟨li,0,none⟩),.pointer (some ⟨t,0,none⟩),.pointer (some ⟨r,0,none⟩),.int .i64 id,.bool own] 258::pG li sta::vY r rcap most gr got us rb ren::R) K:=by
 subst hb
 by_cases h:sta=4
 ·have hd:(sta == 4)=true:=by simpa using h
  refine aH Tryz.func222 ?_
  repeat' (first|(show cJ _ _ _;rw[hd])|refine I7 ?_|refine wr ?_|refine w5 ?_ ?_|((refine bh fun h=>?_) <;> try exact w6 h)|(refine aE fun hA=>?_;subst hA)|intro _|(show aA _ 312 _ _ _;refine CA (h:=C3 ?_))|(show aA _ 90 _ _ _;refine CA (h:=u0 ?_)))
  all_goals(refine aC ?_;exact aB (kb hK (by cases rb <;> simp[h] <;> omega)))
 ·have hd:(sta == 4)=false:=by simpa using h
  refine aH Tryz.func222 ?_
  repeat' (first|(show cJ _ _ _;rw[hd])|refine I7 ?_|refine wr ?_|refine w5 ?_ ?_|((refine bh fun h=>?_) <;> try exact w6 h)|(refine aE fun hA=>?_;subst hA)|intro _|(show aA _ 312 _ _ _;refine CA (h:=C3 ?_))|(show aA _ 90 _ _ _;refine CA (h:=u0 ?_)))
  all_goals(refine aC ?_;exact aB (kb hK (by simp[h])))
end
section
variable {t st k on w c la n m:Int} {e x:Bool} {d:ByteArray} {pa:Option Addr} {pn pc:Nat}
end
end
section
variable {R C:List HP} {K:Value→List HP→Prop}
variable {id k w st it sb si stg ev wa stl:Int} {own:Bool} {cap:Nat}
theorem Ow (hid:1≤id∧id≤2147483647) (hcap:cap≤64) (hst:0≤stg∧stg≤2) (hs:sW w st it=true) (hK:∀s li t r,K (.tuple #[.pointer (some ⟨s,0,none⟩),.int .i64 0]) (pt s [.pointer (some ⟨li,0,none⟩),.pointer (some ⟨t,0,none⟩),.pointer (some ⟨r,0,none⟩),.int .i64 id,.bool own] 258::pG li 1::qF t cap stg [] 0 false false 0 0 0::sX r it it 0 0 [] 0 0 0 false::R)):aA Tryz.prog 139 #[.int .i64 id,.int .i64 2,.bool own,.agg #[.int .i64 w,.int .i64 st,.int .i64 it,.int .i64 sb,.int .i64 cap,.int .i64 stg,.int .i64 ev,.int .i64 wa,.int .i64 stl]] R K:=by
 cases own
 ·refine aH Tryz.func139 ?_
  repeat' (first|refine zB ?_|refine wr ?_|refine w5 ?_ ?_|((refine bh fun h=>?_) <;> try exact w6 h)|(refine aE fun hA=>?_;subst hA)|intro _|(show aA _ 234 _ _ _;refine CA (h:=KI hcap hst (fun t=>?_)))|(show aA _ 235 _ _ _;refine CA (h:=KO hs (fun r=>?_)))|(show aA _ 236 _ _ _;refine CA (h:=Ga (fun li=>?_)))|(show aA _ 237 _ _ _;refine CA (h:=lI (v:=1) (by omega) (by omega) rfl (by omega) ?_)))
  (refine aC ?_;exact aB (hK _ _ _ _))
 ·refine aH Tryz.func139 ?_
  repeat' (first|refine zB ?_|refine wr ?_|refine w5 ?_ ?_|((refine bh fun h=>?_) <;> try exact w6 h)|(refine aE fun hA=>?_;subst hA)|intro _|(show aA _ 234 _ _ _;refine CA (h:=KI hcap hst (fun t=>?_)))|(show aA _ 235 _ _ _;refine CA (h:=KO hs (fun r=>?_)))|(show aA _ 236 _ _ _;refine CA (h:=Ga (fun li=>?_)))|(show aA _ 237 _ _ _;refine CA (h:=lI (v:=1) (by omega) (by omega) rfl (by omega) ?_)))
  (refine aC ?_;exact aB (hK _ _ _ _))
section
variable {s li t r:Nat} {l:List ByteArray} {en ou:Bool} {ac se dr:Int}
theorem EW (hK:K (.int .i64 2) (pt s [.pointer (some ⟨li,0,none⟩),.pointer (some ⟨t,0,none⟩),.pointer (some ⟨r,0,none⟩),.int .i64 id,.bool own] 258::qF t cap st l w en ou ac se dr::R)):aA Tryz.prog 107 #[.pointer (some ⟨s,0,none⟩)] (pt s [.pointer (some ⟨li,0,none⟩),.pointer (some ⟨t,0,none⟩),.pointer (some ⟨r,0,none⟩),.int .i64 id,.bool own] 258::qF t cap st l w en ou ac se dr::R) K:=by
 refine aH Tryz.func107 ?_
 repeat' (first|refine v0 ?_|refine wr ?_|refine w5 ?_ ?_|((refine bh fun h=>?_) <;> try exact w6 h)|(refine aE fun hA=>?_;subst hA)|intro _|(show aA _ 86 _ _ _;refine CA (h:=LQ ?_))|(show aA _ 208 _ _ _;refine CA (h:=QR ?_)))
 (refine aC ?_;exact aB (hK))
end
end
end Go.Proofs.YtifgibijcmppmaaGreat
