/- A part of the proof: lemmas; each with the conditions that it states. -/
import Derived.Test.YtifgibijcmppmaaGreatUak
import Derived.Test.YtifgibijcmppmaaGreatUai
set_option linter.unusedVariables false
set_option linter.unusedSimpArgs false
set_option maxRecDepth 100000
set_option maxHeartbeats 40000000
namespace Go.Proofs.YtifgibijcmppmaaGreat
open Go Go.Proofs Go.Sl
attribute [local irreducible] aN fN cX bP aM aX aA dS dV aT dU pt ro eV star sep bH
section
variable {R C:List HP} {K:KP}
structure RA where
 k:Int
 m:Int
 s:ByteArray
 w:Int
 st:Int
 it:Int
section
variable {r x p n c:Nat} {A:Option Addr} {cap most gr got us mr room ask open_ a1 t1 d1 k m w st it v:Int} {bs:List UInt8} {l:List ByteArray} {en:Bool} {s:ByteArray}
end
section
variable {A:Option Addr} {n c:Nat} {ls:List RA} {kd w st it:Int}
end
end
end Go.Proofs.YtifgibijcmppmaaGreat
section
namespace Go.Proofs.YtifgibijcmppmaaGreat
open Go Go.Proofs Go.Sl
attribute [local irreducible] aN fN cX bP aM aX aA dS dV aT dU pt ro eV star sep bH
variable {R C:List HP} {K:KP}
theorem Od (hK:K (.agg #[I6 1,I6 1,I6 (-1),I6 (-1),I6 (-1),I6 (-1),I6 (-1),I6 (-1),I6 2,I6 3,I6 4,I6 4,I6 (-1),I6 (-1),I6 (-1),I6 4,I6 4,I6 4,I6 (-1),I6 (-1),I6 4,I6 (-1),I6 4,I6 4,I6 (-1),I6 (-1),I6 (-1),I6 (-1),I6 (-1),I6 (-1)]) R):CT 377 #[] R K:=by
 refine aH Tryz.func377 ?_
 repeat' (first|refine v5 ?_|refine w5 ?_ ?_|((refine bh fun h=>?_) <;> try exact w6 h)|(refine aE fun hA=>?_;subst hA)|intro _)
 (refine aC ?_;exact aB (hK))
def wS (s e:Int):Int:=([1,1,-1,-1,-1,-1,-1,-1,2,3,4,4,-1,-1,-1,4,4,4,-1,-1,4,-1,4,4,-1,-1,-1,-1,-1,-1]:List Int).getD (s.toNat * 6+e.toNat) (-1)
def CE:List (Nat×Nat):= [(0,1),(1,1),(2,0),(3,1),(4,0),(5,0)]
theorem Le {r2 r3:Nat} {s e:Int} (hs:s=0∨s=1∨s=2∨s=3∨s=4) (he:e=0∨e=1∨e=2∨e=3∨e=4∨e=5) (hK:K (I6 (wS s e)) (pt r2 [I6 s] 3::pt r3 [I6 e] 3::R)):CT 376 #[PO r2,PO r3] (pt r2 [I6 s] 3::pt r3 [I6 e] 3::R) K:=by
 rcases hs with rfl|rfl|rfl|rfl|rfl <;> rcases he with rfl|rfl|rfl|rfl|rfl|rfl
 all_goals
  refine aH Tryz.func376 ?_
  repeat' (first|refine v25 ?_|refine dw CE ?_|refine w5 ?_ ?_|((refine bh fun h=>?_) <;> try exact w6 h)|(refine aE fun hA=>?_;subst hA)|intro _|(show aA _ 377 _ _ _;refine CA (h:=Od ?_))|(show aN _ _ _ _ _ _ _;refine yK ?_))
  (refine aC ?_;exact aB (hK))
end Go.Proofs.YtifgibijcmppmaaGreat
namespace Go.Proofs.YtifgibijcmppmaaGreat
open Go Go.Proofs Go.Sl
attribute [local irreducible] aN fN cX bP aM aX aA dS dV aT dU pt ro eV star sep bH
variable {R C:List HP} {K:KP}
theorem WQ {s e:Int} (hs:0≤s∧s≤4) (he:0≤e∧e≤5) (hv:wS s e=-1) (hK:K (.tuple #[I6 0,I6 11]) R):CT 325 #[I6 s,I6 e] R K:=by
 refine aH Tryz.func325 ?_
 repeat' (first|refine v26 ?_|refine w5 ?_ ?_|((refine bh fun h=>?_) <;> try exact w6 h)|(refine aE fun hA=>?_;subst hA)|intro _|(show aA _ 376 _ _ _;refine CA (h:=Le (by omega) (by omega) ?_)))
 all_goals(refine aC ?_;exact aB (hK))
theorem Ab2 {s e:Int} (hs:0≤s∧s≤4) (he:0≤e∧e≤5) (hv:wS s e≠-1) (hK:K (.tuple #[I6 (wS s e),I6 0]) R):CT 325 #[I6 s,I6 e] R K:=by
 refine aH Tryz.func325 ?_
 repeat' (first|refine v26 ?_|refine w5 ?_ ?_|((refine bh fun h=>?_) <;> try exact w6 h)|(refine aE fun hA=>?_;subst hA)|intro _|(show aA _ 376 _ _ _;refine CA (h:=Le (by omega) (by omega) ?_)))
 all_goals(refine aC ?_;exact aB (hK))
def o6 (p:Nat) (s:Int):HP:=pt p [I6 s] 361
theorem Gs (hK:∀p,K (PO p) (o6 p 0::R)):CT 236 #[] R K:=by
 refine aH Tryz.func236 ?_
 repeat' (first|refine v6 ?_|refine w5 ?_ ?_|((refine bh fun h=>?_) <;> try exact w6 h)|(refine aE fun hA=>?_;subst hA)|intro _)
 (refine aC ?_;exact aB (hK _))
section
variable {p:Nat} {s e v:Int}
theorem Tn (hs:0≤s∧s≤4) (he:0≤e∧e≤5) (hv:wS s e=-1) (hK:K (I6 11) (o6 p s::R)):CT 237 #[PO p,I6 e] (o6 p s::R) K:=by
 unfold o6 at *
 refine aH Tryz.func237 ?_
 repeat' (first|refine Gt ?_|refine w5 ?_ ?_|((refine bh fun h=>?_) <;> try exact w6 h)|(refine aE fun hA=>?_;subst hA)|intro _|(show aA _ 325 _ _ _;refine CA (h:=WQ hs he hv ?_)))
 (refine aC ?_;exact aB (hK))
theorem kY (hs:0≤s∧s≤4) (he:0≤e∧e≤5) (hv:wS s e=v) (h1:v≠-1) (hK:K (I6 0) (o6 p v::R)):CT 237 #[PO p,I6 e] (o6 p s::R) K:=by
 subst hv
 unfold o6 at *
 refine aH Tryz.func237 ?_
 repeat' (first|refine Gt ?_|refine w5 ?_ ?_|((refine bh fun h=>?_) <;> try exact w6 h)|(refine aE fun hA=>?_;subst hA)|intro _|(show aA _ 325 _ _ _;refine CA (h:=Ab2 hs he h1 ?_)))
 (refine aC ?_;exact aB (hK))
theorem Fz (hK:K (I6 s) (o6 p s::R)):CT 273 #[PO p] (o6 p s::R) K:=by
 unfold o6 at *
 refine aH Tryz.func273 ?_
 repeat' (first|refine v4 ?_|refine w5 ?_ ?_|((refine bh fun h=>?_) <;> try exact w6 h)|(refine aE fun hA=>?_;subst hA)|intro _)
 (refine aC ?_;exact aB (hK))
theorem oG (hK:K (.bool (decide (s=1∨s=3))) (o6 p s::R)):CT 182 #[PO p] (o6 p s::R) K:=by
 refine aH Tryz.func182 ?_
 repeat' (first|refine v3 ?_|refine w5 ?_ ?_|((refine bh fun h=>?_) <;> try exact w6 h)|(refine aE fun hA=>?_;subst hA)|intro _|(show aA _ 273 _ _ _;refine CA (h:=Fz ?_)))
 all_goals(refine aC ?_;exact aB (kb hK (by simp <;> omega)))
theorem eH (hK:K (.bool (decide (s=1∨s=2))) (o6 p s::R)):CT 188 #[PO p] (o6 p s::R) K:=by
 refine aH Tryz.func188 ?_
 repeat' (first|refine v3 ?_|refine w5 ?_ ?_|((refine bh fun h=>?_) <;> try exact w6 h)|(refine aE fun hA=>?_;subst hA)|intro _|(show aA _ 273 _ _ _;refine CA (h:=Fz ?_)))
 all_goals(refine aC ?_;exact aB (kb hK (by simp <;> omega)))
theorem DZ (hK:K (.bool (s == 4)) (o6 p s::R)):CT 312 #[PO p] (o6 p s::R) K:=by
 refine aH Tryz.func312 ?_
 repeat' (first|refine v3 ?_|refine w5 ?_ ?_|((refine bh fun h=>?_) <;> try exact w6 h)|(refine aE fun hA=>?_;subst hA)|intro _|(show aA _ 273 _ _ _;refine CA (h:=Fz ?_)))
 all_goals(refine aC ?_;exact aB (kb hK (by simp <;> omega)))
end
end Go.Proofs.YtifgibijcmppmaaGreat
end
namespace Go.Proofs.YtifgibijcmppmaaGreat
open Go Go.Proofs Go.Sl
attribute [local irreducible] aN fN cX bP aM aX aA dS dV aT dU pt ro eV star sep bH
section
variable {R C:List HP} {K:KP}
section
variable {s li t r:Nat} {id sta:Int} {own:Bool}
theorem Ad8 (hK:K (I6 (if sta=1∨sta=3 then 0 else 14)) (pt s [PO li,PO t,PO r,I6 id,.bool own] 258::o6 li sta::R)):CT 232 #[PO s] (pt s [PO li,PO t,PO r,I6 id,.bool own] 258::o6 li sta::R) K:=by
 by_cases h:sta=1∨sta=3
 ·rw[if_pos h] at hK
  have hd:decide (sta=1∨sta=3)=true:=decide_eq_true h
  refine aH Tryz.func232 ?_
  repeat' (first|(show cX _ _ _;rw[hd])|refine Jm ?_|refine w5 ?_ ?_|((refine bh fun h=>?_) <;> try exact w6 h)|(refine aE fun hA=>?_;subst hA)|intro _|(show aA _ 182 _ _ _;refine CA (h:=oG ?_)))
  (refine aC ?_;exact aB (hK))
 ·rw[if_neg h] at hK
  have hd:decide (sta=1∨sta=3)=false:=decide_eq_false h
  refine aH Tryz.func232 ?_
  repeat' (first|(show cX _ _ _;rw[hd])|refine Jm ?_|refine w5 ?_ ?_|((refine bh fun h=>?_) <;> try exact w6 h)|(refine aE fun hA=>?_;subst hA)|intro _|(show aA _ 182 _ _ _;refine CA (h:=oG ?_)))
  (refine aC ?_;exact aB (hK))
theorem No (hK:K (PO t) (pt s [PO li,PO t,PO r,I6 id,.bool own] 258::R)):CT 86 #[PO s] (pt s [PO li,PO t,PO r,I6 id,.bool own] 258::R) K:=by
 refine aH Tryz.func86 ?_
 repeat' (first|refine v4 ?_|refine w5 ?_ ?_|((refine bh fun h=>?_) <;> try exact w6 h)|(refine aE fun hA=>?_;subst hA)|intro _)
 (refine aC ?_;exact aB (hK))
theorem Adq (hK:K (PO r) (pt s [PO li,PO t,PO r,I6 id,.bool own] 258::R)):CT 89 #[PO s] (pt s [PO li,PO t,PO r,I6 id,.bool own] 258::R) K:=by
 refine aH Tryz.func89 ?_
 repeat' (first|refine v4 ?_|refine w5 ?_ ?_|((refine bh fun h=>?_) <;> try exact w6 h)|(refine aE fun hA=>?_;subst hA)|intro _)
 (refine aC ?_;exact aB (hK))
theorem Aj5 (hK:K (I6 id) (pt s [PO li,PO t,PO r,I6 id,.bool own] 258::R)):CT 224 #[PO s] (pt s [PO li,PO t,PO r,I6 id,.bool own] 258::R) K:=by
 refine aH Tryz.func224 ?_
 repeat' (first|refine v4 ?_|refine w5 ?_ ?_|((refine bh fun h=>?_) <;> try exact w6 h)|(refine aE fun hA=>?_;subst hA)|intro _)
 (refine aC ?_;exact aB (hK))
theorem Afb (hK:K (.bool own) (pt s [PO li,PO t,PO r,I6 id,.bool own] 258::R)):CT 178 #[PO s] (pt s [PO li,PO t,PO r,I6 id,.bool own] 258::R) K:=by
 refine aH Tryz.func178 ?_
 repeat' (first|refine v16 ?_|refine w5 ?_ ?_|((refine bh fun h=>?_) <;> try exact w6 h)|(refine aE fun hA=>?_;subst hA)|intro _)
 (refine aC ?_;exact aB (hK))
end
end
section
variable {R C:List HP} {K:KP}
section
variable {s li t r cap:Nat} {id sta ac se dr n rcap most gr got us e:Int} {own en ou ren b:Bool} {bs rb:List UInt8} {d:ByteArray}
theorem Ff (hK:K (I6 1) (pt s [PO li,PO t,PO r,I6 id,.bool own] 258::yN t cap bs en ou ac se dr::R)):CT 107 #[PO s] (pt s [PO li,PO t,PO r,I6 id,.bool own] 258::yN t cap bs en ou ac se dr::R) K:=by
 refine aH Tryz.func107 ?_
 repeat' (first|refine v0 ?_|refine w5 ?_ ?_|((refine bh fun h=>?_) <;> try exact w6 h)|(refine aE fun hA=>?_;subst hA)|intro _|(show aA _ 86 _ _ _;refine CA (h:=No ?_))|(show aA _ 208 _ _ _;refine CA (h:=RG ?_)))
 (refine aC ?_;exact aB (hK))
theorem p6 (hK:K (I6 0) (pt s [PO li,PO t,PO r,I6 id,.bool own] 258::yN t cap bs en ou ac se dr::R)):CT 293 #[PO s] (pt s [PO li,PO t,PO r,I6 id,.bool own] 258::yN t cap bs en ou ac se dr::R) K:=by
 refine aH Tryz.func293 ?_
 repeat' (first|refine v3 ?_|refine w5 ?_ ?_|((refine bh fun h=>?_) <;> try exact w6 h)|(refine aE fun hA=>?_;subst hA)|intro _|(show aA _ 107 _ _ _;refine CA (h:=Ff ?_)))
 (refine aC ?_;exact aB (hK))
theorem tM {v:Int} (hv:(if sta=1∨sta=3 then 0 else 14)=v) (hK:K (I6 v) (pt s [PO li,PO t,PO r,I6 id,.bool own] 258::o6 li sta::R)):CT 232 #[PO s] (pt s [PO li,PO t,PO r,I6 id,.bool own] 258::o6 li sta::R) K:=by
 subst hv;exact Ad8 hK
def JN (sta:Int) (b:Bool):Int:=if b=true then(if sta=1 then 2 else 4) else sta
end
end
section
variable {R C:List HP} {K:KP}
section
variable {t st k on w c la n:Int} {e x:Bool} {d:ByteArray}
end
section
variable {id w st it sb si stg ev wa stl:Int} {own:Bool} {cap:Nat}
theorem Ou (hid:1≤id∧id≤2147483647) (hcap:cap≤4096) (hs:rY w st it=true) (hK:∀s li t r,K (.tuple #[PO s,I6 0]) (pt s [PO li,PO t,PO r,I6 id,.bool own] 258::o6 li 1::yN t cap [] false false 0 0 0::yF r w w w 0 0 [] false::R)):CT 139 #[I6 id,I6 1,.bool own,.agg #[I6 w,I6 st,I6 it,I6 cap,I6 si,I6 stg,I6 ev,I6 wa,I6 stl]] R K:=by
 cases own
 ·refine aH Tryz.func139 ?_
  repeat' (first|refine zQ ?_|refine w5 ?_ ?_|((refine bh fun h=>?_) <;> try exact w6 h)|(refine aE fun hA=>?_;subst hA)|intro _|(show aA _ 234 _ _ _;refine CA (h:=KT hcap (fun t=>?_)))|(show aA _ 235 _ _ _;refine CA (h:=Kc hs (fun r=>?_)))|(show aA _ 236 _ _ _;refine CA (h:=Gs (fun li=>?_)))|(show aA _ 237 _ _ _;refine CA (h:=kY (v:=1) (by omega) (by omega) rfl (by omega) ?_)))
  (refine aC ?_;exact aB (hK _ _ _ _))
 ·refine aH Tryz.func139 ?_
  repeat' (first|refine zQ ?_|refine w5 ?_ ?_|((refine bh fun h=>?_) <;> try exact w6 h)|(refine aE fun hA=>?_;subst hA)|intro _|(show aA _ 234 _ _ _;refine CA (h:=KT hcap (fun t=>?_)))|(show aA _ 235 _ _ _;refine CA (h:=Kc hs (fun r=>?_)))|(show aA _ 236 _ _ _;refine CA (h:=Gs (fun li=>?_)))|(show aA _ 237 _ _ _;refine CA (h:=kY (v:=1) (by omega) (by omega) rfl (by omega) ?_)))
  (refine aC ?_;exact aB (hK _ _ _ _))
end
section
variable {t st k on w c la n:Int} {e x:Bool} {d:ByteArray} {pa:Option Addr} {pn pc:Nat}
end
end
section
variable {R C:List HP} {K:KP}
section
variable {s li t r:Nat} {id sta rcap most gr got us:Int} {own ren:Bool} {rb:List UInt8}
theorem Xc {b:Bool} (hb:(decide (sta=4) && decide (rb= []))=b) (hK:K (.bool b) (pt s [PO li,PO t,PO r,I6 id,.bool own] 258::o6 li sta::yF r rcap most gr got us rb ren::R)):CT 222 #[PO s] (pt s [PO li,PO t,PO r,I6 id,.bool own] 258::o6 li sta::yF r rcap most gr got us rb ren::R) K:=by
 subst hb
 by_cases h:sta=4
 ·have hd:(sta == 4)=true:=by simpa using h
  refine aH Tryz.func222 ?_
  repeat' (first|(show cX _ _ _;rw[hd])|refine Jm ?_|refine w5 ?_ ?_|((refine bh fun h=>?_) <;> try exact w6 h)|(refine aE fun hA=>?_;subst hA)|intro _|(show aA _ 312 _ _ _;refine CA (h:=DZ ?_))|(show aA _ 90 _ _ _;refine CA (h:=uE ?_)))
  all_goals(refine aC ?_;exact aB (kb hK (by cases rb <;> simp[h] <;> omega)))
 ·have hd:(sta == 4)=false:=by simpa using h
  refine aH Tryz.func222 ?_
  repeat' (first|(show cX _ _ _;rw[hd])|refine Jm ?_|refine w5 ?_ ?_|((refine bh fun h=>?_) <;> try exact w6 h)|(refine aE fun hA=>?_;subst hA)|intro _|(show aA _ 312 _ _ _;refine CA (h:=DZ ?_))|(show aA _ 90 _ _ _;refine CA (h:=uE ?_)))
  all_goals(refine aC ?_;exact aB (kb hK (by simp[h])))
end
section
variable {t st k on w c la n m:Int} {e x:Bool} {d:ByteArray} {pa:Option Addr} {pn pc:Nat}
end
end
section
variable {R C:List HP} {K:KP}
variable {id k w st it sb si stg ev wa stl:Int} {own:Bool} {cap:Nat}
theorem Om (hid:1≤id∧id≤2147483647) (hcap:cap≤64) (hst:0≤stg∧stg≤2) (hs:rY w st it=true) (hK:∀s li t r,K (.tuple #[PO s,I6 0]) (pt s [PO li,PO t,PO r,I6 id,.bool own] 258::o6 li 1::pY t cap stg [] 0 false false 0 0 0::uC r it it 0 0 [] 0 0 0 false::R)):CT 139 #[I6 id,I6 2,.bool own,.agg #[I6 w,I6 st,I6 it,I6 sb,I6 cap,I6 stg,I6 ev,I6 wa,I6 stl]] R K:=by
 cases own
 ·refine aH Tryz.func139 ?_
  repeat' (first|refine zQ ?_|refine w5 ?_ ?_|((refine bh fun h=>?_) <;> try exact w6 h)|(refine aE fun hA=>?_;subst hA)|intro _|(show aA _ 234 _ _ _;refine CA (h:=KW hcap hst (fun t=>?_)))|(show aA _ 235 _ _ _;refine CA (h:=KQ hs (fun r=>?_)))|(show aA _ 236 _ _ _;refine CA (h:=Gs (fun li=>?_)))|(show aA _ 237 _ _ _;refine CA (h:=kY (v:=1) (by omega) (by omega) rfl (by omega) ?_)))
  (refine aC ?_;exact aB (hK _ _ _ _))
 ·refine aH Tryz.func139 ?_
  repeat' (first|refine zQ ?_|refine w5 ?_ ?_|((refine bh fun h=>?_) <;> try exact w6 h)|(refine aE fun hA=>?_;subst hA)|intro _|(show aA _ 234 _ _ _;refine CA (h:=KW hcap hst (fun t=>?_)))|(show aA _ 235 _ _ _;refine CA (h:=KQ hs (fun r=>?_)))|(show aA _ 236 _ _ _;refine CA (h:=Gs (fun li=>?_)))|(show aA _ 237 _ _ _;refine CA (h:=kY (v:=1) (by omega) (by omega) rfl (by omega) ?_)))
  (refine aC ?_;exact aB (hK _ _ _ _))
section
variable {s li t r:Nat} {l:List ByteArray} {en ou:Bool} {ac se dr:Int}
theorem ES (hK:K (I6 2) (pt s [PO li,PO t,PO r,I6 id,.bool own] 258::pY t cap st l w en ou ac se dr::R)):CT 107 #[PO s] (pt s [PO li,PO t,PO r,I6 id,.bool own] 258::pY t cap st l w en ou ac se dr::R) K:=by
 refine aH Tryz.func107 ?_
 repeat' (first|refine v0 ?_|refine w5 ?_ ?_|((refine bh fun h=>?_) <;> try exact w6 h)|(refine aE fun hA=>?_;subst hA)|intro _|(show aA _ 86 _ _ _;refine CA (h:=No ?_))|(show aA _ 208 _ _ _;refine CA (h:=Rx ?_)))
 (refine aC ?_;exact aB (hK))
end
end
end Go.Proofs.YtifgibijcmppmaaGreat
