/- A part of the proof: lemmas; each with the conditions that it states. -/
import Derived.Test.YtffnpejdkkohcaaGreatBam
import Derived.Test.YtffnpejdkkohcaaGreatBak
set_option linter.unusedVariables false
set_option linter.unusedSimpArgs false
set_option maxRecDepth 100000
set_option maxHeartbeats 40000000
namespace Go.Proofs.YtffnpejdkkohcaaGreat
open Go Go.Proofs Go.Sl
attribute [local irreducible] aM eY cU bQ aL aW aA dS dT aZ dR pt ro fN star sep bH
variable {R C:List HP} {K:KP} {x p n c r:Nat} {A:Option Addr} {cap most gr got us room ask open_ mr a1 t1 d1 v kd:Int} {bs:List UInt8} {l:List ByteArray} {en:Bool}
theorem Akg {n:Int} (hK:∀p,K (PO p) (pt p [I6 n,I6 n,I6 n,I6 0,I6 0] 188::R)):CT 39 #[I6 n] R K:=by
 refine aJ Tryz.func39 ?_
 repeat' (first|refine v6 ?_|refine w5 ?_ ?_|((refine bh fun h=>?_) <;> try exact w6 h)|(refine aF fun hA=>?_;subst hA)|intro _)
 (refine aC ?_;exact aB (hK _))
section
variable {s:ByteArray}
end
structure RA where
 k:Int
 m:Int
 s:ByteArray
 w:Int
 st:Int
 it:Int
section
variable {k m w st it:Int} {s:ByteArray}
end
section
variable {ls:List RA} {w st it:Int}
end
end Go.Proofs.YtffnpejdkkohcaaGreat
section
namespace Go.Proofs.YtffnpejdkkohcaaGreat
open Go Go.Proofs Go.Sl
attribute [local irreducible] aM eY cU bQ aL aW aA dS dT aZ dR pt ro fN star sep bH
variable {R C:List HP} {K:KP}
theorem OK (hK:K (.agg #[I6 1,I6 1,I6 (-1),I6 (-1),I6 (-1),I6 (-1),I6 (-1),I6 (-1),I6 2,I6 3,I6 4,I6 4,I6 (-1),I6 (-1),I6 (-1),I6 4,I6 4,I6 4,I6 (-1),I6 (-1),I6 4,I6 (-1),I6 4,I6 4,I6 (-1),I6 (-1),I6 (-1),I6 (-1),I6 (-1),I6 (-1)]) R):CT 312 #[] R K:=by
 refine aJ Tryz.func312 ?_
 repeat' (first|refine v5 ?_|refine w5 ?_ ?_|((refine bh fun h=>?_) <;> try exact w6 h)|(refine aF fun hA=>?_;subst hA)|intro _)
 (refine aC ?_;exact aB (hK))
def xK (s e:Int):Int:=([1,1,-1,-1,-1,-1,-1,-1,2,3,4,4,-1,-1,-1,4,4,4,-1,-1,4,-1,4,4,-1,-1,-1,-1,-1,-1]:List Int).getD (s.toNat * 6+e.toNat) (-1)
def CF:List (Nat×Nat):= [(0,1),(1,1),(2,0),(3,1),(4,0),(5,0)]
theorem Kv {r2 r3:Nat} {s e:Int} (hs:s=0\/s=1\/s=2\/s=3\/s=4) (he:e=0\/e=1\/e=2\/e=3\/e=4\/e=5) (hK:K (I6 (xK s e)) (pt r2 [I6 s] 3::pt r3 [I6 e] 3::R)):CT 311 #[PO r2,PO r3] (pt r2 [I6 s] 3::pt r3 [I6 e] 3::R) K:=by
 rcases hs with rfl|rfl|rfl|rfl|rfl <;> rcases he with rfl|rfl|rfl|rfl|rfl|rfl
 all_goals
  refine aJ Tryz.func311 ?_
  repeat' (first|refine v25 ?_|refine dw CF ?_|refine w5 ?_ ?_|((refine bh fun h=>?_) <;> try exact w6 h)|(refine aF fun hA=>?_;subst hA)|intro _|(show aA _ 312 _ _ _;refine CA (h:=OK ?_))|(show aM _ _ _ _ _ _ _;refine R8 ?_))
  (refine aC ?_;exact aB (hK))
end Go.Proofs.YtffnpejdkkohcaaGreat
namespace Go.Proofs.YtffnpejdkkohcaaGreat
open Go Go.Proofs Go.Sl
attribute [local irreducible] aM eY cU bQ aL aW aA dS dT aZ dR pt ro fN star sep bH
variable {R C:List HP} {K:KP} {s e v:Int} {p:Nat}
theorem WN (hs:0<=s/\s<=4) (he:0<=e/\e<=5) (hv:xK s e=-1) (hK:K (.tuple #[I6 0,I6 11]) R):CT 259 #[I6 s,I6 e] R K:=by
 refine aJ Tryz.func259 ?_
 repeat' (first|refine v26 ?_|refine w5 ?_ ?_|((refine bh fun h=>?_) <;> try exact w6 h)|(refine aF fun hA=>?_;subst hA)|intro _|(show aA _ 311 _ _ _;refine CA (h:=Kv (by omega) (by omega) ?_)))
 all_goals(refine aC ?_;exact aB (hK))
theorem Abt (hs:0<=s/\s<=4) (he:0<=e/\e<=5) (hv:xK s e≠-1) (hK:K (.tuple #[I6 (xK s e),I6 0]) R):CT 259 #[I6 s,I6 e] R K:=by
 refine aJ Tryz.func259 ?_
 repeat' (first|refine v26 ?_|refine w5 ?_ ?_|((refine bh fun h=>?_) <;> try exact w6 h)|(refine aF fun hA=>?_;subst hA)|intro _|(show aA _ 311 _ _ _;refine CA (h:=Kv (by omega) (by omega) ?_)))
 all_goals(refine aC ?_;exact aB (hK))
def p6 (p:Nat) (s:Int):HP:=pt p [I6 s] 302
theorem Ge (hK:∀p,K (PO p) (p6 p 0::R)):CT 173 #[] R K:=by
 refine aJ Tryz.func173 ?_
 repeat' (first|refine v6 ?_|refine w5 ?_ ?_|((refine bh fun h=>?_) <;> try exact w6 h)|(refine aF fun hA=>?_;subst hA)|intro _)
 (refine aC ?_;exact aB (hK _))
theorem QG (hs:0<=s/\s<=4) (he:0<=e/\e<=5) (hv:xK s e=-1) (hK:K (I6 11) (p6 p s::R)):CT 174 #[PO p,I6 e] (p6 p s::R) K:=by
 unfold p6 at *
 refine aJ Tryz.func174 ?_
 repeat' (first|refine Hf ?_|refine w5 ?_ ?_|((refine bh fun h=>?_) <;> try exact w6 h)|(refine aF fun hA=>?_;subst hA)|intro _|(show aA _ 259 _ _ _;refine CA (h:=WN hs he hv ?_)))
 (refine aC ?_;exact aB (hK))
theorem k9 (hs:0<=s/\s<=4) (he:0<=e/\e<=5) (hv:xK s e=v) (h1:v≠-1) (hK:K (I6 0) (p6 p v::R)):CT 174 #[PO p,I6 e] (p6 p s::R) K:=by
 subst hv
 unfold p6 at *
 refine aJ Tryz.func174 ?_
 repeat' (first|refine Hf ?_|refine w5 ?_ ?_|((refine bh fun h=>?_) <;> try exact w6 h)|(refine aF fun hA=>?_;subst hA)|intro _|(show aA _ 259 _ _ _;refine CA (h:=Abt hs he h1 ?_)))
 (refine aC ?_;exact aB (hK))
theorem Ev (hK:K (I6 s) (p6 p s::R)):CT 210 #[PO p] (p6 p s::R) K:=by
 unfold p6 at *
 refine aJ Tryz.func210 ?_
 repeat' (first|refine v4 ?_|refine w5 ?_ ?_|((refine bh fun h=>?_) <;> try exact w6 h)|(refine aF fun hA=>?_;subst hA)|intro _)
 (refine aC ?_;exact aB (hK))
theorem oP (hK:K (.bool (decide (s=1\/s=3))) (p6 p s::R)):CT 133 #[PO p] (p6 p s::R) K:=by
 refine aJ Tryz.func133 ?_
 repeat' (first|refine v3 ?_|refine w5 ?_ ?_|((refine bh fun h=>?_) <;> try exact w6 h)|(refine aF fun hA=>?_;subst hA)|intro _|(show aA _ 210 _ _ _;refine CA (h:=Ev ?_)))
 all_goals(refine aC ?_;exact aB (kb hK (by simp <;> omega)))
theorem eI (hK:K (.bool (decide (s=1\/s=2))) (p6 p s::R)):CT 140 #[PO p] (p6 p s::R) K:=by
 refine aJ Tryz.func140 ?_
 repeat' (first|refine v3 ?_|refine w5 ?_ ?_|((refine bh fun h=>?_) <;> try exact w6 h)|(refine aF fun hA=>?_;subst hA)|intro _|(show aA _ 210 _ _ _;refine CA (h:=Ev ?_)))
 all_goals(refine aC ?_;exact aB (kb hK (by simp <;> omega)))
theorem D1 (hK:K (.bool (s == 4)) (p6 p s::R)):CT 251 #[PO p] (p6 p s::R) K:=by
 refine aJ Tryz.func251 ?_
 repeat' (first|refine v3 ?_|refine w5 ?_ ?_|((refine bh fun h=>?_) <;> try exact w6 h)|(refine aF fun hA=>?_;subst hA)|intro _|(show aA _ 210 _ _ _;refine CA (h:=Ev ?_)))
 all_goals(refine aC ?_;exact aB (kb hK (by simp <;> omega)))
end Go.Proofs.YtffnpejdkkohcaaGreat
end
namespace Go.Proofs.YtffnpejdkkohcaaGreat
open Go Go.Proofs Go.Sl
attribute [local irreducible] aM eY cU bQ aL aW aA dS dT aZ dR pt ro fN star sep bH
variable {R C:List HP} {K:KP} {s li r cap pn pc tt:Nat} {id sta ac se dr n rcap most gr got us st k on w c la it sb si stg ev wa stl m w0 sg mr room open_ ask a1 t1 d1:Int} {own en ou ren b x:Bool} {bs rb:List UInt8} {d:ByteArray} {pa:Option Addr} {l rl:List ByteArray}
section
variable {t:Nat}
theorem Aam (hK:K (I6 (if sta=1\/sta=3 then 0 else 14)) (pt s [PO li,PO t,PO r,I6 id,.bool own] 206::p6 li sta::R)):CT 163 #[PO s] (pt s [PO li,PO t,PO r,I6 id,.bool own] 206::p6 li sta::R) K:=by
 by_cases h:sta=1\/sta=3
 ·rw[if_pos h] at hK
  have hd:decide (sta=1\/sta=3)=true:=decide_eq_true h
  refine aJ Tryz.func163 ?_
  repeat' (first|(show cU _ _ _;rw[hd])|refine I3 ?_|refine w5 ?_ ?_|((refine bh fun h=>?_) <;> try exact w6 h)|(refine aF fun hA=>?_;subst hA)|intro _|(show aA _ 133 _ _ _;refine CA (h:=oP ?_)))
  (refine aC ?_;exact aB (hK))
 ·rw[if_neg h] at hK
  have hd:decide (sta=1\/sta=3)=false:=decide_eq_false h
  refine aJ Tryz.func163 ?_
  repeat' (first|(show cU _ _ _;rw[hd])|refine I3 ?_|refine w5 ?_ ?_|((refine bh fun h=>?_) <;> try exact w6 h)|(refine aF fun hA=>?_;subst hA)|intro _|(show aA _ 133 _ _ _;refine CA (h:=oP ?_)))
  (refine aC ?_;exact aB (hK))
theorem Ml (hK:K (PO t) (pt s [PO li,PO t,PO r,I6 id,.bool own] 206::R)):CT 64 #[PO s] (pt s [PO li,PO t,PO r,I6 id,.bool own] 206::R) K:=by
 refine aJ Tryz.func64 ?_
 repeat' (first|refine v4 ?_|refine w5 ?_ ?_|((refine bh fun h=>?_) <;> try exact w6 h)|(refine aF fun hA=>?_;subst hA)|intro _)
 (refine aC ?_;exact aB (hK))
theorem Yn (hK:K (PO r) (pt s [PO li,PO t,PO r,I6 id,.bool own] 206::R)):CT 67 #[PO s] (pt s [PO li,PO t,PO r,I6 id,.bool own] 206::R) K:=by
 refine aJ Tryz.func67 ?_
 repeat' (first|refine v4 ?_|refine w5 ?_ ?_|((refine bh fun h=>?_) <;> try exact w6 h)|(refine aF fun hA=>?_;subst hA)|intro _)
 (refine aC ?_;exact aB (hK))
theorem Aht (hK:K (I6 id) (pt s [PO li,PO t,PO r,I6 id,.bool own] 206::R)):CT 170 #[PO s] (pt s [PO li,PO t,PO r,I6 id,.bool own] 206::R) K:=by
 refine aJ Tryz.func170 ?_
 repeat' (first|refine v4 ?_|refine w5 ?_ ?_|((refine bh fun h=>?_) <;> try exact w6 h)|(refine aF fun hA=>?_;subst hA)|intro _)
 (refine aC ?_;exact aB (hK))
theorem Afy (hK:K (.bool own) (pt s [PO li,PO t,PO r,I6 id,.bool own] 206::R)):CT 129 #[PO s] (pt s [PO li,PO t,PO r,I6 id,.bool own] 206::R) K:=by
 refine aJ Tryz.func129 ?_
 repeat' (first|refine v16 ?_|refine w5 ?_ ?_|((refine bh fun h=>?_) <;> try exact w6 h)|(refine aF fun hA=>?_;subst hA)|intro _)
 (refine aC ?_;exact aB (hK))
end
section
variable {t:Nat} {e:Int}
theorem Ew (hK:K (I6 1) (pt s [PO li,PO t,PO r,I6 id,.bool own] 206::yZ t cap bs en ou ac se dr::R)):CT 139 #[PO s] (pt s [PO li,PO t,PO r,I6 id,.bool own] 206::yZ t cap bs en ou ac se dr::R) K:=by
 refine aJ Tryz.func139 ?_
 repeat' (first|refine v0 ?_|refine w5 ?_ ?_|((refine bh fun h=>?_) <;> try exact w6 h)|(refine aF fun hA=>?_;subst hA)|intro _|(show aA _ 64 _ _ _;refine CA (h:=Ml ?_))|(show aA _ 217 _ _ _;refine CA (h:=Q1 ?_)))
 (refine aC ?_;exact aB (hK))
theorem qR (hK:K (I6 0) (pt s [PO li,PO t,PO r,I6 id,.bool own] 206::yZ t cap bs en ou ac se dr::R)):CT 231 #[PO s] (pt s [PO li,PO t,PO r,I6 id,.bool own] 206::yZ t cap bs en ou ac se dr::R) K:=by
 refine aJ Tryz.func231 ?_
 repeat' (first|refine v3 ?_|refine w5 ?_ ?_|((refine bh fun h=>?_) <;> try exact w6 h)|(refine aF fun hA=>?_;subst hA)|intro _|(show aA _ 139 _ _ _;refine CA (h:=Ew ?_)))
 (refine aC ?_;exact aB (hK))
theorem Bl {v:Int} (hv:(if sta=1\/sta=3 then 0 else 14)=v) (hK:K (I6 v) (pt s [PO li,PO t,PO r,I6 id,.bool own] 206::p6 li sta::R)):CT 163 #[PO s] (pt s [PO li,PO t,PO r,I6 id,.bool own] 206::p6 li sta::R) K:=by
 subst hv;exact Aam hK
def Jc (sta:Int) (b:Bool):Int:=if b=true then(if sta=1 then 2 else 4) else sta
end
section
variable {t:Int} {e:Bool}
end
theorem PK (hid:1<=id/\id<=2147483647) (hcap:cap<=4096) (hs:pP w st it=true) (hK:∀s li t r,K (.tuple #[PO s,I6 0]) (pt s [PO li,PO t,PO r,I6 id,.bool own] 206::p6 li 1::yZ t cap [] false false 0 0 0::zE r w w w 0 0 [] false::R)):CT 90 #[I6 id,I6 1,.bool own,.agg #[I6 w,I6 st,I6 it,I6 cap,I6 si,I6 stg,I6 ev,I6 wa,I6 stl]] R K:=by
 cases own
 ·refine aJ Tryz.func90 ?_
  repeat' (first|refine zB ?_|refine w5 ?_ ?_|((refine bh fun h=>?_) <;> try exact w6 h)|(refine aF fun hA=>?_;subst hA)|intro _|(show aA _ 171 _ _ _;refine CA (h:=Kz hcap (fun t=>?_)))|(show aA _ 172 _ _ _;refine CA (h:=J3 hs (fun r=>?_)))|(show aA _ 173 _ _ _;refine CA (h:=Ge (fun li=>?_)))|(show aA _ 174 _ _ _;refine CA (h:=k9 (v:=1) (by omega) (by omega) rfl (by omega) ?_)))
  (refine aC ?_;exact aB (hK _ _ _ _))
 ·refine aJ Tryz.func90 ?_
  repeat' (first|refine zB ?_|refine w5 ?_ ?_|((refine bh fun h=>?_) <;> try exact w6 h)|(refine aF fun hA=>?_;subst hA)|intro _|(show aA _ 171 _ _ _;refine CA (h:=Kz hcap (fun t=>?_)))|(show aA _ 172 _ _ _;refine CA (h:=J3 hs (fun r=>?_)))|(show aA _ 173 _ _ _;refine CA (h:=Ge (fun li=>?_)))|(show aA _ 174 _ _ _;refine CA (h:=k9 (v:=1) (by omega) (by omega) rfl (by omega) ?_)))
  (refine aC ?_;exact aB (hK _ _ _ _))
section
variable {t:Int} {e:Bool}
end
section
variable {t:Nat}
theorem Vo (hb:(decide (sta=4) && decide (rb= []))=b) (hK:K (.bool b) (pt s [PO li,PO t,PO r,I6 id,.bool own] 206::p6 li sta::zE r rcap most gr got us rb ren::R)):CT 168 #[PO s] (pt s [PO li,PO t,PO r,I6 id,.bool own] 206::p6 li sta::zE r rcap most gr got us rb ren::R) K:=by
 subst hb
 by_cases h:sta=4
 ·have hd:(sta == 4)=true:=by simpa using h
  refine aJ Tryz.func168 ?_
  repeat' (first|(show cU _ _ _;rw[hd])|refine I3 ?_|refine w5 ?_ ?_|((refine bh fun h=>?_) <;> try exact w6 h)|(refine aF fun hA=>?_;subst hA)|intro _|(show aA _ 251 _ _ _;refine CA (h:=D1 ?_))|(show aA _ 68 _ _ _;refine CA (h:=uI ?_)))
  all_goals(refine aC ?_;exact aB (kb hK (by cases rb <;> simp[h] <;> omega)))
 ·have hd:(sta == 4)=false:=by simpa using h
  refine aJ Tryz.func168 ?_
  repeat' (first|(show cU _ _ _;rw[hd])|refine I3 ?_|refine w5 ?_ ?_|((refine bh fun h=>?_) <;> try exact w6 h)|(refine aF fun hA=>?_;subst hA)|intro _|(show aA _ 251 _ _ _;refine CA (h:=D1 ?_))|(show aA _ 68 _ _ _;refine CA (h:=uI ?_)))
  all_goals(refine aC ?_;exact aB (kb hK (by simp[h])))
end
section
variable {t:Int} {e:Bool}
end
theorem P4 (hid:1<=id/\id<=2147483647) (hcap:cap<=64) (hst:0<=stg/\stg<=2) (hs:pP w st it=true) (hK:∀s li t r,K (.tuple #[PO s,I6 0]) (pt s [PO li,PO t,PO r,I6 id,.bool own] 206::p6 li 1::rN t cap stg [] 0 false false 0 0 0::xQ r it it 0 0 [] 0 0 0 false::R)):CT 90 #[I6 id,I6 2,.bool own,.agg #[I6 w,I6 st,I6 it,I6 sb,I6 cap,I6 stg,I6 ev,I6 wa,I6 stl]] R K:=by
 cases own
 ·refine aJ Tryz.func90 ?_
  repeat' (first|refine zB ?_|refine w5 ?_ ?_|((refine bh fun h=>?_) <;> try exact w6 h)|(refine aF fun hA=>?_;subst hA)|intro _|(show aA _ 171 _ _ _;refine CA (h:=JD hcap hst (fun t=>?_)))|(show aA _ 172 _ _ _;refine CA (h:=JA hs (fun r=>?_)))|(show aA _ 173 _ _ _;refine CA (h:=Ge (fun li=>?_)))|(show aA _ 174 _ _ _;refine CA (h:=k9 (v:=1) (by omega) (by omega) rfl (by omega) ?_)))
  (refine aC ?_;exact aB (hK _ _ _ _))
 ·refine aJ Tryz.func90 ?_
  repeat' (first|refine zB ?_|refine w5 ?_ ?_|((refine bh fun h=>?_) <;> try exact w6 h)|(refine aF fun hA=>?_;subst hA)|intro _|(show aA _ 171 _ _ _;refine CA (h:=JD hcap hst (fun t=>?_)))|(show aA _ 172 _ _ _;refine CA (h:=JA hs (fun r=>?_)))|(show aA _ 173 _ _ _;refine CA (h:=Ge (fun li=>?_)))|(show aA _ 174 _ _ _;refine CA (h:=k9 (v:=1) (by omega) (by omega) rfl (by omega) ?_)))
  (refine aC ?_;exact aB (hK _ _ _ _))
section
variable {t:Nat}
theorem ER (hK:K (I6 2) (pt s [PO li,PO t,PO r,I6 id,.bool own] 206::rN t cap st l w en ou ac se dr::R)):CT 139 #[PO s] (pt s [PO li,PO t,PO r,I6 id,.bool own] 206::rN t cap st l w en ou ac se dr::R) K:=by
 refine aJ Tryz.func139 ?_
 repeat' (first|refine v0 ?_|refine w5 ?_ ?_|((refine bh fun h=>?_) <;> try exact w6 h)|(refine aF fun hA=>?_;subst hA)|intro _|(show aA _ 64 _ _ _;refine CA (h:=Ml ?_))|(show aA _ 217 _ _ _;refine CA (h:=R4 ?_)))
 (refine aC ?_;exact aB (hK))
end
section
variable {t:Int} {e:Bool}
def lW (sta:Int) (e:Bool):Int:=if e=true then(if sta=1 then 3 else 4) else sta
def fY:List (Nat×Nat):= [(2,0),(3,1),(0,1),(1,1),(4,0),(5,0)]
def fZ:List (Nat×Nat):= [(0,0),(1,0),(2,0),(3,0),(4,0),(5,0),(6,0),(7,0),(8,1),(9,0),(10,0),(11,0),(12,0),(13,0)]
theorem Rk (ht:t≠0) (hK:K (.tuple #[I6 6,.bool false]) (pt s [PO li,PO tt,PO r,I6 id,.bool own] 206::yZ tt cap bs en ou ac se dr::R)):CT 198 #[PO s,.agg #[I6 t,I6 st,.bool e,.string d,I6 k,I6 on,I6 w,.bool x,I6 c,I6 la,I6 n,.slice pa pn pc]] (pt s [PO li,PO tt,PO r,I6 id,.bool own] 206::yZ tt cap bs en ou ac se dr::R) K:=by
 refine aJ Tryz.func198 ?_
 repeat' (first|refine By ?_|refine dw fY ?_|refine dw fZ ?_|refine w5 ?_ ?_|((refine bh fun h=>?_) <;> try exact w6 h)|(refine aF fun hA=>?_;subst hA)|intro _|(show aA _ 231 _ _ _;refine CA (h:=qR ?_)))
 (refine aC ?_;exact aB (hK))
theorem QV (hm:¬(sta=1\/sta=2)) (hK:K (.tuple #[I6 7,.bool false]) (pt s [PO li,PO tt,PO r,I6 id,.bool own] 206::p6 li sta::yZ tt cap bs en ou ac se dr::R)):CT 198 #[PO s,.agg #[I6 0,I6 st,.bool e,.string d,I6 k,I6 on,I6 w,.bool x,I6 c,I6 la,I6 n,.slice pa pn pc]] (pt s [PO li,PO tt,PO r,I6 id,.bool own] 206::p6 li sta::yZ tt cap bs en ou ac se dr::R) K:=by
 have hd:decide (sta=1\/sta=2)=false:=decide_eq_false hm
 refine aJ Tryz.func198 ?_
 repeat' (first|(show cU _ _ _;rw[hd])|refine By ?_|refine dw fY ?_|refine dw fZ ?_|refine w5 ?_ ?_|((refine bh fun h=>?_) <;> try exact w6 h)|(refine aF fun hA=>?_;subst hA)|intro _|(show aA _ 231 _ _ _;refine CA (h:=qR ?_))|(show aA _ 140 _ _ _;refine CA (h:=eI ?_)))
 (refine aC ?_;exact aB (hK))
theorem Q4 (hm:sta=1\/sta=2) (hr:ren=true) (hK:K (.tuple #[I6 7,.bool false]) (pt s [PO li,PO tt,PO r,I6 id,.bool own] 206::p6 li sta::yZ tt cap bs en ou ac se dr::zE r rcap most gr got us rb ren::R)):CT 198 #[PO s,.agg #[I6 0,I6 st,.bool e,.string d,I6 k,I6 on,I6 w,.bool x,I6 c,I6 la,I6 n,.slice pa pn pc]] (pt s [PO li,PO tt,PO r,I6 id,.bool own] 206::p6 li sta::yZ tt cap bs en ou ac se dr::zE r rcap most gr got us rb ren::R) K:=by
 have hd:decide (sta=1\/sta=2)=true:=decide_eq_true hm
 refine aJ Tryz.func198 ?_
 repeat' (first|(show cU _ _ _;rw[hd])|refine By ?_|refine dw fY ?_|refine dw fZ ?_|refine w5 ?_ ?_|((refine bh fun h=>?_) <;> try exact w6 h)|(refine aF fun hA=>?_;subst hA)|intro _|(show aA _ 231 _ _ _;refine CA (h:=qR ?_))|(show aA _ 140 _ _ _;refine CA (h:=eI ?_))|(show aA _ 275 _ _ _;refine CA (h:=Jy hr ?_)))
 (refine aC ?_;exact aB (hK))
theorem R5 (hm:sta=1\/sta=2) (hr:ren=false) (hs:max (gr - got) 0<d.size) (hK:K (.tuple #[I6 8,.bool false]) (pt s [PO li,PO tt,PO r,I6 id,.bool own] 206::p6 li sta::yZ tt cap bs en ou ac se dr::zE r rcap most gr got us rb ren::R)):CT 198 #[PO s,.agg #[I6 0,I6 st,.bool e,.string d,I6 k,I6 on,I6 w,.bool x,I6 c,I6 la,I6 n,.slice pa pn pc]] (pt s [PO li,PO tt,PO r,I6 id,.bool own] 206::p6 li sta::yZ tt cap bs en ou ac se dr::zE r rcap most gr got us rb ren::R) K:=by
 have hd:decide (sta=1\/sta=2)=true:=decide_eq_true hm
 refine aJ Tryz.func198 ?_
 repeat' (first|(show cU _ _ _;rw[hd])|refine By ?_|refine dw fY ?_|refine dw fZ ?_|refine w5 ?_ ?_|((refine bh fun h=>?_) <;> try exact w6 h)|(refine aF fun hA=>?_;subst hA)|intro _|(show aA _ 231 _ _ _;refine CA (h:=qR ?_))|(show aA _ 140 _ _ _;refine CA (h:=eI ?_))|(show aA _ 275 _ _ _;refine CA (h:=Jx hr hs ?_)))
 (refine aC ?_;exact aB (hK))
theorem Va (hm:sta=1\/sta=2) (hr:ren=false) (hs:d.size<=max (gr - got) 0) (hb:got+d.size<=400000000) (hK:K (.tuple #[I6 0,.bool true]) (pt s [PO li,PO tt,PO r,I6 id,.bool own] 206::p6 li (lW sta e)::yZ tt cap bs en ou ac se dr::zE r rcap most gr (got+d.size) us (rb++d.data.toList) e::R)):CT 198 #[PO s,.agg #[I6 0,I6 st,.bool e,.string d,I6 k,I6 on,I6 w,.bool x,I6 c,I6 la,I6 n,.slice pa pn pc]] (pt s [PO li,PO tt,PO r,I6 id,.bool own] 206::p6 li sta::yZ tt cap bs en ou ac se dr::zE r rcap most gr got us rb ren::R) K:=by
 have hd:decide (sta=1\/sta=2)=true:=decide_eq_true hm
 cases e
 ·rw[lW,if_neg (by simp)] at hK
  refine aJ Tryz.func198 ?_
  repeat' (first|(show cU _ _ _;rw[hd])|refine By ?_|refine dw fY ?_|refine dw fZ ?_|refine w5 ?_ ?_|((refine bh fun h=>?_) <;> try exact w6 h)|(refine aF fun hA=>?_;subst hA)|intro _|(show aA _ 231 _ _ _;refine CA (h:=qR ?_))|(show aA _ 140 _ _ _;refine CA (h:=eI ?_))|(show aA _ 275 _ _ _;refine CA (h:=DY hr hs hb ?_)))
  (refine aC ?_;exact aB (hK))
 ·have hl:xK sta 3=lW sta true:=by rcases hm with rfl|rfl <;> rfl
  have hl1:lW sta true≠-1:=by rcases hm with rfl|rfl <;> decide
  refine aJ Tryz.func198 ?_
  repeat' (first|(show cU _ _ _;rw[hd])|refine By ?_|refine dw fY ?_|refine dw fZ ?_|refine w5 ?_ ?_|((refine bh fun h=>?_) <;> try exact w6 h)|(refine aF fun hA=>?_;subst hA)|intro _|(show aA _ 231 _ _ _;refine CA (h:=qR ?_))|(show aA _ 140 _ _ _;refine CA (h:=eI ?_))|(show aA _ 275 _ _ _;refine CA (h:=DY hr hs hb ?_))|(show aA _ 174 _ _ _;refine CA (h:=k9 (by omega) (by omega) hl hl1 ?_)))
  (refine aC ?_;exact aB (hK))
end
section
variable {t:Int} {e:Bool}
theorem nU (hK:K (I6 1) (pt s [PO li,PO tt,PO r,I6 id,.bool own] 206::rN tt cap sg l w0 en ou ac se dr::R)):CT 231 #[PO s] (pt s [PO li,PO tt,PO r,I6 id,.bool own] 206::rN tt cap sg l w0 en ou ac se dr::R) K:=by
 refine aJ Tryz.func231 ?_
 repeat' (first|refine v3 ?_|refine w5 ?_ ?_|((refine bh fun h=>?_) <;> try exact w6 h)|(refine aF fun hA=>?_;subst hA)|intro _|(show aA _ 139 _ _ _;refine CA (h:=ER ?_)))
 (refine aC ?_;exact aB (hK))
def eP:List (Nat×Nat):= [(2,0),(3,1),(0,1),(1,1),(4,0),(5,0)]
def eT:List (Nat×Nat):= [(0,0),(1,0),(2,0),(3,0),(4,0),(5,0),(6,0),(7,0),(8,1),(9,0),(10,0),(11,0),(12,0),(13,0)]
theorem Ss (ht:t≠1) (hK:K (.tuple #[I6 6,.bool false]) (pt s [PO li,PO tt,PO r,I6 id,.bool own] 206::rN tt cap sg l w0 en ou ac se dr::R)):CT 198 #[PO s,.agg #[I6 t,I6 st,.bool e,.string d,I6 k,I6 on,I6 w,.bool x,I6 c,I6 la,I6 n,.slice pa pn pc]] (pt s [PO li,PO tt,PO r,I6 id,.bool own] 206::rN tt cap sg l w0 en ou ac se dr::R) K:=by
 refine aJ Tryz.func198 ?_
 repeat' (first|refine By ?_|refine dw eP ?_|refine dw eT ?_|refine w5 ?_ ?_|((refine bh fun h=>?_) <;> try exact w6 h)|(refine aF fun hA=>?_;subst hA)|intro _|(show aA _ 231 _ _ _;refine CA (h:=nU ?_)))
 (refine aC ?_;exact aB (hK))
theorem SK (hm:¬(sta=1\/sta=2)) (hK:K (.tuple #[I6 7,.bool false]) (pt s [PO li,PO tt,PO r,I6 id,.bool own] 206::p6 li sta::rN tt cap sg l w0 en ou ac se dr::R)):CT 198 #[PO s,.agg #[I6 1,I6 st,.bool e,.string d,I6 k,I6 on,I6 w,.bool x,I6 c,I6 la,I6 n,.slice pa pn pc]] (pt s [PO li,PO tt,PO r,I6 id,.bool own] 206::p6 li sta::rN tt cap sg l w0 en ou ac se dr::R) K:=by
 have hd:decide (sta=1\/sta=2)=false:=decide_eq_false hm
 refine aJ Tryz.func198 ?_
 repeat' (first|(show cU _ _ _;rw[hd])|refine By ?_|refine dw eP ?_|refine dw eT ?_|refine w5 ?_ ?_|((refine bh fun h=>?_) <;> try exact w6 h)|(refine aF fun hA=>?_;subst hA)|intro _|(show aA _ 231 _ _ _;refine CA (h:=nU ?_))|(show aA _ 140 _ _ _;refine CA (h:=eI ?_)))
 (refine aC ?_;exact aB (hK))
theorem Qu (hm:sta=1\/sta=2) (hr:ren=true) (hK:K (.tuple #[I6 7,.bool false]) (pt s [PO li,PO tt,PO r,I6 id,.bool own] 206::p6 li sta::rN tt cap sg l w0 en ou ac se dr::xQ r mr room open_ ask rl a1 t1 d1 ren::R)):CT 198 #[PO s,.agg #[I6 1,I6 st,.bool e,.string d,I6 k,I6 on,I6 w,.bool x,I6 c,I6 la,I6 n,.slice pa pn pc]] (pt s [PO li,PO tt,PO r,I6 id,.bool own] 206::p6 li sta::rN tt cap sg l w0 en ou ac se dr::xQ r mr room open_ ask rl a1 t1 d1 ren::R) K:=by
 have hd:decide (sta=1\/sta=2)=true:=decide_eq_true hm
 refine aJ Tryz.func198 ?_
 repeat' (first|(show cU _ _ _;rw[hd])|refine By ?_|refine dw eP ?_|refine dw eT ?_|refine w5 ?_ ?_|((refine bh fun h=>?_) <;> try exact w6 h)|(refine aF fun hA=>?_;subst hA)|intro _|(show aA _ 231 _ _ _;refine CA (h:=nU ?_))|(show aA _ 140 _ _ _;refine CA (h:=eI ?_))|(show aA _ 275 _ _ _;refine CA (h:=Ja hr ?_)))
 (refine aC ?_;exact aB (hK))
theorem QT (hm:sta=1\/sta=2) (hr:ren=false) (hs:d≠⟨#[]⟩\/e=false) (ho:open_<1) (hK:K (.tuple #[I6 10,.bool false]) (pt s [PO li,PO tt,PO r,I6 id,.bool own] 206::p6 li sta::rN tt cap sg l w0 en ou ac se dr::xQ r mr room open_ ask rl a1 t1 d1 ren::R)):CT 198 #[PO s,.agg #[I6 1,I6 st,.bool e,.string d,I6 k,I6 on,I6 w,.bool x,I6 c,I6 la,I6 n,.slice pa pn pc]] (pt s [PO li,PO tt,PO r,I6 id,.bool own] 206::p6 li sta::rN tt cap sg l w0 en ou ac se dr::xQ r mr room open_ ask rl a1 t1 d1 ren::R) K:=by
 have hd:decide (sta=1\/sta=2)=true:=decide_eq_true hm
 refine aJ Tryz.func198 ?_
 repeat' (first|(show cU _ _ _;rw[hd])|refine By ?_|refine dw eP ?_|refine dw eT ?_|refine w5 ?_ ?_|((refine bh fun h=>?_) <;> try exact w6 h)|(refine aF fun hA=>?_;subst hA)|intro _|(show aA _ 231 _ _ _;refine CA (h:=nU ?_))|(show aA _ 140 _ _ _;refine CA (h:=eI ?_))|(show aA _ 275 _ _ _;refine CA (h:=Jf hr hs ho ?_)))
 (refine aC ?_;exact aB (hK))
theorem SG (hm:sta=1\/sta=2) (hr:ren=false) (hK:K (.tuple #[I6 0,.bool true]) (pt s [PO li,PO tt,PO r,I6 id,.bool own] 206::p6 li (lW sta true)::rN tt cap sg l w0 en ou ac se dr::xQ r mr room open_ ask rl a1 t1 d1 true::R)):CT 198 #[PO s,.agg #[I6 1,I6 st,.bool true,.string ⟨#[]⟩,I6 k,I6 on,I6 w,.bool x,I6 c,I6 la,I6 n,.slice pa pn pc]] (pt s [PO li,PO tt,PO r,I6 id,.bool own] 206::p6 li sta::rN tt cap sg l w0 en ou ac se dr::xQ r mr room open_ ask rl a1 t1 d1 ren::R) K:=by
 have hd:decide (sta=1\/sta=2)=true:=decide_eq_true hm
 have hl:xK sta 3=lW sta true:=by rcases hm with rfl|rfl <;> rfl
 have hl1:lW sta true≠-1:=by rcases hm with rfl|rfl <;> decide
 refine aJ Tryz.func198 ?_
 repeat' (first|(show cU _ _ _;rw[hd])|refine By ?_|refine dw eP ?_|refine dw eT ?_|refine w5 ?_ ?_|((refine bh fun h=>?_) <;> try exact w6 h)|(refine aF fun hA=>?_;subst hA)|intro _|(show aA _ 231 _ _ _;refine CA (h:=nU ?_))|(show aA _ 140 _ _ _;refine CA (h:=eI ?_))|(show aA _ 275 _ _ _;refine CA (h:=Jp hr ?_))|(show aA _ 174 _ _ _;refine CA (h:=k9 (by omega) (by omega) hl hl1 ?_)))
 (refine aC ?_;exact aB (hK))
theorem VG (hm:sta=1\/sta=2) (hr:ren=false) (hs:d≠⟨#[]⟩\/e=false) (ho:1<=open_) (hb:a1<=300000000) (hK:K (.tuple #[I6 0,.bool true]) (pt s [PO li,PO tt,PO r,I6 id,.bool own] 206::p6 li (lW sta e)::rN tt cap sg l w0 en ou ac se dr::xQ r mr room (open_ - 1) ask (rl++ [d]) (a1+1) t1 d1 e::R)):CT 198 #[PO s,.agg #[I6 1,I6 st,.bool e,.string d,I6 k,I6 on,I6 w,.bool x,I6 c,I6 la,I6 n,.slice pa pn pc]] (pt s [PO li,PO tt,PO r,I6 id,.bool own] 206::p6 li sta::rN tt cap sg l w0 en ou ac se dr::xQ r mr room open_ ask rl a1 t1 d1 ren::R) K:=by
 have hd:decide (sta=1\/sta=2)=true:=decide_eq_true hm
 cases e
 ·rw[lW,if_neg (by simp)] at hK
  refine aJ Tryz.func198 ?_
  repeat' (first|(show cU _ _ _;rw[hd])|refine By ?_|refine dw eP ?_|refine dw eT ?_|refine w5 ?_ ?_|((refine bh fun h=>?_) <;> try exact w6 h)|(refine aF fun hA=>?_;subst hA)|intro _|(show aA _ 231 _ _ _;refine CA (h:=nU ?_))|(show aA _ 140 _ _ _;refine CA (h:=eI ?_))|(show aA _ 275 _ _ _;refine CA (h:=Dy hr hs ho hb ?_)))
  (refine aC ?_;exact aB (hK))
 ·have hl:xK sta 3=lW sta true:=by rcases hm with rfl|rfl <;> rfl
  have hl1:lW sta true≠-1:=by rcases hm with rfl|rfl <;> decide
  refine aJ Tryz.func198 ?_
  repeat' (first|(show cU _ _ _;rw[hd])|refine By ?_|refine dw eP ?_|refine dw eT ?_|refine w5 ?_ ?_|((refine bh fun h=>?_) <;> try exact w6 h)|(refine aF fun hA=>?_;subst hA)|intro _|(show aA _ 231 _ _ _;refine CA (h:=nU ?_))|(show aA _ 140 _ _ _;refine CA (h:=eI ?_))|(show aA _ 275 _ _ _;refine CA (h:=Dy hr hs ho hb ?_))|(show aA _ 174 _ _ _;refine CA (h:=k9 (by omega) (by omega) hl hl1 ?_)))
  (refine aC ?_;exact aB (hK))
theorem Acb (he:ev=4\/ev=5) (hs:sta=4) (hK:K (I6 0) (pt s [PO li,PO tt,PO r,I6 id,.bool own] 206::p6 li sta::R)):CT 271 #[PO s,I6 ev] (pt s [PO li,PO tt,PO r,I6 id,.bool own] 206::p6 li sta::R) K:=by
 subst hs
 have hl:xK 4 ev=-1:=by rcases he with rfl|rfl <;> rfl
 refine aJ Tryz.func271 ?_
 repeat' (first|refine zB ?_|refine w5 ?_ ?_|((refine bh fun h=>?_) <;> try exact w6 h)|(refine aF fun hA=>?_;subst hA)|intro _|(show aA _ 174 _ _ _;refine CA (h:=QG (by omega) (by omega) hl ?_)))
 all_goals(refine aC ?_;exact aB (hK))
theorem Abx (he:ev=4\/ev=5) (hs:sta=1\/sta=2\/sta=3) (hK:K (I6 0) (pt s [PO li,PO tt,PO r,I6 id,.bool own] 206::p6 li 4::rN tt cap sg [] w0 en ou ac se (dr+l.length)::xQ r mr room open_ ask [] a1 t1 (d1+rl.length) ren::R)):CT 271 #[PO s,I6 ev] (pt s [PO li,PO tt,PO r,I6 id,.bool own] 206::p6 li sta::rN tt cap sg l w0 en ou ac se dr::xQ r mr room open_ ask rl a1 t1 d1 ren::R) K:=by
 have hl:xK sta ev=4:=by rcases hs with rfl|rfl|rfl <;> rcases he with rfl|rfl <;> rfl
 refine aJ Tryz.func271 ?_
 repeat' (first|refine zB ?_|refine w5 ?_ ?_|((refine bh fun h=>?_) <;> try exact w6 h)|(refine aF fun hA=>?_;subst hA)|intro _|(show aA _ 174 _ _ _;refine CA (h:=k9 (by omega) (by omega) hl (by omega) ?_))|(show aA _ 320 _ _ _;refine CA (h:=Py ?_))|(show aA _ 272 _ _ _;refine CA (h:=FB ?_))|(show aA _ 139 _ _ _;refine CA (h:=ER ?_)))
 all_goals(refine aC ?_;exact aB (hK))
end
theorem YT (he:ev=4\/ev=5) (hs:sta=1\/sta=2\/sta=3) (hK:K (I6 rb.length) (pt s [PO li,PO tt,PO r,I6 id,.bool own] 206::p6 li 4::yZ tt cap [] en ou ac se (dr+bs.length)::zE r rcap most gr got (us+rb.length) [] ren::R)):CT 271 #[PO s,I6 ev] (pt s [PO li,PO tt,PO r,I6 id,.bool own] 206::p6 li sta::yZ tt cap bs en ou ac se dr::zE r rcap most gr got us rb ren::R) K:=by
 have hl:xK sta ev=4:=by rcases hs with rfl|rfl|rfl <;> rcases he with rfl|rfl <;> rfl
 refine aJ Tryz.func271 ?_
 repeat' (first|refine zB ?_|refine w5 ?_ ?_|((refine bh fun h=>?_) <;> try exact w6 h)|(refine aF fun hA=>?_;subst hA)|intro _|(show aA _ 174 _ _ _;refine CA (h:=k9 (by omega) (by omega) hl (by omega) ?_))|(show aA _ 320 _ _ _;refine CA (h:=O6 ?_))|(show aA _ 272 _ _ _;refine CA (h:=FH ?_))|(show aA _ 139 _ _ _;refine CA (h:=Ew ?_)))
 all_goals(refine aC ?_;exact aB (hK))
end Go.Proofs.YtffnpejdkkohcaaGreat
