/- A part of the proof: lemmas; each with the conditions that it states. -/
import Derived.Test.YtepnmcipkangkaaGreatCal
import Derived.Test.YtepnmcipkangkaaGreatCaj
set_option linter.unusedVariables false
set_option linter.unusedSimpArgs false
set_option maxRecDepth 100000
set_option maxHeartbeats 40000000
namespace Go.Proofs.YtepnmcipkangkaaGreat
open Go Go.Proofs Go.Sl
attribute [local irreducible] aN fL cL bM aL aR aA dJ dK aU dI pt ro fC star sep bF
variable {R C:List HP} {K:KP} {r x p n c:Nat} {A:Option Addr} {cap most gr got us mr room ask open_ a1 t1 d1 v kd:Int} {bs:List UInt8} {l:List ByteArray} {en:Bool}
structure RA where
 k:Int
 m:Int
 s:ByteArray
 w:Int
 st:Int
 it:Int
section
variable {k m w st it:Int} {s:ByteArray}
end
section
variable {ls:List RA} {w st it:Int}
end
end Go.Proofs.YtepnmcipkangkaaGreat
section
namespace Go.Proofs.YtepnmcipkangkaaGreat
open Go Go.Proofs Go.Sl
attribute [local irreducible] aN fL cL bM aL aR aA dJ dK aU dI pt ro fC star sep bF
variable {R C:List HP} {K:KP}
theorem RU (hK:K (.agg #[I6 1,I6 1,I6 (-1),I6 (-1),I6 (-1),I6 (-1),I6 (-1),I6 (-1),I6 2,I6 3,I6 4,I6 4,I6 (-1),I6 (-1),I6 (-1),I6 4,I6 4,I6 4,I6 (-1),I6 (-1),I6 4,I6 (-1),I6 4,I6 4,I6 (-1),I6 (-1),I6 (-1),I6 (-1),I6 (-1),I6 (-1)]) R):CT 429 #[] R K:=by
 refine aH Tryz.func429 ?_
 repeat' (first|refine v5 ?_|refine w5 ?_ ?_|((refine bh fun h=>?_) <;> try exact w6 h)|(refine aE fun hA=>?_;subst hA)|intro _)
 (refine aC ?_;exact aB (hK))
def y6 (s e:Int):Int:=([1,1,-1,-1,-1,-1,-1,-1,2,3,4,4,-1,-1,-1,4,4,4,-1,-1,4,-1,4,4,-1,-1,-1,-1,-1,-1]:List Int).getD (s.toNat * 6+e.toNat) (-1)
def Df:List (Nat×Nat):= [(0,1),(1,1),(2,0),(3,1),(4,0),(5,0)]
theorem Lr {r2 r3:Nat} {s e:Int} (hs:s=0\/s=1\/s=2\/s=3\/s=4) (he:e=0\/e=1\/e=2\/e=3\/e=4\/e=5) (hK:K (I6 (y6 s e)) (pt r2 [I6 s] 3::pt r3 [I6 e] 3::R)):CT 428 #[PO r2,PO r3] (pt r2 [I6 s] 3::pt r3 [I6 e] 3::R) K:=by
 rcases hs with rfl|rfl|rfl|rfl|rfl <;> rcases he with rfl|rfl|rfl|rfl|rfl|rfl
 all_goals
  refine aH Tryz.func428 ?_
  repeat' (first|refine v25 ?_|refine dw Df ?_|refine w5 ?_ ?_|((refine bh fun h=>?_) <;> try exact w6 h)|(refine aE fun hA=>?_;subst hA)|intro _|(show aA _ 429 _ _ _;refine CA (h:=RU ?_))|(show aN _ _ _ _ _ _ _;refine S4 ?_))
  (refine aC ?_;exact aB (hK))
end Go.Proofs.YtepnmcipkangkaaGreat
namespace Go.Proofs.YtepnmcipkangkaaGreat
open Go Go.Proofs Go.Sl
attribute [local irreducible] aN fL cL bM aL aR aA dJ dK aU dI pt ro fC star sep bF
variable {R C:List HP} {K:KP} {s e v:Int} {p:Nat}
theorem XF (hs:0<=s/\s<=4) (he:0<=e/\e<=5) (hv:y6 s e=-1) (hK:K (.tuple #[I6 0,I6 11]) R):CT 364 #[I6 s,I6 e] R K:=by
 refine aH Tryz.func364 ?_
 repeat' (first|refine v26 ?_|refine w5 ?_ ?_|((refine bh fun h=>?_) <;> try exact w6 h)|(refine aE fun hA=>?_;subst hA)|intro _|(show aA _ 428 _ _ _;refine CA (h:=Lr (by omega) (by omega) ?_)))
 all_goals(refine aC ?_;exact aB (hK))
theorem Aai (hs:0<=s/\s<=4) (he:0<=e/\e<=5) (hv:y6 s e≠-1) (hK:K (.tuple #[I6 (y6 s e),I6 0]) R):CT 364 #[I6 s,I6 e] R K:=by
 refine aH Tryz.func364 ?_
 repeat' (first|refine v26 ?_|refine w5 ?_ ?_|((refine bh fun h=>?_) <;> try exact w6 h)|(refine aE fun hA=>?_;subst hA)|intro _|(show aA _ 428 _ _ _;refine CA (h:=Lr (by omega) (by omega) ?_)))
 all_goals(refine aC ?_;exact aB (hK))
def qU (p:Nat) (s:Int):HP:=pt p [I6 s] 418
theorem Hz (hK:∀p,K (PO p) (qU p 0::R)):CT 257 #[] R K:=by
 refine aH Tryz.func257 ?_
 repeat' (first|refine v6 ?_|refine w5 ?_ ?_|((refine bh fun h=>?_) <;> try exact w6 h)|(refine aE fun hA=>?_;subst hA)|intro _)
 (refine aC ?_;exact aB (hK _))
theorem Uy (hs:0<=s/\s<=4) (he:0<=e/\e<=5) (hv:y6 s e=-1) (hK:K (I6 11) (qU p s::R)):CT 258 #[PO p,I6 e] (qU p s::R) K:=by
 unfold qU at *
 refine aH Tryz.func258 ?_
 repeat' (first|refine GF ?_|refine w5 ?_ ?_|((refine bh fun h=>?_) <;> try exact w6 h)|(refine aE fun hA=>?_;subst hA)|intro _|(show aA _ 364 _ _ _;refine CA (h:=XF hs he hv ?_)))
 (refine aC ?_;exact aB (hK))
theorem mE (hs:0<=s/\s<=4) (he:0<=e/\e<=5) (hv:y6 s e=v) (h1:v≠-1) (hK:K (I6 0) (qU p v::R)):CT 258 #[PO p,I6 e] (qU p s::R) K:=by
 subst hv
 unfold qU at *
 refine aH Tryz.func258 ?_
 repeat' (first|refine GF ?_|refine w5 ?_ ?_|((refine bh fun h=>?_) <;> try exact w6 h)|(refine aE fun hA=>?_;subst hA)|intro _|(show aA _ 364 _ _ _;refine CA (h:=Aai hs he h1 ?_)))
 (refine aC ?_;exact aB (hK))
theorem Gd (hK:K (I6 s) (qU p s::R)):CT 266 #[PO p] (qU p s::R) K:=by
 unfold qU at *
 refine aH Tryz.func266 ?_
 repeat' (first|refine v4 ?_|refine w5 ?_ ?_|((refine bh fun h=>?_) <;> try exact w6 h)|(refine aE fun hA=>?_;subst hA)|intro _)
 (refine aC ?_;exact aB (hK))
theorem p6 (hK:K (.bool (decide (s=1\/s=3))) (qU p s::R)):CT 180 #[PO p] (qU p s::R) K:=by
 refine aH Tryz.func180 ?_
 repeat' (first|refine v3 ?_|refine w5 ?_ ?_|((refine bh fun h=>?_) <;> try exact w6 h)|(refine aE fun hA=>?_;subst hA)|intro _|(show aA _ 266 _ _ _;refine CA (h:=Gd ?_)))
 all_goals(refine aC ?_;exact aB (kb hK (by simp <;> omega)))
theorem eR (hK:K (.bool (decide (s=1\/s=2))) (qU p s::R)):CT 186 #[PO p] (qU p s::R) K:=by
 refine aH Tryz.func186 ?_
 repeat' (first|refine v3 ?_|refine w5 ?_ ?_|((refine bh fun h=>?_) <;> try exact w6 h)|(refine aE fun hA=>?_;subst hA)|intro _|(show aA _ 266 _ _ _;refine CA (h:=Gd ?_)))
 all_goals(refine aC ?_;exact aB (kb hK (by simp <;> omega)))
theorem D6 (hK:K (.bool (s == 4)) (qU p s::R)):CT 348 #[PO p] (qU p s::R) K:=by
 refine aH Tryz.func348 ?_
 repeat' (first|refine v3 ?_|refine w5 ?_ ?_|((refine bh fun h=>?_) <;> try exact w6 h)|(refine aE fun hA=>?_;subst hA)|intro _|(show aA _ 266 _ _ _;refine CA (h:=Gd ?_)))
 all_goals(refine aC ?_;exact aB (kb hK (by simp <;> omega)))
end Go.Proofs.YtepnmcipkangkaaGreat
end
namespace Go.Proofs.YtepnmcipkangkaaGreat
open Go Go.Proofs Go.Sl
attribute [local irreducible] aN fL cL bM aL aR aA dJ dK aU dI pt ro fC star sep bF
variable {R C:List HP} {K:KP} {s li r cap pn pc:Nat} {id sta ac se dr n rcap most gr got us st k on w c la it sb si stg ev wa stl m:Int} {own en ou ren b x:Bool} {bs rb:List UInt8} {d:ByteArray} {pa:Option Addr} {l:List ByteArray}
section
variable {t:Nat}
theorem Aab (hK:K (I6 (if sta=1\/sta=3 then 0 else 14)) (pt s [PO li,PO t,PO r,I6 id,.bool own] 223::qU li sta::R)):CT 237 #[PO s] (pt s [PO li,PO t,PO r,I6 id,.bool own] 223::qU li sta::R) K:=by
 by_cases h:sta=1\/sta=3
 ·rw[if_pos h] at hK
  have hd:decide (sta=1\/sta=3)=true:=decide_eq_true h
  refine aH Tryz.func237 ?_
  repeat' (first|(show cL _ _ _;rw[hd])|refine J5 ?_|refine w5 ?_ ?_|((refine bh fun h=>?_) <;> try exact w6 h)|(refine aE fun hA=>?_;subst hA)|intro _|(show aA _ 180 _ _ _;refine CA (h:=p6 ?_)))
  (refine aC ?_;exact aB (hK))
 ·rw[if_neg h] at hK
  have hd:decide (sta=1\/sta=3)=false:=decide_eq_false h
  refine aH Tryz.func237 ?_
  repeat' (first|(show cL _ _ _;rw[hd])|refine J5 ?_|refine w5 ?_ ?_|((refine bh fun h=>?_) <;> try exact w6 h)|(refine aE fun hA=>?_;subst hA)|intro _|(show aA _ 180 _ _ _;refine CA (h:=p6 ?_)))
  (refine aC ?_;exact aB (hK))
theorem Oj (hK:K (PO t) (pt s [PO li,PO t,PO r,I6 id,.bool own] 223::R)):CT 42 #[PO s] (pt s [PO li,PO t,PO r,I6 id,.bool own] 223::R) K:=by
 refine aH Tryz.func42 ?_
 repeat' (first|refine v4 ?_|refine w5 ?_ ?_|((refine bh fun h=>?_) <;> try exact w6 h)|(refine aE fun hA=>?_;subst hA)|intro _)
 (refine aC ?_;exact aB (hK))
theorem Adu (hK:K (PO r) (pt s [PO li,PO t,PO r,I6 id,.bool own] 223::R)):CT 63 #[PO s] (pt s [PO li,PO t,PO r,I6 id,.bool own] 223::R) K:=by
 refine aH Tryz.func63 ?_
 repeat' (first|refine v4 ?_|refine w5 ?_ ?_|((refine bh fun h=>?_) <;> try exact w6 h)|(refine aE fun hA=>?_;subst hA)|intro _)
 (refine aC ?_;exact aB (hK))
theorem Amu (hK:K (I6 id) (pt s [PO li,PO t,PO r,I6 id,.bool own] 223::R)):CT 244 #[PO s] (pt s [PO li,PO t,PO r,I6 id,.bool own] 223::R) K:=by
 refine aH Tryz.func244 ?_
 repeat' (first|refine v4 ?_|refine w5 ?_ ?_|((refine bh fun h=>?_) <;> try exact w6 h)|(refine aE fun hA=>?_;subst hA)|intro _)
 (refine aC ?_;exact aB (hK))
theorem Aks (hK:K (.bool own) (pt s [PO li,PO t,PO r,I6 id,.bool own] 223::R)):CT 156 #[PO s] (pt s [PO li,PO t,PO r,I6 id,.bool own] 223::R) K:=by
 refine aH Tryz.func156 ?_
 repeat' (first|refine v16 ?_|refine w5 ?_ ?_|((refine bh fun h=>?_) <;> try exact w6 h)|(refine aE fun hA=>?_;subst hA)|intro _)
 (refine aC ?_;exact aB (hK))
end
section
variable {t:Nat} {e:Int}
theorem Gl (hK:K (I6 1) (pt s [PO li,PO t,PO r,I6 id,.bool own] 223::zF t cap bs en ou ac se dr::R)):CT 70 #[PO s] (pt s [PO li,PO t,PO r,I6 id,.bool own] 223::zF t cap bs en ou ac se dr::R) K:=by
 refine aH Tryz.func70 ?_
 repeat' (first|refine v0 ?_|refine w5 ?_ ?_|((refine bh fun h=>?_) <;> try exact w6 h)|(refine aE fun hA=>?_;subst hA)|intro _|(show aA _ 42 _ _ _;refine CA (h:=Oj ?_))|(show aA _ 160 _ _ _;refine CA (h:=TN ?_)))
 (refine aC ?_;exact aB (hK))
theorem sG (hK:K (I6 0) (pt s [PO li,PO t,PO r,I6 id,.bool own] 223::zF t cap bs en ou ac se dr::R)):CT 284 #[PO s] (pt s [PO li,PO t,PO r,I6 id,.bool own] 223::zF t cap bs en ou ac se dr::R) K:=by
 refine aH Tryz.func284 ?_
 repeat' (first|refine v3 ?_|refine w5 ?_ ?_|((refine bh fun h=>?_) <;> try exact w6 h)|(refine aE fun hA=>?_;subst hA)|intro _|(show aA _ 70 _ _ _;refine CA (h:=Gl ?_)))
 (refine aC ?_;exact aB (hK))
theorem u5 {v:Int} (hv:(if sta=1\/sta=3 then 0 else 14)=v) (hK:K (I6 v) (pt s [PO li,PO t,PO r,I6 id,.bool own] 223::qU li sta::R)):CT 237 #[PO s] (pt s [PO li,PO t,PO r,I6 id,.bool own] 223::qU li sta::R) K:=by
 subst hv;exact Aab hK
def Ki (sta:Int) (b:Bool):Int:=if b=true then(if sta=1 then 2 else 4) else sta
end
section
variable {t:Int} {e:Bool}
end
theorem OO (hid:1<=id/\id<=2147483647) (hcap:cap<=4096) (hs:sD w st it=true) (hK:∀s li t r,K (.tuple #[PO s,I6 0]) (pt s [PO li,PO t,PO r,I6 id,.bool own] 223::qU li 1::zF t cap [] false false 0 0 0::xN r w w w 0 0 [] false::R)):CT 166 #[I6 id,I6 1,.bool own,.agg #[I6 w,I6 st,I6 it,I6 cap,I6 si,I6 stg,I6 ev,I6 wa,I6 stl]] R K:=by
 cases own
 ·refine aH Tryz.func166 ?_
  repeat' (first|refine AB ?_|refine w5 ?_ ?_|((refine bh fun h=>?_) <;> try exact w6 h)|(refine aE fun hA=>?_;subst hA)|intro _|(show aA _ 255 _ _ _;refine CA (h:=L2 hcap (fun t=>?_)))|(show aA _ 256 _ _ _;refine CA (h:=KO hs (fun r=>?_)))|(show aA _ 257 _ _ _;refine CA (h:=Hz (fun li=>?_)))|(show aA _ 258 _ _ _;refine CA (h:=mE (v:=1) (by omega) (by omega) rfl (by omega) ?_)))
  (refine aC ?_;exact aB (hK _ _ _ _))
 ·refine aH Tryz.func166 ?_
  repeat' (first|refine AB ?_|refine w5 ?_ ?_|((refine bh fun h=>?_) <;> try exact w6 h)|(refine aE fun hA=>?_;subst hA)|intro _|(show aA _ 255 _ _ _;refine CA (h:=L2 hcap (fun t=>?_)))|(show aA _ 256 _ _ _;refine CA (h:=KO hs (fun r=>?_)))|(show aA _ 257 _ _ _;refine CA (h:=Hz (fun li=>?_)))|(show aA _ 258 _ _ _;refine CA (h:=mE (v:=1) (by omega) (by omega) rfl (by omega) ?_)))
  (refine aC ?_;exact aB (hK _ _ _ _))
section
variable {t:Int} {e:Bool}
end
section
variable {t:Nat}
theorem XP (hb:(decide (sta=4) && decide (rb= []))=b) (hK:K (.bool b) (pt s [PO li,PO t,PO r,I6 id,.bool own] 223::qU li sta::xN r rcap most gr got us rb ren::R)):CT 242 #[PO s] (pt s [PO li,PO t,PO r,I6 id,.bool own] 223::qU li sta::xN r rcap most gr got us rb ren::R) K:=by
 subst hb
 by_cases h:sta=4
 ·have hd:(sta == 4)=true:=by simpa using h
  refine aH Tryz.func242 ?_
  repeat' (first|(show cL _ _ _;rw[hd])|refine J5 ?_|refine w5 ?_ ?_|((refine bh fun h=>?_) <;> try exact w6 h)|(refine aE fun hA=>?_;subst hA)|intro _|(show aA _ 348 _ _ _;refine CA (h:=D6 ?_))|(show aA _ 64 _ _ _;refine CA (h:=vX ?_)))
  all_goals(refine aC ?_;exact aB (kb hK (by cases rb <;> simp[h] <;> omega)))
 ·have hd:(sta == 4)=false:=by simpa using h
  refine aH Tryz.func242 ?_
  repeat' (first|(show cL _ _ _;rw[hd])|refine J5 ?_|refine w5 ?_ ?_|((refine bh fun h=>?_) <;> try exact w6 h)|(refine aE fun hA=>?_;subst hA)|intro _|(show aA _ 348 _ _ _;refine CA (h:=D6 ?_))|(show aA _ 64 _ _ _;refine CA (h:=vX ?_)))
  all_goals(refine aC ?_;exact aB (kb hK (by simp[h])))
end
section
variable {t:Int} {e:Bool}
end
theorem RG (hid:1<=id/\id<=2147483647) (hcap:cap<=64) (hst:0<=stg/\stg<=2) (hs:sD w st it=true) (hK:∀s li t r,K (.tuple #[PO s,I6 0]) (pt s [PO li,PO t,PO r,I6 id,.bool own] 223::qU li 1::rV t cap stg [] 0 false false 0 0 0::uB r it it 0 0 [] 0 0 0 false::R)):CT 166 #[I6 id,I6 2,.bool own,.agg #[I6 w,I6 st,I6 it,I6 sb,I6 cap,I6 stg,I6 ev,I6 wa,I6 stl]] R K:=by
 cases own
 ·refine aH Tryz.func166 ?_
  repeat' (first|refine AB ?_|refine w5 ?_ ?_|((refine bh fun h=>?_) <;> try exact w6 h)|(refine aE fun hA=>?_;subst hA)|intro _|(show aA _ 255 _ _ _;refine CA (h:=LS hcap hst (fun t=>?_)))|(show aA _ 256 _ _ _;refine CA (h:=KH hs (fun r=>?_)))|(show aA _ 257 _ _ _;refine CA (h:=Hz (fun li=>?_)))|(show aA _ 258 _ _ _;refine CA (h:=mE (v:=1) (by omega) (by omega) rfl (by omega) ?_)))
  (refine aC ?_;exact aB (hK _ _ _ _))
 ·refine aH Tryz.func166 ?_
  repeat' (first|refine AB ?_|refine w5 ?_ ?_|((refine bh fun h=>?_) <;> try exact w6 h)|(refine aE fun hA=>?_;subst hA)|intro _|(show aA _ 255 _ _ _;refine CA (h:=LS hcap hst (fun t=>?_)))|(show aA _ 256 _ _ _;refine CA (h:=KH hs (fun r=>?_)))|(show aA _ 257 _ _ _;refine CA (h:=Hz (fun li=>?_)))|(show aA _ 258 _ _ _;refine CA (h:=mE (v:=1) (by omega) (by omega) rfl (by omega) ?_)))
  (refine aC ?_;exact aB (hK _ _ _ _))
section
variable {t:Nat}
theorem Gf (hK:K (I6 2) (pt s [PO li,PO t,PO r,I6 id,.bool own] 223::rV t cap st l w en ou ac se dr::R)):CT 70 #[PO s] (pt s [PO li,PO t,PO r,I6 id,.bool own] 223::rV t cap st l w en ou ac se dr::R) K:=by
 refine aH Tryz.func70 ?_
 repeat' (first|refine v0 ?_|refine w5 ?_ ?_|((refine bh fun h=>?_) <;> try exact w6 h)|(refine aE fun hA=>?_;subst hA)|intro _|(show aA _ 42 _ _ _;refine CA (h:=Oj ?_))|(show aA _ 160 _ _ _;refine CA (h:=Uj ?_)))
 (refine aC ?_;exact aB (hK))
end
end Go.Proofs.YtepnmcipkangkaaGreat
