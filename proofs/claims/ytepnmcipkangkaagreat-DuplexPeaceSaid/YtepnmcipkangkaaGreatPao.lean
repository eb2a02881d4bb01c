/- A part of the proof: lemmas; each with the conditions that it states. -/
import Derived.Test.YtepnmcipkangkaaGreatPaq
import Derived.Test.YtepnmcipkangkaaGreatPaj
set_option linter.unusedVariables false
set_option linter.unusedSimpArgs false
set_option maxRecDepth 100000
set_option maxHeartbeats 40000000
namespace Go.Proofs.YtepnmcipkangkaaGreat
open Go Go.Proofs Go.Sl
attribute [local irreducible] aN fJ cY bN aM aS aA dM dN aV dL pt ro fB star sep bF
attribute [local irreducible] mp CV
variable {R C:List HP} {K:KP} {w st it sb si stg ev wa stl:Int}
theorem Alo (hsi:0<=si/\si<=64) (hsg:0<=stg/\stg<=2) (hcs:rT w st it=true) (hsb:0<=sb/\sb<=4096) (hK:K (I6 0) R):CT 92 #[.agg #[I6 w,I6 st,I6 it,I6 sb,I6 si,I6 stg,I6 ev,I6 wa,I6 stl]] R K:=by
 obtain⟨si,rfl⟩:=Int.eq_ofNat_of_zero_le hsi.1
 obtain⟨sb,rfl⟩:=Int.eq_ofNat_of_zero_le hsb.1
 refine aH Tryz.func92 ?_
 repeat' (first|refine v60 ?_|refine w5 ?_ ?_|((refine bh fun h=>?_) <;> try exact w6 h)|(refine aE fun hA=>?_;subst hA)|intro _)
 rename_i c l
 refine jG (fun kk a C'=>∃j:Nat,j+kk=2/\j<=2/\dP a [(1,PO c),(7,.slice (some ⟨l,0,none⟩) 2 2),(8,I6 2),(9,I6 j)]/\C'=pt l [I6 2,I6 1] 3::pt c [I6 w,I6 st,I6 it,I6 sb,I6 si,I6 stg,I6 ev,I6 wa,I6 stl] 25::R) 2 (cN 2 ⟨0,by omega,by omega,⟨rfl,rfl,rfl,rfl,trivial⟩,rfl⟩ (by omega)) ?_
 rintro kk a C' ⟨j,hj,hj2,ha,rfl⟩
 refine iT _ ha ?_
 simp only[gH]
 rcases(show j=0\/j=1\/j=2 by omega) with rfl|rfl|rfl
 ·repeat' (first|refine v60 ?_|refine w5 ?_ ?_|((refine bh fun h=>?_) <;> try exact w6 h)|(refine aE fun hA=>?_;subst hA)|intro _|(show aA _ 166 _ _ _;refine CA (h:=RV (by decide) (by omega) hsg hcs (fun _ _ _ _=>?_))))
  all_goals(show aV _ _ _ _;exact cN (kk - 1) ⟨1,by omega,by omega,⟨rfl,rfl,rfl,rfl,trivial⟩,rfl⟩)
 ·repeat' (first|refine v60 ?_|refine w5 ?_ ?_|((refine bh fun h=>?_) <;> try exact w6 h)|(refine aE fun hA=>?_;subst hA)|intro _|(show aA _ 166 _ _ _;refine CA (h:=Rw (by decide) (by omega) hcs (fun _ _ _ _=>?_))))
  all_goals(show aV _ _ _ _;exact cN (kk - 1) ⟨2,by omega,by omega,⟨rfl,rfl,rfl,rfl,trivial⟩,rfl⟩)
 ·repeat' (first|refine v60 ?_|refine w5 ?_ ?_|((refine bh fun h=>?_) <;> try exact w6 h)|(refine aE fun hA=>?_;subst hA)|intro _)
  all_goals(refine aC ?_;exact aB (hK))
end Go.Proofs.YtepnmcipkangkaaGreat
namespace Go.Proofs.YtepnmcipkangkaaGreat
open Go Go.Proofs Go.Sl
attribute [local irreducible] aN fJ cY bN aM aS aA dM dN aV dL pt ro fB star sep bF
variable {R C:List HP} {K:KP} {id a b:Int} {r:Nat}
structure dZ where
 w:Int
 st:Int
 it:Int
def Afj:List Value->Option dZ
 | [.int .i64 w,.int .i64 st,.int .i64 it]=>some ⟨w,st,it⟩
 |_=>none
theorem Aex (cs:List Value) (y:dZ) (h:Afj cs=some y): [I6 y.w,I6 y.st,I6 y.it]=cs:=by
 unfold Afj at h
 split at h
 ·cases h;rfl
 ·cases h
def Hg:u5 dZ:= { enc:=fun p=> [I6 p.w,I6 p.st,I6 p.it],sz:=3,dec:=Afj,len:=fun _=>rfl,one:=fun _=>rfl,ok:=Aex }
def Kw (id a b:Int) (ps:List Pr):List Pr:=if a=b then ps else ps++ [⟨id,b⟩]
theorem Xb (id a b:Int) (ps:List Pr):(Kw id a b ps).length<=ps.length+1:=by
 unfold Kw;split <;> simp
theorem LQ {n c:Nat} {A:Option Addr} {ps:List Pr} (hn:ps.length=n) (hl:n<=10) (hK:∀A' c',K (.tuple #[]) (pt r [.slice A' (Kw id a b ps).length c'] 173::bV A' c' 349 tI (Kw id a b ps)::R)):CT 261 #[I6 id,I6 a,I6 b,PO r] (pt r [.slice A n c] 173::bV A c 349 tI ps::R) K:=by
 subst hn
 unfold Kw at hK
 by_cases h:a=b
 ·simp only[if_pos h] at hK
  refine aH Tryz.func261 ?_
  repeat' (first|refine v36 ?_|refine w5 ?_ ?_|((refine bh fun h=>?_) <;> try exact w6 h)|(refine aE fun hA=>?_;subst hA)|intro _)
  all_goals(refine aC ?_;exact aB (hK _ _))
 ·simp only[if_neg h] at hK
  refine aH Tryz.func261 ?_
  repeat' (first|refine v36 ?_|refine w5 ?_ ?_|((refine bh fun h=>?_) <;> try exact w6 h)|(refine aE fun hA=>?_;subst hA)|intro _)
  all_goals(refine aC ?_;exact aB (hK _ _))
theorem YH (hK:∀A' c',K (.tuple #[]) (pt r [.slice A' (Kw id a b []).length c'] 173::bV A' c' 349 tI (Kw id a b [])::R)):CT 261 #[I6 id,I6 a,I6 b,PO r] (pt r [.slice none 0 0] 173::R) K:=
 aA.ent (aG.cons (aG.nilrow' (aG.refl _))) (LQ (ps:= []) rfl (by omega) hK)
section
variable {w st it:Int}
end
end Go.Proofs.YtepnmcipkangkaaGreat
namespace Go.Proofs.YtepnmcipkangkaaGreat
open Go Go.Proofs Go.Sl
attribute [local irreducible] aN fJ cY bN aM aS aA dM dN aV dL pt ro fB star sep bF
attribute [local irreducible] mp CV
variable {R C:List HP} {K:KP} {p n c:Nat} {a b t:dZ} {A:Option Addr}
structure Gm where
 h:dZ
 g:dZ
 l:List dZ
def Wg (p:Nat) (s:Gm):HP:=fB fun A=>fB fun c=>sep (pt p [I6 s.h.w,I6 s.h.st,I6 s.h.it,I6 s.g.w,I6 s.g.st,I6 s.g.it,.slice A s.l.length c] 266) (bV A c 23 Hg s.l)
def mK (s:Gm):dZ:=match s.l.getLast? with
 |some x=>x
 |none=>s.h
def MZ (a b:dZ):dZ:=⟨max a.w b.w,max a.st b.st,max a.it b.it⟩
def Ds (a b:dZ):List Pr:=Kw 3 a.it b.it (Kw 2 a.st b.st (Kw 1 a.w b.w []))
def g8 (s:Gm) (t:dZ):Int:=if rT t.w t.st t.it=false then 3 else if 4<=s.l.length then 16 else 0
def eB (s:Gm) (t:dZ):Gm:=if g8 s t=0 then⟨s.h,MZ s.g t,s.l++ [t]⟩ else s
def Ak (s:Gm):Int:=if s.l= [] then 1 else 0
def dG (s:Gm):Gm:=match s.l with
 | []=>s
 |x::r=>⟨x,s.g,r⟩
section
variable {s:Gm}
theorem Amo (hK:∀A c,K (.slice A (Ds a b).length c) (bV A c 349 tI (Ds a b)::R)):CT 171 #[.agg #[I6 a.w,I6 a.st,I6 a.it],.agg #[I6 b.w,I6 b.st,I6 b.it]] R K:=by
 obtain⟨aw,a2,ai⟩:=a
 obtain⟨bw,bs,bi⟩:=b
 simp only[Ds] at hK ⊢
 by_cases h:aw=bw/\a2=bs/\ai=bi
 ·obtain⟨rfl,rfl,rfl⟩:=h
  have e:Kw 3 ai ai (Kw 2 a2 a2 (Kw 1 aw aw []))= []:=by simp[Kw]
  rw[e] at hK
  refine aH Tryz.func171 ?_
  repeat' (first|(show Br _ _ _;refine Br.t (by simp) ?_)|refine v47 ?_|refine w5 ?_ ?_|((refine bh fun h=>?_) <;> try exact w6 h)|(refine aE fun hA=>?_;subst hA)|intro _)
  all_goals(refine aC ?_;exact aB (hK none 0))
 ·have l1:=Xb 1 aw bw []
  have l2:=Xb 2 a2 bs (Kw 1 aw bw [])
  rw[List.length_nil] at l1
  refine aH Tryz.func171 ?_
  repeat' (first|refine v47 ?_|refine w5 ?_ ?_|((refine bh fun h=>?_) <;> try exact w6 h)|(refine aE fun hA=>?_;subst hA)|intro _|(show aA _ 261 _ _ _;refine CA (h:=YH (fun _ _=>?_)))|(show aA _ 261 _ _ _;refine CA (h:=LQ rfl (by omega) (fun _ _=>?_))))
  all_goals(refine aC ?_;exact aB (hK _ _))
theorem Je {h g:dZ} (hK:K (I6 n) (pt p [I6 h.w,I6 h.st,I6 h.it,I6 g.w,I6 g.st,I6 g.it,.slice A n c] 266::R)):CT 262 #[PO p] (pt p [I6 h.w,I6 h.st,I6 h.it,I6 g.w,I6 g.st,I6 g.it,.slice A n c] 266::R) K:=by
 refine aH Tryz.func262 ?_
 repeat' (first|refine v4 ?_|refine w5 ?_ ?_|((refine bh fun h=>?_) <;> try exact w6 h)|(refine aE fun hA=>?_;subst hA)|intro _)
 all_goals(refine aC ?_;exact aB (hK))
theorem Ti {h g:dZ} (hK:K (.agg #[I6 h.w,I6 h.st,I6 h.it]) (pt p [I6 h.w,I6 h.st,I6 h.it,I6 g.w,I6 g.st,I6 g.it,.slice A n c] 266::R)):CT 232 #[PO p] (pt p [I6 h.w,I6 h.st,I6 h.it,I6 g.w,I6 g.st,I6 g.it,.slice A n c] 266::R) K:=by
 refine aH Tryz.func232 ?_
 repeat' (first|refine v30 ?_|refine w5 ?_ ?_|((refine bh fun h=>?_) <;> try exact w6 h)|(refine aE fun hA=>?_;subst hA)|intro _)
 all_goals(refine aC ?_;exact aB (hK))
theorem zJ (hK:K (.agg #[I6 s.h.w,I6 s.h.st,I6 s.h.it]) (Wg p s::R)):CT 232 #[PO p] (Wg p s::R) K:=by
 unfold Wg at *
 repeat (first|refine aA.ex fun _=>?_|refine aA.sep ?_|refine aA.pure fun _=>?_)
 refine aH Tryz.func232 ?_
 repeat' (first|refine v30 ?_|refine w5 ?_ ?_|((refine bh fun h=>?_) <;> try exact w6 h)|(refine aE fun hA=>?_;subst hA)|intro _)
 all_goals(refine aC ?_;exact aB (hK))
end
end Go.Proofs.YtepnmcipkangkaaGreat
