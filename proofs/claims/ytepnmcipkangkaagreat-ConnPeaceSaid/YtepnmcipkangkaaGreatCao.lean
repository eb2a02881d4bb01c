/- A part of the proof: lemmas; each with the conditions that it states. -/
import Derived.Test.YtepnmcipkangkaaGreatCar
import Derived.Test.YtepnmcipkangkaaGreatCak
set_option linter.unusedVariables false
set_option linter.unusedSimpArgs false
set_option maxRecDepth 100000
set_option maxHeartbeats 40000000
namespace Go.Proofs.YtepnmcipkangkaaGreat
open Go Go.Proofs Go.Sl
attribute [local irreducible] aN fL cL bM aL aR aA dJ dK aU dI pt ro fC star sep bF
attribute [local irreducible] mp DG
variable {R C:List HP} {K:KP} {w st it sb si stg ev wa stl:Int}
theorem Ag3 (hsi:0<=si/\si<=64) (hsg:0<=stg/\stg<=2) (hcs:sD w st it=true) (hsb:0<=sb/\sb<=4096) (hK:K (I6 0) R):CT 92 #[.agg #[I6 w,I6 st,I6 it,I6 sb,I6 si,I6 stg,I6 ev,I6 wa,I6 stl]] R K:=by
 obtain⟨si,rfl⟩:=Int.eq_ofNat_of_zero_le hsi.1
 obtain⟨sb,rfl⟩:=Int.eq_ofNat_of_zero_le hsb.1
 refine aH Tryz.func92 ?_
 repeat' (first|refine v60 ?_|refine w5 ?_ ?_|((refine bh fun h=>?_) <;> try exact w6 h)|(refine aE fun hA=>?_;subst hA)|intro _)
 rename_i c l
 refine jA (fun kk a C'=>∃j:Nat,j+kk=2/\j<=2/\dH a [(1,PO c),(7,.slice (some ⟨l,0,none⟩) 2 2),(8,I6 2),(9,I6 j)]/\C'=pt l [I6 2,I6 1] 3::pt c [I6 w,I6 st,I6 it,I6 sb,I6 si,I6 stg,I6 ev,I6 wa,I6 stl] 25::R) 2 (cJ 2 ⟨0,by omega,by omega,⟨rfl,rfl,rfl,rfl,trivial⟩,rfl⟩ (by omega)) ?_
 rintro kk a C' ⟨j,hj,hj2,ha,rfl⟩
 refine i6 _ ha ?_
 simp only[gJ]
 rcases(show j=0\/j=1\/j=2 by omega) with rfl|rfl|rfl
 ·repeat' (first|refine v60 ?_|refine w5 ?_ ?_|((refine bh fun h=>?_) <;> try exact w6 h)|(refine aE fun hA=>?_;subst hA)|intro _|(show aA _ 166 _ _ _;refine CA (h:=RG (by decide) (by omega) hsg hcs (fun _ _ _ _=>?_))))
  all_goals(show aU _ _ _ _;exact cJ (kk - 1) ⟨1,by omega,by omega,⟨rfl,rfl,rfl,rfl,trivial⟩,rfl⟩)
 ·repeat' (first|refine v60 ?_|refine w5 ?_ ?_|((refine bh fun h=>?_) <;> try exact w6 h)|(refine aE fun hA=>?_;subst hA)|intro _|(show aA _ 166 _ _ _;refine CA (h:=OO (by decide) (by omega) hcs (fun _ _ _ _=>?_))))
  all_goals(show aU _ _ _ _;exact cJ (kk - 1) ⟨2,by omega,by omega,⟨rfl,rfl,rfl,rfl,trivial⟩,rfl⟩)
 ·repeat' (first|refine v60 ?_|refine w5 ?_ ?_|((refine bh fun h=>?_) <;> try exact w6 h)|(refine aE fun hA=>?_;subst hA)|intro _)
  all_goals(refine aC ?_;exact aB (hK))
end Go.Proofs.YtepnmcipkangkaaGreat
namespace Go.Proofs.YtepnmcipkangkaaGreat
open Go Go.Proofs Go.Sl
attribute [local irreducible] aN fL cL bM aL aR aA dJ dK aU dI pt ro fC star sep bF
variable {R C:List HP} {K:KP} {id a b:Int} {r:Nat}
structure dR where
 w:Int
 st:Int
 it:Int
def Agf:List Value->Option dR
 | [.int .i64 w,.int .i64 st,.int .i64 it]=>some ⟨w,st,it⟩
 |_=>none
theorem Adv (cs:List Value) (y:dR) (h:Agf cs=some y): [I6 y.w,I6 y.st,I6 y.it]=cs:=by
 unfold Agf at h
 split at h
 ·cases h;rfl
 ·cases h
def GD:u6 dR:= { enc:=fun p=> [I6 p.w,I6 p.st,I6 p.it],sz:=3,dec:=Agf,len:=fun _=>rfl,one:=fun _=>rfl,ok:=Adv }
def J6 (id a b:Int) (ps:List Pr):List Pr:=if a=b then ps else ps++ [⟨id,b⟩]
theorem VQ (id a b:Int) (ps:List Pr):(J6 id a b ps).length<=ps.length+1:=by
 unfold J6;split <;> simp
theorem K5 {n c:Nat} {A:Option Addr} {ps:List Pr} (hn:ps.length=n) (hl:n<=10) (hK:∀A' c',K (.tuple #[]) (pt r [.slice A' (J6 id a b ps).length c'] 173::bT A' c' 349 tX (J6 id a b ps)::R)):CT 261 #[I6 id,I6 a,I6 b,PO r] (pt r [.slice A n c] 173::bT A c 349 tX ps::R) K:=by
 subst hn
 unfold J6 at hK
 by_cases h:a=b
 ·simp only[if_pos h] at hK
  refine aH Tryz.func261 ?_
  repeat' (first|refine v36 ?_|refine w5 ?_ ?_|((refine bh fun h=>?_) <;> try exact w6 h)|(refine aE fun hA=>?_;subst hA)|intro _)
  all_goals(refine aC ?_;exact aB (hK _ _))
 ·simp only[if_neg h] at hK
  refine aH Tryz.func261 ?_
  repeat' (first|refine v36 ?_|refine w5 ?_ ?_|((refine bh fun h=>?_) <;> try exact w6 h)|(refine aE fun hA=>?_;subst hA)|intro _)
  all_goals(refine aC ?_;exact aB (hK _ _))
theorem YR (hK:∀A' c',K (.tuple #[]) (pt r [.slice A' (J6 id a b []).length c'] 173::bT A' c' 349 tX (J6 id a b [])::R)):CT 261 #[I6 id,I6 a,I6 b,PO r] (pt r [.slice none 0 0] 173::R) K:=
 aA.ent (aG.cons (aG.nilrow' (aG.refl _))) (K5 (ps:= []) rfl (by omega) hK)
section
variable {w st it:Int}
end
end Go.Proofs.YtepnmcipkangkaaGreat
namespace Go.Proofs.YtepnmcipkangkaaGreat
open Go Go.Proofs Go.Sl
attribute [local irreducible] aN fL cL bM aL aR aA dJ dK aU dI pt ro fC star sep bF
attribute [local irreducible] mp DG
variable {R C:List HP} {K:KP} {p n c:Nat} {a b t:dR} {A:Option Addr}
structure FA where
 h:dR
 g:dR
 l:List dR
def R6 (p:Nat) (s:FA):HP:=fC fun A=>fC fun c=>sep (pt p [I6 s.h.w,I6 s.h.st,I6 s.h.it,I6 s.g.w,I6 s.g.st,I6 s.g.it,.slice A s.l.length c] 266) (bT A c 23 GD s.l)
def nD (s:FA):dR:=match s.l.getLast? with
 |some x=>x
 |none=>s.h
def Ou (a b:dR):dR:=⟨max a.w b.w,max a.st b.st,max a.it b.it⟩
def CX (a b:dR):List Pr:=J6 3 a.it b.it (J6 2 a.st b.st (J6 1 a.w b.w []))
def iE (s:FA) (t:dR):Int:=if sD t.w t.st t.it=false then 3 else if 4<=s.l.length then 16 else 0
def eC (s:FA) (t:dR):FA:=if iE s t=0 then⟨s.h,Ou s.g t,s.l++ [t]⟩ else s
def zW (s:FA):Int:=if s.l= [] then 1 else 0
def dE (s:FA):FA:=match s.l with
 | []=>s
 |x::r=>⟨x,s.g,r⟩
section
variable {s:FA}
theorem Anq (hK:∀A c,K (.slice A (CX a b).length c) (bT A c 349 tX (CX a b)::R)):CT 171 #[.agg #[I6 a.w,I6 a.st,I6 a.it],.agg #[I6 b.w,I6 b.st,I6 b.it]] R K:=by
 obtain⟨aw,a2,ai⟩:=a
 obtain⟨bw,bs,bi⟩:=b
 simp only[CX] at hK ⊢
 by_cases h:aw=bw/\a2=bs/\ai=bi
 ·obtain⟨rfl,rfl,rfl⟩:=h
  have e:J6 3 ai ai (J6 2 a2 a2 (J6 1 aw aw []))= []:=by simp[J6]
  rw[e] at hK
  refine aH Tryz.func171 ?_
  repeat' (first|(show Br _ _ _;refine Br.t (by simp) ?_)|refine v47 ?_|refine w5 ?_ ?_|((refine bh fun h=>?_) <;> try exact w6 h)|(refine aE fun hA=>?_;subst hA)|intro _)
  all_goals(refine aC ?_;exact aB (hK none 0))
 ·have l1:=VQ 1 aw bw []
  have l2:=VQ 2 a2 bs (J6 1 aw bw [])
  rw[List.length_nil] at l1
  refine aH Tryz.func171 ?_
  repeat' (first|refine v47 ?_|refine w5 ?_ ?_|((refine bh fun h=>?_) <;> try exact w6 h)|(refine aE fun hA=>?_;subst hA)|intro _|(show aA _ 261 _ _ _;refine CA (h:=YR (fun _ _=>?_)))|(show aA _ 261 _ _ _;refine CA (h:=K5 rfl (by omega) (fun _ _=>?_))))
  all_goals(refine aC ?_;exact aB (hK _ _))
theorem Ju {h g:dR} (hK:K (I6 n) (pt p [I6 h.w,I6 h.st,I6 h.it,I6 g.w,I6 g.st,I6 g.it,.slice A n c] 266::R)):CT 262 #[PO p] (pt p [I6 h.w,I6 h.st,I6 h.it,I6 g.w,I6 g.st,I6 g.it,.slice A n c] 266::R) K:=by
 refine aH Tryz.func262 ?_
 repeat' (first|refine v4 ?_|refine w5 ?_ ?_|((refine bh fun h=>?_) <;> try exact w6 h)|(refine aE fun hA=>?_;subst hA)|intro _)
 all_goals(refine aC ?_;exact aB (hK))
theorem TJ {h g:dR} (hK:K (.agg #[I6 h.w,I6 h.st,I6 h.it]) (pt p [I6 h.w,I6 h.st,I6 h.it,I6 g.w,I6 g.st,I6 g.it,.slice A n c] 266::R)):CT 232 #[PO p] (pt p [I6 h.w,I6 h.st,I6 h.it,I6 g.w,I6 g.st,I6 g.it,.slice A n c] 266::R) K:=by
 refine aH Tryz.func232 ?_
 repeat' (first|refine v30 ?_|refine w5 ?_ ?_|((refine bh fun h=>?_) <;> try exact w6 h)|(refine aE fun hA=>?_;subst hA)|intro _)
 all_goals(refine aC ?_;exact aB (hK))
theorem zQ (hK:K (.agg #[I6 s.h.w,I6 s.h.st,I6 s.h.it]) (R6 p s::R)):CT 232 #[PO p] (R6 p s::R) K:=by
 unfold R6 at *
 repeat (first|refine aA.ex fun _=>?_|refine aA.sep ?_|refine aA.pure fun _=>?_)
 refine aH Tryz.func232 ?_
 repeat' (first|refine v30 ?_|refine w5 ?_ ?_|((refine bh fun h=>?_) <;> try exact w6 h)|(refine aE fun hA=>?_;subst hA)|intro _)
 all_goals(refine aC ?_;exact aB (hK))
end
end Go.Proofs.YtepnmcipkangkaaGreat
