/- A part of the proof: lemmas; each with the conditions that it states. -/
import Derived.Test.YtifgibijcmppmaaGreatUaq
import Derived.Test.YtifgibijcmppmaaGreatUaj
set_option linter.unusedVariables false
set_option linter.unusedSimpArgs false
set_option maxRecDepth 100000
set_option maxHeartbeats 40000000
namespace Go.Proofs.YtifgibijcmppmaaGreat
open Go Go.Proofs Go.Sl
attribute [local irreducible] aN fN cX bP aM aX aA dS dV aT dU pt ro eV star sep bH
attribute [local irreducible] mp ED
section
variable {R C:List HP} {K:KP}
variable {w st it sb si stg ev wa stl:Int}
theorem Agt (hsi:0≤si∧si≤64) (hsg:0≤stg∧stg≤2) (hcs:rY w st it=true) (hsb:0≤sb∧sb≤4096) (hK:K (I6 0) R):CT 52 #[.agg #[I6 w,I6 st,I6 it,I6 sb,I6 si,I6 stg,I6 ev,I6 wa,I6 stl]] R K:=by
 obtain⟨si,rfl⟩:=Int.eq_ofNat_of_zero_le hsi.1
 obtain⟨sb,rfl⟩:=Int.eq_ofNat_of_zero_le hsb.1
 refine aH Tryz.func52 ?_
 repeat' (first|refine v60 ?_|refine w5 ?_ ?_|((refine bh fun h=>?_) <;> try exact w6 h)|(refine aE fun hA=>?_;subst hA)|intro _)
 rename_i c l
 refine fZ (fun kk a C'=>∃j:Nat,j+kk=2∧j≤2∧cJ a [(1,PO c),(7,.slice (some ⟨l,0,none⟩) 2 2),(8,I6 2),(9,I6 j)]∧C'=pt l [I6 2,I6 1] 3::pt c [I6 w,I6 st,I6 it,I6 sb,I6 si,I6 stg,I6 ev,I6 wa,I6 stl] 32::R) 2 (bV 2 ⟨0,by omega,by omega,⟨rfl,rfl,rfl,rfl,trivial⟩,rfl⟩ (by omega)) ?_
 rintro kk a C' ⟨j,hj,hj2,ha,rfl⟩
 refine fP _ ha ?_
 simp only[eP]
 rcases(show j=0∨j=1∨j=2 by omega) with rfl|rfl|rfl
 ·repeat' (first|refine v60 ?_|refine w5 ?_ ?_|((refine bh fun h=>?_) <;> try exact w6 h)|(refine aE fun hA=>?_;subst hA)|intro _|(show aA _ 139 _ _ _;refine CA (h:=Om (by decide) (by omega) hsg hcs (fun _ _ _ _=>?_))))
  all_goals(show aT _ _ _ _;exact bV (kk - 1) ⟨1,by omega,by omega,⟨rfl,rfl,rfl,rfl,trivial⟩,rfl⟩)
 ·repeat' (first|refine v60 ?_|refine w5 ?_ ?_|((refine bh fun h=>?_) <;> try exact w6 h)|(refine aE fun hA=>?_;subst hA)|intro _|(show aA _ 139 _ _ _;refine CA (h:=Ou (by decide) (by omega) hcs (fun _ _ _ _=>?_))))
  all_goals(show aT _ _ _ _;exact bV (kk - 1) ⟨2,by omega,by omega,⟨rfl,rfl,rfl,rfl,trivial⟩,rfl⟩)
 ·repeat' (first|refine v60 ?_|refine w5 ?_ ?_|((refine bh fun h=>?_) <;> try exact w6 h)|(refine aE fun hA=>?_;subst hA)|intro _)
  all_goals(refine aC ?_;exact aB (hK))
end
end Go.Proofs.YtifgibijcmppmaaGreat
namespace Go.Proofs.YtifgibijcmppmaaGreat
open Go Go.Proofs Go.Sl
attribute [local irreducible] aN fN cX bP aM aX aA dS dV aT dU pt ro eV star sep bH
section
variable {R C:List HP} {K:KP}
structure eJ where
 w:Int
 st:Int
 it:Int
def Abx:List Value→Option eJ
 | [.int .i64 w,.int .i64 st,.int .i64 it]=>some ⟨w,st,it⟩
 |_=>none
theorem Aa5 (cs:List Value) (y:eJ) (h:Abx cs=some y): [I6 y.w,I6 y.st,I6 y.it]=cs:=by
 unfold Abx at h
 split at h
 ·cases h;rfl
 ·cases h
def FV:tJ eJ:= { enc:=fun p=> [I6 p.w,I6 p.st,I6 p.it],sz:=3,dec:=Abx,len:=fun _=>rfl,one:=fun _=>rfl,ok:=Aa5 }
def KC (id a b:Int) (ps:List Pr):List Pr:=if a=b then ps else ps++ [⟨id,b⟩]
theorem Uc (id a b:Int) (ps:List Pr):(KC id a b ps).length≤ps.length+1:=by
 unfold KC;split <;> simp
theorem J8 {id a b:Int} {r n c:Nat} {A:Option Addr} {ps:List Pr} (hn:ps.length=n) (hl:n≤10) (hK:∀A' c',K (.tuple #[]) (pt r [.slice A' (KC id a b ps).length c'] 43::bQ A' c' 148 rE (KC id a b ps)::R)):CT 240 #[I6 id,I6 a,I6 b,PO r] (pt r [.slice A n c] 43::bQ A c 148 rE ps::R) K:=by
 subst hn
 unfold KC at hK
 by_cases h:a=b
 ·simp only[if_pos h] at hK
  refine aH Tryz.func240 ?_
  repeat' (first|refine v36 ?_|refine w5 ?_ ?_|((refine bh fun h=>?_) <;> try exact w6 h)|(refine aE fun hA=>?_;subst hA)|intro _)
  all_goals(refine aC ?_;exact aB (hK _ _))
 ·simp only[if_neg h] at hK
  refine aH Tryz.func240 ?_
  repeat' (first|refine v36 ?_|refine w5 ?_ ?_|((refine bh fun h=>?_) <;> try exact w6 h)|(refine aE fun hA=>?_;subst hA)|intro _)
  all_goals(refine aC ?_;exact aB (hK _ _))
theorem WM {id a b:Int} {r:Nat} (hK:∀A' c',K (.tuple #[]) (pt r [.slice A' (KC id a b []).length c'] 43::bQ A' c' 148 rE (KC id a b [])::R)):CT 240 #[I6 id,I6 a,I6 b,PO r] (pt r [.slice none 0 0] 43::R) K:=
 aA.ent (aG.cons (aG.nilrow' (aG.refl _))) (J8 (ps:= []) rfl (by omega) hK)
section
variable {w st it:Int}
end
end
end Go.Proofs.YtifgibijcmppmaaGreat
namespace Go.Proofs.YtifgibijcmppmaaGreat
open Go Go.Proofs Go.Sl
attribute [local irreducible] aN fN cX bP aM aX aA dS dV aT dU pt ro eV star sep bH
attribute [local irreducible] mp ED
section
variable {R C:List HP} {K:KP}
structure Gh where
 h:eJ
 g:eJ
 l:List eJ
def NR (p:Nat) (s:Gh):HP:=eV fun A=>eV fun c=>sep (pt p [I6 s.h.w,I6 s.h.st,I6 s.h.it,I6 s.g.w,I6 s.g.st,I6 s.g.it,.slice A s.l.length c] 207) (bQ A c 23 FV s.l)
def rU (s:Gh):eJ:=match s.l.getLast? with
 |some x=>x
 |none=>s.h
def M7 (a b:eJ):eJ:=⟨max a.w b.w,max a.st b.st,max a.it b.it⟩
def NE (a b:eJ):List Pr:=KC 3 a.it b.it (KC 2 a.st b.st (KC 1 a.w b.w []))
def iJ (s:Gh) (t:eJ):Int:=if rY t.w t.st t.it=false then 3 else if 4≤s.l.length then 16 else 0
def eF (s:Gh) (t:eJ):Gh:=if iJ s t=0 then⟨s.h,M7 s.g t,s.l++ [t]⟩ else s
def Ax (s:Gh):Int:=if s.l= [] then 1 else 0
def dD (s:Gh):Gh:=match s.l with
 | []=>s
 |x::r=>⟨x,s.g,r⟩
section
variable {p:Nat} {s:Gh} {a b t:eJ}
theorem Akd (hK:∀A c,K (.slice A (NE a b).length c) (bQ A c 148 rE (NE a b)::R)):CT 144 #[.agg #[I6 a.w,I6 a.st,I6 a.it],.agg #[I6 b.w,I6 b.st,I6 b.it]] R K:=by
 obtain⟨aw,a2,ai⟩:=a
 obtain⟨bw,bs,bi⟩:=b
 simp only[NE] at hK ⊢
 by_cases h:aw=bw∧a2=bs∧ai=bi
 ·obtain⟨rfl,rfl,rfl⟩:=h
  have e:KC 3 ai ai (KC 2 a2 a2 (KC 1 aw aw []))= []:=by simp[KC]
  rw[e] at hK
  refine aH Tryz.func144 ?_
  repeat' (first|(show Br _ _ _;refine Br.t (by simp) ?_)|refine v47 ?_|refine w5 ?_ ?_|((refine bh fun h=>?_) <;> try exact w6 h)|(refine aE fun hA=>?_;subst hA)|intro _)
  all_goals(refine aC ?_;exact aB (hK none 0))
 ·have l1:=Uc 1 aw bw []
  have l2:=Uc 2 a2 bs (KC 1 aw bw [])
  rw[List.length_nil] at l1
  refine aH Tryz.func144 ?_
  repeat' (first|refine v47 ?_|refine w5 ?_ ?_|((refine bh fun h=>?_) <;> try exact w6 h)|(refine aE fun hA=>?_;subst hA)|intro _|(show aA _ 240 _ _ _;refine CA (h:=WM (fun _ _=>?_)))|(show aA _ 240 _ _ _;refine CA (h:=J8 rfl (by omega) (fun _ _=>?_))))
  all_goals(refine aC ?_;exact aB (hK _ _))
theorem HV {h g:eJ} {A:Option Addr} {n c:Nat} (hK:K (I6 n) (pt p [I6 h.w,I6 h.st,I6 h.it,I6 g.w,I6 g.st,I6 g.it,.slice A n c] 207::R)):CT 241 #[PO p] (pt p [I6 h.w,I6 h.st,I6 h.it,I6 g.w,I6 g.st,I6 g.it,.slice A n c] 207::R) K:=by
 refine aH Tryz.func241 ?_
 repeat' (first|refine v4 ?_|refine w5 ?_ ?_|((refine bh fun h=>?_) <;> try exact w6 h)|(refine aE fun hA=>?_;subst hA)|intro _)
 all_goals(refine aC ?_;exact aB (hK))
theorem SF {h g:eJ} {A:Option Addr} {n c:Nat} (hK:K (.agg #[I6 h.w,I6 h.st,I6 h.it]) (pt p [I6 h.w,I6 h.st,I6 h.it,I6 g.w,I6 g.st,I6 g.it,.slice A n c] 207::R)):CT 214 #[PO p] (pt p [I6 h.w,I6 h.st,I6 h.it,I6 g.w,I6 g.st,I6 g.it,.slice A n c] 207::R) K:=by
 refine aH Tryz.func214 ?_
 repeat' (first|refine v30 ?_|refine w5 ?_ ?_|((refine bh fun h=>?_) <;> try exact w6 h)|(refine aE fun hA=>?_;subst hA)|intro _)
 all_goals(refine aC ?_;exact aB (hK))
theorem xZ (hK:K (.agg #[I6 s.h.w,I6 s.h.st,I6 s.h.it]) (NR p s::R)):CT 214 #[PO p] (NR p s::R) K:=by
 unfold NR at *
 repeat (first|refine aA.ex fun _=>?_|refine aA.sep ?_|refine aA.pure fun _=>?_)
 refine aH Tryz.func214 ?_
 repeat' (first|refine v30 ?_|refine w5 ?_ ?_|((refine bh fun h=>?_) <;> try exact w6 h)|(refine aE fun hA=>?_;subst hA)|intro _)
 all_goals(refine aC ?_;exact aB (hK))
end
end
end Go.Proofs.YtifgibijcmppmaaGreat
