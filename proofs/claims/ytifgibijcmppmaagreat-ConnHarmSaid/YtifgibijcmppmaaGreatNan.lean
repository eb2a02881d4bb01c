/- A part of the proof: lemmas; each with the conditions that it states. -/
import Derived.Test.YtifgibijcmppmaaGreatNar
import Derived.Test.YtifgibijcmppmaaGreatNai
set_option linter.unusedVariables false
set_option linter.unusedSimpArgs false
namespace Go.Proofs.YtifgibijcmppmaaGreat
open Go Go.Proofs Go.Sl
set_option maxRecDepth 100000
set_option maxHeartbeats 40000000
attribute [local irreducible] aN fB cJ bO aM aY aA dM dQ aW dK pt ro fF star sep bI
attribute [local irreducible] mp El
section
variable {R C:List HP} {K:Value→List HP→Prop}
variable {w st it sb si stg ev wa stl:Int}
theorem Ag9 (hsi:0≤si∧si≤64) (hsg:0≤stg∧stg≤2) (hcs:sW w st it=true) (hsb:0≤sb∧sb≤4096) (hK:K (.int .i64 0) R):aA Tryz.prog 52 #[.agg #[.int .i64 w,.int .i64 st,.int .i64 it,.int .i64 sb,.int .i64 si,.int .i64 stg,.int .i64 ev,.int .i64 wa,.int .i64 stl]] R K:=by
 obtain⟨si,rfl⟩:=Int.eq_ofNat_of_zero_le hsi.1
 obtain⟨sb,rfl⟩:=Int.eq_ofNat_of_zero_le hsb.1
 refine aH Tryz.func52 ?_
 repeat' (first|refine Xy ?_|refine wr ?_|refine w5 ?_ ?_|((refine bh fun h=>?_) <;> try exact w6 h)|(refine aE fun hA=>?_;subst hA)|intro _)
 rename_i c l
 refine iF (fun kk a C'=>∃j:Nat,j+kk=2∧j≤2∧cN a [(1,.pointer (some ⟨c,0,none⟩)),(7,.slice (some ⟨l,0,none⟩) 2 2),(8,.int .i64 2),(9,.int .i64 j)]∧C'=pt l [.int .i64 2,.int .i64 1] 3::pt c [.int .i64 w,.int .i64 st,.int .i64 it,.int .i64 sb,.int .i64 si,.int .i64 stg,.int .i64 ev,.int .i64 wa,.int .i64 stl] 32::R) 2 (b9 2 ⟨0,by omega,by omega,⟨rfl,rfl,rfl,rfl,trivial⟩,rfl⟩ (by omega)) ?_
 rintro kk a C' ⟨j,hj,hj2,ha,rfl⟩
 refine gF _ ha ?_
 simp only[eQ]
 rcases(show j=0∨j=1∨j=2 by omega) with rfl|rfl|rfl
 ·repeat' (first|refine Xy ?_|refine wr ?_|refine w5 ?_ ?_|((refine bh fun h=>?_) <;> try exact w6 h)|(refine aE fun hA=>?_;subst hA)|intro _|(show aA _ 139 _ _ _;refine CA (h:=Ow (by decide) (by omega) hsg hcs (fun _ _ _ _=>?_))))
  all_goals(show aW _ _ _ _;exact b9 (kk - 1) ⟨1,by omega,by omega,⟨rfl,rfl,rfl,rfl,trivial⟩,rfl⟩)
 ·repeat' (first|refine Xy ?_|refine wr ?_|refine w5 ?_ ?_|((refine bh fun h=>?_) <;> try exact w6 h)|(refine aE fun hA=>?_;subst hA)|intro _|(show aA _ 139 _ _ _;refine CA (h:=PL (by decide) (by omega) hcs (fun _ _ _ _=>?_))))
  all_goals(show aW _ _ _ _;exact b9 (kk - 1) ⟨2,by omega,by omega,⟨rfl,rfl,rfl,rfl,trivial⟩,rfl⟩)
 ·repeat' (first|refine Xy ?_|refine wr ?_|refine w5 ?_ ?_|((refine bh fun h=>?_) <;> try exact w6 h)|(refine aE fun hA=>?_;subst hA)|intro _)
  all_goals(refine aC ?_;exact aB (hK))
end
end Go.Proofs.YtifgibijcmppmaaGreat
namespace Go.Proofs.YtifgibijcmppmaaGreat
open Go Go.Proofs Go.Sl
set_option maxRecDepth 100000
set_option maxHeartbeats 40000000
attribute [local irreducible] aN fB cJ bO aM aY aA dM dQ aW dK pt ro fF star sep bI
section
variable {R C:List HP} {K:Value→List HP→Prop}
structure eJ where
 w:Int
 st:Int
 it:Int
def Y3:List Value→Option eJ
 | [.int .i64 w,.int .i64 st,.int .i64 it]=>some ⟨w,st,it⟩
 |_=>none
theorem YP (cs:List Value) (y:eJ) (h:Y3 cs=some y): [.int .i64 y.w,.int .i64 y.st,.int .i64 y.it]=cs:=by
 unfold Y3 at h
 split at h
 ·cases h;rfl
 ·cases h
def Fv:t6 eJ:= { enc:=fun p=> [.int .i64 p.w,.int .i64 p.st,.int .i64 p.it],sz:=3,dec:=Y3,len:=fun _=>rfl,one:=fun _=>rfl,ok:=YP }
def KS (id a b:Int) (ps:List Pr):List Pr:=if a=b then ps else ps++ [⟨id,b⟩]
theorem UF (id a b:Int) (ps:List Pr):(KS id a b ps).length≤ps.length+1:=by
 unfold KS;split <;> simp
theorem JS {id a b:Int} {r n c:Nat} {A:Option Addr} {ps:List Pr} (hn:ps.length=n) (hl:n≤10) (hK:∀A' c',K (.tuple #[]) (pt r [.slice A' (KS id a b ps).length c'] 43::bT A' c' 148 nV (KS id a b ps)::R)):aA Tryz.prog 240 #[.int .i64 id,.int .i64 a,.int .i64 b,.pointer (some ⟨r,0,none⟩)] (pt r [.slice A n c] 43::bT A c 148 nV ps::R) K:=by
 subst hn
 unfold KS at hK
 by_cases h:a=b
 ·simp only[if_pos h] at hK
  refine aH Tryz.func240 ?_
  repeat' (first|refine v36 ?_|refine wr ?_|refine w5 ?_ ?_|((refine bh fun h=>?_) <;> try exact w6 h)|(refine aE fun hA=>?_;subst hA)|intro _)
  all_goals(refine aC ?_;exact aB (hK _ _))
 ·simp only[if_neg h] at hK
  refine aH Tryz.func240 ?_
  repeat' (first|refine v36 ?_|refine wr ?_|refine w5 ?_ ?_|((refine bh fun h=>?_) <;> try exact w6 h)|(refine aE fun hA=>?_;subst hA)|intro _)
  all_goals(refine aC ?_;exact aB (hK _ _))
theorem We {id a b:Int} {r:Nat} (hK:∀A' c',K (.tuple #[]) (pt r [.slice A' (KS id a b []).length c'] 43::bT A' c' 148 nV (KS id a b [])::R)):aA Tryz.prog 240 #[.int .i64 id,.int .i64 a,.int .i64 b,.pointer (some ⟨r,0,none⟩)] (pt r [.slice none 0 0] 43::R) K:=
 aA.ent (aG.cons (aG.nilrow' (aG.refl _))) (JS (ps:= []) rfl (by omega) hK)
section
variable {w st it:Int}
end
end
end Go.Proofs.YtifgibijcmppmaaGreat
namespace Go.Proofs.YtifgibijcmppmaaGreat
open Go Go.Proofs Go.Sl
set_option maxRecDepth 100000
set_option maxHeartbeats 40000000
attribute [local irreducible] aN fB cJ bO aM aY aA dM dQ aW dK pt ro fF star sep bI
attribute [local irreducible] mp El
section
variable {R C:List HP} {K:Value→List HP→Prop}
structure F2 where
 h:eJ
 g:eJ
 l:List eJ
def PH (p:Nat) (s:F2):HP:=fF fun A=>fF fun c=>sep (pt p [.int .i64 s.h.w,.int .i64 s.h.st,.int .i64 s.h.it,.int .i64 s.g.w,.int .i64 s.g.st,.int .i64 s.g.it,.slice A s.l.length c] 207) (bT A c 23 Fv s.l)
def rM (s:F2):eJ:=match s.l.getLast? with
 |some x=>x
 |none=>s.h
def MK (a b:eJ):eJ:=⟨max a.w b.w,max a.st b.st,max a.it b.it⟩
def MA (a b:eJ):List Pr:=KS 3 a.it b.it (KS 2 a.st b.st (KS 1 a.w b.w []))
def iU (s:F2) (t:eJ):Int:=if sW t.w t.st t.it=false then 3 else if 4≤s.l.length then 16 else 0
def eK (s:F2) (t:eJ):F2:=if iU s t=0 then⟨s.h,MK s.g t,s.l++ [t]⟩ else s
def Am (s:F2):Int:=if s.l= [] then 1 else 0
def dG (s:F2):F2:=match s.l with
 | []=>s
 |x::r=>⟨x,s.g,r⟩
section
variable {p:Nat} {s:F2} {a b t:eJ}
theorem Ai6 (hK:∀A c,K (.slice A (MA a b).length c) (bT A c 148 nV (MA a b)::R)):aA Tryz.prog 144 #[.agg #[.int .i64 a.w,.int .i64 a.st,.int .i64 a.it],.agg #[.int .i64 b.w,.int .i64 b.st,.int .i64 b.it]] R K:=by
 obtain⟨aw,a2,ai⟩:=a
 obtain⟨bw,bs,bi⟩:=b
 simp only[MA] at hK ⊢
 by_cases h:aw=bw∧a2=bs∧ai=bi
 ·obtain⟨rfl,rfl,rfl⟩:=h
  have e:KS 3 ai ai (KS 2 a2 a2 (KS 1 aw aw []))= []:=by simp[KS]
  rw[e] at hK
  refine aH Tryz.func144 ?_
  repeat' (first|(show Br _ _ _;refine Br.t (by simp) ?_)|refine v47 ?_|refine wr ?_|refine w5 ?_ ?_|((refine bh fun h=>?_) <;> try exact w6 h)|(refine aE fun hA=>?_;subst hA)|intro _)
  all_goals(refine aC ?_;exact aB (hK none 0))
 ·have l1:=UF 1 aw bw []
  have l2:=UF 2 a2 bs (KS 1 aw bw [])
  rw[List.length_nil] at l1
  refine aH Tryz.func144 ?_
  repeat' (first|refine v47 ?_|refine wr ?_|refine w5 ?_ ?_|((refine bh fun h=>?_) <;> try exact w6 h)|(refine aE fun hA=>?_;subst hA)|intro _|(show aA _ 240 _ _ _;refine CA (h:=We (fun _ _=>?_)))|(show aA _ 240 _ _ _;refine CA (h:=JS rfl (by omega) (fun _ _=>?_))))
  all_goals(refine aC ?_;exact aB (hK _ _))
theorem GK {h g:eJ} {A:Option Addr} {n c:Nat} (hK:K (.int .i64 n) (pt p [.int .i64 h.w,.int .i64 h.st,.int .i64 h.it,.int .i64 g.w,.int .i64 g.st,.int .i64 g.it,.slice A n c] 207::R)):aA Tryz.prog 241 #[.pointer (some ⟨p,0,none⟩)] (pt p [.int .i64 h.w,.int .i64 h.st,.int .i64 h.it,.int .i64 g.w,.int .i64 g.st,.int .i64 g.it,.slice A n c] 207::R) K:=by
 refine aH Tryz.func241 ?_
 repeat' (first|refine v4 ?_|refine wr ?_|refine w5 ?_ ?_|((refine bh fun h=>?_) <;> try exact w6 h)|(refine aE fun hA=>?_;subst hA)|intro _)
 all_goals(refine aC ?_;exact aB (hK))
theorem R8 {h g:eJ} {A:Option Addr} {n c:Nat} (hK:K (.agg #[.int .i64 h.w,.int .i64 h.st,.int .i64 h.it]) (pt p [.int .i64 h.w,.int .i64 h.st,.int .i64 h.it,.int .i64 g.w,.int .i64 g.st,.int .i64 g.it,.slice A n c] 207::R)):aA Tryz.prog 214 #[.pointer (some ⟨p,0,none⟩)] (pt p [.int .i64 h.w,.int .i64 h.st,.int .i64 h.it,.int .i64 g.w,.int .i64 g.st,.int .i64 g.it,.slice A n c] 207::R) K:=by
 refine aH Tryz.func214 ?_
 repeat' (first|refine v30 ?_|refine wr ?_|refine w5 ?_ ?_|((refine bh fun h=>?_) <;> try exact w6 h)|(refine aE fun hA=>?_;subst hA)|intro _)
 all_goals(refine aC ?_;exact aB (hK))
theorem yM (hK:K (.agg #[.int .i64 s.h.w,.int .i64 s.h.st,.int .i64 s.h.it]) (PH p s::R)):aA Tryz.prog 214 #[.pointer (some ⟨p,0,none⟩)] (PH p s::R) K:=by
 unfold PH at *
 repeat (first|refine aA.ex fun _=>?_|refine aA.sep ?_|refine aA.pure fun _=>?_)
 refine aH Tryz.func214 ?_
 repeat' (first|refine v30 ?_|refine wr ?_|refine w5 ?_ ?_|((refine bh fun h=>?_) <;> try exact w6 h)|(refine aE fun hA=>?_;subst hA)|intro _)
 all_goals(refine aC ?_;exact aB (hK))
end
end
end Go.Proofs.YtifgibijcmppmaaGreat
