/- A part of the proof: lemmas; each with the conditions that it states. -/
import Derived.Test.YtifgibijcmppmaaGreatMap
import Derived.Test.YtifgibijcmppmaaGreatMak
set_option linter.unusedVariables false
set_option linter.unusedSimpArgs false
namespace Go.Proofs.YtifgibijcmppmaaGreat
open Go Go.Proofs Go.Sl
set_option maxRecDepth 100000
set_option maxHeartbeats 40000000
attribute [local irreducible] aM fG cV bP aN aW aA dP dX aV dO pt ro eW star sep bH
attribute [local irreducible] mp Ec
section
variable {R C:List HP} {K:Value→List HP→Prop}
variable {w st it sb si stg ev wa stl:Int}
theorem Adp (hsi:0≤si∧si≤64) (hsg:0≤stg∧stg≤2) (hcs:rY w st it=true) (hsb:0≤sb∧sb≤4096) (hK:K (.int .i64 0) R):aA Tryz.prog 52 #[.agg #[.int .i64 w,.int .i64 st,.int .i64 it,.int .i64 sb,.int .i64 si,.int .i64 stg,.int .i64 ev,.int .i64 wa,.int .i64 stl]] R K:=by
 obtain⟨si,rfl⟩:=Int.eq_ofNat_of_zero_le hsi.1
 obtain⟨sb,rfl⟩:=Int.eq_ofNat_of_zero_le hsb.1
 refine aH Tryz.func52 ?_
 repeat' (first|refine XR ?_|refine wr ?_|refine w5 ?_ ?_|((refine bh fun h=>?_) <;> try exact w6 h)|(refine aE fun hA=>?_;subst hA)|intro _)
 rename_i c l
 refine iL (fun kk a C'=>∃j:Nat,j+kk=2∧j≤2∧dC a [(1,.pointer (some ⟨c,0,none⟩)),(7,.slice (some ⟨l,0,none⟩) 2 2),(8,.int .i64 2),(9,.int .i64 j)]∧C'=pt l [.int .i64 2,.int .i64 1] 3::pt c [.int .i64 w,.int .i64 st,.int .i64 it,.int .i64 sb,.int .i64 si,.int .i64 stg,.int .i64 ev,.int .i64 wa,.int .i64 stl] 32::R) 2 (cC 2 ⟨0,by omega,by omega,⟨rfl,rfl,rfl,rfl,trivial⟩,rfl⟩ (by omega)) ?_
 rintro kk a C' ⟨j,hj,hj2,ha,rfl⟩
 refine gV _ ha ?_
 simp only[fN]
 rcases(show j=0∨j=1∨j=2 by omega) with rfl|rfl|rfl
 ·repeat' (first|refine XR ?_|refine wr ?_|refine w5 ?_ ?_|((refine bh fun h=>?_) <;> try exact w6 h)|(refine aE fun hA=>?_;subst hA)|intro _|(show aA _ 139 _ _ _;refine CA (h:=PZ (by decide) (by omega) hsg hcs (fun _ _ _ _=>?_))))
  all_goals(show aV _ _ _ _;exact cC (kk - 1) ⟨1,by omega,by omega,⟨rfl,rfl,rfl,rfl,trivial⟩,rfl⟩)
 ·repeat' (first|refine XR ?_|refine wr ?_|refine w5 ?_ ?_|((refine bh fun h=>?_) <;> try exact w6 h)|(refine aE fun hA=>?_;subst hA)|intro _|(show aA _ 139 _ _ _;refine CA (h:=PS (by decide) (by omega) hcs (fun _ _ _ _=>?_))))
  all_goals(show aV _ _ _ _;exact cC (kk - 1) ⟨2,by omega,by omega,⟨rfl,rfl,rfl,rfl,trivial⟩,rfl⟩)
 ·repeat' (first|refine XR ?_|refine wr ?_|refine w5 ?_ ?_|((refine bh fun h=>?_) <;> try exact w6 h)|(refine aE fun hA=>?_;subst hA)|intro _)
  all_goals(refine aC ?_;exact aB (hK))
end
end Go.Proofs.YtifgibijcmppmaaGreat
namespace Go.Proofs.YtifgibijcmppmaaGreat
open Go Go.Proofs Go.Sl
set_option maxRecDepth 100000
set_option maxHeartbeats 40000000
attribute [local irreducible] aM fG cV bP aN aW aA dP dX aV dO pt ro eW star sep bH
section
variable {R C:List HP} {K:Value→List HP→Prop}
structure eE where
 w:Int
 st:Int
 it:Int
def ZS:List Value→Option eE
 | [.int .i64 w,.int .i64 st,.int .i64 it]=>some ⟨w,st,it⟩
 |_=>none
theorem X6 (cs:List Value) (y:eE) (h:ZS cs=some y): [.int .i64 y.w,.int .i64 y.st,.int .i64 y.it]=cs:=by
 unfold ZS at h
 split at h
 ·cases h;rfl
 ·cases h
def Fy:tG eE:= { enc:=fun p=> [.int .i64 p.w,.int .i64 p.st,.int .i64 p.it],sz:=3,dec:=ZS,len:=fun _=>rfl,one:=fun _=>rfl,ok:=X6 }
def Kg (id a b:Int) (ps:List Pr):List Pr:=if a=b then ps else ps++ [⟨id,b⟩]
theorem UG (id a b:Int) (ps:List Pr):(Kg id a b ps).length≤ps.length+1:=by
 unfold Kg;split <;> simp
theorem JV {id a b:Int} {r n c:Nat} {A:Option Addr} {ps:List Pr} (hn:ps.length=n) (hl:n≤10) (hK:∀A' c',K (.tuple #[]) (pt r [.slice A' (Kg id a b ps).length c'] 43::bU A' c' 148 rN (Kg id a b ps)::R)):aA Tryz.prog 240 #[.int .i64 id,.int .i64 a,.int .i64 b,.pointer (some ⟨r,0,none⟩)] (pt r [.slice A n c] 43::bU A c 148 rN ps::R) K:=by
 subst hn
 unfold Kg at hK
 by_cases h:a=b
 ·simp only[if_pos h] at hK
  refine aH Tryz.func240 ?_
  repeat' (first|refine v36 ?_|refine wr ?_|refine w5 ?_ ?_|((refine bh fun h=>?_) <;> try exact w6 h)|(refine aE fun hA=>?_;subst hA)|intro _)
  all_goals(refine aC ?_;exact aB (hK _ _))
 ·simp only[if_neg h] at hK
  refine aH Tryz.func240 ?_
  repeat' (first|refine v36 ?_|refine wr ?_|refine w5 ?_ ?_|((refine bh fun h=>?_) <;> try exact w6 h)|(refine aE fun hA=>?_;subst hA)|intro _)
  all_goals(refine aC ?_;exact aB (hK _ _))
theorem Xd {id a b:Int} {r:Nat} (hK:∀A' c',K (.tuple #[]) (pt r [.slice A' (Kg id a b []).length c'] 43::bU A' c' 148 rN (Kg id a b [])::R)):aA Tryz.prog 240 #[.int .i64 id,.int .i64 a,.int .i64 b,.pointer (some ⟨r,0,none⟩)] (pt r [.slice none 0 0] 43::R) K:=
 aA.ent (aG.cons (aG.nilrow' (aG.refl _))) (JV (ps:= []) rfl (by omega) hK)
section
variable {w st it:Int}
end
end
end Go.Proofs.YtifgibijcmppmaaGreat
namespace Go.Proofs.YtifgibijcmppmaaGreat
open Go Go.Proofs Go.Sl
set_option maxRecDepth 100000
set_option maxHeartbeats 40000000
attribute [local irreducible] aM fG cV bP aN aW aA dP dX aV dO pt ro eW star sep bH
attribute [local irreducible] mp Ec
section
variable {R C:List HP} {K:Value→List HP→Prop}
structure F0 where
 h:eE
 g:eE
 l:List eE
def Tj (p:Nat) (s:F0):HP:=eW fun A=>eW fun c=>sep (pt p [.int .i64 s.h.w,.int .i64 s.h.st,.int .i64 s.h.it,.int .i64 s.g.w,.int .i64 s.g.st,.int .i64 s.g.it,.slice A s.l.length c] 207) (bU A c 23 Fy s.l)
def rD (s:F0):eE:=match s.l.getLast? with
 |some x=>x
 |none=>s.h
def LL (a b:eE):eE:=⟨max a.w b.w,max a.st b.st,max a.it b.it⟩
def LG (a b:eE):List Pr:=Kg 3 a.it b.it (Kg 2 a.st b.st (Kg 1 a.w b.w []))
def iA (s:F0) (t:eE):Int:=if rY t.w t.st t.it=false then 3 else if 4≤s.l.length then 16 else 0
def d8 (s:F0) (t:eE):F0:=if iA s t=0 then⟨s.h,LL s.g t,s.l++ [t]⟩ else s
def zS (s:F0):Int:=if s.l= [] then 1 else 0
def dA (s:F0):F0:=match s.l with
 | []=>s
 |x::r=>⟨x,s.g,r⟩
section
variable {p:Nat} {s:F0} {a b t:eE}
theorem Ajf (hK:∀A c,K (.slice A (LG a b).length c) (bU A c 148 rN (LG a b)::R)):aA Tryz.prog 144 #[.agg #[.int .i64 a.w,.int .i64 a.st,.int .i64 a.it],.agg #[.int .i64 b.w,.int .i64 b.st,.int .i64 b.it]] R K:=by
 obtain⟨aw,a2,ai⟩:=a
 obtain⟨bw,bs,bi⟩:=b
 simp only[LG] at hK ⊢
 by_cases h:aw=bw∧a2=bs∧ai=bi
 ·obtain⟨rfl,rfl,rfl⟩:=h
  have e:Kg 3 ai ai (Kg 2 a2 a2 (Kg 1 aw aw []))= []:=by simp[Kg]
  rw[e] at hK
  refine aH Tryz.func144 ?_
  repeat' (first|(show Br _ _ _;refine Br.t (by simp) ?_)|refine v47 ?_|refine wr ?_|refine w5 ?_ ?_|((refine bh fun h=>?_) <;> try exact w6 h)|(refine aE fun hA=>?_;subst hA)|intro _)
  all_goals(refine aC ?_;exact aB (hK none 0))
 ·have l1:=UG 1 aw bw []
  have l2:=UG 2 a2 bs (Kg 1 aw bw [])
  rw[List.length_nil] at l1
  refine aH Tryz.func144 ?_
  repeat' (first|refine v47 ?_|refine wr ?_|refine w5 ?_ ?_|((refine bh fun h=>?_) <;> try exact w6 h)|(refine aE fun hA=>?_;subst hA)|intro _|(show aA _ 240 _ _ _;refine CA (h:=Xd (fun _ _=>?_)))|(show aA _ 240 _ _ _;refine CA (h:=JV rfl (by omega) (fun _ _=>?_))))
  all_goals(refine aC ?_;exact aB (hK _ _))
theorem IB {h g:eE} {A:Option Addr} {n c:Nat} (hK:K (.int .i64 n) (pt p [.int .i64 h.w,.int .i64 h.st,.int .i64 h.it,.int .i64 g.w,.int .i64 g.st,.int .i64 g.it,.slice A n c] 207::R)):aA Tryz.prog 241 #[.pointer (some ⟨p,0,none⟩)] (pt p [.int .i64 h.w,.int .i64 h.st,.int .i64 h.it,.int .i64 g.w,.int .i64 g.st,.int .i64 g.it,.slice A n c] 207::R) K:=by
 refine aH Tryz.func241 ?_
 repeat' (first|refine v4 ?_|refine wr ?_|refine w5 ?_ ?_|((refine bh fun h=>?_) <;> try exact w6 h)|(refine aE fun hA=>?_;subst hA)|intro _)
 all_goals(refine aC ?_;exact aB (hK))
theorem Su {h g:eE} {A:Option Addr} {n c:Nat} (hK:K (.agg #[.int .i64 h.w,.int .i64 h.st,.int .i64 h.it]) (pt p [.int .i64 h.w,.int .i64 h.st,.int .i64 h.it,.int .i64 g.w,.int .i64 g.st,.int .i64 g.it,.slice A n c] 207::R)):aA Tryz.prog 214 #[.pointer (some ⟨p,0,none⟩)] (pt p [.int .i64 h.w,.int .i64 h.st,.int .i64 h.it,.int .i64 g.w,.int .i64 g.st,.int .i64 g.it,.slice A n c] 207::R) K:=by
 refine aH Tryz.func214 ?_
 repeat' (first|refine v30 ?_|refine wr ?_|refine w5 ?_ ?_|((refine bh fun h=>?_) <;> try exact w6 h)|(refine aE fun hA=>?_;subst hA)|intro _)
 all_goals(refine aC ?_;exact aB (hK))
theorem xO (hK:K (.agg #[.int .i64 s.h.w,.int .i64 s.h.st,.int .i64 s.h.it]) (Tj p s::R)):aA Tryz.prog 214 #[.pointer (some ⟨p,0,none⟩)] (Tj p s::R) K:=by
 unfold Tj at *
 repeat (first|refine aA.ex fun _=>?_|refine aA.sep ?_|refine aA.pure fun _=>?_)
 refine aH Tryz.func214 ?_
 repeat' (first|refine v30 ?_|refine wr ?_|refine w5 ?_ ?_|((refine bh fun h=>?_) <;> try exact w6 h)|(refine aE fun hA=>?_;subst hA)|intro _)
 all_goals(refine aC ?_;exact aB (hK))
end
end
end Go.Proofs.YtifgibijcmppmaaGreat
