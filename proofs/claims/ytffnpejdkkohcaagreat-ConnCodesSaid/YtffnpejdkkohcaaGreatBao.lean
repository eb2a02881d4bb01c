/- A part of the proof: lemmas; each with the conditions that it states. -/
import Derived.Test.YtffnpejdkkohcaaGreatBat
import Derived.Test.YtffnpejdkkohcaaGreatBal
set_option linter.unusedVariables false
set_option linter.unusedSimpArgs false
set_option maxRecDepth 100000
set_option maxHeartbeats 40000000
namespace Go.Proofs.YtffnpejdkkohcaaGreat
open Go Go.Proofs Go.Sl
attribute [local irreducible] aM eY cU bQ aL aW aA dS dT aZ dR pt ro fN star sep bH
attribute [local irreducible] mp FV
variable {R C:List HP} {K:KP} {w st it sb si stg ev wa stl:Int}
theorem Ae3 (hsi:0<=si/\si<=64) (hsg:0<=stg/\stg<=2) (hcs:pP w st it=true) (hsb:0<=sb/\sb<=4096) (hK:K (I6 0) R):CT 30 #[.agg #[I6 w,I6 st,I6 it,I6 sb,I6 si,I6 stg,I6 ev,I6 wa,I6 stl]] R K:=by
 obtain⟨si,rfl⟩:=Int.eq_ofNat_of_zero_le hsi.1
 obtain⟨sb,rfl⟩:=Int.eq_ofNat_of_zero_le hsb.1
 refine aJ Tryz.func30 ?_
 repeat' (first|refine Wy ?_|refine w5 ?_ ?_|((refine bh fun h=>?_) <;> try exact w6 h)|(refine aF fun hA=>?_;subst hA)|intro _)
 rename_i c l
 refine iH (fun kk a C'=>∃j:Nat,j+kk=2/\j<=2/\cW a [(1,PO c),(7,.slice (some ⟨l,0,none⟩) 2 2),(8,I6 2),(9,I6 j)]/\C'=pt l [I6 2,I6 1] 3::pt c [I6 w,I6 st,I6 it,I6 sb,I6 si,I6 stg,I6 ev,I6 wa,I6 stl] 32::R) 2 (cG 2 ⟨0,by omega,by omega,⟨rfl,rfl,rfl,rfl,trivial⟩,rfl⟩ (by omega)) ?_
 rintro kk a C' ⟨j,hj,hj2,ha,rfl⟩
 refine gJ _ ha ?_
 simp only[fF]
 rcases(show j=0\/j=1\/j=2 by omega) with rfl|rfl|rfl
 ·repeat' (first|refine Wy ?_|refine w5 ?_ ?_|((refine bh fun h=>?_) <;> try exact w6 h)|(refine aF fun hA=>?_;subst hA)|intro _|(show aA _ 90 _ _ _;refine CA (h:=P4 (by decide) (by omega) hsg hcs (fun _ _ _ _=>?_))))
  all_goals(show aZ _ _ _ _;exact cG (kk - 1) ⟨1,by omega,by omega,⟨rfl,rfl,rfl,rfl,trivial⟩,rfl⟩)
 ·repeat' (first|refine Wy ?_|refine w5 ?_ ?_|((refine bh fun h=>?_) <;> try exact w6 h)|(refine aF fun hA=>?_;subst hA)|intro _|(show aA _ 90 _ _ _;refine CA (h:=PK (by decide) (by omega) hcs (fun _ _ _ _=>?_))))
  all_goals(show aZ _ _ _ _;exact cG (kk - 1) ⟨2,by omega,by omega,⟨rfl,rfl,rfl,rfl,trivial⟩,rfl⟩)
 ·repeat' (first|refine Wy ?_|refine w5 ?_ ?_|((refine bh fun h=>?_) <;> try exact w6 h)|(refine aF fun hA=>?_;subst hA)|intro _)
  all_goals(refine aC ?_;exact aB (hK))
end Go.Proofs.YtffnpejdkkohcaaGreat
namespace Go.Proofs.YtffnpejdkkohcaaGreat
open Go Go.Proofs Go.Sl
attribute [local irreducible] aM eY cU bQ aL aW aA dS dT aZ dR pt ro fN star sep bH
variable {R C:List HP} {K:KP} {id a b:Int} {r:Nat}
structure dI where
 w:Int
 st:Int
 it:Int
def XF:List Value->Option dI
 | [.int .i64 w,.int .i64 st,.int .i64 it]=>some ⟨w,st,it⟩
 |_=>none
theorem Y6 (cs:List Value) (y:dI) (h:XF cs=some y): [I6 y.w,I6 y.st,I6 y.it]=cs:=by
 unfold XF at h
 split at h
 ·cases h;rfl
 ·cases h
def F0:tP dI:= { enc:=fun p=> [I6 p.w,I6 p.st,I6 p.it],sz:=3,dec:=XF,len:=fun _=>rfl,one:=fun _=>rfl,ok:=Y6 }
def I2 (id a b:Int) (ps:List Pr):List Pr:=if a=b then ps else ps++ [⟨id,b⟩]
theorem Tk (id a b:Int) (ps:List Pr):(I2 id a b ps).length<=ps.length+1:=by
 unfold I2;split <;> simp
theorem KG {n c:Nat} {A:Option Addr} {ps:List Pr} (hn:ps.length=n) (hl:n<=10) (hK:∀A' c',K (.tuple #[]) (pt r [.slice A' (I2 id a b ps).length c'] 43::bU A' c' 114 oG (I2 id a b ps)::R)):CT 177 #[I6 id,I6 a,I6 b,PO r] (pt r [.slice A n c] 43::bU A c 114 oG ps::R) K:=by
 subst hn
 unfold I2 at hK
 by_cases h:a=b
 ·simp only[if_pos h] at hK
  refine aJ Tryz.func177 ?_
  repeat' (first|refine v36 ?_|refine w5 ?_ ?_|((refine bh fun h=>?_) <;> try exact w6 h)|(refine aF fun hA=>?_;subst hA)|intro _)
  all_goals(refine aC ?_;exact aB (hK _ _))
 ·simp only[if_neg h] at hK
  refine aJ Tryz.func177 ?_
  repeat' (first|refine v36 ?_|refine w5 ?_ ?_|((refine bh fun h=>?_) <;> try exact w6 h)|(refine aF fun hA=>?_;subst hA)|intro _)
  all_goals(refine aC ?_;exact aB (hK _ _))
theorem Xi (hK:∀A' c',K (.tuple #[]) (pt r [.slice A' (I2 id a b []).length c'] 43::bU A' c' 114 oG (I2 id a b [])::R)):CT 177 #[I6 id,I6 a,I6 b,PO r] (pt r [.slice none 0 0] 43::R) K:=
 aA.ent (aG.cons (aG.nilrow' (aG.refl _))) (KG (ps:= []) rfl (by omega) hK)
section
variable {w st it:Int}
end
end Go.Proofs.YtffnpejdkkohcaaGreat
namespace Go.Proofs.YtffnpejdkkohcaaGreat
open Go Go.Proofs Go.Sl
attribute [local irreducible] aM eY cU bQ aL aW aA dS dT aZ dR pt ro fN star sep bH
attribute [local irreducible] mp FV
variable {R C:List HP} {K:KP} {p n c:Nat} {a b t:dI} {A:Option Addr}
structure EC where
 h:dI
 g:dI
 l:List dI
def T1 (p:Nat) (s:EC):HP:=fN fun A=>fN fun c=>sep (pt p [I6 s.h.w,I6 s.h.st,I6 s.h.it,I6 s.g.w,I6 s.g.st,I6 s.g.it,.slice A s.l.length c] 157) (bU A c 23 F0 s.l)
def wK (s:EC):dI:=match s.l.getLast? with
 |some x=>x
 |none=>s.h
def M6 (a b:dI):dI:=⟨max a.w b.w,max a.st b.st,max a.it b.it⟩
def Ix (a b:dI):List Pr:=I2 3 a.it b.it (I2 2 a.st b.st (I2 1 a.w b.w []))
def i8 (s:EC) (t:dI):Int:=if pP t.w t.st t.it=false then 3 else if 4<=s.l.length then 16 else 0
def eR (s:EC) (t:dI):EC:=if i8 s t=0 then⟨s.h,M6 s.g t,s.l++ [t]⟩ else s
def vU (s:EC):Int:=if s.l= [] then 1 else 0
def dC (s:EC):EC:=match s.l with
 | []=>s
 |x::r=>⟨x,s.g,r⟩
section
variable {s:EC}
theorem Ai6 (hK:∀A c,K (.slice A (Ix a b).length c) (bU A c 114 oG (Ix a b)::R)):CT 95 #[.agg #[I6 a.w,I6 a.st,I6 a.it],.agg #[I6 b.w,I6 b.st,I6 b.it]] R K:=by
 obtain⟨aw,a2,ai⟩:=a
 obtain⟨bw,bs,bi⟩:=b
 simp only[Ix] at hK ⊢
 by_cases h:aw=bw/\a2=bs/\ai=bi
 ·obtain⟨rfl,rfl,rfl⟩:=h
  have e:I2 3 ai ai (I2 2 a2 a2 (I2 1 aw aw []))= []:=by simp[I2]
  rw[e] at hK
  refine aJ Tryz.func95 ?_
  repeat' (first|(show Br _ _ _;refine Br.t (by simp) ?_)|refine v47 ?_|refine w5 ?_ ?_|((refine bh fun h=>?_) <;> try exact w6 h)|(refine aF fun hA=>?_;subst hA)|intro _)
  all_goals(refine aC ?_;exact aB (hK none 0))
 ·have l1:=Tk 1 aw bw []
  have l2:=Tk 2 a2 bs (I2 1 aw bw [])
  rw[List.length_nil] at l1
  refine aJ Tryz.func95 ?_
  repeat' (first|refine v47 ?_|refine w5 ?_ ?_|((refine bh fun h=>?_) <;> try exact w6 h)|(refine aF fun hA=>?_;subst hA)|intro _|(show aA _ 177 _ _ _;refine CA (h:=Xi (fun _ _=>?_)))|(show aA _ 177 _ _ _;refine CA (h:=KG rfl (by omega) (fun _ _=>?_))))
  all_goals(refine aC ?_;exact aB (hK _ _))
theorem IC {h g:dI} (hK:K (I6 n) (pt p [I6 h.w,I6 h.st,I6 h.it,I6 g.w,I6 g.st,I6 g.it,.slice A n c] 157::R)):CT 178 #[PO p] (pt p [I6 h.w,I6 h.st,I6 h.it,I6 g.w,I6 g.st,I6 g.it,.slice A n c] 157::R) K:=by
 refine aJ Tryz.func178 ?_
 repeat' (first|refine v4 ?_|refine w5 ?_ ?_|((refine bh fun h=>?_) <;> try exact w6 h)|(refine aF fun hA=>?_;subst hA)|intro _)
 all_goals(refine aC ?_;exact aB (hK))
theorem R3 {h g:dI} (hK:K (.agg #[I6 h.w,I6 h.st,I6 h.it]) (pt p [I6 h.w,I6 h.st,I6 h.it,I6 g.w,I6 g.st,I6 g.it,.slice A n c] 157::R)):CT 158 #[PO p] (pt p [I6 h.w,I6 h.st,I6 h.it,I6 g.w,I6 g.st,I6 g.it,.slice A n c] 157::R) K:=by
 refine aJ Tryz.func158 ?_
 repeat' (first|refine v30 ?_|refine w5 ?_ ?_|((refine bh fun h=>?_) <;> try exact w6 h)|(refine aF fun hA=>?_;subst hA)|intro _)
 all_goals(refine aC ?_;exact aB (hK))
theorem xV (hK:K (.agg #[I6 s.h.w,I6 s.h.st,I6 s.h.it]) (T1 p s::R)):CT 158 #[PO p] (T1 p s::R) K:=by
 unfold T1 at *
 repeat (first|refine aA.ex fun _=>?_|refine aA.sep ?_|refine aA.pure fun _=>?_)
 refine aJ Tryz.func158 ?_
 repeat' (first|refine v30 ?_|refine w5 ?_ ?_|((refine bh fun h=>?_) <;> try exact w6 h)|(refine aF fun hA=>?_;subst hA)|intro _)
 all_goals(refine aC ?_;exact aB (hK))
end
end Go.Proofs.YtffnpejdkkohcaaGreat
