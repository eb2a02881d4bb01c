/- A part of the proof: lemmas; each with the conditions that it states. -/
import Derived.Test.YtifgibijcmppmaaGreatNau
import Derived.Test.YtifgibijcmppmaaGreatNbc
import Derived.Test.YtifgibijcmppmaaGreatNan
set_option linter.unusedVariables false
set_option linter.unusedSimpArgs false
namespace Go.Proofs.YtifgibijcmppmaaGreat
open Go Go.Proofs Go.Sl
set_option maxRecDepth 100000
set_option maxHeartbeats 40000000
attribute [local irreducible] aN fB cJ bO aM aY aA dM dQ aW dK pt ro fF star sep bI
attribute [local irreducible] mp El
section
variable {R C:List HP} {K:Value→List HP→Prop}
section
variable {p:Nat} {s:F2} {a b t:eJ}
theorem Z9 (hK:K (.agg #[.int .i64 (MK a b).w,.int .i64 (MK a b).st,.int .i64 (MK a b).it]) R):aA Tryz.prog 146 #[.agg #[.int .i64 a.w,.int .i64 a.st,.int .i64 a.it],.agg #[.int .i64 b.w,.int .i64 b.st,.int .i64 b.it]] R K:=by
 simp only[MK] at hK
 refine aH Tryz.func146 ?_
 repeat' (first|refine v61 ?_|refine wr ?_|refine w5 ?_ ?_|((refine bh fun h=>?_) <;> try exact w6 h)|(refine aE fun hA=>?_;subst hA)|intro _)
 all_goals(refine aC ?_;exact aB (hK))
theorem Vh (hK:K (.agg #[.int .i64 s.g.w,.int .i64 s.g.st,.int .i64 s.g.it]) (PH p s::R)):aA Tryz.prog 42 #[.pointer (some ⟨p,0,none⟩)] (PH p s::R) K:=by
 unfold PH at *
 repeat (first|refine aA.ex fun _=>?_|refine aA.sep ?_|refine aA.pure fun _=>?_)
 refine aH Tryz.func42 ?_
 repeat' (first|refine v30 ?_|refine wr ?_|refine w5 ?_ ?_|((refine bh fun h=>?_) <;> try exact w6 h)|(refine aE fun hA=>?_;subst hA)|intro _)
 all_goals(refine aC ?_;exact aB (hK))
theorem Adc {l:List eJ} (h:l≠ []):∃x,l.getLast?=some x∧l[((l.length:Nat) - 1:Int).toNat]?=some x:=by
 have hl:0<l.length:=List.length_pos_iff.2 h
 refine⟨l[l.length - 1],?_,?_⟩
 ·rw[List.getLast?_eq_getElem?,List.getElem?_eq_getElem (by omega)]
 ·rw[show((l.length:Nat) - 1:Int).toNat=l.length - 1 by omega,List.getElem?_eq_getElem (by omega)]
theorem WG {h g:eJ} {l:List eJ} {A:Option Addr} {c:Nat} (hl:l.length≤1000) (hK:K (.agg #[.int .i64 (rM ⟨h,g,l⟩).w,.int .i64 (rM ⟨h,g,l⟩).st,.int .i64 (rM ⟨h,g,l⟩).it]) (pt p [.int .i64 h.w,.int .i64 h.st,.int .i64 h.it,.int .i64 g.w,.int .i64 g.st,.int .i64 g.it,.slice A l.length c] 207::bT A c 23 Fv l::R)):aA Tryz.prog 145 #[.pointer (some ⟨p,0,none⟩)] (pt p [.int .i64 h.w,.int .i64 h.st,.int .i64 h.it,.int .i64 g.w,.int .i64 g.st,.int .i64 g.it,.slice A l.length c] 207::bT A c 23 Fv l::R) K:=by
 by_cases hz:l= []
 ·have e:rM ⟨h,g,l⟩=h:=by unfold rM;rw[hz];rfl
  have hn:l.length=0:=by rw[hz];rfl
  rw[e] at hK
  refine aH Tryz.func145 ?_
  repeat' (first|refine XP ?_|refine wr ?_|refine w5 ?_ ?_|((refine bh fun h=>?_) <;> try exact w6 h)|(refine aE fun hA=>?_;subst hA)|intro _|(show aA _ 241 _ _ _;refine CA (h:=GK ?_))|(show aA _ 214 _ _ _;refine CA (h:=R8 ?_)))
  all_goals(refine aC ?_;exact aB (hK))
 ·obtain⟨x,h1,h2⟩:=Adc hz
  have hn:0<l.length:=List.length_pos_iff.2 hz
  have e:rM ⟨h,g,l⟩=x:=by unfold rM;rw[h1]
  rw[e] at hK
  refine aH Tryz.func145 ?_
  repeat' (first|refine XP ?_|refine wr ?_|refine w5 ?_ ?_|((refine bh fun h=>?_) <;> try exact w6 h)|(refine aE fun hA=>?_;subst hA)|intro _|(show aA _ 241 _ _ _;refine CA (h:=GK ?_)))
  all_goals(refine aC ?_;exact aB (hK))
def pQ:List (Nat×Nat):= [(0,0),(1,1),(2,1),(3,1),(4,0)]
def qB:List Nat:= [0,0,2,6,14,0,32,96,224,480,0,1024,3072,7168,15360,32766,0,65536,262142,524287,1048575,2097151]
def pA:List Nat:= [2097151,1048575,524287,262142,65536,0,32766,15360,7168,3072,1024,0,480,224,96,32,0,14,6,2,0,0]
def pL:List (Nat×Nat):= [(16,0),(17,1),(1,1),(2,1),(3,1),(4,1),(5,1),(6,1),(7,1),(8,1),(9,1),(10,1),(11,1),(12,1),(13,1),(14,1),(15,1),(18,1),(0,2),(19,0),(20,0),(21,1)]
def nX:List (Nat×Nat):= [(1,0),(2,0),(3,0),(4,0),(5,0),(6,0),(7,1),(0,1),(8,0),(9,0),(10,1)]
theorem EH (hl:s.l.length≤4) (hK:∀A c,K (.tuple #[.slice A (if iU s t=0 then MA (rM s) t else []).length c,.int .i64 (iU s t)]) (PH p (eK s t)::bT A c 148 nV (if iU s t=0 then MA (rM s) t else [])::R)):aA Tryz.prog 59 #[.pointer (some ⟨p,0,none⟩),.agg #[.int .i64 t.w,.int .i64 t.st,.int .i64 t.it]] (PH p s::R) K:=by
 obtain⟨h,g,l⟩:=s
 simp only at hl
 cases hc:sW t.w t.st t.it
 ·have e:iU ⟨h,g,l⟩ t=3:=by unfold iU;rw[hc];rfl
  have e2:eK ⟨h,g,l⟩ t=⟨h,g,l⟩:=by unfold eK;rw[e];rfl
  rw[e,e2] at hK
  simp only[show ¬((3:Int)=0) by decide,if_false] at hK
  unfold PH at *
  dsimp only at hK ⊢
  repeat (first|refine aA.ex fun _=>?_|refine aA.sep ?_|refine aA.pure fun _=>?_)
  refine aH Tryz.func59 ?_
  repeat' (first|refine v92 ?_|refine dw pQ ?_|refine Iu qB pA pL ?_|refine dw nX ?_|refine wr ?_|refine w5 ?_ ?_|((refine bh fun h=>?_) <;> try exact w6 h)|(refine aE fun hA=>?_;subst hA)|intro _|(show aA _ 143 _ _ _;refine CA (h:=u5 (v:=3) (by rw[hc];rfl) ?_)))
  all_goals(refine aC ?_;exact aB (hK none 0))
 ·by_cases h4:4≤l.length
  ·have e:iU ⟨h,g,l⟩ t=16:=by unfold iU;rw[hc,if_neg (by decide),if_pos h4]
   have e2:eK ⟨h,g,l⟩ t=⟨h,g,l⟩:=by unfold eK;rw[e];rfl
   rw[e,e2] at hK
   simp only[show ¬((16:Int)=0) by decide,if_false] at hK
   unfold PH at *
   dsimp only at hK ⊢
   repeat (first|refine aA.ex fun _=>?_|refine aA.sep ?_|refine aA.pure fun _=>?_)
   refine aH Tryz.func59 ?_
   repeat' (first|refine v92 ?_|refine dw pQ ?_|refine Iu qB pA pL ?_|refine dw nX ?_|refine wr ?_|refine w5 ?_ ?_|((refine bh fun h=>?_) <;> try exact w6 h)|(refine aE fun hA=>?_;subst hA)|intro _|(show aA _ 143 _ _ _;refine CA (h:=u5 (v:=0) (by rw[hc];rfl) ?_)))
   all_goals(refine aC ?_;exact aB (hK none 0))
  ·have e:iU ⟨h,g,l⟩ t=0:=by unfold iU;rw[hc,if_neg (by decide),if_neg h4]
   have e2:eK ⟨h,g,l⟩ t=⟨h,MK g t,l++ [t]⟩:=by unfold eK;rw[e];rfl
   rw[e,e2] at hK
   simp only[if_true] at hK
   unfold PH at *
   dsimp only at hK ⊢
   repeat (first|refine aA.ex fun _=>?_|refine aA.sep ?_|refine aA.pure fun _=>?_)
   refine iS (E:=Fv) (l:=l) (by((repeat (first|exact aV.here|apply aV.there)) <;> exact aV.here)) fun hf=>?_
   refine aH Tryz.func59 ?_
   have hdr:(l.drop (Int.toNat 0)).take (((l.length:Nat):Int).toNat - Int.toNat 0)=l:=by simp
   repeat' (first|(show aN _ _ _ _ _ _ _;refine iO (E:=Fv) (xs:=l) ?_;intro _;rw[hdr])|refine v92 ?_|refine dw pQ ?_|refine Iu qB pA pL ?_|refine dw nX ?_|refine wr ?_|refine w5 ?_ ?_|((refine bh fun h=>?_) <;> try exact w6 h)|(refine aE fun hA=>?_;subst hA)|intro _|(show aA _ 143 _ _ _;refine CA (h:=u5 (v:=0) (by rw[hc];rfl) ?_))|(show aA _ 145 _ _ _;refine CA (h:=WG (by omega) ?_))|(show aA _ 144 _ _ _;refine CA (h:=Ai6 (fun A9 c9=>?_)))|(show aA _ 146 _ _ _;refine CA (h:=Z9 (a:=g) (b:=t) ?_))|(show aN _ _ _ _ _ _ _;refine cY (E:=Fv) (ys:= [t]) ?_;intro _ _))
   all_goals(refine aC ?_;exact aB (hK _ _))
def vU:List (Nat×Nat):= [(0,0),(5,1),(1,1),(2,1),(3,1),(4,1),(6,1),(7,0)]
theorem Nv (hK:K (.tuple #[.agg #[.int .i64 (if s.l= [] then 0 else s.h.w),.int .i64 (if s.l= [] then 0 else s.h.st),.int .i64 (if s.l= [] then 0 else s.h.it)],.agg #[.int .i64 (if s.l= [] then 0 else(dG s).h.w),.int .i64 (if s.l= [] then 0 else(dG s).h.st),.int .i64 (if s.l= [] then 0 else(dG s).h.it)],.int .i64 (Am s)]) (PH p (dG s)::R)):aA Tryz.prog 249 #[.pointer (some ⟨p,0,none⟩)] (PH p s::R) K:=by
 obtain⟨h,g,l⟩:=s
 cases l with
 |nil=>
  simp only[dG,Am,if_true] at hK
  unfold PH at *
  dsimp only at hK ⊢
  repeat (first|refine aA.ex fun _=>?_|refine aA.sep ?_|refine aA.pure fun _=>?_)
  refine aH Tryz.func249 ?_
  repeat' (first|refine v73 ?_|refine dw vU ?_|refine wr ?_|refine w5 ?_ ?_|((refine bh fun h=>?_) <;> try exact w6 h)|(refine aE fun hA=>?_;subst hA)|intro _)
  all_goals(refine aC ?_;exact aB (hK))
 |cons x r=>
  simp only[dG,Am,reduceCtorEq,if_false] at hK
  have hx:(x::r)[(0:Int).toNat]?=some x:=rfl
  have hlen:0<(x::r).length:=Nat.succ_pos _
  unfold PH at *
  dsimp only at hK ⊢
  repeat (first|refine aA.ex fun _=>?_|refine aA.sep ?_|refine aA.pure fun _=>?_)
  refine aH Tryz.func249 ?_
  have hdr:((x::r).drop (Int.toNat 1)).take ((((x::r).length:Nat):Int).toNat - Int.toNat 1)=r:=by simp
  repeat' (first|(show aN _ _ _ _ _ _ _;refine iO (E:=Fv) (xs:=x::r) ?_;intro _;rw[hdr])|refine v73 ?_|refine dw vU ?_|refine wr ?_|refine w5 ?_ ?_|((refine bh fun h=>?_) <;> try exact w6 h)|(refine aE fun hA=>?_;subst hA)|intro _)
  all_goals(refine aC ?_;exact aB (hK))
end
end
section
variable {R C:List HP} {K:Value→List HP→Prop}
theorem xE {n mm:Int} (hK:K (.bool (decide (0≤n) && decide (n≤mm))) R):aA Tryz.prog 239 #[.int .i64 n,.int .i64 mm] R K:=by
 refine aH Tryz.func239 ?_
 repeat' (first|refine v1 ?_|refine wr ?_|refine w5 ?_ ?_|((refine bh fun h=>?_) <;> try exact w6 h)|(refine aE fun hA=>?_;subst hA)|intro _)
 all_goals(refine aC ?_;exact aB (kb hK (by simp <;> omega)))
def R7 (s:eJ) (p:Pr):eJ:=if p.i=1 then⟨p.v,s.st,s.it⟩ else if p.i=2 then⟨s.w,p.v,s.it⟩ else if p.i=3 then⟨s.w,s.st,p.v⟩ else s
def XK:eJ→List Pr→Option eJ
 |s,[]=>some s
 |s,p::ps=>if 0≤p.v∧p.v≤2147483647 then XK (R7 s p) ps else none
theorem Ain {s:eJ} {ps:List Pr} {j:Nat} {p:Pr} (h:ps[j]?=some p):XK s (ps.drop j)=if 0≤p.v∧p.v≤2147483647 then XK (R7 s p) (ps.drop (j+1)) else none:=by
 have hj:=(List.getElem?_eq_some_iff.1 h).1
 rw[List.drop_eq_getElem_cons hj]
 have:=(List.getElem?_eq_some_iff.1 h).2
 rw[this]
 rfl
def paV (o:Option eJ):Value:=match o with
 |some s=>.tuple #[.agg #[.int .i64 s.w,.int .i64 s.st,.int .i64 s.it],.int .i64 0]
 |none=>.tuple #[.agg #[.int .i64 0,.int .i64 0,.int .i64 0],.int .i64 4]
theorem Fp {s:eJ} {A:Option Addr} {n c:Nat} {ps:List Pr} (hv:cZ R A nV ps) (hn:ps.length=n) (hs:n≤1000000) (hK:K (paV (XK s ps)) R):aA Tryz.prog 247 #[.agg #[.int .i64 s.w,.int .i64 s.st,.int .i64 s.it],.slice A n c] R K:=by
 subst hn
 refine aH Tryz.func247 ?_
 repeat' (first|refine TR ?_|refine wr ?_|refine w5 ?_ ?_|((refine bh fun h=>?_) <;> try exact w6 h)|(refine aE fun hA=>?_;subst hA)|intro _)
 rename_i r2 r4
 refine iF (fun kk a C'=>∃(j:Nat) (z:eJ),j+kk=ps.length∧XK s ps=XK z (ps.drop j)∧cN a [(2,.pointer (some ⟨r2,0,none⟩)),(4,.pointer (some ⟨r4,0,none⟩)),(8,.slice A ps.length c),(9,.int .i64 ps.length),(10,.int .i64 j)]∧C'=pt r4 [.int .i64 0,.int .i64 0,.int .i64 0] 23::pt r2 [.int .i64 z.w,.int .i64 z.st,.int .i64 z.it] 23::R) ps.length (b9 ps.length ⟨0,s,by omega,rfl,⟨rfl,rfl,rfl,rfl,rfl,trivial⟩,rfl⟩ (by omega)) ?_
 rintro kk a C' ⟨j,z,hj,hap,ha,rfl⟩
 have hv':cZ (pt r4 [.int .i64 0,.int .i64 0,.int .i64 0] 23::pt r2 [.int .i64 z.w,.int .i64 z.st,.int .i64 z.it] 23::R) A nV ps:=bB (bB hv)
 refine gF _ ha ?_
 simp only[eQ]
 by_cases hlt:j<ps.length
 ·obtain⟨p,hp⟩:∃p,ps[j]?=some p:=⟨_,List.getElem?_eq_getElem hlt⟩
  rw[Ain hp] at hap
  by_cases hw:0≤p.v∧p.v≤2147483647
  ·rw[if_pos hw] at hap
   have hwd:(decide (0≤p.v) && decide (p.v≤2147483647))=true:=by simp[hw]
   by_cases h1:p.i=1
   ·have e:R7 z p=⟨p.v,z.st,z.it⟩:=by unfold R7;rw[if_pos h1]
    rw[e] at hap
    repeat' (first|(show aN _ _ _ _ _ _ _;refine wS ?_ (hv:=hv');intro _ _ hA;subst hA)|refine TR ?_|refine wr ?_|refine w5 ?_ ?_|((refine bh fun h=>?_) <;> try exact w6 h)|(refine aE fun hA=>?_;subst hA)|intro _|(show aA _ 239 _ _ _;refine CA (h:=xE ?_);rw[hwd]))
    all_goals(show aW _ _ _ _;exact b9 (kk - 1) ⟨j+1,_,by omega,hap,⟨rfl,rfl,rfl,rfl,rfl,trivial⟩,rfl⟩)
   ·by_cases h2:p.i=2
    ·have e:R7 z p=⟨z.w,p.v,z.it⟩:=by unfold R7;rw[if_neg h1,if_pos h2]
     rw[e] at hap
     repeat' (first|(show aN _ _ _ _ _ _ _;refine wS ?_ (hv:=hv');intro _ _ hA;subst hA)|refine TR ?_|refine wr ?_|refine w5 ?_ ?_|((refine bh fun h=>?_) <;> try exact w6 h)|(refine aE fun hA=>?_;subst hA)|intro _|(show aA _ 239 _ _ _;refine CA (h:=xE ?_);rw[hwd]))
     all_goals(show aW _ _ _ _;exact b9 (kk - 1) ⟨j+1,_,by omega,hap,⟨rfl,rfl,rfl,rfl,rfl,trivial⟩,rfl⟩)
    ·by_cases h3:p.i=3
     ·have e:R7 z p=⟨z.w,z.st,p.v⟩:=by unfold R7;rw[if_neg h1,if_neg h2,if_pos h3]
      rw[e] at hap
      repeat' (first|(show aN _ _ _ _ _ _ _;refine wS ?_ (hv:=hv');intro _ _ hA;subst hA)|refine TR ?_|refine wr ?_|refine w5 ?_ ?_|((refine bh fun h=>?_) <;> try exact w6 h)|(refine aE fun hA=>?_;subst hA)|intro _|(show aA _ 239 _ _ _;refine CA (h:=xE ?_);rw[hwd]))
      all_goals(show aW _ _ _ _;exact b9 (kk - 1) ⟨j+1,_,by omega,hap,⟨rfl,rfl,rfl,rfl,rfl,trivial⟩,rfl⟩)
     ·have e:R7 z p=z:=by unfold R7;rw[if_neg h1,if_neg h2,if_neg h3]
      rw[e] at hap
      repeat' (first|(show aN _ _ _ _ _ _ _;refine wS ?_ (hv:=hv');intro _ _ hA;subst hA)|refine TR ?_|refine wr ?_|refine w5 ?_ ?_|((refine bh fun h=>?_) <;> try exact w6 h)|(refine aE fun hA=>?_;subst hA)|intro _|(show aA _ 239 _ _ _;refine CA (h:=xE ?_);rw[hwd]))
      all_goals(show aW _ _ _ _;exact b9 (kk - 1) ⟨j+1,_,by omega,hap,⟨rfl,rfl,rfl,rfl,rfl,trivial⟩,rfl⟩)
  ·rw[if_neg hw] at hap
   rw[hap] at hK
   have hwd:(decide (0≤p.v) && decide (p.v≤2147483647))=false:=by
    rw[Bool.and_eq_false_iff];simp only[decide_eq_false_iff_not];omega
   repeat' (first|(show aN _ _ _ _ _ _ _;refine wS ?_ (hv:=hv');intro _ _ hA;subst hA)|refine TR ?_|refine wr ?_|refine w5 ?_ ?_|((refine bh fun h=>?_) <;> try exact w6 h)|(refine aE fun hA=>?_;subst hA)|intro _|(show aA _ 239 _ _ _;refine CA (h:=xE ?_);rw[hwd]))
   all_goals(refine aC ?_;exact aB (hK))
 ·have hjl:j=ps.length:=by omega
  rw[List.drop_eq_nil_of_le (by omega)] at hap
  rw[hap] at hK
  repeat' (first|refine TR ?_|refine wr ?_|refine w5 ?_ ?_|((refine bh fun h=>?_) <;> try exact w6 h)|(refine aE fun hA=>?_;subst hA)|intro _)
  all_goals(refine aC ?_;exact aB (hK))
theorem Iv (hK:K (.agg #[.int .i64 64,.int .i64 8,.int .i64 4]) R):aA Tryz.prog 47 #[] R K:=by
 refine aH Tryz.func47 ?_
 repeat' (first|refine v5 ?_|refine wr ?_|refine w5 ?_ ?_|((refine bh fun h=>?_) <;> try exact w6 h)|(refine aE fun hA=>?_;subst hA)|intro _)
 all_goals(refine aC ?_;exact aB (hK))
def Ci:List (Nat×Nat):= [(0,0),(1,0),(2,0),(3,0),(4,0),(5,0),(6,0),(7,0),(8,0),(9,0)]
theorem ES {p:Nat} {d:Dr} (hK:K (.tuple #[.int .i64 d.la,.bool d.se]) (CS p d::R)):aA Tryz.prog 201 #[.pointer (some ⟨p,0,none⟩)] (CS p d::R) K:=by
 obtain⟨se,go,ov,la,th,co⟩:=d
 simp only[CS] at hK ⊢
 refine aH Tryz.func201 ?_
 repeat' (first|refine v4 ?_|refine dw Ci ?_|refine wr ?_|refine w5 ?_ ?_|((refine bh fun h=>?_) <;> try exact w6 h)|(refine aE fun hA=>?_;subst hA)|intro _)
 all_goals(refine aC ?_;exact aB (hK))
theorem XX {s t:ByteArray} (h:s.toList=t.toList):s=t:=by
 rw[ByteArray.toList_eq,ByteArray.toList_eq] at h
 exact ByteArray.ext (Array.toList_inj.1 h)
structure Bt where
 ev:Int
 wa:Int
 no:Int
 he:Int
 ou:Bool
 lo:Bool
 si:Int
 nn:Int
def btP (p:Nat) (b:Bt):HP:=mU p b.ev b.wa b.no b.he b.ou b.lo b.si b.nn
def bQ (b:Bt) (now:Int):Bt:= { b with no:=max b.no now,he:=max b.no now }
def Afc (b:Bt):Prop:=(0≤b.no∧b.no≤100000000000)∧(0≤b.he∧b.he≤100000000000)∧(0≤b.si∧b.si≤100000000000)∧0≤b.nn∧b.nn≤100000000000
def lM (b:Bt) (now:Int) (s:ByteArray):Bt:=if b.ou=true∧s=wE b.nn then { b with no:=max b.no now,he:=max b.no now,ou:=false } else b
section
variable {p:Nat} {b:Bt} {now:Int} {s:ByteArray}
theorem dI (hK:K (.tuple #[]) (btP p (bQ b now)::R)):aA Tryz.prog 161 #[.pointer (some ⟨p,0,none⟩),.int .i64 now] (btP p b::R) K:=Og hK
theorem Xf (hb:Afc b) (hK:∀v,K v (btP p (lM b now s)::R)):aA Tryz.prog 165 #[.pointer (some ⟨p,0,none⟩),.int .i64 now,.string s] (btP p b::R) K:=by
 obtain⟨ev,wa,no,he,ou,lo,si,nn⟩:=b
 obtain⟨h1,h2,h3,h4⟩:=hb
 simp only at h1 h2 h3 h4
 cases ou
 ·have e:lM ⟨ev,wa,no,he,false,lo,si,nn⟩ now s=⟨ev,wa,no,he,false,lo,si,nn⟩:=by unfold lM;rw[if_neg (by simp)]
  rw[e] at hK
  exact Aae rfl (hK _)
 ·by_cases hs:s=wE nn
  ·have e:lM ⟨ev,wa,no,he,true,lo,si,nn⟩ now s=⟨ev,wa,max no now,max no now,false,lo,si,nn⟩:=by unfold lM;rw[if_pos ⟨rfl,hs⟩]
   rw[e] at hK
   subst hs
   exact Yk rfl h4.1 (hK _)
  ·have e:lM ⟨ev,wa,no,he,true,lo,si,nn⟩ now s=⟨ev,wa,no,he,true,lo,si,nn⟩:=by unfold lM;rw[if_neg (fun q=>hs q.2)]
   rw[e] at hK
   simp only[btP,mU] at hK ⊢
   have hne:(s.toList == (wE nn).toList)=false:=beq_eq_false_iff_ne.2 fun q=>hs (XX q)
   have hne':(!s.toList == (wE nn).toList)=true:=by rw[hne];rfl
   have hn4:=h4.1
   refine aH Tryz.func165 ?_
   repeat' (first|refine MU ?_|refine wr ?_|refine w5 ?_ ?_|((refine bh fun h=>?_) <;> try exact w6 h)|(refine aE fun hA=>?_;subst hA)|intro _|(show aA _ 251 _ _ _;refine CA (h:=D1 hn4 ?_)))
   all_goals(refine aC ?_;exact aB (hK _))
def Qy (b:Bt) (now:Int):Int:=if b.ev=0 then 0 else Ay b.ev b.wa b.he b.ou b.lo b.si (max b.no now)
def btD (b:Bt) (now:Int):ByteArray:=if Qy b now=1 then wE (b.nn+1) else⟨#[]⟩
def iA (b:Bt) (now:Int):Bt:=if b.ev=0 then b else if Qy b now=1 then { b with no:=max b.no now,ou:=true,si:=max b.no now,nn:=b.nn+1 } else if Qy b now=2 then { b with no:=max b.no now,lo:=true } else { b with no:=max b.no now }
theorem XC (hb:Afc b) (hn:0≤now∧now≤100000000000) (hK:K (.tuple #[.int .i64 (Qy b now),.string (btD b now)]) (btP p (iA b now)::R)):aA Tryz.prog 181 #[.pointer (some ⟨p,0,none⟩),.int .i64 now] (btP p b::R) K:=by
 obtain⟨ev,wa,no,he,ou,lo,si,nn⟩:=b
 obtain⟨h1,h2,h3,h4⟩:=hb
 simp only at h1 h2 h3 h4
 by_cases h0:ev=0
 ·simp only[Qy,btD,iA,if_pos h0] at hK
  exact SJ h0 hK
 ·change aA Tryz.prog 181 #[.pointer (some ⟨p,0,none⟩),.int .i64 now] (mU p ev wa no he ou lo si nn::R) K
  have hst:Ay ev wa he ou lo si (max no now)=0∨Ay ev wa he ou lo si (max no now)=1∨Ay ev wa he ou lo si (max no now)=2:=by
   unfold Ay
   split
   ·exact .inr (.inr rfl)
   ·split
    ·exact .inl rfl
    ·exact .inr (.inl rfl)
  rcases hst with hk|hk|hk
  ·simp only[Qy,btD,iA,if_neg h0,hk] at hK
   exact Aal hk rfl h0 (by omega) (by omega) (by omega) (by omega) hK
  ·simp only[Qy,btD,iA,if_neg h0,hk] at hK
   exact Aaf hk rfl h0 (by omega) (by omega) (by omega) (by omega) hK
  ·simp only[Qy,btD,iA,if_neg h0,hk] at hK
   exact Abn hk rfl h0 (by omega) (by omega) (by omega) (by omega) hK
theorem Ym {e w:Int} (he:0≤e∧e≤1048576) (hw:0≤w∧w≤1048576) (hK:∀p,K (.tuple #[.pointer (some ⟨p,0,none⟩),.int .i64 0]) (btP p ⟨e,w,0,0,false,false,0,0⟩::R)):aA Tryz.prog 53 #[.int .i64 e,.int .i64 w] R K:=RE he hw hK
end
end
end Go.Proofs.YtifgibijcmppmaaGreat
