/- A part of the proof: lemmas; each with the conditions that it states. -/
import Derived.Test.YtifgibijcmppmaaGreatUbb
import Derived.Test.YtifgibijcmppmaaGreatUbc
import Derived.Test.YtifgibijcmppmaaGreatUao
set_option linter.unusedVariables false
set_option linter.unusedSimpArgs false
set_option maxRecDepth 100000
set_option maxHeartbeats 40000000
namespace Go.Proofs.YtifgibijcmppmaaGreat
open Go Go.Proofs Go.Sl
attribute [local irreducible] aN fN cX bP aM aX aA dS dV aT dU pt ro eV star sep bH
attribute [local irreducible] mp ED
section
variable {R C:List HP} {K:KP}
section
variable {p:Nat} {s:Gh} {a b t:eJ}
theorem Abv (hK:K (.agg #[I6 (M7 a b).w,I6 (M7 a b).st,I6 (M7 a b).it]) R):CT 146 #[.agg #[I6 a.w,I6 a.st,I6 a.it],.agg #[I6 b.w,I6 b.st,I6 b.it]] R K:=by
 simp only[M7] at hK
 refine aH Tryz.func146 ?_
 repeat' (first|refine v61 ?_|refine w5 ?_ ?_|((refine bh fun h=>?_) <;> try exact w6 h)|(refine aE fun hA=>?_;subst hA)|intro _)
 all_goals(refine aC ?_;exact aB (hK))
theorem Wb (hK:K (.agg #[I6 s.g.w,I6 s.g.st,I6 s.g.it]) (NR p s::R)):CT 42 #[PO p] (NR p s::R) K:=by
 unfold NR at *
 repeat (first|refine aA.ex fun _=>?_|refine aA.sep ?_|refine aA.pure fun _=>?_)
 refine aH Tryz.func42 ?_
 repeat' (first|refine v30 ?_|refine w5 ?_ ?_|((refine bh fun h=>?_) <;> try exact w6 h)|(refine aE fun hA=>?_;subst hA)|intro _)
 all_goals(refine aC ?_;exact aB (hK))
theorem Ahp {l:List eJ} (h:l≠ []):∃x,l.getLast?=some x∧l[((l.length:Nat) - 1:Int).toNat]?=some x:=by
 have hl:0<l.length:=List.length_pos_iff.2 h
 refine⟨l[l.length - 1],?_,?_⟩
 ·rw[List.getLast?_eq_getElem?,List.getElem?_eq_getElem (by omega)]
 ·rw[show((l.length:Nat) - 1:Int).toNat=l.length - 1 by omega,List.getElem?_eq_getElem (by omega)]
theorem Wh {h g:eJ} {l:List eJ} {A:Option Addr} {c:Nat} (hl:l.length≤1000) (hK:K (.agg #[I6 (rU ⟨h,g,l⟩).w,I6 (rU ⟨h,g,l⟩).st,I6 (rU ⟨h,g,l⟩).it]) (pt p [I6 h.w,I6 h.st,I6 h.it,I6 g.w,I6 g.st,I6 g.it,.slice A l.length c] 207::bQ A c 23 FV l::R)):CT 145 #[PO p] (pt p [I6 h.w,I6 h.st,I6 h.it,I6 g.w,I6 g.st,I6 g.it,.slice A l.length c] 207::bQ A c 23 FV l::R) K:=by
 by_cases hz:l= []
 ·have e:rU ⟨h,g,l⟩=h:=by unfold rU;rw[hz];rfl
  have hn:l.length=0:=by rw[hz];rfl
  rw[e] at hK
  refine aH Tryz.func145 ?_
  repeat' (first|refine v71 ?_|refine w5 ?_ ?_|((refine bh fun h=>?_) <;> try exact w6 h)|(refine aE fun hA=>?_;subst hA)|intro _|(show aA _ 241 _ _ _;refine CA (h:=HV ?_))|(show aA _ 214 _ _ _;refine CA (h:=SF ?_)))
  all_goals(refine aC ?_;exact aB (hK))
 ·obtain⟨x,h1,h2⟩:=Ahp hz
  have hn:0<l.length:=List.length_pos_iff.2 hz
  have e:rU ⟨h,g,l⟩=x:=by unfold rU;rw[h1]
  rw[e] at hK
  refine aH Tryz.func145 ?_
  repeat' (first|refine v71 ?_|refine w5 ?_ ?_|((refine bh fun h=>?_) <;> try exact w6 h)|(refine aE fun hA=>?_;subst hA)|intro _|(show aA _ 241 _ _ _;refine CA (h:=HV ?_)))
  all_goals(refine aC ?_;exact aB (hK))
def oV:List (Nat×Nat):= [(0,0),(1,1),(2,1),(3,1),(4,0)]
def pP:List Nat:= [0,0,2,6,14,0,32,96,224,480,0,1024,3072,7168,15360,32766,0,65536,262142,524287,1048575,2097151]
def pM:List Nat:= [2097151,1048575,524287,262142,65536,0,32766,15360,7168,3072,1024,0,480,224,96,32,0,14,6,2,0,0]
def oW:List (Nat×Nat):= [(16,0),(17,1),(1,1),(2,1),(3,1),(4,1),(5,1),(6,1),(7,1),(8,1),(9,1),(10,1),(11,1),(12,1),(13,1),(14,1),(15,1),(18,1),(0,2),(19,0),(20,0),(21,1)]
def nU:List (Nat×Nat):= [(1,0),(2,0),(3,0),(4,0),(5,0),(6,0),(7,1),(0,1),(8,0),(9,0),(10,1)]
theorem Fy (hl:s.l.length≤4) (hK:∀A c,K (.tuple #[.slice A (if iJ s t=0 then NE (rU s) t else []).length c,I6 (iJ s t)]) (NR p (eF s t)::bQ A c 148 rE (if iJ s t=0 then NE (rU s) t else [])::R)):CT 59 #[PO p,.agg #[I6 t.w,I6 t.st,I6 t.it]] (NR p s::R) K:=by
 obtain⟨h,g,l⟩:=s
 simp only at hl
 cases hc:rY t.w t.st t.it
 ·have e:iJ ⟨h,g,l⟩ t=3:=by unfold iJ;rw[hc];rfl
  have e2:eF ⟨h,g,l⟩ t=⟨h,g,l⟩:=by unfold eF;rw[e];rfl
  rw[e,e2] at hK
  simp only[show ¬((3:Int)=0) by decide,if_false] at hK
  unfold NR at *
  dsimp only at hK ⊢
  repeat (first|refine aA.ex fun _=>?_|refine aA.sep ?_|refine aA.pure fun _=>?_)
  refine aH Tryz.func59 ?_
  repeat' (first|refine v92 ?_|refine dw oV ?_|refine Gp pP pM oW ?_|refine dw nU ?_|refine w5 ?_ ?_|((refine bh fun h=>?_) <;> try exact w6 h)|(refine aE fun hA=>?_;subst hA)|intro _|(show aA _ 143 _ _ _;refine CA (h:=uL (v:=3) (by rw[hc];rfl) ?_)))
  all_goals(refine aC ?_;exact aB (hK none 0))
 ·by_cases h4:4≤l.length
  ·have e:iJ ⟨h,g,l⟩ t=16:=by unfold iJ;rw[hc,if_neg (by decide),if_pos h4]
   have e2:eF ⟨h,g,l⟩ t=⟨h,g,l⟩:=by unfold eF;rw[e];rfl
   rw[e,e2] at hK
   simp only[show ¬((16:Int)=0) by decide,if_false] at hK
   unfold NR at *
   dsimp only at hK ⊢
   repeat (first|refine aA.ex fun _=>?_|refine aA.sep ?_|refine aA.pure fun _=>?_)
   refine aH Tryz.func59 ?_
   repeat' (first|refine v92 ?_|refine dw oV ?_|refine Gp pP pM oW ?_|refine dw nU ?_|refine w5 ?_ ?_|((refine bh fun h=>?_) <;> try exact w6 h)|(refine aE fun hA=>?_;subst hA)|intro _|(show aA _ 143 _ _ _;refine CA (h:=uL (v:=0) (by rw[hc];rfl) ?_)))
   all_goals(refine aC ?_;exact aB (hK none 0))
  ·have e:iJ ⟨h,g,l⟩ t=0:=by unfold iJ;rw[hc,if_neg (by decide),if_neg h4]
   have e2:eF ⟨h,g,l⟩ t=⟨h,M7 g t,l++ [t]⟩:=by unfold eF;rw[e];rfl
   rw[e,e2] at hK
   simp only[if_true] at hK
   unfold NR at *
   dsimp only at hK ⊢
   repeat (first|refine aA.ex fun _=>?_|refine aA.sep ?_|refine aA.pure fun _=>?_)
   refine iK (E:=FV) (l:=l) (by((repeat (first|exact aV.here|apply aV.there)) <;> exact aV.here)) fun hf=>?_
   refine aH Tryz.func59 ?_
   have hdr:(l.drop (Int.toNat 0)).take (((l.length:Nat):Int).toNat - Int.toNat 0)=l:=by simp
   repeat' (first|(show aN _ _ _ _ _ _ _;refine iE (E:=FV) (xs:=l) ?_;intro _;rw[hdr])|refine v92 ?_|refine dw oV ?_|refine Gp pP pM oW ?_|refine dw nU ?_|refine w5 ?_ ?_|((refine bh fun h=>?_) <;> try exact w6 h)|(refine aE fun hA=>?_;subst hA)|intro _|(show aA _ 143 _ _ _;refine CA (h:=uL (v:=0) (by rw[hc];rfl) ?_))|(show aA _ 145 _ _ _;refine CA (h:=Wh (by omega) ?_))|(show aA _ 144 _ _ _;refine CA (h:=Akd (fun A9 c9=>?_)))|(show aA _ 146 _ _ _;refine CA (h:=Abv (a:=g) (b:=t) ?_))|(show aN _ _ _ _ _ _ _;refine cU (E:=FV) (ys:= [t]) ?_;intro _ _))
   all_goals(refine aC ?_;exact aB (hK _ _))
def vM:List (Nat×Nat):= [(0,0),(5,1),(1,1),(2,1),(3,1),(4,1),(6,1),(7,0)]
theorem PT (hK:K (.tuple #[.agg #[I6 (if s.l= [] then 0 else s.h.w),I6 (if s.l= [] then 0 else s.h.st),I6 (if s.l= [] then 0 else s.h.it)],.agg #[I6 (if s.l= [] then 0 else(dD s).h.w),I6 (if s.l= [] then 0 else(dD s).h.st),I6 (if s.l= [] then 0 else(dD s).h.it)],I6 (Ax s)]) (NR p (dD s)::R)):CT 249 #[PO p] (NR p s::R) K:=by
 obtain⟨h,g,l⟩:=s
 cases l with
 |nil=>
  simp only[dD,Ax,if_true] at hK
  unfold NR at *
  dsimp only at hK ⊢
  repeat (first|refine aA.ex fun _=>?_|refine aA.sep ?_|refine aA.pure fun _=>?_)
  refine aH Tryz.func249 ?_
  repeat' (first|refine v73 ?_|refine dw vM ?_|refine w5 ?_ ?_|((refine bh fun h=>?_) <;> try exact w6 h)|(refine aE fun hA=>?_;subst hA)|intro _)
  all_goals(refine aC ?_;exact aB (hK))
 |cons x r=>
  simp only[dD,Ax,reduceCtorEq,if_false] at hK
  have hx:(x::r)[(0:Int).toNat]?=some x:=rfl
  have hlen:0<(x::r).length:=Nat.succ_pos _
  unfold NR at *
  dsimp only at hK ⊢
  repeat (first|refine aA.ex fun _=>?_|refine aA.sep ?_|refine aA.pure fun _=>?_)
  refine aH Tryz.func249 ?_
  have hdr:((x::r).drop (Int.toNat 1)).take ((((x::r).length:Nat):Int).toNat - Int.toNat 1)=r:=by simp
  repeat' (first|(show aN _ _ _ _ _ _ _;refine iE (E:=FV) (xs:=x::r) ?_;intro _;rw[hdr])|refine v73 ?_|refine dw vM ?_|refine w5 ?_ ?_|((refine bh fun h=>?_) <;> try exact w6 h)|(refine aE fun hA=>?_;subst hA)|intro _)
  all_goals(refine aC ?_;exact aB (hK))
end
end
section
variable {R C:List HP} {K:KP}
theorem wO {n mm:Int} (hK:K (.bool (decide (0≤n) && decide (n≤mm))) R):CT 239 #[I6 n,I6 mm] R K:=by
 refine aH Tryz.func239 ?_
 repeat' (first|refine v1 ?_|refine w5 ?_ ?_|((refine bh fun h=>?_) <;> try exact w6 h)|(refine aE fun hA=>?_;subst hA)|intro _)
 all_goals(refine aC ?_;exact aB (kb hK (by simp <;> omega)))
def Ry (s:eJ) (p:Pr):eJ:=if p.i=1 then⟨p.v,s.st,s.it⟩ else if p.i=2 then⟨s.w,p.v,s.it⟩ else if p.i=3 then⟨s.w,s.st,p.v⟩ else s
def Yy:eJ→List Pr→Option eJ
 |s,[]=>some s
 |s,p::ps=>if 0≤p.v∧p.v≤2147483647 then Yy (Ry s p) ps else none
theorem Akj {s:eJ} {ps:List Pr} {j:Nat} {p:Pr} (h:ps[j]?=some p):Yy s (ps.drop j)=if 0≤p.v∧p.v≤2147483647 then Yy (Ry s p) (ps.drop (j+1)) else none:=by
 have hj:=(List.getElem?_eq_some_iff.1 h).1
 rw[List.drop_eq_getElem_cons hj]
 have:=(List.getElem?_eq_some_iff.1 h).2
 rw[this]
 rfl
def paV (o:Option eJ):Value:=match o with
 |some s=>.tuple #[.agg #[I6 s.w,I6 s.st,I6 s.it],I6 0]
 |none=>.tuple #[.agg #[I6 0,I6 0,I6 0],I6 4]
theorem FK {s:eJ} {A:Option Addr} {n c:Nat} {ps:List Pr} (hv:dT R A rE ps) (hn:ps.length=n) (hs:n≤1000000) (hK:K (paV (Yy s ps)) R):CT 247 #[.agg #[I6 s.w,I6 s.st,I6 s.it],.slice A n c] R K:=by
 subst hn
 refine aH Tryz.func247 ?_
 repeat' (first|refine Jq ?_|refine w5 ?_ ?_|((refine bh fun h=>?_) <;> try exact w6 h)|(refine aE fun hA=>?_;subst hA)|intro _)
 rename_i r2 r4
 refine fZ (fun kk a C'=>∃(j:Nat) (z:eJ),j+kk=ps.length∧Yy s ps=Yy z (ps.drop j)∧cJ a [(2,PO r2),(4,PO r4),(8,.slice A ps.length c),(9,I6 ps.length),(10,I6 j)]∧C'=pt r4 [I6 0,I6 0,I6 0] 23::pt r2 [I6 z.w,I6 z.st,I6 z.it] 23::R) ps.length (bV ps.length ⟨0,s,by omega,rfl,⟨rfl,rfl,rfl,rfl,rfl,trivial⟩,rfl⟩ (by omega)) ?_
 rintro kk a C' ⟨j,z,hj,hap,ha,rfl⟩
 have hv':dT (pt r4 [I6 0,I6 0,I6 0] 23::pt r2 [I6 z.w,I6 z.st,I6 z.it] 23::R) A rE ps:=bM (bM hv)
 refine fP _ ha ?_
 simp only[eP]
 by_cases hlt:j<ps.length
 ·obtain⟨p,hp⟩:∃p,ps[j]?=some p:=⟨_,List.getElem?_eq_getElem hlt⟩
  rw[Akj hp] at hap
  by_cases hw:0≤p.v∧p.v≤2147483647
  ·rw[if_pos hw] at hap
   have hwd:(decide (0≤p.v) && decide (p.v≤2147483647))=true:=by simp[hw]
   by_cases h1:p.i=1
   ·have e:Ry z p=⟨p.v,z.st,z.it⟩:=by unfold Ry;rw[if_pos h1]
    rw[e] at hap
    repeat' (first|(show aN _ _ _ _ _ _ _;refine xK ?_ (hv:=hv');intro _ _ hA;subst hA)|refine Jq ?_|refine w5 ?_ ?_|((refine bh fun h=>?_) <;> try exact w6 h)|(refine aE fun hA=>?_;subst hA)|intro _|(show aA _ 239 _ _ _;refine CA (h:=wO ?_);rw[hwd]))
    all_goals(show aT _ _ _ _;exact bV (kk - 1) ⟨j+1,_,by omega,hap,⟨rfl,rfl,rfl,rfl,rfl,trivial⟩,rfl⟩)
   ·by_cases h2:p.i=2
    ·have e:Ry z p=⟨z.w,p.v,z.it⟩:=by unfold Ry;rw[if_neg h1,if_pos h2]
     rw[e] at hap
     repeat' (first|(show aN _ _ _ _ _ _ _;refine xK ?_ (hv:=hv');intro _ _ hA;subst hA)|refine Jq ?_|refine w5 ?_ ?_|((refine bh fun h=>?_) <;> try exact w6 h)|(refine aE fun hA=>?_;subst hA)|intro _|(show aA _ 239 _ _ _;refine CA (h:=wO ?_);rw[hwd]))
     all_goals(show aT _ _ _ _;exact bV (kk - 1) ⟨j+1,_,by omega,hap,⟨rfl,rfl,rfl,rfl,rfl,trivial⟩,rfl⟩)
    ·by_cases h3:p.i=3
     ·have e:Ry z p=⟨z.w,z.st,p.v⟩:=by unfold Ry;rw[if_neg h1,if_neg h2,if_pos h3]
      rw[e] at hap
      repeat' (first|(show aN _ _ _ _ _ _ _;refine xK ?_ (hv:=hv');intro _ _ hA;subst hA)|refine Jq ?_|refine w5 ?_ ?_|((refine bh fun h=>?_) <;> try exact w6 h)|(refine aE fun hA=>?_;subst hA)|intro _|(show aA _ 239 _ _ _;refine CA (h:=wO ?_);rw[hwd]))
      all_goals(show aT _ _ _ _;exact bV (kk - 1) ⟨j+1,_,by omega,hap,⟨rfl,rfl,rfl,rfl,rfl,trivial⟩,rfl⟩)
     ·have e:Ry z p=z:=by unfold Ry;rw[if_neg h1,if_neg h2,if_neg h3]
      rw[e] at hap
      repeat' (first|(show aN _ _ _ _ _ _ _;refine xK ?_ (hv:=hv');intro _ _ hA;subst hA)|refine Jq ?_|refine w5 ?_ ?_|((refine bh fun h=>?_) <;> try exact w6 h)|(refine aE fun hA=>?_;subst hA)|intro _|(show aA _ 239 _ _ _;refine CA (h:=wO ?_);rw[hwd]))
      all_goals(show aT _ _ _ _;exact bV (kk - 1) ⟨j+1,_,by omega,hap,⟨rfl,rfl,rfl,rfl,rfl,trivial⟩,rfl⟩)
  ·rw[if_neg hw] at hap
   rw[hap] at hK
   have hwd:(decide (0≤p.v) && decide (p.v≤2147483647))=false:=by
    rw[Bool.and_eq_false_iff];simp only[decide_eq_false_iff_not];omega
   repeat' (first|(show aN _ _ _ _ _ _ _;refine xK ?_ (hv:=hv');intro _ _ hA;subst hA)|refine Jq ?_|refine w5 ?_ ?_|((refine bh fun h=>?_) <;> try exact w6 h)|(refine aE fun hA=>?_;subst hA)|intro _|(show aA _ 239 _ _ _;refine CA (h:=wO ?_);rw[hwd]))
   all_goals(refine aC ?_;exact aB (hK))
 ·have hjl:j=ps.length:=by omega
  rw[List.drop_eq_nil_of_le (by omega)] at hap
  rw[hap] at hK
  repeat' (first|refine Jq ?_|refine w5 ?_ ?_|((refine bh fun h=>?_) <;> try exact w6 h)|(refine aE fun hA=>?_;subst hA)|intro _)
  all_goals(refine aC ?_;exact aB (hK))
theorem Hn (hK:K (.agg #[I6 64,I6 8,I6 4]) R):CT 47 #[] R K:=by
 refine aH Tryz.func47 ?_
 repeat' (first|refine v5 ?_|refine w5 ?_ ?_|((refine bh fun h=>?_) <;> try exact w6 h)|(refine aE fun hA=>?_;subst hA)|intro _)
 all_goals(refine aC ?_;exact aB (hK))
def C4:List (Nat×Nat):= [(0,0),(1,0),(2,0),(3,0),(4,0),(5,0),(6,0),(7,0),(8,0),(9,0)]
theorem EY {p:Nat} {d:Dr} (hK:K (.tuple #[I6 d.la,.bool d.se]) (Da p d::R)):CT 201 #[PO p] (Da p d::R) K:=by
 obtain⟨se,go,ov,la,th,co⟩:=d
 simp only[Da] at hK ⊢
 refine aH Tryz.func201 ?_
 repeat' (first|refine v4 ?_|refine dw C4 ?_|refine w5 ?_ ?_|((refine bh fun h=>?_) <;> try exact w6 h)|(refine aE fun hA=>?_;subst hA)|intro _)
 all_goals(refine aC ?_;exact aB (hK))
theorem YO {s t:ByteArray} (h:s.toList=t.toList):s=t:=by
 rw[ByteArray.toList_eq,ByteArray.toList_eq] at h
 exact ByteArray.ext (Array.toList_inj.1 h)
structure Bt where
 ev:Int
 wa:Int
 no:Int
 he:Int
 ou:Bool
 lo:Bool
 si:Int
 nn:Int
def btP (p:Nat) (b:Bt):HP:=mJ p b.ev b.wa b.no b.he b.ou b.lo b.si b.nn
def bO (b:Bt) (now:Int):Bt:= { b with no:=max b.no now,he:=max b.no now }
def Agi (b:Bt):Prop:=(0≤b.no∧b.no≤100000000000)∧(0≤b.he∧b.he≤100000000000)∧(0≤b.si∧b.si≤100000000000)∧0≤b.nn∧b.nn≤100000000000
def k6 (b:Bt) (now:Int) (s:ByteArray):Bt:=if b.ou=true∧s=vY b.nn then { b with no:=max b.no now,he:=max b.no now,ou:=false } else b
section
variable {p:Nat} {b:Bt} {now:Int} {s:ByteArray}
theorem dI (hK:K (.tuple #[]) (btP p (bO b now)::R)):CT 161 #[PO p,I6 now] (btP p b::R) K:=P6 hK
theorem WU (hb:Agi b) (hK:∀v,K v (btP p (k6 b now s)::R)):CT 165 #[PO p,I6 now,.string s] (btP p b::R) K:=by
 obtain⟨ev,wa,no,he,ou,lo,si,nn⟩:=b
 obtain⟨h1,h2,h3,h4⟩:=hb
 simp only at h1 h2 h3 h4
 cases ou
 ·have e:k6 ⟨ev,wa,no,he,false,lo,si,nn⟩ now s=⟨ev,wa,no,he,false,lo,si,nn⟩:=by unfold k6;rw[if_neg (by simp)]
  rw[e] at hK
  exact Aar rfl (hK _)
 ·by_cases hs:s=vY nn
  ·have e:k6 ⟨ev,wa,no,he,true,lo,si,nn⟩ now s=⟨ev,wa,max no now,max no now,false,lo,si,nn⟩:=by unfold k6;rw[if_pos ⟨rfl,hs⟩]
   rw[e] at hK
   subst hs
   exact Aa3 rfl h4.1 (hK _)
  ·have e:k6 ⟨ev,wa,no,he,true,lo,si,nn⟩ now s=⟨ev,wa,no,he,true,lo,si,nn⟩:=by unfold k6;rw[if_neg (fun q=>hs q.2)]
   rw[e] at hK
   simp only[btP,mJ] at hK ⊢
   have hne:(s.toList == (vY nn).toList)=false:=beq_eq_false_iff_ne.2 fun q=>hs (YO q)
   have hne':(!s.toList == (vY nn).toList)=true:=by rw[hne];rfl
   have hn4:=h4.1
   refine aH Tryz.func165 ?_
   repeat' (first|refine MA ?_|refine w5 ?_ ?_|((refine bh fun h=>?_) <;> try exact w6 h)|(refine aE fun hA=>?_;subst hA)|intro _|(show aA _ 251 _ _ _;refine CA (h:=Dn hn4 ?_)))
   all_goals(refine aC ?_;exact aB (hK _))
def Q9 (b:Bt) (now:Int):Int:=if b.ev=0 then 0 else zM b.ev b.wa b.he b.ou b.lo b.si (max b.no now)
def btD (b:Bt) (now:Int):ByteArray:=if Q9 b now=1 then vY (b.nn+1) else⟨#[]⟩
def gS (b:Bt) (now:Int):Bt:=if b.ev=0 then b else if Q9 b now=1 then { b with no:=max b.no now,ou:=true,si:=max b.no now,nn:=b.nn+1 } else if Q9 b now=2 then { b with no:=max b.no now,lo:=true } else { b with no:=max b.no now }
theorem VS (hb:Agi b) (hn:0≤now∧now≤100000000000) (hK:K (.tuple #[I6 (Q9 b now),.string (btD b now)]) (btP p (gS b now)::R)):CT 181 #[PO p,I6 now] (btP p b::R) K:=by
 obtain⟨ev,wa,no,he,ou,lo,si,nn⟩:=b
 obtain⟨h1,h2,h3,h4⟩:=hb
 simp only at h1 h2 h3 h4
 by_cases h0:ev=0
 ·simp only[Q9,btD,gS,if_pos h0] at hK
  exact Ts h0 hK
 ·change CT 181 #[PO p,I6 now] (mJ p ev wa no he ou lo si nn::R) K
  have hst:zM ev wa he ou lo si (max no now)=0∨zM ev wa he ou lo si (max no now)=1∨zM ev wa he ou lo si (max no now)=2:=by
   unfold zM
   split
   ·exact .inr (.inr rfl)
   ·split
    ·exact .inl rfl
    ·exact .inr (.inl rfl)
  rcases hst with hk|hk|hk
  ·simp only[Q9,btD,gS,if_neg h0,hk] at hK
   exact Ado hk rfl h0 (by omega) (by omega) (by omega) (by omega) hK
  ·simp only[Q9,btD,gS,if_neg h0,hk] at hK
   exact Abs hk rfl h0 (by omega) (by omega) (by omega) (by omega) hK
  ·simp only[Q9,btD,gS,if_neg h0,hk] at hK
   exact ZW hk rfl h0 (by omega) (by omega) (by omega) (by omega) hK
theorem Aan {e w:Int} (he:0≤e∧e≤1048576) (hw:0≤w∧w≤1048576) (hK:∀p,K (.tuple #[PO p,I6 0]) (btP p ⟨e,w,0,0,false,false,0,0⟩::R)):CT 53 #[I6 e,I6 w] R K:=RN he hw hK
end
end
end Go.Proofs.YtifgibijcmppmaaGreat
