/- A part of the proof: lemmas; each with the conditions that it states. -/
import Derived.Test.YtepnmcipkangkaaGreatCax
import Derived.Test.YtepnmcipkangkaaGreatCao
set_option linter.unusedVariables false
set_option linter.unusedSimpArgs false
set_option maxRecDepth 100000
set_option maxHeartbeats 40000000
namespace Go.Proofs.YtepnmcipkangkaaGreat
open Go Go.Proofs Go.Sl
attribute [local irreducible] aN fL cL bM aL aR aA dJ dK aU dI pt ro fC star sep bF
attribute [local irreducible] mp DG
variable {R C:List HP} {K:KP} {p c:Nat} {a t:dR} {l:List dR} {A:Option Addr} {ps:List Pr} {now:Int}
section
variable {s:FA} {b:dR}
theorem Agl (hK:K (.agg #[I6 (Ou a b).w,I6 (Ou a b).st,I6 (Ou a b).it]) R):CT 173 #[.agg #[I6 a.w,I6 a.st,I6 a.it],.agg #[I6 b.w,I6 b.st,I6 b.it]] R K:=by
 simp only[Ou] at hK
 refine aH Tryz.func173 ?_
 repeat' (first|refine v61 ?_|refine w5 ?_ ?_|((refine bh fun h=>?_) <;> try exact w6 h)|(refine aE fun hA=>?_;subst hA)|intro _)
 all_goals(refine aC ?_;exact aB (hK))
theorem YN (hK:K (.agg #[I6 s.g.w,I6 s.g.st,I6 s.g.it]) (R6 p s::R)):CT 67 #[PO p] (R6 p s::R) K:=by
 unfold R6 at *
 repeat (first|refine aA.ex fun _=>?_|refine aA.sep ?_|refine aA.pure fun _=>?_)
 refine aH Tryz.func67 ?_
 repeat' (first|refine v30 ?_|refine w5 ?_ ?_|((refine bh fun h=>?_) <;> try exact w6 h)|(refine aE fun hA=>?_;subst hA)|intro _)
 all_goals(refine aC ?_;exact aB (hK))
theorem Ag4 (h:l≠ []):∃x,l.getLast?=some x/\l[((l.length:Nat) - 1:Int).toNat]?=some x:=by
 have hl:0<l.length:=List.length_pos_iff.2 h
 refine⟨l[l.length - 1],?_,?_⟩
 ·rw[List.getLast?_eq_getElem?,List.getElem?_eq_getElem (by omega)]
 ·rw[show((l.length:Nat) - 1:Int).toNat=l.length - 1 by omega,List.getElem?_eq_getElem (by omega)]
theorem W2 {h g:dR} (hl:l.length<=1000) (hK:K (.agg #[I6 (nD ⟨h,g,l⟩).w,I6 (nD ⟨h,g,l⟩).st,I6 (nD ⟨h,g,l⟩).it]) (pt p [I6 h.w,I6 h.st,I6 h.it,I6 g.w,I6 g.st,I6 g.it,.slice A l.length c] 266::bT A c 23 GD l::R)):CT 172 #[PO p] (pt p [I6 h.w,I6 h.st,I6 h.it,I6 g.w,I6 g.st,I6 g.it,.slice A l.length c] 266::bT A c 23 GD l::R) K:=by
 by_cases hz:l= []
 ·have e:nD ⟨h,g,l⟩=h:=by unfold nD;rw[hz];rfl
  have hn:l.length=0:=by rw[hz];rfl
  rw[e] at hK
  refine aH Tryz.func172 ?_
  repeat' (first|refine ZN ?_|refine w5 ?_ ?_|((refine bh fun h=>?_) <;> try exact w6 h)|(refine aE fun hA=>?_;subst hA)|intro _|(show aA _ 262 _ _ _;refine CA (h:=Ju ?_))|(show aA _ 232 _ _ _;refine CA (h:=TJ ?_)))
  all_goals(refine aC ?_;exact aB (hK))
 ·obtain⟨x,h1,h2⟩:=Ag4 hz
  have hn:0<l.length:=List.length_pos_iff.2 hz
  have e:nD ⟨h,g,l⟩=x:=by unfold nD;rw[h1]
  rw[e] at hK
  refine aH Tryz.func172 ?_
  repeat' (first|refine ZN ?_|refine w5 ?_ ?_|((refine bh fun h=>?_) <;> try exact w6 h)|(refine aE fun hA=>?_;subst hA)|intro _|(show aA _ 262 _ _ _;refine CA (h:=Ju ?_)))
  all_goals(refine aC ?_;exact aB (hK))
def qW:List (Nat×Nat):= [(0,0),(1,1),(2,1),(3,1),(4,0)]
def qG:List Nat:= [0,0,2,6,14,0,32,96,224,480,0,1024,3072,7168,15360,32766,0,65536,262142,524287,1048575,2097151]
def qO:List Nat:= [2097151,1048575,524287,262142,65536,0,32766,15360,7168,3072,1024,0,480,224,96,32,0,14,6,2,0,0]
def qC:List (Nat×Nat):= [(16,0),(17,1),(1,1),(2,1),(3,1),(4,1),(5,1),(6,1),(7,1),(8,1),(9,1),(10,1),(11,1),(12,1),(13,1),(14,1),(15,1),(18,1),(0,2),(19,0),(20,0),(21,1)]
def pK:List (Nat×Nat):= [(1,0),(2,0),(3,0),(4,0),(5,0),(6,0),(7,1),(0,1),(8,0),(9,0),(10,1)]
theorem FL (hl:s.l.length<=4) (hK:∀A c,K (.tuple #[.slice A (if iE s t=0 then CX (nD s) t else []).length c,I6 (iE s t)]) (R6 p (eC s t)::bT A c 349 tX (if iE s t=0 then CX (nD s) t else [])::R)):CT 99 #[PO p,.agg #[I6 t.w,I6 t.st,I6 t.it]] (R6 p s::R) K:=by
 obtain⟨h,g,l⟩:=s
 simp only at hl
 cases hc:sD t.w t.st t.it
 ·have e:iE ⟨h,g,l⟩ t=3:=by unfold iE;rw[hc];rfl
  have e2:eC ⟨h,g,l⟩ t=⟨h,g,l⟩:=by unfold eC;rw[e];rfl
  rw[e,e2] at hK
  simp only[show ¬((3:Int)=0) by decide,if_false] at hK
  unfold R6 at *
  dsimp only at hK ⊢
  repeat (first|refine aA.ex fun _=>?_|refine aA.sep ?_|refine aA.pure fun _=>?_)
  refine aH Tryz.func99 ?_
  repeat' (first|refine v92 ?_|refine dw qW ?_|refine Jv qG qO qC ?_|refine dw pK ?_|refine w5 ?_ ?_|((refine bh fun h=>?_) <;> try exact w6 h)|(refine aE fun hA=>?_;subst hA)|intro _|(show aA _ 170 _ _ _;refine CA (h:=vV (v:=3) (by rw[hc];rfl) ?_)))
  all_goals(refine aC ?_;exact aB (hK none 0))
 ·by_cases h4:4<=l.length
  ·have e:iE ⟨h,g,l⟩ t=16:=by unfold iE;rw[hc,if_neg (by decide),if_pos h4]
   have e2:eC ⟨h,g,l⟩ t=⟨h,g,l⟩:=by unfold eC;rw[e];rfl
   rw[e,e2] at hK
   simp only[show ¬((16:Int)=0) by decide,if_false] at hK
   unfold R6 at *
   dsimp only at hK ⊢
   repeat (first|refine aA.ex fun _=>?_|refine aA.sep ?_|refine aA.pure fun _=>?_)
   refine aH Tryz.func99 ?_
   repeat' (first|refine v92 ?_|refine dw qW ?_|refine Jv qG qO qC ?_|refine dw pK ?_|refine w5 ?_ ?_|((refine bh fun h=>?_) <;> try exact w6 h)|(refine aE fun hA=>?_;subst hA)|intro _|(show aA _ 170 _ _ _;refine CA (h:=vV (v:=0) (by rw[hc];rfl) ?_)))
   all_goals(refine aC ?_;exact aB (hK none 0))
  ·have e:iE ⟨h,g,l⟩ t=0:=by unfold iE;rw[hc,if_neg (by decide),if_neg h4]
   have e2:eC ⟨h,g,l⟩ t=⟨h,Ou g t,l++ [t]⟩:=by unfold eC;rw[e];rfl
   rw[e,e2] at hK
   simp only[if_true] at hK
   unfold R6 at *
   dsimp only at hK ⊢
   repeat (first|refine aA.ex fun _=>?_|refine aA.sep ?_|refine aA.pure fun _=>?_)
   refine i7 (E:=GD) (l:=l) (by((repeat (first|exact aW.here|apply aW.there)) <;> exact aW.here)) fun hf=>?_
   refine aH Tryz.func99 ?_
   have hdr:(l.drop (Int.toNat 0)).take (((l.length:Nat):Int).toNat - Int.toNat 0)=l:=by simp
   repeat' (first|(show aN _ _ _ _ _ _ _;refine i5 (E:=GD) (xs:=l) ?_;intro _;rw[hdr])|refine v92 ?_|refine dw qW ?_|refine Jv qG qO qC ?_|refine dw pK ?_|refine w5 ?_ ?_|((refine bh fun h=>?_) <;> try exact w6 h)|(refine aE fun hA=>?_;subst hA)|intro _|(show aA _ 170 _ _ _;refine CA (h:=vV (v:=0) (by rw[hc];rfl) ?_))|(show aA _ 172 _ _ _;refine CA (h:=W2 (by omega) ?_))|(show aA _ 171 _ _ _;refine CA (h:=Anq (fun A9 c9=>?_)))|(show aA _ 173 _ _ _;refine CA (h:=Agl (a:=g) (b:=t) ?_))|(show aN _ _ _ _ _ _ _;refine dD (E:=GD) (ys:= [t]) ?_;intro _ _))
   all_goals(refine aC ?_;exact aB (hK _ _))
def wW:List (Nat×Nat):= [(0,0),(5,1),(1,1),(2,1),(3,1),(4,1),(6,1),(7,0)]
theorem PC (hK:K (.tuple #[.agg #[I6 (if s.l= [] then 0 else s.h.w),I6 (if s.l= [] then 0 else s.h.st),I6 (if s.l= [] then 0 else s.h.it)],.agg #[I6 (if s.l= [] then 0 else(dE s).h.w),I6 (if s.l= [] then 0 else(dE s).h.st),I6 (if s.l= [] then 0 else(dE s).h.it)],I6 (zW s)]) (R6 p (dE s)::R)):CT 296 #[PO p] (R6 p s::R) K:=by
 obtain⟨h,g,l⟩:=s
 cases l with
 |nil=>
  simp only[dE,zW,if_true] at hK
  unfold R6 at *
  dsimp only at hK ⊢
  repeat (first|refine aA.ex fun _=>?_|refine aA.sep ?_|refine aA.pure fun _=>?_)
  refine aH Tryz.func296 ?_
  repeat' (first|refine v73 ?_|refine dw wW ?_|refine w5 ?_ ?_|((refine bh fun h=>?_) <;> try exact w6 h)|(refine aE fun hA=>?_;subst hA)|intro _)
  all_goals(refine aC ?_;exact aB (hK))
 |cons x r=>
  simp only[dE,zW,reduceCtorEq,if_false] at hK
  have hx:(x::r)[(0:Int).toNat]?=some x:=rfl
  have hlen:0<(x::r).length:=Nat.succ_pos _
  unfold R6 at *
  dsimp only at hK ⊢
  repeat (first|refine aA.ex fun _=>?_|refine aA.sep ?_|refine aA.pure fun _=>?_)
  refine aH Tryz.func296 ?_
  have hdr:((x::r).drop (Int.toNat 1)).take ((((x::r).length:Nat):Int).toNat - Int.toNat 1)=r:=by simp
  repeat' (first|(show aN _ _ _ _ _ _ _;refine i5 (E:=GD) (xs:=x::r) ?_;intro _;rw[hdr])|refine v73 ?_|refine dw wW ?_|refine w5 ?_ ?_|((refine bh fun h=>?_) <;> try exact w6 h)|(refine aE fun hA=>?_;subst hA)|intro _)
  all_goals(refine aC ?_;exact aB (hK))
end
theorem yR {n mm:Int} (hK:K (.bool (decide (0<=n) && decide (n<=mm))) R):CT 260 #[I6 n,I6 mm] R K:=by
 refine aH Tryz.func260 ?_
 repeat' (first|refine v1 ?_|refine w5 ?_ ?_|((refine bh fun h=>?_) <;> try exact w6 h)|(refine aE fun hA=>?_;subst hA)|intro _)
 all_goals(refine aC ?_;exact aB (kb hK (by simp <;> omega)))
def Mp (s:dR) (p:Pr):dR:=if p.i=1 then⟨p.v,s.st,s.it⟩ else if p.i=2 then⟨s.w,p.v,s.it⟩ else if p.i=3 then⟨s.w,s.st,p.v⟩ else s
def Vg:dR->List Pr->Option dR
 |s,[]=>some s
 |s,p::ps=>if 0<=p.v/\p.v<=2147483647 then Vg (Mp s p) ps else none
theorem Ano {s:dR} {j:Nat} {p:Pr} (h:ps[j]?=some p):Vg s (ps.drop j)=if 0<=p.v/\p.v<=2147483647 then Vg (Mp s p) (ps.drop (j+1)) else none:=by
 have hj:=(List.getElem?_eq_some_iff.1 h).1
 rw[List.drop_eq_getElem_cons hj]
 have:=(List.getElem?_eq_some_iff.1 h).2
 rw[this]
 rfl
def paV (o:Option dR):Value:=match o with
 |some s=>.tuple #[.agg #[I6 s.w,I6 s.st,I6 s.it],I6 0]
 |none=>.tuple #[.agg #[I6 0,I6 0,I6 0],I6 4]
theorem FV {s:dR} {n:Nat} (hv:dW R A tX ps) (hn:ps.length=n) (hs:n<=1000000) (hK:K (paV (Vg s ps)) R):CT 292 #[.agg #[I6 s.w,I6 s.st,I6 s.it],.slice A n c] R K:=by
 subst hn
 refine aH Tryz.func292 ?_
 repeat' (first|refine Hk ?_|refine w5 ?_ ?_|((refine bh fun h=>?_) <;> try exact w6 h)|(refine aE fun hA=>?_;subst hA)|intro _)
 rename_i r2 r4
 refine jA (fun kk a C'=>∃(j:Nat) (z:dR),j+kk=ps.length/\Vg s ps=Vg z (ps.drop j)/\dH a [(2,PO r2),(4,PO r4),(8,.slice A ps.length c),(9,I6 ps.length),(10,I6 j)]/\C'=pt r4 [I6 0,I6 0,I6 0] 23::pt r2 [I6 z.w,I6 z.st,I6 z.it] 23::R) ps.length (cJ ps.length ⟨0,s,by omega,rfl,⟨rfl,rfl,rfl,rfl,rfl,trivial⟩,rfl⟩ (by omega)) ?_
 rintro kk a C' ⟨j,z,hj,hap,ha,rfl⟩
 have hv':dW (pt r4 [I6 0,I6 0,I6 0] 23::pt r2 [I6 z.w,I6 z.st,I6 z.it] 23::R) A tX ps:=bN (bN hv)
 refine i6 _ ha ?_
 simp only[gJ]
 by_cases hlt:j<ps.length
 ·obtain⟨p,hp⟩:∃p,ps[j]?=some p:=⟨_,List.getElem?_eq_getElem hlt⟩
  rw[Ano hp] at hap
  by_cases hw:0<=p.v/\p.v<=2147483647
  ·rw[if_pos hw] at hap
   have hwd:(decide (0<=p.v) && decide (p.v<=2147483647))=true:=by simp[hw]
   by_cases h1:p.i=1
   ·have e:Mp z p=⟨p.v,z.st,z.it⟩:=by unfold Mp;rw[if_pos h1]
    rw[e] at hap
    repeat' (first|(show aN _ _ _ _ _ _ _;refine xZ ?_ (hv:=hv');intro _ _ hA;subst hA)|refine Hk ?_|refine w5 ?_ ?_|((refine bh fun h=>?_) <;> try exact w6 h)|(refine aE fun hA=>?_;subst hA)|intro _|(show aA _ 260 _ _ _;refine CA (h:=yR ?_);rw[hwd]))
    all_goals(show aU _ _ _ _;exact cJ (kk - 1) ⟨j+1,_,by omega,hap,⟨rfl,rfl,rfl,rfl,rfl,trivial⟩,rfl⟩)
   ·by_cases h2:p.i=2
    ·have e:Mp z p=⟨z.w,p.v,z.it⟩:=by unfold Mp;rw[if_neg h1,if_pos h2]
     rw[e] at hap
     repeat' (first|(show aN _ _ _ _ _ _ _;refine xZ ?_ (hv:=hv');intro _ _ hA;subst hA)|refine Hk ?_|refine w5 ?_ ?_|((refine bh fun h=>?_) <;> try exact w6 h)|(refine aE fun hA=>?_;subst hA)|intro _|(show aA _ 260 _ _ _;refine CA (h:=yR ?_);rw[hwd]))
     all_goals(show aU _ _ _ _;exact cJ (kk - 1) ⟨j+1,_,by omega,hap,⟨rfl,rfl,rfl,rfl,rfl,trivial⟩,rfl⟩)
    ·by_cases h3:p.i=3
     ·have e:Mp z p=⟨z.w,z.st,p.v⟩:=by unfold Mp;rw[if_neg h1,if_neg h2,if_pos h3]
      rw[e] at hap
      repeat' (first|(show aN _ _ _ _ _ _ _;refine xZ ?_ (hv:=hv');intro _ _ hA;subst hA)|refine Hk ?_|refine w5 ?_ ?_|((refine bh fun h=>?_) <;> try exact w6 h)|(refine aE fun hA=>?_;subst hA)|intro _|(show aA _ 260 _ _ _;refine CA (h:=yR ?_);rw[hwd]))
      all_goals(show aU _ _ _ _;exact cJ (kk - 1) ⟨j+1,_,by omega,hap,⟨rfl,rfl,rfl,rfl,rfl,trivial⟩,rfl⟩)
     ·have e:Mp z p=z:=by unfold Mp;rw[if_neg h1,if_neg h2,if_neg h3]
      rw[e] at hap
      repeat' (first|(show aN _ _ _ _ _ _ _;refine xZ ?_ (hv:=hv');intro _ _ hA;subst hA)|refine Hk ?_|refine w5 ?_ ?_|((refine bh fun h=>?_) <;> try exact w6 h)|(refine aE fun hA=>?_;subst hA)|intro _|(show aA _ 260 _ _ _;refine CA (h:=yR ?_);rw[hwd]))
      all_goals(show aU _ _ _ _;exact cJ (kk - 1) ⟨j+1,_,by omega,hap,⟨rfl,rfl,rfl,rfl,rfl,trivial⟩,rfl⟩)
  ·rw[if_neg hw] at hap
   rw[hap] at hK
   have hwd:(decide (0<=p.v) && decide (p.v<=2147483647))=false:=by
    rw[Bool.and_eq_false_iff];simp only[decide_eq_false_iff_not];omega
   repeat' (first|(show aN _ _ _ _ _ _ _;refine xZ ?_ (hv:=hv');intro _ _ hA;subst hA)|refine Hk ?_|refine w5 ?_ ?_|((refine bh fun h=>?_) <;> try exact w6 h)|(refine aE fun hA=>?_;subst hA)|intro _|(show aA _ 260 _ _ _;refine CA (h:=yR ?_);rw[hwd]))
   all_goals(refine aC ?_;exact aB (hK))
 ·have hjl:j=ps.length:=by omega
  rw[List.drop_eq_nil_of_le (by omega)] at hap
  rw[hap] at hK
  repeat' (first|refine Hk ?_|refine w5 ?_ ?_|((refine bh fun h=>?_) <;> try exact w6 h)|(refine aE fun hA=>?_;subst hA)|intro _)
  all_goals(refine aC ?_;exact aB (hK))
theorem JW (hK:K (.agg #[I6 64,I6 8,I6 4]) R):CT 87 #[] R K:=by
 refine aH Tryz.func87 ?_
 repeat' (first|refine v5 ?_|refine w5 ?_ ?_|((refine bh fun h=>?_) <;> try exact w6 h)|(refine aE fun hA=>?_;subst hA)|intro _)
 all_goals(refine aC ?_;exact aB (hK))
def CZ:List (Nat×Nat):= [(0,0),(1,0),(2,0),(3,0),(4,0),(5,0),(6,0),(7,0),(8,0),(9,0)]
theorem FY {d:Dr} (hK:K (.tuple #[I6 d.la,.bool d.se]) (DZ p d::R)):CT 147 #[PO p] (DZ p d::R) K:=by
 obtain⟨se,go,ov,la,th,co⟩:=d
 simp only[DZ] at hK ⊢
 refine aH Tryz.func147 ?_
 repeat' (first|refine v4 ?_|refine dw CZ ?_|refine w5 ?_ ?_|((refine bh fun h=>?_) <;> try exact w6 h)|(refine aE fun hA=>?_;subst hA)|intro _)
 all_goals(refine aC ?_;exact aB (hK))
theorem Ae9 {s t:ByteArray} (h:s.toList=t.toList):s=t:=by
 rw[ByteArray.toList_eq,ByteArray.toList_eq] at h
 exact ByteArray.ext (Array.toList_inj.1 h)
structure Bt where
 ev:Int
 wa:Int
 no:Int
 he:Int
 ou:Bool
 lo:Bool
 si:Int
 nn:Int
def btP (p:Nat) (b:Bt):HP:=nN p b.ev b.wa b.no b.he b.ou b.lo b.si b.nn
def bQ (b:Bt) (now:Int):Bt:= { b with no:=max b.no now,he:=max b.no now }
def Ahy (b:Bt):Prop:=(0<=b.no/\b.no<=100000000000)/\(0<=b.he/\b.he<=100000000000)/\(0<=b.si/\b.si<=100000000000)/\0<=b.nn/\b.nn<=100000000000
def kJ (b:Bt) (now:Int) (s:ByteArray):Bt:=if b.ou=true/\s=xQ b.nn then { b with no:=max b.no now,he:=max b.no now,ou:=false } else b
section
variable {b:Bt} {s:ByteArray}
theorem dN (hK:K (.tuple #[]) (btP p (bQ b now)::R)):CT 206 #[PO p,I6 now] (btP p b::R) K:=PE hK
theorem Yb (hb:Ahy b) (hK:∀v,K v (btP p (kJ b now s)::R)):CT 210 #[PO p,I6 now,.string s] (btP p b::R) K:=by
 obtain⟨ev,wa,no,he,ou,lo,si,nn⟩:=b
 obtain⟨h1,h2,h3,h4⟩:=hb
 simp only at h1 h2 h3 h4
 cases ou
 ·have e:kJ ⟨ev,wa,no,he,false,lo,si,nn⟩ now s=⟨ev,wa,no,he,false,lo,si,nn⟩:=by unfold kJ;rw[if_neg (by simp)]
  rw[e] at hK
  exact Adp rfl (hK _)
 ·by_cases hs:s=xQ nn
  ·have e:kJ ⟨ev,wa,no,he,true,lo,si,nn⟩ now s=⟨ev,wa,max no now,max no now,false,lo,si,nn⟩:=by unfold kJ;rw[if_pos ⟨rfl,hs⟩]
   rw[e] at hK
   subst hs
   exact Z2 rfl h4.1 (hK _)
  ·have e:kJ ⟨ev,wa,no,he,true,lo,si,nn⟩ now s=⟨ev,wa,no,he,true,lo,si,nn⟩:=by unfold kJ;rw[if_neg (fun q=>hs q.2)]
   rw[e] at hK
   simp only[btP,nN] at hK ⊢
   have hne:(s.toList == (xQ nn).toList)=false:=beq_eq_false_iff_ne.2 fun q=>hs (Ae9 q)
   have hne':(!s.toList == (xQ nn).toList)=true:=by rw[hne];rfl
   have hn4:=h4.1
   refine aH Tryz.func210 ?_
   repeat' (first|refine NY ?_|refine w5 ?_ ?_|((refine bh fun h=>?_) <;> try exact w6 h)|(refine aE fun hA=>?_;subst hA)|intro _|(show aA _ 265 _ _ _;refine CA (h:=D7 hn4 ?_)))
   all_goals(refine aC ?_;exact aB (hK _))
def QI (b:Bt) (now:Int):Int:=if b.ev=0 then 0 else AK b.ev b.wa b.he b.ou b.lo b.si (max b.no now)
def btD (b:Bt) (now:Int):ByteArray:=if QI b now=1 then xQ (b.nn+1) else⟨#[]⟩
def iA (b:Bt) (now:Int):Bt:=if b.ev=0 then b else if QI b now=1 then { b with no:=max b.no now,ou:=true,si:=max b.no now,nn:=b.nn+1 } else if QI b now=2 then { b with no:=max b.no now,lo:=true } else { b with no:=max b.no now }
theorem X2 (hb:Ahy b) (hn:0<=now/\now<=100000000000) (hK:K (.tuple #[I6 (QI b now),.string (btD b now)]) (btP p (iA b now)::R)):CT 179 #[PO p,I6 now] (btP p b::R) K:=by
 obtain⟨ev,wa,no,he,ou,lo,si,nn⟩:=b
 obtain⟨h1,h2,h3,h4⟩:=hb
 simp only at h1 h2 h3 h4
 by_cases h0:ev=0
 ·simp only[QI,btD,iA,if_pos h0] at hK
  exact TC h0 hK
 ·change CT 179 #[PO p,I6 now] (nN p ev wa no he ou lo si nn::R) K
  have hst:AK ev wa he ou lo si (max no now)=0\/AK ev wa he ou lo si (max no now)=1\/AK ev wa he ou lo si (max no now)=2:=by
   unfold AK
   split
   ·exact .inr (.inr rfl)
   ·split
    ·exact .inl rfl
    ·exact .inr (.inl rfl)
  rcases hst with hk|hk|hk
  ·simp only[QI,btD,iA,if_neg h0,hk] at hK
   exact Afq hk rfl h0 (by omega) (by omega) (by omega) (by omega) hK
  ·simp only[QI,btD,iA,if_neg h0,hk] at hK
   exact Ae3 hk rfl h0 (by omega) (by omega) (by omega) (by omega) hK
  ·simp only[QI,btD,iA,if_neg h0,hk] at hK
   exact Aca hk rfl h0 (by omega) (by omega) (by omega) (by omega) hK
theorem Afn {e w:Int} (he:0<=e/\e<=1048576) (hw:0<=w/\w<=1048576) (hK:∀p,K (.tuple #[PO p,I6 0]) (btP p ⟨e,w,0,0,false,false,0,0⟩::R)):CT 93 #[I6 e,I6 w] R K:=Ua he hw hK
end
end Go.Proofs.YtepnmcipkangkaaGreat
