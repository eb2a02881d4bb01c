/- A part of the proof: lemmas; each with the conditions that it states. -/
import Derived.Test.YtffnpejdkkohcaaGreatBai
import Derived.Test.YtffnpejdkkohcaaGreatBaz
import Derived.Test.YtffnpejdkkohcaaGreatBao
set_option linter.unusedVariables false
set_option linter.unusedSimpArgs false
set_option maxRecDepth 100000
set_option maxHeartbeats 40000000
namespace Go.Proofs.YtffnpejdkkohcaaGreat
open Go Go.Proofs Go.Sl
attribute [local irreducible] aM eY cU bQ aL aW aA dS dT aZ dR pt ro fN star sep bH
attribute [local irreducible] mp FV
variable {R C:List HP} {K:KP} {p c:Nat} {a t:dI} {l:List dI} {A:Option Addr} {ps:List Pr} {now:Int}
section
variable {s:EC} {b:dI}
theorem Aaq (hK:K (.agg #[I6 (M6 a b).w,I6 (M6 a b).st,I6 (M6 a b).it]) R):CT 97 #[.agg #[I6 a.w,I6 a.st,I6 a.it],.agg #[I6 b.w,I6 b.st,I6 b.it]] R K:=by
 simp only[M6] at hK
 refine aJ Tryz.func97 ?_
 repeat' (first|refine v61 ?_|refine w5 ?_ ?_|((refine bh fun h=>?_) <;> try exact w6 h)|(refine aF fun hA=>?_;subst hA)|intro _)
 all_goals(refine aC ?_;exact aB (hK))
theorem Afe (h:l≠ []):∃x,l.getLast?=some x/\l[((l.length:Nat) - 1:Int).toNat]?=some x:=by
 have hl:0<l.length:=List.length_pos_iff.2 h
 refine⟨l[l.length - 1],?_,?_⟩
 ·rw[List.getLast?_eq_getElem?,List.getElem?_eq_getElem (by omega)]
 ·rw[show((l.length:Nat) - 1:Int).toNat=l.length - 1 by omega,List.getElem?_eq_getElem (by omega)]
theorem WE {h g:dI} (hl:l.length<=1000) (hK:K (.agg #[I6 (wK ⟨h,g,l⟩).w,I6 (wK ⟨h,g,l⟩).st,I6 (wK ⟨h,g,l⟩).it]) (pt p [I6 h.w,I6 h.st,I6 h.it,I6 g.w,I6 g.st,I6 g.it,.slice A l.length c] 157::bU A c 23 F0 l::R)):CT 96 #[PO p] (pt p [I6 h.w,I6 h.st,I6 h.it,I6 g.w,I6 g.st,I6 g.it,.slice A l.length c] 157::bU A c 23 F0 l::R) K:=by
 by_cases hz:l= []
 ·have e:wK ⟨h,g,l⟩=h:=by unfold wK;rw[hz];rfl
  have hn:l.length=0:=by rw[hz];rfl
  rw[e] at hK
  refine aJ Tryz.func96 ?_
  repeat' (first|refine v71 ?_|refine w5 ?_ ?_|((refine bh fun h=>?_) <;> try exact w6 h)|(refine aF fun hA=>?_;subst hA)|intro _|(show aA _ 178 _ _ _;refine CA (h:=IC ?_))|(show aA _ 158 _ _ _;refine CA (h:=R3 ?_)))
  all_goals(refine aC ?_;exact aB (hK))
 ·obtain⟨x,h1,h2⟩:=Afe hz
  have hn:0<l.length:=List.length_pos_iff.2 hz
  have e:wK ⟨h,g,l⟩=x:=by unfold wK;rw[h1]
  rw[e] at hK
  refine aJ Tryz.func96 ?_
  repeat' (first|refine v71 ?_|refine w5 ?_ ?_|((refine bh fun h=>?_) <;> try exact w6 h)|(refine aF fun hA=>?_;subst hA)|intro _|(show aA _ 178 _ _ _;refine CA (h:=IC ?_)))
  all_goals(refine aC ?_;exact aB (hK))
def pR:List (Nat×Nat):= [(0,0),(1,1),(2,1),(3,1),(4,0)]
def qD:List Nat:= [0,0,2,6,14,0,32,96,224,480,0,1024,3072,7168,15360,32766,0,65536,262142,524287,1048575,2097151]
def pM:List Nat:= [2097151,1048575,524287,262142,65536,0,32766,15360,7168,3072,1024,0,480,224,96,32,0,14,6,2,0,0]
def pI:List (Nat×Nat):= [(16,0),(17,1),(1,1),(2,1),(3,1),(4,1),(5,1),(6,1),(7,1),(8,1),(9,1),(10,1),(11,1),(12,1),(13,1),(14,1),(15,1),(18,1),(0,2),(19,0),(20,0),(21,1)]
def nP:List (Nat×Nat):= [(1,0),(2,0),(3,0),(4,0),(5,0),(6,0),(7,1),(0,1),(8,0),(9,0),(10,1)]
theorem VY (hl:s.l.length<=4) (hK:∀A c,K (.tuple #[.slice A (if i8 s t=0 then Ix (wK s) t else []).length c,I6 (i8 s t)]) (T1 p (eR s t)::bU A c 114 oG (if i8 s t=0 then Ix (wK s) t else [])::R)):CT 37 #[PO p,.agg #[I6 t.w,I6 t.st,I6 t.it]] (T1 p s::R) K:=by
 obtain⟨h,g,l⟩:=s
 simp only at hl
 cases hc:pP t.w t.st t.it
 ·have e:i8 ⟨h,g,l⟩ t=3:=by unfold i8;rw[hc];rfl
  have e2:eR ⟨h,g,l⟩ t=⟨h,g,l⟩:=by unfold eR;rw[e];rfl
  rw[e,e2] at hK
  simp only[show ¬((3:Int)=0) by decide,if_false] at hK
  unfold T1 at *
  dsimp only at hK ⊢
  repeat (first|refine aA.ex fun _=>?_|refine aA.sep ?_|refine aA.pure fun _=>?_)
  refine aJ Tryz.func37 ?_
  repeat' (first|refine v92 ?_|refine dw pR ?_|refine ON qD pM pI ?_|refine dw nP ?_|refine w5 ?_ ?_|((refine bh fun h=>?_) <;> try exact w6 h)|(refine aF fun hA=>?_;subst hA)|intro _|(show aA _ 94 _ _ _;refine CA (h:=tX (v:=3) (by rw[hc];rfl) ?_)))
  all_goals(refine aC ?_;exact aB (hK none 0))
 ·by_cases h4:4<=l.length
  ·have e:i8 ⟨h,g,l⟩ t=16:=by unfold i8;rw[hc,if_neg (by decide),if_pos h4]
   have e2:eR ⟨h,g,l⟩ t=⟨h,g,l⟩:=by unfold eR;rw[e];rfl
   rw[e,e2] at hK
   simp only[show ¬((16:Int)=0) by decide,if_false] at hK
   unfold T1 at *
   dsimp only at hK ⊢
   repeat (first|refine aA.ex fun _=>?_|refine aA.sep ?_|refine aA.pure fun _=>?_)
   refine aJ Tryz.func37 ?_
   repeat' (first|refine v92 ?_|refine dw pR ?_|refine ON qD pM pI ?_|refine dw nP ?_|refine w5 ?_ ?_|((refine bh fun h=>?_) <;> try exact w6 h)|(refine aF fun hA=>?_;subst hA)|intro _|(show aA _ 94 _ _ _;refine CA (h:=tX (v:=0) (by rw[hc];rfl) ?_)))
   all_goals(refine aC ?_;exact aB (hK none 0))
  ·have e:i8 ⟨h,g,l⟩ t=0:=by unfold i8;rw[hc,if_neg (by decide),if_neg h4]
   have e2:eR ⟨h,g,l⟩ t=⟨h,M6 g t,l++ [t]⟩:=by unfold eR;rw[e];rfl
   rw[e,e2] at hK
   simp only[if_true] at hK
   unfold T1 at *
   dsimp only at hK ⊢
   repeat (first|refine aA.ex fun _=>?_|refine aA.sep ?_|refine aA.pure fun _=>?_)
   refine iJ (E:=F0) (l:=l) (by((repeat (first|exact aS.here|apply aS.there)) <;> exact aS.here)) fun hf=>?_
   refine aJ Tryz.func37 ?_
   have hdr:(l.drop (Int.toNat 0)).take (((l.length:Nat):Int).toNat - Int.toNat 0)=l:=by simp
   repeat' (first|(show aM _ _ _ _ _ _ _;refine iF (E:=F0) (xs:=l) ?_;intro _;rw[hdr])|refine v92 ?_|refine dw pR ?_|refine ON qD pM pI ?_|refine dw nP ?_|refine w5 ?_ ?_|((refine bh fun h=>?_) <;> try exact w6 h)|(refine aF fun hA=>?_;subst hA)|intro _|(show aA _ 94 _ _ _;refine CA (h:=tX (v:=0) (by rw[hc];rfl) ?_))|(show aA _ 96 _ _ _;refine CA (h:=WE (by omega) ?_))|(show aA _ 95 _ _ _;refine CA (h:=Ai6 (fun A9 c9=>?_)))|(show aA _ 97 _ _ _;refine CA (h:=Aaq (a:=g) (b:=t) ?_))|(show aM _ _ _ _ _ _ _;refine cN (E:=F0) (ys:= [t]) ?_;intro _ _))
   all_goals(refine aC ?_;exact aB (hK _ _))
def vJ:List (Nat×Nat):= [(0,0),(5,1),(1,1),(2,1),(3,1),(4,1),(6,1),(7,0)]
theorem NJ (hK:K (.tuple #[.agg #[I6 (if s.l= [] then 0 else s.h.w),I6 (if s.l= [] then 0 else s.h.st),I6 (if s.l= [] then 0 else s.h.it)],.agg #[I6 (if s.l= [] then 0 else(dC s).h.w),I6 (if s.l= [] then 0 else(dC s).h.st),I6 (if s.l= [] then 0 else(dC s).h.it)],I6 (vU s)]) (T1 p (dC s)::R)):CT 186 #[PO p] (T1 p s::R) K:=by
 obtain⟨h,g,l⟩:=s
 cases l with
 |nil=>
  simp only[dC,vU,if_true] at hK
  unfold T1 at *
  dsimp only at hK ⊢
  repeat (first|refine aA.ex fun _=>?_|refine aA.sep ?_|refine aA.pure fun _=>?_)
  refine aJ Tryz.func186 ?_
  repeat' (first|refine v73 ?_|refine dw vJ ?_|refine w5 ?_ ?_|((refine bh fun h=>?_) <;> try exact w6 h)|(refine aF fun hA=>?_;subst hA)|intro _)
  all_goals(refine aC ?_;exact aB (hK))
 |cons x r=>
  simp only[dC,vU,reduceCtorEq,if_false] at hK
  have hx:(x::r)[(0:Int).toNat]?=some x:=rfl
  have hlen:0<(x::r).length:=Nat.succ_pos _
  unfold T1 at *
  dsimp only at hK ⊢
  repeat (first|refine aA.ex fun _=>?_|refine aA.sep ?_|refine aA.pure fun _=>?_)
  refine aJ Tryz.func186 ?_
  have hdr:((x::r).drop (Int.toNat 1)).take ((((x::r).length:Nat):Int).toNat - Int.toNat 1)=r:=by simp
  repeat' (first|(show aM _ _ _ _ _ _ _;refine iF (E:=F0) (xs:=x::r) ?_;intro _;rw[hdr])|refine v73 ?_|refine dw vJ ?_|refine w5 ?_ ?_|((refine bh fun h=>?_) <;> try exact w6 h)|(refine aF fun hA=>?_;subst hA)|intro _)
  all_goals(refine aC ?_;exact aB (hK))
end
theorem wQ {n mm:Int} (hK:K (.bool (decide (0<=n) && decide (n<=mm))) R):CT 176 #[I6 n,I6 mm] R K:=by
 refine aJ Tryz.func176 ?_
 repeat' (first|refine v1 ?_|refine w5 ?_ ?_|((refine bh fun h=>?_) <;> try exact w6 h)|(refine aF fun hA=>?_;subst hA)|intro _)
 all_goals(refine aC ?_;exact aB (kb hK (by simp <;> omega)))
def Nb (s:dI) (p:Pr):dI:=if p.i=1 then⟨p.v,s.st,s.it⟩ else if p.i=2 then⟨s.w,p.v,s.it⟩ else if p.i=3 then⟨s.w,s.st,p.v⟩ else s
def Qg:dI->List Pr->Option dI
 |s,[]=>some s
 |s,p::ps=>if 0<=p.v/\p.v<=2147483647 then Qg (Nb s p) ps else none
theorem Aig {s:dI} {j:Nat} {p:Pr} (h:ps[j]?=some p):Qg s (ps.drop j)=if 0<=p.v/\p.v<=2147483647 then Qg (Nb s p) (ps.drop (j+1)) else none:=by
 have hj:=(List.getElem?_eq_some_iff.1 h).1
 rw[List.drop_eq_getElem_cons hj]
 have:=(List.getElem?_eq_some_iff.1 h).2
 rw[this]
 rfl
def paV (o:Option dI):Value:=match o with
 |some s=>.tuple #[.agg #[I6 s.w,I6 s.st,I6 s.it],I6 0]
 |none=>.tuple #[.agg #[I6 0,I6 0,I6 0],I6 4]
theorem EF {s:dI} {n:Nat} (hv:dE R A oG ps) (hn:ps.length=n) (hs:n<=1000000) (hK:K (paV (Qg s ps)) R):CT 184 #[.agg #[I6 s.w,I6 s.st,I6 s.it],.slice A n c] R K:=by
 subst hn
 refine aJ Tryz.func184 ?_
 repeat' (first|refine TJ ?_|refine w5 ?_ ?_|((refine bh fun h=>?_) <;> try exact w6 h)|(refine aF fun hA=>?_;subst hA)|intro _)
 rename_i r2 r4
 refine iH (fun kk a C'=>∃(j:Nat) (z:dI),j+kk=ps.length/\Qg s ps=Qg z (ps.drop j)/\cW a [(2,PO r2),(4,PO r4),(8,.slice A ps.length c),(9,I6 ps.length),(10,I6 j)]/\C'=pt r4 [I6 0,I6 0,I6 0] 23::pt r2 [I6 z.w,I6 z.st,I6 z.it] 23::R) ps.length (cG ps.length ⟨0,s,by omega,rfl,⟨rfl,rfl,rfl,rfl,rfl,trivial⟩,rfl⟩ (by omega)) ?_
 rintro kk a C' ⟨j,z,hj,hap,ha,rfl⟩
 have hv':dE (pt r4 [I6 0,I6 0,I6 0] 23::pt r2 [I6 z.w,I6 z.st,I6 z.it] 23::R) A oG ps:=bF (bF hv)
 refine gJ _ ha ?_
 simp only[fF]
 by_cases hlt:j<ps.length
 ·obtain⟨p,hp⟩:∃p,ps[j]?=some p:=⟨_,List.getElem?_eq_getElem hlt⟩
  rw[Aig hp] at hap
  by_cases hw:0<=p.v/\p.v<=2147483647
  ·rw[if_pos hw] at hap
   have hwd:(decide (0<=p.v) && decide (p.v<=2147483647))=true:=by simp[hw]
   by_cases h1:p.i=1
   ·have e:Nb z p=⟨p.v,z.st,z.it⟩:=by unfold Nb;rw[if_pos h1]
    rw[e] at hap
    repeat' (first|(show aM _ _ _ _ _ _ _;refine wT ?_ (hv:=hv');intro _ _ hA;subst hA)|refine TJ ?_|refine w5 ?_ ?_|((refine bh fun h=>?_) <;> try exact w6 h)|(refine aF fun hA=>?_;subst hA)|intro _|(show aA _ 176 _ _ _;refine CA (h:=wQ ?_);rw[hwd]))
    all_goals(show aZ _ _ _ _;exact cG (kk - 1) ⟨j+1,_,by omega,hap,⟨rfl,rfl,rfl,rfl,rfl,trivial⟩,rfl⟩)
   ·by_cases h2:p.i=2
    ·have e:Nb z p=⟨z.w,p.v,z.it⟩:=by unfold Nb;rw[if_neg h1,if_pos h2]
     rw[e] at hap
     repeat' (first|(show aM _ _ _ _ _ _ _;refine wT ?_ (hv:=hv');intro _ _ hA;subst hA)|refine TJ ?_|refine w5 ?_ ?_|((refine bh fun h=>?_) <;> try exact w6 h)|(refine aF fun hA=>?_;subst hA)|intro _|(show aA _ 176 _ _ _;refine CA (h:=wQ ?_);rw[hwd]))
     all_goals(show aZ _ _ _ _;exact cG (kk - 1) ⟨j+1,_,by omega,hap,⟨rfl,rfl,rfl,rfl,rfl,trivial⟩,rfl⟩)
    ·by_cases h3:p.i=3
     ·have e:Nb z p=⟨z.w,z.st,p.v⟩:=by unfold Nb;rw[if_neg h1,if_neg h2,if_pos h3]
      rw[e] at hap
      repeat' (first|(show aM _ _ _ _ _ _ _;refine wT ?_ (hv:=hv');intro _ _ hA;subst hA)|refine TJ ?_|refine w5 ?_ ?_|((refine bh fun h=>?_) <;> try exact w6 h)|(refine aF fun hA=>?_;subst hA)|intro _|(show aA _ 176 _ _ _;refine CA (h:=wQ ?_);rw[hwd]))
      all_goals(show aZ _ _ _ _;exact cG (kk - 1) ⟨j+1,_,by omega,hap,⟨rfl,rfl,rfl,rfl,rfl,trivial⟩,rfl⟩)
     ·have e:Nb z p=z:=by unfold Nb;rw[if_neg h1,if_neg h2,if_neg h3]
      rw[e] at hap
      repeat' (first|(show aM _ _ _ _ _ _ _;refine wT ?_ (hv:=hv');intro _ _ hA;subst hA)|refine TJ ?_|refine w5 ?_ ?_|((refine bh fun h=>?_) <;> try exact w6 h)|(refine aF fun hA=>?_;subst hA)|intro _|(show aA _ 176 _ _ _;refine CA (h:=wQ ?_);rw[hwd]))
      all_goals(show aZ _ _ _ _;exact cG (kk - 1) ⟨j+1,_,by omega,hap,⟨rfl,rfl,rfl,rfl,rfl,trivial⟩,rfl⟩)
  ·rw[if_neg hw] at hap
   rw[hap] at hK
   have hwd:(decide (0<=p.v) && decide (p.v<=2147483647))=false:=by
    rw[Bool.and_eq_false_iff];simp only[decide_eq_false_iff_not];omega
   repeat' (first|(show aM _ _ _ _ _ _ _;refine wT ?_ (hv:=hv');intro _ _ hA;subst hA)|refine TJ ?_|refine w5 ?_ ?_|((refine bh fun h=>?_) <;> try exact w6 h)|(refine aF fun hA=>?_;subst hA)|intro _|(show aA _ 176 _ _ _;refine CA (h:=wQ ?_);rw[hwd]))
   all_goals(refine aC ?_;exact aB (hK))
 ·have hjl:j=ps.length:=by omega
  rw[List.drop_eq_nil_of_le (by omega)] at hap
  rw[hap] at hK
  repeat' (first|refine TJ ?_|refine w5 ?_ ?_|((refine bh fun h=>?_) <;> try exact w6 h)|(refine aF fun hA=>?_;subst hA)|intro _)
  all_goals(refine aC ?_;exact aB (hK))
theorem HQ (hK:K (.agg #[I6 64,I6 8,I6 4]) R):CT 25 #[] R K:=by
 refine aJ Tryz.func25 ?_
 repeat' (first|refine v5 ?_|refine w5 ?_ ?_|((refine bh fun h=>?_) <;> try exact w6 h)|(refine aF fun hA=>?_;subst hA)|intro _)
 all_goals(refine aC ?_;exact aB (hK))
theorem Aar {s t:ByteArray} (h:s.toList=t.toList):s=t:=by
 rw[ByteArray.toList_eq,ByteArray.toList_eq] at h
 exact ByteArray.ext (Array.toList_inj.1 h)
structure Bt where
 ev:Int
 wa:Int
 no:Int
 he:Int
 ou:Bool
 lo:Bool
 si:Int
 nn:Int
def btP (p:Nat) (b:Bt):HP:=mH p b.ev b.wa b.no b.he b.ou b.lo b.si b.nn
def bN (b:Bt) (now:Int):Bt:= { b with no:=max b.no now,he:=max b.no now }
def Adb (b:Bt):Prop:=(0<=b.no/\b.no<=100000000000)/\(0<=b.he/\b.he<=100000000000)/\(0<=b.si/\b.si<=100000000000)/\0<=b.nn/\b.nn<=100000000000
def lB (b:Bt) (now:Int) (s:ByteArray):Bt:=if b.ou=true/\s=vV b.nn then { b with no:=max b.no now,he:=max b.no now,ou:=false } else b
section
variable {b:Bt} {s:ByteArray}
theorem dH (hK:K (.tuple #[]) (btP p (bN b now)::R)):CT 112 #[PO p,I6 now] (btP p b::R) K:=Nq hK
theorem Xe (hb:Adb b) (hK:∀v,K v (btP p (lB b now s)::R)):CT 116 #[PO p,I6 now,.string s] (btP p b::R) K:=by
 obtain⟨ev,wa,no,he,ou,lo,si,nn⟩:=b
 obtain⟨h1,h2,h3,h4⟩:=hb
 simp only at h1 h2 h3 h4
 cases ou
 ·have e:lB ⟨ev,wa,no,he,false,lo,si,nn⟩ now s=⟨ev,wa,no,he,false,lo,si,nn⟩:=by unfold lB;rw[if_neg (by simp)]
  rw[e] at hK
  exact Yd rfl (hK _)
 ·by_cases hs:s=vV nn
  ·have e:lB ⟨ev,wa,no,he,true,lo,si,nn⟩ now s=⟨ev,wa,max no now,max no now,false,lo,si,nn⟩:=by unfold lB;rw[if_pos ⟨rfl,hs⟩]
   rw[e] at hK
   subst hs
   exact YJ rfl h4.1 (hK _)
  ·have e:lB ⟨ev,wa,no,he,true,lo,si,nn⟩ now s=⟨ev,wa,no,he,true,lo,si,nn⟩:=by unfold lB;rw[if_neg (fun q=>hs q.2)]
   rw[e] at hK
   simp only[btP,mH] at hK ⊢
   have hne:(s.toList == (vV nn).toList)=false:=beq_eq_false_iff_ne.2 fun q=>hs (Aar q)
   have hne':(!s.toList == (vV nn).toList)=true:=by rw[hne];rfl
   have hn4:=h4.1
   refine aJ Tryz.func116 ?_
   repeat' (first|refine LK ?_|refine w5 ?_ ?_|((refine bh fun h=>?_) <;> try exact w6 h)|(refine aF fun hA=>?_;subst hA)|intro _|(show aA _ 188 _ _ _;refine CA (h:=C9 hn4 ?_)))
   all_goals(refine aC ?_;exact aB (hK _))
def Qi (b:Bt) (now:Int):Int:=if b.ev=0 then 0 else Ay b.ev b.wa b.he b.ou b.lo b.si (max b.no now)
def btD (b:Bt) (now:Int):ByteArray:=if Qi b now=1 then vV (b.nn+1) else⟨#[]⟩
def g0 (b:Bt) (now:Int):Bt:=if b.ev=0 then b else if Qi b now=1 then { b with no:=max b.no now,ou:=true,si:=max b.no now,nn:=b.nn+1 } else if Qi b now=2 then { b with no:=max b.no now,lo:=true } else { b with no:=max b.no now }
theorem Xo (hb:Adb b) (hn:0<=now/\now<=100000000000) (hK:K (.tuple #[I6 (Qi b now),.string (btD b now)]) (btP p (g0 b now)::R)):CT 132 #[PO p,I6 now] (btP p b::R) K:=by
 obtain⟨ev,wa,no,he,ou,lo,si,nn⟩:=b
 obtain⟨h1,h2,h3,h4⟩:=hb
 simp only at h1 h2 h3 h4
 by_cases h0:ev=0
 ·simp only[Qi,btD,g0,if_pos h0] at hK
  exact SB h0 hK
 ·change CT 132 #[PO p,I6 now] (mH p ev wa no he ou lo si nn::R) K
  have hst:Ay ev wa he ou lo si (max no now)=0\/Ay ev wa he ou lo si (max no now)=1\/Ay ev wa he ou lo si (max no now)=2:=by
   unfold Ay
   split
   ·exact .inr (.inr rfl)
   ·split
    ·exact .inl rfl
    ·exact .inr (.inl rfl)
  rcases hst with hk|hk|hk
  ·simp only[Qi,btD,g0,if_neg h0,hk] at hK
   exact Zq hk rfl h0 (by omega) (by omega) (by omega) (by omega) hK
  ·simp only[Qi,btD,g0,if_neg h0,hk] at hK
   exact Zj hk rfl h0 (by omega) (by omega) (by omega) (by omega) hK
  ·simp only[Qi,btD,g0,if_neg h0,hk] at hK
   exact Abz hk rfl h0 (by omega) (by omega) (by omega) (by omega) hK
theorem Y0 {e w:Int} (he:0<=e/\e<=1048576) (hw:0<=w/\w<=1048576) (hK:∀p,K (.tuple #[PO p,I6 0]) (btP p ⟨e,w,0,0,false,false,0,0⟩::R)):CT 31 #[I6 e,I6 w] R K:=Se he hw hK
end
end Go.Proofs.YtffnpejdkkohcaaGreat
