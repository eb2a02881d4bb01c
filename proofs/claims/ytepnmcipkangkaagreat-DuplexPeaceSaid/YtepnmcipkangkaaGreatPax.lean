/- A part of the proof: lemmas; each with the conditions that it states. -/
import Derived.Test.YtepnmcipkangkaaGreatPba
import Derived.Test.YtepnmcipkangkaaGreatPaw
import Derived.Test.YtepnmcipkangkaaGreatPao
set_option linter.unusedVariables false
set_option linter.unusedSimpArgs false
set_option maxRecDepth 100000
set_option maxHeartbeats 40000000
namespace Go.Proofs.YtepnmcipkangkaaGreat
open Go Go.Proofs Go.Sl
attribute [local irreducible] aN fJ cY bN aM aS aA dM dN aV dL pt ro fB star sep bF
attribute [local irreducible] mp CV
variable {R C:List HP} {K:KP} {p c:Nat} {a t:dZ} {l:List dZ} {A:Option Addr} {ps:List Pr} {now:Int}
section
variable {s:Gm} {b:dZ}
theorem Aeb (hK:K (.agg #[I6 (MZ a b).w,I6 (MZ a b).st,I6 (MZ a b).it]) R):CT 173 #[.agg #[I6 a.w,I6 a.st,I6 a.it],.agg #[I6 b.w,I6 b.st,I6 b.it]] R K:=by
 simp only[MZ] at hK
 refine aH Tryz.func173 ?_
 repeat' (first|refine v61 ?_|refine w5 ?_ ?_|((refine bh fun h=>?_) <;> try exact w6 h)|(refine aE fun hA=>?_;subst hA)|intro _)
 all_goals(refine aC ?_;exact aB (hK))
theorem Akn (h:l≠ []):∃x,l.getLast?=some x/\l[((l.length:Nat) - 1:Int).toNat]?=some x:=by
 have hl:0<l.length:=List.length_pos_iff.2 h
 refine⟨l[l.length - 1],?_,?_⟩
 ·rw[List.getLast?_eq_getElem?,List.getElem?_eq_getElem (by omega)]
 ·rw[show((l.length:Nat) - 1:Int).toNat=l.length - 1 by omega,List.getElem?_eq_getElem (by omega)]
theorem XP {h g:dZ} (hl:l.length<=1000) (hK:K (.agg #[I6 (mK ⟨h,g,l⟩).w,I6 (mK ⟨h,g,l⟩).st,I6 (mK ⟨h,g,l⟩).it]) (pt p [I6 h.w,I6 h.st,I6 h.it,I6 g.w,I6 g.st,I6 g.it,.slice A l.length c] 266::bV A c 23 Hg l::R)):CT 172 #[PO p] (pt p [I6 h.w,I6 h.st,I6 h.it,I6 g.w,I6 g.st,I6 g.it,.slice A l.length c] 266::bV A c 23 Hg l::R) K:=by
 by_cases hz:l= []
 ·have e:mK ⟨h,g,l⟩=h:=by unfold mK;rw[hz];rfl
  have hn:l.length=0:=by rw[hz];rfl
  rw[e] at hK
  refine aH Tryz.func172 ?_
  repeat' (first|refine v71 ?_|refine w5 ?_ ?_|((refine bh fun h=>?_) <;> try exact w6 h)|(refine aE fun hA=>?_;subst hA)|intro _|(show aA _ 262 _ _ _;refine CA (h:=Je ?_))|(show aA _ 232 _ _ _;refine CA (h:=Ti ?_)))
  all_goals(refine aC ?_;exact aB (hK))
 ·obtain⟨x,h1,h2⟩:=Akn hz
  have hn:0<l.length:=List.length_pos_iff.2 hz
  have e:mK ⟨h,g,l⟩=x:=by unfold mK;rw[h1]
  rw[e] at hK
  refine aH Tryz.func172 ?_
  repeat' (first|refine v71 ?_|refine w5 ?_ ?_|((refine bh fun h=>?_) <;> try exact w6 h)|(refine aE fun hA=>?_;subst hA)|intro _|(show aA _ 262 _ _ _;refine CA (h:=Je ?_)))
  all_goals(refine aC ?_;exact aB (hK))
def p7:List (Nat×Nat):= [(0,0),(1,1),(2,1),(3,1),(4,0)]
def rF:List Nat:= [0,0,2,6,14,0,32,96,224,480,0,1024,3072,7168,15360,32766,0,65536,262142,524287,1048575,2097151]
def qR:List Nat:= [2097151,1048575,524287,262142,65536,0,32766,15360,7168,3072,1024,0,480,224,96,32,0,14,6,2,0,0]
def p8:List (Nat×Nat):= [(16,0),(17,1),(1,1),(2,1),(3,1),(4,1),(5,1),(6,1),(7,1),(8,1),(9,1),(10,1),(11,1),(12,1),(13,1),(14,1),(15,1),(18,1),(0,2),(19,0),(20,0),(21,1)]
def pN:List (Nat×Nat):= [(1,0),(2,0),(3,0),(4,0),(5,0),(6,0),(7,1),(0,1),(8,0),(9,0),(10,1)]
theorem Gd (hl:s.l.length<=4) (hK:∀A c,K (.tuple #[.slice A (if g8 s t=0 then Ds (mK s) t else []).length c,I6 (g8 s t)]) (Wg p (eB s t)::bV A c 349 tI (if g8 s t=0 then Ds (mK s) t else [])::R)):CT 99 #[PO p,.agg #[I6 t.w,I6 t.st,I6 t.it]] (Wg p s::R) K:=by
 obtain⟨h,g,l⟩:=s
 simp only at hl
 cases hc:rT t.w t.st t.it
 ·have e:g8 ⟨h,g,l⟩ t=3:=by unfold g8;rw[hc];rfl
  have e2:eB ⟨h,g,l⟩ t=⟨h,g,l⟩:=by unfold eB;rw[e];rfl
  rw[e,e2] at hK
  simp only[show ¬((3:Int)=0) by decide,if_false] at hK
  unfold Wg at *
  dsimp only at hK ⊢
  repeat (first|refine aA.ex fun _=>?_|refine aA.sep ?_|refine aA.pure fun _=>?_)
  refine aH Tryz.func99 ?_
  repeat' (first|refine v92 ?_|refine dw p7 ?_|refine R6 rF qR p8 ?_|refine dw pN ?_|refine w5 ?_ ?_|((refine bh fun h=>?_) <;> try exact w6 h)|(refine aE fun hA=>?_;subst hA)|intro _|(show aA _ 170 _ _ _;refine CA (h:=vO (v:=3) (by rw[hc];rfl) ?_)))
  all_goals(refine aC ?_;exact aB (hK none 0))
 ·by_cases h4:4<=l.length
  ·have e:g8 ⟨h,g,l⟩ t=16:=by unfold g8;rw[hc,if_neg (by decide),if_pos h4]
   have e2:eB ⟨h,g,l⟩ t=⟨h,g,l⟩:=by unfold eB;rw[e];rfl
   rw[e,e2] at hK
   simp only[show ¬((16:Int)=0) by decide,if_false] at hK
   unfold Wg at *
   dsimp only at hK ⊢
   repeat (first|refine aA.ex fun _=>?_|refine aA.sep ?_|refine aA.pure fun _=>?_)
   refine aH Tryz.func99 ?_
   repeat' (first|refine v92 ?_|refine dw p7 ?_|refine R6 rF qR p8 ?_|refine dw pN ?_|refine w5 ?_ ?_|((refine bh fun h=>?_) <;> try exact w6 h)|(refine aE fun hA=>?_;subst hA)|intro _|(show aA _ 170 _ _ _;refine CA (h:=vO (v:=0) (by rw[hc];rfl) ?_)))
   all_goals(refine aC ?_;exact aB (hK none 0))
  ·have e:g8 ⟨h,g,l⟩ t=0:=by unfold g8;rw[hc,if_neg (by decide),if_neg h4]
   have e2:eB ⟨h,g,l⟩ t=⟨h,MZ g t,l++ [t]⟩:=by unfold eB;rw[e];rfl
   rw[e,e2] at hK
   simp only[if_true] at hK
   unfold Wg at *
   dsimp only at hK ⊢
   repeat (first|refine aA.ex fun _=>?_|refine aA.sep ?_|refine aA.pure fun _=>?_)
   refine i0 (E:=Hg) (l:=l) (by((repeat (first|exact aU.here|apply aU.there)) <;> exact aU.here)) fun hf=>?_
   refine aH Tryz.func99 ?_
   have hdr:(l.drop (Int.toNat 0)).take (((l.length:Nat):Int).toNat - Int.toNat 0)=l:=by simp
   repeat' (first|(show aN _ _ _ _ _ _ _;refine iP (E:=Hg) (xs:=l) ?_;intro _;rw[hdr])|refine v92 ?_|refine dw p7 ?_|refine R6 rF qR p8 ?_|refine dw pN ?_|refine w5 ?_ ?_|((refine bh fun h=>?_) <;> try exact w6 h)|(refine aE fun hA=>?_;subst hA)|intro _|(show aA _ 170 _ _ _;refine CA (h:=vO (v:=0) (by rw[hc];rfl) ?_))|(show aA _ 172 _ _ _;refine CA (h:=XP (by omega) ?_))|(show aA _ 171 _ _ _;refine CA (h:=Amo (fun A9 c9=>?_)))|(show aA _ 173 _ _ _;refine CA (h:=Aeb (a:=g) (b:=t) ?_))|(show aN _ _ _ _ _ _ _;refine dD (E:=Hg) (ys:= [t]) ?_;intro _ _))
   all_goals(refine aC ?_;exact aB (hK _ _))
def xE:List (Nat×Nat):= [(0,0),(5,1),(1,1),(2,1),(3,1),(4,1),(6,1),(7,0)]
theorem R4 (hK:K (.tuple #[.agg #[I6 (if s.l= [] then 0 else s.h.w),I6 (if s.l= [] then 0 else s.h.st),I6 (if s.l= [] then 0 else s.h.it)],.agg #[I6 (if s.l= [] then 0 else(dG s).h.w),I6 (if s.l= [] then 0 else(dG s).h.st),I6 (if s.l= [] then 0 else(dG s).h.it)],I6 (Ak s)]) (Wg p (dG s)::R)):CT 296 #[PO p] (Wg p s::R) K:=by
 obtain⟨h,g,l⟩:=s
 cases l with
 |nil=>
  simp only[dG,Ak,if_true] at hK
  unfold Wg at *
  dsimp only at hK ⊢
  repeat (first|refine aA.ex fun _=>?_|refine aA.sep ?_|refine aA.pure fun _=>?_)
  refine aH Tryz.func296 ?_
  repeat' (first|refine v73 ?_|refine dw xE ?_|refine w5 ?_ ?_|((refine bh fun h=>?_) <;> try exact w6 h)|(refine aE fun hA=>?_;subst hA)|intro _)
  all_goals(refine aC ?_;exact aB (hK))
 |cons x r=>
  simp only[dG,Ak,reduceCtorEq,if_false] at hK
  have hx:(x::r)[(0:Int).toNat]?=some x:=rfl
  have hlen:0<(x::r).length:=Nat.succ_pos _
  unfold Wg at *
  dsimp only at hK ⊢
  repeat (first|refine aA.ex fun _=>?_|refine aA.sep ?_|refine aA.pure fun _=>?_)
  refine aH Tryz.func296 ?_
  have hdr:((x::r).drop (Int.toNat 1)).take ((((x::r).length:Nat):Int).toNat - Int.toNat 1)=r:=by simp
  repeat' (first|(show aN _ _ _ _ _ _ _;refine iP (E:=Hg) (xs:=x::r) ?_;intro _;rw[hdr])|refine v73 ?_|refine dw xE ?_|refine w5 ?_ ?_|((refine bh fun h=>?_) <;> try exact w6 h)|(refine aE fun hA=>?_;subst hA)|intro _)
  all_goals(refine aC ?_;exact aB (hK))
end
theorem yS {n mm:Int} (hK:K (.bool (decide (0<=n) && decide (n<=mm))) R):CT 260 #[I6 n,I6 mm] R K:=by
 refine aH Tryz.func260 ?_
 repeat' (first|refine v1 ?_|refine w5 ?_ ?_|((refine bh fun h=>?_) <;> try exact w6 h)|(refine aE fun hA=>?_;subst hA)|intro _)
 all_goals(refine aC ?_;exact aB (kb hK (by simp <;> omega)))
def Nu (s:dZ) (p:Pr):dZ:=if p.i=1 then⟨p.v,s.st,s.it⟩ else if p.i=2 then⟨s.w,p.v,s.it⟩ else if p.i=3 then⟨s.w,s.st,p.v⟩ else s
def WG:dZ->List Pr->Option dZ
 |s,[]=>some s
 |s,p::ps=>if 0<=p.v/\p.v<=2147483647 then WG (Nu s p) ps else none
theorem Anw {s:dZ} {j:Nat} {p:Pr} (h:ps[j]?=some p):WG s (ps.drop j)=if 0<=p.v/\p.v<=2147483647 then WG (Nu s p) (ps.drop (j+1)) else none:=by
 have hj:=(List.getElem?_eq_some_iff.1 h).1
 rw[List.drop_eq_getElem_cons hj]
 have:=(List.getElem?_eq_some_iff.1 h).2
 rw[this]
 rfl
def paV (o:Option dZ):Value:=match o with
 |some s=>.tuple #[.agg #[I6 s.w,I6 s.st,I6 s.it],I6 0]
 |none=>.tuple #[.agg #[I6 0,I6 0,I6 0],I6 4]
theorem Gz {s:dZ} {n:Nat} (hv:d4 R A tI ps) (hn:ps.length=n) (hs:n<=1000000) (hK:K (paV (WG s ps)) R):CT 292 #[.agg #[I6 s.w,I6 s.st,I6 s.it],.slice A n c] R K:=by
 subst hn
 refine aH Tryz.func292 ?_
 repeat' (first|refine Kx ?_|refine w5 ?_ ?_|((refine bh fun h=>?_) <;> try exact w6 h)|(refine aE fun hA=>?_;subst hA)|intro _)
 rename_i r2 r4
 refine jG (fun kk a C'=>∃(j:Nat) (z:dZ),j+kk=ps.length/\WG s ps=WG z (ps.drop j)/\dP a [(2,PO r2),(4,PO r4),(8,.slice A ps.length c),(9,I6 ps.length),(10,I6 j)]/\C'=pt r4 [I6 0,I6 0,I6 0] 23::pt r2 [I6 z.w,I6 z.st,I6 z.it] 23::R) ps.length (cN ps.length ⟨0,s,by omega,rfl,⟨rfl,rfl,rfl,rfl,rfl,trivial⟩,rfl⟩ (by omega)) ?_
 rintro kk a C' ⟨j,z,hj,hap,ha,rfl⟩
 have hv':d4 (pt r4 [I6 0,I6 0,I6 0] 23::pt r2 [I6 z.w,I6 z.st,I6 z.it] 23::R) A tI ps:=bM (bM hv)
 refine iT _ ha ?_
 simp only[gH]
 by_cases hlt:j<ps.length
 ·obtain⟨p,hp⟩:∃p,ps[j]?=some p:=⟨_,List.getElem?_eq_getElem hlt⟩
  rw[Anw hp] at hap
  by_cases hw:0<=p.v/\p.v<=2147483647
  ·rw[if_pos hw] at hap
   have hwd:(decide (0<=p.v) && decide (p.v<=2147483647))=true:=by simp[hw]
   by_cases h1:p.i=1
   ·have e:Nu z p=⟨p.v,z.st,z.it⟩:=by unfold Nu;rw[if_pos h1]
    rw[e] at hap
    repeat' (first|(show aN _ _ _ _ _ _ _;refine yK ?_ (hv:=hv');intro _ _ hA;subst hA)|refine Kx ?_|refine w5 ?_ ?_|((refine bh fun h=>?_) <;> try exact w6 h)|(refine aE fun hA=>?_;subst hA)|intro _|(show aA _ 260 _ _ _;refine CA (h:=yS ?_);rw[hwd]))
    all_goals(show aV _ _ _ _;exact cN (kk - 1) ⟨j+1,_,by omega,hap,⟨rfl,rfl,rfl,rfl,rfl,trivial⟩,rfl⟩)
   ·by_cases h2:p.i=2
    ·have e:Nu z p=⟨z.w,p.v,z.it⟩:=by unfold Nu;rw[if_neg h1,if_pos h2]
     rw[e] at hap
     repeat' (first|(show aN _ _ _ _ _ _ _;refine yK ?_ (hv:=hv');intro _ _ hA;subst hA)|refine Kx ?_|refine w5 ?_ ?_|((refine bh fun h=>?_) <;> try exact w6 h)|(refine aE fun hA=>?_;subst hA)|intro _|(show aA _ 260 _ _ _;refine CA (h:=yS ?_);rw[hwd]))
     all_goals(show aV _ _ _ _;exact cN (kk - 1) ⟨j+1,_,by omega,hap,⟨rfl,rfl,rfl,rfl,rfl,trivial⟩,rfl⟩)
    ·by_cases h3:p.i=3
     ·have e:Nu z p=⟨z.w,z.st,p.v⟩:=by unfold Nu;rw[if_neg h1,if_neg h2,if_pos h3]
      rw[e] at hap
      repeat' (first|(show aN _ _ _ _ _ _ _;refine yK ?_ (hv:=hv');intro _ _ hA;subst hA)|refine Kx ?_|refine w5 ?_ ?_|((refine bh fun h=>?_) <;> try exact w6 h)|(refine aE fun hA=>?_;subst hA)|intro _|(show aA _ 260 _ _ _;refine CA (h:=yS ?_);rw[hwd]))
      all_goals(show aV _ _ _ _;exact cN (kk - 1) ⟨j+1,_,by omega,hap,⟨rfl,rfl,rfl,rfl,rfl,trivial⟩,rfl⟩)
     ·have e:Nu z p=z:=by unfold Nu;rw[if_neg h1,if_neg h2,if_neg h3]
      rw[e] at hap
      repeat' (first|(show aN _ _ _ _ _ _ _;refine yK ?_ (hv:=hv');intro _ _ hA;subst hA)|refine Kx ?_|refine w5 ?_ ?_|((refine bh fun h=>?_) <;> try exact w6 h)|(refine aE fun hA=>?_;subst hA)|intro _|(show aA _ 260 _ _ _;refine CA (h:=yS ?_);rw[hwd]))
      all_goals(show aV _ _ _ _;exact cN (kk - 1) ⟨j+1,_,by omega,hap,⟨rfl,rfl,rfl,rfl,rfl,trivial⟩,rfl⟩)
  ·rw[if_neg hw] at hap
   rw[hap] at hK
   have hwd:(decide (0<=p.v) && decide (p.v<=2147483647))=false:=by
    rw[Bool.and_eq_false_iff];simp only[decide_eq_false_iff_not];omega
   repeat' (first|(show aN _ _ _ _ _ _ _;refine yK ?_ (hv:=hv');intro _ _ hA;subst hA)|refine Kx ?_|refine w5 ?_ ?_|((refine bh fun h=>?_) <;> try exact w6 h)|(refine aE fun hA=>?_;subst hA)|intro _|(show aA _ 260 _ _ _;refine CA (h:=yS ?_);rw[hwd]))
   all_goals(refine aC ?_;exact aB (hK))
 ·have hjl:j=ps.length:=by omega
  rw[List.drop_eq_nil_of_le (by omega)] at hap
  rw[hap] at hK
  repeat' (first|refine Kx ?_|refine w5 ?_ ?_|((refine bh fun h=>?_) <;> try exact w6 h)|(refine aE fun hA=>?_;subst hA)|intro _)
  all_goals(refine aC ?_;exact aB (hK))
theorem Ix (hK:K (.agg #[I6 64,I6 8,I6 4]) R):CT 87 #[] R K:=by
 refine aH Tryz.func87 ?_
 repeat' (first|refine v5 ?_|refine w5 ?_ ?_|((refine bh fun h=>?_) <;> try exact w6 h)|(refine aE fun hA=>?_;subst hA)|intro _)
 all_goals(refine aC ?_;exact aB (hK))
def Dz:List (Nat×Nat):= [(0,0),(1,0),(2,0),(3,0),(4,0),(5,0),(6,0),(7,0),(8,0),(9,0)]
theorem Gr {d:Dr} (hK:K (.tuple #[I6 d.la,.bool d.se]) (Ei p d::R)):CT 147 #[PO p] (Ei p d::R) K:=by
 obtain⟨se,go,ov,la,th,co⟩:=d
 simp only[Ei] at hK ⊢
 refine aH Tryz.func147 ?_
 repeat' (first|refine v4 ?_|refine dw Dz ?_|refine w5 ?_ ?_|((refine bh fun h=>?_) <;> try exact w6 h)|(refine aE fun hA=>?_;subst hA)|intro _)
 all_goals(refine aC ?_;exact aB (hK))
theorem Af0 {s t:ByteArray} (h:s.toList=t.toList):s=t:=by
 rw[ByteArray.toList_eq,ByteArray.toList_eq] at h
 exact ByteArray.ext (Array.toList_inj.1 h)
structure Bt where
 ev:Int
 wa:Int
 no:Int
 he:Int
 ou:Bool
 lo:Bool
 si:Int
 nn:Int
def btP (p:Nat) (b:Bt):HP:=nE p b.ev b.wa b.no b.he b.ou b.lo b.si b.nn
def bQ (b:Bt) (now:Int):Bt:= { b with no:=max b.no now,he:=max b.no now }
def Ahp (b:Bt):Prop:=(0<=b.no/\b.no<=100000000000)/\(0<=b.he/\b.he<=100000000000)/\(0<=b.si/\b.si<=100000000000)/\0<=b.nn/\b.nn<=100000000000
def kA (b:Bt) (now:Int) (s:ByteArray):Bt:=if b.ou=true/\s=xS b.nn then { b with no:=max b.no now,he:=max b.no now,ou:=false } else b
section
variable {b:Bt} {s:ByteArray}
theorem dO (hK:K (.tuple #[]) (btP p (bQ b now)::R)):CT 206 #[PO p,I6 now] (btP p b::R) K:=R0 hK
theorem Zw (hb:Ahp b) (hK:∀v,K v (btP p (kA b now s)::R)):CT 210 #[PO p,I6 now,.string s] (btP p b::R) K:=by
 obtain⟨ev,wa,no,he,ou,lo,si,nn⟩:=b
 obtain⟨h1,h2,h3,h4⟩:=hb
 simp only at h1 h2 h3 h4
 cases ou
 ·have e:kA ⟨ev,wa,no,he,false,lo,si,nn⟩ now s=⟨ev,wa,no,he,false,lo,si,nn⟩:=by unfold kA;rw[if_neg (by simp)]
  rw[e] at hK
  exact Ae9 rfl (hK _)
 ·by_cases hs:s=xS nn
  ·have e:kA ⟨ev,wa,no,he,true,lo,si,nn⟩ now s=⟨ev,wa,max no now,max no now,false,lo,si,nn⟩:=by unfold kA;rw[if_pos ⟨rfl,hs⟩]
   rw[e] at hK
   subst hs
   exact Aey rfl h4.1 (hK _)
  ·have e:kA ⟨ev,wa,no,he,true,lo,si,nn⟩ now s=⟨ev,wa,no,he,true,lo,si,nn⟩:=by unfold kA;rw[if_neg (fun q=>hs q.2)]
   rw[e] at hK
   simp only[btP,nE] at hK ⊢
   have hne:(s.toList == (xS nn).toList)=false:=beq_eq_false_iff_ne.2 fun q=>hs (Af0 q)
   have hne':(!s.toList == (xS nn).toList)=true:=by rw[hne];rfl
   have hn4:=h4.1
   refine aH Tryz.func210 ?_
   repeat' (first|refine N7 ?_|refine w5 ?_ ?_|((refine bh fun h=>?_) <;> try exact w6 h)|(refine aE fun hA=>?_;subst hA)|intro _|(show aA _ 265 _ _ _;refine CA (h:=FJ hn4 ?_)))
   all_goals(refine aC ?_;exact aB (hK _))
def PL (b:Bt) (now:Int):Int:=if b.ev=0 then 0 else Ba b.ev b.wa b.he b.ou b.lo b.si (max b.no now)
def btD (b:Bt) (now:Int):ByteArray:=if PL b now=1 then xS (b.nn+1) else⟨#[]⟩
def gT (b:Bt) (now:Int):Bt:=if b.ev=0 then b else if PL b now=1 then { b with no:=max b.no now,ou:=true,si:=max b.no now,nn:=b.nn+1 } else if PL b now=2 then { b with no:=max b.no now,lo:=true } else { b with no:=max b.no now }
theorem YM (hb:Ahp b) (hn:0<=now/\now<=100000000000) (hK:K (.tuple #[I6 (PL b now),.string (btD b now)]) (btP p (gT b now)::R)):CT 179 #[PO p,I6 now] (btP p b::R) K:=by
 obtain⟨ev,wa,no,he,ou,lo,si,nn⟩:=b
 obtain⟨h1,h2,h3,h4⟩:=hb
 simp only at h1 h2 h3 h4
 by_cases h0:ev=0
 ·simp only[PL,btD,gT,if_pos h0] at hK
  exact Vj h0 hK
 ·change CT 179 #[PO p,I6 now] (nE p ev wa no he ou lo si nn::R) K
  have hst:Ba ev wa he ou lo si (max no now)=0\/Ba ev wa he ou lo si (max no now)=1\/Ba ev wa he ou lo si (max no now)=2:=by
   unfold Ba
   split
   ·exact .inr (.inr rfl)
   ·split
    ·exact .inl rfl
    ·exact .inr (.inl rfl)
  rcases hst with hk|hk|hk
  ·simp only[PL,btD,gT,if_neg h0,hk] at hK
   exact Abw hk rfl h0 (by omega) (by omega) (by omega) (by omega) hK
  ·simp only[PL,btD,gT,if_neg h0,hk] at hK
   exact Afn hk rfl h0 (by omega) (by omega) (by omega) (by omega) hK
  ·simp only[PL,btD,gT,if_neg h0,hk] at hK
   exact Aea hk rfl h0 (by omega) (by omega) (by omega) (by omega) hK
theorem Ad5 {e w:Int} (he:0<=e/\e<=1048576) (hw:0<=w/\w<=1048576) (hK:∀p,K (.tuple #[PO p,I6 0]) (btP p ⟨e,w,0,0,false,false,0,0⟩::R)):CT 93 #[I6 e,I6 w] R K:=TN he hw hK
end
end Go.Proofs.YtepnmcipkangkaaGreat
