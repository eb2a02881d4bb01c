/- A part of the proof: lemmas; each with the conditions that it states. -/
import Derived.Test.YtepnmcipkangkaaGreatCbm
import Derived.Test.YtepnmcipkangkaaGreatCbk
set_option linter.unusedVariables false
set_option linter.unusedSimpArgs false
set_option maxRecDepth 100000
set_option maxHeartbeats 40000000
namespace Go.Proofs.YtepnmcipkangkaaGreat
open Go Go.Proofs Go.Sl
attribute [local irreducible] aN fL cL bM aL aR aA dJ dK aU dI pt ro fC star sep bF
attribute [local irreducible] mp DG
variable {R C:List HP} {K:KP} {x p x0 x1 mc:Nat} {ad:Ca} {c:Cn} {B P id n kind sg on w side:Int} {xx:Bool} {d:ByteArray} {t:dR} {cf cf0 cf1:Cf} {M:Option Addr}
section
theorem Ab0 (hP:sC cf P c) (hK:K (.tuple #[I6 (if jP kind sg on w xx c=0 then c.nx else 0),I6 (jP kind sg on w xx c)]) (jO x ad (lF kind sg on w xx c)::R)):CT 52 #[PO x,I6 kind,I6 sg,.agg #[I6 on,I6 w,.bool xx]] (jO x ad c::R) K:=by
 obtain⟨B,⟨hI,_,_⟩,_⟩:=hP
 refine eU fun M mc=>?_
 by_cases hE:jP kind sg on w xx c=0
 ·rw[if_pos hE,hE] at hK
  exact aA.entK (US hI hE (by rw[show c.nx+2 - 2=c.nx by omega];exact⟨_,eF,hK⟩))
 ·rw[if_neg hE] at hK
  have eo:lF kind sg on w xx c=aD c:=by unfold lF;rw[if_pos hE]
  rw[eo] at hK
  exact aA.entK (SQ hI hE ⟨_,eF,hK⟩)
theorem Ur (hP:sC cf P c) (hd:d.size<=100000000) (hK:K (.tuple #[I6 (qD id d c).1,I6 (qD id d c).2]) (jO x ad (kY id d c)::R)):CT 53 #[PO x,I6 id,.string d] (jO x ad c::R) K:=by
 obtain⟨B,hG,_⟩:=hP
 exact eU fun M mc=>aA.entK (Uw hG.I hd ⟨_,eF,hK⟩)
theorem Amr (hP:sC cf P c) (hK:K (I6 (M8 id c)) (jO x ad (xF id c)::R)):CT 151 #[PO x,I6 id] (jO x ad c::R) K:=by
 obtain⟨B,hG,_⟩:=hP
 exact eU fun M mc=>aA.entK (Ab6 hG.I ⟨_,eF,hK⟩)
theorem Amf (hP:sC cf P c) (hK:K (I6 (N0 id n c)) (jO x ad (wR id n c)::R)):CT 153 #[PO x,I6 id,I6 n] (jO x ad c::R) K:=by
 obtain⟨B,hG,_⟩:=hP
 exact eU fun M mc=>aA.entK (Aa1 hG.I ⟨_,eF,hK⟩)
theorem Ad0 (hP:sC cf P c) (hK:K (.tuple #[.string (mH id n c).1,.bool (mH id n c).2.1,I6 (mH id n c).2.2]) (jO x ad (mY id n c)::R)):CT 54 #[PO x,I6 id,I6 n] (jO x ad c::R) K:=by
 obtain⟨B,hG,_⟩:=hP
 exact eU fun M mc=>aA.entK (XV hG.I fun _ _=>⟨_,eF,hK⟩)
theorem Amx (hP:sC cf P c) (hK:K (.tuple #[.string (nJ id c).1,.bool (nJ id c).2.1,.bool (nJ id c).2.2.1,I6 (nJ id c).2.2.2]) (jO x ad (rJ id c)::R)):CT 152 #[PO x,I6 id] (jO x ad c::R) K:=by
 obtain⟨B,hG,_⟩:=hP
 exact eU fun M mc=>aA.entK (YL hG.I fun _ _=>⟨_,eF,hK⟩)
theorem Ad5 (hP:sC cf P c) (hK:K (I6 (VX c)) (jO x ad (AT c)::R)):CT 55 #[PO x] (jO x ad c::R) K:=by
 obtain⟨B,hG,_⟩:=hP
 exact eU fun M mc=>aA.entK (Akh hG.I ⟨_,eF,hK⟩)
theorem Anc (hP:sC cf P c) (hK:K (I6 (kB id n c)) (jO x ad (lU id n c)::R)):CT 155 #[PO x,I6 id,I6 n] (jO x ad c::R) K:=by
 obtain⟨B,hG,_⟩:=hP
 exact eU fun M mc=>aA.entK (UM hG.I fun _ _=>⟨_,eF,hK⟩)
theorem Anb (hP:sC cf P c) (hK:K (I6 (Hi id on w xx c)) (jO x ad (pJ id on w xx c)::R)):CT 154 #[PO x,I6 id,.agg #[I6 on,I6 w,.bool xx]] (jO x ad c::R) K:=by
 obtain⟨B,hG,_⟩:=hP
 exact eU fun M mc=>aA.entK (Xx hG.I fun _ _=>⟨_,eF,hK⟩)
theorem Afl (hP:sC cf P c) (hK:K (I6 (MZ t c)) (jO x ad (tD t c)::R)):CT 56 #[PO x,.agg #[I6 t.w,I6 t.st,I6 t.it]] (jO x ad c::R) K:=by
 obtain⟨B,hG,_⟩:=hP
 exact eU fun M mc=>aA.entK (Ael hG.I ⟨_,eF,hK⟩)
theorem SO (hP:sC cf P c) (hB:P<=200000000) (hK:(bW c).1.length<=40000->K (.string ⟨(bW c).1.toArray⟩) (jO x ad (bW c).2::R)):CT 27 #[PO x] (jO x ad c::R) K:=by
 obtain⟨B,hG,hBP⟩:=hP
 exact eU fun M mc=>I1 fun hF=>aA.entK (Xw hG.I hG.K hF (by omega) fun _ _=>⟨_,eF,hK (Aah hG hF (by omega))⟩)
theorem Am3 (hP:sC cf P c) (hd:d.size<=1048576) (hB:P+35 * d.size<=200000000) (hK:K (I6 (zP c)) (jO x ad (fJ d.data.toList c)::R)):CT 29 #[PO x,.string d] (jO x ad c::R) K:=by
 obtain⟨B,hG,hBP⟩:=hP
 have hIb:=hG.E.2
 have e2:d.data.toList.length=d.size:=Array.length_toList
 have h9:=G9 (c.inb++d.data.toList).length (c.inb++d.data.toList) (Nat.le_refl _)
 rw[List.length_append] at h9
 exact eU fun M mc=>aA.entK (LG hG.I hG.E.1 (by omega) (by omega) fun _ _=>⟨_,eF,hK⟩)
theorem An3 {u:List UInt8} (hP:sC cf P c) (hd:u.length<=1048576) (hB:P+35 * u.length<=200000000) (hK:K (I6 (zP c)) (jO x ad (fJ u c)::R)):CT 29 #[PO x,.string ⟨u.toArray⟩] (jO x ad c::R) K:=Am3 hP (by simpa[ByteArray.size] using hd) (by simpa[ByteArray.size] using hB) hK
theorem N8 (hP:sC cf P c) (hK:K (.bool true) (jO x ad c::R)):CT 16 #[PO x] (jO x ad c::R) K:=by
 obtain⟨B,hG,hBP⟩:=hP
 exact eU fun M mc=>I1 fun hF=>aA.entK (UX hG.I hG.K hF ⟨_,eF,hK⟩)
theorem WL (hP:sC cf P c) (hK:∀A d,K (.slice A (c.l.map Sm.id).length d) (bT A d 3 k8 (c.l.map Sm.id)::jO x ad c::R)):CT 39 #[PO x] (jO x ad c::R) K:=by
 obtain⟨B,hG,_⟩:=hP
 exact eU fun M mc=>aA.entK (RE hG.I fun A d=>⟨_,aG.cons eF,hK A d⟩)
structure A6 where
 sd:Int
 kd:Int
 id:Int
 n:Int
 s:ByteArray
 on:Int
 ww:Int
 xx:Bool
 xw:Int
 xs:Int
 xi:Int
def JO (n:Int) (c:Cn):Int:=((c.l.map Sm.id)[(n % 18446744073709551616 % c.l.length).toNat]?).getD n
def sP (a:A6) (c:Cn):AC:=⟨if a.kd=0 then 1 else if a.kd=1\/a.kd=2 then 2 else if a.kd<11 then a.kd else 11,a.sd,JO a.id c,if a.kd=0 then a.n % 18446744073709551616 % 2+1 else a.n,if a.kd=0 then a.id % 18446744073709551616 % 3 else a.n % 18446744073709551616 % 13,a.s,a.on,a.ww,a.xx,a.xw,a.xs,a.xi⟩
def qR (a:A6) (c:Cn):Cn:=if a.kd=17 then s4 c else if 0<=a.kd/\a.kd<14 then p9 (sP a c) c ⟨[],0,0⟩ else c
theorem Aqi {a:A6} (h:sC cf P c) (hP:P<=200000000) (hd:a.s.size<=599):sC cf (P+2000) (qR a c):=by
 unfold qR
 split
 ·exact Amk h hP
 ·split
  ·refine WO h hP hd ?_
   unfold sP
   dsimp only
   repeat' split
   all_goals omega
  ·exact h.mono (by omega)
variable {a:A6}
theorem s5 (hP:sC cf P c) (hK:K (I6 (JO n c)) (jO x ad c::R)):CT 150 #[PO x,I6 n] (jO x ad c::R) K:=by
 obtain⟨B,⟨hI,_,_⟩,_⟩:=id hP
 have h64:=hI.sm.1
 have hln:(c.l.map Sm.id).length=c.l.length:=List.length_map ..
 have hl:((c.l.map Sm.id).length:Int) % 18446744073709551616=(c.l.length:Int):=by omega
 unfold JO at hK
 by_cases h0:c.l.length=0
 ·obtain h1:c.l= []:=List.length_eq_zero_iff.1 h0
  rw[h1] at hK
  have hK:K (I6 n) (jO x ad c::R):=by simpa using hK
  refine aH Tryz.func150 ?_
  repeat' (first|refine v52 ?_|refine w5 ?_ ?_|((refine bh fun h=>?_) <;> try exact w6 h)|(refine aE fun hA=>?_;subst hA)|intro _|(show aA _ 39 _ _ _;refine CA (h:=WL hP (fun _ _=>?_))))
  all_goals(refine aC ?_;exact aB (hK))
 ·have hm0:0<=n % 18446744073709551616 % (c.l.length:Int)/\n % 18446744073709551616 % (c.l.length:Int)<(c.l.length:Int):=⟨Int.emod_nonneg _ (by omega),Int.emod_lt_of_pos _ (by omega)⟩
  generalize hkk:n % 18446744073709551616 % (c.l.length:Int)=k at hm0 hK
  obtain⟨y,hy⟩:∃y,(c.l.map Sm.id)[k.toNat]?=some y:=⟨_,List.getElem?_eq_getElem (by omega)⟩
  rw[hy] at hK
  have hK:K (I6 y) (jO x ad c::R):=hK
  refine aH Tryz.func150 ?_
  repeat' (first|(show cL _ _ _;first|rw[hl]|rw[hkk])|refine v52 ?_|refine w5 ?_ ?_|((refine bh fun h=>?_) <;> try exact w6 h)|(refine aE fun hA=>?_;subst hA)|intro _|(show aA _ 39 _ _ _;refine CA (h:=WL hP (fun _ _=>?_))))
  all_goals(refine aC ?_;exact aB (hK))
theorem WV (hP:sC cf P c) (hk:¬(9<=a.kd/\a.kd<=17)) (hd:a.s.size<=100000000) (hK:K (.tuple #[]) (jO x ad (qR a c)::R)):CT 58 #[PO x,.agg #[I6 a.sd,I6 a.kd,I6 a.id,I6 a.n,.string a.s,I6 a.on,I6 a.ww,.bool a.xx,I6 a.xw,I6 a.xs,I6 a.xi]] (jO x ad c::R) K:=by
 by_cases h0:a.kd=0
 ·have hK:K (.tuple #[]) (jO x ad (lF (a.n % 18446744073709551616 % 2+1) (a.id % 18446744073709551616 % 3) a.on a.ww a.xx c)::R):=by simpa only[qR,sP,p9,NH,h0,Int.reduceEq,Int.reduceLE,Int.reduceLT,if_true,if_false,or_true,true_or,or_self,or_false,false_or,and_true,true_and,and_self] using hK
  refine aH Tryz.func58 ?_
  repeat' (first|refine v83 ?_|refine w5 ?_ ?_|((refine bh fun h=>?_) <;> try exact w6 h)|(refine aE fun hA=>?_;subst hA)|intro _|(show aA _ 150 _ _ _;refine CA (h:=s5 hP ?_))|(show aA _ 52 _ _ _;refine CA (h:=Ab0 hP ?_)))
  all_goals(refine aC ?_;exact aB (hK))
 by_cases h1:a.kd=1
 ·have hK:K (.tuple #[]) (jO x ad (kY (JO a.id c) a.s c)::R):=by simpa only[qR,sP,p9,NH,h1,Int.reduceEq,Int.reduceLE,Int.reduceLT,if_true,if_false,or_true,true_or,or_self,or_false,false_or,and_true,true_and,and_self] using hK
  refine aH Tryz.func58 ?_
  repeat' (first|refine v83 ?_|refine w5 ?_ ?_|((refine bh fun h=>?_) <;> try exact w6 h)|(refine aE fun hA=>?_;subst hA)|intro _|(show aA _ 150 _ _ _;refine CA (h:=s5 hP ?_))|(show aA _ 53 _ _ _;refine CA (h:=Ur hP hd ?_)))
  all_goals(refine aC ?_;exact aB (hK))
 by_cases h2:a.kd=2
 ·have hK:K (.tuple #[]) (jO x ad (kY (JO a.id c) a.s c)::R):=by simpa only[qR,sP,p9,NH,h2,Int.reduceEq,Int.reduceLE,Int.reduceLT,if_true,if_false,or_true,true_or,or_self,or_false,false_or,and_true,true_and,and_self] using hK
  refine aH Tryz.func58 ?_
  repeat' (first|refine v83 ?_|refine w5 ?_ ?_|((refine bh fun h=>?_) <;> try exact w6 h)|(refine aE fun hA=>?_;subst hA)|intro _|(show aA _ 150 _ _ _;refine CA (h:=s5 hP ?_))|(show aA _ 53 _ _ _;refine CA (h:=Ur hP hd ?_)))
  all_goals(refine aC ?_;exact aB (hK))
 by_cases h3:a.kd=3
 ·have hK:K (.tuple #[]) (jO x ad (xF (JO a.id c) c)::R):=by simpa only[qR,sP,p9,NH,h3,Int.reduceEq,Int.reduceLE,Int.reduceLT,if_true,if_false,or_true,true_or,or_self,or_false,false_or,and_true,true_and,and_self] using hK
  refine aH Tryz.func58 ?_
  repeat' (first|refine v83 ?_|refine w5 ?_ ?_|((refine bh fun h=>?_) <;> try exact w6 h)|(refine aE fun hA=>?_;subst hA)|intro _|(show aA _ 150 _ _ _;refine CA (h:=s5 hP ?_))|(show aA _ 151 _ _ _;refine CA (h:=Amr hP ?_)))
  all_goals(refine aC ?_;exact aB (hK))
 by_cases h4:a.kd=4
 ·have hK:K (.tuple #[]) (jO x ad (mY (JO a.id c) a.n c)::R):=by simpa only[qR,sP,p9,NH,h4,Int.reduceEq,Int.reduceLE,Int.reduceLT,if_true,if_false,or_true,true_or,or_self,or_false,false_or,and_true,true_and,and_self] using hK
  refine aH Tryz.func58 ?_
  repeat' (first|refine v83 ?_|refine w5 ?_ ?_|((refine bh fun h=>?_) <;> try exact w6 h)|(refine aE fun hA=>?_;subst hA)|intro _|(show aA _ 150 _ _ _;refine CA (h:=s5 hP ?_))|(show aA _ 54 _ _ _;refine CA (h:=Ad0 hP ?_)))
  all_goals(refine aC ?_;exact aB (hK))
 by_cases h5:a.kd=5
 ·have hK:K (.tuple #[]) (jO x ad (rJ (JO a.id c) c)::R):=by simpa only[qR,sP,p9,NH,h5,Int.reduceEq,Int.reduceLE,Int.reduceLT,if_true,if_false,or_true,true_or,or_self,or_false,false_or,and_true,true_and,and_self] using hK
  refine aH Tryz.func58 ?_
  repeat' (first|refine v83 ?_|refine w5 ?_ ?_|((refine bh fun h=>?_) <;> try exact w6 h)|(refine aE fun hA=>?_;subst hA)|intro _|(show aA _ 150 _ _ _;refine CA (h:=s5 hP ?_))|(show aA _ 152 _ _ _;refine CA (h:=Amx hP ?_)))
  all_goals(refine aC ?_;exact aB (hK))
 by_cases h6:a.kd=6
 ·have hK:K (.tuple #[]) (jO x ad (wR (JO a.id c) a.n c)::R):=by simpa only[qR,sP,p9,NH,h6,Int.reduceEq,Int.reduceLE,Int.reduceLT,if_true,if_false,or_true,true_or,or_self,or_false,false_or,and_true,true_and,and_self] using hK
  refine aH Tryz.func58 ?_
  repeat' (first|refine v83 ?_|refine w5 ?_ ?_|((refine bh fun h=>?_) <;> try exact w6 h)|(refine aE fun hA=>?_;subst hA)|intro _|(show aA _ 150 _ _ _;refine CA (h:=s5 hP ?_))|(show aA _ 153 _ _ _;refine CA (h:=Amf hP ?_)))
  all_goals(refine aC ?_;exact aB (hK))
 by_cases h7:a.kd=7
 ·have hK:K (.tuple #[]) (jO x ad (pJ (JO a.id c) a.on a.ww a.xx c)::R):=by simpa only[qR,sP,p9,NH,h7,Int.reduceEq,Int.reduceLE,Int.reduceLT,if_true,if_false,or_true,true_or,or_self,or_false,false_or,and_true,true_and,and_self] using hK
  refine aH Tryz.func58 ?_
  repeat' (first|refine v83 ?_|refine w5 ?_ ?_|((refine bh fun h=>?_) <;> try exact w6 h)|(refine aE fun hA=>?_;subst hA)|intro _|(show aA _ 150 _ _ _;refine CA (h:=s5 hP ?_))|(show aA _ 154 _ _ _;refine CA (h:=Anb hP ?_)))
  all_goals(refine aC ?_;exact aB (hK))
 by_cases h8:a.kd=8
 ·have hK:K (.tuple #[]) (jO x ad (lU (JO a.id c) (a.n % 18446744073709551616 % 13) c)::R):=by simpa only[qR,sP,p9,NH,h8,Int.reduceEq,Int.reduceLE,Int.reduceLT,if_true,if_false,or_true,true_or,or_self,or_false,false_or,and_true,true_and,and_self] using hK
  refine aH Tryz.func58 ?_
  repeat' (first|refine v83 ?_|refine w5 ?_ ?_|((refine bh fun h=>?_) <;> try exact w6 h)|(refine aE fun hA=>?_;subst hA)|intro _|(show aA _ 150 _ _ _;refine CA (h:=s5 hP ?_))|(show aA _ 155 _ _ _;refine CA (h:=Anc hP ?_)))
  all_goals(refine aC ?_;exact aB (hK))
 have hK:K (.tuple #[]) (jO x ad c::R):=by
  unfold qR at hK
  rwa[if_neg (by omega),if_neg (by omega)] at hK
 refine aH Tryz.func58 ?_
 repeat' (first|refine v83 ?_|refine w5 ?_ ?_|((refine bh fun h=>?_) <;> try exact w6 h)|(refine aE fun hA=>?_;subst hA)|intro _|(show aA _ 150 _ _ _;refine CA (h:=s5 hP ?_)))
 all_goals(refine aC ?_;exact aB (hK))
def Ss (side:Int) (x0 x1:Nat) (w o:ByteArray):List Value:=if side=0 then [PO x0,PO x1,.string w,.string o] else [PO x0,PO x1,.string o,.string w]
def RX (a:A6) (c:Cn) (o:ByteArray):ByteArray:=if 11<=a.kd/\a.kd<=13 then o++⟨(bW c).1.toArray⟩ else o
def d5:List (Nat×Nat):= [(10,0),(11,1),(0,1),(1,1),(2,1),(3,1),(4,1),(5,1),(6,1),(7,1),(8,1),(9,1),(12,0),(13,1),(14,1),(15,0),(16,1)]
def d4:List (Nat×Nat):= [(0,0),(1,0),(2,0),(3,0),(4,0),(5,0),(6,0),(7,0),(8,0),(9,0),(10,0),(11,0)]
def dZ:List (Nat×Nat):= [(0,0),(1,0),(2,0),(3,0),(4,0),(5,0),(6,0),(7,0),(8,0),(9,0),(10,0),(11,0),(12,0),(13,1)]
theorem Wa {u o:ByteArray} (hs:a.sd % 18446744073709551616 % 2=side) (hx:(if side=0 then x0 else x1)=x) (hk:¬(14<=a.kd/\a.kd<=16)) (hP:sC cf P c) (hB:P<=200000000) (hd:a.s.size<=599) (ho:o.size<=1000000000) (hK:(RX a c o).size<=o.size+40000->K (.tuple #[]) (pt p (Ss side x0 x1 u (RX a c o)) 42::jO x ad (qR a c)::R)):CT 12 #[PO p,.agg #[I6 a.sd,I6 a.kd,I6 a.id,I6 a.n,.string a.s,I6 a.on,I6 a.ww,.bool a.xx,I6 a.xw,I6 a.xs,I6 a.xi]] (pt p (Ss side x0 x1 u o) 42::jO x ad c::R) K:=by
 obtain⟨B,hG,hBP⟩:=id hP
 have h01:side=0\/side=1:=by omega
 have hnw:=hG.I.now
 have hbb:=hG.I.bb
 have hd2:a.s.size<=100000000:=by omega
 have es:(bW c).1.length<=40000->(⟨(bW c).1.toArray⟩:ByteArray).size<=40000:=fun h=>by simpa[ByteArray.size] using h
 rcases h01 with rfl|rfl
 ·obtain rfl:x0=x:=by simpa using hx
  simp only[Ss,Int.reduceEq,if_true,if_false] at hK ⊢
  have hKo:¬(11<=a.kd/\a.kd<=13)->K (.tuple #[]) (pt p [PO x0,PO x1,.string u,.string o] 42::jO x0 ad (qR a c)::R):=fun h=>by
   have e26:RX a c o=o:=by unfold RX;rw[if_neg h]
   rw[e26] at hK
   exact hK (by omega)
  by_cases h9:a.kd=9
  ·have hK:K (.tuple #[]) (pt p [PO x0,PO x1,.string u,.string o] 42::jO x0 ad (AT c)::R):=by simpa only[qR,sP,p9,h9,Int.reduceEq,Int.reduceLE,Int.reduceLT,if_true,if_false,or_self,and_true,true_and,and_self,false_and,and_false] using hKo (by omega)
   refine aH Tryz.func12 ?_
   repeat' (first|(show cL _ _ _;rw[hs])|refine V5 ?_|refine dw d5 ?_|refine dw d4 ?_|refine dw dZ ?_|refine w5 ?_ ?_|((refine bh fun h=>?_) <;> try exact w6 h)|(refine aE fun hA=>?_;subst hA)|intro _|(show aA _ 55 _ _ _;refine CA (h:=Ad5 hP ?_)))
   all_goals(refine aC ?_;exact aB (hK))
  by_cases h10:a.kd=10
  ·have hK:K (.tuple #[]) (pt p [PO x0,PO x1,.string u,.string o] 42::jO x0 ad (tD ⟨a.xw,a.xs,a.xi⟩ c)::R):=by simpa only[qR,sP,p9,h10,Int.reduceEq,Int.reduceLE,Int.reduceLT,if_true,if_false,or_self,and_true,true_and,and_self,false_and,and_false] using hKo (by omega)
   refine aH Tryz.func12 ?_
   repeat' (first|(show cL _ _ _;rw[hs])|refine V5 ?_|refine dw d5 ?_|refine dw d4 ?_|refine dw dZ ?_|refine w5 ?_ ?_|((refine bh fun h=>?_) <;> try exact w6 h)|(refine aE fun hA=>?_;subst hA)|intro _|(show aA _ 56 _ _ _;refine CA (h:=Afl (t:=⟨a.xw,a.xs,a.xi⟩) hP ?_)))
   all_goals(refine aC ?_;exact aB (hK))
  by_cases h11:11<=a.kd/\a.kd<=13
  ·have ek:p9 (sP a c) c ⟨[],0,0⟩=(bW c).2:=by
    have e:(sP a c).kd=11:=by unfold sP;dsimp only;rw[if_neg (by omega),if_neg (by omega),if_neg (by omega)]
    unfold p9;rw[if_neg (by omega),if_neg (by omega),if_pos e]
   have e26:RX a c o=o++⟨(bW c).1.toArray⟩:=by unfold RX;rw[if_pos h11]
   unfold qR at hK
   rw[if_neg (by omega),if_pos (by omega),ek,e26] at hK
   have hK2:(⟨(bW c).1.toArray⟩:ByteArray).size<=40000->K (.tuple #[]) (pt p [PO x0,PO x1,.string u,.string (o++⟨(bW c).1.toArray⟩)] 42::jO x0 ad (bW c).2::R):=fun h=>hK (by rw[ByteArray.size_append];omega)
   have hkk:a.kd=11\/a.kd=12\/a.kd=13:=by omega
   refine aH Tryz.func12 ?_
   repeat' (first|(show cL _ _ _;rw[hs])|refine V5 ?_|refine dw d5 ?_|refine dw d4 ?_|refine dw dZ ?_|refine w5 ?_ ?_|((refine bh fun h=>?_) <;> try exact w6 h)|(refine aE fun hA=>?_;subst hA)|intro _|(show aA _ 27 _ _ _;refine CA (h:=SO hP hB (fun hsl=>?_));have hsz:=es hsl))
   all_goals(refine aC ?_;exact aB (hK2 hsz))
  have hK:=hKo h11
  by_cases h17:a.kd=17
  ·have hK:K (.tuple #[]) (pt p [PO x0,PO x1,.string u,.string o] 42::jO x0 ad (s4 c)::R):=by unfold qR at hK;rwa[if_pos h17] at hK
   refine aH Tryz.func12 ?_
   repeat' (first|(show cL _ _ _;rw[hs])|refine V5 ?_|refine dw d5 ?_|refine dw d4 ?_|refine dw dZ ?_|refine w5 ?_ ?_|((refine bh fun h=>?_) <;> try exact w6 h)|(refine aE fun hA=>?_;subst hA)|intro _|(show aA _ 57 _ _ _;refine CA (h:=Re (by omega) ?_)))
   all_goals(refine aC ?_;exact aB (hK))
  refine aH Tryz.func12 ?_
  repeat' (first|(show cL _ _ _;rw[hs])|refine V5 ?_|refine dw d5 ?_|refine dw d4 ?_|refine dw dZ ?_|refine w5 ?_ ?_|((refine bh fun h=>?_) <;> try exact w6 h)|(refine aE fun hA=>?_;subst hA)|intro _|(show aA _ 58 _ _ _;refine CA (h:=WV (a:=a) hP (by omega) hd2 ?_)))
  all_goals(refine aC ?_;exact aB (hK))
 ·obtain rfl:x1=x:=by simpa using hx
  simp only[Ss,Int.reduceEq,if_true,if_false] at hK ⊢
  have hKo:¬(11<=a.kd/\a.kd<=13)->K (.tuple #[]) (pt p [PO x0,PO x1,.string o,.string u] 42::jO x1 ad (qR a c)::R):=fun h=>by
   have e26:RX a c o=o:=by unfold RX;rw[if_neg h]
   rw[e26] at hK
   exact hK (by omega)
  by_cases h9:a.kd=9
  ·have hK:K (.tuple #[]) (pt p [PO x0,PO x1,.string o,.string u] 42::jO x1 ad (AT c)::R):=by simpa only[qR,sP,p9,h9,Int.reduceEq,Int.reduceLE,Int.reduceLT,if_true,if_false,or_self,and_true,true_and,and_self,false_and,and_false] using hKo (by omega)
   refine aH Tryz.func12 ?_
   repeat' (first|(show cL _ _ _;rw[hs])|refine V5 ?_|refine dw d5 ?_|refine dw d4 ?_|refine dw dZ ?_|refine w5 ?_ ?_|((refine bh fun h=>?_) <;> try exact w6 h)|(refine aE fun hA=>?_;subst hA)|intro _|(show aA _ 55 _ _ _;refine CA (h:=Ad5 hP ?_)))
   all_goals(refine aC ?_;exact aB (hK))
  by_cases h10:a.kd=10
  ·have hK:K (.tuple #[]) (pt p [PO x0,PO x1,.string o,.string u] 42::jO x1 ad (tD ⟨a.xw,a.xs,a.xi⟩ c)::R):=by simpa only[qR,sP,p9,h10,Int.reduceEq,Int.reduceLE,Int.reduceLT,if_true,if_false,or_self,and_true,true_and,and_self,false_and,and_false] using hKo (by omega)
   refine aH Tryz.func12 ?_
   repeat' (first|(show cL _ _ _;rw[hs])|refine V5 ?_|refine dw d5 ?_|refine dw d4 ?_|refine dw dZ ?_|refine w5 ?_ ?_|((refine bh fun h=>?_) <;> try exact w6 h)|(refine aE fun hA=>?_;subst hA)|intro _|(show aA _ 56 _ _ _;refine CA (h:=Afl (t:=⟨a.xw,a.xs,a.xi⟩) hP ?_)))
   all_goals(refine aC ?_;exact aB (hK))
  by_cases h11:11<=a.kd/\a.kd<=13
  ·have ek:p9 (sP a c) c ⟨[],0,0⟩=(bW c).2:=by
    have e:(sP a c).kd=11:=by unfold sP;dsimp only;rw[if_neg (by omega),if_neg (by omega),if_neg (by omega)]
    unfold p9;rw[if_neg (by omega),if_neg (by omega),if_pos e]
   have e26:RX a c o=o++⟨(bW c).1.toArray⟩:=by unfold RX;rw[if_pos h11]
   unfold qR at hK
   rw[if_neg (by omega),if_pos (by omega),ek,e26] at hK
   have hK2:(⟨(bW c).1.toArray⟩:ByteArray).size<=40000->K (.tuple #[]) (pt p [PO x0,PO x1,.string (o++⟨(bW c).1.toArray⟩),.string u] 42::jO x1 ad (bW c).2::R):=fun h=>hK (by rw[ByteArray.size_append];omega)
   have hkk:a.kd=11\/a.kd=12\/a.kd=13:=by omega
   refine aH Tryz.func12 ?_
   repeat' (first|(show cL _ _ _;rw[hs])|refine V5 ?_|refine dw d5 ?_|refine dw d4 ?_|refine dw dZ ?_|refine w5 ?_ ?_|((refine bh fun h=>?_) <;> try exact w6 h)|(refine aE fun hA=>?_;subst hA)|intro _|(show aA _ 27 _ _ _;refine CA (h:=SO hP hB (fun hsl=>?_));have hsz:=es hsl))
   all_goals(refine aC ?_;exact aB (hK2 hsz))
  have hK:=hKo h11
  by_cases h17:a.kd=17
  ·have hK:K (.tuple #[]) (pt p [PO x0,PO x1,.string o,.string u] 42::jO x1 ad (s4 c)::R):=by unfold qR at hK;rwa[if_pos h17] at hK
   refine aH Tryz.func12 ?_
   repeat' (first|(show cL _ _ _;rw[hs])|refine V5 ?_|refine dw d5 ?_|refine dw d4 ?_|refine dw dZ ?_|refine w5 ?_ ?_|((refine bh fun h=>?_) <;> try exact w6 h)|(refine aE fun hA=>?_;subst hA)|intro _|(show aA _ 57 _ _ _;refine CA (h:=Re (by omega) ?_)))
   all_goals(refine aC ?_;exact aB (hK))
  refine aH Tryz.func12 ?_
  repeat' (first|(show cL _ _ _;rw[hs])|refine V5 ?_|refine dw d5 ?_|refine dw d4 ?_|refine dw dZ ?_|refine w5 ?_ ?_|((refine bh fun h=>?_) <;> try exact w6 h)|(refine aE fun hA=>?_;subst hA)|intro _|(show aA _ 58 _ _ _;refine CA (h:=WV (a:=a) hP (by omega) hd2 ?_)))
  all_goals(refine aC ?_;exact aB (hK))
end
theorem Lh {sd:Int} (hs:sd=0\/sd=1) (h:E6 cf) (hK:∀x a,K (.tuple #[PO x,I6 0]) (jO x a (jV sd cf)::R)):CT 24 #[I6 sd,.agg #[I6 cf.w,I6 cf.st,I6 cf.it,I6 cf.sb,I6 cf.si,I6 cf.sg,I6 cf.ev,I6 cf.wa,I6 cf.sl]] R K:=Yf hs h hK
theorem Rc (h0:E6 cf0) (h1:E6 cf1) (hK:∀p x0 x1 a0 a1,K (PO p) (pt p [PO x0,PO x1,.string ⟨#[]⟩,.string ⟨#[]⟩] 42::jO x0 a0 (jV 0 cf0)::jO x1 a1 (jV 1 cf1)::R)):CT 9 #[.agg #[I6 cf0.w,I6 cf0.st,I6 cf0.it,I6 cf0.sb,I6 cf0.si,I6 cf0.sg,I6 cf0.ev,I6 cf0.wa,I6 cf0.sl],.agg #[I6 cf1.w,I6 cf1.st,I6 cf1.it,I6 cf1.sb,I6 cf1.si,I6 cf1.sg,I6 cf1.ev,I6 cf1.wa,I6 cf1.sl]] R K:=by
 refine aH Tryz.func9 ?_
 repeat' (first|refine AB ?_|refine w5 ?_ ?_|((refine bh fun h=>?_) <;> try exact w6 h)|(refine aE fun hA=>?_;subst hA)|intro _|(show aA _ 24 _ _ _;first|refine CA (h:=Lh (.inl rfl) h0 (fun x0 a0=>?_))|refine CA (h:=Lh (.inr rfl) h1 (fun x1 a1=>?_))))
 all_goals(refine aC ?_;exact aB (hK _ _ _ _ _))
def ez0:Cn:=jV 0 Ik
def ez1:=lF 1 0 0 16 false ez0
def ez2:=kY 1 "abc".toUTF8 ez1
def ew0:Cn:=jV 1 Ik
def ew1:=fJ (bW ez2).1 ew0
theorem Ap5:(if jP 1 0 0 16 false ez0=0 then ez0.nx else 0)=1/\jP 1 0 0 16 false ez0=0:=by decide +kernel
theorem Aqa:(qD 1 "abc".toUTF8 ez1).1=3/\(qD 1 "abc".toUTF8 ez1).2=0:=by decide +kernel
theorem Apl:zP ew0=0:=by decide +kernel
theorem Apw:(mH 1 9 ew1).1= "abc".toUTF8/\(mH 1 9 ew1).2.1=false/\(mH 1 9 ew1).2.2=0:=by decide +kernel
theorem Aoz:(mY 1 9 ew1).l.length=1:=by decide +kernel
theorem O1 (hK:K (.bool true) R):CT 11 #[] R K:=by
 have hG0:sC Ik 0 ez0:=⟨0,Eo (.inl rfl) HC,by decide⟩
 have hG1:sC Ik 0 ew0:=⟨0,Eo (.inr rfl) HC,by decide⟩
 have hG2:sC Ik 2000 ez1:=WO (a:=⟨1,0,0,1,0,⟨#[]⟩,0,16,false,0,0,0⟩) (l:=⟨[],0,0⟩) hG0 (by decide) (by decide) (by decide)
 have hG3:sC Ik 4000 ez2:=WO (a:=⟨2,0,1,0,0,"abc".toUTF8,0,0,false,0,0,0⟩) (l:=⟨[],0,0⟩) hG2 (by decide) (by decide) (by decide)
 have hG4:(bW ez2).1.length<=40000->sC Ik 1400000 ew1:=fun h=>(Afd hG1 (by omega)).mono (by omega)
 have hG5:(bW ez2).1.length<=40000->sC Ik 1402000 (mY 1 9 ew1):=fun h=>WO (a:=⟨4,0,1,9,0,⟨#[]⟩,0,0,false,0,0,0⟩) (l:=⟨[],0,0⟩) (hG4 h) (by decide) (by decide) (by decide)
 obtain⟨e11,e12⟩:=Ap5
 obtain⟨e21,e22⟩:=Aqa
 have e4:=Apl
 obtain⟨e51,e52,e53⟩:=Apw
 have e6:=Aoz
 refine aH Tryz.func11 ?_
 repeat' (first|(show aN _ _ _ _ _ _ _;refine fU ?_)|refine ZQ ?_|refine w5 ?_ ?_|((refine bh fun h=>?_) <;> try exact w6 h)|(refine aE fun hA=>?_;subst hA)|intro _|(show aA _ 9 _ _ _;refine CA (h:=Rc HC HC (fun p x0 x1 a0 a1=>?_)))|(show aA _ 52 _ _ _;refine CA (h:=Ab0 (c:=ez0) hG0 ?_);rw[e11,e12])|(show aA _ 53 _ _ _;refine CA (h:=Ur (c:=ez1) (d:= "abc".toUTF8) hG2 (by decide) ?_);rw[e21,e22])|(show aA _ 27 _ _ _;refine CA (h:=SO (c:=ez2) hG3 (by decide) (fun hsl=>?_)))|(show aA _ 29 _ _ _;refine CA (h:=An3 (c:=ew0) hG1 (by omega) (by omega) ?_);rw[e4])|(show aA _ 54 _ _ _;refine CA (h:=Ad0 (c:=ew1) (hG4 hsl) ?_);rw[e51,e52,e53])|(show aA _ 13 _ _ _;refine CA (h:=Bg (c:=mY 1 9 ew1) (hG5 hsl) ?_);unfold zN;rw[e6]))
 all_goals(refine aC ?_;exact aB (hK))
end Go.Proofs.YtepnmcipkangkaaGreat
namespace Go.Proofs.YtepnmcipkangkaaGreat
open Go Go.Proofs Go.Sl
attribute [local irreducible] aN fL cL bM aL aR aA dJ dK aU dI pt ro fC star sep bF
variable {W:World} {cs:List Value} {n:Nat} {C:List HP} {y:Fm}
section
theorem Afi {o m j:Nat} (h:j+n<=m):(((cs.drop o).take m).drop j).take n=(cs.drop (o+j)).take n:=by
 rw[List.drop_take,List.take_take,List.drop_drop]
 congr 1
 omega
theorem Ahz {v0 v1 v2 v3 v4 v5 v6 v7 v8 v9 ZR:Value} (hl:cs.length=11) (h0:(cs.drop 0).take 1= [v0]) (h1:(cs.drop 1).take 1= [v1]) (h2:(cs.drop 2).take 1= [v2]) (h3:(cs.drop 3).take 1= [v3]) (h4:(cs.drop 4).take 1= [v4]) (h5:(cs.drop 5).take 1= [v5]) (h6:(cs.drop 6).take 1= [v6]) (h7:(cs.drop 7).take 1= [v7]) (h8:(cs.drop 8).take 1= [v8]) (h9:(cs.drop 9).take 1= [v9]) (h10:(cs.drop 10).take 1= [ZR]):cs= [v0,v1,v2,v3,v4,v5,v6,v7,v8,v9,ZR]:=by
 match cs,hl with
 | [a0,a1,a2,a3,a4,a5,a6,a7,a8,a9,a10],_=>simp_all
theorem Ajy (hg:Go.Sl.Good Tryz.prog W n 34 cs):∃a:A6,cs= [I6 a.sd,I6 a.kd,I6 a.id,I6 a.n,.string a.s,I6 a.on,I6 a.ww,.bool a.xx,I6 a.xw,I6 a.xs,I6 a.xi]:=by
 have hz:Tryz.prog.cellsOf 34=11:=by kernel_rfl
 have hz2:Tryz.prog.cellsOf 23=3:=by kernel_rfl
 have hz3:Tryz.prog.cellsOf 32=3:=by kernel_rfl
 obtain⟨m2,k3,k4⟩:=tY Tryz.underlying34 hg
 obtain⟨sd,r0,_⟩:=gU Tryz.underlying3 (k4 0 _ rfl)
 obtain⟨kd,r1,_⟩:=gU Tryz.underlying3 (k4 1 _ rfl)
 obtain⟨id,r2,_⟩:=gU Tryz.underlying3 (k4 2 _ rfl)
 obtain⟨n,r3,_⟩:=gU Tryz.underlying3 (k4 3 _ rfl)
 obtain⟨s,r4,_⟩:=OP Tryz.underlying9 (k4 4 _ rfl)
 obtain⟨m5,j5,j6⟩:=tY Tryz.underlying32 (k4 5 _ rfl)
 obtain⟨on,q0,_⟩:=gU Tryz.underlying3 (j6 0 _ rfl)
 obtain⟨ww,q1,_⟩:=gU Tryz.underlying3 (j6 1 _ rfl)
 obtain⟨xx,q2⟩:=Xv Tryz.underlying4 (j6 2 _ rfl)
 obtain⟨m3,j3,j4⟩:=tY Tryz.underlying23 (k4 6 _ rfl)
 obtain⟨xw,p0,_⟩:=gU Tryz.underlying3 (j4 0 _ rfl)
 obtain⟨xs,p1,_⟩:=gU Tryz.underlying3 (j4 1 _ rfl)
 obtain⟨xi,p2,_⟩:=gU Tryz.underlying3 (j4 2 _ rfl)
 have go:∀(j:Nat) (v:Value),j+1<=3->List.take 1 (List.drop j (List.take (Tryz.prog.cellsOf 32) (List.drop 5 cs)))= [v]->(cs.drop (5+j)).take 1= [v]:=fun j v hj h=>by
  rw[hz3,Afi hj] at h;exact h
 have go2:∀(j:Nat) (v:Value),j+1<=3->List.take 1 (List.drop j (List.take (Tryz.prog.cellsOf 23) (List.drop 8 cs)))= [v]->(cs.drop (8+j)).take 1= [v]:=fun j v hj h=>by
  rw[hz2,Afi hj] at h;exact h
 exact⟨⟨sd,kd,id,n,s,on,ww,xx,xw,xs,xi⟩,Ahz (k3.trans hz) r0 r1 r2 r3 r4 (go 0 _ (by omega) q0) (go 1 _ (by omega) q1) (go 2 _ (by omega) q2) (go2 0 _ (by omega) p0) (go2 1 _ (by omega) p1) (go2 2 _ (by omega) p2)⟩
structure Pu where
 raw:Bool
 a:A6
 s:ByteArray
 fa:Option Addr
 fn:Nat
 fc:Nat
 fs:List Fm
variable {l:List Pu} {q:Pu}
end
end Go.Proofs.YtepnmcipkangkaaGreat
