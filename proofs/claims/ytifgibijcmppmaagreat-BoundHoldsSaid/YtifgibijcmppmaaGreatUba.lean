/- A part of the proof: lemmas; each with the conditions that it states. -/
import Derived.Test.YtifgibijcmppmaaGreatUam
set_option linter.unusedVariables false
set_option linter.unusedSimpArgs false
namespace Go.Proofs.YtifgibijcmppmaaGreat
open Go Go.Proofs Go.Sl
set_option maxRecDepth 100000
set_option maxHeartbeats 40000000
attribute [local irreducible] aN fN cX bP aM aX aA dS dV aT dU pt ro eV star sep bH
attribute [local irreducible] mp ED
variable {R C:List HP} {K:KP}
theorem Aj8 {X Y Z:HP} {q:List (iA×Int)} {i w:Nat} {n:Int} {z:iA} (hw:z.w=w):aG (sO w n::X::Y::Z::eA BP q::R) (X::Y::Z::eA BP (q.take i++(z,n)::q.drop i)::R):=by
 subst hw
 have h1:aG (sO z.w n::eA BP q::R) (eA BP (q.take i++(z,n)::q.drop i)::R):=Kv (f:=BP) (b:=(z,n))
 exact aG.trans (fun _ h=>h.perm (List.perm_middle (l₁:= [X,Y,Z]) (a:=sO z.w n) (l₂:=eA BP q::R)).symm) (aG.cons (aG.cons (aG.cons h1)))
theorem Aju {X Y Z:HP} {q:List (iA×Int)} {i:Nat} {z:iA×Int} (hz:q[i]?=some z):aG (X::Y::Z::eA BP q::R) (X::Y::Z::eA BP (q.eraseIdx i)::R):=
 aG.cons (aG.cons (aG.cons (aG.trans (tN (f:=BP) hz) (aG.drop (aG.refl _)))))
section
variable {p:Nat} {s:Ld} {t n k a b:Int}
theorem WG (hok:R4 s) (hK:∀v,K v (Re p (k8 t n s)::R)):CT 217 #[PO p,I6 t,I6 n] (Re p s::R) K:=by
 refine Bl fun w0 A c q hq=>?_
 obtain⟨h1,h2,h3,h4,h5⟩:=hok
 have hl:=Fv hq
 have hp:=Ja hq h2
 by_cases g1:t<1∨2147483647<t
 ·have e:k8 t n s=s:=by unfold k8;rw[if_pos (by omega)]
  rw[e] at hK
  refine aH Tryz.func217 ?_
  repeat' (first|refine v90 ?_|refine w5 ?_ ?_|((refine bh fun h=>?_) <;> try exact w6 h)|(refine aE fun hA=>?_;subst hA)|intro _)
  all_goals(refine aC ?_;exact aK (aG.trans (by exact aZ) ((i8 hq rfl rfl))) ((hK _)))
 ·cases g2:mF n
  ·have e:k8 t n s=s:=by unfold k8;rw[if_pos (.inr (.inr (.inl g2)))]
   rw[e] at hK
   refine aH Tryz.func217 ?_
   repeat' (first|refine v90 ?_|refine w5 ?_ ?_|((refine bh fun h=>?_) <;> try exact w6 h)|(refine aE fun hA=>?_;subst hA)|intro _|(show aA _ 141 _ _ _;refine CA (h:=XZ g2 ?_)))
   all_goals(refine aC ?_;exact aK (aG.trans (by exact aZ) ((i8 hq rfl rfl))) ((hK _)))
  ·cases g3:o7 t s.l with
   |some z=>
    have e:k8 t n s=s:=by unfold k8;rw[if_pos (.inr (.inr (.inr (.inl (by rw[g3];rfl)))))]
    rw[e] at hK
    have g3':=g3
    rw[← hq] at g3'
    obtain⟨_,_,_,_,hf⟩:=xC g3'
    refine aH Tryz.func217 ?_
    repeat' (first|refine v90 ?_|refine w5 ?_ ?_|((refine bh fun h=>?_) <;> try exact w6 h)|(refine aE fun hA=>?_;subst hA)|intro _|(show aA _ 141 _ _ _;refine CA (h:=zH g2 (fun w1=>?_)))|(show aA _ 307 _ _ _;refine CA (h:=uH (l:=q.map Prod.fst) (by omega) hp ?_);rw[hf]))
    all_goals(refine aC ?_;exact aK (aG.trans (by exact aZ) ((i8 hq rfl rfl))) ((hK _)))
   |none=>
    have g3':=g3
    rw[← hq] at g3'
    have hf:=Bn g3'
    by_cases g4:64≤s.l.length
    ·have e:k8 t n s=s:=by unfold k8;rw[if_pos (.inr (.inr (.inr (.inr g4))))]
     rw[e] at hK
     refine aH Tryz.func217 ?_
     repeat' (first|refine v90 ?_|refine w5 ?_ ?_|((refine bh fun h=>?_) <;> try exact w6 h)|(refine aE fun hA=>?_;subst hA)|intro _|(show aA _ 141 _ _ _;refine CA (h:=zH g2 (fun w1=>?_)))|(show aA _ 307 _ _ _;refine CA (h:=uH (l:=q.map Prod.fst) (by omega) hp ?_);rw[hf]))
     all_goals(refine aC ?_;exact aK (aG.trans (by exact aZ) ((i8 hq rfl rfl))) ((hK _)))
    ·have e:k8 t n s= { s with l:=s.l.take (nV t s.l)++⟨t,n,0⟩::s.l.drop (nV t s.l) }:=by
      unfold k8
      rw[if_neg]
      rintro(h|h|h|h|h)
      ·omega
      ·omega
      ·rw[g2] at h;cases h
      ·rw[g3] at h;cases h
      ·exact g4 h
     rw[e] at hK
     have hix:zI t (q.map Prod.fst)=nV t s.l:=by rw[← hq,yR]
     have hle:=Tz t (q.map Prod.fst)
     refine aH Tryz.func217 ?_
     repeat' (first|refine v90 ?_|refine w5 ?_ ?_|((refine bh fun h=>?_) <;> try exact w6 h)|(refine aE fun hA=>?_;subst hA)|intro _|(show aA _ 141 _ _ _;refine CA (h:=zH g2 (fun w1=>?_)))|(show aA _ 307 _ _ _;refine CA (h:=uH (l:=q.map Prod.fst) (by omega) hp ?_);rw[hf])|(show aA _ 308 _ _ _;refine CA (h:=Af3 (xs:=q.map Prod.fst) (y:=⟨t,w1,0⟩) rfl hle (by omega) (fun A' c'=>?_))))
     all_goals(refine aC ?_;exact aK (aG.trans (by exact aZ) ((aG.trans (Aj8 (i:=nV t s.l) (z:=⟨t,w1,0⟩) rfl) (i8 (q:=q.take (nV t s.l)++(⟨t,w1,0⟩,n)::q.drop (nV t s.l)) (l:=s.l.take (nV t s.l)++⟨t,n,0⟩::s.l.drop (nV t s.l)) (by rw[← hq];simp[KH]) (by rw[hix];simp) (by simp only[List.length_append,List.length_cons,List.length_take,List.length_drop];omega))))) ((hK _)))
theorem Tx (hok:R4 s) (hK:∀v,K v (Re p (nI t s)::R)):CT 316 #[PO p,I6 t] (Re p s::R) K:=by
 refine Bl fun w0 A c q hq=>?_
 obtain⟨h1,h2,h3,h4,h5⟩:=hok
 have hl:=Fv hq
 have hp:=Ja hq h2
 cases g3:o7 t s.l with
 |none=>
  have e:nI t s=s:=by unfold nI;rw[g3];rfl
  rw[e] at hK
  rw[← hq] at g3
  have hf:=Bn g3
  refine aH Tryz.func316 ?_
  repeat' (first|refine v68 ?_|refine w5 ?_ ?_|((refine bh fun h=>?_) <;> try exact w6 h)|(refine aE fun hA=>?_;subst hA)|intro _|(show aA _ 307 _ _ _;refine CA (h:=uH (l:=q.map Prod.fst) (by omega) hp ?_);rw[hf]))
  all_goals(refine aC ?_;exact aK (aG.trans (by exact aZ) ((i8 hq rfl rfl))) ((hK _)))
 |some z=>
  have e:nI t s= { s with l:=s.l.eraseIdx (nV t s.l) }:=by unfold nI;rw[g3];rfl
  rw[e] at hK
  rw[← hq] at g3
  obtain⟨z,hz,rfl,hid,hf⟩:=xC g3
  have hlt:zI t (q.map Prod.fst)<(q.map Prod.fst).length:=by rw[List.length_map];exact(List.getElem?_eq_some_iff.1 hz).1
  have hix:zI t (q.map Prod.fst)=nV t s.l:=by rw[← hq,yR]
  refine aH Tryz.func316 ?_
  repeat' (first|refine v68 ?_|refine w5 ?_ ?_|((refine bh fun h=>?_) <;> try exact w6 h)|(refine aE fun hA=>?_;subst hA)|intro _|(show aA _ 307 _ _ _;refine CA (h:=uH (l:=q.map Prod.fst) (by omega) hp ?_);rw[hf])|(show aA _ 372 _ _ _;refine CA (h:=Agc (xs:=q.map Prod.fst) rfl hlt (by omega) (fun A' c'=>?_))))
  all_goals(refine aC ?_;exact aK (aG.trans (by exact aZ) ((aG.trans (Aju hz) (i8 (q:=q.eraseIdx (zI t (q.map Prod.fst))) (l:=s.l.eraseIdx (nV t s.l)) (by rw[← mX,hq,hix]) (mX ..) (by rw[List.length_eraseIdx,if_pos hlt]))))) ((hK _)))
theorem Pl {l:List g8} {j:Nat} {e:g8} (h:l[j]?=some e):yX a b (l.drop j)=if lT e.n a b≠0 then lT e.n a b else yX a b (l.drop (j+1)):=by
 have hj:=(List.getElem?_eq_some_iff.1 h).1
 rw[List.drop_eq_getElem_cons hj,(List.getElem?_eq_some_iff.1 h).2]
 rfl
theorem Afo {l:List g8} {j:Nat} {e:g8} {n:Int} (h:l[j]?=some e) (hn:e.n=n) (h0:lT n a b=0):yX a b (l.drop (j+1))=yX a b (l.drop j):=by
 subst hn
 rw[Pl h,if_neg (by simpa using h0)]
theorem Afg {l:List g8} {j:Nat} {e:g8} {n:Int} (h:l[j]?=some e) (hn:e.n=n) (h0:lT n a b≠0):lT n a b=yX a b (l.drop j):=by
 subst hn
 rw[Pl h,if_pos h0]
def yY (a b:Int) (e:iA×Int):iA×Int:=(e.1,Aw e.2 a b)
def Dj:List (Nat×Nat):= [(0,0),(1,0),(2,1),(3,1),(4,1),(5,1),(6,0)]
theorem Ab5 {r4 r5 w:Nat} {m i sp:Int} (hm:-4294967296≤m∧m≤4294967296) (hK:∀w',K (I6 (lT m a b)) (sO w' (Aw m a b)::pt r4 [I6 a] 3::pt r5 [I6 b] 3::sO w m::R)):CT 332 #[.agg #[I6 i,PO w,I6 sp],PO r4,PO r5] (pt r4 [I6 a] 3::pt r5 [I6 b] 3::sO w m::R) K:=by
 refine aH Tryz.func332 ?_
 repeat' (first|refine v19 ?_|refine dw Dj ?_|refine w5 ?_ ?_|((refine bh fun h=>?_) <;> try exact w6 h)|(refine aE fun hA=>?_;subst hA)|intro _|(show aA _ 333 _ _ _;refine CA (h:=V5 (fun q=>?_)))|(show aA _ 331 _ _ _;refine CA (h:=G5 (p:=q) hm ?_)))
 all_goals(refine aC ?_;exact aB (hK _))
theorem Ajq (h:mF a=true∧mF b=true):lT 0 a b=0:=by
 have h2:=h
 unfold mF at h2
 simp only[Bool.and_eq_true,decide_eq_true_eq] at h2
 unfold lT CO CV
 rw[if_pos h,if_pos]
 simp only[Bool.and_eq_true,decide_eq_true_eq]
 omega
theorem QE (hok:R4 s) (hab:mF a=true∧mF b=true) (hK:K (I6 (EN a b s)) (Re p (sV a b s)::R)):CT 248 #[PO p,I6 a,I6 b] (Re p s::R) K:=by
 have hv:=Ajq hab
 have hE:EN a b s=yX a b s.l:=by unfold EN;rw[hv];rfl
 refine Bl fun w0 A c q hq=>?_
 obtain⟨h1,h2,h3,h4,h5⟩:=hok
 have hl:=Fv hq
 have hql:(q.map Prod.fst).length=q.length:=List.length_map ..
 refine aH Tryz.func248 ?_
 repeat' (first|refine Jp ?_|refine w5 ?_ ?_|((refine bh fun h=>?_) <;> try exact w6 h)|(refine aE fun hA=>?_;subst hA)|intro _|(show aA _ 141 _ _ _;refine CA (h:=zH (n:=0) (by decide) (fun w1=>?_)))|(show aA _ 331 _ _ _;refine CA (h:=G5 (p:=w1) (n:=0) (by omega) ?_);rw[hv]))
 rename_i r4 r5
 refine fZ (fun kk f C'=>∃(j:Nat) (er:Int),j+kk=q.length∧((er=0∧yX a b (s.l.drop j)=yX a b s.l)∨(er≠0∧er=yX a b s.l))∧cJ f [(0,PO p),(4,PO r4),(5,PO r5),(9,I6 er),(10,.func (.func 332) #[] #[PO r4,PO r5]),(31,.slice A (q.map Prod.fst).length c),(32,I6 (q.map Prod.fst).length),(33,I6 j)]∧C'=pt r4 [I6 a] 3::pt r5 [I6 b] 3::pt p [PO w0,I6 s.sp,.slice A (q.map Prod.fst).length c] 235::sO w0 s.n0::bQ A c 329 xO (q.map Prod.fst)::eA BP q::R) q.length (bV q.length ⟨0,0,by omega,.inl ⟨rfl,rfl⟩,⟨rfl,rfl,rfl,rfl,rfl,rfl,rfl,rfl,trivial⟩,rfl⟩ (by omega)) ?_
 rintro kk f C' ⟨j,er,hj,her,ha,rfl⟩
 refine fP _ ha ?_
 simp only[eP]
 by_cases hlt:j<q.length
 ·obtain⟨z,hz⟩:∃z,q[j]?=some z:=⟨_,List.getElem?_eq_getElem hlt⟩
  have hz1:(q.map Prod.fst)[j]?=some z.1:=by rw[List.getElem?_map,hz];rfl
  have hz':(q.map Prod.fst)[((j:Nat):Int).toNat]?=some z.1:=by rw[Int.toNat_natCast];exact hz1
  have hlj:s.l[j]?=some (KH z):=by rw[← hq,List.getElem?_map,hz];rfl
  rcases her with⟨rfl,he⟩|⟨hne,he⟩
  ·have hzm:=h3 _ (NC hq hz)
   simp only[KH] at hzm
   have hout:aG (eA BP q::R) (sO z.1.w z.2::eA BP (q.eraseIdx j)::R):=tN (f:=BP) hz
   have hin:aG (sO z.1.w z.2::eA BP (q.eraseIdx j)::R) (eA BP q::R):=by
    have h:=Eh (f:=BP) (b':=z) (R:=R) hz
    rw[j9 j hz] at h
    exact h
   refine l7 (aG.cons (aG.cons (aG.cons (aG.cons (aG.cons hout))))) ?_
   repeat' (first|refine Jp ?_|refine w5 ?_ ?_|((refine bh fun h=>?_) <;> try exact w6 h)|(refine aE fun hA=>?_;subst hA)|intro _|(show aA _ 332 _ _ _;refine CA (h:=Ab5 (w:=z.1.w) (m:=z.2) (by omega) (fun w'=>?_))))
   all_goals(show aT _ _ _ _;refine bV (kk - 1) ⟨j+1,lT z.2 a b,by omega,?_,⟨rfl,rfl,rfl,rfl,rfl,rfl,rfl,rfl,trivial⟩,rfl⟩ (by omega) (aG.trans (by exact aZ) (aG.cons (aG.cons (aG.cons (aG.cons (aG.cons hin)))))))
   by_cases hz0:lT z.2 a b=0
   ·exact .inl ⟨hz0,(Afo hlj rfl hz0).trans he⟩
   ·exact .inr ⟨hz0,(Afg hlj rfl hz0).trans he⟩
  ·have hR:sV a b s=s:=by unfold sV;rw[if_pos (by rw[hE,← he];exact hne)]
   rw[hR,hE,← he] at hK
   repeat' (first|refine Jp ?_|refine w5 ?_ ?_|((refine bh fun h=>?_) <;> try exact w6 h)|(refine aE fun hA=>?_;subst hA)|intro _)
   all_goals(refine aC ?_;exact aK (aG.trans (by exact aZ) ((i8 hq rfl rfl))) (hK))
 ·have hjl:j=q.length:=by omega
  subst hjl
  rcases her with⟨rfl,he⟩|⟨hne,he⟩
  ·have hd:s.l.drop q.length= []:=List.drop_eq_nil_of_le (by omega)
   rw[hd] at he
   have he:yX a b s.l=0:=he.symm
   have hR:sV a b s= { s with l:=s.l.map fun e=>⟨e.id,Aw e.n a b,e.sp⟩ }:=by unfold sV;rw[if_neg (by rw[hE,he];decide)]
   rw[hR,hE,he] at hK
   repeat' (first|refine Jp ?_|refine w5 ?_ ?_|((refine bh fun h=>?_) <;> try exact w6 h)|(refine aE fun hA=>?_;subst hA)|intro _)
   refine fZ (fun kk f C'=>∃j:Nat,j+kk=q.length∧cJ f [(4,PO r4),(5,PO r5),(49,.slice A (q.map Prod.fst).length c),(50,I6 (q.map Prod.fst).length),(51,I6 j)]∧C'=pt r4 [I6 a] 3::pt r5 [I6 b] 3::pt p [PO w0,I6 s.sp,.slice A (q.map Prod.fst).length c] 235::sO w0 s.n0::bQ A c 329 xO (q.map Prod.fst)::eA BP ((q.take j).map (yY a b)++q.drop j)::R) q.length (bV q.length ⟨0,by omega,⟨rfl,rfl,rfl,rfl,rfl,trivial⟩,rfl⟩ (by omega)) ?_
   rintro kk f C' ⟨j,hj,ha,rfl⟩
   refine fP _ ha ?_
   simp only[eP]
   by_cases hlt:j<q.length
   ·obtain⟨z,hz⟩:∃z,q[j]?=some z:=⟨_,List.getElem?_eq_getElem hlt⟩
    have hz1:(q.map Prod.fst)[j]?=some z.1:=by rw[List.getElem?_map,hz];rfl
    have hz':(q.map Prod.fst)[((j:Nat):Int).toNat]?=some z.1:=by rw[Int.toNat_natCast];exact hz1
    have hzm:=h3 _ (NC hq hz)
    simp only[KH] at hzm
    have htl:((q.take j).map (yY a b)).length=j:=by rw[List.length_map,List.length_take];omega
    have hzq:((q.take j).map (yY a b)++q.drop j)[j]?=some z:=by rw[List.getElem?_append_right (by omega),htl,Nat.sub_self,List.getElem?_drop,Nat.add_zero];exact hz
    have hset:((q.take j).map (yY a b)++q.drop j).set j (yY a b z)=(q.take (j+1)).map (yY a b)++q.drop (j+1):=by
     rw[List.set_append_right _ _ (by omega),htl,Nat.sub_self,List.drop_eq_getElem_cons hlt,List.set_cons_zero,List.take_add_one,hz]
     simp
    have hout:aG (eA BP ((q.take j).map (yY a b)++q.drop j)::R) (sO z.1.w z.2::eA BP (((q.take j).map (yY a b)++q.drop j).eraseIdx j)::R):=tN (f:=BP) hzq
    have hin:aG (sO z.1.w (Aw z.2 a b)::eA BP (((q.take j).map (yY a b)++q.drop j).eraseIdx j)::R) (eA BP ((q.take (j+1)).map (yY a b)++q.drop (j+1))::R):=by
     have h:=Eh (f:=BP) (b':=yY a b z) (R:=R) hzq
     rw[hset] at h
     exact h
    refine l7 (aG.cons (aG.cons (aG.cons (aG.cons (aG.cons hout))))) ?_
    repeat' (first|refine Jp ?_|refine w5 ?_ ?_|((refine bh fun h=>?_) <;> try exact w6 h)|(refine aE fun hA=>?_;subst hA)|intro _|(show aA _ 331 _ _ _;refine CA (h:=G5 (p:=z.1.w) (n:=z.2) (by omega) ?_)))
    all_goals(show aT _ _ _ _;refine bV (kk - 1) ⟨j+1,by omega,⟨rfl,rfl,rfl,rfl,rfl,trivial⟩,rfl⟩ (by omega) (aG.trans (by exact aZ) (aG.cons (aG.cons (aG.cons (aG.cons (aG.cons hin)))))))
   ·have hjl:j=q.length:=by omega
    subst hjl
    rw[List.take_length,List.drop_length,List.append_nil]
    repeat' (first|refine Jp ?_|refine w5 ?_ ?_|((refine bh fun h=>?_) <;> try exact w6 h)|(refine aE fun hA=>?_;subst hA)|intro _)
    all_goals(refine aC ?_;exact aK (aG.trans (by exact aZ) ((i8 (q:=q.map (yY a b)) (l:=s.l.map fun e=>⟨e.id,Aw e.n a b,e.sp⟩) (by rw[← hq,List.map_map,List.map_map];rfl) (by rw[List.map_map];rfl) rfl))) (hK))
  ·have hR:sV a b s=s:=by unfold sV;rw[if_pos (by rw[hE,← he];exact hne)]
   rw[hR,hE,← he] at hK
   repeat' (first|refine Jp ?_|refine w5 ?_ ?_|((refine bh fun h=>?_) <;> try exact w6 h)|(refine aE fun hA=>?_;subst hA)|intro _)
   all_goals(refine aC ?_;exact aK (aG.trans (by exact aZ) ((i8 hq rfl rfl))) (hK))
end
end Go.Proofs.YtifgibijcmppmaaGreat
