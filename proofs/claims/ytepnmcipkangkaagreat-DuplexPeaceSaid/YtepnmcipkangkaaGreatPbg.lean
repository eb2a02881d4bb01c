/- A part of the proof: lemmas; each with the conditions that it states. -/
import Derived.Test.YtepnmcipkangkaaGreatPbe
set_option linter.unusedVariables false
set_option linter.unusedSimpArgs false
set_option maxRecDepth 100000
set_option maxHeartbeats 40000000
namespace Go.Proofs.YtepnmcipkangkaaGreat
open Go Go.Proofs Go.Sl
attribute [local irreducible] aN fJ cY bN aM aS aA dM dN aV dL pt ro fB star sep bF
attribute [local irreducible] mp CV
variable {R C:List HP} {K:KP} {x mc i b p r:Nat} {a:Ca} {s:Cn} {M:Option Addr} {B id n:Int} {m:Sm} {l:List Sm}
theorem Ah3 {f:Fm}:aG (pt r [I6 f.t,I6 f.st,.bool f.e,.string f.d,I6 f.k,I6 f.on,I6 f.w,.bool f.x,I6 f.c,I6 f.la,I6 f.n,.slice f.pa f.pn f.pc] 178::R) (bV (some ⟨r,0,none⟩) 1 178 u7 [f]::R):=fun H hs=>by
 refine iS (pre:= []) (post:= []) rfl ?_ (Nat.le_refl _) (by simp)
 rw[show [f].flatMap u7.enc=u7.enc f from by simp,List.nil_append,List.append_nil]
 exact hs
theorem Oc (h:bO B s) (hB:B+1<=250000000):bO (B+1) { s with bt:=gT s.bt s.now }:=
 { h.mono (B':=B+1) (by omega) hB with
   bt:=by
    have h1:=h.bt
    have h2:=h.now
    show(0<=(gT s.bt s.now).no/\(gT s.bt s.now).no<=B+1)/\(0<=(gT s.bt s.now).he/\(gT s.bt s.now).he<=B+1)/\(0<=(gT s.bt s.now).si/\(gT s.bt s.now).si<=B+1)/\0<=(gT s.bt s.now).nn/\(gT s.bt s.now).nn<=B+1
    unfold gT
    repeat' split
    all_goals first|(dsimp only;omega)|omega }
theorem HQ {q:Bool} (h:bO B s):bO B { s with sl:=nL s.sl s.now q }:=
 { h with
   sl:=by
    have h1:=h.sl
    have h2:=h.now
    show(0<=(nL s.sl s.now q).nw/\(nL s.sl s.now q).nw<=B)/\0<=(nL s.sl s.now q).si/\(nL s.sl s.now q).si<=B
    unfold nL
    repeat' split
    all_goals first|(dsimp only;omega)|omega }
theorem J6 (h:bO B s) (hB:B+1<=250000000):bO (B+1) (bH s):=by
 have h1:=Oc h hB
 unfold bH
 split
 ·exact jF h1
 ·split
  ·exact jF (s:= { s with bt:=gT s.bt s.now,sl:=nL s.sl s.now (rL s) }) (HQ (q:=rL s) h1)
  ·exact HQ (q:=rL s) h1
theorem Afq {f:Sm->Bool} {j:Nat} (h:l[j]?=some m):(l.take (j+1)).any f=((l.take j).any f || f m):=by
 rw[List.take_add_one,h]
 simp
def dQ:List (Nat×Nat):= [(0,0),(1,0),(2,0),(3,0),(4,0),(5,0),(6,0),(7,0),(8,1),(9,0),(10,0),(11,0),(12,0),(13,0)]
def dR:List (Nat×Nat):= [(0,0),(1,0),(2,0),(3,0),(4,0),(5,0),(6,1),(7,0),(8,0),(9,1),(10,1),(11,1),(12,1),(13,1),(14,1),(15,1),(16,1),(17,0),(18,0),(19,0)]
def dJ:List (Nat×Nat):= [(0,0),(1,0),(2,0),(3,0),(4,0),(5,0),(6,0),(7,0),(8,0),(9,1),(10,0)]
theorem GQ (hI:bO B s) (hB:B+1<=250000000) (hK:∀A c M mc,K (.slice A (fA s).length c) (bV A c 178 u7 (fA s)::cB x a (bH s) M mc R)):CT 106 #[PO x] (cB x a s M mc R) K:=by
 have hbb:=hI.bb
 have hnw:=hI.now
 have hsl:=hI.sl
 have h64:=hI.sm.1
 have hI1:=Oc hI hB
 have hld:=hI.ld.ok (by omega)
 dsimp only[cB,rI]
 refine aH Tryz.func106 ?_
 repeat' (first|refine v72 ?_|refine dw dQ ?_|refine dw dR ?_|refine dw dJ ?_|refine w5 ?_ ?_|((refine bh fun h=>?_) <;> try exact w6 h)|(refine aE fun hA=>?_;subst hA)|intro _|(show aA _ 179 _ _ _;refine CA (h:=YM (b:=s.bt) (Ama hI) (by omega) ?_))|(show aA _ 60 _ _ _;refine CA (h:=Ae (l:=s.l) ?_)))
 refine jG (fun n a' C'=>∃(j:Nat) (q:Bool),j+n=s.l.length/\q=(s.l.take j).any (I0 s.ld)/\dP a' [(0,PO x),(3,I6 (PL s.bt s.now)),(4,.string (btD s.bt s.now)),(5,.bool q),(26,I6 s.l.length),(27,I6 j)]/\C'=cB x a { s with bt:=gT s.bt s.now } M mc R) s.l.length (cN s.l.length ⟨0,false,by omega,by simp,⟨rfl,rfl,rfl,rfl,rfl,rfl,trivial⟩,rfl⟩ (by omega)) ?_
 rintro n a' C' ⟨j,q,hj,hq,ha,rfl⟩
 refine iT _ ha ?_
 simp only[gH]
 by_cases hlt:j<s.l.length
 ·obtain⟨m,hm⟩:∃m,s.l[j]?=some m:=⟨_,List.getElem?_eq_getElem hlt⟩
  have hany:=Afq (f:=I0 s.ld) hm
  rw[<- hq] at hany
  dsimp only[cB,rI]
  cases q
  ·rw[Bool.false_or] at hany
   cases hg:UD m
   ·have hs:I0 s.ld m=false:=by unfold I0;rw[hg];rfl
    have hg2:decide (m.sta=1\/m.sta=3)=false:=hg
    repeat' (first|refine v72 ?_|refine dw dQ ?_|refine dw dR ?_|refine dw dJ ?_|refine w5 ?_ ?_|((refine bh fun h=>?_) <;> try exact w6 h)|(refine aE fun hA=>?_;subst hA)|intro _|(show aA _ 62 _ _ _;refine CA (h:=CB (l:=s.l) hI.sm hm (fun bq li t r hok=>?_)))|(show aA _ 180 _ _ _;refine CA (h:=pS (s:=m.sta) ?_);rw[hg2]))
    all_goals(show aV _ _ _ _;exact uF (m:=n - 1) (by omega) (aG.trans (by exact aZ) (aG.trans (cU (m:=m) hok) (eD (x:=x) (a:=a) (s:= { s with bt:=gT s.bt s.now }) (M:=M) (mc:=mc) (R:=R) hm))) ⟨j+1,false,by omega,by rw[hany,hs],⟨rfl,rfl,rfl,rfl,rfl,rfl,trivial⟩,rfl⟩)
   ·have hs:I0 s.ld m=Ak7 m.x (bB m.id s.ld):=by unfold I0;rw[hg];rfl
    have hg2:decide (m.sta=1\/m.sta=3)=true:=hg
    repeat' (first|refine v72 ?_|refine dw dQ ?_|refine dw dR ?_|refine dw dJ ?_|refine w5 ?_ ?_|((refine bh fun h=>?_) <;> try exact w6 h)|(refine aE fun hA=>?_;subst hA)|intro _|(show aA _ 62 _ _ _;refine CA (h:=CB (l:=s.l) hI.sm hm (fun bq li t r hok=>?_)))|(show aA _ 180 _ _ _;refine CA (h:=pS (s:=m.sta) ?_);rw[hg2])|(show aA _ 42 _ _ _;refine CA (h:=N8 ?_))|(show aA _ 182 _ _ _;refine CA (h:=uZ (s:=s.ld) hld ?_))|(show aA _ 181 _ _ _;refine CA (h:=Ai7 (x:=m.x) ?_)))
    all_goals(show aV _ _ _ _;exact uF (m:=n - 1) (by omega) (aG.trans (by exact aZ) (aG.trans (cU (m:=m) hok) (eD (x:=x) (a:=a) (s:= { s with bt:=gT s.bt s.now }) (M:=M) (mc:=mc) (R:=R) hm))) ⟨j+1,Ak7 m.x (bB m.id s.ld),by omega,by rw[hany,hs],⟨rfl,rfl,rfl,rfl,rfl,rfl,trivial⟩,rfl⟩)
  ·rw[Bool.true_or] at hany
   repeat' (first|refine v72 ?_|refine dw dQ ?_|refine dw dR ?_|refine dw dJ ?_|refine w5 ?_ ?_|((refine bh fun h=>?_) <;> try exact w6 h)|(refine aE fun hA=>?_;subst hA)|intro _|(show aA _ 62 _ _ _;refine CA (h:=Ge (l:=s.l) hI.sm hm (fun _=>?_))))
   all_goals(show aV _ _ _ _;exact uF (m:=n - 1) (by omega) (aG.trans (by exact aZ) (eD (x:=x) (a:=a) (s:= { s with bt:=gT s.bt s.now }) (M:=M) (mc:=mc) (R:=R) hm)) ⟨j+1,true,by omega,hany.symm,⟨rfl,rfl,rfl,rfl,rfl,rfl,trivial⟩,rfl⟩)
 ·obtain rfl:j=s.l.length:=by omega
  rw[List.take_length] at hq
  have hq:q=rL s:=hq
  subst hq
  dsimp only[cB,rI]
  unfold fA bH at hK
  by_cases h2:PL s.bt s.now=2
  ·rw[if_pos (.inl h2)] at hK
   simp only[if_pos h2] at hK
   repeat' (first|(show Br _ _ _;refine Br.t (by first|(simp <;> done)|simpa using h2) ?_)|refine v72 ?_|refine dw dQ ?_|refine dw dR ?_|refine dw dJ ?_|refine w5 ?_ ?_|((refine bh fun h=>?_) <;> try exact w6 h)|(refine aE fun hA=>?_;subst hA)|intro _|(show aA _ 118 _ _ _;refine CA (h:=dU (x:=x) (a:=a) (s:= { s with bt:=gT s.bt s.now }) hI1 (by decide) (by decide) (fun _ _=>?_))))
   all_goals(refine aC ?_;exact aB (hK none 0 _ _))
  ·cases hf:Ah s.sl s.now (rL s)
   ·by_cases h1:PL s.bt s.now=1
    ·rw[if_neg (by rw[hf];simp[h1])] at hK
     simp only[if_neg h2,hf,Bool.false_eq_true,if_false] at hK
     repeat' (first|(show Br _ _ _;first|refine Br.f (by first|(simp <;> done)|simpa using h2) ?_|refine Br.t (by first|(simp <;> done)|simpa using h1) ?_)|refine v72 ?_|refine dw dQ ?_|refine dw dR ?_|refine dw dJ ?_|refine w5 ?_ ?_|((refine bh fun h=>?_) <;> try exact w6 h)|(refine aE fun hA=>?_;subst hA)|intro _|(show aA _ 183 _ _ _;refine CA (h:=FV (s:=s.sl) (n:=s.now) (b:=rL s) (by omega) (by omega) (by omega) ?_);rw[hf]))
     all_goals(refine aC ?_;exact aK (aG.trans (by exact aZ) ((Ah3 (f:=tQ 7 0 (btD s.bt s.now) false)))) (hK _ _ _ _))
    ·rw[if_pos (.inr (.inr h1))] at hK
     simp only[if_neg h2,hf,Bool.false_eq_true,if_false] at hK
     repeat' (first|(show Br _ _ _;first|refine Br.f (by first|(simp <;> done)|simpa using h2) ?_|refine Br.f (by first|(simp <;> done)|simpa using h1) ?_)|refine v72 ?_|refine dw dQ ?_|refine dw dR ?_|refine dw dJ ?_|refine w5 ?_ ?_|((refine bh fun h=>?_) <;> try exact w6 h)|(refine aE fun hA=>?_;subst hA)|intro _|(show aA _ 183 _ _ _;refine CA (h:=FV (s:=s.sl) (n:=s.now) (b:=rL s) (by omega) (by omega) (by omega) ?_);rw[hf]))
     all_goals(refine aC ?_;exact aB (hK none 0 _ _))
   ·rw[if_pos (.inr (.inl hf))] at hK
    simp only[if_neg h2,hf,if_true] at hK
    repeat' (first|(show Br _ _ _;refine Br.f (by first|(simp <;> done)|simpa using h2) ?_)|refine v72 ?_|refine dw dQ ?_|refine dw dR ?_|refine dw dJ ?_|refine w5 ?_ ?_|((refine bh fun h=>?_) <;> try exact w6 h)|(refine aE fun hA=>?_;subst hA)|intro _|(show aA _ 183 _ _ _;refine CA (h:=FV (s:=s.sl) (n:=s.now) (b:=rL s) (by omega) (by omega) (by omega) ?_);rw[hf])|(show aA _ 118 _ _ _;refine CA (h:=dU (x:=x) (a:=a) (s:= { s with bt:=gT s.bt s.now,sl:=nL s.sl s.now (rL s) }) (HQ (q:=rL s) hI1) (by decide) (by decide) (fun _ _=>?_))))
    all_goals(refine aC ?_;exact aB (hK none 0 _ _))
end Go.Proofs.YtepnmcipkangkaaGreat
