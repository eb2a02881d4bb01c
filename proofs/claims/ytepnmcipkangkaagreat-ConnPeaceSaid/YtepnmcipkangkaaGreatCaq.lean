/- A part of the proof: lemmas; each with the conditions that it states. -/
import Derived.Test.YtepnmcipkangkaaGreatCap
set_option linter.unusedVariables false
set_option linter.unusedSimpArgs false
set_option maxRecDepth 100000
set_option maxHeartbeats 40000000
namespace Go.Proofs.YtepnmcipkangkaaGreat
open Go Go.Proofs Go.Sl
attribute [local irreducible] aN fL cL bM aL aR aA dJ dK aU dI pt ro fC star sep bF
variable {R C:List HP} {K:KP} {l t f:Int} {p:ByteArray}
def gD (t:Int) (p:ByteArray):ByteArray:=if t=0\/t=1\/t=7\/t=8 then p else⟨#[]⟩
def gK (t:Int) (p:ByteArray):Int:=if t=2\/t=3 then rP p 0 1 else 0
def gO (t:Int) (p:ByteArray):Int:=if t=2\/t=3 then rP p 4 8 else 0
def gW (t:Int) (p:ByteArray):Int:=if t=2\/t=3 then rP p 2 3+1 else 0
def gX (t:Int) (p:ByteArray):Bool:=if t=2\/t=3 then(rP p 1 2 == 1) else false
def gC (t:Int) (p:ByteArray):Int:=if t=4 then rP p 0 4 else if t=9 then rP p 4 8 else 0
def gL (t:Int) (p:ByteArray):Int:=if t=9 then rP p 0 4 else 0
def gN (t:Int) (p:ByteArray):Int:=if t=10\/t=11 then rP p 0 4 else 0
def Aij (p:ByteArray) (j:Nat):Pr:=⟨rP p (6 * j) (6 * j+2),rP p (6 * j+2) (6 * j+2+4)⟩
def ML (p:ByteArray) (n:Nat):List Pr:=(List.range n).map (Aij p)
def gP (t:Int) (p:ByteArray):List Pr:=if t=5 then ML p (p.size / 6) else []
theorem Zb (p:ByteArray) (n:Nat):ML p (n+1)=ML p n++ [Aij p n]:=by unfold ML;rw[List.range_succ];simp
theorem QD (p:ByteArray) (n:Nat):(ML p n).length=n:=by unfold ML;simp
theorem Anr (t:Int) (p:ByteArray):(gP t p).length=if t=5 then p.size / 6 else 0:=by
 unfold gP
 split
 ·exact QD _ _
 ·rfl
def TK (t:Int) (p:ByteArray):Prop:=0<=t/\t<=11/\p.size<=256/\(t=5->p.size % 6=0/\p.size<=48)/\(t=2\/t=3\/t=7\/t=8\/t=9->p.size=8)/\(t=4\/t=10\/t=11->p.size=4)/\(t=6->p.size=0)
theorem Xt {s:Int} (h:nA l t f s=0) (hl:l=p.size):TK t p:=by
 subst hl
 unfold nA EG at h
 unfold TK
 (repeat' split at h) <;> omega
theorem Apu {p i:Nat} {s:ByteArray} (h:i+2<=s.size) (hK:K (I6 (rP s i (i+2))) (eV p (s.extract (i+2) s.size) false::R)):CT 379 #[PO p,I6 2] (eV p (s.extract i s.size) false::R) K:=
 NG (by decide) (by omega) h hK
theorem Z4 (p:ByteArray):A7 p.size p false=p:=by
 obtain⟨t1,t2,t3⟩:=Wo (s:=p) (at_:=0) (n:=p.size) (by omega) (by omega) (by omega)
 simpa using t2
def dT:List (Nat×Nat):= [(2,0),(3,1),(4,1),(5,1),(6,0),(7,1),(0,3),(1,3),(8,1),(9,0),(10,1)]
theorem PK {st:Int} (h:TK t p) (hK:∀A c,K (.agg #[I6 t,I6 st,.bool (f == 1),.string (gD t p),I6 (gK t p),I6 (gO t p),I6 (gW t p),.bool (gX t p),I6 (gC t p),I6 (gL t p),I6 (gN t p),.slice A (gP t p).length c]) (bT A c 349 tX (gP t p)::R)):CT 382 #[.agg #[I6 l,I6 t,I6 f,I6 st],.string p] R K:=by
 obtain⟨h1,h2,h3,h4,h5,h6,h7⟩:=h
 rcases(by omega:(t=0\/t=1\/t=7\/t=8)\/(t=2\/t=3)\/t=4\/t=9\/(t=10\/t=11)\/t=6\/t=5) with h|h|h|h|h|h|h
 ·have q1:¬(t=2\/t=3):=by omega
  have q2:¬t=4:=by omega
  have q3:¬t=9:=by omega
  have q4:¬(t=10\/t=11):=by omega
  have q5:¬t=5:=by omega
  simp only[gD,gK,gO,gW,gX,gC,gL,gN,gP,if_pos h,if_neg q1,if_neg q2,if_neg q3,if_neg q4,if_neg q5,List.length_nil] at hK
  refine aH Tryz.func382 ?_
  repeat' (first|refine Wi ?_|refine dw dT ?_|refine w5 ?_ ?_|((refine bh fun h=>?_) <;> try exact w6 h)|(refine aE fun hA=>?_;subst hA)|intro _|(show aA _ 378 _ _ _;refine CA (h:=Vf p (fun r=>?_)))|(show aA _ 434 _ _ _;refine CA (h:=Adc (by simp[mF]) ?_)))
  all_goals(rw[Z4];(refine aC ?_;exact aB (hK none 0)))
 ·have q1:¬(t=0\/t=1\/t=7\/t=8):=by omega
  have q2:¬t=4:=by omega
  have q3:¬t=9:=by omega
  have q4:¬(t=10\/t=11):=by omega
  have q5:¬t=5:=by omega
  simp only[gD,gK,gO,gW,gX,gC,gL,gN,gP,if_pos h,if_neg q1,if_neg q2,if_neg q3,if_neg q4,if_neg q5,List.length_nil] at hK
  have n1:0<=rP p (0+1+1) (0+1+1+1)/\rP p (0+1+1) (0+1+1+1)<256:=⟨(ER p 2 3).1,by have:=(ER p 2 3).2;simpa using this⟩
  refine aH Tryz.func382 ?_
  repeat' (first|refine Wi ?_|refine dw dT ?_|refine w5 ?_ ?_|((refine bh fun h=>?_) <;> try exact w6 h)|(refine aE fun hA=>?_;subst hA)|intro _|(show aA _ 378 _ _ _;refine CA (h:=vF (fun r=>?_)))|(show aA _ 379 _ _ _;refine CA (h:=PI (by omega) ?_))|(show aA _ 379 _ _ _;refine CA (h:=LA (by omega) ?_)))
  all_goals(refine aC ?_;exact aB (hK none 0))
 ·subst h
  simp[gD,gK,gO,gW,gX,gC,gL,gN,gP] at hK
  refine aH Tryz.func382 ?_
  repeat' (first|refine Wi ?_|refine dw dT ?_|refine w5 ?_ ?_|((refine bh fun h=>?_) <;> try exact w6 h)|(refine aE fun hA=>?_;subst hA)|intro _|(show aA _ 378 _ _ _;refine CA (h:=vF (fun r=>?_)))|(show aA _ 379 _ _ _;refine CA (h:=PI (by omega) ?_))|(show aA _ 379 _ _ _;refine CA (h:=LA (by omega) ?_)))
  all_goals(refine aC ?_;exact aB (hK none 0))
 ·subst h
  simp[gD,gK,gO,gW,gX,gC,gL,gN,gP] at hK
  refine aH Tryz.func382 ?_
  repeat' (first|refine Wi ?_|refine dw dT ?_|refine w5 ?_ ?_|((refine bh fun h=>?_) <;> try exact w6 h)|(refine aE fun hA=>?_;subst hA)|intro _|(show aA _ 378 _ _ _;refine CA (h:=vF (fun r=>?_)))|(show aA _ 379 _ _ _;refine CA (h:=PI (by omega) ?_))|(show aA _ 379 _ _ _;refine CA (h:=LA (by omega) ?_)))
  all_goals(refine aC ?_;exact aB (hK none 0))
 ·have q1:¬(t=0\/t=1\/t=7\/t=8):=by omega
  have q2:¬t=4:=by omega
  have q3:¬t=9:=by omega
  have q4:¬(t=2\/t=3):=by omega
  have q5:¬t=5:=by omega
  simp only[gD,gK,gO,gW,gX,gC,gL,gN,gP,if_pos h,if_neg q1,if_neg q2,if_neg q3,if_neg q4,if_neg q5,List.length_nil] at hK
  refine aH Tryz.func382 ?_
  repeat' (first|refine Wi ?_|refine dw dT ?_|refine w5 ?_ ?_|((refine bh fun h=>?_) <;> try exact w6 h)|(refine aE fun hA=>?_;subst hA)|intro _|(show aA _ 378 _ _ _;refine CA (h:=vF (fun r=>?_)))|(show aA _ 379 _ _ _;refine CA (h:=PI (by omega) ?_))|(show aA _ 379 _ _ _;refine CA (h:=LA (by omega) ?_)))
  all_goals(refine aC ?_;exact aB (hK none 0))
 ·subst h
  simp[gD,gK,gO,gW,gX,gC,gL,gN,gP] at hK
  refine aH Tryz.func382 ?_
  repeat' (first|refine Wi ?_|refine dw dT ?_|refine w5 ?_ ?_|((refine bh fun h=>?_) <;> try exact w6 h)|(refine aE fun hA=>?_;subst hA)|intro _|(show aA _ 378 _ _ _;refine CA (h:=vF (fun r=>?_))))
  all_goals(refine aC ?_;exact aB (hK none 0))
 ·subst h
  obtain⟨hm,h48⟩:=h4 rfl
  simp[gD,gK,gO,gW,gX,gC,gL,gN,gP] at hK
  refine aH Tryz.func382 ?_
  repeat' (first|refine Wi ?_|refine dw dT ?_|refine w5 ?_ ?_|((refine bh fun h=>?_) <;> try exact w6 h)|(refine aE fun hA=>?_;subst hA)|intro _|(show aA _ 378 _ _ _;refine CA (h:=vF (fun r=>?_))))
  rename_i r1 r2 r3
  refine jA (fun m a C'=>∃(j:Nat) (B:Option Addr) (kk:Nat),6 * j+m=p.size/\C'=pt r3 [I6 5,I6 st,.bool (f == 1),.string ⟨#[]⟩,I6 0,I6 0,I6 0,.bool false,I6 0,I6 0,I6 0,.slice B (ML p j).length kk] 178::bT B kk 349 tX (ML p j)::eV r (p.extract (6 * j) p.size) false::pt r2 [I6 0,I6 0,.bool false,.string ⟨#[]⟩,I6 0,I6 0,I6 0,.bool false,I6 0,I6 0,I6 0,.slice none 0 0] 178::R/\dH a [(4,PO r2),(5,PO r3),(6,PO r)]) p.size
   (cJ p.size ⟨0,none,0,by omega,rfl,rfl,rfl,rfl,trivial⟩) ?_
  rintro n1 a C' ⟨j,B,kk,hj,rfl,ha⟩
  refine i6 _ ha ?_
  simp only[gJ]
  have hs:(p.extract (6 * j) p.size).size=p.size - 6 * j:=by simp
  have hpl:=QD p j
  by_cases hlt:6 * j<p.size
  ·have h6:6 * j+2+4<=p.size:=by omega
   repeat' (first|refine Wi ?_|refine dw dT ?_|refine w5 ?_ ?_|((refine bh fun h=>?_) <;> try exact w6 h)|(refine aE fun hA=>?_;subst hA)|intro _|(show aA _ 435 _ _ _;refine CA (h:=Mw _ _ _ ?_))|(show aA _ 379 _ _ _;refine CA (h:=Apu (by omega) ?_))|(show aA _ 379 _ _ _;refine CA (h:=LA (by omega) ?_)))
   all_goals exact cJ (n1 - 6) ⟨j+1,_,_,by omega,by rw[Zb,show 6 * (j+1)=6 * j+2+4 by omega],rfl,rfl,rfl,trivial⟩
  ·have:j=p.size / 6:=by omega
   subst this
   repeat' (first|refine Wi ?_|refine dw dT ?_|refine w5 ?_ ?_|((refine bh fun h=>?_) <;> try exact w6 h)|(refine aE fun hA=>?_;subst hA)|intro _|(show aA _ 435 _ _ _;refine CA (h:=Mw _ _ _ ?_)))
   all_goals(refine aC ?_;exact aB (hK _ _))
end Go.Proofs.YtepnmcipkangkaaGreat
section
namespace Go.Proofs.YtepnmcipkangkaaGreat
open Go Go.Proofs Go.Sl
attribute [local irreducible] aN fL cL bM aL aR aA dJ dK aU dI pt ro fC star sep bF
attribute [local irreducible] ByteArray.extract rP eV
variable {R C:List HP} {K:KP}
def gB (t st:Int) (e:Bool) (p:ByteArray):Bool:=wM t st e (gD t p) (gK t p) (gO t p) (gW t p) (gX t p) (gC t p) (gL t p) (gN t p) (gP t p)
def gY (t:Int) (p:ByteArray):ByteArray:=⟨(nH t (gD t p) (gK t p) (gO t p) (gW t p) (gX t p) (gC t p) (gL t p) (gN t p) (gP t p)).toArray⟩
def gOk (t st:Int) (e:Bool) (p:ByteArray):Bool:=gB t st e p && decide (gY t p=p)
end Go.Proofs.YtepnmcipkangkaaGreat
namespace Go.Proofs.YtepnmcipkangkaaGreat
open Go Go.Proofs Go.Sl
attribute [local irreducible] aN fL cL bM aL aR aA dJ dK aU dI pt ro fC star sep bF
attribute [local irreducible] ByteArray.extract rP eV
variable {R C:List HP} {K:KP}
theorem Wd {t st:Int} {e:Bool} {d:ByteArray} {k on w:Int} {x:Bool} {c la n:Int} {pa:Option Addr} {pn pc:Nat} {ps:List Pr} (h:sK t st e d k on w x c la n ps) (hv:dW C pa tX ps) (hn:ps.length=pn) (hK:K (.string ⟨(nH t d k on w x c la n ps).toArray⟩) C):CT 286 #[.agg #[I6 t,I6 st,.bool e,.string d,I6 k,I6 on,I6 w,.bool x,I6 c,I6 la,I6 n,.slice pa pn pc]] C K:=by
 have hl:=h.2.2.2.2.2.2.2.2.2.2.2.2.2.2.2.2.2.2.2.2
 have hd:=h.2.2.2.2.2.2.2.2.2.2.2.2.2.2.2.1
 refine UV hv hn (by omega) ?_ (by rw[(Ev h).1];exact hK)
 by_cases h2:t=2\/t=3
 ·have:=hd h2
  unfold Oz at this
  simp only[Bool.and_eq_true,decide_eq_true_eq] at this
  omega
 ·exact .inr h2
def gE (l t f s:Int) (p:ByteArray):Int:=if nA l t f s=0 then(if(p.size:Int)=l then(if gOk t s (f == 1) p=true then 0 else 1) else 6) else nA l t f s
def Ap1:Value:=.agg #[I6 0,I6 0,.bool false,.string ⟨#[]⟩,I6 0,I6 0,I6 0,.bool false,I6 0,I6 0,I6 0,.slice none 0 0]
theorem V2 {l t f s:Int} {p:ByteArray} (hf:-9223372036854775808<=f/\f<=9223372036854775807) (hK1:gE l t f s p=0->∀A c,K (.tuple #[.agg #[I6 t,I6 s,.bool (f == 1),.string (gD t p),I6 (gK t p),I6 (gO t p),I6 (gW t p),.bool (gX t p),I6 (gC t p),I6 (gL t p),I6 (gN t p),.slice A (gP t p).length c],I6 0]) (bT A c 349 tX (gP t p)::R))
  (hK2:gE l t f s p≠0->K (.tuple #[Ap1,I6 (gE l t f s p)]) R):CT 291 #[.agg #[I6 l,I6 t,I6 f,I6 s],.string p] R K:=by
 by_cases h1:nA l t f s=0
 ·by_cases h2:(p.size:Int)=l
  ·have hL:=Xt h1 h2.symm
   have hgl:=Anr t p
   have hp1000:(gP t p).length<1000000000000000:=by rw[hgl];have:=hL.2.2.1;split <;> omega
   unfold gE at hK1 hK2
   rw[if_pos h1,if_pos h2] at hK1 hK2
   unfold gOk gB at hK1 hK2
   cases hb:wM t s (f == 1) (gD t p) (gK t p) (gO t p) (gW t p) (gX t p) (gC t p) (gL t p) (gN t p) (gP t p)
   ·rw[hb] at hK2
    simp only[Bool.false_and,Bool.false_eq_true,if_false] at hK2
    have hi:On t s (f == 1) (gD t p) (gK t p) (gO t p) (gW t p) (gX t p) (gC t p) (gL t p) (gN t p) (gP t p)=2:=by unfold On;rw[hb];rfl
    refine aH Tryz.func291 ?_
    repeat' (first|refine v82 ?_|refine w5 ?_ ?_|((refine bh fun h=>?_) <;> try exact w6 h)|(refine aE fun hA=>?_;subst hA)|intro _|(show aA _ 290 _ _ _;refine CA (h:=wY hf ?_))|(show aA _ 382 _ _ _;refine CA (h:=PK hL (fun A c=>?_)))|(show aA _ 137 _ _ _;refine CA (h:=Cp (ps:=gP t p) (by exact lL) rfl hp1000 ?_)))
    all_goals(refine aC ?_;exact aB (hK2 (by decide)))
   ·rw[hb] at hK1 hK2
    have hR:=(HH _ _ _ _ _ _ _ _ _ _ _ _).1 hb
    have hi:On t s (f == 1) (gD t p) (gK t p) (gO t p) (gW t p) (gX t p) (gC t p) (gL t p) (gN t p) (gP t p)=0:=by unfold On;rw[hb];rfl
    refine aH Tryz.func291 ?_
    repeat' (first|refine v82 ?_|refine w5 ?_ ?_|((refine bh fun h=>?_) <;> try exact w6 h)|(refine aE fun hA=>?_;subst hA)|intro _|(show aA _ 290 _ _ _;refine CA (h:=wY hf ?_))|(show aA _ 382 _ _ _;refine CA (h:=PK hL (fun A c=>?_)))|(show aA _ 137 _ _ _;refine CA (h:=Cp (ps:=gP t p) (by exact lL) rfl hp1000 ?_))|(show aA _ 286 _ _ _;refine CA (h:=Wd (ps:=gP t p) hR (by exact lL) rfl ?_)))
    ·have hd:decide (gY t p=p)=false:=decide_eq_false fun e=>h (congrArg ByteArray.toList e)
     rw[hd] at hK2
     (refine aC ?_;exact aB (hK2 (by decide)))
    ·have hd:decide (gY t p=p)=true:=decide_eq_true (Um.1 h)
     rw[hd] at hK1
     (refine aC ?_;exact aB (hK1 rfl _ _))
  ·unfold gE at hK2
   rw[if_pos h1,if_neg h2] at hK2
   refine aH Tryz.func291 ?_
   repeat' (first|refine v82 ?_|refine w5 ?_ ?_|((refine bh fun h=>?_) <;> try exact w6 h)|(refine aE fun hA=>?_;subst hA)|intro _|(show aA _ 290 _ _ _;refine CA (h:=wY hf ?_)))
   all_goals(refine aC ?_;exact aB (hK2 (by decide)))
 ·unfold gE at hK2
  rw[if_neg h1] at hK2
  refine aH Tryz.func291 ?_
  repeat' (first|refine v82 ?_|refine w5 ?_ ?_|((refine bh fun h=>?_) <;> try exact w6 h)|(refine aE fun hA=>?_;subst hA)|intro _|(show aA _ 290 _ _ _;refine CA (h:=wY hf ?_)))
  all_goals(refine aC ?_;exact aB (hK2 h1))
end Go.Proofs.YtepnmcipkangkaaGreat
end
section
namespace Go.Proofs.YtepnmcipkangkaaGreat
open Go Go.Proofs Go.Sl
attribute [local irreducible] aN fL cL bM aL aR aA dJ dK aU dI pt ro fC star sep bF
attribute [local irreducible] ByteArray.extract rP eV
variable {R C:List HP} {K:KP} {t st k on w c la n:Int} {e x:Bool} {d:ByteArray} {ps:List Pr} {pa:Option Addr} {pn pc:Nat}
def frB (t st:Int) (e:Bool) (d:ByteArray) (k on w:Int) (x:Bool) (c la n:Int) (ps:List Pr):ByteArray:=jS ((ByteArray.mk (nH t d k on w x c la n ps).toArray).size:Nat) t (tL e) st++⟨(nH t d k on w x c la n ps).toArray⟩
theorem wG (h:sK t st e d k on w x c la n ps):WY ((ByteArray.mk (nH t d k on w x c la n ps).toArray).size:Nat) t (tL e) st=true:=by
 have hl:=(Ev h).2
 have hb:=EE e
 obtain⟨h1,h2,_⟩:=h
 unfold WY
 simp only[Bool.and_eq_true,decide_eq_true_eq,xE]
 omega
theorem yS {l f s:Int} (h:WY l t f s=true):(jS l t f s).size=9:=by
 have e:=Gh h
 have:(jS l t f s).data.toList.length=(jS l t f s).size:=by simp
 rw[<- this,e]
 simp only[List.length_append,lG]
 decide
theorem jB (h:wM t st e d k on w x c la n ps=true) (hv:dW C pa tX ps) (hn:ps.length=pn) (hn2:pn<1000000000000000) (hK:K (I6 0) C):CT 137 #[.agg #[I6 t,I6 st,.bool e,.string d,I6 k,I6 on,I6 w,.bool x,I6 c,I6 la,I6 n,.slice pa pn pc]] C K:=by
 refine Cp hv hn hn2 ?_
 unfold On;rw[h];exact hK
theorem Cu (h:wM t st e d k on w x c la n ps=false) (hv:dW C pa tX ps) (hn:ps.length=pn) (hn2:pn<1000000000000000) (hK:K (I6 2) C):CT 137 #[.agg #[I6 t,I6 st,.bool e,.string d,I6 k,I6 on,I6 w,.bool x,I6 c,I6 la,I6 n,.slice pa pn pc]] C K:=by
 refine Cp hv hn hn2 ?_
 unfold On;rw[h];exact hK
def EI:List (Nat×Nat):= [(4,0),(5,0),(6,1),(0,1),(1,1),(2,1),(3,1),(7,1),(8,1),(9,0),(10,1),(11,0),(12,0),(13,0),(14,0),(15,0)]
theorem Qe (h:sK t st e d k on w x c la n ps) (hv:dW C pa tX ps) (hn:ps.length=pn) (hK:K (.tuple #[.string (frB t st e d k on w x c la n ps),I6 0]) C):CT 198 #[.agg #[I6 t,I6 st,.bool e,.string d,I6 k,I6 on,I6 w,.bool x,I6 c,I6 la,I6 n,.slice pa pn pc]] C K:=by
 have hl:=h.2.2.2.2.2.2.2.2.2.2.2.2.2.2.2.2.2.2.2.2
 have hc:=(HH _ _ _ _ _ _ _ _ _ _ _ _).2 h
 have hn2:pn<1000000000000000:=by omega
 have ho:=wG h
 have hs:=yS ho
 have hp:=(Ev h).2
 have hps:(ByteArray.mk (nH t d k on w x c la n ps).toArray).size<=256:=by rw[xE];exact hp
 unfold frB at hK
 refine aH Tryz.func198 ?_
 repeat' (first|refine v60 ?_|refine dw EI ?_|refine w5 ?_ ?_|((refine bh fun h=>?_) <;> try exact w6 h)|(refine aE fun hA=>?_;subst hA)|intro _|(show aA _ 137 _ _ _;refine CA (h:=jB (ps:=ps) hc (bN hv) hn hn2 ?_))|(show aA _ 286 _ _ _;refine CA (h:=Wd (ps:=ps) h (bN hv) hn ?_))|(show aA _ 288 _ _ _;refine CA (h:=VD ?_))|(show aA _ 287 _ _ _;refine CA (h:=Aae ho ?_)))
 all_goals(refine aC ?_;exact aB (hK))
end Go.Proofs.YtepnmcipkangkaaGreat
namespace Go.Proofs.YtepnmcipkangkaaGreat
open Go Go.Proofs Go.Sl
attribute [local irreducible] aN fL cL bM aL aR aA dJ dK aU dI pt ro fC star sep bF
attribute [local irreducible] ByteArray.extract rP eV
variable {R C:List HP} {K:KP} {l t f s:Int} {p:ByteArray}
theorem Acz (hf:-9223372036854775808<=f/\f<=9223372036854775807) (h:gE l t f s p=0) (hK:∀A c,K (.tuple #[.agg #[I6 t,I6 s,.bool (f == 1),.string (gD t p),I6 (gK t p),I6 (gO t p),I6 (gW t p),.bool (gX t p),I6 (gC t p),I6 (gL t p),I6 (gN t p),.slice A (gP t p).length c],I6 0]) (bT A c 349 tX (gP t p)::R)):CT 291 #[.agg #[I6 l,I6 t,I6 f,I6 s],.string p] R K:=V2 hf (fun _=>hK) (fun h'=>absurd h h')
theorem Aeh (hf:-9223372036854775808<=f/\f<=9223372036854775807) (h:gE l t f s p≠0) (hK:K (.tuple #[.agg #[I6 0,I6 0,.bool false,.string ⟨#[]⟩,I6 0,I6 0,I6 0,.bool false,I6 0,I6 0,I6 0,.slice none 0 0],I6 (gE l t f s p)]) R):CT 291 #[.agg #[I6 l,I6 t,I6 f,I6 s],.string p] R K:=V2 hf (fun h'=>absurd h' h) (fun _=>hK)
end Go.Proofs.YtepnmcipkangkaaGreat
namespace Go.Proofs.YtepnmcipkangkaaGreat
open Go Go.Proofs Go.Sl
attribute [local irreducible] aN fL cL bM aL aR aA dJ dK aU dI pt ro fC star sep bF
attribute [local irreducible] ByteArray.extract rP eV
variable {R C:List HP} {K:KP} {y:Fm}
def fmD:List Value->Option Fm
 | [.int .i64 t,.int .i64 st,.bool e,.string d,.int .i64 k,.int .i64 on,.int .i64 w,.bool x,.int .i64 c,.int .i64 la,.int .i64 n,.slice pa pn pc]=>some ⟨t,st,e,d,k,on,w,x,c,la,n,pa,pn,pc,[]⟩
 |_=>none
theorem Amd (cs:List Value) (y:Fm) (h:fmD cs=some y): [I6 y.t,I6 y.st,.bool y.e,.string y.d,I6 y.k,I6 y.on,I6 y.w,.bool y.x,I6 y.c,I6 y.la,I6 y.n,.slice y.pa y.pn y.pc]=cs:=by
 unfold fmD at h
 split at h
 ·cases h;rfl
 ·cases h
def wD:u6 Fm:= { enc:=fun y=> [I6 y.t,I6 y.st,.bool y.e,.string y.d,I6 y.k,I6 y.on,I6 y.w,.bool y.x,I6 y.c,I6 y.la,I6 y.n,.slice y.pa y.pn y.pc],sz:=12,dec:=fmD,len:=fun _=>rfl,one:=fun _=>rfl,ok:=Amd }
def FmV (C:List HP) (y:Fm):Prop:=dW C y.pa tX y.ps/\y.ps.length=y.pn
def lZ (y:Fm):Bool:=wM y.t y.st y.e y.d y.k y.on y.w y.x y.c y.la y.n y.ps
def xK (y:Fm):ByteArray:=frB y.t y.st y.e y.d y.k y.on y.w y.x y.c y.la y.n y.ps
def bR (y:Fm):Prop:=sK y.t y.st y.e y.d y.k y.on y.w y.x y.c y.la y.n y.ps
theorem iX (y:Fm):lZ y=true↔bR y:=HH _ _ _ _ _ _ _ _ _ _ _ _
theorem Al7 (h:bR y):(xK y).size<=265:=by
 have h1:=yS (wG h)
 have h2:=(Ev h).2
 have:(xK y).size=9+(nH y.t y.d y.k y.on y.w y.x y.c y.la y.n y.ps).length:=by
  unfold xK frB
  rw[ByteArray.size_append,h1,xE]
 omega
def kP (l:List Fm):List UInt8:=l.flatMap fun y=>(xK y).data.toList
theorem Hu:∀ {l:List Fm},(∀y∈l,bR y)->(kP l).length<=265 * l.length
 | [],_=>by simp[kP]
 |y::l,h=>by
  have h1:=Al7 (h y (by simp))
  have h2:=Hu (l:=l) fun z hz=>h z (List.mem_cons_of_mem _ hz)
  have e:(xK y).data.toList.length=(xK y).size:=by simp
  have e2:(kP (y::l)).length=(xK y).size+(kP l).length:=by rw[<- e];simp[kP]
  rw[e2,List.length_cons];omega
theorem X1 {l:List Fm} {j:Nat} (h:l[j]?=some y):kP (l.take (j+1))=kP (l.take j)++(xK y).data.toList:=by
 unfold kP
 rw[List.take_add_one,h]
 simp
theorem Ro {A:Option Addr} {n c:Nat} {xs:List Fm} (hr:∀y∈xs,bR y) (hv:dW C A wD xs) (hps:∀y∈xs,FmV C y) (hn:xs.length=n) (hn2:n<=1000000) (hK:K (.tuple #[.string ⟨(kP xs).toArray⟩,I6 0]) C):CT 112 #[.slice A n c] C K:=by
 subst hn
 refine aH Tryz.func112 ?_
 repeat' (first|refine v74 ?_|refine w5 ?_ ?_|((refine bh fun h=>?_) <;> try exact w6 h)|(refine aE fun hA=>?_;subst hA)|intro _)
 refine jA (fun m a C'=>∃(j:Nat) (B:Option Addr) (kk:Nat),j+m=xs.length/\C'=bT B kk 5 eG (kP (xs.take j))::C/\dH a [(4,.slice B (kP (xs.take j)).length kk),(9,.slice A xs.length c),(10,I6 xs.length),(11,I6 j)]) xs.length (cJ xs.length ⟨0,none,0,by omega,rfl,rfl,rfl,rfl,rfl,trivial⟩) ?_
 rintro n1 a C' ⟨j,B,kk,hj,rfl,ha⟩
 refine i6 _ ha ?_
 simp only[gJ]
 have hle:=Hu (l:=xs.take j) fun y hy=>hr y (List.mem_of_mem_take hy)
 rw[List.length_take] at hle
 by_cases hlt:j<xs.length
 ·obtain⟨y,hy,hd⟩:=lS (l:=xs) (j:=j) (by omega)
  have hm:=List.mem_of_getElem? hy
  have hp:=hps y hm
  have hR:bR y:=hr y hm
  have ht:=X1 hy
  have hsz:=Al7 hR
  have hdl:(xK y).data.toList.length=(xK y).size:=by simp
  unfold xK at ht hsz hdl
  repeat' (first|refine v74 ?_|refine w5 ?_ ?_|((refine bh fun h=>?_) <;> try exact w6 h)|(refine aE fun hA=>?_;subst hA)|intro _|(show aA _ 198 _ _ _;refine CA (h:=Qe (ps:=y.ps) hR (bN (bN hp.1)) hp.2 ?_)))
  all_goals exact cJ (n1 - 1) ⟨j+1,_,_,by omega,by rw[ht],by rw[ht];rfl,rfl,rfl,rfl,trivial⟩
 ·obtain rfl:j=xs.length:=by omega
  rw[List.take_of_length_le (Nat.le_refl _)]
  repeat' (first|refine v74 ?_|refine w5 ?_ ?_|((refine bh fun h=>?_) <;> try exact w6 h)|(refine aE fun hA=>?_;subst hA)|intro _)
  all_goals(refine aC ?_;exact aB (hK))
end Go.Proofs.YtepnmcipkangkaaGreat
namespace Go.Proofs.YtepnmcipkangkaaGreat
open Go Go.Proofs Go.Sl
attribute [local irreducible] aN fL cL bM aL aR aA dJ dK aU dI pt ro fC star sep bF
variable {W:World}
def zE (y:Fm):HP:=rF y.pa tX y.ps
theorem AV (y:Fm):FZ (zE y):=pZ _ _ _
theorem AJ (y:Fm):Bb (zE y):=ZE _ _ _
theorem yJ {C:List HP} {l:List Fm} {y:Fm} (hy:y∈l):dW (mC zE l::C) y.pa tX y.ps:=Acf (aG.allget (P:=zE) AV AJ hy) lH
end Go.Proofs.YtepnmcipkangkaaGreat
end
