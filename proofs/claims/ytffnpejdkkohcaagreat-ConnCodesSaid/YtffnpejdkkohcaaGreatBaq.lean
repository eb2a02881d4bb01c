/- A part of the proof: lemmas; each with the conditions that it states. -/
import Derived.Test.YtffnpejdkkohcaaGreatBap
set_option linter.unusedVariables false
set_option linter.unusedSimpArgs false
set_option maxRecDepth 100000
set_option maxHeartbeats 40000000
namespace Go.Proofs.YtffnpejdkkohcaaGreat
open Go Go.Proofs Go.Sl
attribute [local irreducible] aM eY cU bQ aL aW aA dS dT aZ dR pt ro fN star sep bH
variable {R C:List HP} {K:KP} {l t f st n w:Int} {p:ByteArray}
def gD (t:Int) (p:ByteArray):ByteArray:=if t=0\/t=1\/t=7\/t=8 then p else⟨#[]⟩
def gK (t:Int) (p:ByteArray):Int:=if t=2\/t=3 then qL p 0 1 else 0
def gO (t:Int) (p:ByteArray):Int:=if t=2\/t=3 then qL p 4 8 else 0
def gW (t:Int) (p:ByteArray):Int:=if t=2\/t=3 then qL p 2 3+1 else 0
def gX (t:Int) (p:ByteArray):Bool:=if t=2\/t=3 then(qL p 1 2 == 1) else false
def gC (t:Int) (p:ByteArray):Int:=if t=4 then qL p 0 4 else if t=9 then qL p 4 8 else 0
def gL (t:Int) (p:ByteArray):Int:=if t=9 then qL p 0 4 else 0
def gN (t:Int) (p:ByteArray):Int:=if t=10\/t=11 then qL p 0 4 else 0
def Ag9 (p:ByteArray) (j:Nat):Pr:=⟨qL p (6 * j) (6 * j+2),qL p (6 * j+2) (6 * j+2+4)⟩
def Le (p:ByteArray) (n:Nat):List Pr:=(List.range n).map (Ag9 p)
def gP (t:Int) (p:ByteArray):List Pr:=if t=5 then Le p (p.size / 6) else []
theorem UU (p:ByteArray) (n:Nat):Le p (n+1)=Le p n++ [Ag9 p n]:=by unfold Le;rw[List.range_succ];simp
theorem OF (p:ByteArray) (n:Nat):(Le p n).length=n:=by unfold Le;simp
theorem Aj5 (t:Int) (p:ByteArray):(gP t p).length=if t=5 then p.size / 6 else 0:=by
 unfold gP
 split
 ·exact OF _ _
 ·rfl
def Q6 (t:Int) (p:ByteArray):Prop:=0<=t/\t<=11/\p.size<=256/\(t=5->p.size % 6=0/\p.size<=48)/\(t=2\/t=3\/t=7\/t=8\/t=9->p.size=8)/\(t=4\/t=10\/t=11->p.size=4)/\(t=6->p.size=0)
theorem VS {s:Int} (h:sU l t f s=0) (hl:l=p.size):Q6 t p:=by
 subst hl
 unfold sU DD at h
 unfold Q6
 (repeat' split at h) <;> omega
theorem Ak8 {p i:Nat} {s:ByteArray} (h:i+2<=s.size) (hK:K (I6 (qL s i (i+2))) (eW p (s.extract (i+2) s.size) false::R)):CT 261 #[PO p,I6 2] (eW p (s.extract i s.size) false::R) K:=
 Lb (by decide) (by omega) h hK
theorem Yi (p:ByteArray):Ar p.size p false=p:=by
 obtain⟨t1,t2,t3⟩:=Uh (s:=p) (at_:=0) (n:=p.size) (by omega) (by omega) (by omega)
 simpa using t2
def dM:List (Nat×Nat):= [(2,0),(3,1),(4,1),(5,1),(6,0),(7,1),(0,3),(1,3),(8,1),(9,0),(10,1)]
theorem NU (h:Q6 t p) (hK:∀A c,K (.agg #[I6 t,I6 st,.bool (f == 1),.string (gD t p),I6 (gK t p),I6 (gO t p),I6 (gW t p),.bool (gX t p),I6 (gC t p),I6 (gL t p),I6 (gN t p),.slice A (gP t p).length c]) (bU A c 114 oG (gP t p)::R)):CT 264 #[.agg #[I6 l,I6 t,I6 f,I6 st],.string p] R K:=by
 obtain⟨h1,h2,h3,h4,h5,h6,h7⟩:=h
 rcases(by omega:(t=0\/t=1\/t=7\/t=8)\/(t=2\/t=3)\/t=4\/t=9\/(t=10\/t=11)\/t=6\/t=5) with h|h|h|h|h|h|h
 ·have q1:¬(t=2\/t=3):=by omega
  have q2:¬t=4:=by omega
  have q3:¬t=9:=by omega
  have q4:¬(t=10\/t=11):=by omega
  have q5:¬t=5:=by omega
  simp only[gD,gK,gO,gW,gX,gC,gL,gN,gP,if_pos h,if_neg q1,if_neg q2,if_neg q3,if_neg q4,if_neg q5,List.length_nil] at hK
  refine aJ Tryz.func264 ?_
  repeat' (first|refine Uk ?_|refine dw dM ?_|refine w5 ?_ ?_|((refine bh fun h=>?_) <;> try exact w6 h)|(refine aF fun hA=>?_;subst hA)|intro _|(show aA _ 260 _ _ _;refine CA (h:=TT p (fun r=>?_)))|(show aA _ 314 _ _ _;refine CA (h:=YN (by simp[lC]) ?_)))
  all_goals(rw[Yi];(refine aC ?_;exact aB (hK none 0)))
 ·have q1:¬(t=0\/t=1\/t=7\/t=8):=by omega
  have q2:¬t=4:=by omega
  have q3:¬t=9:=by omega
  have q4:¬(t=10\/t=11):=by omega
  have q5:¬t=5:=by omega
  simp only[gD,gK,gO,gW,gX,gC,gL,gN,gP,if_pos h,if_neg q1,if_neg q2,if_neg q3,if_neg q4,if_neg q5,List.length_nil] at hK
  have n1:0<=qL p (0+1+1) (0+1+1+1)/\qL p (0+1+1) (0+1+1+1)<256:=⟨(C7 p 2 3).1,by have:=(C7 p 2 3).2;simpa using this⟩
  refine aJ Tryz.func264 ?_
  repeat' (first|refine Uk ?_|refine dw dM ?_|refine w5 ?_ ?_|((refine bh fun h=>?_) <;> try exact w6 h)|(refine aF fun hA=>?_;subst hA)|intro _|(show aA _ 260 _ _ _;refine CA (h:=uQ (fun r=>?_)))|(show aA _ 261 _ _ _;refine CA (h:=NZ (by omega) ?_))|(show aA _ 261 _ _ _;refine CA (h:=JS (by omega) ?_)))
  all_goals(refine aC ?_;exact aB (hK none 0))
 ·subst h
  simp[gD,gK,gO,gW,gX,gC,gL,gN,gP] at hK
  refine aJ Tryz.func264 ?_
  repeat' (first|refine Uk ?_|refine dw dM ?_|refine w5 ?_ ?_|((refine bh fun h=>?_) <;> try exact w6 h)|(refine aF fun hA=>?_;subst hA)|intro _|(show aA _ 260 _ _ _;refine CA (h:=uQ (fun r=>?_)))|(show aA _ 261 _ _ _;refine CA (h:=NZ (by omega) ?_))|(show aA _ 261 _ _ _;refine CA (h:=JS (by omega) ?_)))
  all_goals(refine aC ?_;exact aB (hK none 0))
 ·subst h
  simp[gD,gK,gO,gW,gX,gC,gL,gN,gP] at hK
  refine aJ Tryz.func264 ?_
  repeat' (first|refine Uk ?_|refine dw dM ?_|refine w5 ?_ ?_|((refine bh fun h=>?_) <;> try exact w6 h)|(refine aF fun hA=>?_;subst hA)|intro _|(show aA _ 260 _ _ _;refine CA (h:=uQ (fun r=>?_)))|(show aA _ 261 _ _ _;refine CA (h:=NZ (by omega) ?_))|(show aA _ 261 _ _ _;refine CA (h:=JS (by omega) ?_)))
  all_goals(refine aC ?_;exact aB (hK none 0))
 ·have q1:¬(t=0\/t=1\/t=7\/t=8):=by omega
  have q2:¬t=4:=by omega
  have q3:¬t=9:=by omega
  have q4:¬(t=2\/t=3):=by omega
  have q5:¬t=5:=by omega
  simp only[gD,gK,gO,gW,gX,gC,gL,gN,gP,if_pos h,if_neg q1,if_neg q2,if_neg q3,if_neg q4,if_neg q5,List.length_nil] at hK
  refine aJ Tryz.func264 ?_
  repeat' (first|refine Uk ?_|refine dw dM ?_|refine w5 ?_ ?_|((refine bh fun h=>?_) <;> try exact w6 h)|(refine aF fun hA=>?_;subst hA)|intro _|(show aA _ 260 _ _ _;refine CA (h:=uQ (fun r=>?_)))|(show aA _ 261 _ _ _;refine CA (h:=NZ (by omega) ?_))|(show aA _ 261 _ _ _;refine CA (h:=JS (by omega) ?_)))
  all_goals(refine aC ?_;exact aB (hK none 0))
 ·subst h
  simp[gD,gK,gO,gW,gX,gC,gL,gN,gP] at hK
  refine aJ Tryz.func264 ?_
  repeat' (first|refine Uk ?_|refine dw dM ?_|refine w5 ?_ ?_|((refine bh fun h=>?_) <;> try exact w6 h)|(refine aF fun hA=>?_;subst hA)|intro _|(show aA _ 260 _ _ _;refine CA (h:=uQ (fun r=>?_))))
  all_goals(refine aC ?_;exact aB (hK none 0))
 ·subst h
  obtain⟨hm,h48⟩:=h4 rfl
  simp[gD,gK,gO,gW,gX,gC,gL,gN,gP] at hK
  refine aJ Tryz.func264 ?_
  repeat' (first|refine Uk ?_|refine dw dM ?_|refine w5 ?_ ?_|((refine bh fun h=>?_) <;> try exact w6 h)|(refine aF fun hA=>?_;subst hA)|intro _|(show aA _ 260 _ _ _;refine CA (h:=uQ (fun r=>?_))))
  rename_i r1 r2 r3
  refine iH (fun m a C'=>∃(j:Nat) (B:Option Addr) (kk:Nat),6 * j+m=p.size/\C'=pt r3 [I6 5,I6 st,.bool (f == 1),.string ⟨#[]⟩,I6 0,I6 0,I6 0,.bool false,I6 0,I6 0,I6 0,.slice B (Le p j).length kk] 45::bU B kk 114 oG (Le p j)::eW r (p.extract (6 * j) p.size) false::pt r2 [I6 0,I6 0,.bool false,.string ⟨#[]⟩,I6 0,I6 0,I6 0,.bool false,I6 0,I6 0,I6 0,.slice none 0 0] 45::R/\cW a [(4,PO r2),(5,PO r3),(6,PO r)]) p.size
   (cG p.size ⟨0,none,0,by omega,rfl,rfl,rfl,rfl,trivial⟩) ?_
  rintro n1 a C' ⟨j,B,kk,hj,rfl,ha⟩
  refine gJ _ ha ?_
  simp only[fF]
  have hs:(p.extract (6 * j) p.size).size=p.size - 6 * j:=by simp
  have hpl:=OF p j
  by_cases hlt:6 * j<p.size
  ·have h6:6 * j+2+4<=p.size:=by omega
   repeat' (first|refine Uk ?_|refine dw dM ?_|refine w5 ?_ ?_|((refine bh fun h=>?_) <;> try exact w6 h)|(refine aF fun hA=>?_;subst hA)|intro _|(show aA _ 315 _ _ _;refine CA (h:=Lo _ _ _ ?_))|(show aA _ 261 _ _ _;refine CA (h:=Ak8 (by omega) ?_))|(show aA _ 261 _ _ _;refine CA (h:=JS (by omega) ?_)))
   all_goals exact cG (n1 - 6) ⟨j+1,_,_,by omega,by rw[UU,show 6 * (j+1)=6 * j+2+4 by omega],rfl,rfl,rfl,trivial⟩
  ·have:j=p.size / 6:=by omega
   subst this
   repeat' (first|refine Uk ?_|refine dw dM ?_|refine w5 ?_ ?_|((refine bh fun h=>?_) <;> try exact w6 h)|(refine aF fun hA=>?_;subst hA)|intro _|(show aA _ 315 _ _ _;refine CA (h:=Lo _ _ _ ?_)))
   all_goals(refine aC ?_;exact aB (hK _ _))
theorem HG (h:0<=n):rB n w=⟨(wB n w).toArray⟩:=by unfold rB;rw[if_neg (by omega)]
theorem Aga (n:Int):wB n 1= [qK n]:=by
 unfold wB
 simp
def eU:Tr:=(.br (.st 0 1 (.st 1 1 (.st 2 1 (.st 3 1 (.st 4 1 (.st 5 1 (.st 6 1 (.st 7 1 (.st 8 1 (.st 9 1 (.st 10 2 (.br (.st 11 2 (.st 12 2 (.st 13 2 (.st 14 2 (.st 15 3 (.st 16 0 (.st 17 0 .nil))))))) (.st 12 2 (.st 13 2 (.st 14 2 (.st 15 3 (.st 11 2 (.st 16 0 (.st 17 0 .nil))))))))))))))))))) (.st 12 2 (.st 13 2 (.st 14 2 (.st 15 3 (.st 0 1 (.st 1 1 (.st 2 1 (.st 3 1 (.st 4 1 (.st 5 1 (.st 6 1 (.st 7 1 (.st 8 1 (.st 9 1 (.st 10 2 (.st 11 2 (.st 16 0 (.st 17 0 .nil)))))))))))))))))))
def eG:List (Nat×Nat):= [(0,0),(1,0),(2,1),(3,1),(4,1),(5,1),(6,0),(7,0)]
def eL:List (Nat×Nat):= [(1,0),(2,0),(3,0),(4,0),(5,0),(6,0),(7,1),(9,1),(10,1),(11,1),(12,1),(13,1),(14,1),(15,1),(0,2),(8,1),(16,0),(17,0)]
theorem Pj {e:Bool} {d:ByteArray} {k on:Int} {x:Bool} {c la:Int} {pa:Option Addr} {pn pc:Nat} {ps:List Pr} (h:jB t st e d k on w x c la n ps) (hv:dE C pa oG ps) (hn:ps.length=pn) (hK:K (.string ⟨(kE t d k on w x c la n ps).toArray⟩) C):CT 58 #[.agg #[I6 t,I6 st,.bool e,.string d,I6 k,I6 on,I6 w,.bool x,I6 c,I6 la,I6 n,.slice pa pn pc]] C K:=by
 subst hn
 obtain⟨h1,h2,h3,h4,h5,h6,h7,h8,h9,h10,h11,h12,h13,h14,h15,h16,h17,h18,h19,h20,h21⟩:=h
 rw[gI] at h18 h19 h20
 have rb:∀n w:Int,0<=w->w<=4->(rB n w).size<=4:=fun n w h0 h1=>by
  unfold rB;split
  ·decide
  ·rw[pJ,iT];omega
 have b1:=rb on 4 (by decide) (by decide)
 have b2:=rb c 4 (by decide) (by decide)
 have b3:=rb la 4 (by decide) (by decide)
 rcases(by omega:(t=2\/t=3)\/t=4\/t=9\/(t=10\/t=11)\/(t=0\/t=1\/t=7\/t=8\/t=5\/t=6)) with h|h|h|h|h
 ·have hdep:=h16 h
  unfold Gb at hdep
  simp only[Bool.and_eq_true,decide_eq_true_eq,gI] at hdep
  unfold kE at hK
  rw[if_pos h,Aga,Aga,Aga,Aga] at hK
  refine aJ Tryz.func58 ?_
  cases x
  all_goals
   repeat' (first|refine v83 ?_|refine Hq eU ?_|refine dw eG ?_|refine dw eL ?_|refine w5 ?_ ?_|((refine bh fun h=>?_) <;> try exact w6 h)|(refine aF fun hA=>?_;subst hA)|intro _|(show aA _ 128 _ _ _;refine CA (h:=Bu (by decide) (by omega) ?_)))
   all_goals(rw[HG (by omega)];(refine aC ?_;exact aB (kv hK (congrArg Value.string (yB (by simp[KY,qX]))))))
 ·subst h
  simp only[kE,show ¬((4:Int)=2\/(4:Int)=3) by decide,if_false,if_true] at hK
  refine aJ Tryz.func58 ?_
  repeat' (first|refine v83 ?_|refine Hq eU ?_|refine dw eG ?_|refine dw eL ?_|refine w5 ?_ ?_|((refine bh fun h=>?_) <;> try exact w6 h)|(refine aF fun hA=>?_;subst hA)|intro _|(show aA _ 128 _ _ _;refine CA (h:=Bu (by decide) (by omega) ?_)))
  all_goals(rw[HG (by omega)];(refine aC ?_;exact aB (hK)))
 ·subst h
  simp only[kE,show ¬((9:Int)=2\/(9:Int)=3) by decide,show ¬((9:Int)=4) by decide,if_false,if_true] at hK
  refine aJ Tryz.func58 ?_
  repeat' (first|refine v83 ?_|refine Hq eU ?_|refine dw eG ?_|refine dw eL ?_|refine w5 ?_ ?_|((refine bh fun h=>?_) <;> try exact w6 h)|(refine aF fun hA=>?_;subst hA)|intro _|(show aA _ 128 _ _ _;refine CA (h:=Bu (by decide) (by omega) ?_)))
  all_goals(rw[HG (by omega),HG (by omega)];(refine aC ?_;exact aB (kv hK (congrArg Value.string (yB (by simp))))))
 ·unfold kE at hK
  rw[if_neg (by omega),if_neg (by omega),if_neg (by omega),if_pos h] at hK
  refine aJ Tryz.func58 ?_
  repeat' (first|refine v83 ?_|refine Hq eU ?_|refine dw eG ?_|refine dw eL ?_|refine w5 ?_ ?_|((refine bh fun h=>?_) <;> try exact w6 h)|(refine aF fun hA=>?_;subst hA)|intro _|(show aA _ 128 _ _ _;refine CA (h:=Bu (by decide) (by omega) ?_)))
  all_goals(rw[HG (by omega)];(refine aC ?_;exact aB (hK)))
 ·unfold kE at hK
  rw[if_neg (by omega),if_neg (by omega),if_neg (by omega),if_neg (by omega)] at hK
  have hpl:=vQ ps
  have hd:d.data.toList.length=d.size:=by simp
  have hds:d.size<=256:=by
   rcases Nat.eq_zero_or_pos d.size with h'|h'
   ·omega
   ·rcases h12 h' with h''|h''
    ·exact h13 h''
    ·have:=h14 h'';omega
  refine aJ Tryz.func58 ?_
  repeat' (first|refine v83 ?_|refine Hq eU ?_|refine dw eG ?_|refine dw eL ?_|refine w5 ?_ ?_|((refine bh fun h=>?_) <;> try exact w6 h)|(refine aF fun hA=>?_;subst hA)|intro _)
  rename_i r _ _ _ _ _
  have hv2:dE (pt r [I6 t,I6 st,.bool e,.string d,I6 k,I6 on,I6 w,.bool x,I6 c,I6 la,I6 n,.slice pa ps.length pc] 45::C) pa oG ps:=bF hv
  refine iH (fun m a C'=>∃(j:Nat) (s:ByteArray),j+m=ps.length/\C'=pt r [I6 t,I6 st,.bool e,.string d,I6 k,I6 on,I6 w,.bool x,I6 c,I6 la,I6 n,.slice pa ps.length pc] 45::C/\s.data.toList=d.data.toList++Jg (ps.take j)/\cW a [(1,PO r),(4,.string s),(5,I6 j)]) ps.length (cG ps.length ⟨0,d,by omega,rfl,by simp[Jg],rfl,rfl,rfl,trivial⟩) ?_
  rintro n1 a C' ⟨j,s,hj,rfl,hs,ha⟩
  refine gJ _ ha ?_
  simp only[fF]
  have hsl:s.size<=256+6 * j:=by
   have e1:s.data.toList.length=s.size:=by simp
   rw[hs,List.length_append,vQ,List.length_take] at e1
   omega
  by_cases hlt:j<ps.length
  ·obtain⟨y,hy,hd⟩:=i0 (l:=ps) (j:=j) (by omega)
   have ht:=Ye hy
   have hyy:(0<=y.i/\y.i<=65535)/\(0<=y.v/\y.v<=2147483647):=by
    have:=List.all_eq_true.1 h17 y (List.mem_of_getElem? hy)
    simp only[Bool.and_eq_true,decide_eq_true_eq,gI] at this
    exact this
   have b4:=rb y.i 2 (by decide) (by decide)
   have b5:=rb y.v 4 (by decide) (by decide)
   repeat' (first|refine v83 ?_|refine Hq eU ?_|refine dw eG ?_|refine dw eL ?_|refine w5 ?_ ?_|((refine bh fun h=>?_) <;> try exact w6 h)|(refine aF fun hA=>?_;subst hA)|intro _|(show aA _ 128 _ _ _;refine CA (h:=Bu (by decide) (by omega) ?_)))
   all_goals exact cG (n1 - 1) ⟨j+1,_,by omega,rfl,by rw[ht,HG hyy.1.1,HG hyy.2.1];simp[hs],rfl,rfl,rfl,trivial⟩
  ·obtain rfl:j=ps.length:=by omega
   rw[List.take_of_length_le (Nat.le_refl _)] at hs
   rw[<- hs] at hK
   repeat' (first|refine v83 ?_|refine Hq eU ?_|refine dw eG ?_|refine dw eL ?_|refine w5 ?_ ?_|((refine bh fun h=>?_) <;> try exact w6 h)|(refine aF fun hA=>?_;subst hA)|intro _)
   (refine aC ?_;exact aB (kv hK (congrArg Value.string (yB (by simp)))))
end Go.Proofs.YtffnpejdkkohcaaGreat
