/- A part of the proof: lemmas; each with the conditions that it states. -/
import Derived.Test.YtifgibijcmppmaaGreatNao
import Derived.Test.YtifgibijcmppmaaGreatNaw
set_option linter.unusedVariables false
set_option linter.unusedSimpArgs false
namespace Go.Proofs.YtifgibijcmppmaaGreat
open Go Go.Proofs Go.Sl
set_option maxRecDepth 100000
set_option maxHeartbeats 40000000
attribute [local irreducible] aN fB cJ bO aM aY aA dM dQ aW dK pt ro fF star sep bI
section
variable {R C:List HP} {K:Value→List HP→Prop}
def gD (t:Int) (p:ByteArray):ByteArray:=if t=0∨t=1∨t=7∨t=8 then p else⟨#[]⟩
def gK (t:Int) (p:ByteArray):Int:=if t=2∨t=3 then xT p 0 1 else 0
def gO (t:Int) (p:ByteArray):Int:=if t=2∨t=3 then xT p 4 8 else 0
def gW (t:Int) (p:ByteArray):Int:=if t=2∨t=3 then xT p 2 3+1 else 0
def gX (t:Int) (p:ByteArray):Bool:=if t=2∨t=3 then(xT p 1 2 == 1) else false
def gC (t:Int) (p:ByteArray):Int:=if t=4 then xT p 0 4 else if t=9 then xT p 4 8 else 0
def gL (t:Int) (p:ByteArray):Int:=if t=9 then xT p 0 4 else 0
def gN (t:Int) (p:ByteArray):Int:=if t=10∨t=11 then xT p 0 4 else 0
def Alt (p:ByteArray) (j:Nat):Pr:=⟨xT p (6 * j) (6 * j+2),xT p (6 * j+2) (6 * j+2+4)⟩
def PN (p:ByteArray) (n:Nat):List Pr:=(List.range n).map (Alt p)
def gP (t:Int) (p:ByteArray):List Pr:=if t=5 then PN p (p.size / 6) else []
theorem VC (p:ByteArray) (n:Nat):PN p (n+1)=PN p n++ [Alt p n]:=by unfold PN;rw[List.range_succ];simp
theorem Ol (p:ByteArray) (n:Nat):(PN p n).length=n:=by unfold PN;simp
theorem Aj0 (t:Int) (p:ByteArray):(gP t p).length=if t=5 then p.size / 6 else 0:=by
 unfold gP
 split
 ·exact Ol _ _
 ·rfl
def R5 (t:Int) (p:ByteArray):Prop:=0≤t∧t≤11∧p.size≤256∧(t=5→p.size % 6=0∧p.size≤48)∧(t=2∨t=3∨t=7∨t=8∨t=9→p.size=8)∧(t=4∨t=10∨t=11→p.size=4)∧(t=6→p.size=0)
theorem Wk {l t f s:Int} {p:ByteArray} (h:wQ l t f s=0) (hl:l=p.size):R5 t p:=by
 subst hl
 unfold wQ FB at h
 unfold R5
 (repeat' split at h) <;> omega
theorem Alv {p i:Nat} {s:ByteArray} (h:i+2≤s.size) (hK:K (.int .i64 (xT s i (i+2))) (eX p (s.extract (i+2) s.size) false::R)):aA Tryz.prog 327 #[.pointer (some ⟨p,0,none⟩),.int .i64 2] (eX p (s.extract i s.size) false::R) K:=
 LP (by decide) (by omega) h hK
theorem ZY (p:ByteArray):zO p.size p false=p:=by
 obtain⟨t1,t2,t3⟩:=Uk (s:=p) (at_:=0) (n:=p.size) (by omega) (by omega) (by omega)
 simpa using t2
def dR:List (Nat×Nat):= [(2,0),(3,1),(4,1),(5,1),(6,0),(7,1),(0,3),(1,3),(8,1),(9,0),(10,1)]
theorem NC {l t f st:Int} {p:ByteArray} (h:R5 t p) (hK:∀A c,K (.agg #[.int .i64 t,.int .i64 st,.bool (f == 1),.string (gD t p),.int .i64 (gK t p),.int .i64 (gO t p),.int .i64 (gW t p),.bool (gX t p),.int .i64 (gC t p),.int .i64 (gL t p),.int .i64 (gN t p),.slice A (gP t p).length c]) (bT A c 148 nV (gP t p)::R)):aA Tryz.prog 330 #[.agg #[.int .i64 l,.int .i64 t,.int .i64 f,.int .i64 st],.string p] R K:=by
 obtain⟨h1,h2,h3,h4,h5,h6,h7⟩:=h
 rcases(by omega:(t=0∨t=1∨t=7∨t=8)∨(t=2∨t=3)∨t=4∨t=9∨(t=10∨t=11)∨t=6∨t=5) with h|h|h|h|h|h|h
 ·have q1:¬(t=2∨t=3):=by omega
  have q2:¬t=4:=by omega
  have q3:¬t=9:=by omega
  have q4:¬(t=10∨t=11):=by omega
  have q5:¬t=5:=by omega
  simp only[gD,gK,gO,gW,gX,gC,gL,gN,gP,if_pos h,if_neg q1,if_neg q2,if_neg q3,if_neg q4,if_neg q5,List.length_nil] at hK
  refine aH Tryz.func330 ?_
  repeat' (first|refine TU ?_|refine dw dR ?_|refine wr ?_|refine w5 ?_ ?_|((refine bh fun h=>?_) <;> try exact w6 h)|(refine aE fun hA=>?_;subst hA)|intro _|(show aA _ 326 _ _ _;refine CA (h:=Tz p (fun r=>?_)))|(show aA _ 379 _ _ _;refine CA (h:=Acu (by simp[lL]) ?_)))
  all_goals(rw[ZY];(refine aC ?_;exact aB (hK none 0)))
 ·have q1:¬(t=0∨t=1∨t=7∨t=8):=by omega
  have q2:¬t=4:=by omega
  have q3:¬t=9:=by omega
  have q4:¬(t=10∨t=11):=by omega
  have q5:¬t=5:=by omega
  simp only[gD,gK,gO,gW,gX,gC,gL,gN,gP,if_pos h,if_neg q1,if_neg q2,if_neg q3,if_neg q4,if_neg q5,List.length_nil] at hK
  have n1:0≤xT p (0+1+1) (0+1+1+1)∧xT p (0+1+1) (0+1+1+1)<256:=⟨(DO p 2 3).1,by have:=(DO p 2 3).2;simpa using this⟩
  refine aH Tryz.func330 ?_
  repeat' (first|refine TU ?_|refine dw dR ?_|refine wr ?_|refine w5 ?_ ?_|((refine bh fun h=>?_) <;> try exact w6 h)|(refine aE fun hA=>?_;subst hA)|intro _|(show aA _ 326 _ _ _;refine CA (h:=uD (fun r=>?_)))|(show aA _ 327 _ _ _;refine CA (h:=Qo (by omega) ?_))|(show aA _ 327 _ _ _;refine CA (h:=JA (by omega) ?_)))
  all_goals(refine aC ?_;exact aB (hK none 0))
 ·subst h
  simp[gD,gK,gO,gW,gX,gC,gL,gN,gP] at hK
  refine aH Tryz.func330 ?_
  repeat' (first|refine TU ?_|refine dw dR ?_|refine wr ?_|refine w5 ?_ ?_|((refine bh fun h=>?_) <;> try exact w6 h)|(refine aE fun hA=>?_;subst hA)|intro _|(show aA _ 326 _ _ _;refine CA (h:=uD (fun r=>?_)))|(show aA _ 327 _ _ _;refine CA (h:=Qo (by omega) ?_))|(show aA _ 327 _ _ _;refine CA (h:=JA (by omega) ?_)))
  all_goals(refine aC ?_;exact aB (hK none 0))
 ·subst h
  simp[gD,gK,gO,gW,gX,gC,gL,gN,gP] at hK
  refine aH Tryz.func330 ?_
  repeat' (first|refine TU ?_|refine dw dR ?_|refine wr ?_|refine w5 ?_ ?_|((refine bh fun h=>?_) <;> try exact w6 h)|(refine aE fun hA=>?_;subst hA)|intro _|(show aA _ 326 _ _ _;refine CA (h:=uD (fun r=>?_)))|(show aA _ 327 _ _ _;refine CA (h:=Qo (by omega) ?_))|(show aA _ 327 _ _ _;refine CA (h:=JA (by omega) ?_)))
  all_goals(refine aC ?_;exact aB (hK none 0))
 ·have q1:¬(t=0∨t=1∨t=7∨t=8):=by omega
  have q2:¬t=4:=by omega
  have q3:¬t=9:=by omega
  have q4:¬(t=2∨t=3):=by omega
  have q5:¬t=5:=by omega
  simp only[gD,gK,gO,gW,gX,gC,gL,gN,gP,if_pos h,if_neg q1,if_neg q2,if_neg q3,if_neg q4,if_neg q5,List.length_nil] at hK
  refine aH Tryz.func330 ?_
  repeat' (first|refine TU ?_|refine dw dR ?_|refine wr ?_|refine w5 ?_ ?_|((refine bh fun h=>?_) <;> try exact w6 h)|(refine aE fun hA=>?_;subst hA)|intro _|(show aA _ 326 _ _ _;refine CA (h:=uD (fun r=>?_)))|(show aA _ 327 _ _ _;refine CA (h:=Qo (by omega) ?_))|(show aA _ 327 _ _ _;refine CA (h:=JA (by omega) ?_)))
  all_goals(refine aC ?_;exact aB (hK none 0))
 ·subst h
  simp[gD,gK,gO,gW,gX,gC,gL,gN,gP] at hK
  refine aH Tryz.func330 ?_
  repeat' (first|refine TU ?_|refine dw dR ?_|refine wr ?_|refine w5 ?_ ?_|((refine bh fun h=>?_) <;> try exact w6 h)|(refine aE fun hA=>?_;subst hA)|intro _|(show aA _ 326 _ _ _;refine CA (h:=uD (fun r=>?_))))
  all_goals(refine aC ?_;exact aB (hK none 0))
 ·subst h
  obtain⟨hm,h48⟩:=h4 rfl
  simp[gD,gK,gO,gW,gX,gC,gL,gN,gP] at hK
  refine aH Tryz.func330 ?_
  repeat' (first|refine TU ?_|refine dw dR ?_|refine wr ?_|refine w5 ?_ ?_|((refine bh fun h=>?_) <;> try exact w6 h)|(refine aE fun hA=>?_;subst hA)|intro _|(show aA _ 326 _ _ _;refine CA (h:=uD (fun r=>?_))))
  rename_i r1 r2 r3
  refine iF (fun m a C'=>∃(j:Nat) (B:Option Addr) (kk:Nat),6 * j+m=p.size∧C'=pt r3 [.int .i64 5,.int .i64 st,.bool (f == 1),.string ⟨#[]⟩,.int .i64 0,.int .i64 0,.int .i64 0,.bool false,.int .i64 0,.int .i64 0,.int .i64 0,.slice B (PN p j).length kk] 45::bT B kk 148 nV (PN p j)::eX r (p.extract (6 * j) p.size) false::pt r2 [.int .i64 0,.int .i64 0,.bool false,.string ⟨#[]⟩,.int .i64 0,.int .i64 0,.int .i64 0,.bool false,.int .i64 0,.int .i64 0,.int .i64 0,.slice none 0 0] 45::R∧cN a [(4,.pointer (some ⟨r2,0,none⟩)),(5,.pointer (some ⟨r3,0,none⟩)),(6,.pointer (some ⟨r,0,none⟩))]) p.size
   (b9 p.size ⟨0,none,0,by omega,rfl,rfl,rfl,rfl,trivial⟩) ?_
  rintro n1 a C' ⟨j,B,kk,hj,rfl,ha⟩
  refine gF _ ha ?_
  simp only[eQ]
  have hs:(p.extract (6 * j) p.size).size=p.size - 6 * j:=by simp
  have hpl:=Ol p j
  by_cases hlt:6 * j<p.size
  ·have h6:6 * j+2+4≤p.size:=by omega
   repeat' (first|refine TU ?_|refine dw dR ?_|refine wr ?_|refine w5 ?_ ?_|((refine bh fun h=>?_) <;> try exact w6 h)|(refine aE fun hA=>?_;subst hA)|intro _|(show aA _ 380 _ _ _;refine CA (h:=Mf _ _ _ ?_))|(show aA _ 327 _ _ _;refine CA (h:=Alv (by omega) ?_))|(show aA _ 327 _ _ _;refine CA (h:=JA (by omega) ?_)))
   all_goals exact b9 (n1 - 6) ⟨j+1,_,_,by omega,by rw[VC,show 6 * (j+1)=6 * j+2+4 by omega],rfl,rfl,rfl,trivial⟩
  ·have:j=p.size / 6:=by omega
   subst this
   repeat' (first|refine TU ?_|refine dw dR ?_|refine wr ?_|refine w5 ?_ ?_|((refine bh fun h=>?_) <;> try exact w6 h)|(refine aE fun hA=>?_;subst hA)|intro _|(show aA _ 380 _ _ _;refine CA (h:=Mf _ _ _ ?_)))
   all_goals(refine aC ?_;exact aB (hK _ _))
end
section
variable {R C:List HP} {K:Value→List HP→Prop}
theorem Ha {n w:Int} (h:0≤n):rB n w=⟨(wB n w).toArray⟩:=by unfold rB;rw[if_neg (by omega)]
theorem Adh (n:Int):wB n 1= [sJ n]:=by
 unfold wB
 simp
def eV:Tr:=(.br (.st 0 1 (.st 1 1 (.st 2 1 (.st 3 1 (.st 4 1 (.st 5 1 (.st 6 1 (.st 7 1 (.st 8 1 (.st 9 1 (.st 10 2 (.br (.st 11 2 (.st 12 2 (.st 13 2 (.st 14 2 (.st 15 3 (.st 16 0 (.st 17 0 .nil))))))) (.st 12 2 (.st 13 2 (.st 14 2 (.st 15 3 (.st 11 2 (.st 16 0 (.st 17 0 .nil))))))))))))))))))) (.st 12 2 (.st 13 2 (.st 14 2 (.st 15 3 (.st 0 1 (.st 1 1 (.st 2 1 (.st 3 1 (.st 4 1 (.st 5 1 (.st 6 1 (.st 7 1 (.st 8 1 (.st 9 1 (.st 10 2 (.st 11 2 (.st 16 0 (.st 17 0 .nil)))))))))))))))))))
def eN:List (Nat×Nat):= [(0,0),(1,0),(2,1),(3,1),(4,1),(5,1),(6,0),(7,0)]
def eF:List (Nat×Nat):= [(1,0),(2,0),(3,0),(4,0),(5,0),(6,0),(7,1),(9,1),(10,1),(11,1),(12,1),(13,1),(14,1),(15,1),(0,2),(8,1),(16,0),(17,0)]
theorem OD {t st:Int} {e:Bool} {d:ByteArray} {k on w:Int} {x:Bool} {c la n:Int} {pa:Option Addr} {pn pc:Nat} {ps:List Pr} (h:k6 t st e d k on w x c la n ps) (hv:cZ C pa nV ps) (hn:ps.length=pn) (hK:K (.string ⟨(nC t d k on w x c la n ps).toArray⟩) C):aA Tryz.prog 80 #[.agg #[.int .i64 t,.int .i64 st,.bool e,.string d,.int .i64 k,.int .i64 on,.int .i64 w,.bool x,.int .i64 c,.int .i64 la,.int .i64 n,.slice pa pn pc]] C K:=by
 subst hn
 obtain⟨h1,h2,h3,h4,h5,h6,h7,h8,h9,h10,h11,h12,h13,h14,h15,h16,h17,h18,h19,h20,h21⟩:=h
 rw[lV] at h18 h19 h20
 have rb:∀n w:Int,0≤w→w≤4→(rB n w).size≤4:=fun n w h0 h1=>by
  unfold rB;split
  ·decide
  ·rw[o9,nZ];omega
 have b1:=rb on 4 (by decide) (by decide)
 have b2:=rb c 4 (by decide) (by decide)
 have b3:=rb la 4 (by decide) (by decide)
 rcases(by omega:(t=2∨t=3)∨t=4∨t=9∨(t=10∨t=11)∨(t=0∨t=1∨t=7∨t=8∨t=5∨t=6)) with h|h|h|h|h
 ·have hdep:=h16 h
  unfold Ii at hdep
  simp only[Bool.and_eq_true,decide_eq_true_eq,lV] at hdep
  unfold nC at hK
  rw[if_pos h,Adh,Adh,Adh,Adh] at hK
  refine aH Tryz.func80 ?_
  cases x
  all_goals
   repeat' (first|refine Nm ?_|refine Hi eV ?_|refine dw eN ?_|refine dw eF ?_|refine wr ?_|refine w5 ?_ ?_|((refine bh fun h=>?_) <;> try exact w6 h)|(refine aE fun hA=>?_;subst hA)|intro _|(show aA _ 177 _ _ _;refine CA (h:=Bp (by decide) (by omega) ?_)))
   all_goals(rw[Ha (by omega)];(refine aC ?_;exact aB (kv hK (congrArg Value.string (x5 (by simp[JN,GJ]))))))
 ·subst h
  simp only[nC,show ¬((4:Int)=2∨(4:Int)=3) by decide,if_false,if_true] at hK
  refine aH Tryz.func80 ?_
  repeat' (first|refine Nm ?_|refine Hi eV ?_|refine dw eN ?_|refine dw eF ?_|refine wr ?_|refine w5 ?_ ?_|((refine bh fun h=>?_) <;> try exact w6 h)|(refine aE fun hA=>?_;subst hA)|intro _|(show aA _ 177 _ _ _;refine CA (h:=Bp (by decide) (by omega) ?_)))
  all_goals(rw[Ha (by omega)];(refine aC ?_;exact aB (hK)))
 ·subst h
  simp only[nC,show ¬((9:Int)=2∨(9:Int)=3) by decide,show ¬((9:Int)=4) by decide,if_false,if_true] at hK
  refine aH Tryz.func80 ?_
  repeat' (first|refine Nm ?_|refine Hi eV ?_|refine dw eN ?_|refine dw eF ?_|refine wr ?_|refine w5 ?_ ?_|((refine bh fun h=>?_) <;> try exact w6 h)|(refine aE fun hA=>?_;subst hA)|intro _|(show aA _ 177 _ _ _;refine CA (h:=Bp (by decide) (by omega) ?_)))
  all_goals(rw[Ha (by omega),Ha (by omega)];(refine aC ?_;exact aB (kv hK (congrArg Value.string (x5 (by simp))))))
 ·unfold nC at hK
  rw[if_neg (by omega),if_neg (by omega),if_neg (by omega),if_pos h] at hK
  refine aH Tryz.func80 ?_
  repeat' (first|refine Nm ?_|refine Hi eV ?_|refine dw eN ?_|refine dw eF ?_|refine wr ?_|refine w5 ?_ ?_|((refine bh fun h=>?_) <;> try exact w6 h)|(refine aE fun hA=>?_;subst hA)|intro _|(show aA _ 177 _ _ _;refine CA (h:=Bp (by decide) (by omega) ?_)))
  all_goals(rw[Ha (by omega)];(refine aC ?_;exact aB (hK)))
 ·unfold nC at hK
  rw[if_neg (by omega),if_neg (by omega),if_neg (by omega),if_neg (by omega)] at hK
  have hpl:=Gu ps
  have hd:d.data.toList.length=d.size:=by simp
  have hds:d.size≤256:=by
   rcases Nat.eq_zero_or_pos d.size with h'|h'
   ·omega
   ·rcases h12 h' with h''|h''
    ·exact h13 h''
    ·have:=h14 h'';omega
  refine aH Tryz.func80 ?_
  repeat' (first|refine Nm ?_|refine Hi eV ?_|refine dw eN ?_|refine dw eF ?_|refine wr ?_|refine w5 ?_ ?_|((refine bh fun h=>?_) <;> try exact w6 h)|(refine aE fun hA=>?_;subst hA)|intro _)
  rename_i r _ _ _ _ _
  have hv2:cZ (pt r [.int .i64 t,.int .i64 st,.bool e,.string d,.int .i64 k,.int .i64 on,.int .i64 w,.bool x,.int .i64 c,.int .i64 la,.int .i64 n,.slice pa ps.length pc] 45::C) pa nV ps:=bB hv
  refine iF (fun m a C'=>∃(j:Nat) (s:ByteArray),j+m=ps.length∧C'=pt r [.int .i64 t,.int .i64 st,.bool e,.string d,.int .i64 k,.int .i64 on,.int .i64 w,.bool x,.int .i64 c,.int .i64 la,.int .i64 n,.slice pa ps.length pc] 45::C∧s.data.toList=d.data.toList++Xd (ps.take j)∧cN a [(1,.pointer (some ⟨r,0,none⟩)),(4,.string s),(5,.int .i64 j)]) ps.length (b9 ps.length ⟨0,d,by omega,rfl,by simp[Xd],rfl,rfl,rfl,trivial⟩) ?_
  rintro n1 a C' ⟨j,s,hj,rfl,hs,ha⟩
  refine gF _ ha ?_
  simp only[eQ]
  have hsl:s.size≤256+6 * j:=by
   have e1:s.data.toList.length=s.size:=by simp
   rw[hs,List.length_append,Gu,List.length_take] at e1
   omega
  by_cases hlt:j<ps.length
  ·obtain⟨y,hy,hd⟩:=jP (l:=ps) (j:=j) (by omega)
   have ht:=Aba hy
   have hyy:(0≤y.i∧y.i≤65535)∧(0≤y.v∧y.v≤2147483647):=by
    have:=List.all_eq_true.1 h17 y (List.mem_of_getElem? hy)
    simp only[Bool.and_eq_true,decide_eq_true_eq,lV] at this
    exact this
   have b4:=rb y.i 2 (by decide) (by decide)
   have b5:=rb y.v 4 (by decide) (by decide)
   repeat' (first|refine Nm ?_|refine Hi eV ?_|refine dw eN ?_|refine dw eF ?_|refine wr ?_|refine w5 ?_ ?_|((refine bh fun h=>?_) <;> try exact w6 h)|(refine aE fun hA=>?_;subst hA)|intro _|(show aA _ 177 _ _ _;refine CA (h:=Bp (by decide) (by omega) ?_)))
   all_goals exact b9 (n1 - 1) ⟨j+1,_,by omega,rfl,by rw[ht,Ha hyy.1.1,Ha hyy.2.1];simp[hs],rfl,rfl,rfl,trivial⟩
  ·obtain rfl:j=ps.length:=by omega
   rw[List.take_of_length_le (Nat.le_refl _)] at hs
   rw[← hs] at hK
   repeat' (first|refine Nm ?_|refine Hi eV ?_|refine dw eN ?_|refine dw eF ?_|refine wr ?_|refine w5 ?_ ?_|((refine bh fun h=>?_) <;> try exact w6 h)|(refine aE fun hA=>?_;subst hA)|intro _)
   (refine aC ?_;exact aB (kv hK (congrArg Value.string (x5 (by simp)))))
end
section
section
variable {id j on w low xw all:Int} {s:eT} {x:Bool} {r:Int→Nat}
theorem Afr (h:Ly s):Ly (kT id on w x s):=by
 unfold kT
 split
 ·exact h
 ·rename_i he
  have he:pZ id on w s=0:=Classical.byContradiction he
  unfold pZ at he
  split at he
  ·cases he
  ·rename_i h1
   split at he
   ·cases he
   ·rename_i h2
    split at he
    ·cases he
    ·rename_i h3
     have hh:eZ s id:=by cases hq:d4 id s.1 <;> first|exact absurd hq h1|exact hq
     have hmay:yT on w=true:=by cases hq:yT on w <;> first|exact absurd hq h2|rfl
     unfold yT at hmay
     simp only[Bool.and_eq_true,decide_eq_true_eq] at hmay
     have hid:=h.ky id hh
     obtain⟨r,hr⟩:=h.rk
     have n0:¬eZ s 0:=fun e=>by have:=(h.ky 0 e).1;omega
     have hn0:¬Qx (eZ s) (qD s) id 0:=fun e=>n0 (xX e)
     have hab0:rZ id s (s.1.length+1) 0=false:=by
      cases hq:rZ id s (s.1.length+1) 0
      ·rfl
      ·exact absurd (Q6 hq) hn0
     split
     ·rw[hab0,if_neg Bool.false_ne_true]
      exact AN h hid (.inl rfl) (by omega) hn0 ⟨hmay.1.2,hmay.2⟩ (.inl hh)
     ·rename_i h5
      have hon:on=0∨eZ s on:=by
       unfold zI at h5
       by_cases h0:on=0
       ·exact .inl h0
       ·right
        cases hq:d4 on s.1
        ·exact absurd (by rw[hq];simp[h0]) h5
        ·exact hq
      cases hq:rZ id s (s.1.length+1) on
      ·rw[if_neg Bool.false_ne_true]
       exact AN h hid hon h3 (Akk hr hq) ⟨hmay.1.2,hmay.2⟩ (.inl hh)
      ·rw[if_pos rfl]
       have hu:=Q6 hq
       have ho:=xX hu
       have hlt:=MN hr hh hu
       have hko:=h.ky on ho
       have g:Ly (i5 on (qD s id) s):=by
        refine AN (x:=false) h hko (h.cl id hh) (fun e=>?_) (fun e=>?_) (h.w on ho) (.inl ho)
        ·have:=hr id hh (by show eZ s (qD s id);rw[e];exact ho)
         have e':(dF id s).on=on:=e
         rw[e'] at this
         omega
        ·have h6:=MN hr ho e
         have h7:=hr id hh (xX e)
         have e':qD s id=(dF id s).on:=rfl
         rw[e'] at h6
         omega
       have hid':qD (i5 on (qD s id) s) id=qD s id:=by
        unfold i5
        rw[u4,if_neg (fun e=>h3 e.symm)]
       have hon':qD (i5 on (qD s id) s) on=qD s id:=by
        unfold i5
        rw[u4,if_pos rfl]
       have hh':eZ (i5 on (qD s id) s) id:=dT.2 (.inr hh)
       refine AN g hid (.inr (dT.2 (.inl rfl))) h3 (fun e=>?_) ⟨hmay.1.2,hmay.2⟩ (.inl hh')
       obtain⟨r',hr'⟩:=g.rk
       cases e with
       |base d1 d2=>
        rw[hon'] at d2
        have:=hr id hh (by show eZ s (qD s id);rw[d2];exact hh)
        have e':(dF id s).on=id:=d2
        rw[e'] at this
        omega
       |step d1 d2=>
        rw[hon'] at d2
        have h6:=MN hr' hh' d2
        have h7:r' (qD (i5 on (qD s id) s) id)<r' id:=hr' id hh' (by show eZ _ (qD _ id);rw[hid'];exact xX d2)
        rw[hid'] at h7
        omega
theorem Alh (hw:1≤w∧w≤all) (hx:1≤xw∧xw≤256):1≤C7 w xw all∧C7 w xw all≤256:=by
 have h:w * xw / all≤xw:=Int.ediv_le_of_le_mul (by omega) (by rw[Int.mul_comm w xw];exact Int.mul_le_mul_of_nonneg_left hw.2 (by omega))
 unfold C7
 omega
theorem Lm (h:TrW s):∀ {ks:List Int},(∀k∈ks,eZ s k)→∀k∈ks,(dF k s).w≤pW s ks
 | [],_,k,hk=>by cases hk
 |z::ks,hh,k,hk=>by
  have h1:=hh z (List.mem_cons_self ..)
  have h2:=IY h (l:=ks) fun y hy=>hh y (List.mem_cons_of_mem _ hy)
  unfold pW
  rcases List.mem_cons.1 hk with rfl|hk
  ·omega
  ·have h3:=Lm h (fun y hy=>hh y (List.mem_cons_of_mem _ hy)) k hk
   have h4:=h z h1
   omega
theorem S1 (hx:1≤xw∧xw≤256):∀ {ks:List Int} {s:eT},(∀k∈ks,eZ s k)→ks.Nodup→(∀k∈ks,1≤(dF k s).w∧(dF k s).w≤all)→QA s.1 s.2→Ni s→TrW s→(∀j,eZ (p5 on xw all ks s) j↔eZ s j)∧(∀j,qD (p5 on xw all ks s) j=if j∈ks then on else qD s j)∧TrW (p5 on xw all ks s)∧QA (p5 on xw all ks s).1 (p5 on xw all ks s).2∧Ni (p5 on xw all ks s)∧(p5 on xw all ks s).1.length=s.1.length
 | [],s,_,_,_,h1,h2,h3=>⟨fun j=>Iff.rfl,fun j=>by rw[if_neg (by simp)];rfl,h3,h1,h2,rfl⟩
 |k::ks,s,hk,hn,hw,h1,h2,h3=>by
  unfold p5
  have hkk:=hk k (List.mem_cons_self ..)
  obtain⟨n1,n2⟩:=List.nodup_cons.1 hn
  have hsh:=Alh (hw k (List.mem_cons_self ..)) hx
  have hne:∀z∈ks,z≠k:=fun z hz e=>n1 (by rw[← e];exact hz)
  obtain⟨a1,a2,a3,a4,a5,a6⟩:=S1 hx (ks:=ks) (s:=fH k ⟨on,C7 (dF k s).w xw all⟩ s) (fun z hz=>dT.2 (.inr (hk z (List.mem_cons_of_mem _ hz)))) n2 (fun z hz=>by rw[PE,if_neg (hne z hz)];exact hw z (List.mem_cons_of_mem _ hz)) (CX h1) (Hw h2) (fun j hj=>by
   rw[PE]
   split
   ·exact hsh
   ·rename_i hjk;exact h3 j ((dT.1 hj).resolve_left hjk))
  refine⟨fun j=>(a1 j).trans (dT.trans ⟨fun h=>h.elim (fun e=>by rw[e];exact hkk) (fun h=>h),.inr⟩),fun j=>?_,a3,a4,a5,a6.trans (LE hkk)⟩
  rw[a2 j,u4]
  by_cases hj:j∈ks
  ·rw[if_pos hj,if_pos (List.mem_cons_of_mem _ hj)]
  ·rw[if_neg hj]
   by_cases hjk:j=k
   ·rw[if_pos hjk,if_pos (by rw[hjk];exact List.mem_cons_self ..)]
   ·rw[if_neg hjk,if_neg (fun h=>(List.mem_cons.1 h).elim hjk hj)]
theorem Afq (h:Ly s):Ly (yY id s):=by
 unfold yY
 split
 ·rename_i hh
  obtain⟨r,hr⟩:=h.rk
  have hks:∀k∈cA id s.1,eZ s k:=fun k hk=>((xQ h.nd).1 hk).1
  obtain⟨a1,a2,a3,a4,a5,a6⟩:=S1 (on:=(dF id s).on) (all:=pW s (cA id s.1)) (h.w id hh) hks (AH h.nd) (fun k hk=>⟨(h.w k (hks k hk)).1,Lm h.w hks k hk⟩) h.kok h.nd h.w
  generalize p5 (dF id s).on (dF id s).w (pW s (cA id s.1)) (cA id s.1) s=t at a1 a2 a3 a4 a5 a6 ⊢
  have b1:∀j,eZ (mY id t.1,t.2) j↔j≠id∧eZ s j:=fun j=>by
   rw[← a1 j]
   unfold eZ d4
   show(g9 j (mY id t.1)).isSome=true↔_
   rw[D8 a5]
   by_cases hj:j=id
   ·rw[if_pos hj];simp[hj]
   ·rw[if_neg hj];simp[hj]
  have b2:∀j,j≠id→dF j (mY id t.1,t.2)=dF j t:=fun j hj=>by
   unfold dF
   show(g9 j (mY id t.1)).getD _=_
   rw[D8 a5,if_neg hj]
  have b3:∀j,eZ (mY id t.1,t.2) j→qD (mY id t.1,t.2) j=if qD s j=id then qD s id else qD s j:=fun j hj=>by
   have hj':=(b1 j).1 hj
   unfold qD
   rw[b2 j hj'.1]
   have:=a2 j
   unfold qD at this
   rw[this]
   by_cases hk:(dF j s).on=id
   ·rw[if_pos hk,if_pos ((xQ h.nd).2 ⟨hj'.2,hk⟩)]
   ·rw[if_neg hk,if_neg (fun e=>hk ((xQ h.nd).1 e).2)]
  have hne:qD s id≠id:=fun e=>by
   have e':(dF id s).on=id:=e
   have:=hr id hh (by rw[e'];exact hh)
   rw[e'] at this
   omega
  refine⟨⟨List.Nodup.sublist Abu a4.1,fun e he=>a4.2 e (JR he)⟩,List.Nodup.sublist Fh a5,?_,fun j hj=>?_,fun j hj=>h.ky j ((b1 j).1 hj).2,fun j hj=>?_,r,fun j hj hp=>?_⟩
  ·have:=Acr (id:=id) (l:=t.1)
   have:=h.len
   show(mY id t.1).length≤64
   omega
  ·have hj':=(b1 j).1 hj
   rw[b2 j hj'.1]
   exact a3 j ((a1 j).2 hj'.2)
  ·have hj':=(b1 j).1 hj
   show qD _ j=0∨eZ _ (qD _ j)
   rw[b3 j hj]
   by_cases hk:qD s j=id
   ·rw[if_pos hk]
    exact(h.cl id hh).imp (fun e=>e) fun e=>(b1 _).2 ⟨hne,e⟩
   ·rw[if_neg hk]
    exact(h.cl j hj'.2).imp (fun e=>e) fun e=>(b1 _).2 ⟨hk,e⟩
  ·have hj':=(b1 j).1 hj
   change r (qD (mY id t.1,t.2) j)<r j
   have hp:eZ (mY id t.1,t.2) (qD (mY id t.1,t.2) j):=hp
   rw[b3 j hj] at hp ⊢
   by_cases hk:qD s j=id
   ·rw[if_pos hk] at hp ⊢
    have h1:=hr j hj'.2 (by show eZ s (qD s j);rw[hk];exact hh)
    have h2:=hr id hh ((b1 _).1 hp).2
    have e':(dF j s).on=id:=hk
    rw[e'] at h1
    exact Nat.lt_trans h2 h1
   ·rw[if_neg hk] at hp ⊢
    exact hr j hj'.2 ((b1 _).1 hp).2
 ·exact h
end
end
end Go.Proofs.YtifgibijcmppmaaGreat
