/- A part of the proof: lemmas; each with the conditions that it states. -/
import Derived.Test.YtepnmcipkangkaaGreatCbj
set_option linter.unusedVariables false
set_option linter.unusedSimpArgs false
set_option maxRecDepth 100000
set_option maxHeartbeats 40000000
namespace Go.Proofs.YtepnmcipkangkaaGreat
open Go Go.Proofs Go.Sl
attribute [local irreducible] aN fL cL bM aL aR aA dJ dK aU dI pt ro fC star sep bF
attribute [local irreducible] mp DG
variable {R C:List HP} {K:KP} {x mc j:Nat} {a:Ca} {s:Cn} {M:Option Addr} {B:Int} {m:Sm} {cf:Cf} {l:List Sm}
theorem Acm (h:l[j]?=some m):uJ (l.take (j+1))=uJ (l.take j)+kb m:=by
 unfold uJ
 rw[List.take_add_one,h]
 simp
theorem Aor:uJ (l.take j)<=uJ l:=by
 have h:=VS (a:=l.take j) (b:=l.drop j)
 rw[List.take_append_drop] at h
 omega
theorem Aln (hk:f4 cf s) (hF:∀m∈s.l,J8 m) (hm:m∈s.l):(jZ m.y=1/\(iD m.y:Int)<=s.sh.g.w/\PZ m.y<=s.sh.g.w\/jZ m.y=2/\(iD m.y:Int)+PZ m.y<=s.sh.g.it)/\-400000000<=PZ m.y/\PZ m.y<=4096/\iD m.y<=4096/\bA m.x=jZ m.y:=by
 obtain⟨h1,h2,h3,h4⟩:=hk.mo m hm
 obtain⟨f1,f2,f3⟩:=hF m hm
 cases hy:m.y with
 |b y=>
  rw[hy] at h1 h3 f2
  obtain⟨r1,r2,r3,r4,r5,r6,r7,r8,r9⟩:=f2
  have h1:y.most<=s.sh.g.w:=h1
  refine⟨.inl ⟨rfl,?_,?_⟩,?_,?_,?_,h3⟩
  ·show(y.bs.length:Int)<=_;omega
  ·show y.gr - y.us<=_;omega
  ·show _<=y.gr - y.us;omega
  ·show y.gr - y.us<=_;omega
  ·show y.bs.length<=_;omega
 |i y=>
  rw[hy] at h1 h3 f2
  obtain⟨r1,r2,r3,r4,r5,r6,r7,r8,r9,r10⟩:=f2
  have h1:y.mr<=s.sh.g.it:=h1
  refine⟨.inr ⟨rfl,?_⟩,?_,?_,?_,h3⟩
  ·show(y.l.length:Int)+y.op<=_;omega
  ·show _<=y.op;omega
  ·show y.op<=_;omega
  ·show y.l.length<=_;omega
def g9:List Nat:= [0,1,3,7,15,31,15,79,255,511,1023,2047,1023,5119,16383,32767,65535,131071,262143,524287,1048575,2097151,4194303,8388607,4194303,33554431,67108863,4194303,138412031,536870911,1073741823,2147483647]
def iC:List Nat:= [2147483647,1073741823,536870911,138412031,4194303,67108863,33554431,4194303,8388607,4194303,2097151,1048575,524287,262143,131071,65535,32767,16383,5119,1023,2047,1023,511,255,79,15,31,15,7,3,1,0]
def g8:List (Nat×Nat):= [(0,0),(1,1),(2,0),(3,0),(4,0),(5,1),(6,1),(7,1),(8,0),(9,0),(10,0),(11,1),(12,1),(13,1),(14,0),(15,0),(16,0),(17,0),(18,0),(19,1),(20,0),(21,0),(22,0),(23,1),(24,1),(25,1),(26,0),(27,2),(28,2),(29,0),(30,0),(31,0)]
theorem UX (hI:bO B s) (hk:f4 cf s) (hF:∀m∈s.l,J8 m) (hK:K (.bool true) (cA x a s M mc R)):CT 16 #[PO x] (cA x a s M mc R) K:=by
 have h64:=hI.sm.1
 have hkp:=hk.kp
 have hrv:=hI.rv
 have hnf:=hk.nf
 have ho1:=hI.own true
 have hou:=hI.ou.1
 have hsum:s.l.length=fQ s true+fQ s false:=He s.l
 obtain⟨v1,v2,v3,v4,v5,v6⟩:=hrv
 have hB:=hI.bb
 have k1:∀v:Bool,v=true->K (.bool v) (cA x a s M mc R):=fun v hv=>hv▸hK
 dsimp only[cA,nF] at k1 ⊢
 refine aH Tryz.func16 ?_
 repeat' (first|refine ZN ?_|refine Jv g9 iC g8 ?_|refine w5 ?_ ?_|((refine bh fun h=>?_) <;> try exact w6 h)|(refine aE fun hA=>?_;subst hA)|intro _|(show aA _ 66 _ _ _;refine CA (h:=UL (x:=x) (a:=a) (s:=s) (M:=M) (mc:=mc) ?_))|(show aA _ 67 _ _ _;refine CA (h:=YN (p:=a.sh) (s:=s.sh) ?_))|(show aA _ 39 _ _ _;refine CA (h:=RE (x:=x) (a:=a) (s:=s) (M:=M) (mc:=mc) hI (fun rowA rowC=>?_))))
 rename_i r3
 refine jA (fun n a' C'=>∃j:Nat,j+n=s.l.length/\dH a' [(0,PO x),(2,.bool false),(3,PO r3),(4,.slice rowA (s.l.map Sm.id).length rowC),(5,I6 j)]/\C'=pt r3 [I6 s.sh.g.w,I6 s.sh.g.st,I6 s.sh.g.it] 23::bT rowA rowC 3 k8 (s.l.map Sm.id)::cA x a s M mc R) s.l.length (cJ s.l.length ⟨0,by omega,⟨rfl,rfl,rfl,rfl,rfl,trivial⟩,rfl⟩ (by omega)) ?_
 rintro n a' C' ⟨j,hj,ha,rfl⟩
 refine i6 _ ha ?_
 simp only[gJ]
 by_cases hlt:j<s.l.length
 ·obtain⟨m,hm⟩:∃m,s.l[j]?=some m:=⟨_,List.getElem?_eq_getElem hlt⟩
  have hmem:=List.mem_of_getElem? hm
  have hat:=S8 hI.sm hmem
  have hid:(s.l.map Sm.id)[j]?=some m.id:=by rw[List.getElem?_map,hm];rfl
  have hln:(s.l.map Sm.id).length=s.l.length:=List.length_map ..
  obtain⟨hq,q1,q2,q3,q4⟩:=Aln hk hF hmem
  dsimp only[cA,nF]
  repeat' (first|refine ZN ?_|refine Jv g9 iC g8 ?_|refine w5 ?_ ?_|((refine bh fun h=>?_) <;> try exact w6 h)|(refine aE fun hA=>?_;subst hA)|intro _|(show aA _ 41 _ _ _;refine CA (h:=tE (x:=x) (a:=a) (s:=s) (M:=M) (mc:=mc) hI hat (fun strB=>?_)))|(show aA _ 63 _ _ _;refine CA (h:=o9 (m:=m) (fun rxB2=>?_)))|(show aA _ 68 _ _ _;refine CA (h:=Adr (y:=m.y) ?_))|(show aA _ 64 _ _ _;refine CA (h:=HL (y:=m.y) ?_))|(show aA _ 69 _ _ _;refine CA (h:=Aaf (y:=m.y) ?_)))
  all_goals(show aU _ _ _ _;exact qK (m:=n - 1) (C':=pt r3 [I6 s.sh.g.w,I6 s.sh.g.st,I6 s.sh.g.it] 23::bT _ _ 3 k8 (s.l.map Sm.id)::cA x a s M mc R) (by omega) (aG.trans (by exact aY) (aG.trans (aG.cons (A:=pt r3 [I6 s.sh.g.w,I6 s.sh.g.st,I6 s.sh.g.it] 23) (aG.cons (A:=bT _ _ 3 k8 (s.l.map Sm.id)) (lX (m:=m) (y:=m.y) rfl))) (aG.cons (aG.cons (dF (x:=x) (a:=a) (s:=s) (M:=M) (mc:=mc) (R:=R) (aS hat).1))))) ⟨j+1,by omega,⟨rfl,rfl,rfl,rfl,rfl,trivial⟩,rfl⟩)
 ·obtain rfl:j=s.l.length:=by omega
  have hln:(s.l.map Sm.id).length=s.l.length:=List.length_map ..
  repeat' (first|refine ZN ?_|refine Jv g9 iC g8 ?_|refine w5 ?_ ?_|((refine bh fun h=>?_) <;> try exact w6 h)|(refine aE fun hA=>?_;subst hA)|intro _)
  refine jA (fun n a' C'=>∃j:Nat,j+n=s.l.length/\dH a' [(0,PO x),(2,.bool false),(3,PO r3),(4,.slice rowA (s.l.map Sm.id).length rowC),(7,I6 (uJ (s.l.take j):Nat)),(8,I6 j)]/\C'=pt r3 [I6 s.sh.g.w,I6 s.sh.g.st,I6 s.sh.g.it] 23::bT rowA rowC 3 k8 (s.l.map Sm.id)::cA x a s M mc R) s.l.length (cJ s.l.length ⟨0,by omega,⟨rfl,rfl,rfl,rfl,rfl,rfl,trivial⟩,rfl⟩ (by omega)) ?_
  rintro n a' C' ⟨j,hj,ha,rfl⟩
  refine i6 _ ha ?_
  simp only[gJ]
  by_cases hlt:j<s.l.length
  ·obtain⟨m,hm⟩:∃m,s.l[j]?=some m:=⟨_,List.getElem?_eq_getElem hlt⟩
   have hmem:=List.mem_of_getElem? hm
   have hat:=S8 hI.sm hmem
   have hid:(s.l.map Sm.id)[j]?=some m.id:=by rw[List.getElem?_map,hm];rfl
   obtain⟨hq,q1,q2,q3,q4⟩:=Aln hk hF hmem
   have ht:=Acm hm
   have hle:=Aor (l:=s.l) (j:=j)
   by_cases hx:bA m.x=1
   ·have hkb:kb m=iD m.y:=if_pos hx
    have ht2:((uJ (s.l.take j):Nat):Int)+((iD m.y:Nat):Int)=(uJ (s.l.take (j+1)):Nat):=by omega
    dsimp only[cA,nF]
    repeat' (first|refine ZN ?_|refine Jv g9 iC g8 ?_|refine w5 ?_ ?_|((refine bh fun h=>?_) <;> try exact w6 h)|(refine aE fun hA=>?_;subst hA)|intro _|(show aA _ 41 _ _ _;first|refine CA (h:=tE (x:=x) (a:=a) (s:=s) (M:=M) (mc:=mc) hI hat (fun strB=>?_))|refine CA (h:=aA.ent (dF (x:=x) (a:=a) (s:=s) (M:=M) (mc:=mc) (b:=strB) (aS hat).1) (tE (x:=x) (a:=a) (s:=s) (M:=M) (mc:=mc) hI hat (fun strD=>?_))))|(show aA _ 70 _ _ _;refine CA (h:=jX (m:=m) ?_))|(show aA _ 63 _ _ _;refine CA (h:=o9 (m:=m) (fun rxB2=>?_)))|(show aA _ 64 _ _ _;refine CA (h:=HL (y:=m.y) ?_)))
    all_goals rw[ht2]
    all_goals(show aU _ _ _ _;exact qK (m:=n - 1) (C':=pt r3 [I6 s.sh.g.w,I6 s.sh.g.st,I6 s.sh.g.it] 23::bT _ _ 3 k8 (s.l.map Sm.id)::cA x a s M mc R) (by omega) (aG.trans (by exact aY) (aG.trans (aG.cons (A:=pt r3 [I6 s.sh.g.w,I6 s.sh.g.st,I6 s.sh.g.it] 23) (aG.cons (A:=bT _ _ 3 k8 (s.l.map Sm.id)) (lX (m:=m) (y:=m.y) rfl))) (aG.cons (aG.cons (dF (x:=x) (a:=a) (s:=s) (M:=M) (mc:=mc) (R:=R) (aS hat).1))))) ⟨j+1,by omega,⟨rfl,rfl,rfl,rfl,rfl,rfl,trivial⟩,rfl⟩)
   ·have hkb:kb m=0:=if_neg hx
    have ht2:((uJ (s.l.take j):Nat):Int)=(uJ (s.l.take (j+1)):Nat):=by omega
    rw[ht2]
    dsimp only[cA,nF]
    repeat' (first|refine ZN ?_|refine Jv g9 iC g8 ?_|refine w5 ?_ ?_|((refine bh fun h=>?_) <;> try exact w6 h)|(refine aE fun hA=>?_;subst hA)|intro _|(show aA _ 41 _ _ _;first|refine CA (h:=tE (x:=x) (a:=a) (s:=s) (M:=M) (mc:=mc) hI hat (fun strB=>?_))|refine CA (h:=aA.ent (dF (x:=x) (a:=a) (s:=s) (M:=M) (mc:=mc) (b:=strB) (aS hat).1) (tE (x:=x) (a:=a) (s:=s) (M:=M) (mc:=mc) hI hat (fun strD=>?_))))|(show aA _ 70 _ _ _;refine CA (h:=jX (m:=m) ?_)))
    all_goals(show aU _ _ _ _;exact qK (m:=n - 1) (C':=pt r3 [I6 s.sh.g.w,I6 s.sh.g.st,I6 s.sh.g.it] 23::bT _ _ 3 k8 (s.l.map Sm.id)::cA x a s M mc R) (by omega) (aG.trans (by exact aY) (aG.cons (A:=pt r3 [I6 s.sh.g.w,I6 s.sh.g.st,I6 s.sh.g.it] 23) (aG.cons (A:=bT _ _ 3 k8 (s.l.map Sm.id)) (dF (x:=x) (a:=a) (s:=s) (M:=M) (mc:=mc) (R:=R) (aS hat).1)))) ⟨j+1,by omega,⟨rfl,rfl,rfl,rfl,rfl,rfl,trivial⟩,rfl⟩)
  ·obtain rfl:j=s.l.length:=by omega
   rw[List.take_length]
   repeat' (first|refine ZN ?_|refine Jv g9 iC g8 ?_|refine w5 ?_ ?_|((refine bh fun h=>?_) <;> try exact w6 h)|(refine aE fun hA=>?_;subst hA)|intro _|(show aA _ 13 _ _ _;refine CA (h:=Lp (x:=x) (a:=a) (s:=s) (M:=M) (mc:=mc) hI ?_);unfold zN)|(show aA _ 17 _ _ _;refine CA (h:=VE (x:=x) (a:=a) (s:=s) (M:=M) (mc:=mc) ?_))|(show aA _ 71 _ _ _;refine CA (h:=B3 (p:=a.rc) (cap:=s.rv.cap) (most:=s.rv.most) (gr:=s.rv.gr) (got:=s.rv.got) (us:=s.rv.us) (by omega) ?_))|(show aA _ 72 _ _ _;refine CA (h:=TW (x:=x) (a:=a) (s:=s) (M:=M) (mc:=mc) ?_))|(show aA _ 73 _ _ _;refine CA (h:=IN (q:=a.ou) (out:=s.out) ?_)))
   all_goals(refine aC ?_;exact aB (k1 _ (by first|rfl|(simp only[decide_eq_true_eq];omega)|assumption)))
end Go.Proofs.YtepnmcipkangkaaGreat
