/- A part of the proof: lemmas; each with the conditions that it states. -/
import Derived.Test.YtifgibijcmppmaaGreatNbj
set_option linter.unusedVariables false
set_option linter.unusedSimpArgs false
namespace Go.Proofs.YtifgibijcmppmaaGreat
open Go Go.Proofs Go.Sl
set_option maxRecDepth 100000
set_option maxHeartbeats 40000000
attribute [local irreducible] aN fB cJ bO aM aY aA dM dQ aW dK pt ro fF star sep bI
attribute [local irreducible] mp El
section
variable {R C:List HP} {K:Value→List HP→Prop} {x p x0 x1:Nat} {ad:Ca} {c:Cn} {B P id n kind sg on w side:Int} {xx:Bool} {d:ByteArray} {t:eJ} {cf:Cf} {M:Option Addr} {mc:Nat}
theorem Nf (hP:u6 cf P c) (hK:K (.tuple #[.int .i64 (if iV kind sg on w xx c=0 then c.nx else 0),.int .i64 (iV kind sg on w xx c)]) (lO x ad (l5 kind sg on w xx c)::R)):aA Tryz.prog 25 #[.pointer (some ⟨x,0,none⟩),.int .i64 kind,.int .i64 sg,.agg #[.int .i64 on,.int .i64 w,.bool xx]] (lO x ad c::R) K:=by
 obtain⟨B,⟨hI,_,_⟩,_⟩:=hP
 refine iE fun M mc=>?_
 by_cases hE:iV kind sg on w xx c=0
 ·rw[if_pos hE,hE] at hK
  exact aA.entK (Si hI hE (by rw[show c.nx+2 - 2=c.nx by omega];exact⟨_,fZ,hK⟩))
 ·rw[if_neg hE] at hK
  have eo:l5 kind sg on w xx c=aD c:=by unfold l5;rw[if_pos hE]
  rw[eo] at hK
  exact aA.entK (RS hI hE ⟨_,fZ,hK⟩)
theorem QC (hP:u6 cf P c) (hd:d.size≤100000000) (hK:K (.tuple #[.int .i64 (pD id d c).1,.int .i64 (pD id d c).2]) (lO x ad (lW id d c)::R)):aA Tryz.prog 44 #[.pointer (some ⟨x,0,none⟩),.int .i64 id,.string d] (lO x ad c::R) K:=by
 obtain⟨B,hG,_⟩:=hP
 exact iE fun M mc=>aA.entK (Q5 hG.I hd ⟨_,fZ,hK⟩)
theorem Ais (hP:u6 cf P c) (hK:K (.int .i64 (Mp id c)) (lO x ad (y5 id c)::R)):aA Tryz.prog 204 #[.pointer (some ⟨x,0,none⟩),.int .i64 id] (lO x ad c::R) K:=by
 obtain⟨B,hG,_⟩:=hP
 exact iE fun M mc=>aA.entK (Ab5 hG.I ⟨_,fZ,hK⟩)
theorem Ah6 (hP:u6 cf P c) (hK:K (.int .i64 (Mu id n c)) (lO x ad (yZ id n c)::R)):aA Tryz.prog 205 #[.pointer (some ⟨x,0,none⟩),.int .i64 id,.int .i64 n] (lO x ad c::R) K:=by
 obtain⟨B,hG,_⟩:=hP
 exact iE fun M mc=>aA.entK (X1 hG.I ⟨_,fZ,hK⟩)
theorem Lp (hP:u6 cf P c) (hK:K (.tuple #[.string (kB id n c).1,.bool (kB id n c).2.1,.int .i64 (kB id n c).2.2]) (lO x ad (mG id n c)::R)):aA Tryz.prog 26 #[.pointer (some ⟨x,0,none⟩),.int .i64 id,.int .i64 n] (lO x ad c::R) K:=by
 obtain⟨B,hG,_⟩:=hP
 exact iE fun M mc=>aA.entK (Xe hG.I fun _ _=>⟨_,fZ,hK⟩)
theorem SQ (hP:u6 cf P c) (hK:K (.tuple #[.string (k7 id c).1,.bool (k7 id c).2.1,.bool (k7 id c).2.2.1,.int .i64 (k7 id c).2.2.2]) (lO x ad (pR id c)::R)):aA Tryz.prog 27 #[.pointer (some ⟨x,0,none⟩),.int .i64 id] (lO x ad c::R) K:=by
 obtain⟨B,hG,_⟩:=hP
 exact iE fun M mc=>aA.entK (Vs hG.I fun _ _=>⟨_,fZ,hK⟩)
theorem Z0 (hP:u6 cf P c) (hK:K (.int .i64 (Um c)) (lO x ad (Ey c)::R)):aA Tryz.prog 100 #[.pointer (some ⟨x,0,none⟩)] (lO x ad c::R) K:=by
 obtain⟨B,hG,_⟩:=hP
 exact iE fun M mc=>aA.entK (Af6 hG.I ⟨_,fZ,hK⟩)
theorem Aio (hP:u6 cf P c) (hK:K (.int .i64 (lD id n c)) (lO x ad (nN id n c)::R)):aA Tryz.prog 207 #[.pointer (some ⟨x,0,none⟩),.int .i64 id,.int .i64 n] (lO x ad c::R) K:=by
 obtain⟨B,hG,_⟩:=hP
 exact iE fun M mc=>aA.entK (SF hG.I fun _ _=>⟨_,fZ,hK⟩)
theorem Ajz (hP:u6 cf P c) (hK:K (.int .i64 (Gn id on w xx c)) (lO x ad (sU id on w xx c)::R)):aA Tryz.prog 206 #[.pointer (some ⟨x,0,none⟩),.int .i64 id,.agg #[.int .i64 on,.int .i64 w,.bool xx]] (lO x ad c::R) K:=by
 obtain⟨B,hG,_⟩:=hP
 exact iE fun M mc=>aA.entK (Xc hG.I fun _ _=>⟨_,fZ,hK⟩)
theorem ZR (hP:u6 cf P c) (hK:K (.int .i64 (MJ t c)) (lO x ad (wV t c)::R)):aA Tryz.prog 101 #[.pointer (some ⟨x,0,none⟩),.agg #[.int .i64 t.w,.int .i64 t.st,.int .i64 t.it]] (lO x ad c::R) K:=by
 obtain⟨B,hG,_⟩:=hP
 exact iE fun M mc=>aA.entK (Abv hG.I ⟨_,fZ,hK⟩)
theorem Co (hP:u6 cf P c) (hB:P≤200000000) (hK:(bP c).1.length≤40000→K (.string ⟨(bP c).1.toArray⟩) (lO x ad (bP c).2::R)):aA Tryz.prog 21 #[.pointer (some ⟨x,0,none⟩)] (lO x ad c::R) K:=by
 obtain⟨B,hG,hBP⟩:=hP
 exact iE fun M mc=>OQ fun hF=>aA.entK (VB hG.I hG.K hF (by omega) fun _ _=>⟨_,fZ,hK (Aau hG hF (by omega))⟩)
theorem HT (hP:u6 cf P c) (hd:d.size≤1048576) (hB:P+35 * d.size≤200000000) (hK:K (.int .i64 (vK c)) (lO x ad (eB d.data.toList c)::R)):aA Tryz.prog 14 #[.pointer (some ⟨x,0,none⟩),.string d] (lO x ad c::R) K:=by
 obtain⟨B,hG,hBP⟩:=hP
 have hIb:=hG.E.2
 have e2:d.data.toList.length=d.size:=Array.length_toList
 have h9:=Ua (c.inb++d.data.toList).length (c.inb++d.data.toList) (Nat.le_refl _)
 rw[List.length_append] at h9
 exact iE fun M mc=>aA.entK (VN hG.I hG.E.1 (by omega) (by omega) fun _ _=>⟨_,fZ,hK⟩)
theorem Ajc {u:List UInt8} (hP:u6 cf P c) (hd:u.length≤1048576) (hB:P+35 * u.length≤200000000) (hK:K (.int .i64 (vK c)) (lO x ad (eB u c)::R)):aA Tryz.prog 14 #[.pointer (some ⟨x,0,none⟩),.string ⟨u.toArray⟩] (lO x ad c::R) K:=HT hP (by simpa[ByteArray.size] using hd) (by simpa[ByteArray.size] using hB) hK
theorem ID (hP:u6 cf P c) (hK:K (.bool true) (lO x ad c::R)):aA Tryz.prog 24 #[.pointer (some ⟨x,0,none⟩)] (lO x ad c::R) K:=by
 obtain⟨B,hG,hBP⟩:=hP
 exact iE fun M mc=>OQ fun hF=>aA.entK (SR hG.I hG.K hF ⟨_,fZ,hK⟩)
theorem F9 (hP:u6 cf P c) (hK:∀A d,K (.slice A (c.l.map Sm.id).length d) (bT A d 3 kH (c.l.map Sm.id)::lO x ad c::R)):aA Tryz.prog 18 #[.pointer (some ⟨x,0,none⟩)] (lO x ad c::R) K:=by
 obtain⟨B,hG,_⟩:=hP
 exact iE fun M mc=>aA.entK (Pe hG.I fun A d=>⟨_,aG.cons fZ,hK A d⟩)
theorem Tn (hb:c.mv.length≤1000000000) (hK:∀A d,K (.slice A c.mv.length d) (bT A d 280 mvC c.mv::lO x ad c::R)):aA Tryz.prog 28 #[.pointer (some ⟨x,0,none⟩)] (lO x ad c::R) K:=
 iE fun M mc=>aA.entK (QO hb fun A d=>⟨_,aG.cons fZ,hK A d⟩)
structure A6 where
 sd:Int
 kd:Int
 id:Int
 n:Int
 s:ByteArray
 on:Int
 ww:Int
 xx:Bool
 xw:Int
 xs:Int
 xi:Int
def GD (n:Int) (c:Cn):Int:=((c.l.map Sm.id)[(n % 18446744073709551616 % c.l.length).toNat]?).getD n
def vZ (a:A6) (c:Cn):AC:=⟨if a.kd=0 then 1 else if a.kd=1∨a.kd=2 then 2 else if a.kd<11 then a.kd else 11,a.sd,GD a.id c,if a.kd=0 then a.n % 18446744073709551616 % 2+1 else a.n,if a.kd=0 then a.id % 18446744073709551616 % 3 else a.n % 18446744073709551616 % 13,a.s,a.on,a.ww,a.xx,a.xw,a.xs,a.xi⟩
def kC (a:A6) (c:Cn):Cn:=if a.kd=17 then sV c else if 0≤a.kd∧a.kd<14 then tQ (vZ a c) c ⟨[],0,0⟩ else c
theorem Al2 {a:A6} (h:u6 cf P c) (hP:P≤200000000) (hd:a.s.size≤599):u6 cf (P+2000) (kC a c):=by
 unfold kC
 split
 ·exact Ajm h hP
 ·split
  ·refine Kr h hP hd ?_
   unfold vZ
   dsimp only
   repeat' split
   all_goals omega
  ·exact h.mono (by omega)
variable {a:A6}
theorem rE (hP:u6 cf P c) (hK:K (.int .i64 (GD n c)) (lO x ad c::R)):aA Tryz.prog 203 #[.pointer (some ⟨x,0,none⟩),.int .i64 n] (lO x ad c::R) K:=by
 obtain⟨B,⟨hI,_,_⟩,_⟩:=id hP
 have h64:=hI.sm.1
 have hln:(c.l.map Sm.id).length=c.l.length:=List.length_map ..
 have hl:((c.l.map Sm.id).length:Int) % 18446744073709551616=(c.l.length:Int):=by omega
 unfold GD at hK
 by_cases h0:c.l.length=0
 ·obtain h1:c.l= []:=List.length_eq_zero_iff.1 h0
  rw[h1] at hK
  have hK:K (.int .i64 n) (lO x ad c::R):=by simpa using hK
  refine aH Tryz.func203 ?_
  repeat' (first|refine v52 ?_|refine wr ?_|refine w5 ?_ ?_|((refine bh fun h=>?_) <;> try exact w6 h)|(refine aE fun hA=>?_;subst hA)|intro _|(show aA _ 18 _ _ _;refine CA (h:=F9 hP (fun _ _=>?_))))
  all_goals(refine aC ?_;exact aB (hK))
 ·have hm0:0≤n % 18446744073709551616 % (c.l.length:Int)∧n % 18446744073709551616 % (c.l.length:Int)<(c.l.length:Int):=⟨Int.emod_nonneg _ (by omega),Int.emod_lt_of_pos _ (by omega)⟩
  generalize hkk:n % 18446744073709551616 % (c.l.length:Int)=k at hm0 hK
  obtain⟨y,hy⟩:∃y,(c.l.map Sm.id)[k.toNat]?=some y:=⟨_,List.getElem?_eq_getElem (by omega)⟩
  rw[hy] at hK
  have hK:K (.int .i64 y) (lO x ad c::R):=hK
  refine aH Tryz.func203 ?_
  repeat' (first|(show cJ _ _ _;first|rw[hl]|rw[hkk])|refine v52 ?_|refine wr ?_|refine w5 ?_ ?_|((refine bh fun h=>?_) <;> try exact w6 h)|(refine aE fun hA=>?_;subst hA)|intro _|(show aA _ 18 _ _ _;refine CA (h:=F9 hP (fun _ _=>?_))))
  all_goals(refine aC ?_;exact aB (hK))
theorem UB (hP:u6 cf P c) (hk:¬(9≤a.kd∧a.kd≤17)) (hd:a.s.size≤100000000) (hK:K (.tuple #[]) (lO x ad (kC a c)::R)):aA Tryz.prog 103 #[.pointer (some ⟨x,0,none⟩),.agg #[.int .i64 a.sd,.int .i64 a.kd,.int .i64 a.id,.int .i64 a.n,.string a.s,.int .i64 a.on,.int .i64 a.ww,.bool a.xx,.int .i64 a.xw,.int .i64 a.xs,.int .i64 a.xi]] (lO x ad c::R) K:=by
 by_cases h0:a.kd=0
 ·have hK:K (.tuple #[]) (lO x ad (l5 (a.n % 18446744073709551616 % 2+1) (a.id % 18446744073709551616 % 3) a.on a.ww a.xx c)::R):=by simpa only[kC,vZ,tQ,LG,h0,Int.reduceEq,Int.reduceLE,Int.reduceLT,if_true,if_false,or_true,true_or,or_self,or_false,false_or,and_true,true_and,and_self] using hK
  refine aH Tryz.func103 ?_
  repeat' (first|refine Nm ?_|refine wr ?_|refine w5 ?_ ?_|((refine bh fun h=>?_) <;> try exact w6 h)|(refine aE fun hA=>?_;subst hA)|intro _|(show aA _ 203 _ _ _;refine CA (h:=rE hP ?_))|(show aA _ 25 _ _ _;refine CA (h:=Nf hP ?_)))
  all_goals(refine aC ?_;exact aB (hK))
 by_cases h1:a.kd=1
 ·have hK:K (.tuple #[]) (lO x ad (lW (GD a.id c) a.s c)::R):=by simpa only[kC,vZ,tQ,LG,h1,Int.reduceEq,Int.reduceLE,Int.reduceLT,if_true,if_false,or_true,true_or,or_self,or_false,false_or,and_true,true_and,and_self] using hK
  refine aH Tryz.func103 ?_
  repeat' (first|refine Nm ?_|refine wr ?_|refine w5 ?_ ?_|((refine bh fun h=>?_) <;> try exact w6 h)|(refine aE fun hA=>?_;subst hA)|intro _|(show aA _ 203 _ _ _;refine CA (h:=rE hP ?_))|(show aA _ 44 _ _ _;refine CA (h:=QC hP hd ?_)))
  all_goals(refine aC ?_;exact aB (hK))
 by_cases h2:a.kd=2
 ·have hK:K (.tuple #[]) (lO x ad (lW (GD a.id c) a.s c)::R):=by simpa only[kC,vZ,tQ,LG,h2,Int.reduceEq,Int.reduceLE,Int.reduceLT,if_true,if_false,or_true,true_or,or_self,or_false,false_or,and_true,true_and,and_self] using hK
  refine aH Tryz.func103 ?_
  repeat' (first|refine Nm ?_|refine wr ?_|refine w5 ?_ ?_|((refine bh fun h=>?_) <;> try exact w6 h)|(refine aE fun hA=>?_;subst hA)|intro _|(show aA _ 203 _ _ _;refine CA (h:=rE hP ?_))|(show aA _ 44 _ _ _;refine CA (h:=QC hP hd ?_)))
  all_goals(refine aC ?_;exact aB (hK))
 by_cases h3:a.kd=3
 ·have hK:K (.tuple #[]) (lO x ad (y5 (GD a.id c) c)::R):=by simpa only[kC,vZ,tQ,LG,h3,Int.reduceEq,Int.reduceLE,Int.reduceLT,if_true,if_false,or_true,true_or,or_self,or_false,false_or,and_true,true_and,and_self] using hK
  refine aH Tryz.func103 ?_
  repeat' (first|refine Nm ?_|refine wr ?_|refine w5 ?_ ?_|((refine bh fun h=>?_) <;> try exact w6 h)|(refine aE fun hA=>?_;subst hA)|intro _|(show aA _ 203 _ _ _;refine CA (h:=rE hP ?_))|(show aA _ 204 _ _ _;refine CA (h:=Ais hP ?_)))
  all_goals(refine aC ?_;exact aB (hK))
 by_cases h4:a.kd=4
 ·have hK:K (.tuple #[]) (lO x ad (mG (GD a.id c) a.n c)::R):=by simpa only[kC,vZ,tQ,LG,h4,Int.reduceEq,Int.reduceLE,Int.reduceLT,if_true,if_false,or_true,true_or,or_self,or_false,false_or,and_true,true_and,and_self] using hK
  refine aH Tryz.func103 ?_
  repeat' (first|refine Nm ?_|refine wr ?_|refine w5 ?_ ?_|((refine bh fun h=>?_) <;> try exact w6 h)|(refine aE fun hA=>?_;subst hA)|intro _|(show aA _ 203 _ _ _;refine CA (h:=rE hP ?_))|(show aA _ 26 _ _ _;refine CA (h:=Lp hP ?_)))
  all_goals(refine aC ?_;exact aB (hK))
 by_cases h5:a.kd=5
 ·have hK:K (.tuple #[]) (lO x ad (pR (GD a.id c) c)::R):=by simpa only[kC,vZ,tQ,LG,h5,Int.reduceEq,Int.reduceLE,Int.reduceLT,if_true,if_false,or_true,true_or,or_self,or_false,false_or,and_true,true_and,and_self] using hK
  refine aH Tryz.func103 ?_
  repeat' (first|refine Nm ?_|refine wr ?_|refine w5 ?_ ?_|((refine bh fun h=>?_) <;> try exact w6 h)|(refine aE fun hA=>?_;subst hA)|intro _|(show aA _ 203 _ _ _;refine CA (h:=rE hP ?_))|(show aA _ 27 _ _ _;refine CA (h:=SQ hP ?_)))
  all_goals(refine aC ?_;exact aB (hK))
 by_cases h6:a.kd=6
 ·have hK:K (.tuple #[]) (lO x ad (yZ (GD a.id c) a.n c)::R):=by simpa only[kC,vZ,tQ,LG,h6,Int.reduceEq,Int.reduceLE,Int.reduceLT,if_true,if_false,or_true,true_or,or_self,or_false,false_or,and_true,true_and,and_self] using hK
  refine aH Tryz.func103 ?_
  repeat' (first|refine Nm ?_|refine wr ?_|refine w5 ?_ ?_|((refine bh fun h=>?_) <;> try exact w6 h)|(refine aE fun hA=>?_;subst hA)|intro _|(show aA _ 203 _ _ _;refine CA (h:=rE hP ?_))|(show aA _ 205 _ _ _;refine CA (h:=Ah6 hP ?_)))
  all_goals(refine aC ?_;exact aB (hK))
 by_cases h7:a.kd=7
 ·have hK:K (.tuple #[]) (lO x ad (sU (GD a.id c) a.on a.ww a.xx c)::R):=by simpa only[kC,vZ,tQ,LG,h7,Int.reduceEq,Int.reduceLE,Int.reduceLT,if_true,if_false,or_true,true_or,or_self,or_false,false_or,and_true,true_and,and_self] using hK
  refine aH Tryz.func103 ?_
  repeat' (first|refine Nm ?_|refine wr ?_|refine w5 ?_ ?_|((refine bh fun h=>?_) <;> try exact w6 h)|(refine aE fun hA=>?_;subst hA)|intro _|(show aA _ 203 _ _ _;refine CA (h:=rE hP ?_))|(show aA _ 206 _ _ _;refine CA (h:=Ajz hP ?_)))
  all_goals(refine aC ?_;exact aB (hK))
 by_cases h8:a.kd=8
 ·have hK:K (.tuple #[]) (lO x ad (nN (GD a.id c) (a.n % 18446744073709551616 % 13) c)::R):=by simpa only[kC,vZ,tQ,LG,h8,Int.reduceEq,Int.reduceLE,Int.reduceLT,if_true,if_false,or_true,true_or,or_self,or_false,false_or,and_true,true_and,and_self] using hK
  refine aH Tryz.func103 ?_
  repeat' (first|refine Nm ?_|refine wr ?_|refine w5 ?_ ?_|((refine bh fun h=>?_) <;> try exact w6 h)|(refine aE fun hA=>?_;subst hA)|intro _|(show aA _ 203 _ _ _;refine CA (h:=rE hP ?_))|(show aA _ 207 _ _ _;refine CA (h:=Aio hP ?_)))
  all_goals(refine aC ?_;exact aB (hK))
 have hK:K (.tuple #[]) (lO x ad c::R):=by
  unfold kC at hK
  rwa[if_neg (by omega),if_neg (by omega)] at hK
 refine aH Tryz.func103 ?_
 repeat' (first|refine Nm ?_|refine wr ?_|refine w5 ?_ ?_|((refine bh fun h=>?_) <;> try exact w6 h)|(refine aE fun hA=>?_;subst hA)|intro _|(show aA _ 203 _ _ _;refine CA (h:=rE hP ?_)))
 all_goals(refine aC ?_;exact aB (hK))
def sdW (side:Int) (x0 x1:Nat) (w o:ByteArray):List Value:=if side=0 then [.pointer (some ⟨x0,0,none⟩),.pointer (some ⟨x1,0,none⟩),.string w,.string o] else [.pointer (some ⟨x0,0,none⟩),.pointer (some ⟨x1,0,none⟩),.string o,.string w]
def o26 (a:A6) (c:Cn) (o:ByteArray):ByteArray:=if 11≤a.kd∧a.kd≤13 then o++⟨(bP c).1.toArray⟩ else o
def dX:List (Nat×Nat):= [(10,0),(11,1),(0,1),(1,1),(2,1),(3,1),(4,1),(5,1),(6,1),(7,1),(8,1),(9,1),(12,0),(13,1),(14,1),(15,0),(16,1)]
def dV:List (Nat×Nat):= [(0,0),(1,0),(2,0),(3,0),(4,0),(5,0),(6,0),(7,0),(8,0),(9,0),(10,0),(11,0)]
def dW:List (Nat×Nat):= [(0,0),(1,0),(2,0),(3,0),(4,0),(5,0),(6,0),(7,0),(8,0),(9,0),(10,0),(11,0),(12,0),(13,1)]
theorem T9 {u o:ByteArray} (hs:a.sd % 18446744073709551616 % 2=side) (hx:(if side=0 then x0 else x1)=x) (hk:¬(14≤a.kd∧a.kd≤16)) (hP:u6 cf P c) (hB:P≤200000000) (hd:a.s.size≤599) (ho:o.size≤1000000000) (hK:(o26 a c o).size≤o.size+40000→K (.tuple #[]) (pt p (sdW side x0 x1 u (o26 a c o)) 67::lO x ad (kC a c)::R)):aA Tryz.prog 23 #[.pointer (some ⟨p,0,none⟩),.agg #[.int .i64 a.sd,.int .i64 a.kd,.int .i64 a.id,.int .i64 a.n,.string a.s,.int .i64 a.on,.int .i64 a.ww,.bool a.xx,.int .i64 a.xw,.int .i64 a.xs,.int .i64 a.xi]] (pt p (sdW side x0 x1 u o) 67::lO x ad c::R) K:=by
 obtain⟨B,hG,hBP⟩:=id hP
 have h01:side=0∨side=1:=by omega
 have hnw:=hG.I.now
 have hbb:=hG.I.bb
 have hd2:a.s.size≤100000000:=by omega
 have es:(bP c).1.length≤40000→(⟨(bP c).1.toArray⟩:ByteArray).size≤40000:=fun h=>by simpa[ByteArray.size] using h
 rcases h01 with rfl|rfl
 ·obtain rfl:x0=x:=by simpa using hx
  simp only[sdW,Int.reduceEq,if_true,if_false] at hK ⊢
  have hKo:¬(11≤a.kd∧a.kd≤13)→K (.tuple #[]) (pt p [.pointer (some ⟨x0,0,none⟩),.pointer (some ⟨x1,0,none⟩),.string u,.string o] 67::lO x0 ad (kC a c)::R):=fun h=>by
   have e26:o26 a c o=o:=by unfold o26;rw[if_neg h]
   rw[e26] at hK
   exact hK (by omega)
  by_cases h9:a.kd=9
  ·have hK:K (.tuple #[]) (pt p [.pointer (some ⟨x0,0,none⟩),.pointer (some ⟨x1,0,none⟩),.string u,.string o] 67::lO x0 ad (Ey c)::R):=by simpa only[kC,vZ,tQ,h9,Int.reduceEq,Int.reduceLE,Int.reduceLT,if_true,if_false,or_self,and_true,true_and,and_self,false_and,and_false] using hKo (by omega)
   refine aH Tryz.func23 ?_
   repeat' (first|(show cJ _ _ _;rw[hs])|refine XR ?_|refine dw dX ?_|refine dw dV ?_|refine dw dW ?_|refine wr ?_|refine w5 ?_ ?_|((refine bh fun h=>?_) <;> try exact w6 h)|(refine aE fun hA=>?_;subst hA)|intro _|(show aA _ 100 _ _ _;refine CA (h:=Z0 hP ?_)))
   all_goals(refine aC ?_;exact aB (hK))
  by_cases h10:a.kd=10
  ·have hK:K (.tuple #[]) (pt p [.pointer (some ⟨x0,0,none⟩),.pointer (some ⟨x1,0,none⟩),.string u,.string o] 67::lO x0 ad (wV ⟨a.xw,a.xs,a.xi⟩ c)::R):=by simpa only[kC,vZ,tQ,h10,Int.reduceEq,Int.reduceLE,Int.reduceLT,if_true,if_false,or_self,and_true,true_and,and_self,false_and,and_false] using hKo (by omega)
   refine aH Tryz.func23 ?_
   repeat' (first|(show cJ _ _ _;rw[hs])|refine XR ?_|refine dw dX ?_|refine dw dV ?_|refine dw dW ?_|refine wr ?_|refine w5 ?_ ?_|((refine bh fun h=>?_) <;> try exact w6 h)|(refine aE fun hA=>?_;subst hA)|intro _|(show aA _ 101 _ _ _;refine CA (h:=ZR (t:=⟨a.xw,a.xs,a.xi⟩) hP ?_)))
   all_goals(refine aC ?_;exact aB (hK))
  by_cases h11:11≤a.kd∧a.kd≤13
  ·have ek:tQ (vZ a c) c ⟨[],0,0⟩=(bP c).2:=by
    have e:(vZ a c).kd=11:=by unfold vZ;dsimp only;rw[if_neg (by omega),if_neg (by omega),if_neg (by omega)]
    unfold tQ;rw[if_neg (by omega),if_neg (by omega),if_pos e]
   have e26:o26 a c o=o++⟨(bP c).1.toArray⟩:=by unfold o26;rw[if_pos h11]
   unfold kC at hK
   rw[if_neg (by omega),if_pos (by omega),ek,e26] at hK
   have hK2:(⟨(bP c).1.toArray⟩:ByteArray).size≤40000→K (.tuple #[]) (pt p [.pointer (some ⟨x0,0,none⟩),.pointer (some ⟨x1,0,none⟩),.string u,.string (o++⟨(bP c).1.toArray⟩)] 67::lO x0 ad (bP c).2::R):=fun h=>hK (by rw[ByteArray.size_append];omega)
   have hkk:a.kd=11∨a.kd=12∨a.kd=13:=by omega
   refine aH Tryz.func23 ?_
   repeat' (first|(show cJ _ _ _;rw[hs])|refine XR ?_|refine dw dX ?_|refine dw dV ?_|refine dw dW ?_|refine wr ?_|refine w5 ?_ ?_|((refine bh fun h=>?_) <;> try exact w6 h)|(refine aE fun hA=>?_;subst hA)|intro _|(show aA _ 21 _ _ _;refine CA (h:=Co hP hB (fun hsl=>?_));have hsz:=es hsl))
   all_goals(refine aC ?_;exact aB (hK2 hsz))
  have hK:=hKo h11
  by_cases h17:a.kd=17
  ·have hK:K (.tuple #[]) (pt p [.pointer (some ⟨x0,0,none⟩),.pointer (some ⟨x1,0,none⟩),.string u,.string o] 67::lO x0 ad (sV c)::R):=by unfold kC at hK;rwa[if_pos h17] at hK
   refine aH Tryz.func23 ?_
   repeat' (first|(show cJ _ _ _;rw[hs])|refine XR ?_|refine dw dX ?_|refine dw dV ?_|refine dw dW ?_|refine wr ?_|refine w5 ?_ ?_|((refine bh fun h=>?_) <;> try exact w6 h)|(refine aE fun hA=>?_;subst hA)|intro _|(show aA _ 102 _ _ _;refine CA (h:=NQ (by omega) ?_)))
   all_goals(refine aC ?_;exact aB (hK))
  refine aH Tryz.func23 ?_
  repeat' (first|(show cJ _ _ _;rw[hs])|refine XR ?_|refine dw dX ?_|refine dw dV ?_|refine dw dW ?_|refine wr ?_|refine w5 ?_ ?_|((refine bh fun h=>?_) <;> try exact w6 h)|(refine aE fun hA=>?_;subst hA)|intro _|(show aA _ 103 _ _ _;refine CA (h:=UB (a:=a) hP (by omega) hd2 ?_)))
  all_goals(refine aC ?_;exact aB (hK))
 ·obtain rfl:x1=x:=by simpa using hx
  simp only[sdW,Int.reduceEq,if_true,if_false] at hK ⊢
  have hKo:¬(11≤a.kd∧a.kd≤13)→K (.tuple #[]) (pt p [.pointer (some ⟨x0,0,none⟩),.pointer (some ⟨x1,0,none⟩),.string o,.string u] 67::lO x1 ad (kC a c)::R):=fun h=>by
   have e26:o26 a c o=o:=by unfold o26;rw[if_neg h]
   rw[e26] at hK
   exact hK (by omega)
  by_cases h9:a.kd=9
  ·have hK:K (.tuple #[]) (pt p [.pointer (some ⟨x0,0,none⟩),.pointer (some ⟨x1,0,none⟩),.string o,.string u] 67::lO x1 ad (Ey c)::R):=by simpa only[kC,vZ,tQ,h9,Int.reduceEq,Int.reduceLE,Int.reduceLT,if_true,if_false,or_self,and_true,true_and,and_self,false_and,and_false] using hKo (by omega)
   refine aH Tryz.func23 ?_
   repeat' (first|(show cJ _ _ _;rw[hs])|refine XR ?_|refine dw dX ?_|refine dw dV ?_|refine dw dW ?_|refine wr ?_|refine w5 ?_ ?_|((refine bh fun h=>?_) <;> try exact w6 h)|(refine aE fun hA=>?_;subst hA)|intro _|(show aA _ 100 _ _ _;refine CA (h:=Z0 hP ?_)))
   all_goals(refine aC ?_;exact aB (hK))
  by_cases h10:a.kd=10
  ·have hK:K (.tuple #[]) (pt p [.pointer (some ⟨x0,0,none⟩),.pointer (some ⟨x1,0,none⟩),.string o,.string u] 67::lO x1 ad (wV ⟨a.xw,a.xs,a.xi⟩ c)::R):=by simpa only[kC,vZ,tQ,h10,Int.reduceEq,Int.reduceLE,Int.reduceLT,if_true,if_false,or_self,and_true,true_and,and_self,false_and,and_false] using hKo (by omega)
   refine aH Tryz.func23 ?_
   repeat' (first|(show cJ _ _ _;rw[hs])|refine XR ?_|refine dw dX ?_|refine dw dV ?_|refine dw dW ?_|refine wr ?_|refine w5 ?_ ?_|((refine bh fun h=>?_) <;> try exact w6 h)|(refine aE fun hA=>?_;subst hA)|intro _|(show aA _ 101 _ _ _;refine CA (h:=ZR (t:=⟨a.xw,a.xs,a.xi⟩) hP ?_)))
   all_goals(refine aC ?_;exact aB (hK))
  by_cases h11:11≤a.kd∧a.kd≤13
  ·have ek:tQ (vZ a c) c ⟨[],0,0⟩=(bP c).2:=by
    have e:(vZ a c).kd=11:=by unfold vZ;dsimp only;rw[if_neg (by omega),if_neg (by omega),if_neg (by omega)]
    unfold tQ;rw[if_neg (by omega),if_neg (by omega),if_pos e]
   have e26:o26 a c o=o++⟨(bP c).1.toArray⟩:=by unfold o26;rw[if_pos h11]
   unfold kC at hK
   rw[if_neg (by omega),if_pos (by omega),ek,e26] at hK
   have hK2:(⟨(bP c).1.toArray⟩:ByteArray).size≤40000→K (.tuple #[]) (pt p [.pointer (some ⟨x0,0,none⟩),.pointer (some ⟨x1,0,none⟩),.string (o++⟨(bP c).1.toArray⟩),.string u] 67::lO x1 ad (bP c).2::R):=fun h=>hK (by rw[ByteArray.size_append];omega)
   have hkk:a.kd=11∨a.kd=12∨a.kd=13:=by omega
   refine aH Tryz.func23 ?_
   repeat' (first|(show cJ _ _ _;rw[hs])|refine XR ?_|refine dw dX ?_|refine dw dV ?_|refine dw dW ?_|refine wr ?_|refine w5 ?_ ?_|((refine bh fun h=>?_) <;> try exact w6 h)|(refine aE fun hA=>?_;subst hA)|intro _|(show aA _ 21 _ _ _;refine CA (h:=Co hP hB (fun hsl=>?_));have hsz:=es hsl))
   all_goals(refine aC ?_;exact aB (hK2 hsz))
  have hK:=hKo h11
  by_cases h17:a.kd=17
  ·have hK:K (.tuple #[]) (pt p [.pointer (some ⟨x0,0,none⟩),.pointer (some ⟨x1,0,none⟩),.string o,.string u] 67::lO x1 ad (sV c)::R):=by unfold kC at hK;rwa[if_pos h17] at hK
   refine aH Tryz.func23 ?_
   repeat' (first|(show cJ _ _ _;rw[hs])|refine XR ?_|refine dw dX ?_|refine dw dV ?_|refine dw dW ?_|refine wr ?_|refine w5 ?_ ?_|((refine bh fun h=>?_) <;> try exact w6 h)|(refine aE fun hA=>?_;subst hA)|intro _|(show aA _ 102 _ _ _;refine CA (h:=NQ (by omega) ?_)))
   all_goals(refine aC ?_;exact aB (hK))
  refine aH Tryz.func23 ?_
  repeat' (first|(show cJ _ _ _;rw[hs])|refine XR ?_|refine dw dX ?_|refine dw dV ?_|refine dw dW ?_|refine wr ?_|refine w5 ?_ ?_|((refine bh fun h=>?_) <;> try exact w6 h)|(refine aE fun hA=>?_;subst hA)|intro _|(show aA _ 103 _ _ _;refine CA (h:=UB (a:=a) hP (by omega) hd2 ?_)))
  all_goals(refine aC ?_;exact aB (hK))
end
section
variable {R C:List HP} {K:Value→List HP→Prop} {cf0 cf1:Cf}
theorem Kb {sd:Int} {cf:Cf} (hs:sd=0∨sd=1) (h:MZ cf) (hK:∀x a,K (.tuple #[.pointer (some ⟨x,0,none⟩),.int .i64 0]) (lO x a (nA sd cf)::R)):aA Tryz.prog 9 #[.int .i64 sd,.agg #[.int .i64 cf.w,.int .i64 cf.st,.int .i64 cf.it,.int .i64 cf.sb,.int .i64 cf.si,.int .i64 cf.sg,.int .i64 cf.ev,.int .i64 cf.wa,.int .i64 cf.sl]] R K:=KZ hs h hK
theorem Zf (h0:MZ cf0) (h1:MZ cf1) (hK:∀p x0 x1 a0 a1,K (.pointer (some ⟨p,0,none⟩)) (pt p [.pointer (some ⟨x0,0,none⟩),.pointer (some ⟨x1,0,none⟩),.string ⟨#[]⟩,.string ⟨#[]⟩] 67::lO x0 a0 (nA 0 cf0)::lO x1 a1 (nA 1 cf1)::R)):aA Tryz.prog 43 #[.agg #[.int .i64 cf0.w,.int .i64 cf0.st,.int .i64 cf0.it,.int .i64 cf0.sb,.int .i64 cf0.si,.int .i64 cf0.sg,.int .i64 cf0.ev,.int .i64 cf0.wa,.int .i64 cf0.sl],.agg #[.int .i64 cf1.w,.int .i64 cf1.st,.int .i64 cf1.it,.int .i64 cf1.sb,.int .i64 cf1.si,.int .i64 cf1.sg,.int .i64 cf1.ev,.int .i64 cf1.wa,.int .i64 cf1.sl]] R K:=by
 refine aH Tryz.func43 ?_
 repeat' (first|refine zB ?_|refine wr ?_|refine w5 ?_ ?_|((refine bh fun h=>?_) <;> try exact w6 h)|(refine aE fun hA=>?_;subst hA)|intro _|(show aA _ 9 _ _ _;first|refine CA (h:=Kb (.inl rfl) h0 (fun x0 a0=>?_))|refine CA (h:=Kb (.inr rfl) h1 (fun x1 a1=>?_))))
 all_goals(refine aC ?_;exact aB (hK _ _ _ _ _))
def ez0:Cn:=nA 0 Ip
def ez1:=l5 1 0 0 16 false ez0
def ez2:=lW 1 "abc".toUTF8 ez1
def ew0:Cn:=nA 1 Ip
def ew1:=eB (bP ez2).1 ew0
theorem Akv:(if iV 1 0 0 16 false ez0=0 then ez0.nx else 0)=1∧iV 1 0 0 16 false ez0=0:=by decide +kernel
theorem Akl:(pD 1 "abc".toUTF8 ez1).1=3∧(pD 1 "abc".toUTF8 ez1).2=0:=by decide +kernel
theorem Alo:vK ew0=0:=by decide +kernel
theorem Alq:(kB 1 9 ew1).1= "abc".toUTF8∧(kB 1 9 ew1).2.1=false∧(kB 1 9 ew1).2.2=0:=by decide +kernel
theorem Aky:(mG 1 9 ew1).l.length=1:=by decide +kernel
theorem Ql (hK:K (.bool true) R):aA Tryz.prog 8 #[] R K:=by
 have hG0:u6 Ip 0 ez0:=⟨0,Il (.inl rfl) Gp,by decide⟩
 have hG1:u6 Ip 0 ew0:=⟨0,Il (.inr rfl) Gp,by decide⟩
 have hG2:u6 Ip 2000 ez1:=Kr (a:=⟨1,0,0,1,0,⟨#[]⟩,0,16,false,0,0,0⟩) (l:=⟨[],0,0⟩) hG0 (by decide) (by decide) (by decide)
 have hG3:u6 Ip 4000 ez2:=Kr (a:=⟨2,0,1,0,0,"abc".toUTF8,0,0,false,0,0,0⟩) (l:=⟨[],0,0⟩) hG2 (by decide) (by decide) (by decide)
 have hG4:(bP ez2).1.length≤40000→u6 Ip 1400000 ew1:=fun h=>(Aaw hG1 (by omega)).mono (by omega)
 have hG5:(bP ez2).1.length≤40000→u6 Ip 1402000 (mG 1 9 ew1):=fun h=>Kr (a:=⟨4,0,1,9,0,⟨#[]⟩,0,0,false,0,0,0⟩) (l:=⟨[],0,0⟩) (hG4 h) (by decide) (by decide) (by decide)
 obtain⟨e11,e12⟩:=Akv
 obtain⟨e21,e22⟩:=Akl
 have e4:=Alo
 obtain⟨e51,e52,e53⟩:=Alq
 have e6:=Aky
 refine aH Tryz.func8 ?_
 repeat' (first|(show aN _ _ _ _ _ _ _;refine fN ?_)|refine XG ?_|refine wr ?_|refine w5 ?_ ?_|((refine bh fun h=>?_) <;> try exact w6 h)|(refine aE fun hA=>?_;subst hA)|intro _|(show aA _ 43 _ _ _;refine CA (h:=Zf Gp Gp (fun p x0 x1 a0 a1=>?_)))|(show aA _ 25 _ _ _;refine CA (h:=Nf (c:=ez0) hG0 ?_);rw[e11,e12])|(show aA _ 44 _ _ _;refine CA (h:=QC (c:=ez1) (d:= "abc".toUTF8) hG2 (by decide) ?_);rw[e21,e22])|(show aA _ 21 _ _ _;refine CA (h:=Co (c:=ez2) hG3 (by decide) (fun hsl=>?_)))|(show aA _ 14 _ _ _;refine CA (h:=Ajc (c:=ew0) hG1 (by omega) (by omega) ?_);rw[e4])|(show aA _ 26 _ _ _;refine CA (h:=Lp (c:=ew1) (hG4 hsl) ?_);rw[e51,e52,e53])|(show aA _ 16 _ _ _;refine CA (h:=wW (c:=mG 1 9 ew1) (hG5 hsl) ?_);unfold wF;rw[e6]))
 all_goals(refine aC ?_;exact aB (hK))
end
end Go.Proofs.YtifgibijcmppmaaGreat
namespace Go.Proofs.YtifgibijcmppmaaGreat
open Go Go.Proofs Go.Sl
set_option maxRecDepth 100000
set_option maxHeartbeats 40000000
attribute [local irreducible] aN fB cJ bO aM aY aA dM dQ aW dK pt ro fF star sep bI
section
variable {W:World}
theorem ZD {cs:List Value} {o m j n:Nat} (h:j+n≤m):(((cs.drop o).take m).drop j).take n=(cs.drop (o+j)).take n:=by
 rw[List.drop_take,List.take_take,List.drop_drop]
 congr 1
 omega
theorem Adf {cs:List Value} {v0 v1 v2 v3 v4 v5 v6 v7 v8 v9 SL:Value} (hl:cs.length=11) (h0:(cs.drop 0).take 1= [v0]) (h1:(cs.drop 1).take 1= [v1]) (h2:(cs.drop 2).take 1= [v2]) (h3:(cs.drop 3).take 1= [v3]) (h4:(cs.drop 4).take 1= [v4]) (h5:(cs.drop 5).take 1= [v5]) (h6:(cs.drop 6).take 1= [v6]) (h7:(cs.drop 7).take 1= [v7]) (h8:(cs.drop 8).take 1= [v8]) (h9:(cs.drop 9).take 1= [v9]) (h10:(cs.drop 10).take 1= [SL]):cs= [v0,v1,v2,v3,v4,v5,v6,v7,v8,v9,SL]:=by
 match cs,hl with
 | [a0,a1,a2,a3,a4,a5,a6,a7,a8,a9,a10],_=>simp_all
theorem Aef {n:Nat} {cs:List Value} (hg:Go.Sl.Good Tryz.prog W n 69 cs):∃a:A6,cs= [.int .i64 a.sd,.int .i64 a.kd,.int .i64 a.id,.int .i64 a.n,.string a.s,.int .i64 a.on,.int .i64 a.ww,.bool a.xx,.int .i64 a.xw,.int .i64 a.xs,.int .i64 a.xi]:=by
 have hz:Tryz.prog.cellsOf 69=11:=by kernel_rfl
 have hz2:Tryz.prog.cellsOf 23=3:=by kernel_rfl
 have hz3:Tryz.prog.cellsOf 42=3:=by kernel_rfl
 obtain⟨m2,k3,k4⟩:=jN Tryz.underlying69 hg
 obtain⟨sd,r0,_⟩:=dE Tryz.underlying3 (k4 0 _ rfl)
 obtain⟨kd,r1,_⟩:=dE Tryz.underlying3 (k4 1 _ rfl)
 obtain⟨id,r2,_⟩:=dE Tryz.underlying3 (k4 2 _ rfl)
 obtain⟨n,r3,_⟩:=dE Tryz.underlying3 (k4 3 _ rfl)
 obtain⟨s,r4,_⟩:=Ao Tryz.underlying9 (k4 4 _ rfl)
 obtain⟨m5,j5,j6⟩:=jN Tryz.underlying42 (k4 5 _ rfl)
 obtain⟨on,q0,_⟩:=dE Tryz.underlying3 (j6 0 _ rfl)
 obtain⟨ww,q1,_⟩:=dE Tryz.underlying3 (j6 1 _ rfl)
 obtain⟨xx,q2⟩:=Bm Tryz.underlying4 (j6 2 _ rfl)
 obtain⟨m3,j3,j4⟩:=jN Tryz.underlying23 (k4 6 _ rfl)
 obtain⟨xw,p0,_⟩:=dE Tryz.underlying3 (j4 0 _ rfl)
 obtain⟨xs,p1,_⟩:=dE Tryz.underlying3 (j4 1 _ rfl)
 obtain⟨xi,p2,_⟩:=dE Tryz.underlying3 (j4 2 _ rfl)
 have go:∀(j:Nat) (v:Value),j+1≤3→List.take 1 (List.drop j (List.take (Tryz.prog.cellsOf 42) (List.drop 5 cs)))= [v]→(cs.drop (5+j)).take 1= [v]:=fun j v hj h=>by
  rw[hz3,ZD hj] at h;exact h
 have go2:∀(j:Nat) (v:Value),j+1≤3→List.take 1 (List.drop j (List.take (Tryz.prog.cellsOf 23) (List.drop 8 cs)))= [v]→(cs.drop (8+j)).take 1= [v]:=fun j v hj h=>by
  rw[hz2,ZD hj] at h;exact h
 exact⟨⟨sd,kd,id,n,s,on,ww,xx,xw,xs,xi⟩,Adf (k3.trans hz) r0 r1 r2 r3 r4 (go 0 _ (by omega) q0) (go 1 _ (by omega) q1) (go 2 _ (by omega) q2) (go2 0 _ (by omega) p0) (go2 1 _ (by omega) p1) (go2 2 _ (by omega) p2)⟩
structure Pu where
 raw:Bool
 a:A6
 s:ByteArray
 fa:Option Addr
 fn:Nat
 fc:Nat
 fs:List Fm
def puD:List Value→Option Pu
 | [.bool raw,.int .i64 sd,.int .i64 kd,.int .i64 id,.int .i64 n,.string z,.int .i64 on,.int .i64 ww,.bool xx,.int .i64 xw,.int .i64 xs,.int .i64 xi,.string s,.slice fa fn fc]=>some ⟨raw,⟨sd,kd,id,n,z,on,ww,xx,xw,xs,xi⟩,s,fa,fn,fc,[]⟩
 |_=>none
theorem Aiy (cs:List Value) (y:Pu) (h:puD cs=some y): [.bool y.raw,.int .i64 y.a.sd,.int .i64 y.a.kd,.int .i64 y.a.id,.int .i64 y.a.n,.string y.a.s,.int .i64 y.a.on,.int .i64 y.a.ww,.bool y.a.xx,.int .i64 y.a.xw,.int .i64 y.a.xs,.int .i64 y.a.xi,.string y.s,.slice y.fa y.fn y.fc]=cs:=by
 unfold puD at h
 split at h
 ·cases h;rfl
 ·cases h
def puC:t6 Pu:= { enc:=fun y=> [.bool y.raw,.int .i64 y.a.sd,.int .i64 y.a.kd,.int .i64 y.a.id,.int .i64 y.a.n,.string y.a.s,.int .i64 y.a.on,.int .i64 y.a.ww,.bool y.a.xx,.int .i64 y.a.xw,.int .i64 y.a.xs,.int .i64 y.a.xi,.string y.s,.slice y.fa y.fn y.fc],sz:=14,dec:=puD,len:=fun _=>rfl,one:=fun _=>rfl,ok:=Aiy }
def puP (q:Pu):HP:=Ag7 (nY q.fa sR q.fs) (jY xS q.fs)
theorem GZ (q:Pu):Ed (puP q):=PX (mL _ _ _) (Al w3 rO _) (EF _ _ _) (Ee rO _)
theorem HL (q:Pu):uU (puP q):=Zd (EF _ _ _) (Ee rO _)
variable {C:List HP} {l:List Pu} {q:Pu} {y:Fm}
theorem Afv (hq:q∈l):cZ (jY puP l::C) q.fa sR q.fs:=C9 (aG.trans (aG.allget (P:=puP) GZ HL hq) (aG.imp (fun _ h=>h.1) (aG.refl _))) iH
theorem Ab3 (hq:q∈l) (hy:y∈q.fs):cZ (jY puP l::C) y.pa nV y.ps:=C9 (aG.trans (aG.allget (P:=puP) GZ HL hq) (aG.imp (fun _ h=>h.2) (aG.refl _))) (uY hy)
def PuW (W:World) (q:Pu):Prop:=puP q (vC W)∧q.fs.length=q.fn∧∀y∈q.fs,y.ps.length=y.pn∧y.pn<1000000000000000
theorem ZL {n:Nat} {cs:List Value} (hg:Go.Sl.Good Tryz.prog W n 71 cs):∃q:Pu,cs=puC.enc q∧PuW W q:=by
 have hz:Tryz.prog.cellsOf 71=14:=by kernel_rfl
 have hz1:Tryz.prog.cellsOf 69=11:=by kernel_rfl
 have hz2:Tryz.prog.cellsOf 45=12:=by kernel_rfl
 obtain⟨m2,k3,k4⟩:=jN Tryz.underlying71 hg
 obtain⟨raw,r0⟩:=Bm Tryz.underlying4 (k4 0 _ rfl)
 obtain⟨a,r1⟩:=Aef (k4 1 _ rfl)
 obtain⟨s,r2,_⟩:=Ao Tryz.underlying9 (k4 2 _ rfl)
 have hl:cs.length=14:=k3.trans hz
 have fin:∀(fa:Option Addr) (fn fc:Nat),(cs.drop 13).take 1= [.slice fa fn fc]→cs= [.bool (⟨raw,a,s,fa,fn,fc,[]⟩:Pu).raw,.int .i64 (⟨raw,a,s,fa,fn,fc,[]⟩:Pu).a.sd,.int .i64 (⟨raw,a,s,fa,fn,fc,[]⟩:Pu).a.kd,.int .i64 (⟨raw,a,s,fa,fn,fc,[]⟩:Pu).a.id,.int .i64 (⟨raw,a,s,fa,fn,fc,[]⟩:Pu).a.n,.string (⟨raw,a,s,fa,fn,fc,[]⟩:Pu).a.s,.int .i64 (⟨raw,a,s,fa,fn,fc,[]⟩:Pu).a.on,.int .i64 (⟨raw,a,s,fa,fn,fc,[]⟩:Pu).a.ww,.bool (⟨raw,a,s,fa,fn,fc,[]⟩:Pu).a.xx,.int .i64 (⟨raw,a,s,fa,fn,fc,[]⟩:Pu).a.xw,.int .i64 (⟨raw,a,s,fa,fn,fc,[]⟩:Pu).a.xs,.int .i64 (⟨raw,a,s,fa,fn,fc,[]⟩:Pu).a.xi,.string (⟨raw,a,s,fa,fn,fc,[]⟩:Pu).s,.slice (⟨raw,a,s,fa,fn,fc,[]⟩:Pu).fa (⟨raw,a,s,fa,fn,fc,[]⟩:Pu).fn (⟨raw,a,s,fa,fn,fc,[]⟩:Pu).fc]:=fun fa fn fc h3=>by
  have e0:cs=(cs.drop 0).take 1++cs.drop 1:=(List.take_append_drop 1 cs).symm
  have e1:cs.drop 1=(cs.drop 1).take 11++cs.drop 12:=by
   have:=(List.take_append_drop 11 (cs.drop 1)).symm
   rw[List.drop_drop] at this;exact this
  have e2:cs.drop 12=(cs.drop 12).take 1++cs.drop 13:=by
   have:=(List.take_append_drop 1 (cs.drop 12)).symm
   rw[List.drop_drop] at this;exact this
  have e3:cs.drop 13=(cs.drop 13).take 1:=(List.take_of_length_le (by rw[List.length_drop];omega)).symm
  have r1:(cs.drop 1).take 11= [.int .i64 a.sd,.int .i64 a.kd,.int .i64 a.id,.int .i64 a.n,.string a.s,.int .i64 a.on,.int .i64 a.ww,.bool a.xx,.int .i64 a.xw,.int .i64 a.xs,.int .i64 a.xi]:=by rw[← hz1];exact r1
  have r0:(cs.drop 0).take 1= [.bool raw]:=r0
  have r2:(cs.drop 12).take 1= [.string s]:=r2
  rw[h3] at e3
  rw[r2,e3] at e2
  rw[r1,e2] at e1
  rw[r0,e1] at e0
  exact e0
 rcases HK Tryz.underlying24 (k4 3 _ rfl) with h2|⟨ad,len,cap,m,h2,hl,hc,hi⟩
 ·exact⟨⟨raw,a,s,none,0,0,[]⟩,fin none 0 0 h2,⟨.inl rfl,fun y hy=>by cases hy⟩,rfl,fun y hy=>by cases hy⟩
 ·rw[hz2] at hi
  obtain⟨xs,h1,h3,h5⟩:=Mq (E:=sR) (φ:=FmW W) (by decide) (fun i hil=>by
   obtain⟨cs',q1,q2⟩:=hi i hil
   obtain⟨y,e1,e2⟩:=SP q2
   exact⟨y,by rw[show sR.sz=12 from rfl,q1,e1],e2⟩)
  exact⟨⟨raw,a,s,some ad,len,cap,xs⟩,fin (some ad) len cap h2,⟨h3,fun y hy=>(h5 y hy).1⟩,h1,fun y hy=>⟨(h5 y hy).2.1,(h5 y hy).2.2.1⟩⟩
end
end Go.Proofs.YtifgibijcmppmaaGreat
namespace Go.Proofs.YtifgibijcmppmaaGreat
open Go Go.Proofs Go.Sl
set_option maxRecDepth 100000
set_option maxHeartbeats 40000000
attribute [local irreducible] aN fB cJ bO aM aY aA dM dQ aW dK pt ro fF star sep bI
attribute [local irreducible] mp El
section
variable {R C:List HP} {K:Value→List HP→Prop} {x p x0 x1:Nat} {ad:Ca} {c:Cn} {P N:Int} {cf:Cf} {a:A6} {u o:ByteArray} {kind sg on w id n:Int} {xx:Bool} {A1:Option Addr} {c1:Nat} {ls:List Pu} {w0 st0 it0 sb0 si0 sg0 ev0 wa0 stl0:Int}
theorem Dk (h:c.dr.ov=true):iV kind sg on w xx c=14∧l5 kind sg on w xx c=aD c:=by
 have e:iV kind sg on w xx c=14:=by unfold iV;rw[if_pos h]
 refine⟨e,?_⟩
 unfold l5
 rw[if_pos (by rw[e];decide)]
theorem TL (h:c.dr.ov=true):cH c id=14:=by unfold cH;rw[if_pos h]
theorem Gg (h:c.dr.ov=true):(kB id n c).2.2=14∧mG id n c=aD c:=by
 have e:=TL (id:=id) h
 unfold kB mG
 rw[e,if_pos (by decide),if_pos (by decide)]
 exact⟨rfl,rfl⟩
theorem F8 (h:c.dr.ov=true):(k7 id c).2.2.2=14∧pR id c=aD c:=by
 have e:=TL (id:=id) h
 unfold k7 pR
 rw[e,if_pos (by decide),if_pos (by decide)]
 exact⟨rfl,rfl⟩
theorem Gz (h:c.dr.ov=true):bP c=(c.last.data.toList,{ aD c with last:=⟨#[]⟩ }):=by unfold bP;rw[if_pos h]
theorem Gs {u:List UInt8} (h:c.dr.ov=true):vK c=14∧eB u c=aD c:=by
 unfold vK eB
 rw[if_pos h,if_pos h]
 exact⟨rfl,rfl⟩
theorem TH (h:u6 cf P c) (ho:c.dr.ov=true) (hP:P≤200000000):u6 cf (P+2000) (aD c):=by
 have:=Kr (a:=⟨1,0,0,1,0,⟨#[]⟩,0,1,false,0,0,0⟩) (l:=⟨[],0,0⟩) h hP (by decide) (by decide)
 simp only[tQ,LG,Int.reduceEq,if_true,if_false] at this
 rwa[(Dk ho).2] at this
theorem YU (h:u6 cf P c) (hP:P≤200000000):u6 cf (P+2000) (bP c).2:=by
 have:=Kr (a:=⟨11,0,0,1,0,⟨#[]⟩,0,1,false,0,0,0⟩) (l:=⟨[],0,0⟩) h hP (by decide) (by decide)
 simp only[tQ,Int.reduceEq,if_true,if_false] at this
 exact this
theorem Aem (h:u6 cf P c) (ho:c.dr.ov=true):c.l= []:=by
 obtain⟨B,hG,_⟩:=h
 exact hG.K.cl ho
theorem O5 {u o:ByteArray} (hk:¬(14≤a.kd∧a.kd≤16)) (hP:u6 cf P c) (hB:P≤200000000) (hd:a.s.size≤599) (h0:(u.size:Int)≤N) (h1:(o.size:Int)≤N) (hN:N≤1000000000) (hK:∀u' o':ByteArray,(u'.size:Int)≤N+40000→(o'.size:Int)≤N+40000→K (.tuple #[]) (pt p [.pointer (some ⟨x,0,none⟩),.pointer (some ⟨x,0,none⟩),.string u',.string o'] 67::lO x ad (kC a c)::R)):aA Tryz.prog 23 #[.pointer (some ⟨p,0,none⟩),.agg #[.int .i64 a.sd,.int .i64 a.kd,.int .i64 a.id,.int .i64 a.n,.string a.s,.int .i64 a.on,.int .i64 a.ww,.bool a.xx,.int .i64 a.xw,.int .i64 a.xs,.int .i64 a.xi]] (pt p [.pointer (some ⟨x,0,none⟩),.pointer (some ⟨x,0,none⟩),.string u,.string o] 67::lO x ad c::R) K:=by
 have hs:a.sd % 18446744073709551616 % 2=0∨a.sd % 18446744073709551616 % 2=1:=by omega
 rcases hs with hs|hs
 ·have:=T9 (p:=p) (x0:=x) (x1:=x) (x:=x) (ad:=ad) (R:=R) (K:=K) (u:=u) (o:=o) hs (by simp) hk hP hB hd (by omega) (fun h=>by
   simp only[sdW,Int.reduceEq,if_true,if_false]
   exact hK _ _ (by omega) (by omega))
  simpa only[sdW,Int.reduceEq,if_true,if_false] using this
 ·have:=T9 (p:=p) (x0:=x) (x1:=x) (x:=x) (ad:=ad) (R:=R) (K:=K) (u:=o) (o:=u) hs (by simp) hk hP hB hd (by omega) (fun h=>by
   simp only[sdW,Int.reduceEq,if_true,if_false]
   exact hK _ _ (by omega) (by omega))
  simpa only[sdW,Int.reduceEq,if_true,if_false] using this
theorem N6 (hv:cZ R A1 puC ls) (hvf:∀q∈ls,cZ R q.fa sR q.fs) (hvp:∀q∈ls,∀y∈q.fs,cZ R y.pa nV y.ps) (hz1:ls.length<1000000000000000) (hfn:∀q∈ls,q.fs.length=q.fn) (hpn:∀q∈ls,∀y∈q.fs,y.ps.length=y.pn∧y.pn<1000000000000000) (hK:K (.bool true) R):aA Tryz.prog 4 #[.agg #[.int .i64 w0,.int .i64 st0,.int .i64 it0,.int .i64 sb0,.int .i64 si0,.int .i64 sg0,.int .i64 ev0,.int .i64 wa0,.int .i64 stl0],.slice A1 ls.length c1] R K:=by
 have hf0:MZ (cfL w0 it0 sb0 si0 sg0 ev0 wa0 stl0):=Aje
 have hcf:∀ {R:List HP} {K:Value→List HP→Prop},(∀f0,cfL w0 it0 sb0 si0 sg0 ev0 wa0 stl0=f0→K (.agg #[.int .i64 f0.w,.int .i64 f0.st,.int .i64 f0.it,.int .i64 f0.sb,.int .i64 f0.si,.int .i64 f0.sg,.int .i64 f0.ev,.int .i64 f0.wa,.int .i64 f0.sl]) R)→aA Tryz.prog 22 #[.agg #[.int .i64 w0,.int .i64 st0,.int .i64 it0,.int .i64 sb0,.int .i64 si0,.int .i64 sg0,.int .i64 ev0,.int .i64 wa0,.int .i64 stl0]] R K:=fun h=>R0 (h _ rfl)
 have k1:∀v:Bool,v=true→K (.bool v) R:=fun v hv=>hv▸hK
 generalize cfL w0 it0 sb0 si0 sg0 ev0 wa0 stl0=f0 at hf0 hcf
 refine aH Tryz.func4 ?_
 repeat' (first|refine EL ?_|refine wr ?_|refine w5 ?_ ?_|((refine bh fun h=>?_) <;> try exact w6 h)|(refine aE fun hA=>?_;subst hA)|intro _|(show aA _ 22 _ _ _;refine CA (h:=hcf (fun f9 hf9=>?_));subst hf9)|(show aA _ 9 _ _ _;refine CA (h:=KZ (.inr rfl) hf0 (fun x ad=>?_)))|(show aA _ 8 _ _ _;refine CA (h:=Ql ?_)))
 rename_i r p
 refine iF (fun m a C'=>∃(j:Nat) (P:Int) (c:Cn) (u o:ByteArray),j+m=ls.length∧j≤60∧P≤300000 * j∧u6 f0 P c∧c.dr.ov=false∧(u.size:Int)≤40000 * j∧(o.size:Int)≤40000 * j∧cN a [(1,.slice A1 ls.length c1),(4,.bool false),(5,.pointer (some ⟨x,0,none⟩)),(7,.pointer (some ⟨p,0,none⟩)),(8,.int .i64 j)]∧C'=pt p [.pointer (some ⟨x,0,none⟩),.pointer (some ⟨x,0,none⟩),.string u,.string o] 67::lO x ad c::R) ls.length (b9 ls.length ⟨0,0,nA 1 f0,⟨#[]⟩,⟨#[]⟩,by omega,by omega,by omega,⟨0,Il (.inr rfl) hf0,by show(0:Int)+34 * (0:Nat)≤_;omega⟩,rfl,by decide,by decide,⟨rfl,rfl,rfl,rfl,rfl,trivial⟩,rfl⟩ (by omega)) ?_
 rintro m a C' ⟨j,P,c,u,o,hj,hj60,hPj,hP,hov,hu,ho,ha,rfl⟩
 refine gF _ ha ?_
 simp only[eQ]
 by_cases hlt:j<ls.length
 ·obtain⟨q,hq⟩:∃q,ls[j]?=some q:=⟨_,List.getElem?_eq_getElem hlt⟩
  have hmem:=List.mem_of_getElem? hq
  have hqf:=hvf q hmem
  have hqp:=hvp q hmem
  have hqn:=hfn q hmem
  have hyn:=hpn q hmem
  obtain⟨raw,qa,qs,fa,fn,fc,fs⟩:=q
  dsimp only at hqf hqp hqn hyn
  by_cases h60:j<60
  ·by_cases hsk:1500<qs.size∨20<fs.length∨300<qa.s.size
   ·repeat' (first|refine EL ?_|refine wr ?_|refine w5 ?_ ?_|((refine bh fun h=>?_) <;> try exact w6 h)|(refine aE fun hA=>?_;subst hA)|intro _)
    all_goals(show aW _ _ _ _;exact b9 (m - 1) ⟨j+1,P,c,u,o,by omega,by omega,by omega,hP,hov,by omega,by omega,⟨rfl,rfl,rfl,rfl,rfl,trivial⟩,rfl⟩)
   ·have hs1:qs.size≤1500:=by omega
    have hs2:fs.length≤20:=by omega
    have hs3:qa.s.size≤300:=by omega
    cases hraw:raw
    ·by_cases hk:14≤qa.kd∧qa.kd≤16
     ·repeat' (first|(show aN _ _ _ _ _ _ _;refine fN ?_)|refine EL ?_|refine wr ?_|refine w5 ?_ ?_|((refine bh fun h=>?_) <;> try exact w6 h)|(refine aE fun hA=>?_;subst hA)|intro _|(show aA _ 24 _ _ _;refine CA (h:=ID hP ?_))|(show aA _ 16 _ _ _;refine CA (h:=wW hP ?_);unfold wF;rw[hov]))
      all_goals(show aW _ _ _ _;exact b9 (m - 1) ⟨j+1,P,c,u,o,by omega,by omega,by omega,hP,hov,by omega,by omega,⟨rfl,rfl,rfl,rfl,rfl,trivial⟩,rfl⟩)
     ·have hP2:=Al2 (a:=qa) hP (by omega) (by omega)
      by_cases hcl:(kC qa c).dr.ov=true
      ·have hb1:=TH hP2 hcl (by omega)
       have hb2:=YU hb1 (by omega)
       have hl0:=Aem hP2 hcl
       have hcl1:(aD (kC qa c)).dr.ov=true:=hcl
       have hs5:=congrArg Prod.snd (Gz hcl1)
       have hcl2:(bP (aD (kC qa c))).2.dr.ov=true:=by rw[hs5];exact hcl
       have hst2:bP (bP (aD (kC qa c))).2=([],(bP (aD (kC qa c))).2):=by rw[Gz hcl2,hs5];rfl
       have hbg2:aD (bP (aD (kC qa c))).2=(bP (aD (kC qa c))).2:=by rw[hs5];rfl
       have hl2:(bP (aD (kC qa c))).2.l= []:=Aem hb2 hcl2
       have hm2:(bP (aD (kC qa c))).2.mv= []:=by rw[hs5];rfl
       repeat' (first|(show aN _ _ _ _ _ _ _;refine fN ?_)|refine EL ?_|refine wr ?_|refine w5 ?_ ?_|((refine bh fun h=>?_) <;> try exact w6 h)|(refine aE fun hA=>?_;subst hA)|intro _|(show aA _ 23 _ _ _;refine CA (h:=O5 (a:=qa) (N:=40000 * j) hk hP (by omega) (by omega) hu ho (by omega) (fun u' o' hu2 ho2=>?_)))|(show aA _ 24 _ _ _;refine CA (h:=ID hP2 ?_))|(show aA _ 16 _ _ _;refine CA (h:=wW hP2 ?_);unfold wF;rw[hcl])|(show aA _ 25 _ _ _;refine CA (h:=Nf hP2 ?_);rw[(Dk hcl).1,(Dk hcl).2])|(show aA _ 26 _ _ _;refine CA (h:=Lp hb1 ?_);rw[(Gg hcl1).1,(Gg hcl1).2,show aD (aD (kC qa c))=aD (kC qa c) from rfl])|(show aA _ 27 _ _ _;refine CA (h:=SQ hb1 ?_);rw[(F8 hcl1).1,(F8 hcl1).2,show aD (aD (kC qa c))=aD (kC qa c) from rfl])|(show aA _ 21 _ _ _;first|refine CA (h:=Co hb1 (by omega) (fun _=>?_))|(refine CA (h:=Co hb2 (by omega) (fun _=>?_));rw[hst2]))|(show aA _ 14 _ _ _;refine CA (h:=HT (d:=⟨#[97]⟩) hb2 (by decide) (by show _+35 * (1:Int)≤_;omega) ?_);rw[(Gs (u:= []) hcl2).1,(Gs hcl2).2,hbg2])|(show aA _ 18 _ _ _;refine CA (h:=F9 hb2 (fun _ _=>?_));rw[hl2])|(show aA _ 28 _ _ _;refine CA (h:=Tn (c:=(bP (aD (kC qa c))).2) (by rw[hm2];decide) (fun _ _=>?_));rw[hm2]))
       all_goals(refine aC ?_;exact aB (k1 _ (by first|rfl|decide)))
      ·have hcf2:(kC qa c).dr.ov=false:=by simpa using hcl
       repeat' (first|(show aN _ _ _ _ _ _ _;refine fN ?_)|refine EL ?_|refine wr ?_|refine w5 ?_ ?_|((refine bh fun h=>?_) <;> try exact w6 h)|(refine aE fun hA=>?_;subst hA)|intro _|(show aA _ 23 _ _ _;refine CA (h:=O5 (a:=qa) (N:=40000 * j) hk hP (by omega) (by omega) hu ho (by omega) (fun u' o' hu2 ho2=>?_)))|(show aA _ 24 _ _ _;refine CA (h:=ID hP2 ?_))|(show aA _ 16 _ _ _;refine CA (h:=wW hP2 ?_);unfold wF;rw[hcf2]))
       all_goals(show aW _ _ _ _;exact b9 (m - 1) ⟨j+1,_,kC qa c,u',o',by omega,by omega,by omega,hP2,hcf2,by omega,by omega,⟨rfl,rfl,rfl,rfl,rfl,trivial⟩,rfl⟩)
    ·repeat' (first|refine EL ?_|refine wr ?_|refine w5 ?_ ?_|((refine bh fun h=>?_) <;> try exact w6 h)|(refine aE fun hA=>?_;subst hA)|intro _)
     refine iF (fun m2 a C'=>∃(i:Nat) (z:ByteArray),i+m2=fs.length∧z.size≤1500+265 * i∧cN a [(1,.slice _ ls.length c1),(4,.bool false),(5,.pointer (some ⟨x,0,none⟩)),(7,.pointer (some ⟨p,0,none⟩)),(8,.int .i64 j),(9,.string z),(10,.int .i64 i)]∧C'=pt p [.pointer (some ⟨x,0,none⟩),.pointer (some ⟨x,0,none⟩),.string u,.string o] 67::lO x ad c::R) fs.length (b9 fs.length ⟨0,qs,by omega,by omega,⟨rfl,rfl,rfl,rfl,rfl,rfl,rfl,trivial⟩,rfl⟩ (by omega)) ?_
     rintro m2 a C' ⟨i,z,hi,hz,ha,rfl⟩
     refine gF _ ha ?_
     simp only[eQ]
     by_cases hlt2:i<fs.length
     ·obtain⟨y,hy⟩:∃y,fs[i]?=some y:=⟨_,List.getElem?_eq_getElem hlt2⟩
      have hymem:=List.mem_of_getElem? hy
      have hyv:=hqp y hymem
      obtain⟨hy1,hy2⟩:=hyn y hymem
      cases hR:mQ y
      ·repeat' (first|refine EL ?_|refine wr ?_|refine w5 ?_ ?_|((refine bh fun h=>?_) <;> try exact w6 h)|(refine aE fun hA=>?_;subst hA)|intro _|(show aA _ 12 _ _ _;refine CA (h:=HY (ps:=y.ps) (bB (bB hyv)) hy1 hy2 ?_);rw[show o7 y.t y.st y.e y.d y.k y.on y.w y.x y.c y.la y.n y.ps=false from hR]))
       all_goals(show aW _ _ _ _;exact b9 (m2 - 1) ⟨i+1,z,by omega,by omega,⟨rfl,rfl,rfl,rfl,rfl,rfl,rfl,trivial⟩,rfl⟩)
      ·have hRF:=(sO y).1 hR
       have hfl:=Z3 hRF
       have hfe:frB y.t y.st y.e y.d y.k y.on y.w y.x y.c y.la y.n y.ps=Pf y:=rfl
       repeat' (first|refine EL ?_|refine wr ?_|refine w5 ?_ ?_|((refine bh fun h=>?_) <;> try exact w6 h)|(refine aE fun hA=>?_;subst hA)|intro _|(show aA _ 12 _ _ _;refine CA (h:=HY (ps:=y.ps) (bB (bB hyv)) hy1 hy2 ?_);rw[show o7 y.t y.st y.e y.d y.k y.on y.w y.x y.c y.la y.n y.ps=true from hR])|(show aA _ 15 _ _ _;refine CA (h:=Aa7 (ps:=y.ps) hRF (bB (bB hyv)) hy1 ?_);rw[hfe]))
       all_goals(show aW _ _ _ _;exact b9 (m2 - 1) ⟨i+1,z++Pf y,by omega,by rw[ByteArray.size_append];omega,⟨rfl,rfl,rfl,rfl,rfl,rfl,rfl,trivial⟩,rfl⟩)
     ·have ez:z.data.toList.length=z.size:=Array.length_toList
      have hP2:u6 f0 (P+250000) (eB z.data.toList c):=(Aaw hP (by omega)).mono (by omega)
      by_cases hcl:(eB z.data.toList c).dr.ov=true
      ·have hb1:=TH hP2 hcl (by omega)
       have hb2:=YU hb1 (by omega)
       have hl0:=Aem hP2 hcl
       have hcl1:(aD (eB z.data.toList c)).dr.ov=true:=hcl
       have hs5:=congrArg Prod.snd (Gz hcl1)
       have hcl2:(bP (aD (eB z.data.toList c))).2.dr.ov=true:=by rw[hs5];exact hcl
       have hst2:bP (bP (aD (eB z.data.toList c))).2=([],(bP (aD (eB z.data.toList c))).2):=by rw[Gz hcl2,hs5];rfl
       have hbg2:aD (bP (aD (eB z.data.toList c))).2=(bP (aD (eB z.data.toList c))).2:=by rw[hs5];rfl
       have hl2:(bP (aD (eB z.data.toList c))).2.l= []:=Aem hb2 hcl2
       have hm2:(bP (aD (eB z.data.toList c))).2.mv= []:=by rw[hs5];rfl
       repeat' (first|(show aN _ _ _ _ _ _ _;refine fN ?_)|refine EL ?_|refine wr ?_|refine w5 ?_ ?_|((refine bh fun h=>?_) <;> try exact w6 h)|(refine aE fun hA=>?_;subst hA)|intro _|(show aA _ 14 _ _ _;refine CA (h:=HT hP (by omega) (by omega) ?_))|(show aA _ 24 _ _ _;refine CA (h:=ID hP2 ?_))|(show aA _ 16 _ _ _;refine CA (h:=wW hP2 ?_);unfold wF;rw[hcl])|(show aA _ 25 _ _ _;refine CA (h:=Nf hP2 ?_);rw[(Dk hcl).1,(Dk hcl).2])|(show aA _ 26 _ _ _;refine CA (h:=Lp hb1 ?_);rw[(Gg hcl1).1,(Gg hcl1).2,show aD (aD (eB z.data.toList c))=aD (eB z.data.toList c) from rfl])|(show aA _ 27 _ _ _;refine CA (h:=SQ hb1 ?_);rw[(F8 hcl1).1,(F8 hcl1).2,show aD (aD (eB z.data.toList c))=aD (eB z.data.toList c) from rfl])|(show aA _ 21 _ _ _;first|refine CA (h:=Co hb1 (by omega) (fun _=>?_))|(refine CA (h:=Co hb2 (by omega) (fun _=>?_));rw[hst2]))|(show aA _ 14 _ _ _;refine CA (h:=HT (d:=⟨#[97]⟩) hb2 (by decide) (by show _+35 * (1:Int)≤_;omega) ?_);rw[(Gs (u:= []) hcl2).1,(Gs hcl2).2,hbg2])|(show aA _ 18 _ _ _;refine CA (h:=F9 hb2 (fun _ _=>?_));rw[hl2])|(show aA _ 28 _ _ _;refine CA (h:=Tn (c:=(bP (aD (eB z.data.toList c))).2) (by rw[hm2];decide) (fun _ _=>?_));rw[hm2]))
       all_goals(refine aC ?_;exact aB (k1 _ (by first|rfl|decide)))
      ·have hcf2:(eB z.data.toList c).dr.ov=false:=by simpa using hcl
       repeat' (first|(show aN _ _ _ _ _ _ _;refine fN ?_)|refine EL ?_|refine wr ?_|refine w5 ?_ ?_|((refine bh fun h=>?_) <;> try exact w6 h)|(refine aE fun hA=>?_;subst hA)|intro _|(show aA _ 14 _ _ _;refine CA (h:=HT hP (by omega) (by omega) ?_))|(show aA _ 24 _ _ _;refine CA (h:=ID hP2 ?_))|(show aA _ 16 _ _ _;refine CA (h:=wW hP2 ?_);unfold wF;rw[hcf2]))
       all_goals(show aW _ _ _ _;exact b9 (m - 1) ⟨j+1,_,eB z.data.toList c,u,o,by omega,by omega,by omega,hP2,hcf2,by omega,by omega,⟨rfl,rfl,rfl,rfl,rfl,trivial⟩,rfl⟩)
  ·repeat' (first|refine EL ?_|refine wr ?_|refine w5 ?_ ?_|((refine bh fun h=>?_) <;> try exact w6 h)|(refine aE fun hA=>?_;subst hA)|intro _)
   all_goals(refine aC ?_;exact aB (k1 _ rfl))
 ·repeat' (first|refine EL ?_|refine wr ?_|refine w5 ?_ ?_|((refine bh fun h=>?_) <;> try exact w6 h)|(refine aE fun hA=>?_;subst hA)|intro _)
  all_goals(refine aC ?_;exact aB (k1 _ rfl))
end
end Go.Proofs.YtifgibijcmppmaaGreat
