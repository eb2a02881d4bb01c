/- A part of the proof: lemmas; each with the conditions that it states. -/
import Derived.Test.YtifgibijcmppmaaGreatMar
import Derived.Test.YtifgibijcmppmaaGreatMaq
set_option linter.unusedVariables false
set_option linter.unusedSimpArgs false
namespace Go.Proofs.YtifgibijcmppmaaGreat
open Go Go.Proofs Go.Sl
set_option maxRecDepth 100000
set_option maxHeartbeats 40000000
attribute [local irreducible] aM fG cV bP aN aW aA dP dX aV dO pt ro eW star sep bH
attribute [local irreducible] mp Ec
section
variable {R C:List HP} {K:Value→List HP→Prop}
structure Nd where
 on:Int
 w:Int
def qI:Nd→Value:=fun n=>.agg #[.int .i64 n.on,.int .i64 n.w]
def Aic:List Value→Option Int
 | [.int .i64 y]=>some y
 |_=>none
theorem Agu (cs:List Value) (y:Int) (h:Aic cs=some y): [.int .i64 y]=cs:=by
 unfold Aic at h
 split at h
 ·cases h;rfl
 ·cases h
def nI:tG Int:= { enc:=fun n=> [.int .i64 n],sz:=1,dec:=Aic,len:=fun _=>rfl,one:=fun _=>rfl,ok:=Agu }
def dR (id:Int) (l:List (KE Nd)):Bool:=(f6 id l).isSome
def yP (on w:Int):Bool:=decide (0≤on) && decide (on≤2147483647) && decide (1≤w) && decide (w≤256)
def bZ (id:Int) (l:List (KE Nd)):List Int:=Mi ((l.filter fun e=>decide (e.v.on=id)).map KE.k)
theorem ZK {id:Int} {l:List (KE Nd)}:GM true (.agg #[.int .i64 0,.int .i64 0]) (iT id (kM qI l) 0)=.tuple #[qI ((f6 id l).getD ⟨0,0⟩),.bool (dR id l)]:=by
 rw[Tn]
 unfold dR
 cases f6 id l <;> rfl
theorem oW {id:Int} {l:List (KE Nd)}:GM false (.agg #[.int .i64 0,.int .i64 0]) (iT id (kM qI l) 0)=qI ((f6 id l).getD ⟨0,0⟩):=by
 rw[Tn]
 cases f6 id l <;> rfl
theorem NZ {A:Option Addr} {c n:Nat} {xs:List Int} (hn:xs.length=n) (hs:n<1000000000000000) (hK:K (.tuple #[]) (bU A c 3 nI (Mi xs)::R)):aA Tryz.prog 356 #[.slice A n c] (bU A c 3 nI xs::R) K:=
 aA.ofSort Tryz.func356 rfl (by decide +kernel) (fun _=>rfl) (Any.slices_Sort_int Tryz.lays189) (Any.slices_Sort_int_none Tryz.lays189) aT.here hn hs hK
section
variable {p q ck:Nat} {most id on w:Int} {x:Bool} {l:List (KE Nd)}
theorem jM (hK:K (.bool (yP on w)) R):aA Tryz.prog 303 #[.agg #[.int .i64 on,.int .i64 w,.bool x]] R K:=by
 refine aH Tryz.func303 ?_
 repeat' (first|refine v19 ?_|refine wr ?_|refine w5 ?_ ?_|((refine bh fun h=>?_) <;> try exact w6 h)|(refine aE fun hA=>?_;subst hA)|intro _)
 all_goals(refine aC ?_;exact aB (kb hK (by unfold yP;simp <;> omega)))
theorem eY (hK:K (.bool (dR id l)) (pt p [.int .i64 most,.map (some q)] 229::mp q (kM qI l) ck::R)):aA Tryz.prog 304 #[.pointer (some ⟨p,0,none⟩),.int .i64 id] (pt p [.int .i64 most,.map (some q)] 229::mp q (kM qI l) ck::R) K:=by
 refine aH Tryz.func304 ?_
 repeat' (first|refine v30 ?_|refine wr ?_|refine w5 ?_ ?_|((refine bh fun h=>?_) <;> try exact w6 h)|(refine aE fun hA=>?_;subst hA)|intro _|(show aM _ _ _ _ _ _ _;refine iY ?_ (hv:=ZK)))
 all_goals(refine aC ?_;exact aB (hK))
theorem AU (hok:Qp l ck) (hl:l.length≤100000) (hK:∀A c,K (.slice A (bZ id l).length c) (bU A c 3 nI (bZ id l)::pt p [.int .i64 most,.map (some q)] 229::mp q (kM qI l) ck::R)):aA Tryz.prog 355 #[.pointer (some ⟨p,0,none⟩),.int .i64 id] (pt p [.int .i64 most,.map (some q)] 229::mp q (kM qI l) ck::R) K:=by
 obtain⟨hnd,hck⟩:=hok
 refine aH Tryz.func355 ?_
 repeat' (first|(show aM _ _ _ _ _ _ _;refine Aey ?_;intro _)|refine Qo ?_|refine wr ?_|refine w5 ?_ ?_|((refine bh fun h=>?_) <;> try exact w6 h)|(refine aE fun hA=>?_;subst hA)|intro _)
 rename_i it
 refine lW (aG.nilrow 3 nI _) ?_
 refine iL (fun kk a C'=>∃(os:List (KE Nd)) (ks:List Int) (seen:List Nat) (A:Option Addr) (c:Nat),FO l seen≤kk∧seen.Nodup∧(∀e∈os,e∈l)∧ks=(os.filter fun e=>decide (e.v.on=id)).map KE.k∧seen=os.map KE.b∧dC a [(0,.pointer (some ⟨p,0,none⟩)),(1,.int .i64 id),(5,.slice A ks.length c),(15,.pointer (some ⟨it,0,none⟩))]∧C'=bU A c 3 nI ks::Ec it q ck seen ck::pt p [.int .i64 most,.map (some q)] 229::mp q (kM qI l) ck::R) (FO l []) (cC (FO l []) ⟨[],[],[],none,0,Nat.le_refl _,List.nodup_nil,(fun e he=>by cases he),rfl,rfl,⟨rfl,rfl,rfl,rfl,trivial⟩,rfl⟩ (by omega)) ?_
 rintro kk a C' ⟨os,ks,seen,A,c,hk,hno,hos,hks,hse,ha,rfl⟩
 have hle:=Akn (by rw[← hse];exact hno) hos
 have hlk:ks.length≤os.length:=by rw[hks,List.length_map];exact List.length_filter_le _ _
 refine gV _ ha ?_
 simp only[fN]
 repeat' (first|refine Qo ?_|refine wr ?_|refine w5 ?_ ?_|((refine bh fun h=>?_) <;> try exact w6 h)|(refine aE fun hA=>?_;subst hA)|intro _)
 refine Ajl (fun e he hn=>?_) (fun hs=>?_) rfl (by(repeat (first|exact aT.here|apply aT.there)) <;> exact aT.here) ⟨_,by((repeat (first|exact aT.here|apply aT.there)) <;> exact aT.here)⟩ (fun e he=>by obtain⟨z,hz,rfl⟩:=List.mem_map.1 he;exact hck z hz) (by
  cases l with
  |nil=>exact .inr (.inl rfl)
  |cons z l=>exact .inr (.inr ⟨⟨z.k,qI z.v,z.b⟩,List.mem_cons_self ..,hck z (List.mem_cons_self ..)⟩)) (by exact rfl)
 ·obtain⟨e0,he0,rfl⟩:=List.mem_map.1 he
  have hn:e0.b ∉ seen:=hn
  have hfb:=Aeo (enc:=qI) hnd he0
  have hlt:=SU he0 hn
  have hnn:(seen++ [e0.b]).Nodup:=List.nodup_append.2 ⟨hno,by simp,fun b hb b' hb' he=>by
   rw[List.mem_singleton] at hb'
   subst hb' he
   exact hn hb⟩
  have hmm:∀e∈os++ [e0],e∈l:=fun e he=>by
   rcases List.mem_append.1 he with he|he
   ·exact hos e he
   ·rw[List.mem_singleton.1 he];exact he0
  refine EB rfl ?_
  by_cases ho:e0.v.on=id
  ·repeat' (first|(show aM _ _ _ _ _ _ _;first|refine Tc ?_ (he:=hfb)|(refine cU (E:=nI) (xs:=ks) (ys:= [e0.k]) ?_;intro _ _))|refine Qo ?_|refine wr ?_|refine w5 ?_ ?_|((refine bh fun h=>?_) <;> try exact w6 h)|(refine aE fun hA=>?_;subst hA)|intro _)
   all_goals exact cC (FO l (seen++ [e0.b])) ⟨os++ [e0],ks++ [e0.k],seen++ [e0.b],_,_,Nat.le_refl _,hnn,hmm,by rw[hks];simp[ho],by rw[hse];simp,⟨rfl,rfl,rfl,rfl,trivial⟩,rfl⟩ (Nat.lt_of_lt_of_le hlt hk)
  ·repeat' (first|(show aM _ _ _ _ _ _ _;refine Tc ?_ (he:=hfb))|refine Qo ?_|refine wr ?_|refine w5 ?_ ?_|((refine bh fun h=>?_) <;> try exact w6 h)|(refine aE fun hA=>?_;subst hA)|intro _)
   all_goals exact cC (FO l (seen++ [e0.b])) ⟨os++ [e0],ks,seen++ [e0.b],_,_,Nat.le_refl _,hnn,hmm,by rw[hks];simp[ho],by rw[hse];simp,⟨rfl,rfl,rfl,rfl,trivial⟩,rfl⟩ (Nat.lt_of_lt_of_le hlt hk)
 ·refine EB rfl ?_
  have hpm:os.Perm l:=Af2 hnd (by rw[← hse];exact hno) hos fun e he=>by rw[← hse];exact hs ⟨e.k,qI e.v,e.b⟩ (List.mem_map_of_mem (f:=fun e:KE Nd=>(⟨e.k,qI e.v,e.b⟩:kD)) he)
  have hsr:Mi ks=bZ id l:=by
   rw[hks]
   exact W6 ((hpm.filter _).map KE.k)
  have hlen:(bZ id l).length=ks.length:=by rw[← hsr,Ax]
  rw[hlen] at hK
  repeat' (first|refine Qo ?_|refine wr ?_|refine w5 ?_ ?_|((refine bh fun h=>?_) <;> try exact w6 h)|(refine aE fun hA=>?_;subst hA)|intro _|(show aA _ 356 _ _ _;refine CA (h:=NZ (xs:=ks) rfl (by omega) ?_);rw[hsr]))
  all_goals(refine aC ?_;exact aB (hK _ _))
end
end
section
variable {R C:List HP} {K:Value→List HP→Prop}
abbrev eJ:=List (KE Nd)×Nat
def eU (id:Int) (n:Nd) (s:eJ):eJ:=(s8 id n s.2 s.1,kCk id s.2 s.1)
def cZ (id:Int) (s:eJ):Nd:=(f6 id s.1).getD ⟨0,0⟩
def iE (id on:Int) (s:eJ):eJ:=eU id ⟨on,(cZ id s).w⟩ s
def hZ (id:Int):List Int→eJ→eJ
 | [],s=>s
 |k::r,s=>hZ id r (if k=id then s else iE k id s)
def pJ (id on w:Int) (x:Bool) (s:eJ):eJ:=eU id ⟨on,w⟩ (if x=true then hZ id (bZ on s.1) s else s)
def z7 (on:Int) (s:eJ):Bool:=decide (on≠0) && !dR on s.1
theorem Sb {id k:Int} {ks:List Int} {j:Nat} {s:eJ} (h:ks[j]?=some k):hZ id (ks.drop j) s=hZ id (ks.drop (j+1)) (if k=id then s else iE k id s):=by
 have hj:=(List.getElem?_eq_some_iff.1 h).1
 rw[List.drop_eq_getElem_cons hj,(List.getElem?_eq_some_iff.1 h).2]
 rfl
section
variable {p q:Nat} {most id on w:Int} {x:Bool} {s:eJ}
theorem zQ (h:z7 on s=true) (hK:K (.agg #[.int .i64 0,.int .i64 w,.bool false]) (pt p [.int .i64 most,.map (some q)] 229::mp q (kM qI s.1) s.2::R)):aA Tryz.prog 306 #[.pointer (some ⟨p,0,none⟩),.agg #[.int .i64 on,.int .i64 w,.bool x]] (pt p [.int .i64 most,.map (some q)] 229::mp q (kM qI s.1) s.2::R) K:=by
 unfold z7 at h
 rw[Bool.and_eq_true,decide_eq_true_eq,Bool.not_eq_true'] at h
 obtain⟨h1,h2⟩:=h
 refine aH Tryz.func306 ?_
 repeat' (first|refine Gw ?_|refine wr ?_|refine w5 ?_ ?_|((refine bh fun h=>?_) <;> try exact w6 h)|(refine aE fun hA=>?_;subst hA)|intro _|(show aA _ 304 _ _ _;refine CA (h:=eY ?_);rw[h2]))
 all_goals(refine aC ?_;exact aB (hK))
theorem zY (h:z7 on s=false) (hK:K (.agg #[.int .i64 on,.int .i64 w,.bool x]) (pt p [.int .i64 most,.map (some q)] 229::mp q (kM qI s.1) s.2::R)):aA Tryz.prog 306 #[.pointer (some ⟨p,0,none⟩),.agg #[.int .i64 on,.int .i64 w,.bool x]] (pt p [.int .i64 most,.map (some q)] 229::mp q (kM qI s.1) s.2::R) K:=by
 unfold z7 at h
 by_cases h1:on=0
 ·subst h1
  refine aH Tryz.func306 ?_
  repeat' (first|refine Gw ?_|refine wr ?_|refine w5 ?_ ?_|((refine bh fun h=>?_) <;> try exact w6 h)|(refine aE fun hA=>?_;subst hA)|intro _)
  all_goals(refine aC ?_;exact aB (hK))
 ·have h2:dR on s.1=true:=by simpa[h1] using h
  refine aH Tryz.func306 ?_
  repeat' (first|refine Gw ?_|refine wr ?_|refine w5 ?_ ?_|((refine bh fun h=>?_) <;> try exact w6 h)|(refine aE fun hA=>?_;subst hA)|intro _|(show aA _ 304 _ _ _;refine CA (h:=eY ?_);rw[h2]))
  all_goals(refine aC ?_;exact aB (hK))
def Cl:List (Nat×Nat):= [(6,0),(7,0),(8,0),(9,0),(10,0),(11,1),(0,1),(1,1),(2,1),(3,1),(4,1),(5,1),(12,0),(13,0),(14,1)]
theorem ER (hK:K (.tuple #[]) (pt p [.int .i64 most,.map (some q)] 229::mp q (kM qI (iE id on s).1) (iE id on s).2::R)):aA Tryz.prog 343 #[.pointer (some ⟨p,0,none⟩),.int .i64 id,.int .i64 on] (pt p [.int .i64 most,.map (some q)] 229::mp q (kM qI s.1) s.2::R) K:=by
 simp only[iE,eU,cZ] at hK
 refine aH Tryz.func343 ?_
 repeat' (first|refine v25 ?_|refine dw Cl ?_|refine wr ?_|refine w5 ?_ ?_|((refine bh fun h=>?_) <;> try exact w6 h)|(refine aE fun hA=>?_;subst hA)|intro _|(show aM _ _ _ _ _ _ _;first|(refine iY ?_ (hv:=oW);simp only[qI])|refine i0 ?_|refine j2 ?_ (hv:=O1 (enc:=qI) (v:=⟨on,_⟩)) (hu:=by exact rfl)))
 all_goals(refine aC ?_;exact aB (hK))
theorem FR (hK:K (.int .i64 (if dR id s.1=true then(cZ id s).w else 0)) (pt p [.int .i64 most,.map (some q)] 229::mp q (kM qI s.1) s.2::R)):aA Tryz.prog 289 #[.pointer (some ⟨p,0,none⟩),.int .i64 id] (pt p [.int .i64 most,.map (some q)] 229::mp q (kM qI s.1) s.2::R) K:=by
 cases h:dR id s.1
 ·rw[h,if_neg (by decide)] at hK
  refine aH Tryz.func289 ?_
  repeat' (first|refine I1 ?_|refine wr ?_|refine w5 ?_ ?_|((refine bh fun h=>?_) <;> try exact w6 h)|(refine aE fun hA=>?_;subst hA)|intro _|(show aA _ 304 _ _ _;refine CA (h:=eY ?_);rw[h]))
  all_goals(refine aC ?_;exact aB (hK))
 ·rw[h,if_pos rfl] at hK
  simp only[cZ] at hK
  refine aH Tryz.func289 ?_
  repeat' (first|refine I1 ?_|refine wr ?_|refine w5 ?_ ?_|((refine bh fun h=>?_) <;> try exact w6 h)|(refine aE fun hA=>?_;subst hA)|intro _|(show aA _ 304 _ _ _;refine CA (h:=eY ?_);rw[h])|(show aM _ _ _ _ _ _ _;first|(refine iY ?_ (hv:=oW);simp only[qI])|refine i0 ?_))
  all_goals(refine aC ?_;exact aB (hK))
end
end
section
variable {R C:List HP} {K:Value→List HP→Prop}
theorem Ed {id:Int} {n:Nd}:∀ {l:List (KE Nd)} {ck:Nat},Qp l ck→Qp (s8 id n ck l) (kCk id ck l):=fun {l ck} h=>by
 obtain⟨h1,h2⟩:=h
 unfold kCk
 cases hg:(f6 id l).isSome
 ·have hg':f6 id l=none:=by simpa using hg
  rw[CW hg',if_neg (by decide)]
  refine⟨?_,fun e he=>?_⟩
  ·rw[List.map_append]
   refine List.nodup_append.2 ⟨h1,by simp,?_⟩
   intro b hb b' hb' he
   obtain⟨z,hz,rfl⟩:=List.mem_map.1 hb
   have:=h2 z hz
   simp at hb'
   omega
  ·rcases List.mem_append.1 he with he|he
   ·have:=h2 e he;omega
   ·rw[List.mem_singleton.1 he];exact Nat.lt_succ_self _
 ·rw[if_pos rfl]
  have key:∀l:List (KE Nd),(f6 id l).isSome=true→(s8 id n ck l).map KE.b=l.map KE.b:=by
   intro l
   induction l with
   |nil=>intro h;cases h
   |cons e r ih=>
    intro h
    unfold s8
    by_cases hk:id=e.k
    ·rw[if_pos hk];rfl
    ·rw[if_neg hk,List.map_cons,List.map_cons,ih (by unfold f6 at h;rwa[if_neg hk] at h)]
  have hb:=key l hg
  refine⟨by rw[hb];exact h1,fun e he=>?_⟩
  have hm:e.b∈l.map KE.b:=by rw[← hb];exact List.mem_map_of_mem he
  obtain⟨z,hz,hzb⟩:=List.mem_map.1 hm
  rw[← hzb]
  exact h2 z hz
section
variable {p q:Nat} {most id on w:Int} {x:Bool} {s:eJ}
def i5:List (Nat×Nat):= [(0,0),(1,0),(2,0),(3,0),(4,0),(5,0),(6,0),(7,0),(8,0),(9,0),(10,1)]
theorem wR (hok:Qp s.1 s.2) (hl:s.1.length≤100000) (hK:K (.tuple #[]) (pt p [.int .i64 most,.map (some q)] 229::mp q (kM qI (pJ id on w x s).1) (pJ id on w x s).2::R)):aA Tryz.prog 305 #[.pointer (some ⟨p,0,none⟩),.int .i64 id,.agg #[.int .i64 on,.int .i64 w,.bool x]] (pt p [.int .i64 most,.map (some q)] 229::mp q (kM qI s.1) s.2::R) K:=by
 cases x with
 |false=>
  simp only[pJ,eU,Bool.false_eq_true,if_false] at hK
  refine aH Tryz.func305 ?_
  repeat' (first|refine XR ?_|refine dw i5 ?_|refine wr ?_|refine w5 ?_ ?_|((refine bh fun h=>?_) <;> try exact w6 h)|(refine aE fun hA=>?_;subst hA)|intro _|(show aM _ _ _ _ _ _ _;refine j2 ?_ (hv:=O1 (enc:=qI) (v:=⟨on,w⟩)) (hu:=by exact rfl)))
  all_goals(refine aC ?_;exact aB (hK))
 |true=>
  simp only[pJ,if_true] at hK
  generalize hks:bZ on s.1=ks at hK
  have hkl:ks.length≤100000:=by
   rw[← hks]
   unfold bZ
   rw[Ax,List.length_map]
   exact Nat.le_trans (List.length_filter_le _ _) hl
  refine aH Tryz.func305 ?_
  repeat' (first|refine XR ?_|refine dw i5 ?_|refine wr ?_|refine w5 ?_ ?_|((refine bh fun h=>?_) <;> try exact w6 h)|(refine aE fun hA=>?_;subst hA)|intro _|(show aA _ 355 _ _ _;refine CA (h:=AU hok hl (fun A c=>?_));rw[hks]))
  rename_i r5
  refine iL (fun kk a C'=>∃(j:Nat) (s':eJ),j+kk=ks.length∧hZ id (ks.drop j) s'=hZ id ks s∧dC a [(0,.pointer (some ⟨p,0,none⟩)),(1,.int .i64 id),(5,.pointer (some ⟨r5,0,none⟩)),(13,.slice A ks.length c),(14,.int .i64 ks.length),(15,.int .i64 j)]∧C'=bU A c 3 nI ks::pt r5 [.int .i64 on,.int .i64 w,.bool true] 42::pt p [.int .i64 most,.map (some q)] 229::mp q (kM qI s'.1) s'.2::R) ks.length (cC ks.length ⟨0,s,by omega,rfl,⟨rfl,rfl,rfl,rfl,rfl,rfl,trivial⟩,rfl⟩ (by omega)) ?_
  rintro kk a C' ⟨j,s',hj,hs,ha,rfl⟩
  refine gV _ ha ?_
  simp only[fN]
  by_cases hlt:j<ks.length
  ·obtain⟨k,hk⟩:∃k,ks[j]?=some k:=⟨_,List.getElem?_eq_getElem hlt⟩
   rw[Sb hk] at hs
   by_cases he:k=id
   ·subst he
    rw[if_pos rfl] at hs
    repeat' (first|refine XR ?_|refine dw i5 ?_|refine wr ?_|refine w5 ?_ ?_|((refine bh fun h=>?_) <;> try exact w6 h)|(refine aE fun hA=>?_;subst hA)|intro _)
    all_goals(show aV _ _ _ _;exact cC (kk - 1) ⟨j+1,s',by omega,hs,⟨rfl,rfl,rfl,rfl,rfl,rfl,trivial⟩,rfl⟩)
   ·rw[if_neg he] at hs
    repeat' (first|refine XR ?_|refine dw i5 ?_|refine wr ?_|refine w5 ?_ ?_|((refine bh fun h=>?_) <;> try exact w6 h)|(refine aE fun hA=>?_;subst hA)|intro _|(show aA _ 343 _ _ _;refine CA (h:=ER ?_)))
    all_goals(show aV _ _ _ _;exact cC (kk - 1) ⟨j+1,_,by omega,hs,⟨rfl,rfl,rfl,rfl,rfl,rfl,trivial⟩,rfl⟩)
  ·rw[List.drop_eq_nil_of_le (by omega)] at hs
   have hs:s'=hZ id ks s:=hs
   subst hs
   simp only[eU] at hK
   repeat' (first|refine XR ?_|refine dw i5 ?_|refine wr ?_|refine w5 ?_ ?_|((refine bh fun h=>?_) <;> try exact w6 h)|(refine aE fun hA=>?_;subst hA)|intro _|(show aM _ _ _ _ _ _ _;refine j2 ?_ (hv:=O1 (enc:=qI) (v:=⟨on,w⟩)) (hu:=by exact rfl)))
   all_goals(refine aC ?_;exact aB (hK))
def l9 (id on w:Int) (most:Int) (s:eJ):Int:=if id<1∨2147483647<id∨yP on w=false then 2 else if on=id then 12 else if dR id s.1=true then 8 else if most≤(s.1.length:Nat) then 16 else 0
def mH (id on w:Int) (x:Bool) (most:Int) (s:eJ):eJ:=if l9 id on w most s≠0 then s else if z7 on s=true then pJ id 0 w false s else pJ id on w x s
def eA:List (Nat×Nat):= [(0,0),(1,0),(2,0),(3,0),(4,0),(5,0),(6,0),(7,0),(8,0),(9,0),(10,0)]
theorem FD (hok:Qp s.1 s.2) (hl:s.1.length≤100000) (hm:0≤most∧most≤100000) (hK:K (.int .i64 (l9 id on w most s)) (pt p [.int .i64 most,.map (some q)] 229::mp q (kM qI (mH id on w x most s).1) (mH id on w x most s).2::R)):aA Tryz.prog 216 #[.pointer (some ⟨p,0,none⟩),.int .i64 id,.agg #[.int .i64 on,.int .i64 w,.bool x]] (pt p [.int .i64 most,.map (some q)] 229::mp q (kM qI s.1) s.2::R) K:=by
 have hkl:(kM qI s.1).length=s.1.length:=by simp[kM]
 by_cases h1:id<1∨2147483647<id
 ·have e:l9 id on w most s=2:=by unfold l9;rw[if_pos (by omega)]
  have e2:mH id on w x most s=s:=by unfold mH;rw[e];rfl
  rw[e,e2] at hK
  refine aH Tryz.func216 ?_
  repeat' (first|refine v44 ?_|refine dw eA ?_|refine wr ?_|refine w5 ?_ ?_|((refine bh fun h=>?_) <;> try exact w6 h)|(refine aE fun hA=>?_;subst hA)|intro _|(show aA _ 303 _ _ _;refine CA (h:=jM ?_)))
  all_goals(refine aC ?_;exact aB (hK))
 ·cases h2:yP on w
  ·have e:l9 id on w most s=2:=by unfold l9;rw[h2,if_pos (by simp)]
   have e2:mH id on w x most s=s:=by unfold mH;rw[e];rfl
   rw[e,e2] at hK
   refine aH Tryz.func216 ?_
   repeat' (first|refine v44 ?_|refine dw eA ?_|refine wr ?_|refine w5 ?_ ?_|((refine bh fun h=>?_) <;> try exact w6 h)|(refine aE fun hA=>?_;subst hA)|intro _|(show aA _ 303 _ _ _;refine CA (h:=jM ?_);rw[h2]))
   all_goals(refine aC ?_;exact aB (hK))
  ·have e1:¬(id<1∨2147483647<id∨yP on w=false):=by rw[h2];simp;omega
   by_cases h3:on=id
   ·have e:l9 id on w most s=12:=by unfold l9;rw[if_neg e1,if_pos h3]
    have e2:mH id on w x most s=s:=by unfold mH;rw[e];rfl
    rw[e,e2] at hK
    refine aH Tryz.func216 ?_
    repeat' (first|refine v44 ?_|refine dw eA ?_|refine wr ?_|refine w5 ?_ ?_|((refine bh fun h=>?_) <;> try exact w6 h)|(refine aE fun hA=>?_;subst hA)|intro _|(show aA _ 303 _ _ _;refine CA (h:=jM ?_);rw[h2]))
    all_goals(refine aC ?_;exact aB (hK))
   ·cases h4:dR id s.1
    ·by_cases h5:most≤(s.1.length:Nat)
     ·have e:l9 id on w most s=16:=by unfold l9;rw[if_neg e1,if_neg h3,h4,if_neg (by decide),if_pos h5]
      have e2:mH id on w x most s=s:=by unfold mH;rw[e];rfl
      rw[e,e2] at hK
      refine aH Tryz.func216 ?_
      repeat' (first|(show aM _ _ _ _ _ _ _;refine IR ?_)|refine v44 ?_|refine dw eA ?_|refine wr ?_|refine w5 ?_ ?_|((refine bh fun h=>?_) <;> try exact w6 h)|(refine aE fun hA=>?_;subst hA)|intro _|(show aA _ 303 _ _ _;refine CA (h:=jM ?_);rw[h2])|(show aA _ 304 _ _ _;refine CA (h:=eY ?_);rw[h4]))
      all_goals(refine aC ?_;exact aB (hK))
     ·have e:l9 id on w most s=0:=by unfold l9;rw[if_neg e1,if_neg h3,h4,if_neg (by decide),if_neg h5]
      cases h6:z7 on s
      ·have e2:mH id on w x most s=pJ id on w x s:=by unfold mH;rw[e,h6];rfl
       rw[e,e2] at hK
       refine aH Tryz.func216 ?_
       repeat' (first|(show aM _ _ _ _ _ _ _;refine IR ?_)|refine v44 ?_|refine dw eA ?_|refine wr ?_|refine w5 ?_ ?_|((refine bh fun h=>?_) <;> try exact w6 h)|(refine aE fun hA=>?_;subst hA)|intro _|(show aA _ 303 _ _ _;refine CA (h:=jM ?_);rw[h2])|(show aA _ 304 _ _ _;refine CA (h:=eY ?_);rw[h4])|(show aA _ 306 _ _ _;refine CA (h:=zY h6 ?_))|(show aA _ 305 _ _ _;refine CA (h:=wR hok hl ?_)))
       all_goals(refine aC ?_;exact aB (hK))
      ·have e2:mH id on w x most s=pJ id 0 w false s:=by unfold mH;rw[e,h6];rfl
       rw[e,e2] at hK
       refine aH Tryz.func216 ?_
       repeat' (first|(show aM _ _ _ _ _ _ _;refine IR ?_)|refine v44 ?_|refine dw eA ?_|refine wr ?_|refine w5 ?_ ?_|((refine bh fun h=>?_) <;> try exact w6 h)|(refine aE fun hA=>?_;subst hA)|intro _|(show aA _ 303 _ _ _;refine CA (h:=jM ?_);rw[h2])|(show aA _ 304 _ _ _;refine CA (h:=eY ?_);rw[h4])|(show aA _ 306 _ _ _;refine CA (h:=zQ h6 ?_))|(show aA _ 305 _ _ _;refine CA (h:=wR hok hl ?_)))
       all_goals(refine aC ?_;exact aB (hK))
    ·have e:l9 id on w most s=8:=by unfold l9;rw[if_neg e1,if_neg h3,h4,if_pos rfl]
     have e2:mH id on w x most s=s:=by unfold mH;rw[e];rfl
     rw[e,e2] at hK
     refine aH Tryz.func216 ?_
     repeat' (first|refine v44 ?_|refine dw eA ?_|refine wr ?_|refine w5 ?_ ?_|((refine bh fun h=>?_) <;> try exact w6 h)|(refine aE fun hA=>?_;subst hA)|intro _|(show aA _ 303 _ _ _;refine CA (h:=jM ?_);rw[h2])|(show aA _ 304 _ _ _;refine CA (h:=eY ?_);rw[h4]))
     all_goals(refine aC ?_;exact aB (hK))
end
end
section
variable {R C:List HP} {K:Value→List HP→Prop}
def RS (r:Int→Nat) (s:eJ):Prop:=∀id,dR id s.1=true→dR (cZ id s).on s.1=true→r (cZ id s).on<r id
def rK (id:Int) (s:eJ):Nat→Int→Bool
 |0,_=>false
 |n+1,low=>if dR low s.1=true then(if(cZ low s).on=id then true else rK id s n (cZ low s).on) else false
theorem w9 {id:Int} {l:List (KE Nd)} (h:(f6 id l).isSome=true):id∈l.map KE.k:=by
 induction l with
 |nil=>cases h
 |cons e r ih=>
  unfold f6 at h
  by_cases hk:id=e.k
  ·rw[hk];exact List.mem_cons_self ..
  ·rw[if_neg hk] at h
   exact List.mem_cons_of_mem _ (ih h)
section
variable {p q:Nat} {most id low on w:Int} {x:Bool} {s:eJ} {r:Int→Nat}
theorem xR (hr:RS r s) (hK:K (.bool (rK id s (s.1.length+1) low)) (pt p [.int .i64 most,.map (some q)] 229::mp q (kM qI s.1) s.2::R)):aA Tryz.prog 342 #[.pointer (some ⟨p,0,none⟩),.int .i64 id,.int .i64 low] (pt p [.int .i64 most,.map (some q)] 229::mp q (kM qI s.1) s.2::R) K:=by
 refine aH Tryz.func342 ?_
 repeat' (first|refine v10 ?_|refine wr ?_|refine w5 ?_ ?_|((refine bh fun h=>?_) <;> try exact w6 h)|(refine aE fun hA=>?_;subst hA)|intro _)
 refine iL (fun kk a C'=>∃(seen:List Int) (lw:Int),seen.length+kk=s.1.length∧seen.Nodup∧(∀z∈seen,z∈s.1.map KE.k∧(dR lw s.1=true→r lw<r z))∧rK id s (kk+1) lw=rK id s (s.1.length+1) low∧dC a [(0,.pointer (some ⟨p,0,none⟩)),(1,.int .i64 id),(2,.int .i64 lw)]∧C'=pt p [.int .i64 most,.map (some q)] 229::mp q (kM qI s.1) s.2::R) s.1.length (cC s.1.length ⟨[],low,by simp,List.nodup_nil,(fun z hz=>by cases hz),rfl,⟨rfl,rfl,rfl,trivial⟩,rfl⟩ (by omega)) ?_
 rintro kk a C' ⟨seen,lw,hk,hnd,hse,hab,ha,rfl⟩
 refine gV _ ha ?_
 simp only[fN]
 rw[← hab] at hK
 cases hh:dR lw s.1
 ·have e:rK id s (kk+1) lw=false:=by unfold rK;rw[hh,if_neg (by decide)]
  rw[e] at hK
  repeat' (first|refine v10 ?_|refine wr ?_|refine w5 ?_ ?_|((refine bh fun h=>?_) <;> try exact w6 h)|(refine aE fun hA=>?_;subst hA)|intro _|(show aA _ 304 _ _ _;refine CA (h:=eY ?_);rw[hh]))
  all_goals(refine aC ?_;exact aB (hK))
 ·have hns:lw ∉ seen:=fun hm=>by have:=(hse lw hm).2 hh;omega
  have hlk:lw∈s.1.map KE.k:=w9 hh
  have hlen:(lw::seen).length≤(s.1.map KE.k).length:=List.Nodup.length_le_of_subset (List.nodup_cons.2 ⟨hns,hnd⟩) (fun z hz=>by
   rcases List.mem_cons.1 hz with rfl|hz
   ·exact hlk
   ·exact(hse z hz).1)
  rw[List.length_map,List.length_cons] at hlen
  have hnx:∀z∈lw::seen,z∈s.1.map KE.k∧(dR (cZ lw s).on s.1=true→r (cZ lw s).on<r z):=fun z hz=>by
   rcases List.mem_cons.1 hz with rfl|hz
   ·exact⟨hlk,fun q=>hr _ hh q⟩
   ·exact⟨(hse z hz).1,fun q=>Nat.lt_trans (hr _ hh q) ((hse z hz).2 hh)⟩
  by_cases ho:(cZ lw s).on=id
  ·have e:rK id s (kk+1) lw=true:=by unfold rK;rw[hh,if_pos rfl,if_pos ho]
   rw[e] at hK
   simp only[cZ] at ho
   repeat' (first|refine v10 ?_|refine wr ?_|refine w5 ?_ ?_|((refine bh fun h=>?_) <;> try exact w6 h)|(refine aE fun hA=>?_;subst hA)|intro _|(show aA _ 304 _ _ _;refine CA (h:=eY ?_);rw[hh])|(show aM _ _ _ _ _ _ _;first|(refine iY ?_ (hv:=oW);simp only[qI])|refine i0 ?_))
   all_goals(refine aC ?_;exact aB (hK))
  ·have e:rK id s (kk+1) lw=rK id s kk (cZ lw s).on:=by
    conv=>lhs;unfold rK
    rw[hh,if_pos rfl,if_neg ho]
   have ho':=ho
   simp only[cZ] at ho'
   obtain⟨k1,rfl⟩:∃k1,kk=k1+1:=⟨kk - 1,by omega⟩
   repeat' (first|refine v10 ?_|refine wr ?_|refine w5 ?_ ?_|((refine bh fun h=>?_) <;> try exact w6 h)|(refine aE fun hA=>?_;subst hA)|intro _|(show aA _ 304 _ _ _;refine CA (h:=eY ?_);rw[hh])|(show aM _ _ _ _ _ _ _;first|(refine iY ?_ (hv:=oW);simp only[qI])|refine i0 ?_))
   all_goals(show aV _ _ _ _;exact cC k1 ⟨lw::seen,(cZ lw s).on,by rw[List.length_cons];omega,List.nodup_cons.2 ⟨hns,hnd⟩,hnx,by rw[← hab,e],⟨rfl,rfl,rfl,trivial⟩,rfl⟩)
def o6 (id on w:Int) (s:eJ):Int:=if dR id s.1=false then 7 else if yP on w=false then 2 else if on=id then 12 else 0
def jZ (id on w:Int) (x:Bool) (s:eJ):eJ:=if o6 id on w s≠0 then s else if z7 on s=true then(if rK id s (s.1.length+1) 0=true then pJ id 0 w false (iE 0 (cZ id s).on s) else pJ id 0 w false s) else(if rK id s (s.1.length+1) on=true then pJ id on w x (iE on (cZ id s).on s) else pJ id on w x s)
theorem IC {id on:Int} (h:Qp s.1 s.2):Qp (iE id on s).1 (iE id on s).2:=Ed h
theorem HO {id:Int} {n:Nd} {ck:Nat}:∀l:List (KE Nd),(s8 id n ck l).length≤l.length+1
 | []=>Nat.le_refl _
 |e::r=>by
  unfold s8
  split
  ·simp
  ·have:=HO (id:=id) (n:=n) (ck:=ck) r
   simp only[List.length_cons]
   omega
theorem Ps {id on:Int}:(iE id on s).1.length≤s.1.length+1:=HO _
def eH:List (Nat×Nat):= [(3,0),(4,0),(5,0),(6,0),(7,0),(8,1),(0,1),(1,1),(2,1),(9,0),(10,1)]
theorem J7 (hok:Qp s.1 s.2) (hl:s.1.length≤1000) (hr:RS r s) (hK:K (.int .i64 (o6 id on w s)) (pt p [.int .i64 most,.map (some q)] 229::mp q (kM qI (jZ id on w x s).1) (jZ id on w x s).2::R)):aA Tryz.prog 262 #[.pointer (some ⟨p,0,none⟩),.int .i64 id,.agg #[.int .i64 on,.int .i64 w,.bool x]] (pt p [.int .i64 most,.map (some q)] 229::mp q (kM qI s.1) s.2::R) K:=by
 cases h1:dR id s.1
 ·have e:o6 id on w s=7:=by unfold o6;rw[h1,if_pos rfl]
  have e2:jZ id on w x s=s:=by unfold jZ;rw[e];rfl
  rw[e,e2] at hK
  refine aH Tryz.func262 ?_
  repeat' (first|refine Qx ?_|refine dw eH ?_|refine wr ?_|refine w5 ?_ ?_|((refine bh fun h=>?_) <;> try exact w6 h)|(refine aE fun hA=>?_;subst hA)|intro _|(show aA _ 304 _ _ _;refine CA (h:=eY ?_);rw[h1]))
  all_goals(refine aC ?_;exact aB (hK))
 ·cases h2:yP on w
  ·have e:o6 id on w s=2:=by unfold o6;rw[h1,if_neg (by decide),h2,if_pos rfl]
   have e2:jZ id on w x s=s:=by unfold jZ;rw[e];rfl
   rw[e,e2] at hK
   refine aH Tryz.func262 ?_
   repeat' (first|refine Qx ?_|refine dw eH ?_|refine wr ?_|refine w5 ?_ ?_|((refine bh fun h=>?_) <;> try exact w6 h)|(refine aE fun hA=>?_;subst hA)|intro _|(show aA _ 304 _ _ _;refine CA (h:=eY ?_);rw[h1])|(show aA _ 303 _ _ _;refine CA (h:=jM ?_);rw[h2]))
   all_goals(refine aC ?_;exact aB (hK))
  ·by_cases h3:on=id
   ·have e:o6 id on w s=12:=by unfold o6;rw[h1,if_neg (by decide),h2,if_neg (by decide),if_pos h3]
    have e2:jZ id on w x s=s:=by unfold jZ;rw[e];rfl
    rw[e,e2] at hK
    refine aH Tryz.func262 ?_
    repeat' (first|refine Qx ?_|refine dw eH ?_|refine wr ?_|refine w5 ?_ ?_|((refine bh fun h=>?_) <;> try exact w6 h)|(refine aE fun hA=>?_;subst hA)|intro _|(show aA _ 304 _ _ _;refine CA (h:=eY ?_);rw[h1])|(show aA _ 303 _ _ _;refine CA (h:=jM ?_);rw[h2]))
    all_goals(refine aC ?_;exact aB (hK))
   ·have e:o6 id on w s=0:=by unfold o6;rw[h1,if_neg (by decide),h2,if_neg (by decide),if_neg h3]
    cases h4:z7 on s
    ·cases h5:rK id s (s.1.length+1) on
     ·have e2:jZ id on w x s=pJ id on w x s:=by unfold jZ;rw[e,h4,h5];rfl
      rw[e,e2] at hK
      refine aH Tryz.func262 ?_
      repeat' (first|refine Qx ?_|refine dw eH ?_|refine wr ?_|refine w5 ?_ ?_|((refine bh fun h=>?_) <;> try exact w6 h)|(refine aE fun hA=>?_;subst hA)|intro _|(show aA _ 304 _ _ _;refine CA (h:=eY ?_);rw[h1])|(show aA _ 303 _ _ _;refine CA (h:=jM ?_);rw[h2])|(show aA _ 306 _ _ _;refine CA (h:=zY h4 ?_))|(show aA _ 342 _ _ _;refine CA (h:=xR hr ?_);rw[h5])|(show aA _ 305 _ _ _;refine CA (h:=wR hok (by omega) ?_)))
      all_goals(refine aC ?_;exact aB (hK))
     ·have e2:jZ id on w x s=pJ id on w x (iE on (cZ id s).on s):=by unfold jZ;rw[e,h4,h5];rfl
      have hgl:=Ps (s:=s) (id:=on) (on:=(cZ id s).on)
      rw[e,e2] at hK
      refine aH Tryz.func262 ?_
      repeat' (first|refine Qx ?_|refine dw eH ?_|refine wr ?_|refine w5 ?_ ?_|((refine bh fun h=>?_) <;> try exact w6 h)|(refine aE fun hA=>?_;subst hA)|intro _|(show aA _ 304 _ _ _;refine CA (h:=eY ?_);rw[h1])|(show aA _ 303 _ _ _;refine CA (h:=jM ?_);rw[h2])|(show aA _ 306 _ _ _;refine CA (h:=zY h4 ?_))|(show aA _ 342 _ _ _;refine CA (h:=xR hr ?_);rw[h5])|(show aA _ 343 _ _ _;refine CA (h:=ER (on:=(cZ id s).on) ?_))|(show aA _ 305 _ _ _;refine CA (h:=wR (IC hok) (by omega) ?_))|(show aM _ _ _ _ _ _ _;first|(refine iY ?_ (hv:=oW);simp only[qI])|refine i0 ?_))
      all_goals(refine aC ?_;exact aB (hK))
    ·cases h5:rK id s (s.1.length+1) 0
     ·have e2:jZ id on w x s=pJ id 0 w false s:=by unfold jZ;rw[e,h4,h5];rfl
      rw[e,e2] at hK
      refine aH Tryz.func262 ?_
      repeat' (first|refine Qx ?_|refine dw eH ?_|refine wr ?_|refine w5 ?_ ?_|((refine bh fun h=>?_) <;> try exact w6 h)|(refine aE fun hA=>?_;subst hA)|intro _|(show aA _ 304 _ _ _;refine CA (h:=eY ?_);rw[h1])|(show aA _ 303 _ _ _;refine CA (h:=jM ?_);rw[h2])|(show aA _ 306 _ _ _;refine CA (h:=zQ h4 ?_))|(show aA _ 342 _ _ _;refine CA (h:=xR hr ?_);rw[h5])|(show aA _ 305 _ _ _;refine CA (h:=wR hok (by omega) ?_)))
      all_goals(refine aC ?_;exact aB (hK))
     ·have e2:jZ id on w x s=pJ id 0 w false (iE 0 (cZ id s).on s):=by unfold jZ;rw[e,h4,h5];rfl
      have hgl:=Ps (s:=s) (id:=0) (on:=(cZ id s).on)
      rw[e,e2] at hK
      refine aH Tryz.func262 ?_
      repeat' (first|refine Qx ?_|refine dw eH ?_|refine wr ?_|refine w5 ?_ ?_|((refine bh fun h=>?_) <;> try exact w6 h)|(refine aE fun hA=>?_;subst hA)|intro _|(show aA _ 304 _ _ _;refine CA (h:=eY ?_);rw[h1])|(show aA _ 303 _ _ _;refine CA (h:=jM ?_);rw[h2])|(show aA _ 306 _ _ _;refine CA (h:=zQ h4 ?_))|(show aA _ 342 _ _ _;refine CA (h:=xR hr ?_);rw[h5])|(show aA _ 343 _ _ _;refine CA (h:=ER (on:=(cZ id s).on) ?_))|(show aA _ 305 _ _ _;refine CA (h:=wR (IC hok) (by omega) ?_))|(show aM _ _ _ _ _ _ _;first|(refine iY ?_ (hv:=oW);simp only[qI])|refine i0 ?_))
      all_goals(refine aC ?_;exact aB (hK))
end
end
end Go.Proofs.YtifgibijcmppmaaGreat
