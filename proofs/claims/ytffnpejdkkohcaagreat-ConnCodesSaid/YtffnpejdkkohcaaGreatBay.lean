/- A part of the proof: lemmas; each with the conditions that it states. -/
import Derived.Test.YtffnpejdkkohcaaGreatBav
import Derived.Test.YtffnpejdkkohcaaGreatBau
set_option linter.unusedVariables false
set_option linter.unusedSimpArgs false
set_option maxRecDepth 100000
set_option maxHeartbeats 40000000
namespace Go.Proofs.YtffnpejdkkohcaaGreat
open Go Go.Proofs Go.Sl
attribute [local irreducible] aM eY cU bQ aL aW aA dS dT aZ dR pt ro fN star sep bH
attribute [local irreducible] mp FV
variable {R C:List HP} {K:KP} {id most low:Int} {p q ck:Nat} {x:Bool} {r:Int->Nat}
structure Nd where
 on:Int
 w:Int
def qW:Nd->Value:=fun n=>.agg #[I6 n.on,I6 n.w]
def Aj9:List Value->Option Int
 | [.int .i64 y]=>some y
 |_=>none
theorem Afz (cs:List Value) (y:Int) (h:Aj9 cs=some y): [I6 y]=cs:=by
 unfold Aj9 at h
 split at h
 ·cases h;rfl
 ·cases h
def mI:tP Int:= { enc:=fun n=> [I6 n],sz:=1,dec:=Aj9,len:=fun _=>rfl,one:=fun _=>rfl,ok:=Afz }
def dZ (id:Int) (l:List (KE Nd)):Bool:=(gM id l).isSome
def yW (on w:Int):Bool:=decide (0<=on) && decide (on<=2147483647) && decide (1<=w) && decide (w<=256)
def cC (id:Int) (l:List (KE Nd)):List Int:=MG ((l.filter fun e=>decide (e.v.on=id)).map KE.k)
theorem YY {l:List (KE Nd)}:Iz true (.agg #[I6 0,I6 0]) (jA id (kM qW l) 0)=.tuple #[qW ((gM id l).getD ⟨0,0⟩),.bool (dZ id l)]:=by
 rw[Ts]
 unfold dZ
 cases gM id l <;> rfl
theorem qC {l:List (KE Nd)}:Iz false (.agg #[I6 0,I6 0]) (jA id (kM qW l) 0)=qW ((gM id l).getD ⟨0,0⟩):=by
 rw[Ts]
 cases gM id l <;> rfl
theorem Ob {A:Option Addr} {c n:Nat} {xs:List Int} (hn:xs.length=n) (hs:n<1000000000000000) (hK:K (.tuple #[]) (bU A c 3 mI (MG xs)::R)):CT 291 #[.slice A n c] (bU A c 3 mI xs::R) K:=
 aA.ofSort Tryz.func291 rfl (by decide +kernel) (fun _=>rfl) (Any.slices_Sort_int Tryz.lays189) (Any.slices_Sort_int_none Tryz.lays189) aS.here hn hs hK
section
variable {on w:Int} {l:List (KE Nd)}
theorem j9 (hK:K (.bool (yW on w)) R):CT 239 #[.agg #[I6 on,I6 w,.bool x]] R K:=by
 refine aJ Tryz.func239 ?_
 repeat' (first|refine v19 ?_|refine w5 ?_ ?_|((refine bh fun h=>?_) <;> try exact w6 h)|(refine aF fun hA=>?_;subst hA)|intro _)
 all_goals(refine aC ?_;exact aB (kb hK (by unfold yW;simp <;> omega)))
theorem fR (hK:K (.bool (dZ id l)) (pt p [I6 most,.map (some q)] 175::mp q (kM qW l) ck::R)):CT 240 #[PO p,I6 id] (pt p [I6 most,.map (some q)] 175::mp q (kM qW l) ck::R) K:=by
 refine aJ Tryz.func240 ?_
 repeat' (first|refine v30 ?_|refine w5 ?_ ?_|((refine bh fun h=>?_) <;> try exact w6 h)|(refine aF fun hA=>?_;subst hA)|intro _|(show aM _ _ _ _ _ _ _;refine jO ?_ (hv:=YY)))
 all_goals(refine aC ?_;exact aB (hK))
theorem Ba (hok:Qe l ck) (hl:l.length<=100000) (hK:∀A c,K (.slice A (cC id l).length c) (bU A c 3 mI (cC id l)::pt p [I6 most,.map (some q)] 175::mp q (kM qW l) ck::R)):CT 290 #[PO p,I6 id] (pt p [I6 most,.map (some q)] 175::mp q (kM qW l) ck::R) K:=by
 obtain⟨hnd,hck⟩:=hok
 refine aJ Tryz.func290 ?_
 repeat' (first|(show aM _ _ _ _ _ _ _;refine Ag0 ?_;intro _)|refine Qj ?_|refine w5 ?_ ?_|((refine bh fun h=>?_) <;> try exact w6 h)|(refine aF fun hA=>?_;subst hA)|intro _)
 rename_i it
 refine nN (aG.nilrow 3 mI _) ?_
 refine iH (fun kk a C'=>∃(os:List (KE Nd)) (ks:List Int) (seen:List Nat) (A:Option Addr) (c:Nat),FN l seen<=kk/\seen.Nodup/\(∀e∈os,e∈l)/\ks=(os.filter fun e=>decide (e.v.on=id)).map KE.k/\seen=os.map KE.b/\cW a [(0,PO p),(1,I6 id),(5,.slice A ks.length c),(15,PO it)]/\C'=bU A c 3 mI ks::FV it q ck seen ck::pt p [I6 most,.map (some q)] 175::mp q (kM qW l) ck::R) (FN l []) (cG (FN l []) ⟨[],[],[],none,0,Nat.le_refl _,List.nodup_nil,(fun e he=>by cases he),rfl,rfl,⟨rfl,rfl,rfl,rfl,trivial⟩,rfl⟩ (by omega)) ?_
 rintro kk a C' ⟨os,ks,seen,A,c,hk,hno,hos,hks,hse,ha,rfl⟩
 have hle:=Alh (by rw[<- hse];exact hno) hos
 have hlk:ks.length<=os.length:=by rw[hks,List.length_map];exact List.length_filter_le _ _
 refine gJ _ ha ?_
 simp only[fF]
 repeat' (first|refine Qj ?_|refine w5 ?_ ?_|((refine bh fun h=>?_) <;> try exact w6 h)|(refine aF fun hA=>?_;subst hA)|intro _)
 refine Ajv (fun e he hn=>?_) (fun hs=>?_) rfl (by(repeat (first|exact aS.here|apply aS.there)) <;> exact aS.here) ⟨_,by((repeat (first|exact aS.here|apply aS.there)) <;> exact aS.here)⟩ (fun e he=>by obtain⟨z,hz,rfl⟩:=List.mem_map.1 he;exact hck z hz) (by
  cases l with
  |nil=>exact .inr (.inl rfl)
  |cons z l=>exact .inr (.inr ⟨⟨z.k,qW z.v,z.b⟩,List.mem_cons_self ..,hck z (List.mem_cons_self ..)⟩)) (by exact rfl)
 ·obtain⟨e0,he0,rfl⟩:=List.mem_map.1 he
  have hn:e0.b ∉ seen:=hn
  have hfb:=Ady (enc:=qW) hnd he0
  have hlt:=Sc he0 hn
  have hnn:(seen++ [e0.b]).Nodup:=List.nodup_append.2 ⟨hno,by simp,fun b hb b' hb' he=>by
   rw[List.mem_singleton] at hb'
   subst hb' he
   exact hn hb⟩
  have hmm:∀e∈os++ [e0],e∈l:=fun e he=>by
   rcases List.mem_append.1 he with he|he
   ·exact hos e he
   ·rw[List.mem_singleton.1 he];exact he0
  refine CO rfl ?_
  by_cases ho:e0.v.on=id
  ·repeat' (first|(show aM _ _ _ _ _ _ _;first|refine TQ ?_ (he:=hfb)|(refine cN (E:=mI) (xs:=ks) (ys:= [e0.k]) ?_;intro _ _))|refine Qj ?_|refine w5 ?_ ?_|((refine bh fun h=>?_) <;> try exact w6 h)|(refine aF fun hA=>?_;subst hA)|intro _)
   all_goals exact cG (FN l (seen++ [e0.b])) ⟨os++ [e0],ks++ [e0.k],seen++ [e0.b],_,_,Nat.le_refl _,hnn,hmm,by rw[hks];simp[ho],by rw[hse];simp,⟨rfl,rfl,rfl,rfl,trivial⟩,rfl⟩ (Nat.lt_of_lt_of_le hlt hk)
  ·repeat' (first|(show aM _ _ _ _ _ _ _;refine TQ ?_ (he:=hfb))|refine Qj ?_|refine w5 ?_ ?_|((refine bh fun h=>?_) <;> try exact w6 h)|(refine aF fun hA=>?_;subst hA)|intro _)
   all_goals exact cG (FN l (seen++ [e0.b])) ⟨os++ [e0],ks,seen++ [e0.b],_,_,Nat.le_refl _,hnn,hmm,by rw[hks];simp[ho],by rw[hse];simp,⟨rfl,rfl,rfl,rfl,trivial⟩,rfl⟩ (Nat.lt_of_lt_of_le hlt hk)
 ·refine CO rfl ?_
  have hpm:os.Perm l:=Ada hnd (by rw[<- hse];exact hno) hos fun e he=>by rw[<- hse];exact hs ⟨e.k,qW e.v,e.b⟩ (List.mem_map_of_mem (f:=fun e:KE Nd=>(⟨e.k,qW e.v,e.b⟩:k7)) he)
  have hsr:MG ks=cC id l:=by
   rw[hks]
   exact U0 ((hpm.filter _).map KE.k)
  have hlen:(cC id l).length=ks.length:=by rw[<- hsr,Am]
  rw[hlen] at hK
  repeat' (first|refine Qj ?_|refine w5 ?_ ?_|((refine bh fun h=>?_) <;> try exact w6 h)|(refine aF fun hA=>?_;subst hA)|intro _|(show aA _ 291 _ _ _;refine CA (h:=Ob (xs:=ks) rfl (by omega) ?_);rw[hsr]))
  all_goals(refine aC ?_;exact aB (hK _ _))
end
abbrev eS:=List (KE Nd)×Nat
def fK (id:Int) (n:Nd) (s:eS):eS:=(s9 id n s.2 s.1,kCk id s.2 s.1)
def dD (id:Int) (s:eS):Nd:=(gM id s.1).getD ⟨0,0⟩
def iX (id on:Int) (s:eS):eS:=fK id ⟨on,(dD id s).w⟩ s
def iI (id:Int):List Int->eS->eS
 | [],s=>s
 |k::r,s=>iI id r (if k=id then s else iX k id s)
def qB (id on w:Int) (x:Bool) (s:eS):eS:=fK id ⟨on,w⟩ (if x=true then iI id (cC on s.1) s else s)
def Ai (on:Int) (s:eS):Bool:=decide (on≠0) && !dZ on s.1
theorem Rj {k:Int} {ks:List Int} {j:Nat} {s:eS} (h:ks[j]?=some k):iI id (ks.drop j) s=iI id (ks.drop (j+1)) (if k=id then s else iX k id s):=by
 have hj:=(List.getElem?_eq_some_iff.1 h).1
 rw[List.drop_eq_getElem_cons hj,(List.getElem?_eq_some_iff.1 h).2]
 rfl
section
variable {on w:Int} {s:eS}
theorem AG (h:Ai on s=true) (hK:K (.agg #[I6 0,I6 w,.bool false]) (pt p [I6 most,.map (some q)] 175::mp q (kM qW s.1) s.2::R)):CT 242 #[PO p,.agg #[I6 on,I6 w,.bool x]] (pt p [I6 most,.map (some q)] 175::mp q (kM qW s.1) s.2::R) K:=by
 unfold Ai at h
 rw[Bool.and_eq_true,decide_eq_true_eq,Bool.not_eq_true'] at h
 obtain⟨h1,h2⟩:=h
 refine aJ Tryz.func242 ?_
 repeat' (first|refine Gr ?_|refine w5 ?_ ?_|((refine bh fun h=>?_) <;> try exact w6 h)|(refine aF fun hA=>?_;subst hA)|intro _|(show aA _ 240 _ _ _;refine CA (h:=fR ?_);rw[h2]))
 all_goals(refine aC ?_;exact aB (hK))
theorem Aa (h:Ai on s=false) (hK:K (.agg #[I6 on,I6 w,.bool x]) (pt p [I6 most,.map (some q)] 175::mp q (kM qW s.1) s.2::R)):CT 242 #[PO p,.agg #[I6 on,I6 w,.bool x]] (pt p [I6 most,.map (some q)] 175::mp q (kM qW s.1) s.2::R) K:=by
 unfold Ai at h
 by_cases h1:on=0
 ·subst h1
  refine aJ Tryz.func242 ?_
  repeat' (first|refine Gr ?_|refine w5 ?_ ?_|((refine bh fun h=>?_) <;> try exact w6 h)|(refine aF fun hA=>?_;subst hA)|intro _)
  all_goals(refine aC ?_;exact aB (hK))
 ·have h2:dZ on s.1=true:=by simpa[h1] using h
  refine aJ Tryz.func242 ?_
  repeat' (first|refine Gr ?_|refine w5 ?_ ?_|((refine bh fun h=>?_) <;> try exact w6 h)|(refine aF fun hA=>?_;subst hA)|intro _|(show aA _ 240 _ _ _;refine CA (h:=fR ?_);rw[h2]))
  all_goals(refine aC ?_;exact aB (hK))
def Cj:List (Nat×Nat):= [(6,0),(7,0),(8,0),(9,0),(10,0),(11,1),(0,1),(1,1),(2,1),(3,1),(4,1),(5,1),(12,0),(13,0),(14,1)]
theorem EB (hK:K (.tuple #[]) (pt p [I6 most,.map (some q)] 175::mp q (kM qW (iX id on s).1) (iX id on s).2::R)):CT 277 #[PO p,I6 id,I6 on] (pt p [I6 most,.map (some q)] 175::mp q (kM qW s.1) s.2::R) K:=by
 simp only[iX,fK,dD] at hK
 refine aJ Tryz.func277 ?_
 repeat' (first|refine v25 ?_|refine dw Cj ?_|refine w5 ?_ ?_|((refine bh fun h=>?_) <;> try exact w6 h)|(refine aF fun hA=>?_;subst hA)|intro _|(show aM _ _ _ _ _ _ _;first|(refine jO ?_ (hv:=qC);simp only[qW])|refine iQ ?_|refine kQ ?_ (hv:=OD (enc:=qW) (v:=⟨on,_⟩)) (hu:=by exact rfl)))
 all_goals(refine aC ?_;exact aB (hK))
theorem FX (hK:K (I6 (if dZ id s.1=true then(dD id s).w else 0)) (pt p [I6 most,.map (some q)] 175::mp q (kM qW s.1) s.2::R)):CT 227 #[PO p,I6 id] (pt p [I6 most,.map (some q)] 175::mp q (kM qW s.1) s.2::R) K:=by
 cases h:dZ id s.1
 ·rw[h,if_neg (by decide)] at hK
  refine aJ Tryz.func227 ?_
  repeat' (first|refine I3 ?_|refine w5 ?_ ?_|((refine bh fun h=>?_) <;> try exact w6 h)|(refine aF fun hA=>?_;subst hA)|intro _|(show aA _ 240 _ _ _;refine CA (h:=fR ?_);rw[h]))
  all_goals(refine aC ?_;exact aB (hK))
 ·rw[h,if_pos rfl] at hK
  simp only[dD] at hK
  refine aJ Tryz.func227 ?_
  repeat' (first|refine I3 ?_|refine w5 ?_ ?_|((refine bh fun h=>?_) <;> try exact w6 h)|(refine aF fun hA=>?_;subst hA)|intro _|(show aA _ 240 _ _ _;refine CA (h:=fR ?_);rw[h])|(show aM _ _ _ _ _ _ _;first|(refine jO ?_ (hv:=qC);simp only[qW])|refine iQ ?_))
  all_goals(refine aC ?_;exact aB (hK))
end
theorem DZ {n:Nd}:∀ {l:List (KE Nd)} {ck:Nat},Qe l ck->Qe (s9 id n ck l) (kCk id ck l):=fun {l ck} h=>by
 obtain⟨h1,h2⟩:=h
 unfold kCk
 cases hg:(gM id l).isSome
 ·have hg':gM id l=none:=by simpa using hg
  rw[DO hg',if_neg (by decide)]
  refine⟨?_,fun e he=>?_⟩
  ·rw[List.map_append]
   refine List.nodup_append.2 ⟨h1,by simp,?_⟩
   intro b hb b' hb' he
   obtain⟨z,hz,rfl⟩:=List.mem_map.1 hb
   have:=h2 z hz
   simp at hb'
   omega
  ·rcases List.mem_append.1 he with he|he
   ·have:=h2 e he;omega
   ·rw[List.mem_singleton.1 he];exact Nat.lt_succ_self _
 ·rw[if_pos rfl]
  have key:∀l:List (KE Nd),(gM id l).isSome=true->(s9 id n ck l).map KE.b=l.map KE.b:=by
   intro l
   induction l with
   |nil=>intro h;cases h
   |cons e r ih=>
    intro h
    unfold s9
    by_cases hk:id=e.k
    ·rw[if_pos hk];rfl
    ·rw[if_neg hk,List.map_cons,List.map_cons,ih (by unfold gM at h;rwa[if_neg hk] at h)]
  have hb:=key l hg
  refine⟨by rw[hb];exact h1,fun e he=>?_⟩
  have hm:e.b∈l.map KE.b:=by rw[<- hb];exact List.mem_map_of_mem he
  obtain⟨z,hz,hzb⟩:=List.mem_map.1 hm
  rw[<- hzb]
  exact h2 z hz
section
variable {on w:Int} {s:eS}
def jS:List (Nat×Nat):= [(0,0),(1,0),(2,0),(3,0),(4,0),(5,0),(6,0),(7,0),(8,0),(9,0),(10,1)]
theorem vZ (hok:Qe s.1 s.2) (hl:s.1.length<=100000) (hK:K (.tuple #[]) (pt p [I6 most,.map (some q)] 175::mp q (kM qW (qB id on w x s).1) (qB id on w x s).2::R)):CT 241 #[PO p,I6 id,.agg #[I6 on,I6 w,.bool x]] (pt p [I6 most,.map (some q)] 175::mp q (kM qW s.1) s.2::R) K:=by
 cases x with
 |false=>
  simp only[qB,fK,Bool.false_eq_true,if_false] at hK
  refine aJ Tryz.func241 ?_
  repeat' (first|refine Wy ?_|refine dw jS ?_|refine w5 ?_ ?_|((refine bh fun h=>?_) <;> try exact w6 h)|(refine aF fun hA=>?_;subst hA)|intro _|(show aM _ _ _ _ _ _ _;refine kQ ?_ (hv:=OD (enc:=qW) (v:=⟨on,w⟩)) (hu:=by exact rfl)))
  all_goals(refine aC ?_;exact aB (hK))
 |true=>
  simp only[qB,if_true] at hK
  generalize hks:cC on s.1=ks at hK
  have hkl:ks.length<=100000:=by
   rw[<- hks]
   unfold cC
   rw[Am,List.length_map]
   exact Nat.le_trans (List.length_filter_le _ _) hl
  refine aJ Tryz.func241 ?_
  repeat' (first|refine Wy ?_|refine dw jS ?_|refine w5 ?_ ?_|((refine bh fun h=>?_) <;> try exact w6 h)|(refine aF fun hA=>?_;subst hA)|intro _|(show aA _ 290 _ _ _;refine CA (h:=Ba hok hl (fun A c=>?_));rw[hks]))
  rename_i r5
  refine iH (fun kk a C'=>∃(j:Nat) (s':eS),j+kk=ks.length/\iI id (ks.drop j) s'=iI id ks s/\cW a [(0,PO p),(1,I6 id),(5,PO r5),(13,.slice A ks.length c),(14,I6 ks.length),(15,I6 j)]/\C'=bU A c 3 mI ks::pt r5 [I6 on,I6 w,.bool true] 42::pt p [I6 most,.map (some q)] 175::mp q (kM qW s'.1) s'.2::R) ks.length (cG ks.length ⟨0,s,by omega,rfl,⟨rfl,rfl,rfl,rfl,rfl,rfl,trivial⟩,rfl⟩ (by omega)) ?_
  rintro kk a C' ⟨j,s',hj,hs,ha,rfl⟩
  refine gJ _ ha ?_
  simp only[fF]
  by_cases hlt:j<ks.length
  ·obtain⟨k,hk⟩:∃k,ks[j]?=some k:=⟨_,List.getElem?_eq_getElem hlt⟩
   rw[Rj hk] at hs
   by_cases he:k=id
   ·subst he
    rw[if_pos rfl] at hs
    repeat' (first|refine Wy ?_|refine dw jS ?_|refine w5 ?_ ?_|((refine bh fun h=>?_) <;> try exact w6 h)|(refine aF fun hA=>?_;subst hA)|intro _)
    all_goals(show aZ _ _ _ _;exact cG (kk - 1) ⟨j+1,s',by omega,hs,⟨rfl,rfl,rfl,rfl,rfl,rfl,trivial⟩,rfl⟩)
   ·rw[if_neg he] at hs
    repeat' (first|refine Wy ?_|refine dw jS ?_|refine w5 ?_ ?_|((refine bh fun h=>?_) <;> try exact w6 h)|(refine aF fun hA=>?_;subst hA)|intro _|(show aA _ 277 _ _ _;refine CA (h:=EB ?_)))
    all_goals(show aZ _ _ _ _;exact cG (kk - 1) ⟨j+1,_,by omega,hs,⟨rfl,rfl,rfl,rfl,rfl,rfl,trivial⟩,rfl⟩)
  ·rw[List.drop_eq_nil_of_le (by omega)] at hs
   have hs:s'=iI id ks s:=hs
   subst hs
   simp only[fK] at hK
   repeat' (first|refine Wy ?_|refine dw jS ?_|refine w5 ?_ ?_|((refine bh fun h=>?_) <;> try exact w6 h)|(refine aF fun hA=>?_;subst hA)|intro _|(show aM _ _ _ _ _ _ _;refine kQ ?_ (hv:=OD (enc:=qW) (v:=⟨on,w⟩)) (hu:=by exact rfl)))
   all_goals(refine aC ?_;exact aB (hK))
def mP (id on w:Int) (most:Int) (s:eS):Int:=if id<1\/2147483647<id\/yW on w=false then 2 else if on=id then 12 else if dZ id s.1=true then 8 else if most<=(s.1.length:Nat) then 16 else 0
def nB (id on w:Int) (x:Bool) (most:Int) (s:eS):eS:=if mP id on w most s≠0 then s else if Ai on s=true then qB id 0 w false s else qB id on w x s
def eK:List (Nat×Nat):= [(0,0),(1,0),(2,0),(3,0),(4,0),(5,0),(6,0),(7,0),(8,0),(9,0),(10,0)]
theorem FJ (hok:Qe s.1 s.2) (hl:s.1.length<=100000) (hm:0<=most/\most<=100000) (hK:K (I6 (mP id on w most s)) (pt p [I6 most,.map (some q)] 175::mp q (kM qW (nB id on w x most s).1) (nB id on w x most s).2::R)):CT 160 #[PO p,I6 id,.agg #[I6 on,I6 w,.bool x]] (pt p [I6 most,.map (some q)] 175::mp q (kM qW s.1) s.2::R) K:=by
 have hkl:(kM qW s.1).length=s.1.length:=by simp[kM]
 by_cases h1:id<1\/2147483647<id
 ·have e:mP id on w most s=2:=by unfold mP;rw[if_pos (by omega)]
  have e2:nB id on w x most s=s:=by unfold nB;rw[e];rfl
  rw[e,e2] at hK
  refine aJ Tryz.func160 ?_
  repeat' (first|refine v44 ?_|refine dw eK ?_|refine w5 ?_ ?_|((refine bh fun h=>?_) <;> try exact w6 h)|(refine aF fun hA=>?_;subst hA)|intro _|(show aA _ 239 _ _ _;refine CA (h:=j9 ?_)))
  all_goals(refine aC ?_;exact aB (hK))
 ·cases h2:yW on w
  ·have e:mP id on w most s=2:=by unfold mP;rw[h2,if_pos (by simp)]
   have e2:nB id on w x most s=s:=by unfold nB;rw[e];rfl
   rw[e,e2] at hK
   refine aJ Tryz.func160 ?_
   repeat' (first|refine v44 ?_|refine dw eK ?_|refine w5 ?_ ?_|((refine bh fun h=>?_) <;> try exact w6 h)|(refine aF fun hA=>?_;subst hA)|intro _|(show aA _ 239 _ _ _;refine CA (h:=j9 ?_);rw[h2]))
   all_goals(refine aC ?_;exact aB (hK))
  ·have e1:¬(id<1\/2147483647<id\/yW on w=false):=by rw[h2];simp;omega
   by_cases h3:on=id
   ·have e:mP id on w most s=12:=by unfold mP;rw[if_neg e1,if_pos h3]
    have e2:nB id on w x most s=s:=by unfold nB;rw[e];rfl
    rw[e,e2] at hK
    refine aJ Tryz.func160 ?_
    repeat' (first|refine v44 ?_|refine dw eK ?_|refine w5 ?_ ?_|((refine bh fun h=>?_) <;> try exact w6 h)|(refine aF fun hA=>?_;subst hA)|intro _|(show aA _ 239 _ _ _;refine CA (h:=j9 ?_);rw[h2]))
    all_goals(refine aC ?_;exact aB (hK))
   ·cases h4:dZ id s.1
    ·by_cases h5:most<=(s.1.length:Nat)
     ·have e:mP id on w most s=16:=by unfold mP;rw[if_neg e1,if_neg h3,h4,if_neg (by decide),if_pos h5]
      have e2:nB id on w x most s=s:=by unfold nB;rw[e];rfl
      rw[e,e2] at hK
      refine aJ Tryz.func160 ?_
      repeat' (first|(show aM _ _ _ _ _ _ _;refine HJ ?_)|refine v44 ?_|refine dw eK ?_|refine w5 ?_ ?_|((refine bh fun h=>?_) <;> try exact w6 h)|(refine aF fun hA=>?_;subst hA)|intro _|(show aA _ 239 _ _ _;refine CA (h:=j9 ?_);rw[h2])|(show aA _ 240 _ _ _;refine CA (h:=fR ?_);rw[h4]))
      all_goals(refine aC ?_;exact aB (hK))
     ·have e:mP id on w most s=0:=by unfold mP;rw[if_neg e1,if_neg h3,h4,if_neg (by decide),if_neg h5]
      cases h6:Ai on s
      ·have e2:nB id on w x most s=qB id on w x s:=by unfold nB;rw[e,h6];rfl
       rw[e,e2] at hK
       refine aJ Tryz.func160 ?_
       repeat' (first|(show aM _ _ _ _ _ _ _;refine HJ ?_)|refine v44 ?_|refine dw eK ?_|refine w5 ?_ ?_|((refine bh fun h=>?_) <;> try exact w6 h)|(refine aF fun hA=>?_;subst hA)|intro _|(show aA _ 239 _ _ _;refine CA (h:=j9 ?_);rw[h2])|(show aA _ 240 _ _ _;refine CA (h:=fR ?_);rw[h4])|(show aA _ 242 _ _ _;refine CA (h:=Aa h6 ?_))|(show aA _ 241 _ _ _;refine CA (h:=vZ hok hl ?_)))
       all_goals(refine aC ?_;exact aB (hK))
      ·have e2:nB id on w x most s=qB id 0 w false s:=by unfold nB;rw[e,h6];rfl
       rw[e,e2] at hK
       refine aJ Tryz.func160 ?_
       repeat' (first|(show aM _ _ _ _ _ _ _;refine HJ ?_)|refine v44 ?_|refine dw eK ?_|refine w5 ?_ ?_|((refine bh fun h=>?_) <;> try exact w6 h)|(refine aF fun hA=>?_;subst hA)|intro _|(show aA _ 239 _ _ _;refine CA (h:=j9 ?_);rw[h2])|(show aA _ 240 _ _ _;refine CA (h:=fR ?_);rw[h4])|(show aA _ 242 _ _ _;refine CA (h:=AG h6 ?_))|(show aA _ 241 _ _ _;refine CA (h:=vZ hok hl ?_)))
       all_goals(refine aC ?_;exact aB (hK))
    ·have e:mP id on w most s=8:=by unfold mP;rw[if_neg e1,if_neg h3,h4,if_pos rfl]
     have e2:nB id on w x most s=s:=by unfold nB;rw[e];rfl
     rw[e,e2] at hK
     refine aJ Tryz.func160 ?_
     repeat' (first|refine v44 ?_|refine dw eK ?_|refine w5 ?_ ?_|((refine bh fun h=>?_) <;> try exact w6 h)|(refine aF fun hA=>?_;subst hA)|intro _|(show aA _ 239 _ _ _;refine CA (h:=j9 ?_);rw[h2])|(show aA _ 240 _ _ _;refine CA (h:=fR ?_);rw[h4]))
     all_goals(refine aC ?_;exact aB (hK))
end
def Sf (r:Int->Nat) (s:eS):Prop:=∀id,dZ id s.1=true->dZ (dD id s).on s.1=true->r (dD id s).on<r id
def sI (id:Int) (s:eS):Nat->Int->Bool
 |0,_=>false
 |n+1,low=>if dZ low s.1=true then(if(dD low s).on=id then true else sI id s n (dD low s).on) else false
theorem wE {l:List (KE Nd)} (h:(gM id l).isSome=true):id∈l.map KE.k:=by
 induction l with
 |nil=>cases h
 |cons e r ih=>
  unfold gM at h
  by_cases hk:id=e.k
  ·rw[hk];exact List.mem_cons_self ..
  ·rw[if_neg hk] at h
   exact List.mem_cons_of_mem _ (ih h)
section
variable {on w:Int} {s:eS}
theorem yC (hr:Sf r s) (hK:K (.bool (sI id s (s.1.length+1) low)) (pt p [I6 most,.map (some q)] 175::mp q (kM qW s.1) s.2::R)):CT 276 #[PO p,I6 id,I6 low] (pt p [I6 most,.map (some q)] 175::mp q (kM qW s.1) s.2::R) K:=by
 refine aJ Tryz.func276 ?_
 repeat' (first|refine Y9 ?_|refine w5 ?_ ?_|((refine bh fun h=>?_) <;> try exact w6 h)|(refine aF fun hA=>?_;subst hA)|intro _)
 refine iH (fun kk a C'=>∃(seen:List Int) (lw:Int),seen.length+kk=s.1.length/\seen.Nodup/\(∀z∈seen,z∈s.1.map KE.k/\(dZ lw s.1=true->r lw<r z))/\sI id s (kk+1) lw=sI id s (s.1.length+1) low/\cW a [(0,PO p),(1,I6 id),(2,I6 lw)]/\C'=pt p [I6 most,.map (some q)] 175::mp q (kM qW s.1) s.2::R) s.1.length (cG s.1.length ⟨[],low,by simp,List.nodup_nil,(fun z hz=>by cases hz),rfl,⟨rfl,rfl,rfl,trivial⟩,rfl⟩ (by omega)) ?_
 rintro kk a C' ⟨seen,lw,hk,hnd,hse,hab,ha,rfl⟩
 refine gJ _ ha ?_
 simp only[fF]
 rw[<- hab] at hK
 cases hh:dZ lw s.1
 ·have e:sI id s (kk+1) lw=false:=by unfold sI;rw[hh,if_neg (by decide)]
  rw[e] at hK
  repeat' (first|refine Y9 ?_|refine w5 ?_ ?_|((refine bh fun h=>?_) <;> try exact w6 h)|(refine aF fun hA=>?_;subst hA)|intro _|(show aA _ 240 _ _ _;refine CA (h:=fR ?_);rw[hh]))
  all_goals(refine aC ?_;exact aB (hK))
 ·have hns:lw ∉ seen:=fun hm=>by have:=(hse lw hm).2 hh;omega
  have hlk:lw∈s.1.map KE.k:=wE hh
  have hlen:(lw::seen).length<=(s.1.map KE.k).length:=List.Nodup.length_le_of_subset (List.nodup_cons.2 ⟨hns,hnd⟩) (fun z hz=>by
   rcases List.mem_cons.1 hz with rfl|hz
   ·exact hlk
   ·exact(hse z hz).1)
  rw[List.length_map,List.length_cons] at hlen
  have hnx:∀z∈lw::seen,z∈s.1.map KE.k/\(dZ (dD lw s).on s.1=true->r (dD lw s).on<r z):=fun z hz=>by
   rcases List.mem_cons.1 hz with rfl|hz
   ·exact⟨hlk,fun q=>hr _ hh q⟩
   ·exact⟨(hse z hz).1,fun q=>Nat.lt_trans (hr _ hh q) ((hse z hz).2 hh)⟩
  by_cases ho:(dD lw s).on=id
  ·have e:sI id s (kk+1) lw=true:=by unfold sI;rw[hh,if_pos rfl,if_pos ho]
   rw[e] at hK
   simp only[dD] at ho
   repeat' (first|refine Y9 ?_|refine w5 ?_ ?_|((refine bh fun h=>?_) <;> try exact w6 h)|(refine aF fun hA=>?_;subst hA)|intro _|(show aA _ 240 _ _ _;refine CA (h:=fR ?_);rw[hh])|(show aM _ _ _ _ _ _ _;first|(refine jO ?_ (hv:=qC);simp only[qW])|refine iQ ?_))
   all_goals(refine aC ?_;exact aB (hK))
  ·have e:sI id s (kk+1) lw=sI id s kk (dD lw s).on:=by
    conv=>lhs;unfold sI
    rw[hh,if_pos rfl,if_neg ho]
   have ho':=ho
   simp only[dD] at ho'
   obtain⟨k1,rfl⟩:∃k1,kk=k1+1:=⟨kk - 1,by omega⟩
   repeat' (first|refine Y9 ?_|refine w5 ?_ ?_|((refine bh fun h=>?_) <;> try exact w6 h)|(refine aF fun hA=>?_;subst hA)|intro _|(show aA _ 240 _ _ _;refine CA (h:=fR ?_);rw[hh])|(show aM _ _ _ _ _ _ _;first|(refine jO ?_ (hv:=qC);simp only[qW])|refine iQ ?_))
   all_goals(show aZ _ _ _ _;exact cG k1 ⟨lw::seen,(dD lw s).on,by rw[List.length_cons];omega,List.nodup_cons.2 ⟨hns,hnd⟩,hnx,by rw[<- hab,e],⟨rfl,rfl,rfl,trivial⟩,rfl⟩)
def qA (id on w:Int) (s:eS):Int:=if dZ id s.1=false then 7 else if yW on w=false then 2 else if on=id then 12 else 0
def k8 (id on w:Int) (x:Bool) (s:eS):eS:=if qA id on w s≠0 then s else if Ai on s=true then(if sI id s (s.1.length+1) 0=true then qB id 0 w false (iX 0 (dD id s).on s) else qB id 0 w false s) else(if sI id s (s.1.length+1) on=true then qB id on w x (iX on (dD id s).on s) else qB id on w x s)
theorem HI {on:Int} (h:Qe s.1 s.2):Qe (iX id on s).1 (iX id on s).2:=DZ h
theorem GQ {id:Int} {n:Nd} {ck:Nat}:∀l:List (KE Nd),(s9 id n ck l).length<=l.length+1
 | []=>Nat.le_refl _
 |e::r=>by
  unfold s9
  split
  ·simp
  ·have:=GQ (id:=id) (n:=n) (ck:=ck) r
   simp only[List.length_cons]
   omega
theorem No {on:Int}:(iX id on s).1.length<=s.1.length+1:=GQ _
def eV:List (Nat×Nat):= [(3,0),(4,0),(5,0),(6,0),(7,0),(8,1),(0,1),(1,1),(2,1),(9,0),(10,1)]
theorem Xj (hok:Qe s.1 s.2) (hl:s.1.length<=1000) (hr:Sf r s) (hK:K (I6 (qA id on w s)) (pt p [I6 most,.map (some q)] 175::mp q (kM qW (k8 id on w x s).1) (k8 id on w x s).2::R)):CT 199 #[PO p,I6 id,.agg #[I6 on,I6 w,.bool x]] (pt p [I6 most,.map (some q)] 175::mp q (kM qW s.1) s.2::R) K:=by
 cases h1:dZ id s.1
 ·have e:qA id on w s=7:=by unfold qA;rw[h1,if_pos rfl]
  have e2:k8 id on w x s=s:=by unfold k8;rw[e];rfl
  rw[e,e2] at hK
  refine aJ Tryz.func199 ?_
  repeat' (first|refine Qk ?_|refine dw eV ?_|refine w5 ?_ ?_|((refine bh fun h=>?_) <;> try exact w6 h)|(refine aF fun hA=>?_;subst hA)|intro _|(show aA _ 240 _ _ _;refine CA (h:=fR ?_);rw[h1]))
  all_goals(refine aC ?_;exact aB (hK))
 ·cases h2:yW on w
  ·have e:qA id on w s=2:=by unfold qA;rw[h1,if_neg (by decide),h2,if_pos rfl]
   have e2:k8 id on w x s=s:=by unfold k8;rw[e];rfl
   rw[e,e2] at hK
   refine aJ Tryz.func199 ?_
   repeat' (first|refine Qk ?_|refine dw eV ?_|refine w5 ?_ ?_|((refine bh fun h=>?_) <;> try exact w6 h)|(refine aF fun hA=>?_;subst hA)|intro _|(show aA _ 240 _ _ _;refine CA (h:=fR ?_);rw[h1])|(show aA _ 239 _ _ _;refine CA (h:=j9 ?_);rw[h2]))
   all_goals(refine aC ?_;exact aB (hK))
  ·by_cases h3:on=id
   ·have e:qA id on w s=12:=by unfold qA;rw[h1,if_neg (by decide),h2,if_neg (by decide),if_pos h3]
    have e2:k8 id on w x s=s:=by unfold k8;rw[e];rfl
    rw[e,e2] at hK
    refine aJ Tryz.func199 ?_
    repeat' (first|refine Qk ?_|refine dw eV ?_|refine w5 ?_ ?_|((refine bh fun h=>?_) <;> try exact w6 h)|(refine aF fun hA=>?_;subst hA)|intro _|(show aA _ 240 _ _ _;refine CA (h:=fR ?_);rw[h1])|(show aA _ 239 _ _ _;refine CA (h:=j9 ?_);rw[h2]))
    all_goals(refine aC ?_;exact aB (hK))
   ·have e:qA id on w s=0:=by unfold qA;rw[h1,if_neg (by decide),h2,if_neg (by decide),if_neg h3]
    cases h4:Ai on s
    ·cases h5:sI id s (s.1.length+1) on
     ·have e2:k8 id on w x s=qB id on w x s:=by unfold k8;rw[e,h4,h5];rfl
      rw[e,e2] at hK
      refine aJ Tryz.func199 ?_
      repeat' (first|refine Qk ?_|refine dw eV ?_|refine w5 ?_ ?_|((refine bh fun h=>?_) <;> try exact w6 h)|(refine aF fun hA=>?_;subst hA)|intro _|(show aA _ 240 _ _ _;refine CA (h:=fR ?_);rw[h1])|(show aA _ 239 _ _ _;refine CA (h:=j9 ?_);rw[h2])|(show aA _ 242 _ _ _;refine CA (h:=Aa h4 ?_))|(show aA _ 276 _ _ _;refine CA (h:=yC hr ?_);rw[h5])|(show aA _ 241 _ _ _;refine CA (h:=vZ hok (by omega) ?_)))
      all_goals(refine aC ?_;exact aB (hK))
     ·have e2:k8 id on w x s=qB id on w x (iX on (dD id s).on s):=by unfold k8;rw[e,h4,h5];rfl
      have hgl:=No (s:=s) (id:=on) (on:=(dD id s).on)
      rw[e,e2] at hK
      refine aJ Tryz.func199 ?_
      repeat' (first|refine Qk ?_|refine dw eV ?_|refine w5 ?_ ?_|((refine bh fun h=>?_) <;> try exact w6 h)|(refine aF fun hA=>?_;subst hA)|intro _|(show aA _ 240 _ _ _;refine CA (h:=fR ?_);rw[h1])|(show aA _ 239 _ _ _;refine CA (h:=j9 ?_);rw[h2])|(show aA _ 242 _ _ _;refine CA (h:=Aa h4 ?_))|(show aA _ 276 _ _ _;refine CA (h:=yC hr ?_);rw[h5])|(show aA _ 277 _ _ _;refine CA (h:=EB (on:=(dD id s).on) ?_))|(show aA _ 241 _ _ _;refine CA (h:=vZ (HI hok) (by omega) ?_))|(show aM _ _ _ _ _ _ _;first|(refine jO ?_ (hv:=qC);simp only[qW])|refine iQ ?_))
      all_goals(refine aC ?_;exact aB (hK))
    ·cases h5:sI id s (s.1.length+1) 0
     ·have e2:k8 id on w x s=qB id 0 w false s:=by unfold k8;rw[e,h4,h5];rfl
      rw[e,e2] at hK
      refine aJ Tryz.func199 ?_
      repeat' (first|refine Qk ?_|refine dw eV ?_|refine w5 ?_ ?_|((refine bh fun h=>?_) <;> try exact w6 h)|(refine aF fun hA=>?_;subst hA)|intro _|(show aA _ 240 _ _ _;refine CA (h:=fR ?_);rw[h1])|(show aA _ 239 _ _ _;refine CA (h:=j9 ?_);rw[h2])|(show aA _ 242 _ _ _;refine CA (h:=AG h4 ?_))|(show aA _ 276 _ _ _;refine CA (h:=yC hr ?_);rw[h5])|(show aA _ 241 _ _ _;refine CA (h:=vZ hok (by omega) ?_)))
      all_goals(refine aC ?_;exact aB (hK))
     ·have e2:k8 id on w x s=qB id 0 w false (iX 0 (dD id s).on s):=by unfold k8;rw[e,h4,h5];rfl
      have hgl:=No (s:=s) (id:=0) (on:=(dD id s).on)
      rw[e,e2] at hK
      refine aJ Tryz.func199 ?_
      repeat' (first|refine Qk ?_|refine dw eV ?_|refine w5 ?_ ?_|((refine bh fun h=>?_) <;> try exact w6 h)|(refine aF fun hA=>?_;subst hA)|intro _|(show aA _ 240 _ _ _;refine CA (h:=fR ?_);rw[h1])|(show aA _ 239 _ _ _;refine CA (h:=j9 ?_);rw[h2])|(show aA _ 242 _ _ _;refine CA (h:=AG h4 ?_))|(show aA _ 276 _ _ _;refine CA (h:=yC hr ?_);rw[h5])|(show aA _ 277 _ _ _;refine CA (h:=EB (on:=(dD id s).on) ?_))|(show aA _ 241 _ _ _;refine CA (h:=vZ (HI hok) (by omega) ?_))|(show aM _ _ _ _ _ _ _;first|(refine jO ?_ (hv:=qC);simp only[qW])|refine iQ ?_))
      all_goals(refine aC ?_;exact aB (hK))
end
end Go.Proofs.YtffnpejdkkohcaaGreat
