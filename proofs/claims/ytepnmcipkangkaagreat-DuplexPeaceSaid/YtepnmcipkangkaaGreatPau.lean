/- A part of the proof: lemmas; each with the conditions that it states. -/
import Derived.Test.YtepnmcipkangkaaGreatPas
import Derived.Test.YtepnmcipkangkaaGreatPar
set_option linter.unusedVariables false
set_option linter.unusedSimpArgs false
set_option maxRecDepth 100000
set_option maxHeartbeats 40000000
namespace Go.Proofs.YtepnmcipkangkaaGreat
open Go Go.Proofs Go.Sl
attribute [local irreducible] aN fJ cY bN aM aS aA dM dN aV dL pt ro fB star sep bF
attribute [local irreducible] mp CV
variable {R C:List HP} {K:KP} {id most low:Int} {p q ck:Nat} {x:Bool} {r:Int->Nat}
structure Nd where
 on:Int
 w:Int
def sG:Nd->Value:=fun n=>.agg #[I6 n.on,I6 n.w]
def Aon:List Value->Option Int
 | [.int .i64 y]=>some y
 |_=>none
theorem Aie (cs:List Value) (y:Int) (h:Aon cs=some y): [I6 y]=cs:=by
 unfold Aon at h
 split at h
 ·cases h;rfl
 ·cases h
def pM:u5 Int:= { enc:=fun n=> [I6 n],sz:=1,dec:=Aon,len:=fun _=>rfl,one:=fun _=>rfl,ok:=Aie }
def eA (id:Int) (l:List (KE Nd)):Bool:=(gZ id l).isSome
def Ao (on w:Int):Bool:=decide (0<=on) && decide (on<=2147483647) && decide (1<=w) && decide (w<=256)
def cC (id:Int) (l:List (KE Nd)):List Int:=Oq ((l.filter fun e=>decide (e.v.on=id)).map KE.k)
theorem Ahj {l:List (KE Nd)}:IZ true (.agg #[I6 0,I6 0]) (jJ id (kM sG l) 0)=.tuple #[sG ((gZ id l).getD ⟨0,0⟩),.bool (eA id l)]:=by
 rw[Xc]
 unfold eA
 cases gZ id l <;> rfl
theorem p6 {l:List (KE Nd)}:IZ false (.agg #[I6 0,I6 0]) (jJ id (kM sG l) 0)=sG ((gZ id l).getD ⟨0,0⟩):=by
 rw[Xc]
 cases gZ id l <;> rfl
theorem Q4 {A:Option Addr} {c n:Nat} {xs:List Int} (hn:xs.length=n) (hs:n<1000000000000000) (hK:K (.tuple #[]) (bV A c 3 pM (Oq xs)::R)):CT 124 #[.slice A n c] (bV A c 3 pM xs::R) K:=
 aA.ofSort Tryz.func124 rfl (by decide +kernel) (fun _=>rfl) (Any.slices_Sort_int Tryz.lays189) (Any.slices_Sort_int_none Tryz.lays189) aU.here hn hs hK
section
variable {on w:Int} {l:List (KE Nd)}
theorem kO (hK:K (.bool (Ao on w)) R):CT 337 #[.agg #[I6 on,I6 w,.bool x]] R K:=by
 refine aH Tryz.func337 ?_
 repeat' (first|refine v19 ?_|refine w5 ?_ ?_|((refine bh fun h=>?_) <;> try exact w6 h)|(refine aE fun hA=>?_;subst hA)|intro _)
 all_goals(refine aC ?_;exact aB (kb hK (by unfold Ao;simp <;> omega)))
theorem fO (hK:K (.bool (eA id l)) (pt p [I6 most,.map (some q)] 287::mp q (kM sG l) ck::R)):CT 338 #[PO p,I6 id] (pt p [I6 most,.map (some q)] 287::mp q (kM sG l) ck::R) K:=by
 refine aH Tryz.func338 ?_
 repeat' (first|refine v30 ?_|refine w5 ?_ ?_|((refine bh fun h=>?_) <;> try exact w6 h)|(refine aE fun hA=>?_;subst hA)|intro _|(show aN _ _ _ _ _ _ _;refine jS ?_ (hv:=Ahj)))
 all_goals(refine aC ?_;exact aB (hK))
theorem Cw (hok:SJ l ck) (hl:l.length<=100000) (hK:∀A c,K (.slice A (cC id l).length c) (bV A c 3 pM (cC id l)::pt p [I6 most,.map (some q)] 287::mp q (kM sG l) ck::R)):CT 373 #[PO p,I6 id] (pt p [I6 most,.map (some q)] 287::mp q (kM sG l) ck::R) K:=by
 obtain⟨hnd,hck⟩:=hok
 refine aH Tryz.func373 ?_
 repeat' (first|(show aN _ _ _ _ _ _ _;refine Ahx ?_;intro _)|refine SH ?_|refine w5 ?_ ?_|((refine bh fun h=>?_) <;> try exact w6 h)|(refine aE fun hA=>?_;subst hA)|intro _)
 rename_i it
 refine oR (aG.nilrow 3 pM _) ?_
 refine jG (fun kk a C'=>∃(os:List (KE Nd)) (ks:List Int) (seen:List Nat) (A:Option Addr) (c:Nat),Hk l seen<=kk/\seen.Nodup/\(∀e∈os,e∈l)/\ks=(os.filter fun e=>decide (e.v.on=id)).map KE.k/\seen=os.map KE.b/\dP a [(0,PO p),(1,I6 id),(5,.slice A ks.length c),(15,PO it)]/\C'=bV A c 3 pM ks::CV it q ck seen ck::pt p [I6 most,.map (some q)] 287::mp q (kM sG l) ck::R) (Hk l []) (cN (Hk l []) ⟨[],[],[],none,0,Nat.le_refl _,List.nodup_nil,(fun e he=>by cases he),rfl,rfl,⟨rfl,rfl,rfl,rfl,trivial⟩,rfl⟩ (by omega)) ?_
 rintro kk a C' ⟨os,ks,seen,A,c,hk,hno,hos,hks,hse,ha,rfl⟩
 have hle:=Aps (by rw[<- hse];exact hno) hos
 have hlk:ks.length<=os.length:=by rw[hks,List.length_map];exact List.length_filter_le _ _
 refine iT _ ha ?_
 simp only[gH]
 repeat' (first|refine SH ?_|refine w5 ?_ ?_|((refine bh fun h=>?_) <;> try exact w6 h)|(refine aE fun hA=>?_;subst hA)|intro _)
 refine Aof (fun e he hn=>?_) (fun hs=>?_) rfl (by(repeat (first|exact aU.here|apply aU.there)) <;> exact aU.here) ⟨_,by((repeat (first|exact aU.here|apply aU.there)) <;> exact aU.here)⟩ (fun e he=>by obtain⟨z,hz,rfl⟩:=List.mem_map.1 he;exact hck z hz) (by
  cases l with
  |nil=>exact .inr (.inl rfl)
  |cons z l=>exact .inr (.inr ⟨⟨z.k,sG z.v,z.b⟩,List.mem_cons_self ..,hck z (List.mem_cons_self ..)⟩)) (by exact rfl)
 ·obtain⟨e0,he0,rfl⟩:=List.mem_map.1 he
  have hn:e0.b ∉ seen:=hn
  have hfb:=Aj7 (enc:=sG) hnd he0
  have hlt:=SV he0 hn
  have hnn:(seen++ [e0.b]).Nodup:=List.nodup_append.2 ⟨hno,by simp,fun b hb b' hb' he=>by
   rw[List.mem_singleton] at hb'
   subst hb' he
   exact hn hb⟩
  have hmm:∀e∈os++ [e0],e∈l:=fun e he=>by
   rcases List.mem_append.1 he with he|he
   ·exact hos e he
   ·rw[List.mem_singleton.1 he];exact he0
  refine FQ rfl ?_
  by_cases ho:e0.v.on=id
  ·repeat' (first|(show aN _ _ _ _ _ _ _;first|refine Wz ?_ (he:=hfb)|(refine dD (E:=pM) (xs:=ks) (ys:= [e0.k]) ?_;intro _ _))|refine SH ?_|refine w5 ?_ ?_|((refine bh fun h=>?_) <;> try exact w6 h)|(refine aE fun hA=>?_;subst hA)|intro _)
   all_goals exact cN (Hk l (seen++ [e0.b])) ⟨os++ [e0],ks++ [e0.k],seen++ [e0.b],_,_,Nat.le_refl _,hnn,hmm,by rw[hks];simp[ho],by rw[hse];simp,⟨rfl,rfl,rfl,rfl,trivial⟩,rfl⟩ (Nat.lt_of_lt_of_le hlt hk)
  ·repeat' (first|(show aN _ _ _ _ _ _ _;refine Wz ?_ (he:=hfb))|refine SH ?_|refine w5 ?_ ?_|((refine bh fun h=>?_) <;> try exact w6 h)|(refine aE fun hA=>?_;subst hA)|intro _)
   all_goals exact cN (Hk l (seen++ [e0.b])) ⟨os++ [e0],ks,seen++ [e0.b],_,_,Nat.le_refl _,hnn,hmm,by rw[hks];simp[ho],by rw[hse];simp,⟨rfl,rfl,rfl,rfl,trivial⟩,rfl⟩ (Nat.lt_of_lt_of_le hlt hk)
 ·refine FQ rfl ?_
  have hpm:os.Perm l:=Akz hnd (by rw[<- hse];exact hno) hos fun e he=>by rw[<- hse];exact hs ⟨e.k,sG e.v,e.b⟩ (List.mem_map_of_mem (f:=fun e:KE Nd=>(⟨e.k,sG e.v,e.b⟩:lP)) he)
  have hsr:Oq ks=cC id l:=by
   rw[hks]
   exact ZW ((hpm.filter _).map KE.k)
  have hlen:(cC id l).length=ks.length:=by rw[<- hsr,Bc]
  rw[hlen] at hK
  repeat' (first|refine SH ?_|refine w5 ?_ ?_|((refine bh fun h=>?_) <;> try exact w6 h)|(refine aE fun hA=>?_;subst hA)|intro _|(show aA _ 124 _ _ _;refine CA (h:=Q4 (xs:=ks) rfl (by omega) ?_);rw[hsr]))
  all_goals(refine aC ?_;exact aB (hK _ _))
end
abbrev eW:=List (KE Nd)×Nat
def fN (id:Int) (n:Nd) (s:eW):eW:=(uK id n s.2 s.1,kCk id s.2 s.1)
def dH (id:Int) (s:eW):Nd:=(gZ id s.1).getD ⟨0,0⟩
def jC (id on:Int) (s:eW):eW:=fN id ⟨on,(dH id s).w⟩ s
def i4 (id:Int):List Int->eW->eW
 | [],s=>s
 |k::r,s=>i4 id r (if k=id then s else jC k id s)
def qT (id on w:Int) (x:Bool) (s:eW):eW:=fN id ⟨on,w⟩ (if x=true then i4 id (cC on s.1) s else s)
def BL (on:Int) (s:eW):Bool:=decide (on≠0) && !eA on s.1
theorem TJ {k:Int} {ks:List Int} {j:Nat} {s:eW} (h:ks[j]?=some k):i4 id (ks.drop j) s=i4 id (ks.drop (j+1)) (if k=id then s else jC k id s):=by
 have hj:=(List.getElem?_eq_some_iff.1 h).1
 rw[List.drop_eq_getElem_cons hj,(List.getElem?_eq_some_iff.1 h).2]
 rfl
section
variable {on w:Int} {s:eW}
theorem Bl (h:BL on s=true) (hK:K (.agg #[I6 0,I6 w,.bool false]) (pt p [I6 most,.map (some q)] 287::mp q (kM sG s.1) s.2::R)):CT 340 #[PO p,.agg #[I6 on,I6 w,.bool x]] (pt p [I6 most,.map (some q)] 287::mp q (kM sG s.1) s.2::R) K:=by
 unfold BL at h
 rw[Bool.and_eq_true,decide_eq_true_eq,Bool.not_eq_true'] at h
 obtain⟨h1,h2⟩:=h
 refine aH Tryz.func340 ?_
 repeat' (first|refine HN ?_|refine w5 ?_ ?_|((refine bh fun h=>?_) <;> try exact w6 h)|(refine aE fun hA=>?_;subst hA)|intro _|(show aA _ 338 _ _ _;refine CA (h:=fO ?_);rw[h2]))
 all_goals(refine aC ?_;exact aB (hK))
theorem BP (h:BL on s=false) (hK:K (.agg #[I6 on,I6 w,.bool x]) (pt p [I6 most,.map (some q)] 287::mp q (kM sG s.1) s.2::R)):CT 340 #[PO p,.agg #[I6 on,I6 w,.bool x]] (pt p [I6 most,.map (some q)] 287::mp q (kM sG s.1) s.2::R) K:=by
 unfold BL at h
 by_cases h1:on=0
 ·subst h1
  refine aH Tryz.func340 ?_
  repeat' (first|refine HN ?_|refine w5 ?_ ?_|((refine bh fun h=>?_) <;> try exact w6 h)|(refine aE fun hA=>?_;subst hA)|intro _)
  all_goals(refine aC ?_;exact aB (hK))
 ·have h2:eA on s.1=true:=by simpa[h1] using h
  refine aH Tryz.func340 ?_
  repeat' (first|refine HN ?_|refine w5 ?_ ?_|((refine bh fun h=>?_) <;> try exact w6 h)|(refine aE fun hA=>?_;subst hA)|intro _|(show aA _ 338 _ _ _;refine CA (h:=fO ?_);rw[h2]))
  all_goals(refine aC ?_;exact aB (hK))
def Eb:List (Nat×Nat):= [(6,0),(7,0),(8,0),(9,0),(10,0),(11,1),(0,1),(1,1),(2,1),(3,1),(4,1),(5,1),(12,0),(13,0),(14,1)]
theorem F4 (hK:K (.tuple #[]) (pt p [I6 most,.map (some q)] 287::mp q (kM sG (jC id on s).1) (jC id on s).2::R)):CT 357 #[PO p,I6 id,I6 on] (pt p [I6 most,.map (some q)] 287::mp q (kM sG s.1) s.2::R) K:=by
 simp only[jC,fN,dH] at hK
 refine aH Tryz.func357 ?_
 repeat' (first|refine v25 ?_|refine dw Eb ?_|refine w5 ?_ ?_|((refine bh fun h=>?_) <;> try exact w6 h)|(refine aE fun hA=>?_;subst hA)|intro _|(show aN _ _ _ _ _ _ _;first|(refine jS ?_ (hv:=p6);simp only[sG])|refine iD ?_|refine lA ?_ (hv:=Rs (enc:=sG) (v:=⟨on,_⟩)) (hu:=by exact rfl)))
 all_goals(refine aC ?_;exact aB (hK))
theorem Ho (hK:K (I6 (if eA id s.1=true then(dH id s).w else 0)) (pt p [I6 most,.map (some q)] 287::mp q (kM sG s.1) s.2::R)):CT 281 #[PO p,I6 id] (pt p [I6 most,.map (some q)] 287::mp q (kM sG s.1) s.2::R) K:=by
 cases h:eA id s.1
 ·rw[h,if_neg (by decide)] at hK
  refine aH Tryz.func281 ?_
  repeat' (first|refine Kv ?_|refine w5 ?_ ?_|((refine bh fun h=>?_) <;> try exact w6 h)|(refine aE fun hA=>?_;subst hA)|intro _|(show aA _ 338 _ _ _;refine CA (h:=fO ?_);rw[h]))
  all_goals(refine aC ?_;exact aB (hK))
 ·rw[h,if_pos rfl] at hK
  simp only[dH] at hK
  refine aH Tryz.func281 ?_
  repeat' (first|refine Kv ?_|refine w5 ?_ ?_|((refine bh fun h=>?_) <;> try exact w6 h)|(refine aE fun hA=>?_;subst hA)|intro _|(show aA _ 338 _ _ _;refine CA (h:=fO ?_);rw[h])|(show aN _ _ _ _ _ _ _;first|(refine jS ?_ (hv:=p6);simp only[sG])|refine iD ?_))
  all_goals(refine aC ?_;exact aB (hK))
end
theorem Fc {n:Nd}:∀ {l:List (KE Nd)} {ck:Nat},SJ l ck->SJ (uK id n ck l) (kCk id ck l):=fun {l ck} h=>by
 obtain⟨h1,h2⟩:=h
 unfold kCk
 cases hg:(gZ id l).isSome
 ·have hg':gZ id l=none:=by simpa using hg
  rw[EG hg',if_neg (by decide)]
  refine⟨?_,fun e he=>?_⟩
  ·rw[List.map_append]
   refine List.nodup_append.2 ⟨h1,by simp,?_⟩
   intro b hb b' hb' he
   obtain⟨z,hz,rfl⟩:=List.mem_map.1 hb
   have:=h2 z hz
   simp at hb'
   omega
  ·rcases List.mem_append.1 he with he|he
   ·have:=h2 e he;omega
   ·rw[List.mem_singleton.1 he];exact Nat.lt_succ_self _
 ·rw[if_pos rfl]
  have key:∀l:List (KE Nd),(gZ id l).isSome=true->(uK id n ck l).map KE.b=l.map KE.b:=by
   intro l
   induction l with
   |nil=>intro h;cases h
   |cons e r ih=>
    intro h
    unfold uK
    by_cases hk:id=e.k
    ·rw[if_pos hk];rfl
    ·rw[if_neg hk,List.map_cons,List.map_cons,ih (by unfold gZ at h;rwa[if_neg hk] at h)]
  have hb:=key l hg
  refine⟨by rw[hb];exact h1,fun e he=>?_⟩
  have hm:e.b∈l.map KE.b:=by rw[<- hb];exact List.mem_map_of_mem he
  obtain⟨z,hz,hzb⟩:=List.mem_map.1 hm
  rw[<- hzb]
  exact h2 z hz
section
variable {on w:Int} {s:eW}
def jQ:List (Nat×Nat):= [(0,0),(1,0),(2,0),(3,0),(4,0),(5,0),(6,0),(7,0),(8,0),(9,0),(10,1)]
theorem yF (hok:SJ s.1 s.2) (hl:s.1.length<=100000) (hK:K (.tuple #[]) (pt p [I6 most,.map (some q)] 287::mp q (kM sG (qT id on w x s).1) (qT id on w x s).2::R)):CT 339 #[PO p,I6 id,.agg #[I6 on,I6 w,.bool x]] (pt p [I6 most,.map (some q)] 287::mp q (kM sG s.1) s.2::R) K:=by
 cases x with
 |false=>
  simp only[qT,fN,Bool.false_eq_true,if_false] at hK
  refine aH Tryz.func339 ?_
  repeat' (first|refine v60 ?_|refine dw jQ ?_|refine w5 ?_ ?_|((refine bh fun h=>?_) <;> try exact w6 h)|(refine aE fun hA=>?_;subst hA)|intro _|(show aN _ _ _ _ _ _ _;refine lA ?_ (hv:=Rs (enc:=sG) (v:=⟨on,w⟩)) (hu:=by exact rfl)))
  all_goals(refine aC ?_;exact aB (hK))
 |true=>
  simp only[qT,if_true] at hK
  generalize hks:cC on s.1=ks at hK
  have hkl:ks.length<=100000:=by
   rw[<- hks]
   unfold cC
   rw[Bc,List.length_map]
   exact Nat.le_trans (List.length_filter_le _ _) hl
  refine aH Tryz.func339 ?_
  repeat' (first|refine v60 ?_|refine dw jQ ?_|refine w5 ?_ ?_|((refine bh fun h=>?_) <;> try exact w6 h)|(refine aE fun hA=>?_;subst hA)|intro _|(show aA _ 373 _ _ _;refine CA (h:=Cw hok hl (fun A c=>?_));rw[hks]))
  rename_i r5
  refine jG (fun kk a C'=>∃(j:Nat) (s':eW),j+kk=ks.length/\i4 id (ks.drop j) s'=i4 id ks s/\dP a [(0,PO p),(1,I6 id),(5,PO r5),(13,.slice A ks.length c),(14,I6 ks.length),(15,I6 j)]/\C'=bV A c 3 pM ks::pt r5 [I6 on,I6 w,.bool true] 32::pt p [I6 most,.map (some q)] 287::mp q (kM sG s'.1) s'.2::R) ks.length (cN ks.length ⟨0,s,by omega,rfl,⟨rfl,rfl,rfl,rfl,rfl,rfl,trivial⟩,rfl⟩ (by omega)) ?_
  rintro kk a C' ⟨j,s',hj,hs,ha,rfl⟩
  refine iT _ ha ?_
  simp only[gH]
  by_cases hlt:j<ks.length
  ·obtain⟨k,hk⟩:∃k,ks[j]?=some k:=⟨_,List.getElem?_eq_getElem hlt⟩
   rw[TJ hk] at hs
   by_cases he:k=id
   ·subst he
    rw[if_pos rfl] at hs
    repeat' (first|refine v60 ?_|refine dw jQ ?_|refine w5 ?_ ?_|((refine bh fun h=>?_) <;> try exact w6 h)|(refine aE fun hA=>?_;subst hA)|intro _)
    all_goals(show aV _ _ _ _;exact cN (kk - 1) ⟨j+1,s',by omega,hs,⟨rfl,rfl,rfl,rfl,rfl,rfl,trivial⟩,rfl⟩)
   ·rw[if_neg he] at hs
    repeat' (first|refine v60 ?_|refine dw jQ ?_|refine w5 ?_ ?_|((refine bh fun h=>?_) <;> try exact w6 h)|(refine aE fun hA=>?_;subst hA)|intro _|(show aA _ 357 _ _ _;refine CA (h:=F4 ?_)))
    all_goals(show aV _ _ _ _;exact cN (kk - 1) ⟨j+1,_,by omega,hs,⟨rfl,rfl,rfl,rfl,rfl,rfl,trivial⟩,rfl⟩)
  ·rw[List.drop_eq_nil_of_le (by omega)] at hs
   have hs:s'=i4 id ks s:=hs
   subst hs
   simp only[fN] at hK
   repeat' (first|refine v60 ?_|refine dw jQ ?_|refine w5 ?_ ?_|((refine bh fun h=>?_) <;> try exact w6 h)|(refine aE fun hA=>?_;subst hA)|intro _|(show aN _ _ _ _ _ _ _;refine lA ?_ (hv:=Rs (enc:=sG) (v:=⟨on,w⟩)) (hu:=by exact rfl)))
   all_goals(refine aC ?_;exact aB (hK))
def nO (id on w:Int) (most:Int) (s:eW):Int:=if id<1\/2147483647<id\/Ao on w=false then 2 else if on=id then 12 else if eA id s.1=true then 8 else if most<=(s.1.length:Nat) then 16 else 0
def nY (id on w:Int) (x:Bool) (most:Int) (s:eW):eW:=if nO id on w most s≠0 then s else if BL on s=true then qT id 0 w false s else qT id on w x s
def eM:List (Nat×Nat):= [(0,0),(1,0),(2,0),(3,0),(4,0),(5,0),(6,0),(7,0),(8,0),(9,0),(10,0)]
theorem G3 (hok:SJ s.1 s.2) (hl:s.1.length<=100000) (hm:0<=most/\most<=100000) (hK:K (I6 (nO id on w most s)) (pt p [I6 most,.map (some q)] 287::mp q (kM sG (nY id on w x most s).1) (nY id on w x most s).2::R)):CT 234 #[PO p,I6 id,.agg #[I6 on,I6 w,.bool x]] (pt p [I6 most,.map (some q)] 287::mp q (kM sG s.1) s.2::R) K:=by
 have hkl:(kM sG s.1).length=s.1.length:=by simp[kM]
 by_cases h1:id<1\/2147483647<id
 ·have e:nO id on w most s=2:=by unfold nO;rw[if_pos (by omega)]
  have e2:nY id on w x most s=s:=by unfold nY;rw[e];rfl
  rw[e,e2] at hK
  refine aH Tryz.func234 ?_
  repeat' (first|refine v44 ?_|refine dw eM ?_|refine w5 ?_ ?_|((refine bh fun h=>?_) <;> try exact w6 h)|(refine aE fun hA=>?_;subst hA)|intro _|(show aA _ 337 _ _ _;refine CA (h:=kO ?_)))
  all_goals(refine aC ?_;exact aB (hK))
 ·cases h2:Ao on w
  ·have e:nO id on w most s=2:=by unfold nO;rw[h2,if_pos (by simp)]
   have e2:nY id on w x most s=s:=by unfold nY;rw[e];rfl
   rw[e,e2] at hK
   refine aH Tryz.func234 ?_
   repeat' (first|refine v44 ?_|refine dw eM ?_|refine w5 ?_ ?_|((refine bh fun h=>?_) <;> try exact w6 h)|(refine aE fun hA=>?_;subst hA)|intro _|(show aA _ 337 _ _ _;refine CA (h:=kO ?_);rw[h2]))
   all_goals(refine aC ?_;exact aB (hK))
  ·have e1:¬(id<1\/2147483647<id\/Ao on w=false):=by rw[h2];simp;omega
   by_cases h3:on=id
   ·have e:nO id on w most s=12:=by unfold nO;rw[if_neg e1,if_pos h3]
    have e2:nY id on w x most s=s:=by unfold nY;rw[e];rfl
    rw[e,e2] at hK
    refine aH Tryz.func234 ?_
    repeat' (first|refine v44 ?_|refine dw eM ?_|refine w5 ?_ ?_|((refine bh fun h=>?_) <;> try exact w6 h)|(refine aE fun hA=>?_;subst hA)|intro _|(show aA _ 337 _ _ _;refine CA (h:=kO ?_);rw[h2]))
    all_goals(refine aC ?_;exact aB (hK))
   ·cases h4:eA id s.1
    ·by_cases h5:most<=(s.1.length:Nat)
     ·have e:nO id on w most s=16:=by unfold nO;rw[if_neg e1,if_neg h3,h4,if_neg (by decide),if_pos h5]
      have e2:nY id on w x most s=s:=by unfold nY;rw[e];rfl
      rw[e,e2] at hK
      refine aH Tryz.func234 ?_
      repeat' (first|(show aN _ _ _ _ _ _ _;refine Kk ?_)|refine v44 ?_|refine dw eM ?_|refine w5 ?_ ?_|((refine bh fun h=>?_) <;> try exact w6 h)|(refine aE fun hA=>?_;subst hA)|intro _|(show aA _ 337 _ _ _;refine CA (h:=kO ?_);rw[h2])|(show aA _ 338 _ _ _;refine CA (h:=fO ?_);rw[h4]))
      all_goals(refine aC ?_;exact aB (hK))
     ·have e:nO id on w most s=0:=by unfold nO;rw[if_neg e1,if_neg h3,h4,if_neg (by decide),if_neg h5]
      cases h6:BL on s
      ·have e2:nY id on w x most s=qT id on w x s:=by unfold nY;rw[e,h6];rfl
       rw[e,e2] at hK
       refine aH Tryz.func234 ?_
       repeat' (first|(show aN _ _ _ _ _ _ _;refine Kk ?_)|refine v44 ?_|refine dw eM ?_|refine w5 ?_ ?_|((refine bh fun h=>?_) <;> try exact w6 h)|(refine aE fun hA=>?_;subst hA)|intro _|(show aA _ 337 _ _ _;refine CA (h:=kO ?_);rw[h2])|(show aA _ 338 _ _ _;refine CA (h:=fO ?_);rw[h4])|(show aA _ 340 _ _ _;refine CA (h:=BP h6 ?_))|(show aA _ 339 _ _ _;refine CA (h:=yF hok hl ?_)))
       all_goals(refine aC ?_;exact aB (hK))
      ·have e2:nY id on w x most s=qT id 0 w false s:=by unfold nY;rw[e,h6];rfl
       rw[e,e2] at hK
       refine aH Tryz.func234 ?_
       repeat' (first|(show aN _ _ _ _ _ _ _;refine Kk ?_)|refine v44 ?_|refine dw eM ?_|refine w5 ?_ ?_|((refine bh fun h=>?_) <;> try exact w6 h)|(refine aE fun hA=>?_;subst hA)|intro _|(show aA _ 337 _ _ _;refine CA (h:=kO ?_);rw[h2])|(show aA _ 338 _ _ _;refine CA (h:=fO ?_);rw[h4])|(show aA _ 340 _ _ _;refine CA (h:=Bl h6 ?_))|(show aA _ 339 _ _ _;refine CA (h:=yF hok hl ?_)))
       all_goals(refine aC ?_;exact aB (hK))
    ·have e:nO id on w most s=8:=by unfold nO;rw[if_neg e1,if_neg h3,h4,if_pos rfl]
     have e2:nY id on w x most s=s:=by unfold nY;rw[e];rfl
     rw[e,e2] at hK
     refine aH Tryz.func234 ?_
     repeat' (first|refine v44 ?_|refine dw eM ?_|refine w5 ?_ ?_|((refine bh fun h=>?_) <;> try exact w6 h)|(refine aE fun hA=>?_;subst hA)|intro _|(show aA _ 337 _ _ _;refine CA (h:=kO ?_);rw[h2])|(show aA _ 338 _ _ _;refine CA (h:=fO ?_);rw[h4]))
     all_goals(refine aC ?_;exact aB (hK))
end
def SY (r:Int->Nat) (s:eW):Prop:=∀id,eA id s.1=true->eA (dH id s).on s.1=true->r (dH id s).on<r id
def sY (id:Int) (s:eW):Nat->Int->Bool
 |0,_=>false
 |n+1,low=>if eA low s.1=true then(if(dH low s).on=id then true else sY id s n (dH low s).on) else false
theorem xX {l:List (KE Nd)} (h:(gZ id l).isSome=true):id∈l.map KE.k:=by
 induction l with
 |nil=>cases h
 |cons e r ih=>
  unfold gZ at h
  by_cases hk:id=e.k
  ·rw[hk];exact List.mem_cons_self ..
  ·rw[if_neg hk] at h
   exact List.mem_cons_of_mem _ (ih h)
section
variable {on w:Int} {s:eW}
theorem z8 (hr:SY r s) (hK:K (.bool (sY id s (s.1.length+1) low)) (pt p [I6 most,.map (some q)] 287::mp q (kM sG s.1) s.2::R)):CT 356 #[PO p,I6 id,I6 low] (pt p [I6 most,.map (some q)] 287::mp q (kM sG s.1) s.2::R) K:=by
 refine aH Tryz.func356 ?_
 repeat' (first|refine v10 ?_|refine w5 ?_ ?_|((refine bh fun h=>?_) <;> try exact w6 h)|(refine aE fun hA=>?_;subst hA)|intro _)
 refine jG (fun kk a C'=>∃(seen:List Int) (lw:Int),seen.length+kk=s.1.length/\seen.Nodup/\(∀z∈seen,z∈s.1.map KE.k/\(eA lw s.1=true->r lw<r z))/\sY id s (kk+1) lw=sY id s (s.1.length+1) low/\dP a [(0,PO p),(1,I6 id),(2,I6 lw)]/\C'=pt p [I6 most,.map (some q)] 287::mp q (kM sG s.1) s.2::R) s.1.length (cN s.1.length ⟨[],low,by simp,List.nodup_nil,(fun z hz=>by cases hz),rfl,⟨rfl,rfl,rfl,trivial⟩,rfl⟩ (by omega)) ?_
 rintro kk a C' ⟨seen,lw,hk,hnd,hse,hab,ha,rfl⟩
 refine iT _ ha ?_
 simp only[gH]
 rw[<- hab] at hK
 cases hh:eA lw s.1
 ·have e:sY id s (kk+1) lw=false:=by unfold sY;rw[hh,if_neg (by decide)]
  rw[e] at hK
  repeat' (first|refine v10 ?_|refine w5 ?_ ?_|((refine bh fun h=>?_) <;> try exact w6 h)|(refine aE fun hA=>?_;subst hA)|intro _|(show aA _ 338 _ _ _;refine CA (h:=fO ?_);rw[hh]))
  all_goals(refine aC ?_;exact aB (hK))
 ·have hns:lw ∉ seen:=fun hm=>by have:=(hse lw hm).2 hh;omega
  have hlk:lw∈s.1.map KE.k:=xX hh
  have hlen:(lw::seen).length<=(s.1.map KE.k).length:=List.Nodup.length_le_of_subset (List.nodup_cons.2 ⟨hns,hnd⟩) (fun z hz=>by
   rcases List.mem_cons.1 hz with rfl|hz
   ·exact hlk
   ·exact(hse z hz).1)
  rw[List.length_map,List.length_cons] at hlen
  have hnx:∀z∈lw::seen,z∈s.1.map KE.k/\(eA (dH lw s).on s.1=true->r (dH lw s).on<r z):=fun z hz=>by
   rcases List.mem_cons.1 hz with rfl|hz
   ·exact⟨hlk,fun q=>hr _ hh q⟩
   ·exact⟨(hse z hz).1,fun q=>Nat.lt_trans (hr _ hh q) ((hse z hz).2 hh)⟩
  by_cases ho:(dH lw s).on=id
  ·have e:sY id s (kk+1) lw=true:=by unfold sY;rw[hh,if_pos rfl,if_pos ho]
   rw[e] at hK
   simp only[dH] at ho
   repeat' (first|refine v10 ?_|refine w5 ?_ ?_|((refine bh fun h=>?_) <;> try exact w6 h)|(refine aE fun hA=>?_;subst hA)|intro _|(show aA _ 338 _ _ _;refine CA (h:=fO ?_);rw[hh])|(show aN _ _ _ _ _ _ _;first|(refine jS ?_ (hv:=p6);simp only[sG])|refine iD ?_))
   all_goals(refine aC ?_;exact aB (hK))
  ·have e:sY id s (kk+1) lw=sY id s kk (dH lw s).on:=by
    conv=>lhs;unfold sY
    rw[hh,if_pos rfl,if_neg ho]
   have ho':=ho
   simp only[dH] at ho'
   obtain⟨k1,rfl⟩:∃k1,kk=k1+1:=⟨kk - 1,by omega⟩
   repeat' (first|refine v10 ?_|refine w5 ?_ ?_|((refine bh fun h=>?_) <;> try exact w6 h)|(refine aE fun hA=>?_;subst hA)|intro _|(show aA _ 338 _ _ _;refine CA (h:=fO ?_);rw[hh])|(show aN _ _ _ _ _ _ _;first|(refine jS ?_ (hv:=p6);simp only[sG])|refine iD ?_))
   all_goals(show aV _ _ _ _;exact cN k1 ⟨lw::seen,(dH lw s).on,by rw[List.length_cons];omega,List.nodup_cons.2 ⟨hns,hnd⟩,hnx,by rw[<- hab,e],⟨rfl,rfl,rfl,trivial⟩,rfl⟩)
def qJ (id on w:Int) (s:eW):Int:=if eA id s.1=false then 7 else if Ao on w=false then 2 else if on=id then 12 else 0
def lC (id on w:Int) (x:Bool) (s:eW):eW:=if qJ id on w s≠0 then s else if BL on s=true then(if sY id s (s.1.length+1) 0=true then qT id 0 w false (jC 0 (dH id s).on s) else qT id 0 w false s) else(if sY id s (s.1.length+1) on=true then qT id on w x (jC on (dH id s).on s) else qT id on w x s)
theorem IQ {on:Int} (h:SJ s.1 s.2):SJ (jC id on s).1 (jC id on s).2:=Fc h
theorem I9 {id:Int} {n:Nd} {ck:Nat}:∀l:List (KE Nd),(uK id n ck l).length<=l.length+1
 | []=>Nat.le_refl _
 |e::r=>by
  unfold uK
  split
  ·simp
  ·have:=I9 (id:=id) (n:=n) (ck:=ck) r
   simp only[List.length_cons]
   omega
theorem Pd {on:Int}:(jC id on s).1.length<=s.1.length+1:=I9 _
def eV:List (Nat×Nat):= [(3,0),(4,0),(5,0),(6,0),(7,0),(8,1),(0,1),(1,1),(2,1),(9,0),(10,1)]
theorem Mn (hok:SJ s.1 s.2) (hl:s.1.length<=1000) (hr:SY r s) (hK:K (I6 (qJ id on w s)) (pt p [I6 most,.map (some q)] 287::mp q (kM sG (lC id on w x s).1) (lC id on w x s).2::R)):CT 249 #[PO p,I6 id,.agg #[I6 on,I6 w,.bool x]] (pt p [I6 most,.map (some q)] 287::mp q (kM sG s.1) s.2::R) K:=by
 cases h1:eA id s.1
 ·have e:qJ id on w s=7:=by unfold qJ;rw[h1,if_pos rfl]
  have e2:lC id on w x s=s:=by unfold lC;rw[e];rfl
  rw[e,e2] at hK
  refine aH Tryz.func249 ?_
  repeat' (first|refine SE ?_|refine dw eV ?_|refine w5 ?_ ?_|((refine bh fun h=>?_) <;> try exact w6 h)|(refine aE fun hA=>?_;subst hA)|intro _|(show aA _ 338 _ _ _;refine CA (h:=fO ?_);rw[h1]))
  all_goals(refine aC ?_;exact aB (hK))
 ·cases h2:Ao on w
  ·have e:qJ id on w s=2:=by unfold qJ;rw[h1,if_neg (by decide),h2,if_pos rfl]
   have e2:lC id on w x s=s:=by unfold lC;rw[e];rfl
   rw[e,e2] at hK
   refine aH Tryz.func249 ?_
   repeat' (first|refine SE ?_|refine dw eV ?_|refine w5 ?_ ?_|((refine bh fun h=>?_) <;> try exact w6 h)|(refine aE fun hA=>?_;subst hA)|intro _|(show aA _ 338 _ _ _;refine CA (h:=fO ?_);rw[h1])|(show aA _ 337 _ _ _;refine CA (h:=kO ?_);rw[h2]))
   all_goals(refine aC ?_;exact aB (hK))
  ·by_cases h3:on=id
   ·have e:qJ id on w s=12:=by unfold qJ;rw[h1,if_neg (by decide),h2,if_neg (by decide),if_pos h3]
    have e2:lC id on w x s=s:=by unfold lC;rw[e];rfl
    rw[e,e2] at hK
    refine aH Tryz.func249 ?_
    repeat' (first|refine SE ?_|refine dw eV ?_|refine w5 ?_ ?_|((refine bh fun h=>?_) <;> try exact w6 h)|(refine aE fun hA=>?_;subst hA)|intro _|(show aA _ 338 _ _ _;refine CA (h:=fO ?_);rw[h1])|(show aA _ 337 _ _ _;refine CA (h:=kO ?_);rw[h2]))
    all_goals(refine aC ?_;exact aB (hK))
   ·have e:qJ id on w s=0:=by unfold qJ;rw[h1,if_neg (by decide),h2,if_neg (by decide),if_neg h3]
    cases h4:BL on s
    ·cases h5:sY id s (s.1.length+1) on
     ·have e2:lC id on w x s=qT id on w x s:=by unfold lC;rw[e,h4,h5];rfl
      rw[e,e2] at hK
      refine aH Tryz.func249 ?_
      repeat' (first|refine SE ?_|refine dw eV ?_|refine w5 ?_ ?_|((refine bh fun h=>?_) <;> try exact w6 h)|(refine aE fun hA=>?_;subst hA)|intro _|(show aA _ 338 _ _ _;refine CA (h:=fO ?_);rw[h1])|(show aA _ 337 _ _ _;refine CA (h:=kO ?_);rw[h2])|(show aA _ 340 _ _ _;refine CA (h:=BP h4 ?_))|(show aA _ 356 _ _ _;refine CA (h:=z8 hr ?_);rw[h5])|(show aA _ 339 _ _ _;refine CA (h:=yF hok (by omega) ?_)))
      all_goals(refine aC ?_;exact aB (hK))
     ·have e2:lC id on w x s=qT id on w x (jC on (dH id s).on s):=by unfold lC;rw[e,h4,h5];rfl
      have hgl:=Pd (s:=s) (id:=on) (on:=(dH id s).on)
      rw[e,e2] at hK
      refine aH Tryz.func249 ?_
      repeat' (first|refine SE ?_|refine dw eV ?_|refine w5 ?_ ?_|((refine bh fun h=>?_) <;> try exact w6 h)|(refine aE fun hA=>?_;subst hA)|intro _|(show aA _ 338 _ _ _;refine CA (h:=fO ?_);rw[h1])|(show aA _ 337 _ _ _;refine CA (h:=kO ?_);rw[h2])|(show aA _ 340 _ _ _;refine CA (h:=BP h4 ?_))|(show aA _ 356 _ _ _;refine CA (h:=z8 hr ?_);rw[h5])|(show aA _ 357 _ _ _;refine CA (h:=F4 (on:=(dH id s).on) ?_))|(show aA _ 339 _ _ _;refine CA (h:=yF (IQ hok) (by omega) ?_))|(show aN _ _ _ _ _ _ _;first|(refine jS ?_ (hv:=p6);simp only[sG])|refine iD ?_))
      all_goals(refine aC ?_;exact aB (hK))
    ·cases h5:sY id s (s.1.length+1) 0
     ·have e2:lC id on w x s=qT id 0 w false s:=by unfold lC;rw[e,h4,h5];rfl
      rw[e,e2] at hK
      refine aH Tryz.func249 ?_
      repeat' (first|refine SE ?_|refine dw eV ?_|refine w5 ?_ ?_|((refine bh fun h=>?_) <;> try exact w6 h)|(refine aE fun hA=>?_;subst hA)|intro _|(show aA _ 338 _ _ _;refine CA (h:=fO ?_);rw[h1])|(show aA _ 337 _ _ _;refine CA (h:=kO ?_);rw[h2])|(show aA _ 340 _ _ _;refine CA (h:=Bl h4 ?_))|(show aA _ 356 _ _ _;refine CA (h:=z8 hr ?_);rw[h5])|(show aA _ 339 _ _ _;refine CA (h:=yF hok (by omega) ?_)))
      all_goals(refine aC ?_;exact aB (hK))
     ·have e2:lC id on w x s=qT id 0 w false (jC 0 (dH id s).on s):=by unfold lC;rw[e,h4,h5];rfl
      have hgl:=Pd (s:=s) (id:=0) (on:=(dH id s).on)
      rw[e,e2] at hK
      refine aH Tryz.func249 ?_
      repeat' (first|refine SE ?_|refine dw eV ?_|refine w5 ?_ ?_|((refine bh fun h=>?_) <;> try exact w6 h)|(refine aE fun hA=>?_;subst hA)|intro _|(show aA _ 338 _ _ _;refine CA (h:=fO ?_);rw[h1])|(show aA _ 337 _ _ _;refine CA (h:=kO ?_);rw[h2])|(show aA _ 340 _ _ _;refine CA (h:=Bl h4 ?_))|(show aA _ 356 _ _ _;refine CA (h:=z8 hr ?_);rw[h5])|(show aA _ 357 _ _ _;refine CA (h:=F4 (on:=(dH id s).on) ?_))|(show aA _ 339 _ _ _;refine CA (h:=yF (IQ hok) (by omega) ?_))|(show aN _ _ _ _ _ _ _;first|(refine jS ?_ (hv:=p6);simp only[sG])|refine iD ?_))
      all_goals(refine aC ?_;exact aB (hK))
end
end Go.Proofs.YtepnmcipkangkaaGreat
