/- A part of the proof: lemmas; each with the conditions that it states. -/
import Derived.Test.YtifgibijcmppmaaGreatUag
import Derived.Test.YtifgibijcmppmaaGreatUau
set_option linter.unusedVariables false
set_option linter.unusedSimpArgs false
set_option maxRecDepth 100000
set_option maxHeartbeats 40000000
namespace Go.Proofs.YtifgibijcmppmaaGreat
open Go Go.Proofs Go.Sl
attribute [local irreducible] aN fN cX bP aM aX aA dS dV aT dU pt ro eV star sep bH
section
variable {R C:List HP} {K:KP}
def mJ (p:Nat) (ev wa no he:Int) (ou lo:Bool) (si nn:Int):HP:=pt p [I6 ev,I6 wa,I6 no,I6 he,.bool ou,.bool lo,I6 si,I6 nn] 221
def vY (n:Int):ByteArray:=u5 [⟨0,4,⟨#[]⟩⟩,⟨n % 2147483648,4,⟨#[]⟩⟩]
theorem Agr {n:Int} (hK:K (.bool (decide (0≤n) && decide (n≤1048576))) R):CT 140 #[I6 n] R K:=by
 refine aH Tryz.func140 ?_
 repeat' (first|refine v1 ?_|refine w5 ?_ ?_|((refine bh fun h=>?_) <;> try exact w6 h)|(refine aE fun hA=>?_;subst hA)|intro _)
 all_goals(refine aC ?_;exact aB (kb hK (by simp <;> omega)))
theorem RN {e w:Int} (he:0≤e∧e≤1048576) (hw:0≤w∧w≤1048576) (hK:∀p,K (.tuple #[PO p,I6 0]) (mJ p e w 0 0 false false 0 0::R)):CT 53 #[I6 e,I6 w] R K:=by
 have h1:(decide (0≤e) && decide (e≤1048576))=true:=by simp[he]
 have h2:(decide (0≤w) && decide (w≤1048576))=true:=by simp[hw]
 refine aH Tryz.func53 ?_
 repeat' (first|refine v53 ?_|refine w5 ?_ ?_|((refine bh fun h=>?_) <;> try exact w6 h)|(refine aE fun hA=>?_;subst hA)|intro _|(show aA _ 140 _ _ _;refine CA (h:=Agr ?_)))
 all_goals first
  |(refine aC ?_;exact aB (hK _))
  |(exfalso;simp_all)
theorem GI {p:Nat} {ev wa no he si nn:Int} {ou lo:Bool} {now:Int} (hK:K (I6 (max no now)) (mJ p ev wa (max no now) he ou lo si nn::R)):CT 246 #[PO p,I6 now] (mJ p ev wa no he ou lo si nn::R) K:=by
 refine aH Tryz.func246 ?_
 repeat' (first|refine v14 ?_|refine w5 ?_ ?_|((refine bh fun h=>?_) <;> try exact w6 h)|(refine aE fun hA=>?_;subst hA)|intro _)
 (refine aC ?_;exact aB (hK))
def EP:List (Nat×Nat):= [(0,1),(1,1),(2,1),(3,1),(4,1),(5,1),(6,1),(7,1),(8,1),(9,0),(10,0),(11,0),(12,0),(13,0)]
theorem Dn {p:Nat} {ev wa no he si nn:Int} {ou lo:Bool} (hn:0≤nn) (hK:K (.string (vY nn)) (mJ p ev wa no he ou lo si nn::R)):CT 251 #[PO p] (mJ p ev wa no he ou lo si nn::R) K:=by
 refine aH Tryz.func251 ?_
 repeat' (first|refine v83 ?_|refine dw EP ?_|refine w5 ?_ ?_|((refine bh fun h=>?_) <;> try exact w6 h)|(refine aE fun hA=>?_;subst hA)|intro _|(show aA _ 336 _ _ _;refine CA (h:=Ad1 ?_))|(show aA _ 335 _ _ _;refine CA (h:=R2 (by exact kF) (by exact rfl) (by decide) ?_)))
 (refine aC ?_;exact aB (hK))
theorem P6 {p:Nat} {ev wa no he si nn:Int} {ou lo:Bool} {now:Int} (hK:K (.tuple #[]) (mJ p ev wa (max no now) (max no now) ou lo si nn::R)):CT 161 #[PO p,I6 now] (mJ p ev wa no he ou lo si nn::R) K:=by
 refine aH Tryz.func161 ?_
 repeat' (first|refine v48 ?_|refine w5 ?_ ?_|((refine bh fun h=>?_) <;> try exact w6 h)|(refine aE fun hA=>?_;subst hA)|intro _|(show aA _ 246 _ _ _;refine CA (h:=GI ?_)))
 (refine aC ?_;exact aB (hK))
theorem Aar {p:Nat} {ev wa no he si nn:Int} {ou lo:Bool} {now:Int} {s:ByteArray} (hb:ou=false) (hK:K (.bool false) (mJ p ev wa no he ou lo si nn::R)):CT 165 #[PO p,I6 now,.string s] (mJ p ev wa no he ou lo si nn::R) K:=by
 refine aH Tryz.func165 ?_
 repeat' (first|refine MA ?_|refine w5 ?_ ?_|((refine bh fun h=>?_) <;> try exact w6 h)|(refine aE fun hA=>?_;subst hA)|intro _)
 all_goals first
  |(refine aC ?_;exact aB (hK))
  |(exfalso;simp_all)
theorem Aa3 {p:Nat} {ev wa no he si nn:Int} {lo:Bool} {now m:Int} (hmx:max no now=m) (hn:0≤nn) (hK:K (.bool true) (mJ p ev wa m m false lo si nn::R)):CT 165 #[PO p,I6 now,.string (vY nn)] (mJ p ev wa no he true lo si nn::R) K:=by
 subst hmx
 refine aH Tryz.func165 ?_
 repeat' (first|refine MA ?_|refine w5 ?_ ?_|((refine bh fun h=>?_) <;> try exact w6 h)|(refine aE fun hA=>?_;subst hA)|intro _|(show aA _ 251 _ _ _;refine CA (h:=Dn (by assumption) ?_))|(show aA _ 161 _ _ _;refine CA (h:=P6 ?_)))
 all_goals first
  |(refine aC ?_;exact aB (hK))
  |(exfalso;simp_all)
def zM (ev wa he:Int) (ou lo:Bool) (si m:Int):Int:=if lo=true∨(ou=true∧wa≤m - si) then 2 else if ou=true∨m - he<ev then 0 else 1
def lG:List Nat:= [0,1,3,7,15,31,63,127,255,511,1023,1023,3071,7167,15359,32767,1023,66559,197631,459775,1048575,2097151,4194303,8388607]
def lH:List Nat:= [8388607,4194303,2097151,1048575,459775,197631,66559,1023,32767,15359,7167,3071,1023,1023,511,255,127,63,31,15,7,3,1,0]
def lC:List (Nat×Nat):= [(0,0),(1,0),(2,0),(3,0),(4,0),(5,0),(6,0),(7,0),(8,0),(9,0),(10,0),(11,0),(12,0),(13,0),(14,0),(15,0),(16,0),(17,0),(18,0),(19,0),(20,0),(21,0),(22,0),(23,0)]
def lD:List (Nat×Nat):= [(0,0),(1,0),(2,0),(3,0),(4,0),(5,0),(6,0),(7,0),(8,0),(9,0),(10,0),(11,0),(12,0),(13,0),(14,0),(15,0),(16,0),(17,0)]
theorem Ado {p:Nat} {ev wa no he si nn:Int} {ou lo:Bool} {now m:Int} (hk:zM ev wa he ou lo si m=0) (hmx:max no now=m) (h0:ev≠0) (hm:-1000000000000≤m∧m≤1000000000000) (hs:-1000000000000≤si∧si≤1000000000000) (hh:-1000000000000≤he∧he≤1000000000000) (hn:0≤nn∧nn≤1000000000000)
  (hK:K (.tuple #[I6 0,.string ⟨#[]⟩]) (mJ p ev wa m he ou lo si nn::R)):CT 181 #[PO p,I6 now] (mJ p ev wa no he ou lo si nn::R) K:=by
 subst hmx
 unfold zM at hk
 refine aH Tryz.func181 ?_
 repeat' (first|refine v71 ?_|refine Gp lG lH lC ?_|refine dw lD ?_|refine w5 ?_ ?_|((refine bh fun h=>?_) <;> try exact w6 h)|(refine aE fun hA=>?_;subst hA)|intro _|(show aA _ 246 _ _ _;refine CA (h:=GI ?_))|(show aA _ 251 _ _ _;refine CA (h:=Dn (by omega) ?_)))
 all_goals first
  |(refine aC ?_;exact aB (hK))
  |(exfalso;simp_all;done)
  |(exfalso;simp_all <;> omega)
theorem Abs {p:Nat} {ev wa no he si nn:Int} {ou lo:Bool} {now m:Int} (hk:zM ev wa he ou lo si m=1) (hmx:max no now=m) (h0:ev≠0) (hm:-1000000000000≤m∧m≤1000000000000) (hs:-1000000000000≤si∧si≤1000000000000) (hh:-1000000000000≤he∧he≤1000000000000) (hn:0≤nn∧nn≤1000000000000)
  (hK:K (.tuple #[I6 1,.string (vY (nn+1))]) (mJ p ev wa m he true lo m (nn+1)::R)):CT 181 #[PO p,I6 now] (mJ p ev wa no he ou lo si nn::R) K:=by
 subst hmx
 unfold zM at hk
 refine aH Tryz.func181 ?_
 repeat' (first|refine v71 ?_|refine Gp lG lH lC ?_|refine dw lD ?_|refine w5 ?_ ?_|((refine bh fun h=>?_) <;> try exact w6 h)|(refine aE fun hA=>?_;subst hA)|intro _|(show aA _ 246 _ _ _;refine CA (h:=GI ?_))|(show aA _ 251 _ _ _;refine CA (h:=Dn (by omega) ?_)))
 all_goals first
  |(refine aC ?_;exact aB (hK))
  |(exfalso;simp_all;done)
  |(exfalso;simp_all <;> omega)
theorem ZW {p:Nat} {ev wa no he si nn:Int} {ou lo:Bool} {now m:Int} (hk:zM ev wa he ou lo si m=2) (hmx:max no now=m) (h0:ev≠0) (hm:-1000000000000≤m∧m≤1000000000000) (hs:-1000000000000≤si∧si≤1000000000000) (hh:-1000000000000≤he∧he≤1000000000000) (hn:0≤nn∧nn≤1000000000000)
  (hK:K (.tuple #[I6 2,.string ⟨#[]⟩]) (mJ p ev wa m he ou true si nn::R)):CT 181 #[PO p,I6 now] (mJ p ev wa no he ou lo si nn::R) K:=by
 subst hmx
 unfold zM at hk
 refine aH Tryz.func181 ?_
 repeat' (first|refine v71 ?_|refine Gp lG lH lC ?_|refine dw lD ?_|refine w5 ?_ ?_|((refine bh fun h=>?_) <;> try exact w6 h)|(refine aE fun hA=>?_;subst hA)|intro _|(show aA _ 246 _ _ _;refine CA (h:=GI ?_))|(show aA _ 251 _ _ _;refine CA (h:=Dn (by omega) ?_)))
 all_goals first
  |(refine aC ?_;exact aB (hK))
  |(exfalso;simp_all;done)
  |(exfalso;simp_all <;> omega)
theorem Ts {p:Nat} {ev wa no he si nn:Int} {ou lo:Bool} {now:Int} (h0:ev=0) (hK:K (.tuple #[I6 0,.string ⟨#[]⟩]) (mJ p ev wa no he ou lo si nn::R)):CT 181 #[PO p,I6 now] (mJ p ev wa no he ou lo si nn::R) K:=by
 refine aH Tryz.func181 ?_
 repeat' (first|refine v71 ?_|refine Gp lG lH lC ?_|refine dw lD ?_|refine w5 ?_ ?_|((refine bh fun h=>?_) <;> try exact w6 h)|(refine aE fun hA=>?_;subst hA)|intro _)
 all_goals first
  |(refine aC ?_;exact aB (hK))
  |(exfalso;omega)
end
end Go.Proofs.YtifgibijcmppmaaGreat
namespace Go.Proofs.YtifgibijcmppmaaGreat
open Go Go.Proofs Go.Sl
attribute [local irreducible] aN fN cX bP aM aX aA dS dV aT dU pt ro eV star sep bH
attribute [local irreducible] mp ED
section
variable {R C:List HP} {K:KP}
theorem Di {id:Int} {n:Nd}:∀ {l:List (KE Nd)} {ck:Nat},Rb l ck→Rb (tC id n ck l) (kCk id ck l):=fun {l ck} h=>by
 obtain⟨h1,h2⟩:=h
 unfold kCk
 cases hg:(gQ id l).isSome
 ·have hg':gQ id l=none:=by simpa using hg
  rw[Eb hg',if_neg (by decide)]
  refine⟨?_,fun e he=>?_⟩
  ·rw[List.map_append]
   refine List.nodup_append.2 ⟨h1,by simp,?_⟩
   intro b hb b' hb' he
   obtain⟨z,hz,rfl⟩:=List.mem_map.1 hb
   have:=h2 z hz
   simp at hb'
   omega
  ·rcases List.mem_append.1 he with he|he
   ·have:=h2 e he;omega
   ·rw[List.mem_singleton.1 he];exact Nat.lt_succ_self _
 ·rw[if_pos rfl]
  have key:∀l:List (KE Nd),(gQ id l).isSome=true→(tC id n ck l).map KE.b=l.map KE.b:=by
   intro l
   induction l with
   |nil=>intro h;cases h
   |cons e r ih=>
    intro h
    unfold tC
    by_cases hk:id=e.k
    ·rw[if_pos hk];rfl
    ·rw[if_neg hk,List.map_cons,List.map_cons,ih (by unfold gQ at h;rwa[if_neg hk] at h)]
  have hb:=key l hg
  refine⟨by rw[hb];exact h1,fun e he=>?_⟩
  have hm:e.b∈l.map KE.b:=by rw[← hb];exact List.mem_map_of_mem he
  obtain⟨z,hz,hzb⟩:=List.mem_map.1 hm
  rw[← hzb]
  exact h2 z hz
section
variable {p q:Nat} {most id on w:Int} {x:Bool} {s:eN}
def jB:List (Nat×Nat):= [(0,0),(1,0),(2,0),(3,0),(4,0),(5,0),(6,0),(7,0),(8,0),(9,0),(10,1)]
theorem xS (hok:Rb s.1 s.2) (hl:s.1.length≤100000) (hK:K (.tuple #[]) (pt p [I6 most,.map (some q)] 229::mp q (kM qR (pJ id on w x s).1) (pJ id on w x s).2::R)):CT 305 #[PO p,I6 id,.agg #[I6 on,I6 w,.bool x]] (pt p [I6 most,.map (some q)] 229::mp q (kM qR s.1) s.2::R) K:=by
 cases x with
 |false=>
  simp only[pJ,fB,Bool.false_eq_true,if_false] at hK
  refine aH Tryz.func305 ?_
  repeat' (first|refine v60 ?_|refine dw jB ?_|refine w5 ?_ ?_|((refine bh fun h=>?_) <;> try exact w6 h)|(refine aE fun hA=>?_;subst hA)|intro _|(show aN _ _ _ _ _ _ _;refine kE ?_ (hv:=Q1 (enc:=qR) (v:=⟨on,w⟩)) (hu:=by exact rfl)))
  all_goals(refine aC ?_;exact aB (hK))
 |true=>
  simp only[pJ,if_true] at hK
  generalize hks:b8 on s.1=ks at hK
  have hkl:ks.length≤100000:=by
   rw[← hks]
   unfold b8
   rw[zL,List.length_map]
   exact Nat.le_trans (List.length_filter_le _ _) hl
  refine aH Tryz.func305 ?_
  repeat' (first|refine v60 ?_|refine dw jB ?_|refine w5 ?_ ?_|((refine bh fun h=>?_) <;> try exact w6 h)|(refine aE fun hA=>?_;subst hA)|intro _|(show aA _ 355 _ _ _;refine CA (h:=Bu hok hl (fun A c=>?_));rw[hks]))
  rename_i r5
  refine fZ (fun kk a C'=>∃(j:Nat) (s':eN),j+kk=ks.length∧iI id (ks.drop j) s'=iI id ks s∧cJ a [(0,PO p),(1,I6 id),(5,PO r5),(13,.slice A ks.length c),(14,I6 ks.length),(15,I6 j)]∧C'=bQ A c 3 jI ks::pt r5 [I6 on,I6 w,.bool true] 42::pt p [I6 most,.map (some q)] 229::mp q (kM qR s'.1) s'.2::R) ks.length (bV ks.length ⟨0,s,by omega,rfl,⟨rfl,rfl,rfl,rfl,rfl,rfl,trivial⟩,rfl⟩ (by omega)) ?_
  rintro kk a C' ⟨j,s',hj,hs,ha,rfl⟩
  refine fP _ ha ?_
  simp only[eP]
  by_cases hlt:j<ks.length
  ·obtain⟨k,hk⟩:∃k,ks[j]?=some k:=⟨_,List.getElem?_eq_getElem hlt⟩
   rw[Sj hk] at hs
   by_cases he:k=id
   ·subst he
    rw[if_pos rfl] at hs
    repeat' (first|refine v60 ?_|refine dw jB ?_|refine w5 ?_ ?_|((refine bh fun h=>?_) <;> try exact w6 h)|(refine aE fun hA=>?_;subst hA)|intro _)
    all_goals(show aT _ _ _ _;exact bV (kk - 1) ⟨j+1,s',by omega,hs,⟨rfl,rfl,rfl,rfl,rfl,rfl,trivial⟩,rfl⟩)
   ·rw[if_neg he] at hs
    repeat' (first|refine v60 ?_|refine dw jB ?_|refine w5 ?_ ?_|((refine bh fun h=>?_) <;> try exact w6 h)|(refine aE fun hA=>?_;subst hA)|intro _|(show aA _ 343 _ _ _;refine CA (h:=Fc ?_)))
    all_goals(show aT _ _ _ _;exact bV (kk - 1) ⟨j+1,_,by omega,hs,⟨rfl,rfl,rfl,rfl,rfl,rfl,trivial⟩,rfl⟩)
  ·rw[List.drop_eq_nil_of_le (by omega)] at hs
   have hs:s'=iI id ks s:=hs
   subst hs
   simp only[fB] at hK
   repeat' (first|refine v60 ?_|refine dw jB ?_|refine w5 ?_ ?_|((refine bh fun h=>?_) <;> try exact w6 h)|(refine aE fun hA=>?_;subst hA)|intro _|(show aN _ _ _ _ _ _ _;refine kE ?_ (hv:=Q1 (enc:=qR) (v:=⟨on,w⟩)) (hu:=by exact rfl)))
   all_goals(refine aC ?_;exact aB (hK))
def mL (id on w:Int) (most:Int) (s:eN):Int:=if id<1∨2147483647<id∨yZ on w=false then 2 else if on=id then 12 else if dZ id s.1=true then 8 else if most≤(s.1.length:Nat) then 16 else 0
def m8 (id on w:Int) (x:Bool) (most:Int) (s:eN):eN:=if mL id on w most s≠0 then s else if AV on s=true then pJ id 0 w false s else pJ id on w x s
def eD:List (Nat×Nat):= [(0,0),(1,0),(2,0),(3,0),(4,0),(5,0),(6,0),(7,0),(8,0),(9,0),(10,0)]
theorem F5 (hok:Rb s.1 s.2) (hl:s.1.length≤100000) (hm:0≤most∧most≤100000) (hK:K (I6 (mL id on w most s)) (pt p [I6 most,.map (some q)] 229::mp q (kM qR (m8 id on w x most s).1) (m8 id on w x most s).2::R)):CT 216 #[PO p,I6 id,.agg #[I6 on,I6 w,.bool x]] (pt p [I6 most,.map (some q)] 229::mp q (kM qR s.1) s.2::R) K:=by
 have hkl:(kM qR s.1).length=s.1.length:=by simp[kM]
 by_cases h1:id<1∨2147483647<id
 ·have e:mL id on w most s=2:=by unfold mL;rw[if_pos (by omega)]
  have e2:m8 id on w x most s=s:=by unfold m8;rw[e];rfl
  rw[e,e2] at hK
  refine aH Tryz.func216 ?_
  repeat' (first|refine v44 ?_|refine dw eD ?_|refine w5 ?_ ?_|((refine bh fun h=>?_) <;> try exact w6 h)|(refine aE fun hA=>?_;subst hA)|intro _|(show aA _ 303 _ _ _;refine CA (h:=jX ?_)))
  all_goals(refine aC ?_;exact aB (hK))
 ·cases h2:yZ on w
  ·have e:mL id on w most s=2:=by unfold mL;rw[h2,if_pos (by simp)]
   have e2:m8 id on w x most s=s:=by unfold m8;rw[e];rfl
   rw[e,e2] at hK
   refine aH Tryz.func216 ?_
   repeat' (first|refine v44 ?_|refine dw eD ?_|refine w5 ?_ ?_|((refine bh fun h=>?_) <;> try exact w6 h)|(refine aE fun hA=>?_;subst hA)|intro _|(show aA _ 303 _ _ _;refine CA (h:=jX ?_);rw[h2]))
   all_goals(refine aC ?_;exact aB (hK))
  ·have e1:¬(id<1∨2147483647<id∨yZ on w=false):=by rw[h2];simp;omega
   by_cases h3:on=id
   ·have e:mL id on w most s=12:=by unfold mL;rw[if_neg e1,if_pos h3]
    have e2:m8 id on w x most s=s:=by unfold m8;rw[e];rfl
    rw[e,e2] at hK
    refine aH Tryz.func216 ?_
    repeat' (first|refine v44 ?_|refine dw eD ?_|refine w5 ?_ ?_|((refine bh fun h=>?_) <;> try exact w6 h)|(refine aE fun hA=>?_;subst hA)|intro _|(show aA _ 303 _ _ _;refine CA (h:=jX ?_);rw[h2]))
    all_goals(refine aC ?_;exact aB (hK))
   ·cases h4:dZ id s.1
    ·by_cases h5:most≤(s.1.length:Nat)
     ·have e:mL id on w most s=16:=by unfold mL;rw[if_neg e1,if_neg h3,h4,if_neg (by decide),if_pos h5]
      have e2:m8 id on w x most s=s:=by unfold m8;rw[e];rfl
      rw[e,e2] at hK
      refine aH Tryz.func216 ?_
      repeat' (first|(show aN _ _ _ _ _ _ _;refine IK ?_)|refine v44 ?_|refine dw eD ?_|refine w5 ?_ ?_|((refine bh fun h=>?_) <;> try exact w6 h)|(refine aE fun hA=>?_;subst hA)|intro _|(show aA _ 303 _ _ _;refine CA (h:=jX ?_);rw[h2])|(show aA _ 304 _ _ _;refine CA (h:=fE ?_);rw[h4]))
      all_goals(refine aC ?_;exact aB (hK))
     ·have e:mL id on w most s=0:=by unfold mL;rw[if_neg e1,if_neg h3,h4,if_neg (by decide),if_neg h5]
      cases h6:AV on s
      ·have e2:m8 id on w x most s=pJ id on w x s:=by unfold m8;rw[e,h6];rfl
       rw[e,e2] at hK
       refine aH Tryz.func216 ?_
       repeat' (first|(show aN _ _ _ _ _ _ _;refine IK ?_)|refine v44 ?_|refine dw eD ?_|refine w5 ?_ ?_|((refine bh fun h=>?_) <;> try exact w6 h)|(refine aE fun hA=>?_;subst hA)|intro _|(show aA _ 303 _ _ _;refine CA (h:=jX ?_);rw[h2])|(show aA _ 304 _ _ _;refine CA (h:=fE ?_);rw[h4])|(show aA _ 306 _ _ _;refine CA (h:=Av h6 ?_))|(show aA _ 305 _ _ _;refine CA (h:=xS hok hl ?_)))
       all_goals(refine aC ?_;exact aB (hK))
      ·have e2:m8 id on w x most s=pJ id 0 w false s:=by unfold m8;rw[e,h6];rfl
       rw[e,e2] at hK
       refine aH Tryz.func216 ?_
       repeat' (first|(show aN _ _ _ _ _ _ _;refine IK ?_)|refine v44 ?_|refine dw eD ?_|refine w5 ?_ ?_|((refine bh fun h=>?_) <;> try exact w6 h)|(refine aE fun hA=>?_;subst hA)|intro _|(show aA _ 303 _ _ _;refine CA (h:=jX ?_);rw[h2])|(show aA _ 304 _ _ _;refine CA (h:=fE ?_);rw[h4])|(show aA _ 306 _ _ _;refine CA (h:=Ar h6 ?_))|(show aA _ 305 _ _ _;refine CA (h:=xS hok hl ?_)))
       all_goals(refine aC ?_;exact aB (hK))
    ·have e:mL id on w most s=8:=by unfold mL;rw[if_neg e1,if_neg h3,h4,if_pos rfl]
     have e2:m8 id on w x most s=s:=by unfold m8;rw[e];rfl
     rw[e,e2] at hK
     refine aH Tryz.func216 ?_
     repeat' (first|refine v44 ?_|refine dw eD ?_|refine w5 ?_ ?_|((refine bh fun h=>?_) <;> try exact w6 h)|(refine aE fun hA=>?_;subst hA)|intro _|(show aA _ 303 _ _ _;refine CA (h:=jX ?_);rw[h2])|(show aA _ 304 _ _ _;refine CA (h:=fE ?_);rw[h4]))
     all_goals(refine aC ?_;exact aB (hK))
end
end
section
variable {R C:List HP} {K:KP}
def S3 (r:Int→Nat) (s:eN):Prop:=∀id,dZ id s.1=true→dZ (dB id s).on s.1=true→r (dB id s).on<r id
def rG (id:Int) (s:eN):Nat→Int→Bool
 |0,_=>false
 |n+1,low=>if dZ low s.1=true then(if(dB low s).on=id then true else rG id s n (dB low s).on) else false
theorem wJ {id:Int} {l:List (KE Nd)} (h:(gQ id l).isSome=true):id∈l.map KE.k:=by
 induction l with
 |nil=>cases h
 |cons e r ih=>
  unfold gQ at h
  by_cases hk:id=e.k
  ·rw[hk];exact List.mem_cons_self ..
  ·rw[if_neg hk] at h
   exact List.mem_cons_of_mem _ (ih h)
section
variable {p q:Nat} {most id low on w:Int} {x:Bool} {s:eN} {r:Int→Nat}
theorem yB (hr:S3 r s) (hK:K (.bool (rG id s (s.1.length+1) low)) (pt p [I6 most,.map (some q)] 229::mp q (kM qR s.1) s.2::R)):CT 342 #[PO p,I6 id,I6 low] (pt p [I6 most,.map (some q)] 229::mp q (kM qR s.1) s.2::R) K:=by
 refine aH Tryz.func342 ?_
 repeat' (first|refine Yw ?_|refine w5 ?_ ?_|((refine bh fun h=>?_) <;> try exact w6 h)|(refine aE fun hA=>?_;subst hA)|intro _)
 refine fZ (fun kk a C'=>∃(seen:List Int) (lw:Int),seen.length+kk=s.1.length∧seen.Nodup∧(∀z∈seen,z∈s.1.map KE.k∧(dZ lw s.1=true→r lw<r z))∧rG id s (kk+1) lw=rG id s (s.1.length+1) low∧cJ a [(0,PO p),(1,I6 id),(2,I6 lw)]∧C'=pt p [I6 most,.map (some q)] 229::mp q (kM qR s.1) s.2::R) s.1.length (bV s.1.length ⟨[],low,by simp,List.nodup_nil,(fun z hz=>by cases hz),rfl,⟨rfl,rfl,rfl,trivial⟩,rfl⟩ (by omega)) ?_
 rintro kk a C' ⟨seen,lw,hk,hnd,hse,hab,ha,rfl⟩
 refine fP _ ha ?_
 simp only[eP]
 rw[← hab] at hK
 cases hh:dZ lw s.1
 ·have e:rG id s (kk+1) lw=false:=by unfold rG;rw[hh,if_neg (by decide)]
  rw[e] at hK
  repeat' (first|refine Yw ?_|refine w5 ?_ ?_|((refine bh fun h=>?_) <;> try exact w6 h)|(refine aE fun hA=>?_;subst hA)|intro _|(show aA _ 304 _ _ _;refine CA (h:=fE ?_);rw[hh]))
  all_goals(refine aC ?_;exact aB (hK))
 ·have hns:lw ∉ seen:=fun hm=>by have:=(hse lw hm).2 hh;omega
  have hlk:lw∈s.1.map KE.k:=wJ hh
  have hlen:(lw::seen).length≤(s.1.map KE.k).length:=List.Nodup.length_le_of_subset (List.nodup_cons.2 ⟨hns,hnd⟩) (fun z hz=>by
   rcases List.mem_cons.1 hz with rfl|hz
   ·exact hlk
   ·exact(hse z hz).1)
  rw[List.length_map,List.length_cons] at hlen
  have hnx:∀z∈lw::seen,z∈s.1.map KE.k∧(dZ (dB lw s).on s.1=true→r (dB lw s).on<r z):=fun z hz=>by
   rcases List.mem_cons.1 hz with rfl|hz
   ·exact⟨hlk,fun q=>hr _ hh q⟩
   ·exact⟨(hse z hz).1,fun q=>Nat.lt_trans (hr _ hh q) ((hse z hz).2 hh)⟩
  by_cases ho:(dB lw s).on=id
  ·have e:rG id s (kk+1) lw=true:=by unfold rG;rw[hh,if_pos rfl,if_pos ho]
   rw[e] at hK
   simp only[dB] at ho
   repeat' (first|refine Yw ?_|refine w5 ?_ ?_|((refine bh fun h=>?_) <;> try exact w6 h)|(refine aE fun hA=>?_;subst hA)|intro _|(show aA _ 304 _ _ _;refine CA (h:=fE ?_);rw[hh])|(show aN _ _ _ _ _ _ _;first|(refine jD ?_ (hv:=pQ);simp only[qR])|refine i9 ?_))
   all_goals(refine aC ?_;exact aB (hK))
  ·have e:rG id s (kk+1) lw=rG id s kk (dB lw s).on:=by
    conv=>lhs;unfold rG
    rw[hh,if_pos rfl,if_neg ho]
   have ho':=ho
   simp only[dB] at ho'
   obtain⟨k1,rfl⟩:∃k1,kk=k1+1:=⟨kk - 1,by omega⟩
   repeat' (first|refine Yw ?_|refine w5 ?_ ?_|((refine bh fun h=>?_) <;> try exact w6 h)|(refine aE fun hA=>?_;subst hA)|intro _|(show aA _ 304 _ _ _;refine CA (h:=fE ?_);rw[hh])|(show aN _ _ _ _ _ _ _;first|(refine jD ?_ (hv:=pQ);simp only[qR])|refine i9 ?_))
   all_goals(show aT _ _ _ _;exact bV k1 ⟨lw::seen,(dB lw s).on,by rw[List.length_cons];omega,List.nodup_cons.2 ⟨hns,hnd⟩,hnx,by rw[← hab,e],⟨rfl,rfl,rfl,trivial⟩,rfl⟩)
def pK (id on w:Int) (s:eN):Int:=if dZ id s.1=false then 7 else if yZ on w=false then 2 else if on=id then 12 else 0
def kC (id on w:Int) (x:Bool) (s:eN):eN:=if pK id on w s≠0 then s else if AV on s=true then(if rG id s (s.1.length+1) 0=true then pJ id 0 w false (iP 0 (dB id s).on s) else pJ id 0 w false s) else(if rG id s (s.1.length+1) on=true then pJ id on w x (iP on (dB id s).on s) else pJ id on w x s)
theorem HM {id on:Int} (h:Rb s.1 s.2):Rb (iP id on s).1 (iP id on s).2:=Di h
theorem Hq {id:Int} {n:Nd} {ck:Nat}:∀l:List (KE Nd),(tC id n ck l).length≤l.length+1
 | []=>Nat.le_refl _
 |e::r=>by
  unfold tC
  split
  ·simp
  ·have:=Hq (id:=id) (n:=n) (ck:=ck) r
   simp only[List.length_cons]
   omega
theorem Ot {id on:Int}:(iP id on s).1.length≤s.1.length+1:=Hq _
def eR:List (Nat×Nat):= [(3,0),(4,0),(5,0),(6,0),(7,0),(8,1),(0,1),(1,1),(2,1),(9,0),(10,1)]
theorem Kl (hok:Rb s.1 s.2) (hl:s.1.length≤1000) (hr:S3 r s) (hK:K (I6 (pK id on w s)) (pt p [I6 most,.map (some q)] 229::mp q (kM qR (kC id on w x s).1) (kC id on w x s).2::R)):CT 262 #[PO p,I6 id,.agg #[I6 on,I6 w,.bool x]] (pt p [I6 most,.map (some q)] 229::mp q (kM qR s.1) s.2::R) K:=by
 cases h1:dZ id s.1
 ·have e:pK id on w s=7:=by unfold pK;rw[h1,if_pos rfl]
  have e2:kC id on w x s=s:=by unfold kC;rw[e];rfl
  rw[e,e2] at hK
  refine aH Tryz.func262 ?_
  repeat' (first|refine Q5 ?_|refine dw eR ?_|refine w5 ?_ ?_|((refine bh fun h=>?_) <;> try exact w6 h)|(refine aE fun hA=>?_;subst hA)|intro _|(show aA _ 304 _ _ _;refine CA (h:=fE ?_);rw[h1]))
  all_goals(refine aC ?_;exact aB (hK))
 ·cases h2:yZ on w
  ·have e:pK id on w s=2:=by unfold pK;rw[h1,if_neg (by decide),h2,if_pos rfl]
   have e2:kC id on w x s=s:=by unfold kC;rw[e];rfl
   rw[e,e2] at hK
   refine aH Tryz.func262 ?_
   repeat' (first|refine Q5 ?_|refine dw eR ?_|refine w5 ?_ ?_|((refine bh fun h=>?_) <;> try exact w6 h)|(refine aE fun hA=>?_;subst hA)|intro _|(show aA _ 304 _ _ _;refine CA (h:=fE ?_);rw[h1])|(show aA _ 303 _ _ _;refine CA (h:=jX ?_);rw[h2]))
   all_goals(refine aC ?_;exact aB (hK))
  ·by_cases h3:on=id
   ·have e:pK id on w s=12:=by unfold pK;rw[h1,if_neg (by decide),h2,if_neg (by decide),if_pos h3]
    have e2:kC id on w x s=s:=by unfold kC;rw[e];rfl
    rw[e,e2] at hK
    refine aH Tryz.func262 ?_
    repeat' (first|refine Q5 ?_|refine dw eR ?_|refine w5 ?_ ?_|((refine bh fun h=>?_) <;> try exact w6 h)|(refine aE fun hA=>?_;subst hA)|intro _|(show aA _ 304 _ _ _;refine CA (h:=fE ?_);rw[h1])|(show aA _ 303 _ _ _;refine CA (h:=jX ?_);rw[h2]))
    all_goals(refine aC ?_;exact aB (hK))
   ·have e:pK id on w s=0:=by unfold pK;rw[h1,if_neg (by decide),h2,if_neg (by decide),if_neg h3]
    cases h4:AV on s
    ·cases h5:rG id s (s.1.length+1) on
     ·have e2:kC id on w x s=pJ id on w x s:=by unfold kC;rw[e,h4,h5];rfl
      rw[e,e2] at hK
      refine aH Tryz.func262 ?_
      repeat' (first|refine Q5 ?_|refine dw eR ?_|refine w5 ?_ ?_|((refine bh fun h=>?_) <;> try exact w6 h)|(refine aE fun hA=>?_;subst hA)|intro _|(show aA _ 304 _ _ _;refine CA (h:=fE ?_);rw[h1])|(show aA _ 303 _ _ _;refine CA (h:=jX ?_);rw[h2])|(show aA _ 306 _ _ _;refine CA (h:=Av h4 ?_))|(show aA _ 342 _ _ _;refine CA (h:=yB hr ?_);rw[h5])|(show aA _ 305 _ _ _;refine CA (h:=xS hok (by omega) ?_)))
      all_goals(refine aC ?_;exact aB (hK))
     ·have e2:kC id on w x s=pJ id on w x (iP on (dB id s).on s):=by unfold kC;rw[e,h4,h5];rfl
      have hgl:=Ot (s:=s) (id:=on) (on:=(dB id s).on)
      rw[e,e2] at hK
      refine aH Tryz.func262 ?_
      repeat' (first|refine Q5 ?_|refine dw eR ?_|refine w5 ?_ ?_|((refine bh fun h=>?_) <;> try exact w6 h)|(refine aE fun hA=>?_;subst hA)|intro _|(show aA _ 304 _ _ _;refine CA (h:=fE ?_);rw[h1])|(show aA _ 303 _ _ _;refine CA (h:=jX ?_);rw[h2])|(show aA _ 306 _ _ _;refine CA (h:=Av h4 ?_))|(show aA _ 342 _ _ _;refine CA (h:=yB hr ?_);rw[h5])|(show aA _ 343 _ _ _;refine CA (h:=Fc (on:=(dB id s).on) ?_))|(show aA _ 305 _ _ _;refine CA (h:=xS (HM hok) (by omega) ?_))|(show aN _ _ _ _ _ _ _;first|(refine jD ?_ (hv:=pQ);simp only[qR])|refine i9 ?_))
      all_goals(refine aC ?_;exact aB (hK))
    ·cases h5:rG id s (s.1.length+1) 0
     ·have e2:kC id on w x s=pJ id 0 w false s:=by unfold kC;rw[e,h4,h5];rfl
      rw[e,e2] at hK
      refine aH Tryz.func262 ?_
      repeat' (first|refine Q5 ?_|refine dw eR ?_|refine w5 ?_ ?_|((refine bh fun h=>?_) <;> try exact w6 h)|(refine aE fun hA=>?_;subst hA)|intro _|(show aA _ 304 _ _ _;refine CA (h:=fE ?_);rw[h1])|(show aA _ 303 _ _ _;refine CA (h:=jX ?_);rw[h2])|(show aA _ 306 _ _ _;refine CA (h:=Ar h4 ?_))|(show aA _ 342 _ _ _;refine CA (h:=yB hr ?_);rw[h5])|(show aA _ 305 _ _ _;refine CA (h:=xS hok (by omega) ?_)))
      all_goals(refine aC ?_;exact aB (hK))
     ·have e2:kC id on w x s=pJ id 0 w false (iP 0 (dB id s).on s):=by unfold kC;rw[e,h4,h5];rfl
      have hgl:=Ot (s:=s) (id:=0) (on:=(dB id s).on)
      rw[e,e2] at hK
      refine aH Tryz.func262 ?_
      repeat' (first|refine Q5 ?_|refine dw eR ?_|refine w5 ?_ ?_|((refine bh fun h=>?_) <;> try exact w6 h)|(refine aE fun hA=>?_;subst hA)|intro _|(show aA _ 304 _ _ _;refine CA (h:=fE ?_);rw[h1])|(show aA _ 303 _ _ _;refine CA (h:=jX ?_);rw[h2])|(show aA _ 306 _ _ _;refine CA (h:=Ar h4 ?_))|(show aA _ 342 _ _ _;refine CA (h:=yB hr ?_);rw[h5])|(show aA _ 343 _ _ _;refine CA (h:=Fc (on:=(dB id s).on) ?_))|(show aA _ 305 _ _ _;refine CA (h:=xS (HM hok) (by omega) ?_))|(show aN _ _ _ _ _ _ _;first|(refine jD ?_ (hv:=pQ);simp only[qR])|refine i9 ?_))
      all_goals(refine aC ?_;exact aB (hK))
end
end
section
variable {R C:List HP} {K:KP}
def TrW (s:eN):Prop:=∀id,dZ id s.1=true→1≤(dB id s).w∧(dB id s).w≤256
def NM (s:eN):Prop:=(s.1.map KE.k).Nodup
def o8 (s:eN):List Int→Int
 | []=>0
 |k::r=>(dB k s).w+o8 s r
def EA (w xw all:Int):Int:=max 1 (w * xw / all)
def pU (on xw all:Int):List Int→eN→eN
 | [],s=>s
 |k::r,s=>pU on xw all r (fB k ⟨on,EA (dB k s).w xw all⟩ s)
def y6 (id:Int) (s:eN):eN:=if dZ id s.1=true then(mQ id (pU (dB id s).on (dB id s).w (o8 s (b8 id s.1)) (b8 id s.1) s).1,(pU (dB id s).on (dB id s).w (o8 s (b8 id s.1)) (b8 id s.1) s).2) else s
theorem An {k:Int} {l:List Int}:k∈Np l↔k∈l:=(List.mergeSort_perm l _).mem_iff
theorem UY {l:List Int} (h:l.Nodup):(Np l).Nodup:=(List.mergeSort_perm l _).nodup_iff.2 h
theorem AW {id:Int} {s:eN} (h:NM s):(b8 id s.1).Nodup:=UY (List.Nodup.sublist ((List.filter_sublist ..).map _) h)
theorem NA {e:KE Nd}:∀ {l:List (KE Nd)},(l.map KE.k).Nodup→e∈l→gQ e.k l=some e.v
 | [],_,h=>by cases h
 |z::r,hnd,h=>by
  rw[List.map_cons] at hnd
  obtain⟨h1,h2⟩:=List.nodup_cons.1 hnd
  unfold gQ
  rcases List.mem_cons.1 h with rfl|h
  ·rw[if_pos rfl]
  ·rw[if_neg (fun q=>h1 (by rw[← q];exact List.mem_map_of_mem h)),NA h2 h]
theorem kQ {id k:Int} {s:eN} (h:NM s) (hk:k∈b8 id s.1):dZ k s.1=true∧(dB k s).on=id:=by
 unfold b8 at hk
 rw[An] at hk
 obtain⟨e,he,rfl⟩:=List.mem_map.1 hk
 obtain⟨h1,h2⟩:=List.mem_filter.1 he
 have:=NA h h1
 exact⟨by unfold dZ;rw[this];rfl,by unfold dB;rw[this];simpa using h2⟩
theorem I3 {id j:Int} {n:Nd} {s:eN}:dB j (fB id n s)=if j=id then n else dB j s:=by
 unfold dB fB
 simp only
 rw[Ix]
 split <;> rfl
theorem H4 {s:eN} (h:TrW s):∀ {l:List Int},(∀k∈l,dZ k s.1=true)→(l.length:Int)≤o8 s l∧o8 s l≤256 * l.length
 | [],_=>by simp[o8]
 |k::r,hh=>by
  have h1:=h k (hh k (List.mem_cons_self ..))
  have h2:=H4 h (l:=r) fun z hz=>hh z (List.mem_cons_of_mem _ hz)
  simp only[o8,List.length_cons]
  omega
theorem Aap {s:eN} {ks:List Int} {j:Nat} {k:Int} (h:ks[j]?=some k):o8 s (ks.drop j)=(dB k s).w+o8 s (ks.drop (j+1)):=by
 have hj:=(List.getElem?_eq_some_iff.1 h).1
 rw[List.drop_eq_getElem_cons hj,(List.getElem?_eq_some_iff.1 h).2]
 rfl
theorem ZO {on xw all:Int} {s:eN} {ks:List Int} {j:Nat} {k:Int} (h:ks[j]?=some k):pU on xw all (ks.drop j) s=pU on xw all (ks.drop (j+1)) (fB k ⟨on,EA (dB k s).w xw all⟩ s):=by
 have hj:=(List.getElem?_eq_some_iff.1 h).1
 rw[List.drop_eq_getElem_cons hj,(List.getElem?_eq_some_iff.1 h).2]
 rfl
section
variable {p q r5 r7:Nat} {most id low on w xw all:Int} {x:Bool} {s:eN} {r:Int→Nat}
theorem RJ (hw:0≤w∧w≤100000) (hx:0≤xw∧xw≤100000) (ha:0<all) (hK:K (I6 (EA w xw all)) (pt r5 [I6 on,I6 xw] 373::pt r7 [I6 all] 3::R)):CT 371 #[I6 w,PO r5,PO r7] (pt r5 [I6 on,I6 xw] 373::pt r7 [I6 all] 3::R) K:=by
 have h1:0≤w * xw:=Int.mul_nonneg hw.1 hx.1
 have h2:w * xw≤100000 * 100000:=Int.mul_le_mul hw.2 hx.2 hx.1 (by omega)
 have hq1:0≤w * xw / all:=Int.ediv_nonneg h1 (by omega)
 have hq2:w * xw / all≤w * xw:=Int.ediv_le_self all h1
 have hm:IntKind.wrap .i64 (w * xw / all)=w * xw / all:=uV (by omega) (by omega)
 refine aH Tryz.func371 ?_
 repeat' (first|refine v43 ?_|refine w5 ?_ ?_|((refine bh fun h=>?_) <;> try exact w6 h)|(refine aE fun hA=>?_;subst hA)|intro _)
 all_goals(refine aC ?_;exact aB (hK))
def eW:List (Nat×Nat):= [(1,0),(2,0),(3,0),(4,0),(5,0),(6,1),(0,1),(7,0),(8,0),(9,1)]
def eX:List (Nat×Nat):= [(8,0),(9,0),(10,0),(11,0),(12,0),(13,1),(7,1),(14,0),(15,1),(0,2),(1,2),(2,2),(3,2),(4,2),(5,2),(6,2),(16,0),(17,1)]
theorem O3 (hok:Rb s.1 s.2) (hl:s.1.length≤1000) (hw:TrW s) (hn:NM s) (hK:∀v,K v (pt p [I6 most,.map (some q)] 229::mp q (kM qR (y6 id s).1) (y6 id s).2::R)):CT 314 #[PO p,I6 id] (pt p [I6 most,.map (some q)] 229::mp q (kM qR s.1) s.2::R) K:=by
 cases h1:dZ id s.1
 ·have e:y6 id s=s:=by unfold y6;rw[h1,if_neg (by decide)]
  rw[e] at hK
  refine aH Tryz.func314 ?_
  repeat' (first|refine HQ ?_|refine dw eW ?_|refine dw eX ?_|refine w5 ?_ ?_|((refine bh fun h=>?_) <;> try exact w6 h)|(refine aE fun hA=>?_;subst hA)|intro _|(show aA _ 304 _ _ _;refine CA (h:=fE ?_);rw[h1]))
  all_goals(refine aC ?_;exact aB (hK _))
 ·have hx:=hw id h1
  have hnd:=AW (id:=id) hn
  have hkh:∀k∈b8 id s.1,dZ k s.1=true:=fun k hk=>(kQ hn hk).1
  have hkl:(b8 id s.1).length≤1000:=by
   unfold b8
   rw[zL,List.length_map]
   exact Nat.le_trans (List.length_filter_le _ _) hl
  have hal:=H4 hw hkh
  have e:y6 id s=(mQ id (pU (dB id s).on (dB id s).w (o8 s (b8 id s.1)) (b8 id s.1) s).1,(pU (dB id s).on (dB id s).w (o8 s (b8 id s.1)) (b8 id s.1) s).2):=by unfold y6;rw[h1,if_pos rfl]
  rw[e] at hK
  have hxe:(gQ id s.1).getD ⟨0,0⟩=dB id s:=rfl
  generalize hks:b8 id s.1=ks at hK hnd hkh hkl hal
  generalize hxo:dB id s=X at hK hx hxe
  generalize hA:o8 s ks=AL at hK hal
  refine aH Tryz.func314 ?_
  repeat' (first|refine HQ ?_|refine dw eW ?_|refine dw eX ?_|refine w5 ?_ ?_|((refine bh fun h=>?_) <;> try exact w6 h)|(refine aE fun hA=>?_;subst hA)|intro _|(show aA _ 304 _ _ _;refine CA (h:=fE ?_);rw[h1])|(show aN _ _ _ _ _ _ _;first|(refine jD ?_ (hv:=pQ);simp only[qR];rw[hxe])|refine i9 ?_)|(show aA _ 355 _ _ _;refine CA (h:=Bu hok (by omega) (fun A c=>?_));rw[hks]))
  rename_i r5 r7
  refine fZ (fun kk a C'=>∃(j:Nat) (acc:Int),j+kk=ks.length∧acc+o8 s (ks.drop j)=AL∧0≤acc∧acc≤256 * j∧cJ a [(0,PO p),(1,I6 id),(5,PO r5),(6,.slice A ks.length c),(7,PO r7),(30,.slice A ks.length c),(31,I6 ks.length),(32,I6 j)]∧C'=pt r7 [I6 acc] 3::bQ A c 3 jI ks::pt p [I6 most,.map (some q)] 229::mp q (kM qR s.1) s.2::pt r5 [I6 X.on,I6 X.w] 373::R) ks.length (bV ks.length ⟨0,0,by omega,by rw[List.drop_zero,hA];omega,by omega,by omega,⟨rfl,rfl,rfl,rfl,rfl,rfl,rfl,rfl,trivial⟩,rfl⟩ (by omega)) ?_
  rintro kk a C' ⟨j,acc,hj,hac,h0,h2,ha,rfl⟩
  refine fP _ ha ?_
  simp only[eP]
  by_cases hlt:j<ks.length
  ·obtain⟨k,hk⟩:∃k,ks[j]?=some k:=⟨_,List.getElem?_eq_getElem hlt⟩
   have hk':ks[((j:Nat):Int).toNat]?=some k:=by rw[Int.toNat_natCast];exact hk
   have hkw:=hw k (hkh k (List.mem_of_getElem? hk))
   rw[Aap hk] at hac
   have hke:(gQ k s.1).getD ⟨0,0⟩=dB k s:=rfl
   repeat' (first|refine HQ ?_|refine dw eW ?_|refine dw eX ?_|refine w5 ?_ ?_|((refine bh fun h=>?_) <;> try exact w6 h)|(refine aE fun hA=>?_;subst hA)|intro _|(show aN _ _ _ _ _ _ _;first|(refine jD ?_ (hv:=pQ);simp only[qR];rw[hke])|refine i9 ?_))
   all_goals(show aT _ _ _ _;exact bV (kk - 1) ⟨j+1,acc+(dB k s).w,by omega,by omega,by omega,by omega,⟨rfl,rfl,rfl,rfl,rfl,rfl,rfl,rfl,trivial⟩,rfl⟩)
  ·have hd:ks.drop j= []:=List.drop_eq_nil_of_le (by omega)
   rw[hd] at hac
   simp only[o8] at hac
   obtain rfl:acc=AL:=by omega
   repeat' (first|refine HQ ?_|refine dw eW ?_|refine dw eX ?_|refine w5 ?_ ?_|((refine bh fun h=>?_) <;> try exact w6 h)|(refine aE fun hA=>?_;subst hA)|intro _)
   refine fZ (fun kk a C'=>∃(j:Nat) (s':eN),j+kk=ks.length∧pU X.on X.w acc (ks.drop j) s'=pU X.on X.w acc ks s∧(∀k∈ks.drop j,dB k s'=dB k s)∧cJ a [(0,PO p),(1,I6 id),(5,PO r5),(7,PO r7),(10,.func (.func 371) #[] #[PO r5,PO r7]),(47,.slice A ks.length c),(48,I6 ks.length),(49,I6 j)]∧C'=pt r7 [I6 acc] 3::bQ A c 3 jI ks::pt p [I6 most,.map (some q)] 229::mp q (kM qR s'.1) s'.2::pt r5 [I6 X.on,I6 X.w] 373::R) ks.length (bV ks.length ⟨0,s,by omega,rfl,(fun _ _=>rfl),⟨rfl,rfl,rfl,rfl,rfl,rfl,rfl,rfl,trivial⟩,rfl⟩ (by omega)) ?_
   rintro kk a C' ⟨j,s',hj,hs',hsame,ha,rfl⟩
   refine fP _ ha ?_
   simp only[eP]
   by_cases hlt:j<ks.length
   ·obtain⟨k,hk⟩:∃k,ks[j]?=some k:=⟨_,List.getElem?_eq_getElem hlt⟩
    have hk':ks[((j:Nat):Int).toNat]?=some k:=by rw[Int.toNat_natCast];exact hk
    have hkw:=hw k (hkh k (List.mem_of_getElem? hk))
    have hdr:ks.drop j=k::ks.drop (j+1):=by rw[List.drop_eq_getElem_cons hlt,(List.getElem?_eq_some_iff.1 hk).2]
    have hks':=hsame k (by rw[hdr];exact List.mem_cons_self ..)
    rw[ZO hk] at hs'
    have hnk:k ∉ ks.drop (j+1):=by
     have:=List.Nodup.sublist (List.drop_sublist j ks) hnd
     rw[hdr] at this
     exact(List.nodup_cons.1 this).1
    have hsm:∀z∈ks.drop (j+1),dB z (fB k ⟨X.on,EA (dB k s').w X.w acc⟩ s')=dB z s:=fun z hz=>by
     rw[I3,if_neg (fun e:z=k=>hnk (e▸hz))]
     exact hsame z (by rw[hdr];exact List.mem_cons_of_mem _ hz)
    have hke:(gQ k s'.1).getD ⟨0,0⟩=dB k s':=rfl
    rw[← hks'] at hkw
    simp only[fB] at hs' hsm
    repeat' (first|refine HQ ?_|refine dw eW ?_|refine dw eX ?_|refine w5 ?_ ?_|((refine bh fun h=>?_) <;> try exact w6 h)|(refine aE fun hA=>?_;subst hA)|intro _|(show aN _ _ _ _ _ _ _;first|(refine jD ?_ (hv:=pQ);simp only[qR];rw[hke])|refine i9 ?_|refine kE ?_ (hv:=Q1 (enc:=qR) (v:=⟨X.on,EA (dB k s').w X.w acc⟩)) (hu:=by exact rfl))|(show aA _ 371 _ _ _;refine CA (h:=RJ (by omega) (by omega) (by omega) ?_)))
    all_goals(show aT _ _ _ _;exact bV (kk - 1) ⟨j+1,_,by omega,hs',hsm,⟨rfl,rfl,rfl,rfl,rfl,rfl,rfl,rfl,trivial⟩,rfl⟩)
   ·have hd:ks.drop j= []:=List.drop_eq_nil_of_le (by omega)
    rw[hd] at hs'
    simp only[pU] at hs'
    subst hs'
    repeat' (first|refine HQ ?_|refine dw eW ?_|refine dw eX ?_|refine w5 ?_ ?_|((refine bh fun h=>?_) <;> try exact w6 h)|(refine aE fun hA=>?_;subst hA)|intro _|(show aN _ _ _ _ _ _ _;first|refine G_delete ?_ (hv:=YN)|refine Lm ?_ (hv:=YN)))
    all_goals(refine aC ?_;exact aB (hK _))
end
end
section
variable {R C:List HP} {K:KP}
def JB (s:eN) (lv:List Int):List Int:=Np (lv.flatMap fun k=>b8 k s.1)
def yV (s:eN):Nat→List Int→List Int
 |0,_=> []
 |n+1,lv=>if lv= [] then [] else lv++yV s n (JB s lv)
def eC (s:eN):List Int:=yV s (s.1.length+1) (b8 0 s.1)
theorem tG {s:eN} (h:NM s):∀ {lv:List Int},lv.Nodup→(lv.flatMap fun k=>b8 k s.1).Nodup
 | [],_=>List.nodup_nil
 |k::r,hn=>by
  obtain⟨h1,h2⟩:=List.nodup_cons.1 hn
  rw[List.flatMap_cons]
  refine List.nodup_append.2 ⟨AW h,tG h h2,?_⟩
  intro a ha b hb e
  subst e
  obtain⟨z,hz,hzb⟩:=List.mem_flatMap.1 hb
  have e1:=(kQ h ha).2
  have e2:=(kQ h hzb).2
  exact h1 (by rw[← e1,e2];exact hz)
theorem Ahc {s:eN} {l:List Int} (h:∀k∈l,dZ k s.1=true):∀k∈l,k∈s.1.map KE.k:=fun k hk=>wJ (h k hk)
theorem GU {s:eN} {l:List Int} (hn:l.Nodup) (h:∀k∈l,dZ k s.1=true):l.length≤s.1.length:=by
 have:=List.Nodup.length_le_of_subset hn (Ahc h)
 rwa[List.length_map] at this
theorem Ad {s:eN} {lv:List Int} (h:NM s):∀y∈lv.flatMap fun k=>b8 k s.1,dZ y s.1=true∧(dB y s).on∈lv:=fun y hy=>by
 obtain⟨k,hk,hy⟩:=List.mem_flatMap.1 hy
 obtain⟨h1,h2⟩:=kQ h hy
 exact⟨h1,by rw[h2];exact hk⟩
def Abk (s:eN) (r:Int→Nat) (n:Nat) (lv:List Int):Prop:=∀x∈lv,dZ x s.1=true∧∃c:List Int,c.Nodup∧c.length=n∧∀z∈c,dZ z s.1=true∧r z<r x
theorem Alm {s:eN} {r:Int→Nat} {n:Nat} {lv:List Int} (hr:S3 r s) (hk:NM s) (h:Abk s r n lv):Abk s r (n+1) (JB s lv):=fun y hy=>by
 unfold JB at hy
 rw[An] at hy
 obtain⟨h1,h2⟩:=Ad hk y hy
 obtain⟨h3,c,h4,h5,h6⟩:=h _ h2
 have h7:=hr y h1 h3
 refine⟨h1,(dB y s).on::c,List.nodup_cons.2 ⟨fun q=>by have:=(h6 _ q).2;omega,h4⟩,by rw[List.length_cons,h5],fun z hz=>?_⟩
 rcases List.mem_cons.1 hz with rfl|hz
 ·exact⟨h3,h7⟩
 ·exact⟨(h6 z hz).1,Nat.lt_trans (h6 z hz).2 h7⟩
theorem Aly {s:eN} {r:Int→Nat} {n:Nat} {lv:List Int} (h:Abk s r n lv) (hn:lv≠ []):n<s.1.length:=by
 obtain⟨x,hx⟩:=List.exists_mem_of_ne_nil lv hn
 obtain⟨h1,c,h2,h3,h4⟩:=h x hx
 have:=GU (s:=s) (l:=x::c) (List.nodup_cons.2 ⟨fun q=>by have:=(h4 _ q).2;omega,h2⟩) (fun z hz=>by
  rcases List.mem_cons.1 hz with rfl|hz
  ·exact h1
  ·exact(h4 z hz).1)
 rw[List.length_cons,h3] at this
 exact this
theorem Air {s:eN} {lv:List Int} (hk:NM s) (h:lv.Nodup):(JB s lv).Nodup:=UY (tG hk h)
section
variable {p q:Nat} {most:Int} {s:eN} {r:Int→Nat}
theorem TG (hok:Rb s.1 s.2) (hl:s.1.length≤1000) (hn:NM s) (hr:S3 r s) (hK:∀B d,K (.slice B (eC s).length d) (bQ B d 3 jI (eC s)::pt p [I6 most,.map (some q)] 229::mp q (kM qR s.1) s.2::R)):CT 288 #[PO p] (pt p [I6 most,.map (some q)] 229::mp q (kM qR s.1) s.2::R) K:=by
 have hc0:Abk s r 0 (b8 0 s.1):=fun x hx=>⟨(kQ hn hx).1,[],List.nodup_nil,rfl,fun z hz=>by cases hz⟩
 refine aH Tryz.func288 ?_
 repeat' (first|refine Y8 ?_|refine w5 ?_ ?_|((refine bh fun h=>?_) <;> try exact w6 h)|(refine aE fun hA=>?_;subst hA)|intro _|(show aA _ 355 _ _ _;refine CA (h:=Bu hok (by omega) (fun A c=>?_))))
 refine l7 (aG.nilrow 3 jI _) ?_
 refine fZ (fun kk a C'=>∃(n:Nat) (acc lv:List Int) (A:Option Addr) (c:Nat) (B:Option Addr) (d:Nat),n+kk=s.1.length∧acc++yV s (kk+1) lv=eC s∧acc.length≤1000 * n∧lv.Nodup∧Abk s r n lv∧cJ a [(0,PO p),(3,.slice B acc.length d),(4,.slice A lv.length c)]∧C'=bQ B d 3 jI acc::bQ A c 3 jI lv::pt p [I6 most,.map (some q)] 229::mp q (kM qR s.1) s.2::R) s.1.length (bV s.1.length ⟨0,[],_,A,c,none,0,by omega,rfl,by simp,AW hn,hc0,⟨rfl,rfl,rfl,trivial⟩,rfl⟩ (by omega)) ?_
 rintro kk a C' ⟨n,acc,lv,A,c,B,d,hk,hac,hal,hnd,hch,ha,rfl⟩
 refine fP _ ha ?_
 simp only[eP]
 by_cases h0:lv= []
 ·subst h0
  have e:yV s (kk+1) []= []:=by unfold yV;rw[if_pos rfl]
  rw[e,List.append_nil] at hac
  subst hac
  repeat' (first|refine Y8 ?_|refine w5 ?_ ?_|((refine bh fun h=>?_) <;> try exact w6 h)|(refine aE fun hA=>?_;subst hA)|intro _)
  all_goals(refine aC ?_;exact aB (hK _ _))
 ·have hlt:=Aly hch h0
  have e:yV s (kk+1) lv=lv++yV s kk (JB s lv):=by
   conv=>lhs;unfold yV
   rw[if_neg h0]
  rw[e,← List.append_assoc] at hac
  have hll:lv.length≤s.1.length:=GU hnd fun k hk=>(hch k hk).1
  have hl0:0<lv.length:=List.length_pos_iff.2 h0
  have hn1:1000 * n≤1000 * 1000:=Nat.mul_le_mul_left _ (by omega)
  repeat' (first|(show aN _ _ _ _ _ _ _;(refine cU (E:=jI) (xs:=acc) (ys:=lv) ?_;intro B2 d2))|refine Y8 ?_|refine w5 ?_ ?_|((refine bh fun h=>?_) <;> try exact w6 h)|(refine aE fun hA=>?_;subst hA)|intro _)
  refine l7 (aG.nilrow 3 jI _) ?_
  refine fZ (fun k2 a C'=>∃(j:Nat) (N:Option Addr) (e:Nat),j+k2=lv.length∧cJ a [(0,PO p),(3,.slice B2 (acc++lv).length d2),(5,.slice N ((lv.take j).flatMap fun k=>b8 k s.1).length e),(16,.slice A lv.length c),(17,I6 lv.length),(18,I6 j)]∧C'=bQ N e 3 jI ((lv.take j).flatMap fun k=>b8 k s.1)::bQ B2 d2 3 jI (acc++lv)::bQ A c 3 jI lv::pt p [I6 most,.map (some q)] 229::mp q (kM qR s.1) s.2::R) lv.length (bV lv.length ⟨0,none,0,by omega,⟨rfl,rfl,rfl,rfl,rfl,rfl,trivial⟩,rfl⟩ (by omega)) ?_
  rintro k2 a2 C' ⟨j,N,e2,hj,ha,rfl⟩
  refine fP _ ha ?_
  simp only[eP]
  by_cases hlt2:j<lv.length
  ·obtain⟨k,hkj⟩:∃k,lv[j]?=some k:=⟨_,List.getElem?_eq_getElem hlt2⟩
   have hk':lv[((j:Nat):Int).toNat]?=some k:=by rw[Int.toNat_natCast];exact hkj
   have hfl:((lv.take j).flatMap fun k=>b8 k s.1).length≤1000:=Nat.le_trans (GU (tG hn (List.Nodup.sublist (List.take_sublist ..) hnd)) fun y hy=>(Ad hn y hy).1) hl
   have hkl:(b8 k s.1).length≤1000:=by
    unfold b8
    rw[zL,List.length_map]
    exact Nat.le_trans (List.length_filter_le _ _) hl
   have hnx:((lv.take j).flatMap fun k=>b8 k s.1)++b8 k s.1=(lv.take (j+1)).flatMap fun k=>b8 k s.1:=by rw[List.take_add_one,hkj];simp
   repeat' (first|(show aN _ _ _ _ _ _ _;(refine cU (E:=jI) (xs:=(lv.take j).flatMap fun k=>b8 k s.1) (ys:=b8 k s.1) ?_;intro N2 e3))|refine Y8 ?_|refine w5 ?_ ?_|((refine bh fun h=>?_) <;> try exact w6 h)|(refine aE fun hA=>?_;subst hA)|intro _|(show aA _ 355 _ _ _;refine CA (h:=Bu hok (by omega) (fun A3 c3=>?_))))
   all_goals rw[hnx]
   all_goals(show aT _ _ _ _;exact bV (k2 - 1) ⟨j+1,_,_,by omega,⟨rfl,rfl,rfl,rfl,rfl,rfl,trivial⟩,rfl⟩)
  ·have hjl:lv.take j=lv:=List.take_of_length_le (by omega)
   rw[hjl]
   have hfl:(lv.flatMap fun k=>b8 k s.1).length≤1000:=Nat.le_trans (GU (tG hn hnd) fun y hy=>(Ad hn y hy).1) hl
   have hsl:(JB s lv).length=(lv.flatMap fun k=>b8 k s.1).length:=zL _
   repeat' (first|refine Y8 ?_|refine w5 ?_ ?_|((refine bh fun h=>?_) <;> try exact w6 h)|(refine aE fun hA=>?_;subst hA)|intro _|(show aA _ 356 _ _ _;refine CA (h:=PQ (xs:=lv.flatMap fun k=>b8 k s.1) rfl (by omega) ?_)))
   all_goals rw[← hsl]
   all_goals(show aT _ _ _ _;exact bV (kk - 1) ⟨n+1,acc++lv,JB s lv,N,e2,B2,d2,by omega,by rw[show kk - 1+1=kk by omega];exact hac,by rw[List.length_append];omega,Air hn hnd,Alm hr hn hch,⟨rfl,rfl,rfl,trivial⟩,rfl⟩)
end
end
end Go.Proofs.YtifgibijcmppmaaGreat
namespace Go.Proofs.YtifgibijcmppmaaGreat
open Go Go.Proofs Go.Sl
attribute [local irreducible] aN fN cX bP aM aX aA dS dV aT dU pt ro eV star sep bH
section
inductive Rc (has:Int→Prop) (on:Int→Int) (k:Int):Int→Prop
 |base {j:Int}:has j→on j=k→Rc has on k j
 |step {j:Int}:has j→Rc has on k (on j)→Rc has on k j
theorem x4 {has:Int→Prop} {on:Int→Int} {k j:Int} (h:Rc has on k j):has j:=by cases h <;> assumption
theorem MH {has:Int→Prop} {on:Int→Int} {r:Int→Nat} (hr:∀j,has j→has (on j)→r (on j)<r j) {k j:Int} (hk:has k) (h:Rc has on k j):r k<r j:=by
 induction h with
 |base h1 h2=>have:=hr _ h1 (by rw[h2];exact hk);rw[h2] at this;exact this
 |step h1 h2 ih=>exact Nat.lt_trans ih (hr _ h1 (x4 h2))
theorem Abd {has has':Int→Prop} {on on':Int→Int} {r:Int→Nat} (hr:∀j,has j→has (on j)→r (on j)<r j) (U:Int→Prop) (q:Int) (hU:∀j,has j→has (on j)→U (on j)→U j) (hq:¬U q)
  (hn:∀j,has' j→has' (on' j)→(has j∧has (on j)∧on' j=on j)∨(U j∧on' j=q)):∃r':Int→Nat,∀j,has' j→has' (on' j)→r' (on' j)<r' j:=by
 classical
 refine⟨fun j=>if U j then r j+r q+1 else r j,fun j h1 h2=>?_⟩
 rcases hn j h1 h2 with⟨a,b,c⟩|⟨a,b⟩
 ·rw[c]
  have h:=hr j a b
  show(if U (on j) then r (on j)+r q+1 else r (on j))<(if U j then r j+r q+1 else r j)
  by_cases hu:U (on j)
  ·rw[if_pos hu,if_pos (hU j a b hu)];omega
  ·rw[if_neg hu]
   split <;> omega
 ·rw[b]
  show(if U q then r q+r q+1 else r q)<(if U j then r j+r q+1 else r j)
  rw[if_neg hq,if_pos a];omega
theorem Adh {has has':Int→Prop} {on on':Int→Int} {r:Int→Nat} {k p:Int} (hr:∀j,has j→has (on j)→r (on j)<r j) (hkp:p≠k) (hu:¬Rc has on k p) (h1:∀j,has' j→j=k∨has j) (h3:on' k=p) (h4:∀j,j≠k→on' j=on j) (h5:∀j,j≠k→has' j→has' (on j)→has (on j)):
  ∃r':Int→Nat,∀j,has' j→has' (on' j)→r' (on' j)<r' j:=by
 refine Abd hr (fun j=>j=k∨Rc has on k j) p (fun j a b c=>?_) (fun h=>h.elim hkp hu) fun j a b=>?_
 ·rcases c with c|c
  ·exact .inr (.base a c)
  ·exact .inr (.step a c)
 ·by_cases hj:j=k
  ·subst hj;exact .inr ⟨.inl rfl,h3⟩
  ·rw[h4 j hj] at b ⊢
   exact .inl ⟨(h1 j a).resolve_left hj,h5 j hj a b,rfl⟩
theorem Xb {has has':Int→Prop} {on on':Int→Int} {r:Int→Nat} {id q:Int} (hr:∀j,has j→has (on j)→r (on j)<r j) (hid:on id=q) (hq:has q∨∀j,has j→j≠q) (hqi:q≠id)
  (h1:∀j,has' j→has j) (h2:∀j,has j→j≠id→on j=q→on' j=id) (h3:∀j,has j→(j=id∨on j≠q)→on' j=on j):
  ∃r':Int→Nat,∀j,has' j→has' (on' j)→r' (on' j)<r' j:=by
 refine Abd hr (fun j=>∃k,has k∧k≠id∧on k=q∧(j=k∨Rc has on k j)) id (fun j a b c=>?_) (fun h=>?_) fun j a b=>?_
 ·obtain⟨k,c1,c2,c3,c4⟩:=c
  refine⟨k,c1,c2,c3,?_⟩
  rcases c4 with c4|c4
  ·exact .inr (.base a c4)
  ·exact .inr (.step a c4)
 ·obtain⟨k,c1,c2,c3,c4⟩:=h
  rcases c4 with c4|c4
  ·exact c2 c4.symm
  ·have hlt:¬Rc has on k q:=fun h=>by
    have h1:=x4 h
    have h2:=MH hr c1 h
    have h3:=hr k c1 (by rw[c3];exact h1)
    rw[c3] at h3
    omega
   cases c4 with
   |base d1 d2=>
    rw[hid] at d2
    rcases hq with e|e
    ·have:=hr k c1 (by rw[c3];exact e)
     rw[c3,d2] at this
     omega
    ·exact e k c1 d2.symm
   |step d1 d2=>rw[hid] at d2;exact hlt d2
 ·have ha:=h1 j a
  by_cases hj:j=id∨on j≠q
  ·rw[h3 j ha hj] at b ⊢
   exact .inl ⟨ha,h1 _ b,rfl⟩
  ·have hj1:j≠id:=fun h=>hj (.inl h)
   have hj2:on j=q:=Classical.byContradiction fun h=>hj (.inr h)
   rw[h2 j ha hj1 hj2]
   exact .inr ⟨⟨j,ha,hj1,hj2,.inl rfl⟩,rfl⟩
section
variable {id j on w:Int} {n:Nd} {s:eN} {x:Bool}
theorem Ah3:dZ j (fB id n s).1=(decide (j=id) || dZ j s.1):=by
 unfold dZ fB
 simp only
 rw[Ix]
 by_cases h:j=id
 ·rw[if_pos h,decide_eq_true h];rfl
 ·rw[if_neg h,decide_eq_false h];rfl
theorem FM {id:Int} {n:Nd} {ck:Nat}:∀ {l:List (KE Nd)},(gQ id l).isSome=true→(tC id n ck l).map KE.k=l.map KE.k
 | [],h=>by cases h
 |e::r,h=>by
  unfold gQ at h
  unfold tC
  by_cases he:id=e.k
  ·rw[if_pos he];rfl
  ·rw[if_neg he] at h ⊢
   rw[List.map_cons,List.map_cons,FM h]
theorem LI (h:dZ id s.1=true):(fB id n s).1.length=s.1.length:=by
 have:=congrArg List.length (FM (n:=n) (ck:=s.2) h)
 simpa[fB] using this
theorem T0 {id:Int}:∀ {l:List (KE Nd)},gQ id l=none→∀e∈l,e.k≠id
 | [],_,e,he=>by cases he
 |z::r,h,e,he=>by
  unfold gQ at h
  split at h
  ·cases h
  ·rename_i hz
   rcases List.mem_cons.1 he with rfl|he
   ·exact fun h'=>hz h'.symm
   ·exact T0 h e he
theorem HL (h:NM s):NM (fB id n s):=by
 unfold NM fB
 simp only
 cases hg:gQ id s.1 with
 |some v=>rw[FM (by rw[hg];rfl)];exact h
 |none=>
  rw[Eb hg,List.map_append,List.nodup_append]
  refine⟨h,by simp,fun a ha b hb=>?_⟩
  simp only[List.map_cons,List.map_nil,List.mem_cons,List.not_mem_nil,or_false] at hb
  obtain⟨e,he,rfl⟩:=List.mem_map.1 ha
  subst hb
  exact T0 hg e he
theorem Dh {id j:Int}:∀ {l:List (KE Nd)},(l.map KE.k).Nodup→gQ j (mQ id l)=if j=id then none else gQ j l
 | [],_=>by split <;> rfl
 |e::r,h=>by
  rw[List.map_cons,List.nodup_cons] at h
  unfold mQ
  by_cases he:id=e.k
  ·rw[if_pos he]
   by_cases hj:j=id
   ·rw[if_pos hj]
    cases hg:gQ j r with
    |none=>rfl
    |some v=>
     have:=wJ (id:=j) (l:=r) (by rw[hg];rfl)
     rw[hj,he] at this
     exact absurd this h.1
   ·rw[if_neg hj]
    show _=if j=e.k then _ else _
    rw[if_neg (by rw[← he];exact hj)]
  ·rw[if_neg he]
   show(if j=e.k then _ else gQ j (mQ id r))=if j=id then none else if j=e.k then _ else gQ j r
   rw[Dh h.2]
   by_cases hj:j=id
   ·rw[if_pos hj,if_pos hj,if_neg (by rw[hj];exact he)]
   ·rw[if_neg hj,if_neg hj]
theorem EO {id:Int}:∀ {l:List (KE Nd)},((mQ id l).map KE.k).Sublist (l.map KE.k)
 | []=>List.Sublist.refl _
 |e::r=>by
  unfold mQ
  split
  ·exact List.sublist_cons_self ..
  ·exact List.Sublist.cons_cons _ EO
theorem Aa6 {id:Int}:∀ {l:List (KE Nd)},((mQ id l).map KE.b).Sublist (l.map KE.b)
 | []=>List.Sublist.refl _
 |e::r=>by
  unfold mQ
  split
  ·exact List.sublist_cons_self ..
  ·exact List.Sublist.cons_cons _ Aa6
theorem Kb {id:Int} {e:KE Nd}:∀ {l:List (KE Nd)},e∈mQ id l→e∈l
 | [],h=>h
 |z::r,h=>by
  unfold mQ at h
  split at h
  ·exact List.mem_cons_of_mem _ h
  ·exact(List.mem_cons.1 h).elim (fun e=>by rw[e];exact List.mem_cons_self ..) fun h=>List.mem_cons_of_mem _ (Kb h)
theorem Ad2 {id:Int} {l:List (KE Nd)}:(mQ id l).length≤l.length:=by
 have:=(EO (id:=id) (l:=l)).length_le
 simpa using this
end
structure Mn (s:eN):Prop where
 kok:Rb s.1 s.2
 nd:NM s
 len:s.1.length≤64
 w:TrW s
 ky:∀id,dZ id s.1=true→1≤id∧id≤2147483647
 cl:∀id,dZ id s.1=true→(dB id s).on=0∨dZ (dB id s).on s.1=true
 rk:∃r,S3 r s
end
section
abbrev eU (s:eN) (j:Int):Prop:=dZ j s.1=true
abbrev pZ (s:eN) (j:Int):Int:=(dB j s).on
section
variable {id j on w low:Int} {s:eN} {x:Bool} {r:Int→Nat}
theorem Akf (hr:S3 r s) (h:Rc (eU s) (pZ s) id low):∀(kk:Nat) (seen:List Int),seen.length+kk=s.1.length→seen.Nodup→(∀z∈seen,z∈s.1.map KE.k∧r low<r z)→rG id s (kk+1) low=true:=by
 induction h with
 |base h1 h2=>
  intro kk seen _ _ _
  unfold rG
  rw[if_pos h1,if_pos h2]
 |step h1 h2 ih=>
  rename_i lw
  intro kk seen hk hnd hse
  unfold rG
  rw[if_pos h1]
  split
  ·rfl
  ·have hns:lw ∉ seen:=fun hm=>by have:=(hse lw hm).2;omega
   have hlen:(lw::seen).length≤(s.1.map KE.k).length:=List.Nodup.length_le_of_subset (List.nodup_cons.2 ⟨hns,hnd⟩) (fun z hz=>by
    rcases List.mem_cons.1 hz with rfl|hz
    ·exact wJ h1
    ·exact(hse z hz).1)
   rw[List.length_map,List.length_cons] at hlen
   obtain⟨k1,rfl⟩:∃k1,kk=k1+1:=⟨kk - 1,by omega⟩
   have h3:=hr lw h1 (x4 h2)
   refine ih k1 (lw::seen) (by rw[List.length_cons];omega) (List.nodup_cons.2 ⟨hns,hnd⟩) fun z hz=>?_
   rcases List.mem_cons.1 hz with rfl|hz
   ·exact⟨wJ h1,h3⟩
   ·exact⟨(hse z hz).1,Nat.lt_trans h3 (hse z hz).2⟩
theorem Sz:∀ {n:Nat} {low:Int},rG id s n low=true→Rc (eU s) (pZ s) id low
 |0,_,h=>by cases h
 |n+1,low,h=>by
  unfold rG at h
  split at h
  ·rename_i hh
   split at h
   ·rename_i ho;exact .base hh ho
   ·exact .step hh (Sz h)
  ·cases h
theorem Al1 (hr:S3 r s) (h:rG id s (s.1.length+1) low=false):¬Rc (eU s) (pZ s) id low:=fun hu=>by
 rw[Akf hr hu s.1.length [] (by simp) List.nodup_nil (fun z hz=>by cases hz)] at h
 cases h
theorem dW {n:Nd}:eU (fB id n s) j↔j=id∨eU s j:=by
 unfold eU;rw[Ah3];simp
theorem uQ {n:Nd}:pZ (fB id n s) j=if j=id then n.on else pZ s j:=by
 unfold pZ;rw[I3];split <;> rfl
theorem O6 {n:Nd}:(dB j (fB id n s)).w=if j=id then n.w else(dB j s).w:=by
 rw[I3];split <;> rfl
theorem D6:∀ {ks:List Int} {s:eN},(∀k∈ks,eU s k)→Rb s.1 s.2→NM s→(∀j,eU (iI id ks s) j↔eU s j)∧(∀j,pZ (iI id ks s) j=if j∈ks∧j≠id then id else pZ s j)∧(∀j,(dB j (iI id ks s)).w=(dB j s).w)∧Rb (iI id ks s).1 (iI id ks s).2∧NM (iI id ks s)∧(iI id ks s).1.length=s.1.length
 | [],s,_,h1,h2=>⟨fun j=>Iff.rfl,fun j=>by rw[if_neg (by simp)];rfl,fun j=>rfl,h1,h2,rfl⟩
 |k::ks,s,hk,h1,h2=>by
  unfold iI
  by_cases hki:k=id
  ·rw[if_pos hki]
   obtain⟨a1,a2,a3,a4,a5,a6⟩:=D6 (ks:=ks) (s:=s) (fun z hz=>hk z (List.mem_cons_of_mem _ hz)) h1 h2
   refine⟨a1,fun j=>?_,a3,a4,a5,a6⟩
   rw[a2 j]
   by_cases hj:j∈ks∧j≠id
   ·rw[if_pos hj,if_pos ⟨List.mem_cons_of_mem _ hj.1,hj.2⟩]
   ·rw[if_neg hj,if_neg (fun h=>hj ⟨(List.mem_cons.1 h.1).resolve_left (fun e=>h.2 (e.trans hki)),h.2⟩)]
  ·rw[if_neg hki]
   have hkk:=hk k (List.mem_cons_self ..)
   obtain⟨a1,a2,a3,a4,a5,a6⟩:=D6 (ks:=ks) (s:=iP k id s) (fun z hz=>dW.2 (.inr (hk z (List.mem_cons_of_mem _ hz)))) (Di h1) (HL h2)
   refine⟨fun j=>(a1 j).trans (dW.trans ⟨fun h=>h.elim (fun e=>by rw[e];exact hkk) (fun h=>h),.inr⟩),fun j=>?_,fun j=>?_,a4,a5,a6.trans (LI hkk)⟩
   ·rw[a2 j]
    unfold iP
    rw[uQ]
    by_cases hj:j∈ks∧j≠id
    ·rw[if_pos hj,if_pos ⟨List.mem_cons_of_mem _ hj.1,hj.2⟩]
    ·rw[if_neg hj]
     by_cases hjk:j=k
     ·rw[if_pos hjk,if_pos ⟨by rw[hjk];exact List.mem_cons_self ..,by rw[hjk];exact hki⟩]
     ·rw[if_neg hjk,if_neg (fun h=>hj ⟨(List.mem_cons.1 h.1).resolve_left hjk,h.2⟩)]
   ·rw[a3 j]
    unfold iP
    rw[O6]
    split
    ·rename_i e;rw[e]
    ·rfl
theorem xB (h:NM s) {k:Int}:k∈b8 id s.1↔eU s k∧pZ s k=id:=by
 refine⟨fun hk=>kQ h hk,fun hk=>?_⟩
 obtain⟨h1,h2⟩:=hk
 unfold b8
 rw[An]
 have hm:=wJ h1
 obtain⟨e,he,hek⟩:=List.mem_map.1 hm
 refine List.mem_map.2 ⟨e,List.mem_filter.2 ⟨he,?_⟩,hek⟩
 have hg:=NA h he
 rw[hek] at hg
 unfold pZ dB at h2
 rw[hg] at h2
 exact decide_eq_true h2
theorem Bf (h:Mn s) (hi:1≤id∧id≤2147483647) (hon:on=0∨eU s on) (hne:on≠id) (hu:¬Rc (eU s) (pZ s) id on) (hw:1≤w∧w≤256) (hl:eU s id∨s.1.length<64):Mn (pJ id on w x s):=by
 obtain⟨r,hr⟩:=h.rk
 have hz:∀j,eU s j→j≠0:=fun j hj=>by have:=(h.ky j hj).1;omega
 obtain⟨r1,hr1⟩:∃r':Int→Nat,∀j,eU (fB id ⟨on,w⟩ s) j→eU (fB id ⟨on,w⟩ s) (pZ (fB id ⟨on,w⟩ s) j)→r' (pZ (fB id ⟨on,w⟩ s) j)<r' j:=by
  refine Adh (k:=id) (p:=on) hr hne hu (fun j hj=>dW.1 hj) (by rw[uQ,if_pos rfl]) (fun j hj=>by rw[uQ,if_neg hj]) fun j hj h1 h2=>?_
  have h1:=(dW.1 h1).resolve_left hj
  rcases dW.1 h2 with e|e
  ·rcases h.cl j h1 with e'|e'
   ·exact absurd (e.symm.trans e') (by omega)
   ·exact e'
  ·exact e
 have hcl:∀j,eU (fB id ⟨on,w⟩ s) j→pZ (fB id ⟨on,w⟩ s) j=0∨eU (fB id ⟨on,w⟩ s) (pZ (fB id ⟨on,w⟩ s) j):=fun j hj=>by
  rw[uQ]
  by_cases hji:j=id
  ·rw[if_pos hji]
   exact hon.imp (fun e=>e) fun e=>dW.2 (.inr e)
  ·rw[if_neg hji]
   exact(h.cl j ((dW.1 hj).resolve_left hji)).imp (fun e=>e) fun e=>dW.2 (.inr e)
 have hlen:∀(t:eN),t.1.length=s.1.length→(∀j,eU t j↔eU s j)→(fB id ⟨on,w⟩ t).1.length≤64:=fun t ht hh=>by
  rcases hl with e|e
  ·rw[LI ((hh id).2 e),ht];exact h.len
  ·have:=Hq (id:=id) (n:=⟨on,w⟩) (ck:=t.2) t.1
   show(tC id ⟨on,w⟩ t.2 t.1).length≤64
   omega
 have hky:∀j,j=id∨eU s j→1≤j∧j≤2147483647:=fun j hj=>hj.elim (fun e=>by rw[e];exact hi) (h.ky j)
 cases x with
 |false=>
  show Mn (fB id ⟨on,w⟩ s)
  refine⟨Di h.kok,HL h.nd,hlen s rfl fun j=>Iff.rfl,fun j hj=>?_,fun j hj=>hky j (dW.1 hj),hcl,r1,hr1⟩
  rw[O6]
  split
  ·exact hw
  ·rename_i hji;exact h.w j ((dW.1 hj).resolve_left hji)
 |true=>
  show Mn (fB id ⟨on,w⟩ (iI id (b8 on s.1) s))
  obtain⟨a1,a2,a3,a4,a5,a6⟩:=D6 (id:=id) (ks:=b8 on s.1) (s:=s) (fun k hk=>((xB h.nd).1 hk).1) h.kok h.nd
  have b1:∀j,eU (fB id ⟨on,w⟩ (iI id (b8 on s.1) s)) j↔eU (fB id ⟨on,w⟩ s) j:=fun j=>dW.trans ((or_congr Iff.rfl (a1 j)).trans dW.symm)
  have b2:∀j,eU (fB id ⟨on,w⟩ s) j→j≠id→pZ (fB id ⟨on,w⟩ s) j=on→pZ (fB id ⟨on,w⟩ (iI id (b8 on s.1) s)) j=id:=fun j hj hji ho=>by
   rw[uQ,if_neg hji] at ho ⊢
   rw[a2,if_pos ⟨(xB h.nd).2 ⟨(dW.1 hj).resolve_left hji,ho⟩,hji⟩]
  have b3:∀j,eU (fB id ⟨on,w⟩ s) j→(j=id∨pZ (fB id ⟨on,w⟩ s) j≠on)→pZ (fB id ⟨on,w⟩ (iI id (b8 on s.1) s)) j=pZ (fB id ⟨on,w⟩ s) j:=fun j hj ho=>by
   rw[uQ,uQ] at *
   by_cases hji:j=id
   ·rw[if_pos hji,if_pos hji]
   ·rw[if_neg hji] at ho ⊢
    rw[if_neg hji,a2,if_neg (fun hk=>((ho.resolve_left hji) ((xB h.nd).1 hk.1).2))]
  refine⟨Di a4,HL a5,hlen _ a6 a1,fun j hj=>?_,fun j hj=>hky j (dW.1 ((b1 j).1 hj)),fun j hj=>?_,?_⟩
  ·rw[O6]
   split
   ·exact hw
   ·rename_i hji
    rw[a3]
    exact h.w j ((dW.1 ((b1 j).1 hj)).resolve_left hji)
  ·have hj':=(b1 j).1 hj
   show pZ _ j=0∨eU _ (pZ _ j)
   by_cases hjo:j=id∨pZ (fB id ⟨on,w⟩ s) j≠on
   ·rw[b3 j hj' hjo]
    exact(hcl j hj').imp (fun e=>e) fun e=>(b1 _).2 e
   ·rw[b2 j hj' (fun e=>hjo (.inl e)) (Classical.byContradiction fun e=>hjo (.inr e))]
    exact .inr (dW.2 (.inl rfl))
  ·refine Xb (id:=id) (q:=on) hr1 (by rw[uQ,if_pos rfl]) ?_ hne (fun j hj=>(b1 j).1 hj) b2 b3
   rcases hon with e|e
   ·exact .inr fun j hj=>by
     have:=(hky j (dW.1 hj)).1
     omega
   ·exact .inl (dW.2 (.inr e))
theorem Ae5 (h:Mn s) (hu:Rc (eU s) (pZ s) id low):id=0∨eU s id:=by
 induction hu with
 |base h1 h2=>rw[← h2];exact h.cl _ h1
 |step _ _ ih=>exact ih
theorem Ae6 (h:Mn s):Mn (m8 id on w x 64 s):=by
 unfold m8
 split
 ·exact h
 ·rename_i he
  have he:mL id on w 64 s=0:=Classical.byContradiction he
  unfold mL at he
  split at he
  ·cases he
  ·rename_i h1
   split at he
   ·cases he
   ·rename_i h2
    split at he
    ·cases he
    ·rename_i h3
     split at he
     ·cases he
     ·rename_i h4
      have hmay:yZ on w=true:=by simpa using fun hf=>h1 (.inr (.inr hf))
      unfold yZ at hmay
      simp only[Bool.and_eq_true,decide_eq_true_eq] at hmay
      have hid:1≤id∧id≤2147483647:=by omega
      have hnu:∀low,¬Rc (eU s) (pZ s) id low:=fun low hu=>(Ae5 h hu).elim (fun e=>by omega) h3
      split
      ·exact Bf h hid (.inl rfl) (by omega) (hnu 0) ⟨hmay.1.2,hmay.2⟩ (.inr (by omega))
      ·rename_i h5
       refine Bf h hid ?_ h2 (hnu on) ⟨hmay.1.2,hmay.2⟩ (.inr (by omega))
       unfold AV at h5
       by_cases h0:on=0
       ·exact .inl h0
       ·right
        cases hh:dZ on s.1
        ·exact absurd (by rw[hh];simp[h0]) h5
        ·exact hh
end
end
section
section
variable {id j on w low xw all:Int} {s:eN} {x:Bool} {r:Int→Nat}
theorem Af5 (h:Mn s):Mn (kC id on w x s):=by
 unfold kC
 split
 ·exact h
 ·rename_i he
  have he:pK id on w s=0:=Classical.byContradiction he
  unfold pK at he
  split at he
  ·cases he
  ·rename_i h1
   split at he
   ·cases he
   ·rename_i h2
    split at he
    ·cases he
    ·rename_i h3
     have hh:eU s id:=by cases hq:dZ id s.1 <;> first|exact absurd hq h1|exact hq
     have hmay:yZ on w=true:=by cases hq:yZ on w <;> first|exact absurd hq h2|rfl
     unfold yZ at hmay
     simp only[Bool.and_eq_true,decide_eq_true_eq] at hmay
     have hid:=h.ky id hh
     obtain⟨r,hr⟩:=h.rk
     have n0:¬eU s 0:=fun e=>by have:=(h.ky 0 e).1;omega
     have hn0:¬Rc (eU s) (pZ s) id 0:=fun e=>n0 (x4 e)
     have hab0:rG id s (s.1.length+1) 0=false:=by
      cases hq:rG id s (s.1.length+1) 0
      ·rfl
      ·exact absurd (Sz hq) hn0
     split
     ·rw[hab0,if_neg Bool.false_ne_true]
      exact Bf h hid (.inl rfl) (by omega) hn0 ⟨hmay.1.2,hmay.2⟩ (.inl hh)
     ·rename_i h5
      have hon:on=0∨eU s on:=by
       unfold AV at h5
       by_cases h0:on=0
       ·exact .inl h0
       ·right
        cases hq:dZ on s.1
        ·exact absurd (by rw[hq];simp[h0]) h5
        ·exact hq
      cases hq:rG id s (s.1.length+1) on
      ·rw[if_neg Bool.false_ne_true]
       exact Bf h hid hon h3 (Al1 hr hq) ⟨hmay.1.2,hmay.2⟩ (.inl hh)
      ·rw[if_pos rfl]
       have hu:=Sz hq
       have ho:=x4 hu
       have hlt:=MH hr hh hu
       have hko:=h.ky on ho
       have g:Mn (iP on (pZ s id) s):=by
        refine Bf (x:=false) h hko (h.cl id hh) (fun e=>?_) (fun e=>?_) (h.w on ho) (.inl ho)
        ·have:=hr id hh (by show eU s (pZ s id);rw[e];exact ho)
         have e':(dB id s).on=on:=e
         rw[e'] at this
         omega
        ·have h6:=MH hr ho e
         have h7:=hr id hh (x4 e)
         have e':pZ s id=(dB id s).on:=rfl
         rw[e'] at h6
         omega
       have hid':pZ (iP on (pZ s id) s) id=pZ s id:=by
        unfold iP
        rw[uQ,if_neg (fun e=>h3 e.symm)]
       have hon':pZ (iP on (pZ s id) s) on=pZ s id:=by
        unfold iP
        rw[uQ,if_pos rfl]
       have hh':eU (iP on (pZ s id) s) id:=dW.2 (.inr hh)
       refine Bf g hid (.inr (dW.2 (.inl rfl))) h3 (fun e=>?_) ⟨hmay.1.2,hmay.2⟩ (.inl hh')
       obtain⟨r',hr'⟩:=g.rk
       cases e with
       |base d1 d2=>
        rw[hon'] at d2
        have:=hr id hh (by show eU s (pZ s id);rw[d2];exact hh)
        have e':(dB id s).on=id:=d2
        rw[e'] at this
        omega
       |step d1 d2=>
        rw[hon'] at d2
        have h6:=MH hr' hh' d2
        have h7:r' (pZ (iP on (pZ s id) s) id)<r' id:=hr' id hh' (by show eU _ (pZ _ id);rw[hid'];exact x4 d2)
        rw[hid'] at h7
        omega
theorem Alz (hw:1≤w∧w≤all) (hx:1≤xw∧xw≤256):1≤EA w xw all∧EA w xw all≤256:=by
 have h:w * xw / all≤xw:=Int.ediv_le_of_le_mul (by omega) (by rw[Int.mul_comm w xw];exact Int.mul_le_mul_of_nonneg_left hw.2 (by omega))
 unfold EA
 omega
theorem M5 (h:TrW s):∀ {ks:List Int},(∀k∈ks,eU s k)→∀k∈ks,(dB k s).w≤o8 s ks
 | [],_,k,hk=>by cases hk
 |z::ks,hh,k,hk=>by
  have h1:=hh z (List.mem_cons_self ..)
  have h2:=H4 h (l:=ks) fun y hy=>hh y (List.mem_cons_of_mem _ hy)
  unfold o8
  rcases List.mem_cons.1 hk with rfl|hk
  ·omega
  ·have h3:=M5 h (fun y hy=>hh y (List.mem_cons_of_mem _ hy)) k hk
   have h4:=h z h1
   omega
theorem R8 (hx:1≤xw∧xw≤256):∀ {ks:List Int} {s:eN},(∀k∈ks,eU s k)→ks.Nodup→(∀k∈ks,1≤(dB k s).w∧(dB k s).w≤all)→Rb s.1 s.2→NM s→TrW s→(∀j,eU (pU on xw all ks s) j↔eU s j)∧(∀j,pZ (pU on xw all ks s) j=if j∈ks then on else pZ s j)∧TrW (pU on xw all ks s)∧Rb (pU on xw all ks s).1 (pU on xw all ks s).2∧NM (pU on xw all ks s)∧(pU on xw all ks s).1.length=s.1.length
 | [],s,_,_,_,h1,h2,h3=>⟨fun j=>Iff.rfl,fun j=>by rw[if_neg (by simp)];rfl,h3,h1,h2,rfl⟩
 |k::ks,s,hk,hn,hw,h1,h2,h3=>by
  unfold pU
  have hkk:=hk k (List.mem_cons_self ..)
  obtain⟨n1,n2⟩:=List.nodup_cons.1 hn
  have hsh:=Alz (hw k (List.mem_cons_self ..)) hx
  have hne:∀z∈ks,z≠k:=fun z hz e=>n1 (by rw[← e];exact hz)
  obtain⟨a1,a2,a3,a4,a5,a6⟩:=R8 hx (ks:=ks) (s:=fB k ⟨on,EA (dB k s).w xw all⟩ s) (fun z hz=>dW.2 (.inr (hk z (List.mem_cons_of_mem _ hz)))) n2 (fun z hz=>by rw[O6,if_neg (hne z hz)];exact hw z (List.mem_cons_of_mem _ hz)) (Di h1) (HL h2) (fun j hj=>by
   rw[O6]
   split
   ·exact hsh
   ·rename_i hjk;exact h3 j ((dW.1 hj).resolve_left hjk))
  refine⟨fun j=>(a1 j).trans (dW.trans ⟨fun h=>h.elim (fun e=>by rw[e];exact hkk) (fun h=>h),.inr⟩),fun j=>?_,a3,a4,a5,a6.trans (LI hkk)⟩
  rw[a2 j,uQ]
  by_cases hj:j∈ks
  ·rw[if_pos hj,if_pos (List.mem_cons_of_mem _ hj)]
  ·rw[if_neg hj]
   by_cases hjk:j=k
   ·rw[if_pos hjk,if_pos (by rw[hjk];exact List.mem_cons_self ..)]
   ·rw[if_neg hjk,if_neg (fun h=>(List.mem_cons.1 h).elim hjk hj)]
theorem Agu (h:Mn s):Mn (y6 id s):=by
 unfold y6
 split
 ·rename_i hh
  obtain⟨r,hr⟩:=h.rk
  have hks:∀k∈b8 id s.1,eU s k:=fun k hk=>((xB h.nd).1 hk).1
  obtain⟨a1,a2,a3,a4,a5,a6⟩:=R8 (on:=(dB id s).on) (all:=o8 s (b8 id s.1)) (h.w id hh) hks (AW h.nd) (fun k hk=>⟨(h.w k (hks k hk)).1,M5 h.w hks k hk⟩) h.kok h.nd h.w
  generalize pU (dB id s).on (dB id s).w (o8 s (b8 id s.1)) (b8 id s.1) s=t at a1 a2 a3 a4 a5 a6 ⊢
  have b1:∀j,eU (mQ id t.1,t.2) j↔j≠id∧eU s j:=fun j=>by
   rw[← a1 j]
   unfold eU dZ
   show(gQ j (mQ id t.1)).isSome=true↔_
   rw[Dh a5]
   by_cases hj:j=id
   ·rw[if_pos hj];simp[hj]
   ·rw[if_neg hj];simp[hj]
  have b2:∀j,j≠id→dB j (mQ id t.1,t.2)=dB j t:=fun j hj=>by
   unfold dB
   show(gQ j (mQ id t.1)).getD _=_
   rw[Dh a5,if_neg hj]
  have b3:∀j,eU (mQ id t.1,t.2) j→pZ (mQ id t.1,t.2) j=if pZ s j=id then pZ s id else pZ s j:=fun j hj=>by
   have hj':=(b1 j).1 hj
   unfold pZ
   rw[b2 j hj'.1]
   have:=a2 j
   unfold pZ at this
   rw[this]
   by_cases hk:(dB j s).on=id
   ·rw[if_pos hk,if_pos ((xB h.nd).2 ⟨hj'.2,hk⟩)]
   ·rw[if_neg hk,if_neg (fun e=>hk ((xB h.nd).1 e).2)]
  have hne:pZ s id≠id:=fun e=>by
   have e':(dB id s).on=id:=e
   have:=hr id hh (by rw[e'];exact hh)
   rw[e'] at this
   omega
  refine⟨⟨List.Nodup.sublist Aa6 a4.1,fun e he=>a4.2 e (Kb he)⟩,List.Nodup.sublist EO a5,?_,fun j hj=>?_,fun j hj=>h.ky j ((b1 j).1 hj).2,fun j hj=>?_,r,fun j hj hp=>?_⟩
  ·have:=Ad2 (id:=id) (l:=t.1)
   have:=h.len
   show(mQ id t.1).length≤64
   omega
  ·have hj':=(b1 j).1 hj
   rw[b2 j hj'.1]
   exact a3 j ((a1 j).2 hj'.2)
  ·have hj':=(b1 j).1 hj
   show pZ _ j=0∨eU _ (pZ _ j)
   rw[b3 j hj]
   by_cases hk:pZ s j=id
   ·rw[if_pos hk]
    exact(h.cl id hh).imp (fun e=>e) fun e=>(b1 _).2 ⟨hne,e⟩
   ·rw[if_neg hk]
    exact(h.cl j hj'.2).imp (fun e=>e) fun e=>(b1 _).2 ⟨hk,e⟩
  ·have hj':=(b1 j).1 hj
   change r (pZ (mQ id t.1,t.2) j)<r j
   have hp:eU (mQ id t.1,t.2) (pZ (mQ id t.1,t.2) j):=hp
   rw[b3 j hj] at hp ⊢
   by_cases hk:pZ s j=id
   ·rw[if_pos hk] at hp ⊢
    have h1:=hr j hj'.2 (by show eU s (pZ s j);rw[hk];exact hh)
    have h2:=hr id hh ((b1 _).1 hp).2
    have e':(dB j s).on=id:=hk
    rw[e'] at h1
    exact Nat.lt_trans h2 h1
   ·rw[if_neg hk] at hp ⊢
    exact hr j hj'.2 ((b1 _).1 hp).2
 ·exact h
end
end
end Go.Proofs.YtifgibijcmppmaaGreat
