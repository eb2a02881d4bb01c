/- A part of the proof: lemmas; each with the conditions that it states. -/
import Derived.Test.YtepnmcipkangkaaGreatPav
set_option linter.unusedVariables false
set_option linter.unusedSimpArgs false
set_option maxRecDepth 100000
set_option maxHeartbeats 40000000
namespace Go.Proofs.YtepnmcipkangkaaGreat
open Go Go.Proofs Go.Sl
attribute [local irreducible] aN fJ cY bN aM aS aA dM dN aV dL pt ro fB star sep bF
variable {R C:List HP} {K:KP} {p:Nat} {ev wa no he si nn now m k j id on low xw all:Int} {ou lo x:Bool} {has has':Int->Prop} {r:Int->Nat} {on':Int->Int} {n:Nd} {s:eW}
def nE (p:Nat) (ev wa no he:Int) (ou lo:Bool) (si nn:Int):HP:=pt p [I6 ev,I6 wa,I6 no,I6 he,.bool ou,.bool lo,I6 si,I6 nn] 282
def xS (n:Int):ByteArray:=wL [⟨0,4,⟨#[]⟩⟩,⟨n % 2147483648,4,⟨#[]⟩⟩]
theorem Ahr {n:Int} (hK:K (.bool (decide (0<=n) && decide (n<=1048576))) R):CT 167 #[I6 n] R K:=by
 refine aH Tryz.func167 ?_
 repeat' (first|refine v1 ?_|refine w5 ?_ ?_|((refine bh fun h=>?_) <;> try exact w6 h)|(refine aE fun hA=>?_;subst hA)|intro _)
 all_goals(refine aC ?_;exact aB (kb hK (by simp <;> omega)))
theorem TN {e w:Int} (he:0<=e/\e<=1048576) (hw:0<=w/\w<=1048576) (hK:∀p,K (.tuple #[PO p,I6 0]) (nE p e w 0 0 false false 0 0::R)):CT 93 #[I6 e,I6 w] R K:=by
 have h1:(decide (0<=e) && decide (e<=1048576))=true:=by simp[he]
 have h2:(decide (0<=w) && decide (w<=1048576))=true:=by simp[hw]
 refine aH Tryz.func93 ?_
 repeat' (first|refine v53 ?_|refine w5 ?_ ?_|((refine bh fun h=>?_) <;> try exact w6 h)|(refine aE fun hA=>?_;subst hA)|intro _|(show aA _ 167 _ _ _;refine CA (h:=Ahr ?_)))
 all_goals first
  |(refine aC ?_;exact aB (hK _))
  |(exfalso;simp_all)
theorem HU (hK:K (I6 (max no now)) (nE p ev wa (max no now) he ou lo si nn::R)):CT 264 #[PO p,I6 now] (nE p ev wa no he ou lo si nn::R) K:=by
 refine aH Tryz.func264 ?_
 repeat' (first|refine v14 ?_|refine w5 ?_ ?_|((refine bh fun h=>?_) <;> try exact w6 h)|(refine aE fun hA=>?_;subst hA)|intro _)
 (refine aC ?_;exact aB (hK))
def Gf:List (Nat×Nat):= [(0,1),(1,1),(2,1),(3,1),(4,1),(5,1),(6,1),(7,1),(8,1),(9,0),(10,0),(11,0),(12,0),(13,0)]
theorem FJ (hn:0<=nn) (hK:K (.string (xS nn)) (nE p ev wa no he ou lo si nn::R)):CT 265 #[PO p] (nE p ev wa no he ou lo si nn::R) K:=by
 refine aH Tryz.func265 ?_
 repeat' (first|refine v83 ?_|refine dw Gf ?_|refine w5 ?_ ?_|((refine bh fun h=>?_) <;> try exact w6 h)|(refine aE fun hA=>?_;subst hA)|intro _|(show aA _ 367 _ _ _;refine CA (h:=Adi ?_))|(show aA _ 366 _ _ _;refine CA (h:=SP (by exact lF) (by exact rfl) (by decide) ?_)))
 (refine aC ?_;exact aB (hK))
theorem R0 (hK:K (.tuple #[]) (nE p ev wa (max no now) (max no now) ou lo si nn::R)):CT 206 #[PO p,I6 now] (nE p ev wa no he ou lo si nn::R) K:=by
 refine aH Tryz.func206 ?_
 repeat' (first|refine v48 ?_|refine w5 ?_ ?_|((refine bh fun h=>?_) <;> try exact w6 h)|(refine aE fun hA=>?_;subst hA)|intro _|(show aA _ 264 _ _ _;refine CA (h:=HU ?_)))
 (refine aC ?_;exact aB (hK))
theorem Ae9 {s:ByteArray} (hb:ou=false) (hK:K (.bool false) (nE p ev wa no he ou lo si nn::R)):CT 210 #[PO p,I6 now,.string s] (nE p ev wa no he ou lo si nn::R) K:=by
 refine aH Tryz.func210 ?_
 repeat' (first|refine N7 ?_|refine w5 ?_ ?_|((refine bh fun h=>?_) <;> try exact w6 h)|(refine aE fun hA=>?_;subst hA)|intro _)
 all_goals first
  |(refine aC ?_;exact aB (hK))
  |(exfalso;simp_all)
theorem Aey (hmx:max no now=m) (hn:0<=nn) (hK:K (.bool true) (nE p ev wa m m false lo si nn::R)):CT 210 #[PO p,I6 now,.string (xS nn)] (nE p ev wa no he true lo si nn::R) K:=by
 subst hmx
 refine aH Tryz.func210 ?_
 repeat' (first|refine N7 ?_|refine w5 ?_ ?_|((refine bh fun h=>?_) <;> try exact w6 h)|(refine aE fun hA=>?_;subst hA)|intro _|(show aA _ 265 _ _ _;refine CA (h:=FJ (by assumption) ?_))|(show aA _ 206 _ _ _;refine CA (h:=R0 ?_)))
 all_goals first
  |(refine aC ?_;exact aB (hK))
  |(exfalso;simp_all)
def Ba (ev wa he:Int) (ou lo:Bool) (si m:Int):Int:=if lo=true\/(ou=true/\wa<=m - si) then 2 else if ou=true\/m - he<ev then 0 else 1
def mF:List Nat:= [0,1,3,7,15,31,63,127,255,511,1023,1023,3071,7167,15359,32767,1023,66559,197631,459775,1048575,2097151,4194303,8388607]
def l6:List Nat:= [8388607,4194303,2097151,1048575,459775,197631,66559,1023,32767,15359,7167,3071,1023,1023,511,255,127,63,31,15,7,3,1,0]
def l8:List (Nat×Nat):= [(0,0),(1,0),(2,0),(3,0),(4,0),(5,0),(6,0),(7,0),(8,0),(9,0),(10,0),(11,0),(12,0),(13,0),(14,0),(15,0),(16,0),(17,0),(18,0),(19,0),(20,0),(21,0),(22,0),(23,0)]
def mB:List (Nat×Nat):= [(0,0),(1,0),(2,0),(3,0),(4,0),(5,0),(6,0),(7,0),(8,0),(9,0),(10,0),(11,0),(12,0),(13,0),(14,0),(15,0),(16,0),(17,0)]
theorem Abw (hk:Ba ev wa he ou lo si m=0) (hmx:max no now=m) (h0:ev≠0) (hm:-1000000000000<=m/\m<=1000000000000) (hs:-1000000000000<=si/\si<=1000000000000) (hh:-1000000000000<=he/\he<=1000000000000) (hn:0<=nn/\nn<=1000000000000)
  (hK:K (.tuple #[I6 0,.string ⟨#[]⟩]) (nE p ev wa m he ou lo si nn::R)):CT 179 #[PO p,I6 now] (nE p ev wa no he ou lo si nn::R) K:=by
 subst hmx
 unfold Ba at hk
 refine aH Tryz.func179 ?_
 repeat' (first|refine v71 ?_|refine R6 mF l6 l8 ?_|refine dw mB ?_|refine w5 ?_ ?_|((refine bh fun h=>?_) <;> try exact w6 h)|(refine aE fun hA=>?_;subst hA)|intro _|(show aA _ 264 _ _ _;refine CA (h:=HU ?_))|(show aA _ 265 _ _ _;refine CA (h:=FJ (by omega) ?_)))
 all_goals first
  |(refine aC ?_;exact aB (hK))
  |(exfalso;simp_all;done)
  |(exfalso;simp_all <;> omega)
theorem Afn (hk:Ba ev wa he ou lo si m=1) (hmx:max no now=m) (h0:ev≠0) (hm:-1000000000000<=m/\m<=1000000000000) (hs:-1000000000000<=si/\si<=1000000000000) (hh:-1000000000000<=he/\he<=1000000000000) (hn:0<=nn/\nn<=1000000000000)
  (hK:K (.tuple #[I6 1,.string (xS (nn+1))]) (nE p ev wa m he true lo m (nn+1)::R)):CT 179 #[PO p,I6 now] (nE p ev wa no he ou lo si nn::R) K:=by
 subst hmx
 unfold Ba at hk
 refine aH Tryz.func179 ?_
 repeat' (first|refine v71 ?_|refine R6 mF l6 l8 ?_|refine dw mB ?_|refine w5 ?_ ?_|((refine bh fun h=>?_) <;> try exact w6 h)|(refine aE fun hA=>?_;subst hA)|intro _|(show aA _ 264 _ _ _;refine CA (h:=HU ?_))|(show aA _ 265 _ _ _;refine CA (h:=FJ (by omega) ?_)))
 all_goals first
  |(refine aC ?_;exact aB (hK))
  |(exfalso;simp_all;done)
  |(exfalso;simp_all <;> omega)
theorem Aea (hk:Ba ev wa he ou lo si m=2) (hmx:max no now=m) (h0:ev≠0) (hm:-1000000000000<=m/\m<=1000000000000) (hs:-1000000000000<=si/\si<=1000000000000) (hh:-1000000000000<=he/\he<=1000000000000) (hn:0<=nn/\nn<=1000000000000)
  (hK:K (.tuple #[I6 2,.string ⟨#[]⟩]) (nE p ev wa m he ou true si nn::R)):CT 179 #[PO p,I6 now] (nE p ev wa no he ou lo si nn::R) K:=by
 subst hmx
 unfold Ba at hk
 refine aH Tryz.func179 ?_
 repeat' (first|refine v71 ?_|refine R6 mF l6 l8 ?_|refine dw mB ?_|refine w5 ?_ ?_|((refine bh fun h=>?_) <;> try exact w6 h)|(refine aE fun hA=>?_;subst hA)|intro _|(show aA _ 264 _ _ _;refine CA (h:=HU ?_))|(show aA _ 265 _ _ _;refine CA (h:=FJ (by omega) ?_)))
 all_goals first
  |(refine aC ?_;exact aB (hK))
  |(exfalso;simp_all;done)
  |(exfalso;simp_all <;> omega)
theorem Vj (h0:ev=0) (hK:K (.tuple #[I6 0,.string ⟨#[]⟩]) (nE p ev wa no he ou lo si nn::R)):CT 179 #[PO p,I6 now] (nE p ev wa no he ou lo si nn::R) K:=by
 refine aH Tryz.func179 ?_
 repeat' (first|refine v71 ?_|refine R6 mF l6 l8 ?_|refine dw mB ?_|refine w5 ?_ ?_|((refine bh fun h=>?_) <;> try exact w6 h)|(refine aE fun hA=>?_;subst hA)|intro _)
 all_goals first
  |(refine aC ?_;exact aB (hK))
  |(exfalso;omega)
inductive SN (has:Int->Prop) (on:Int->Int) (k:Int):Int->Prop
 |base {j:Int}:has j->on j=k->SN has on k j
 |step {j:Int}:has j->SN has on k (on j)->SN has on k j
theorem zK {on:Int->Int} (h:SN has on k j):has j:=by cases h <;> assumption
theorem OA {on:Int->Int} (hr:∀j,has j->has (on j)->r (on j)<r j) (hk:has k) (h:SN has on k j):r k<r j:=by
 induction h with
 |base h1 h2=>have:=hr _ h1 (by rw[h2];exact hk);rw[h2] at this;exact this
 |step h1 h2 ih=>exact Nat.lt_trans ih (hr _ h1 (zK h2))
theorem Aca {on:Int->Int} (hr:∀j,has j->has (on j)->r (on j)<r j) (U:Int->Prop) (q:Int) (hU:∀j,has j->has (on j)->U (on j)->U j) (hq:¬U q)
  (hn:∀j,has' j->has' (on' j)->(has j/\has (on j)/\on' j=on j)\/(U j/\on' j=q)):∃r':Int->Nat,∀j,has' j->has' (on' j)->r' (on' j)<r' j:=by
 classical
 refine⟨fun j=>if U j then r j+r q+1 else r j,fun j h1 h2=>?_⟩
 rcases hn j h1 h2 with⟨a,b,c⟩|⟨a,b⟩
 ·rw[c]
  have h:=hr j a b
  show(if U (on j) then r (on j)+r q+1 else r (on j))<(if U j then r j+r q+1 else r j)
  by_cases hu:U (on j)
  ·rw[if_pos hu,if_pos (hU j a b hu)];omega
  ·rw[if_neg hu]
   split <;> omega
 ·rw[b]
  show(if U q then r q+r q+1 else r q)<(if U j then r j+r q+1 else r j)
  rw[if_neg hq,if_pos a];omega
theorem Ahg {on:Int->Int} {p:Int} (hr:∀j,has j->has (on j)->r (on j)<r j) (hkp:p≠k) (hu:¬SN has on k p) (h1:∀j,has' j->j=k\/has j) (h3:on' k=p) (h4:∀j,j≠k->on' j=on j) (h5:∀j,j≠k->has' j->has' (on j)->has (on j)):
  ∃r':Int->Nat,∀j,has' j->has' (on' j)->r' (on' j)<r' j:=by
 refine Aca hr (fun j=>j=k\/SN has on k j) p (fun j a b c=>?_) (fun h=>h.elim hkp hu) fun j a b=>?_
 ·rcases c with c|c
  ·exact .inr (.base a c)
  ·exact .inr (.step a c)
 ·by_cases hj:j=k
  ·subst hj;exact .inr ⟨.inl rfl,h3⟩
  ·rw[h4 j hj] at b ⊢
   exact .inl ⟨(h1 j a).resolve_left hj,h5 j hj a b,rfl⟩
theorem ZG {on:Int->Int} {q:Int} (hr:∀j,has j->has (on j)->r (on j)<r j) (hid:on id=q) (hq:has q\/∀j,has j->j≠q) (hqi:q≠id)
  (h1:∀j,has' j->has j) (h2:∀j,has j->j≠id->on j=q->on' j=id) (h3:∀j,has j->(j=id\/on j≠q)->on' j=on j):
  ∃r':Int->Nat,∀j,has' j->has' (on' j)->r' (on' j)<r' j:=by
 refine Aca hr (fun j=>∃k,has k/\k≠id/\on k=q/\(j=k\/SN has on k j)) id (fun j a b c=>?_) (fun h=>?_) fun j a b=>?_
 ·obtain⟨k,c1,c2,c3,c4⟩:=c
  refine⟨k,c1,c2,c3,?_⟩
  rcases c4 with c4|c4
  ·exact .inr (.base a c4)
  ·exact .inr (.step a c4)
 ·obtain⟨k,c1,c2,c3,c4⟩:=h
  rcases c4 with c4|c4
  ·exact c2 c4.symm
  ·have hlt:¬SN has on k q:=fun h=>by
    have h1:=zK h
    have h2:=OA hr c1 h
    have h3:=hr k c1 (by rw[c3];exact h1)
    rw[c3] at h3
    omega
   cases c4 with
   |base d1 d2=>
    rw[hid] at d2
    rcases hq with e|e
    ·have:=hr k c1 (by rw[c3];exact e)
     rw[c3,d2] at this
     omega
    ·exact e k c1 d2.symm
   |step d1 d2=>rw[hid] at d2;exact hlt d2
 ·have ha:=h1 j a
  by_cases hj:j=id\/on j≠q
  ·rw[h3 j ha hj] at b ⊢
   exact .inl ⟨ha,h1 _ b,rfl⟩
  ·have hj1:j≠id:=fun h=>hj (.inl h)
   have hj2:on j=q:=Classical.byContradiction fun h=>hj (.inr h)
   rw[h2 j ha hj1 hj2]
   exact .inr ⟨⟨j,ha,hj1,hj2,.inl rfl⟩,rfl⟩
section
variable {w:Int}
theorem Ak1:eA j (fN id n s).1=(decide (j=id) || eA j s.1):=by
 unfold eA fN
 simp only
 rw[IN]
 by_cases h:j=id
 ·rw[if_pos h,decide_eq_true h];rfl
 ·rw[if_neg h,decide_eq_false h];rfl
theorem GO {id:Int} {n:Nd} {ck:Nat}:∀ {l:List (KE Nd)},(gZ id l).isSome=true->(uK id n ck l).map KE.k=l.map KE.k
 | [],h=>by cases h
 |e::r,h=>by
  unfold gZ at h
  unfold uK
  by_cases he:id=e.k
  ·rw[if_pos he];rfl
  ·rw[if_neg he] at h ⊢
   rw[List.map_cons,List.map_cons,GO h]
theorem OG (h:eA id s.1=true):(fN id n s).1.length=s.1.length:=by
 have:=congrArg List.length (GO (n:=n) (ck:=s.2) h)
 simpa[fN] using this
theorem Vw {id:Int}:∀ {l:List (KE Nd)},gZ id l=none->∀e∈l,e.k≠id
 | [],_,e,he=>by cases he
 |z::r,h,e,he=>by
  unfold gZ at h
  split at h
  ·cases h
  ·rename_i hz
   rcases List.mem_cons.1 he with rfl|he
   ·exact fun h'=>hz h'.symm
   ·exact Vw h e he
theorem Kp (h:O2 s):O2 (fN id n s):=by
 unfold O2 fN
 simp only
 cases hg:gZ id s.1 with
 |some v=>rw[GO (by rw[hg];rfl)];exact h
 |none=>
  rw[EG hg,List.map_append,List.nodup_append]
  refine⟨h,by simp,fun a ha b hb=>?_⟩
  simp only[List.map_cons,List.map_nil,List.mem_cons,List.not_mem_nil,or_false] at hb
  obtain⟨e,he,rfl⟩:=List.mem_map.1 ha
  subst hb
  exact Vw hg e he
theorem E0 {id j:Int}:∀ {l:List (KE Nd)},(l.map KE.k).Nodup->gZ j (nJ id l)=if j=id then none else gZ j l
 | [],_=>by split <;> rfl
 |e::r,h=>by
  rw[List.map_cons,List.nodup_cons] at h
  unfold nJ
  by_cases he:id=e.k
  ·rw[if_pos he]
   by_cases hj:j=id
   ·rw[if_pos hj]
    cases hg:gZ j r with
    |none=>rfl
    |some v=>
     have:=xX (id:=j) (l:=r) (by rw[hg];rfl)
     rw[hj,he] at this
     exact absurd this h.1
   ·rw[if_neg hj]
    show _=if j=e.k then _ else _
    rw[if_neg (by rw[<- he];exact hj)]
  ·rw[if_neg he]
   show(if j=e.k then _ else gZ j (nJ id r))=if j=id then none else if j=e.k then _ else gZ j r
   rw[E0 h.2]
   by_cases hj:j=id
   ·rw[if_pos hj,if_pos hj,if_neg (by rw[hj];exact he)]
   ·rw[if_neg hj,if_neg hj]
theorem F6 {id:Int}:∀ {l:List (KE Nd)},((nJ id l).map KE.k).Sublist (l.map KE.k)
 | []=>List.Sublist.refl _
 |e::r=>by
  unfold nJ
  split
  ·exact List.sublist_cons_self ..
  ·exact List.Sublist.cons_cons _ F6
theorem Af8 {id:Int}:∀ {l:List (KE Nd)},((nJ id l).map KE.b).Sublist (l.map KE.b)
 | []=>List.Sublist.refl _
 |e::r=>by
  unfold nJ
  split
  ·exact List.sublist_cons_self ..
  ·exact List.Sublist.cons_cons _ Af8
theorem Lq {id:Int} {e:KE Nd}:∀ {l:List (KE Nd)},e∈nJ id l->e∈l
 | [],h=>h
 |z::r,h=>by
  unfold nJ at h
  split at h
  ·exact List.mem_cons_of_mem _ h
  ·exact(List.mem_cons.1 h).elim (fun e=>by rw[e];exact List.mem_cons_self ..) fun h=>List.mem_cons_of_mem _ (Lq h)
theorem Agu {l:List (KE Nd)}:(nJ id l).length<=l.length:=by
 have:=(F6 (id:=id) (l:=l)).length_le
 simpa using this
end
structure N3 (s:eW):Prop where
 kok:SJ s.1 s.2
 nd:O2 s
 len:s.1.length<=64
 w:TrW s
 ky:∀id,eA id s.1=true->1<=id/\id<=2147483647
 cl:∀id,eA id s.1=true->(dH id s).on=0\/eA (dH id s).on s.1=true
 rk:∃r,SY r s
abbrev fC (s:eW) (j:Int):Prop:=eA j s.1=true
abbrev rQ (s:eW) (j:Int):Int:=(dH j s).on
section
variable {w:Int}
theorem Aos (hr:SY r s) (h:SN (fC s) (rQ s) id low):∀(kk:Nat) (seen:List Int),seen.length+kk=s.1.length->seen.Nodup->(∀z∈seen,z∈s.1.map KE.k/\r low<r z)->sY id s (kk+1) low=true:=by
 induction h with
 |base h1 h2=>
  intro kk seen _ _ _
  unfold sY
  rw[if_pos h1,if_pos h2]
 |step h1 h2 ih=>
  rename_i lw
  intro kk seen hk hnd hse
  unfold sY
  rw[if_pos h1]
  split
  ·rfl
  ·have hns:lw ∉ seen:=fun hm=>by have:=(hse lw hm).2;omega
   have hlen:(lw::seen).length<=(s.1.map KE.k).length:=List.Nodup.length_le_of_subset (List.nodup_cons.2 ⟨hns,hnd⟩) (fun z hz=>by
    rcases List.mem_cons.1 hz with rfl|hz
    ·exact xX h1
    ·exact(hse z hz).1)
   rw[List.length_map,List.length_cons] at hlen
   obtain⟨k1,rfl⟩:∃k1,kk=k1+1:=⟨kk - 1,by omega⟩
   have h3:=hr lw h1 (zK h2)
   refine ih k1 (lw::seen) (by rw[List.length_cons];omega) (List.nodup_cons.2 ⟨hns,hnd⟩) fun z hz=>?_
   rcases List.mem_cons.1 hz with rfl|hz
   ·exact⟨xX h1,h3⟩
   ·exact⟨(hse z hz).1,Nat.lt_trans h3 (hse z hz).2⟩
theorem UE:∀ {n:Nat} {low:Int},sY id s n low=true->SN (fC s) (rQ s) id low
 |0,_,h=>by cases h
 |n+1,low,h=>by
  unfold sY at h
  split at h
  ·rename_i hh
   split at h
   ·rename_i ho;exact .base hh ho
   ·exact .step hh (UE h)
  ·cases h
theorem Apg (hr:SY r s) (h:sY id s (s.1.length+1) low=false):¬SN (fC s) (rQ s) id low:=fun hu=>by
 rw[Aos hr hu s.1.length [] (by simp) List.nodup_nil (fun z hz=>by cases hz)] at h
 cases h
theorem d5:fC (fN id n s) j↔j=id\/fC s j:=by
 unfold fC;rw[Ak1];simp
theorem vJ:rQ (fN id n s) j=if j=id then n.on else rQ s j:=by
 unfold rQ;rw[JS];split <;> rfl
theorem RG:(dH j (fN id n s)).w=if j=id then n.w else(dH j s).w:=by
 rw[JS];split <;> rfl
theorem Ft:∀ {ks:List Int} {s:eW},(∀k∈ks,fC s k)->SJ s.1 s.2->O2 s->(∀j,fC (i4 id ks s) j↔fC s j)/\(∀j,rQ (i4 id ks s) j=if j∈ks/\j≠id then id else rQ s j)/\(∀j,(dH j (i4 id ks s)).w=(dH j s).w)/\SJ (i4 id ks s).1 (i4 id ks s).2/\O2 (i4 id ks s)/\(i4 id ks s).1.length=s.1.length
 | [],s,_,h1,h2=>⟨fun j=>Iff.rfl,fun j=>by rw[if_neg (by simp)];rfl,fun j=>rfl,h1,h2,rfl⟩
 |k::ks,s,hk,h1,h2=>by
  unfold i4
  by_cases hki:k=id
  ·rw[if_pos hki]
   obtain⟨a1,a2,a3,a4,a5,a6⟩:=Ft (ks:=ks) (s:=s) (fun z hz=>hk z (List.mem_cons_of_mem _ hz)) h1 h2
   refine⟨a1,fun j=>?_,a3,a4,a5,a6⟩
   rw[a2 j]
   by_cases hj:j∈ks/\j≠id
   ·rw[if_pos hj,if_pos ⟨List.mem_cons_of_mem _ hj.1,hj.2⟩]
   ·rw[if_neg hj,if_neg (fun h=>hj ⟨(List.mem_cons.1 h.1).resolve_left (fun e=>h.2 (e.trans hki)),h.2⟩)]
  ·rw[if_neg hki]
   have hkk:=hk k (List.mem_cons_self ..)
   obtain⟨a1,a2,a3,a4,a5,a6⟩:=Ft (ks:=ks) (s:=jC k id s) (fun z hz=>d5.2 (.inr (hk z (List.mem_cons_of_mem _ hz)))) (Fc h1) (Kp h2)
   refine⟨fun j=>(a1 j).trans (d5.trans ⟨fun h=>h.elim (fun e=>by rw[e];exact hkk) (fun h=>h),.inr⟩),fun j=>?_,fun j=>?_,a4,a5,a6.trans (OG hkk)⟩
   ·rw[a2 j]
    unfold jC
    rw[vJ]
    by_cases hj:j∈ks/\j≠id
    ·rw[if_pos hj,if_pos ⟨List.mem_cons_of_mem _ hj.1,hj.2⟩]
    ·rw[if_neg hj]
     by_cases hjk:j=k
     ·rw[if_pos hjk,if_pos ⟨by rw[hjk];exact List.mem_cons_self ..,by rw[hjk];exact hki⟩]
     ·rw[if_neg hjk,if_neg (fun h=>hj ⟨(List.mem_cons.1 h.1).resolve_left hjk,h.2⟩)]
   ·rw[a3 j]
    unfold jC
    rw[RG]
    split
    ·rename_i e;rw[e]
    ·rfl
theorem yJ (h:O2 s):k∈cC id s.1↔fC s k/\rQ s k=id:=by
 refine⟨fun hk=>lV h hk,fun hk=>?_⟩
 obtain⟨h1,h2⟩:=hk
 unfold cC
 rw[BJ]
 have hm:=xX h1
 obtain⟨e,he,hek⟩:=List.mem_map.1 hm
 refine List.mem_map.2 ⟨e,List.mem_filter.2 ⟨he,?_⟩,hek⟩
 have hg:=MP h he
 rw[hek] at hg
 unfold rQ dH at h2
 rw[hg] at h2
 exact decide_eq_true h2
theorem Cl (h:N3 s) (hi:1<=id/\id<=2147483647) (hon:on=0\/fC s on) (hne:on≠id) (hu:¬SN (fC s) (rQ s) id on) (hw:1<=w/\w<=256) (hl:fC s id\/s.1.length<64):N3 (qT id on w x s):=by
 obtain⟨r,hr⟩:=h.rk
 have hz:∀j,fC s j->j≠0:=fun j hj=>by have:=(h.ky j hj).1;omega
 obtain⟨r1,hr1⟩:∃r':Int->Nat,∀j,fC (fN id ⟨on,w⟩ s) j->fC (fN id ⟨on,w⟩ s) (rQ (fN id ⟨on,w⟩ s) j)->r' (rQ (fN id ⟨on,w⟩ s) j)<r' j:=by
  refine Ahg (k:=id) (p:=on) hr hne hu (fun j hj=>d5.1 hj) (by rw[vJ,if_pos rfl]) (fun j hj=>by rw[vJ,if_neg hj]) fun j hj h1 h2=>?_
  have h1:=(d5.1 h1).resolve_left hj
  rcases d5.1 h2 with e|e
  ·rcases h.cl j h1 with e'|e'
   ·exact absurd (e.symm.trans e') (by omega)
   ·exact e'
  ·exact e
 have hcl:∀j,fC (fN id ⟨on,w⟩ s) j->rQ (fN id ⟨on,w⟩ s) j=0\/fC (fN id ⟨on,w⟩ s) (rQ (fN id ⟨on,w⟩ s) j):=fun j hj=>by
  rw[vJ]
  by_cases hji:j=id
  ·rw[if_pos hji]
   exact hon.imp (fun e=>e) fun e=>d5.2 (.inr e)
  ·rw[if_neg hji]
   exact(h.cl j ((d5.1 hj).resolve_left hji)).imp (fun e=>e) fun e=>d5.2 (.inr e)
 have hlen:∀(t:eW),t.1.length=s.1.length->(∀j,fC t j↔fC s j)->(fN id ⟨on,w⟩ t).1.length<=64:=fun t ht hh=>by
  rcases hl with e|e
  ·rw[OG ((hh id).2 e),ht];exact h.len
  ·have:=I9 (id:=id) (n:=⟨on,w⟩) (ck:=t.2) t.1
   show(uK id ⟨on,w⟩ t.2 t.1).length<=64
   omega
 have hky:∀j,j=id\/fC s j->1<=j/\j<=2147483647:=fun j hj=>hj.elim (fun e=>by rw[e];exact hi) (h.ky j)
 cases x with
 |false=>
  show N3 (fN id ⟨on,w⟩ s)
  refine⟨Fc h.kok,Kp h.nd,hlen s rfl fun j=>Iff.rfl,fun j hj=>?_,fun j hj=>hky j (d5.1 hj),hcl,r1,hr1⟩
  rw[RG]
  split
  ·exact hw
  ·rename_i hji;exact h.w j ((d5.1 hj).resolve_left hji)
 |true=>
  show N3 (fN id ⟨on,w⟩ (i4 id (cC on s.1) s))
  obtain⟨a1,a2,a3,a4,a5,a6⟩:=Ft (id:=id) (ks:=cC on s.1) (s:=s) (fun k hk=>((yJ h.nd).1 hk).1) h.kok h.nd
  have b1:∀j,fC (fN id ⟨on,w⟩ (i4 id (cC on s.1) s)) j↔fC (fN id ⟨on,w⟩ s) j:=fun j=>d5.trans ((or_congr Iff.rfl (a1 j)).trans d5.symm)
  have b2:∀j,fC (fN id ⟨on,w⟩ s) j->j≠id->rQ (fN id ⟨on,w⟩ s) j=on->rQ (fN id ⟨on,w⟩ (i4 id (cC on s.1) s)) j=id:=fun j hj hji ho=>by
   rw[vJ,if_neg hji] at ho ⊢
   rw[a2,if_pos ⟨(yJ h.nd).2 ⟨(d5.1 hj).resolve_left hji,ho⟩,hji⟩]
  have b3:∀j,fC (fN id ⟨on,w⟩ s) j->(j=id\/rQ (fN id ⟨on,w⟩ s) j≠on)->rQ (fN id ⟨on,w⟩ (i4 id (cC on s.1) s)) j=rQ (fN id ⟨on,w⟩ s) j:=fun j hj ho=>by
   rw[vJ,vJ] at *
   by_cases hji:j=id
   ·rw[if_pos hji,if_pos hji]
   ·rw[if_neg hji] at ho ⊢
    rw[if_neg hji,a2,if_neg (fun hk=>((ho.resolve_left hji) ((yJ h.nd).1 hk.1).2))]
  refine⟨Fc a4,Kp a5,hlen _ a6 a1,fun j hj=>?_,fun j hj=>hky j (d5.1 ((b1 j).1 hj)),fun j hj=>?_,?_⟩
  ·rw[RG]
   split
   ·exact hw
   ·rename_i hji
    rw[a3]
    exact h.w j ((d5.1 ((b1 j).1 hj)).resolve_left hji)
  ·have hj':=(b1 j).1 hj
   show rQ _ j=0\/fC _ (rQ _ j)
   by_cases hjo:j=id\/rQ (fN id ⟨on,w⟩ s) j≠on
   ·rw[b3 j hj' hjo]
    exact(hcl j hj').imp (fun e=>e) fun e=>(b1 _).2 e
   ·rw[b2 j hj' (fun e=>hjo (.inl e)) (Classical.byContradiction fun e=>hjo (.inr e))]
    exact .inr (d5.2 (.inl rfl))
  ·refine ZG (id:=id) (q:=on) hr1 (by rw[vJ,if_pos rfl]) ?_ hne (fun j hj=>(b1 j).1 hj) b2 b3
   rcases hon with e|e
   ·exact .inr fun j hj=>by
     have:=(hky j (d5.1 hj)).1
     omega
   ·exact .inl (d5.2 (.inr e))
theorem Ale (h:N3 s) (hu:SN (fC s) (rQ s) id low):id=0\/fC s id:=by
 induction hu with
 |base h1 h2=>rw[<- h2];exact h.cl _ h1
 |step _ _ ih=>exact ih
theorem Aj2 (h:N3 s):N3 (nY id on w x 64 s):=by
 unfold nY
 split
 ·exact h
 ·rename_i he
  have he:nO id on w 64 s=0:=Classical.byContradiction he
  unfold nO at he
  split at he
  ·cases he
  ·rename_i h1
   split at he
   ·cases he
   ·rename_i h2
    split at he
    ·cases he
    ·rename_i h3
     split at he
     ·cases he
     ·rename_i h4
      have hmay:Ao on w=true:=by simpa using fun hf=>h1 (.inr (.inr hf))
      unfold Ao at hmay
      simp only[Bool.and_eq_true,decide_eq_true_eq] at hmay
      have hid:1<=id/\id<=2147483647:=by omega
      have hnu:∀low,¬SN (fC s) (rQ s) id low:=fun low hu=>(Ale h hu).elim (fun e=>by omega) h3
      split
      ·exact Cl h hid (.inl rfl) (by omega) (hnu 0) ⟨hmay.1.2,hmay.2⟩ (.inr (by omega))
      ·rename_i h5
       refine Cl h hid ?_ h2 (hnu on) ⟨hmay.1.2,hmay.2⟩ (.inr (by omega))
       unfold BL at h5
       by_cases h0:on=0
       ·exact .inl h0
       ·right
        cases hh:eA on s.1
        ·exact absurd (by rw[hh];simp[h0]) h5
        ·exact hh
end
section
variable {w:Int}
theorem Aks (h:N3 s):N3 (lC id on w x s):=by
 unfold lC
 split
 ·exact h
 ·rename_i he
  have he:qJ id on w s=0:=Classical.byContradiction he
  unfold qJ at he
  split at he
  ·cases he
  ·rename_i h1
   split at he
   ·cases he
   ·rename_i h2
    split at he
    ·cases he
    ·rename_i h3
     have hh:fC s id:=by cases hq:eA id s.1 <;> first|exact absurd hq h1|exact hq
     have hmay:Ao on w=true:=by cases hq:Ao on w <;> first|exact absurd hq h2|rfl
     unfold Ao at hmay
     simp only[Bool.and_eq_true,decide_eq_true_eq] at hmay
     have hid:=h.ky id hh
     obtain⟨r,hr⟩:=h.rk
     have n0:¬fC s 0:=fun e=>by have:=(h.ky 0 e).1;omega
     have hn0:¬SN (fC s) (rQ s) id 0:=fun e=>n0 (zK e)
     have hab0:sY id s (s.1.length+1) 0=false:=by
      cases hq:sY id s (s.1.length+1) 0
      ·rfl
      ·exact absurd (UE hq) hn0
     split
     ·rw[hab0,if_neg Bool.false_ne_true]
      exact Cl h hid (.inl rfl) (by omega) hn0 ⟨hmay.1.2,hmay.2⟩ (.inl hh)
     ·rename_i h5
      have hon:on=0\/fC s on:=by
       unfold BL at h5
       by_cases h0:on=0
       ·exact .inl h0
       ·right
        cases hq:eA on s.1
        ·exact absurd (by rw[hq];simp[h0]) h5
        ·exact hq
      cases hq:sY id s (s.1.length+1) on
      ·rw[if_neg Bool.false_ne_true]
       exact Cl h hid hon h3 (Apg hr hq) ⟨hmay.1.2,hmay.2⟩ (.inl hh)
      ·rw[if_pos rfl]
       have hu:=UE hq
       have ho:=zK hu
       have hlt:=OA hr hh hu
       have hko:=h.ky on ho
       have g:N3 (jC on (rQ s id) s):=by
        refine Cl (x:=false) h hko (h.cl id hh) (fun e=>?_) (fun e=>?_) (h.w on ho) (.inl ho)
        ·have:=hr id hh (by show fC s (rQ s id);rw[e];exact ho)
         have e':(dH id s).on=on:=e
         rw[e'] at this
         omega
        ·have h6:=OA hr ho e
         have h7:=hr id hh (zK e)
         have e':rQ s id=(dH id s).on:=rfl
         rw[e'] at h6
         omega
       have hid':rQ (jC on (rQ s id) s) id=rQ s id:=by
        unfold jC
        rw[vJ,if_neg (fun e=>h3 e.symm)]
       have hon':rQ (jC on (rQ s id) s) on=rQ s id:=by
        unfold jC
        rw[vJ,if_pos rfl]
       have hh':fC (jC on (rQ s id) s) id:=d5.2 (.inr hh)
       refine Cl g hid (.inr (d5.2 (.inl rfl))) h3 (fun e=>?_) ⟨hmay.1.2,hmay.2⟩ (.inl hh')
       obtain⟨r',hr'⟩:=g.rk
       cases e with
       |base d1 d2=>
        rw[hon'] at d2
        have:=hr id hh (by show fC s (rQ s id);rw[d2];exact hh)
        have e':(dH id s).on=id:=d2
        rw[e'] at this
        omega
       |step d1 d2=>
        rw[hon'] at d2
        have h6:=OA hr' hh' d2
        have h7:r' (rQ (jC on (rQ s id) s) id)<r' id:=hr' id hh' (by show fC _ (rQ _ id);rw[hid'];exact zK d2)
        rw[hid'] at h7
        omega
theorem Apw (hw:1<=w/\w<=all) (hx:1<=xw/\xw<=256):1<=Fb w xw all/\Fb w xw all<=256:=by
 have h:w * xw / all<=xw:=Int.ediv_le_of_le_mul (by omega) (by rw[Int.mul_comm w xw];exact Int.mul_le_mul_of_nonneg_left hw.2 (by omega))
 unfold Fb
 omega
theorem Nt (h:TrW s):∀ {ks:List Int},(∀k∈ks,fC s k)->∀k∈ks,(dH k s).w<=qU s ks
 | [],_,k,hk=>by cases hk
 |z::ks,hh,k,hk=>by
  have h1:=hh z (List.mem_cons_self ..)
  have h2:=IA h (l:=ks) fun y hy=>hh y (List.mem_cons_of_mem _ hy)
  unfold qU
  rcases List.mem_cons.1 hk with rfl|hk
  ·omega
  ·have h3:=Nt h (fun y hy=>hh y (List.mem_cons_of_mem _ hy)) k hk
   have h4:=h z h1
   omega
theorem TY (hx:1<=xw/\xw<=256):∀ {ks:List Int} {s:eW},(∀k∈ks,fC s k)->ks.Nodup->(∀k∈ks,1<=(dH k s).w/\(dH k s).w<=all)->SJ s.1 s.2->O2 s->TrW s->(∀j,fC (qG on xw all ks s) j↔fC s j)/\(∀j,rQ (qG on xw all ks s) j=if j∈ks then on else rQ s j)/\TrW (qG on xw all ks s)/\SJ (qG on xw all ks s).1 (qG on xw all ks s).2/\O2 (qG on xw all ks s)/\(qG on xw all ks s).1.length=s.1.length
 | [],s,_,_,_,h1,h2,h3=>⟨fun j=>Iff.rfl,fun j=>by rw[if_neg (by simp)];rfl,h3,h1,h2,rfl⟩
 |k::ks,s,hk,hn,hw,h1,h2,h3=>by
  unfold qG
  have hkk:=hk k (List.mem_cons_self ..)
  obtain⟨n1,n2⟩:=List.nodup_cons.1 hn
  have hsh:=Apw (hw k (List.mem_cons_self ..)) hx
  have hne:∀z∈ks,z≠k:=fun z hz e=>n1 (by rw[<- e];exact hz)
  obtain⟨a1,a2,a3,a4,a5,a6⟩:=TY hx (ks:=ks) (s:=fN k ⟨on,Fb (dH k s).w xw all⟩ s) (fun z hz=>d5.2 (.inr (hk z (List.mem_cons_of_mem _ hz)))) n2 (fun z hz=>by rw[RG,if_neg (hne z hz)];exact hw z (List.mem_cons_of_mem _ hz)) (Fc h1) (Kp h2) (fun j hj=>by
   rw[RG]
   split
   ·exact hsh
   ·rename_i hjk;exact h3 j ((d5.1 hj).resolve_left hjk))
  refine⟨fun j=>(a1 j).trans (d5.trans ⟨fun h=>h.elim (fun e=>by rw[e];exact hkk) (fun h=>h),.inr⟩),fun j=>?_,a3,a4,a5,a6.trans (OG hkk)⟩
  rw[a2 j,vJ]
  by_cases hj:j∈ks
  ·rw[if_pos hj,if_pos (List.mem_cons_of_mem _ hj)]
  ·rw[if_neg hj]
   by_cases hjk:j=k
   ·rw[if_pos hjk,if_pos (by rw[hjk];exact List.mem_cons_self ..)]
   ·rw[if_neg hjk,if_neg (fun h=>(List.mem_cons.1 h).elim hjk hj)]
theorem Ajv (h:N3 s):N3 (Az id s):=by
 unfold Az
 split
 ·rename_i hh
  obtain⟨r,hr⟩:=h.rk
  have hks:∀k∈cC id s.1,fC s k:=fun k hk=>((yJ h.nd).1 hk).1
  obtain⟨a1,a2,a3,a4,a5,a6⟩:=TY (on:=(dH id s).on) (all:=qU s (cC id s.1)) (h.w id hh) hks (B9 h.nd) (fun k hk=>⟨(h.w k (hks k hk)).1,Nt h.w hks k hk⟩) h.kok h.nd h.w
  generalize qG (dH id s).on (dH id s).w (qU s (cC id s.1)) (cC id s.1) s=t at a1 a2 a3 a4 a5 a6 ⊢
  have b1:∀j,fC (nJ id t.1,t.2) j↔j≠id/\fC s j:=fun j=>by
   rw[<- a1 j]
   unfold fC eA
   show(gZ j (nJ id t.1)).isSome=true↔_
   rw[E0 a5]
   by_cases hj:j=id
   ·rw[if_pos hj];simp[hj]
   ·rw[if_neg hj];simp[hj]
  have b2:∀j,j≠id->dH j (nJ id t.1,t.2)=dH j t:=fun j hj=>by
   unfold dH
   show(gZ j (nJ id t.1)).getD _=_
   rw[E0 a5,if_neg hj]
  have b3:∀j,fC (nJ id t.1,t.2) j->rQ (nJ id t.1,t.2) j=if rQ s j=id then rQ s id else rQ s j:=fun j hj=>by
   have hj':=(b1 j).1 hj
   unfold rQ
   rw[b2 j hj'.1]
   have:=a2 j
   unfold rQ at this
   rw[this]
   by_cases hk:(dH j s).on=id
   ·rw[if_pos hk,if_pos ((yJ h.nd).2 ⟨hj'.2,hk⟩)]
   ·rw[if_neg hk,if_neg (fun e=>hk ((yJ h.nd).1 e).2)]
  have hne:rQ s id≠id:=fun e=>by
   have e':(dH id s).on=id:=e
   have:=hr id hh (by rw[e'];exact hh)
   rw[e'] at this
   omega
  refine⟨⟨List.Nodup.sublist Af8 a4.1,fun e he=>a4.2 e (Lq he)⟩,List.Nodup.sublist F6 a5,?_,fun j hj=>?_,fun j hj=>h.ky j ((b1 j).1 hj).2,fun j hj=>?_,r,fun j hj hp=>?_⟩
  ·have:=Agu (id:=id) (l:=t.1)
   have:=h.len
   show(nJ id t.1).length<=64
   omega
  ·have hj':=(b1 j).1 hj
   rw[b2 j hj'.1]
   exact a3 j ((a1 j).2 hj'.2)
  ·have hj':=(b1 j).1 hj
   show rQ _ j=0\/fC _ (rQ _ j)
   rw[b3 j hj]
   by_cases hk:rQ s j=id
   ·rw[if_pos hk]
    exact(h.cl id hh).imp (fun e=>e) fun e=>(b1 _).2 ⟨hne,e⟩
   ·rw[if_neg hk]
    exact(h.cl j hj'.2).imp (fun e=>e) fun e=>(b1 _).2 ⟨hk,e⟩
  ·have hj':=(b1 j).1 hj
   change r (rQ (nJ id t.1,t.2) j)<r j
   have hp:fC (nJ id t.1,t.2) (rQ (nJ id t.1,t.2) j):=hp
   rw[b3 j hj] at hp ⊢
   by_cases hk:rQ s j=id
   ·rw[if_pos hk] at hp ⊢
    have h1:=hr j hj'.2 (by show fC s (rQ s j);rw[hk];exact hh)
    have h2:=hr id hh ((b1 _).1 hp).2
    have e':(dH j s).on=id:=hk
    rw[e'] at h1
    exact Nat.lt_trans h2 h1
   ·rw[if_neg hk] at hp ⊢
    exact hr j hj'.2 ((b1 _).1 hp).2
 ·exact h
end
end Go.Proofs.YtepnmcipkangkaaGreat
