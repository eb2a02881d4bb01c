/- A part of the proof: lemmas; each with the conditions that it states. -/
import Derived.Test.YtifgibijcmppmaaGreatNat
import Derived.Test.YtifgibijcmppmaaGreatNas
set_option linter.unusedVariables false
set_option linter.unusedSimpArgs false
namespace Go.Proofs.YtifgibijcmppmaaGreat
open Go Go.Proofs Go.Sl
set_option maxRecDepth 100000
set_option maxHeartbeats 40000000
attribute [local irreducible] aN fB cJ bO aM aY aA dM dQ aW dK pt ro fF star sep bI
attribute [local irreducible] mp El
section
variable {R C:List HP} {K:Value→List HP→Prop}
structure Nd where
 on:Int
 w:Int
def qK:Nd→Value:=fun n=>.agg #[.int .i64 n.on,.int .i64 n.w]
def Aj3:List Value→Option Int
 | [.int .i64 y]=>some y
 |_=>none
theorem Aep (cs:List Value) (y:Int) (h:Aj3 cs=some y): [.int .i64 y]=cs:=by
 unfold Aj3 at h
 split at h
 ·cases h;rfl
 ·cases h
def kH:t6 Int:= { enc:=fun n=> [.int .i64 n],sz:=1,dec:=Aj3,len:=fun _=>rfl,one:=fun _=>rfl,ok:=Aep }
def d4 (id:Int) (l:List (KE Nd)):Bool:=(g9 id l).isSome
def yT (on w:Int):Bool:=decide (0≤on) && decide (on≤2147483647) && decide (1≤w) && decide (w≤256)
def cA (id:Int) (l:List (KE Nd)):List Int:=LM ((l.filter fun e=>decide (e.v.on=id)).map KE.k)
theorem Y0 {id:Int} {l:List (KE Nd)}:I3 true (.agg #[.int .i64 0,.int .i64 0]) (jC id (kM qK l) 0)=.tuple #[qK ((g9 id l).getD ⟨0,0⟩),.bool (d4 id l)]:=by
 rw[UH]
 unfold d4
 cases g9 id l <;> rfl
theorem pT {id:Int} {l:List (KE Nd)}:I3 false (.agg #[.int .i64 0,.int .i64 0]) (jC id (kM qK l) 0)=qK ((g9 id l).getD ⟨0,0⟩):=by
 rw[UH]
 cases g9 id l <;> rfl
theorem PW {A:Option Addr} {c n:Nat} {xs:List Int} (hn:xs.length=n) (hs:n<1000000000000000) (hK:K (.tuple #[]) (bT A c 3 kH (LM xs)::R)):aA Tryz.prog 356 #[.slice A n c] (bT A c 3 kH xs::R) K:=
 aA.ofSort Tryz.func356 rfl (by decide +kernel) (fun _=>rfl) (Any.slices_Sort_int Tryz.lays189) (Any.slices_Sort_int_none Tryz.lays189) aV.here hn hs hK
section
variable {p q ck:Nat} {most id on w:Int} {x:Bool} {l:List (KE Nd)}
theorem kO (hK:K (.bool (yT on w)) R):aA Tryz.prog 303 #[.agg #[.int .i64 on,.int .i64 w,.bool x]] R K:=by
 refine aH Tryz.func303 ?_
 repeat' (first|refine v19 ?_|refine wr ?_|refine w5 ?_ ?_|((refine bh fun h=>?_) <;> try exact w6 h)|(refine aE fun hA=>?_;subst hA)|intro _)
 all_goals(refine aC ?_;exact aB (kb hK (by unfold yT;simp <;> omega)))
theorem fO (hK:K (.bool (d4 id l)) (pt p [.int .i64 most,.map (some q)] 229::mp q (kM qK l) ck::R)):aA Tryz.prog 304 #[.pointer (some ⟨p,0,none⟩),.int .i64 id] (pt p [.int .i64 most,.map (some q)] 229::mp q (kM qK l) ck::R) K:=by
 refine aH Tryz.func304 ?_
 repeat' (first|refine v30 ?_|refine wr ?_|refine w5 ?_ ?_|((refine bh fun h=>?_) <;> try exact w6 h)|(refine aE fun hA=>?_;subst hA)|intro _|(show aN _ _ _ _ _ _ _;refine jJ ?_ (hv:=Y0)))
 all_goals(refine aC ?_;exact aB (hK))
theorem AI (hok:QA l ck) (hl:l.length≤100000) (hK:∀A c,K (.slice A (cA id l).length c) (bT A c 3 kH (cA id l)::pt p [.int .i64 most,.map (some q)] 229::mp q (kM qK l) ck::R)):aA Tryz.prog 355 #[.pointer (some ⟨p,0,none⟩),.int .i64 id] (pt p [.int .i64 most,.map (some q)] 229::mp q (kM qK l) ck::R) K:=by
 obtain⟨hnd,hck⟩:=hok
 refine aH Tryz.func355 ?_
 repeat' (first|(show aN _ _ _ _ _ _ _;refine Ad0 ?_;intro _)|refine Qz ?_|refine wr ?_|refine w5 ?_ ?_|((refine bh fun h=>?_) <;> try exact w6 h)|(refine aE fun hA=>?_;subst hA)|intro _)
 rename_i it
 refine nR (aG.nilrow 3 kH _) ?_
 refine iF (fun kk a C'=>∃(os:List (KE Nd)) (ks:List Int) (seen:List Nat) (A:Option Addr) (c:Nat),FR l seen≤kk∧seen.Nodup∧(∀e∈os,e∈l)∧ks=(os.filter fun e=>decide (e.v.on=id)).map KE.k∧seen=os.map KE.b∧cN a [(0,.pointer (some ⟨p,0,none⟩)),(1,.int .i64 id),(5,.slice A ks.length c),(15,.pointer (some ⟨it,0,none⟩))]∧C'=bT A c 3 kH ks::El it q ck seen ck::pt p [.int .i64 most,.map (some q)] 229::mp q (kM qK l) ck::R) (FR l []) (b9 (FR l []) ⟨[],[],[],none,0,Nat.le_refl _,List.nodup_nil,(fun e he=>by cases he),rfl,rfl,⟨rfl,rfl,rfl,rfl,trivial⟩,rfl⟩ (by omega)) ?_
 rintro kk a C' ⟨os,ks,seen,A,c,hk,hno,hos,hks,hse,ha,rfl⟩
 have hle:=Akt (by rw[← hse];exact hno) hos
 have hlk:ks.length≤os.length:=by rw[hks,List.length_map];exact List.length_filter_le _ _
 refine gF _ ha ?_
 simp only[eQ]
 repeat' (first|refine Qz ?_|refine wr ?_|refine w5 ?_ ?_|((refine bh fun h=>?_) <;> try exact w6 h)|(refine aE fun hA=>?_;subst hA)|intro _)
 refine Ajf (fun e he hn=>?_) (fun hs=>?_) rfl (by(repeat (first|exact aV.here|apply aV.there)) <;> exact aV.here) ⟨_,by((repeat (first|exact aV.here|apply aV.there)) <;> exact aV.here)⟩ (fun e he=>by obtain⟨z,hz,rfl⟩:=List.mem_map.1 he;exact hck z hz) (by
  cases l with
  |nil=>exact .inr (.inl rfl)
  |cons z l=>exact .inr (.inr ⟨⟨z.k,qK z.v,z.b⟩,List.mem_cons_self ..,hck z (List.mem_cons_self ..)⟩)) (by exact rfl)
 ·obtain⟨e0,he0,rfl⟩:=List.mem_map.1 he
  have hn:e0.b ∉ seen:=hn
  have hfb:=Agz (enc:=qK) hnd he0
  have hlt:=SI he0 hn
  have hnn:(seen++ [e0.b]).Nodup:=List.nodup_append.2 ⟨hno,by simp,fun b hb b' hb' he=>by
   rw[List.mem_singleton] at hb'
   subst hb' he
   exact hn hb⟩
  have hmm:∀e∈os++ [e0],e∈l:=fun e he=>by
   rcases List.mem_append.1 he with he|he
   ·exact hos e he
   ·rw[List.mem_singleton.1 he];exact he0
  refine EE rfl ?_
  by_cases ho:e0.v.on=id
  ·repeat' (first|(show aN _ _ _ _ _ _ _;first|refine U1 ?_ (he:=hfb)|(refine cY (E:=kH) (xs:=ks) (ys:= [e0.k]) ?_;intro _ _))|refine Qz ?_|refine wr ?_|refine w5 ?_ ?_|((refine bh fun h=>?_) <;> try exact w6 h)|(refine aE fun hA=>?_;subst hA)|intro _)
   all_goals exact b9 (FR l (seen++ [e0.b])) ⟨os++ [e0],ks++ [e0.k],seen++ [e0.b],_,_,Nat.le_refl _,hnn,hmm,by rw[hks];simp[ho],by rw[hse];simp,⟨rfl,rfl,rfl,rfl,trivial⟩,rfl⟩ (Nat.lt_of_lt_of_le hlt hk)
  ·repeat' (first|(show aN _ _ _ _ _ _ _;refine U1 ?_ (he:=hfb))|refine Qz ?_|refine wr ?_|refine w5 ?_ ?_|((refine bh fun h=>?_) <;> try exact w6 h)|(refine aE fun hA=>?_;subst hA)|intro _)
   all_goals exact b9 (FR l (seen++ [e0.b])) ⟨os++ [e0],ks,seen++ [e0.b],_,_,Nat.le_refl _,hnn,hmm,by rw[hks];simp[ho],by rw[hse];simp,⟨rfl,rfl,rfl,rfl,trivial⟩,rfl⟩ (Nat.lt_of_lt_of_le hlt hk)
 ·refine EE rfl ?_
  have hpm:os.Perm l:=Ahj hnd (by rw[← hse];exact hno) hos fun e he=>by rw[← hse];exact hs ⟨e.k,qK e.v,e.b⟩ (List.mem_map_of_mem (f:=fun e:KE Nd=>(⟨e.k,qK e.v,e.b⟩:lA)) he)
  have hsr:LM ks=cA id l:=by
   rw[hks]
   exact W5 ((hpm.filter _).map KE.k)
  have hlen:(cA id l).length=ks.length:=by rw[← hsr,Ac]
  rw[hlen] at hK
  repeat' (first|refine Qz ?_|refine wr ?_|refine w5 ?_ ?_|((refine bh fun h=>?_) <;> try exact w6 h)|(refine aE fun hA=>?_;subst hA)|intro _|(show aA _ 356 _ _ _;refine CA (h:=PW (xs:=ks) rfl (by omega) ?_);rw[hsr]))
  all_goals(refine aC ?_;exact aB (hK _ _))
end
end
end Go.Proofs.YtifgibijcmppmaaGreat
namespace Go.Proofs.YtifgibijcmppmaaGreat
open Go Go.Proofs Go.Sl
set_option maxRecDepth 100000
set_option maxHeartbeats 40000000
attribute [local irreducible] aN fB cJ bO aM aY aA dM dQ aW dK pt ro fF star sep bI
section
variable {R C:List HP} {K:Value→List HP→Prop}
structure OG where
 li:Int
 nw:Int
 si:Int
 st:Bool
 fi:Bool
def slP (p:Nat) (s:OG):HP:=pt p [.int .i64 s.li,.int .i64 s.nw,.int .i64 s.si,.bool s.st,.bool s.fi] 223
def iZ (s:OG) (n:Int):OG:=if s.fi=true then s else⟨s.li,max s.nw n,if s.st=true then max s.nw n else s.si,s.st,s.fi⟩
def oF (s:OG) (n:Int) (b:Bool):OG:=if s.li=0 then s else if s.fi=true then⟨s.li,max s.nw n,s.si,s.st,s.fi⟩ else if b=false then⟨s.li,max s.nw n,0,false,s.fi⟩ else if s.st=false then⟨s.li,max s.nw n,max s.nw n,true,decide (s.li≤max s.nw n - max s.nw n)⟩ else⟨s.li,max s.nw n,s.si,s.st,decide (s.li≤max s.nw n - s.si)⟩
def AX (s:OG) (n:Int) (b:Bool):Bool:=if s.li=0 then false else if s.fi=true then true else if b=false then false else(oF s n b).fi
section
variable {p r q:Nat} {s:OG} {li nw si n:Int} {st fi b:Bool}
theorem KB (hK:K (.int .i64 (max nw n)) (pt p [.int .i64 li,.int .i64 (max nw n),.int .i64 si,.bool st,.bool fi] 223::R)):aA Tryz.prog 277 #[.pointer (some ⟨p,0,none⟩),.int .i64 n] (pt p [.int .i64 li,.int .i64 nw,.int .i64 si,.bool st,.bool fi] 223::R) K:=by
 refine aH Tryz.func277 ?_
 repeat' (first|refine v14 ?_|refine wr ?_|refine w5 ?_ ?_|((refine bh fun h=>?_) <;> try exact w6 h)|(refine aE fun hA=>?_;subst hA)|intro _)
 all_goals(refine aC ?_;exact aB (hK))
theorem zP (hK:K (.tuple #[]) (slP p (iZ s n)::R)):aA Tryz.prog 259 #[.pointer (some ⟨p,0,none⟩),.int .i64 n] (slP p s::R) K:=by
 obtain⟨li,nw,si,st,fi⟩:=s
 cases fi <;> cases st <;> simp only[slP,iZ,if_true,if_false,Bool.false_eq_true,reduceCtorEq] at hK ⊢
 all_goals
  refine aH Tryz.func259 ?_
  repeat' (first|refine zB ?_|refine wr ?_|refine w5 ?_ ?_|((refine bh fun h=>?_) <;> try exact w6 h)|(refine aE fun hA=>?_;subst hA)|intro _|(show aA _ 277 _ _ _;refine CA (h:=KB ?_)))
  all_goals(refine aC ?_;exact aB (hK))
def Cq:List (Nat×Nat):= [(0,0),(1,0),(2,0),(3,0),(4,0),(5,0),(6,0),(7,0),(8,0),(9,0),(10,0),(11,0)]
theorem WI (hb:-1000000000000000≤si∧si≤1000000000000000) (hn:-1000000000000000≤n∧n≤1000000000000000) (hK:K (.bool (decide (li≤n - si))) (pt q [.int .i64 n] 3::pt r [.pointer (some ⟨p,0,none⟩)] 122::pt p [.int .i64 li,.int .i64 nw,.int .i64 si,.bool st,.bool fi] 223::R)):aA Tryz.prog 278 #[.pointer (some ⟨q,0,none⟩),.pointer (some ⟨r,0,none⟩)] (pt q [.int .i64 n] 3::pt r [.pointer (some ⟨p,0,none⟩)] 122::pt p [.int .i64 li,.int .i64 nw,.int .i64 si,.bool st,.bool fi] 223::R) K:=by
 refine aH Tryz.func278 ?_
 repeat' (first|refine v22 ?_|refine dw Cq ?_|refine wr ?_|refine w5 ?_ ?_|((refine bh fun h=>?_) <;> try exact w6 h)|(refine aE fun hA=>?_;subst hA)|intro _)
 all_goals(refine aC ?_;exact aB (kb hK (by simp)))
def uJ:List (Nat×Nat):= [(0,0),(2,0),(3,0),(4,1),(1,1),(5,0),(6,0),(7,1)]
def tA:List (Nat×Nat):= [(0,0),(3,0),(4,0),(5,1),(1,1),(2,1),(6,0),(7,0),(8,1)]
def tI:List (Nat×Nat):= [(1,0),(2,1),(0,1),(3,0),(4,0),(5,1)]
theorem Fe (h1:0≤s.nw∧s.nw≤100000000000000) (h2:0≤s.si∧s.si≤100000000000000) (h3:0≤n∧n≤100000000000000) (hK:K (.bool (AX s n b)) (slP p (oF s n b)::R)):aA Tryz.prog 185 #[.pointer (some ⟨p,0,none⟩),.int .i64 n,.bool b] (slP p s::R) K:=by
 obtain⟨li,nw,si,st,fi⟩:=s
 simp only at h1 h2
 by_cases hl:li=0
 ·subst hl
  simp only[slP,oF,AX,if_true] at hK ⊢
  refine aH Tryz.func185 ?_
  repeat' (first|refine QB ?_|refine dw uJ ?_|refine dw tA ?_|refine dw tI ?_|refine wr ?_|refine w5 ?_ ?_|((refine bh fun h=>?_) <;> try exact w6 h)|(refine aE fun hA=>?_;subst hA)|intro _)
  all_goals(refine aC ?_;exact aB (hK))
 ·cases fi <;> cases b <;> cases st <;> simp only[slP,oF,AX,hl,if_true,if_false,Bool.false_eq_true,reduceCtorEq] at hK ⊢
  all_goals
   refine aH Tryz.func185 ?_
   repeat' (first|refine QB ?_|refine dw uJ ?_|refine dw tA ?_|refine dw tI ?_|refine wr ?_|refine w5 ?_ ?_|((refine bh fun h=>?_) <;> try exact w6 h)|(refine aE fun hA=>?_;subst hA)|intro _|(show aA _ 277 _ _ _;refine CA (h:=KB ?_))|(show aA _ 278 _ _ _;refine CA (h:=WI (by omega) (by omega) ?_)))
   all_goals(refine aC ?_;exact aB (hK))
end
end
end Go.Proofs.YtifgibijcmppmaaGreat
namespace Go.Proofs.YtifgibijcmppmaaGreat
open Go Go.Proofs Go.Sl
set_option maxRecDepth 100000
set_option maxHeartbeats 40000000
attribute [local irreducible] aN fB cJ bO aM aY aA dM dQ aW dK pt ro fF star sep bI
attribute [local irreducible] mp El
section
variable {R C:List HP} {K:Value→List HP→Prop}
def Kh:Int→Value:=fun n=>.int .i64 n
def rC (id:Int) (l:List (KE Int)):Int:=(g9 id l).getD 0
def L6 (n:Int):Int:=max (min n 1024) (-1024)
def G4 (id n:Int) (ck:Nat) (l:List (KE Int)):List (KE Int):=if n=0 then mY id l else tV id (L6 n) ck l
def Xp (id n:Int) (ck:Nat) (l:List (KE Int)):Nat:=if n=0 then ck else kCk id ck l
def fS (n:Int):Int:=if n≤16 then 1 else(n - 1) / 16+1
theorem Adi {id:Int} {l:List (KE Int)}:I3 false (.int .i64 0) (jC id (kM Kh l) 0)=.int .i64 (rC id l):=by
 rw[UH]
 unfold rC
 cases g9 id l <;> rfl
section
variable {p q ck:Nat} {id n k:Int} {l:List (KE Int)}
theorem XV (hK:∀p q,K (.pointer (some ⟨p,0,none⟩)) (pt p [.map (some q)] 211::mp q (kM Kh []) 0::R)):aA Tryz.prog 45 #[] R K:=by
 refine aH Tryz.func45 ?_
 repeat' (first|refine v6 ?_|refine wr ?_|refine w5 ?_ ?_|((refine bh fun h=>?_) <;> try exact w6 h)|(refine aE fun hA=>?_;subst hA)|intro _|(show aN _ _ _ _ _ _ _;refine E9 ?_;intro _))
 all_goals(refine aC ?_;exact aB (hK _ _))
theorem Bu (h:0≤n∧n≤100000000) (hK:K (.int .i64 (fS n)) R):aA Tryz.prog 196 #[.int .i64 n] R K:=by
 by_cases h1:n≤16
 ·simp only[fS,if_pos h1] at hK
  refine aH Tryz.func196 ?_
  repeat' (first|refine v24 ?_|refine wr ?_|refine w5 ?_ ?_|((refine bh fun h=>?_) <;> try exact w6 h)|(refine aE fun hA=>?_;subst hA)|intro _)
  all_goals(refine aC ?_;exact aB (hK))
 ·simp only[fS,if_neg h1] at hK
  refine aH Tryz.func196 ?_
  repeat' (first|refine v24 ?_|refine wr ?_|refine w5 ?_ ?_|((refine bh fun h=>?_) <;> try exact w6 h)|(refine aE fun hA=>?_;subst hA)|intro _)
  all_goals(refine aC ?_;exact aB (hK))
theorem qW (hK:K (.int .i64 (rC id l)) (pt p [.map (some q)] 211::mp q (kM Kh l) ck::R)):aA Tryz.prog 286 #[.pointer (some ⟨p,0,none⟩),.int .i64 id] (pt p [.map (some q)] 211::mp q (kM Kh l) ck::R) K:=by
 refine aH Tryz.func286 ?_
 repeat' (first|refine v4 ?_|refine wr ?_|refine w5 ?_ ?_|((refine bh fun h=>?_) <;> try exact w6 h)|(refine aE fun hA=>?_;subst hA)|intro _|(show aN _ _ _ _ _ _ _;refine jJ ?_ (hv:=Adi)))
 all_goals(refine aC ?_;exact aB (hK))
theorem HW (hK:K (.tuple #[]) (pt p [.map (some q)] 211::mp q (kM Kh (G4 id n ck l)) (Xp id n ck l)::R)):aA Tryz.prog 287 #[.pointer (some ⟨p,0,none⟩),.int .i64 id,.int .i64 n] (pt p [.map (some q)] 211::mp q (kM Kh l) ck::R) K:=by
 by_cases h:n=0
 ·subst h
  simp only[G4,Xp,if_true] at hK
  refine aH Tryz.func287 ?_
  repeat' (first|refine v39 ?_|refine wr ?_|refine w5 ?_ ?_|((refine bh fun h=>?_) <;> try exact w6 h)|(refine aE fun hA=>?_;subst hA)|intro _|(show aN _ _ _ _ _ _ _;first|refine G_delete ?_ (hv:=YV)|refine KH ?_ (hv:=YV)))
  all_goals(refine aC ?_;exact aB (hK))
 ·simp only[G4,Xp,if_neg h] at hK
  refine aH Tryz.func287 ?_
  repeat' (first|refine v39 ?_|refine wr ?_|refine w5 ?_ ?_|((refine bh fun h=>?_) <;> try exact w6 h)|(refine aE fun hA=>?_;subst hA)|intro _|(show aN _ _ _ _ _ _ _;refine kU ?_ (hv:=OO (v:=L6 n)) (hu:=by exact rfl)))
  all_goals(refine aC ?_;exact aB (hK))
theorem vA (hk:1≤k∧k≤1024) (hb:-10000≤rC id l∧rC id l≤10000) (hK:K (.int .i64 0) (pt p [.map (some q)] 211::mp q (kM Kh (G4 id (rC id l - k) ck l)) (Xp id (rC id l - k) ck l)::R)):aA Tryz.prog 195 #[.pointer (some ⟨p,0,none⟩),.int .i64 id,.int .i64 k] (pt p [.map (some q)] 211::mp q (kM Kh l) ck::R) K:=by
 refine aH Tryz.func195 ?_
 repeat' (first|refine v15 ?_|refine wr ?_|refine w5 ?_ ?_|((refine bh fun h=>?_) <;> try exact w6 h)|(refine aE fun hA=>?_;subst hA)|intro _|(show aA _ 286 _ _ _;refine CA (h:=qW ?_))|(show aA _ 287 _ _ _;refine CA (h:=HW ?_)))
 all_goals(refine aC ?_;exact aB (hK))
theorem OV (hK:K (.bool (rC id l != 0)) (pt p [.map (some q)] 211::mp q (kM Kh (if rC id l=0 then l else mY id l)) ck::R)):aA Tryz.prog 315 #[.pointer (some ⟨p,0,none⟩),.int .i64 id] (pt p [.map (some q)] 211::mp q (kM Kh l) ck::R) K:=by
 by_cases h:rC id l=0
 ·simp only[h,if_true] at hK
  refine aH Tryz.func315 ?_
  repeat' (first|refine v2 ?_|refine wr ?_|refine w5 ?_ ?_|((refine bh fun h=>?_) <;> try exact w6 h)|(refine aE fun hA=>?_;subst hA)|intro _|(show aA _ 286 _ _ _;refine CA (h:=qW ?_);rw[h]))
  all_goals(refine aC ?_;exact aB (hK))
 ·simp only[if_neg h] at hK
  have hb:(rC id l != 0)=true:=by simpa using h
  refine aH Tryz.func315 ?_
  repeat' (first|(show Br _ _ _;refine Br.t hb ?_)|refine v2 ?_|refine wr ?_|refine w5 ?_ ?_|((refine bh fun h=>?_) <;> try exact w6 h)|(refine aE fun hA=>?_;subst hA)|intro _|(show aA _ 286 _ _ _;refine CA (h:=qW ?_))|(show aA _ 287 _ _ _;refine CA (h:=HW ?_);simp only[G4,Xp,if_true]))
  all_goals(refine aC ?_;exact aB (hK))
end
end
section
variable {R C:List HP} {K:Value→List HP→Prop}
abbrev eT:=List (KE Nd)×Nat
def fH (id:Int) (n:Nd) (s:eT):eT:=(tV id n s.2 s.1,kCk id s.2 s.1)
def dF (id:Int) (s:eT):Nd:=(g9 id s.1).getD ⟨0,0⟩
def i5 (id on:Int) (s:eT):eT:=fH id ⟨on,(dF id s).w⟩ s
def iT (id:Int):List Int→eT→eT
 | [],s=>s
 |k::r,s=>iT id r (if k=id then s else i5 k id s)
def pP (id on w:Int) (x:Bool) (s:eT):eT:=fH id ⟨on,w⟩ (if x=true then iT id (cA on s.1) s else s)
def zI (on:Int) (s:eT):Bool:=decide (on≠0) && !d4 on s.1
theorem S7 {id k:Int} {ks:List Int} {j:Nat} {s:eT} (h:ks[j]?=some k):iT id (ks.drop j) s=iT id (ks.drop (j+1)) (if k=id then s else i5 k id s):=by
 have hj:=(List.getElem?_eq_some_iff.1 h).1
 rw[List.drop_eq_getElem_cons hj,(List.getElem?_eq_some_iff.1 h).2]
 rfl
section
variable {p q:Nat} {most id on w:Int} {x:Bool} {s:eT}
theorem Ad (h:zI on s=true) (hK:K (.agg #[.int .i64 0,.int .i64 w,.bool false]) (pt p [.int .i64 most,.map (some q)] 229::mp q (kM qK s.1) s.2::R)):aA Tryz.prog 306 #[.pointer (some ⟨p,0,none⟩),.agg #[.int .i64 on,.int .i64 w,.bool x]] (pt p [.int .i64 most,.map (some q)] 229::mp q (kM qK s.1) s.2::R) K:=by
 unfold zI at h
 rw[Bool.and_eq_true,decide_eq_true_eq,Bool.not_eq_true'] at h
 obtain⟨h1,h2⟩:=h
 refine aH Tryz.func306 ?_
 repeat' (first|refine Gy ?_|refine wr ?_|refine w5 ?_ ?_|((refine bh fun h=>?_) <;> try exact w6 h)|(refine aE fun hA=>?_;subst hA)|intro _|(show aA _ 304 _ _ _;refine CA (h:=fO ?_);rw[h2]))
 all_goals(refine aC ?_;exact aB (hK))
theorem Ag (h:zI on s=false) (hK:K (.agg #[.int .i64 on,.int .i64 w,.bool x]) (pt p [.int .i64 most,.map (some q)] 229::mp q (kM qK s.1) s.2::R)):aA Tryz.prog 306 #[.pointer (some ⟨p,0,none⟩),.agg #[.int .i64 on,.int .i64 w,.bool x]] (pt p [.int .i64 most,.map (some q)] 229::mp q (kM qK s.1) s.2::R) K:=by
 unfold zI at h
 by_cases h1:on=0
 ·subst h1
  refine aH Tryz.func306 ?_
  repeat' (first|refine Gy ?_|refine wr ?_|refine w5 ?_ ?_|((refine bh fun h=>?_) <;> try exact w6 h)|(refine aE fun hA=>?_;subst hA)|intro _)
  all_goals(refine aC ?_;exact aB (hK))
 ·have h2:d4 on s.1=true:=by simpa[h1] using h
  refine aH Tryz.func306 ?_
  repeat' (first|refine Gy ?_|refine wr ?_|refine w5 ?_ ?_|((refine bh fun h=>?_) <;> try exact w6 h)|(refine aE fun hA=>?_;subst hA)|intro _|(show aA _ 304 _ _ _;refine CA (h:=fO ?_);rw[h2]))
  all_goals(refine aC ?_;exact aB (hK))
def CL:List (Nat×Nat):= [(6,0),(7,0),(8,0),(9,0),(10,0),(11,1),(0,1),(1,1),(2,1),(3,1),(4,1),(5,1),(12,0),(13,0),(14,1)]
theorem Fl (hK:K (.tuple #[]) (pt p [.int .i64 most,.map (some q)] 229::mp q (kM qK (i5 id on s).1) (i5 id on s).2::R)):aA Tryz.prog 343 #[.pointer (some ⟨p,0,none⟩),.int .i64 id,.int .i64 on] (pt p [.int .i64 most,.map (some q)] 229::mp q (kM qK s.1) s.2::R) K:=by
 simp only[i5,fH,dF] at hK
 refine aH Tryz.func343 ?_
 repeat' (first|refine v25 ?_|refine dw CL ?_|refine wr ?_|refine w5 ?_ ?_|((refine bh fun h=>?_) <;> try exact w6 h)|(refine aE fun hA=>?_;subst hA)|intro _|(show aN _ _ _ _ _ _ _;first|(refine jJ ?_ (hv:=pT);simp only[qK])|refine fN ?_|refine kU ?_ (hv:=OO (enc:=qK) (v:=⟨on,_⟩)) (hu:=by exact rfl)))
 all_goals(refine aC ?_;exact aB (hK))
theorem FP (hK:K (.int .i64 (if d4 id s.1=true then(dF id s).w else 0)) (pt p [.int .i64 most,.map (some q)] 229::mp q (kM qK s.1) s.2::R)):aA Tryz.prog 289 #[.pointer (some ⟨p,0,none⟩),.int .i64 id] (pt p [.int .i64 most,.map (some q)] 229::mp q (kM qK s.1) s.2::R) K:=by
 cases h:d4 id s.1
 ·rw[h,if_neg (by decide)] at hK
  refine aH Tryz.func289 ?_
  repeat' (first|refine I7 ?_|refine wr ?_|refine w5 ?_ ?_|((refine bh fun h=>?_) <;> try exact w6 h)|(refine aE fun hA=>?_;subst hA)|intro _|(show aA _ 304 _ _ _;refine CA (h:=fO ?_);rw[h]))
  all_goals(refine aC ?_;exact aB (hK))
 ·rw[h,if_pos rfl] at hK
  simp only[dF] at hK
  refine aH Tryz.func289 ?_
  repeat' (first|refine I7 ?_|refine wr ?_|refine w5 ?_ ?_|((refine bh fun h=>?_) <;> try exact w6 h)|(refine aE fun hA=>?_;subst hA)|intro _|(show aA _ 304 _ _ _;refine CA (h:=fO ?_);rw[h])|(show aN _ _ _ _ _ _ _;first|(refine jJ ?_ (hv:=pT);simp only[qK])|refine fN ?_))
  all_goals(refine aC ?_;exact aB (hK))
end
end
section
variable {R C:List HP} {K:Value→List HP→Prop}
theorem CX {id:Int} {n:Nd}:∀ {l:List (KE Nd)} {ck:Nat},QA l ck→QA (tV id n ck l) (kCk id ck l):=fun {l ck} h=>by
 obtain⟨h1,h2⟩:=h
 unfold kCk
 cases hg:(g9 id l).isSome
 ·have hg':g9 id l=none:=by simpa using hg
  rw[Ds hg',if_neg (by decide)]
  refine⟨?_,fun e he=>?_⟩
  ·rw[List.map_append]
   refine List.nodup_append.2 ⟨h1,by simp,?_⟩
   intro b hb b' hb' he
   obtain⟨z,hz,rfl⟩:=List.mem_map.1 hb
   have:=h2 z hz
   simp at hb'
   omega
  ·rcases List.mem_append.1 he with he|he
   ·have:=h2 e he;omega
   ·rw[List.mem_singleton.1 he];exact Nat.lt_succ_self _
 ·rw[if_pos rfl]
  have key:∀l:List (KE Nd),(g9 id l).isSome=true→(tV id n ck l).map KE.b=l.map KE.b:=by
   intro l
   induction l with
   |nil=>intro h;cases h
   |cons e r ih=>
    intro h
    unfold tV
    by_cases hk:id=e.k
    ·rw[if_pos hk];rfl
    ·rw[if_neg hk,List.map_cons,List.map_cons,ih (by unfold g9 at h;rwa[if_neg hk] at h)]
  have hb:=key l hg
  refine⟨by rw[hb];exact h1,fun e he=>?_⟩
  have hm:e.b∈l.map KE.b:=by rw[← hb];exact List.mem_map_of_mem he
  obtain⟨z,hz,hzb⟩:=List.mem_map.1 hm
  rw[← hzb]
  exact h2 z hz
section
variable {p q:Nat} {most id on w:Int} {x:Bool} {s:eT}
def jU:List (Nat×Nat):= [(0,0),(1,0),(2,0),(3,0),(4,0),(5,0),(6,0),(7,0),(8,0),(9,0),(10,1)]
theorem xA (hok:QA s.1 s.2) (hl:s.1.length≤100000) (hK:K (.tuple #[]) (pt p [.int .i64 most,.map (some q)] 229::mp q (kM qK (pP id on w x s).1) (pP id on w x s).2::R)):aA Tryz.prog 305 #[.pointer (some ⟨p,0,none⟩),.int .i64 id,.agg #[.int .i64 on,.int .i64 w,.bool x]] (pt p [.int .i64 most,.map (some q)] 229::mp q (kM qK s.1) s.2::R) K:=by
 cases x with
 |false=>
  simp only[pP,fH,Bool.false_eq_true,if_false] at hK
  refine aH Tryz.func305 ?_
  repeat' (first|refine Xy ?_|refine dw jU ?_|refine wr ?_|refine w5 ?_ ?_|((refine bh fun h=>?_) <;> try exact w6 h)|(refine aE fun hA=>?_;subst hA)|intro _|(show aN _ _ _ _ _ _ _;refine kU ?_ (hv:=OO (enc:=qK) (v:=⟨on,w⟩)) (hu:=by exact rfl)))
  all_goals(refine aC ?_;exact aB (hK))
 |true=>
  simp only[pP,if_true] at hK
  generalize hks:cA on s.1=ks at hK
  have hkl:ks.length≤100000:=by
   rw[← hks]
   unfold cA
   rw[Ac,List.length_map]
   exact Nat.le_trans (List.length_filter_le _ _) hl
  refine aH Tryz.func305 ?_
  repeat' (first|refine Xy ?_|refine dw jU ?_|refine wr ?_|refine w5 ?_ ?_|((refine bh fun h=>?_) <;> try exact w6 h)|(refine aE fun hA=>?_;subst hA)|intro _|(show aA _ 355 _ _ _;refine CA (h:=AI hok hl (fun A c=>?_));rw[hks]))
  rename_i r5
  refine iF (fun kk a C'=>∃(j:Nat) (s':eT),j+kk=ks.length∧iT id (ks.drop j) s'=iT id ks s∧cN a [(0,.pointer (some ⟨p,0,none⟩)),(1,.int .i64 id),(5,.pointer (some ⟨r5,0,none⟩)),(13,.slice A ks.length c),(14,.int .i64 ks.length),(15,.int .i64 j)]∧C'=bT A c 3 kH ks::pt r5 [.int .i64 on,.int .i64 w,.bool true] 42::pt p [.int .i64 most,.map (some q)] 229::mp q (kM qK s'.1) s'.2::R) ks.length (b9 ks.length ⟨0,s,by omega,rfl,⟨rfl,rfl,rfl,rfl,rfl,rfl,trivial⟩,rfl⟩ (by omega)) ?_
  rintro kk a C' ⟨j,s',hj,hs,ha,rfl⟩
  refine gF _ ha ?_
  simp only[eQ]
  by_cases hlt:j<ks.length
  ·obtain⟨k,hk⟩:∃k,ks[j]?=some k:=⟨_,List.getElem?_eq_getElem hlt⟩
   rw[S7 hk] at hs
   by_cases he:k=id
   ·subst he
    rw[if_pos rfl] at hs
    repeat' (first|refine Xy ?_|refine dw jU ?_|refine wr ?_|refine w5 ?_ ?_|((refine bh fun h=>?_) <;> try exact w6 h)|(refine aE fun hA=>?_;subst hA)|intro _)
    all_goals(show aW _ _ _ _;exact b9 (kk - 1) ⟨j+1,s',by omega,hs,⟨rfl,rfl,rfl,rfl,rfl,rfl,trivial⟩,rfl⟩)
   ·rw[if_neg he] at hs
    repeat' (first|refine Xy ?_|refine dw jU ?_|refine wr ?_|refine w5 ?_ ?_|((refine bh fun h=>?_) <;> try exact w6 h)|(refine aE fun hA=>?_;subst hA)|intro _|(show aA _ 343 _ _ _;refine CA (h:=Fl ?_)))
    all_goals(show aW _ _ _ _;exact b9 (kk - 1) ⟨j+1,_,by omega,hs,⟨rfl,rfl,rfl,rfl,rfl,rfl,trivial⟩,rfl⟩)
  ·rw[List.drop_eq_nil_of_le (by omega)] at hs
   have hs:s'=iT id ks s:=hs
   subst hs
   simp only[fH] at hK
   repeat' (first|refine Xy ?_|refine dw jU ?_|refine wr ?_|refine w5 ?_ ?_|((refine bh fun h=>?_) <;> try exact w6 h)|(refine aE fun hA=>?_;subst hA)|intro _|(show aN _ _ _ _ _ _ _;refine kU ?_ (hv:=OO (enc:=qK) (v:=⟨on,w⟩)) (hu:=by exact rfl)))
   all_goals(refine aC ?_;exact aB (hK))
def m7 (id on w:Int) (most:Int) (s:eT):Int:=if id<1∨2147483647<id∨yT on w=false then 2 else if on=id then 12 else if d4 id s.1=true then 8 else if most≤(s.1.length:Nat) then 16 else 0
def nK (id on w:Int) (x:Bool) (most:Int) (s:eT):eT:=if m7 id on w most s≠0 then s else if zI on s=true then pP id 0 w false s else pP id on w x s
def eG:List (Nat×Nat):= [(0,0),(1,0),(2,0),(3,0),(4,0),(5,0),(6,0),(7,0),(8,0),(9,0),(10,0)]
theorem FQ (hok:QA s.1 s.2) (hl:s.1.length≤100000) (hm:0≤most∧most≤100000) (hK:K (.int .i64 (m7 id on w most s)) (pt p [.int .i64 most,.map (some q)] 229::mp q (kM qK (nK id on w x most s).1) (nK id on w x most s).2::R)):aA Tryz.prog 216 #[.pointer (some ⟨p,0,none⟩),.int .i64 id,.agg #[.int .i64 on,.int .i64 w,.bool x]] (pt p [.int .i64 most,.map (some q)] 229::mp q (kM qK s.1) s.2::R) K:=by
 have hkl:(kM qK s.1).length=s.1.length:=by simp[kM]
 by_cases h1:id<1∨2147483647<id
 ·have e:m7 id on w most s=2:=by unfold m7;rw[if_pos (by omega)]
  have e2:nK id on w x most s=s:=by unfold nK;rw[e];rfl
  rw[e,e2] at hK
  refine aH Tryz.func216 ?_
  repeat' (first|refine v44 ?_|refine dw eG ?_|refine wr ?_|refine w5 ?_ ?_|((refine bh fun h=>?_) <;> try exact w6 h)|(refine aE fun hA=>?_;subst hA)|intro _|(show aA _ 303 _ _ _;refine CA (h:=kO ?_)))
  all_goals(refine aC ?_;exact aB (hK))
 ·cases h2:yT on w
  ·have e:m7 id on w most s=2:=by unfold m7;rw[h2,if_pos (by simp)]
   have e2:nK id on w x most s=s:=by unfold nK;rw[e];rfl
   rw[e,e2] at hK
   refine aH Tryz.func216 ?_
   repeat' (first|refine v44 ?_|refine dw eG ?_|refine wr ?_|refine w5 ?_ ?_|((refine bh fun h=>?_) <;> try exact w6 h)|(refine aE fun hA=>?_;subst hA)|intro _|(show aA _ 303 _ _ _;refine CA (h:=kO ?_);rw[h2]))
   all_goals(refine aC ?_;exact aB (hK))
  ·have e1:¬(id<1∨2147483647<id∨yT on w=false):=by rw[h2];simp;omega
   by_cases h3:on=id
   ·have e:m7 id on w most s=12:=by unfold m7;rw[if_neg e1,if_pos h3]
    have e2:nK id on w x most s=s:=by unfold nK;rw[e];rfl
    rw[e,e2] at hK
    refine aH Tryz.func216 ?_
    repeat' (first|refine v44 ?_|refine dw eG ?_|refine wr ?_|refine w5 ?_ ?_|((refine bh fun h=>?_) <;> try exact w6 h)|(refine aE fun hA=>?_;subst hA)|intro _|(show aA _ 303 _ _ _;refine CA (h:=kO ?_);rw[h2]))
    all_goals(refine aC ?_;exact aB (hK))
   ·cases h4:d4 id s.1
    ·by_cases h5:most≤(s.1.length:Nat)
     ·have e:m7 id on w most s=16:=by unfold m7;rw[if_neg e1,if_neg h3,h4,if_neg (by decide),if_pos h5]
      have e2:nK id on w x most s=s:=by unfold nK;rw[e];rfl
      rw[e,e2] at hK
      refine aH Tryz.func216 ?_
      repeat' (first|(show aN _ _ _ _ _ _ _;refine HC ?_)|refine v44 ?_|refine dw eG ?_|refine wr ?_|refine w5 ?_ ?_|((refine bh fun h=>?_) <;> try exact w6 h)|(refine aE fun hA=>?_;subst hA)|intro _|(show aA _ 303 _ _ _;refine CA (h:=kO ?_);rw[h2])|(show aA _ 304 _ _ _;refine CA (h:=fO ?_);rw[h4]))
      all_goals(refine aC ?_;exact aB (hK))
     ·have e:m7 id on w most s=0:=by unfold m7;rw[if_neg e1,if_neg h3,h4,if_neg (by decide),if_neg h5]
      cases h6:zI on s
      ·have e2:nK id on w x most s=pP id on w x s:=by unfold nK;rw[e,h6];rfl
       rw[e,e2] at hK
       refine aH Tryz.func216 ?_
       repeat' (first|(show aN _ _ _ _ _ _ _;refine HC ?_)|refine v44 ?_|refine dw eG ?_|refine wr ?_|refine w5 ?_ ?_|((refine bh fun h=>?_) <;> try exact w6 h)|(refine aE fun hA=>?_;subst hA)|intro _|(show aA _ 303 _ _ _;refine CA (h:=kO ?_);rw[h2])|(show aA _ 304 _ _ _;refine CA (h:=fO ?_);rw[h4])|(show aA _ 306 _ _ _;refine CA (h:=Ag h6 ?_))|(show aA _ 305 _ _ _;refine CA (h:=xA hok hl ?_)))
       all_goals(refine aC ?_;exact aB (hK))
      ·have e2:nK id on w x most s=pP id 0 w false s:=by unfold nK;rw[e,h6];rfl
       rw[e,e2] at hK
       refine aH Tryz.func216 ?_
       repeat' (first|(show aN _ _ _ _ _ _ _;refine HC ?_)|refine v44 ?_|refine dw eG ?_|refine wr ?_|refine w5 ?_ ?_|((refine bh fun h=>?_) <;> try exact w6 h)|(refine aE fun hA=>?_;subst hA)|intro _|(show aA _ 303 _ _ _;refine CA (h:=kO ?_);rw[h2])|(show aA _ 304 _ _ _;refine CA (h:=fO ?_);rw[h4])|(show aA _ 306 _ _ _;refine CA (h:=Ad h6 ?_))|(show aA _ 305 _ _ _;refine CA (h:=xA hok hl ?_)))
       all_goals(refine aC ?_;exact aB (hK))
    ·have e:m7 id on w most s=8:=by unfold m7;rw[if_neg e1,if_neg h3,h4,if_pos rfl]
     have e2:nK id on w x most s=s:=by unfold nK;rw[e];rfl
     rw[e,e2] at hK
     refine aH Tryz.func216 ?_
     repeat' (first|refine v44 ?_|refine dw eG ?_|refine wr ?_|refine w5 ?_ ?_|((refine bh fun h=>?_) <;> try exact w6 h)|(refine aE fun hA=>?_;subst hA)|intro _|(show aA _ 303 _ _ _;refine CA (h:=kO ?_);rw[h2])|(show aA _ 304 _ _ _;refine CA (h:=fO ?_);rw[h4]))
     all_goals(refine aC ?_;exact aB (hK))
end
end
section
variable {R C:List HP} {K:Value→List HP→Prop}
def Sg (r:Int→Nat) (s:eT):Prop:=∀id,d4 id s.1=true→d4 (dF id s).on s.1=true→r (dF id s).on<r id
def rZ (id:Int) (s:eT):Nat→Int→Bool
 |0,_=>false
 |n+1,low=>if d4 low s.1=true then(if(dF low s).on=id then true else rZ id s n (dF low s).on) else false
theorem wI {id:Int} {l:List (KE Nd)} (h:(g9 id l).isSome=true):id∈l.map KE.k:=by
 induction l with
 |nil=>cases h
 |cons e r ih=>
  unfold g9 at h
  by_cases hk:id=e.k
  ·rw[hk];exact List.mem_cons_self ..
  ·rw[if_neg hk] at h
   exact List.mem_cons_of_mem _ (ih h)
section
variable {p q:Nat} {most id low on w:Int} {x:Bool} {s:eT} {r:Int→Nat}
theorem yC (hr:Sg r s) (hK:K (.bool (rZ id s (s.1.length+1) low)) (pt p [.int .i64 most,.map (some q)] 229::mp q (kM qK s.1) s.2::R)):aA Tryz.prog 342 #[.pointer (some ⟨p,0,none⟩),.int .i64 id,.int .i64 low] (pt p [.int .i64 most,.map (some q)] 229::mp q (kM qK s.1) s.2::R) K:=by
 refine aH Tryz.func342 ?_
 repeat' (first|refine SL ?_|refine wr ?_|refine w5 ?_ ?_|((refine bh fun h=>?_) <;> try exact w6 h)|(refine aE fun hA=>?_;subst hA)|intro _)
 refine iF (fun kk a C'=>∃(seen:List Int) (lw:Int),seen.length+kk=s.1.length∧seen.Nodup∧(∀z∈seen,z∈s.1.map KE.k∧(d4 lw s.1=true→r lw<r z))∧rZ id s (kk+1) lw=rZ id s (s.1.length+1) low∧cN a [(0,.pointer (some ⟨p,0,none⟩)),(1,.int .i64 id),(2,.int .i64 lw)]∧C'=pt p [.int .i64 most,.map (some q)] 229::mp q (kM qK s.1) s.2::R) s.1.length (b9 s.1.length ⟨[],low,by simp,List.nodup_nil,(fun z hz=>by cases hz),rfl,⟨rfl,rfl,rfl,trivial⟩,rfl⟩ (by omega)) ?_
 rintro kk a C' ⟨seen,lw,hk,hnd,hse,hab,ha,rfl⟩
 refine gF _ ha ?_
 simp only[eQ]
 rw[← hab] at hK
 cases hh:d4 lw s.1
 ·have e:rZ id s (kk+1) lw=false:=by unfold rZ;rw[hh,if_neg (by decide)]
  rw[e] at hK
  repeat' (first|refine SL ?_|refine wr ?_|refine w5 ?_ ?_|((refine bh fun h=>?_) <;> try exact w6 h)|(refine aE fun hA=>?_;subst hA)|intro _|(show aA _ 304 _ _ _;refine CA (h:=fO ?_);rw[hh]))
  all_goals(refine aC ?_;exact aB (hK))
 ·have hns:lw ∉ seen:=fun hm=>by have:=(hse lw hm).2 hh;omega
  have hlk:lw∈s.1.map KE.k:=wI hh
  have hlen:(lw::seen).length≤(s.1.map KE.k).length:=List.Nodup.length_le_of_subset (List.nodup_cons.2 ⟨hns,hnd⟩) (fun z hz=>by
   rcases List.mem_cons.1 hz with rfl|hz
   ·exact hlk
   ·exact(hse z hz).1)
  rw[List.length_map,List.length_cons] at hlen
  have hnx:∀z∈lw::seen,z∈s.1.map KE.k∧(d4 (dF lw s).on s.1=true→r (dF lw s).on<r z):=fun z hz=>by
   rcases List.mem_cons.1 hz with rfl|hz
   ·exact⟨hlk,fun q=>hr _ hh q⟩
   ·exact⟨(hse z hz).1,fun q=>Nat.lt_trans (hr _ hh q) ((hse z hz).2 hh)⟩
  by_cases ho:(dF lw s).on=id
  ·have e:rZ id s (kk+1) lw=true:=by unfold rZ;rw[hh,if_pos rfl,if_pos ho]
   rw[e] at hK
   simp only[dF] at ho
   repeat' (first|refine SL ?_|refine wr ?_|refine w5 ?_ ?_|((refine bh fun h=>?_) <;> try exact w6 h)|(refine aE fun hA=>?_;subst hA)|intro _|(show aA _ 304 _ _ _;refine CA (h:=fO ?_);rw[hh])|(show aN _ _ _ _ _ _ _;first|(refine jJ ?_ (hv:=pT);simp only[qK])|refine fN ?_))
   all_goals(refine aC ?_;exact aB (hK))
  ·have e:rZ id s (kk+1) lw=rZ id s kk (dF lw s).on:=by
    conv=>lhs;unfold rZ
    rw[hh,if_pos rfl,if_neg ho]
   have ho':=ho
   simp only[dF] at ho'
   obtain⟨k1,rfl⟩:∃k1,kk=k1+1:=⟨kk - 1,by omega⟩
   repeat' (first|refine SL ?_|refine wr ?_|refine w5 ?_ ?_|((refine bh fun h=>?_) <;> try exact w6 h)|(refine aE fun hA=>?_;subst hA)|intro _|(show aA _ 304 _ _ _;refine CA (h:=fO ?_);rw[hh])|(show aN _ _ _ _ _ _ _;first|(refine jJ ?_ (hv:=pT);simp only[qK])|refine fN ?_))
   all_goals(show aW _ _ _ _;exact b9 k1 ⟨lw::seen,(dF lw s).on,by rw[List.length_cons];omega,List.nodup_cons.2 ⟨hns,hnd⟩,hnx,by rw[← hab,e],⟨rfl,rfl,rfl,trivial⟩,rfl⟩)
def pZ (id on w:Int) (s:eT):Int:=if d4 id s.1=false then 7 else if yT on w=false then 2 else if on=id then 12 else 0
def kT (id on w:Int) (x:Bool) (s:eT):eT:=if pZ id on w s≠0 then s else if zI on s=true then(if rZ id s (s.1.length+1) 0=true then pP id 0 w false (i5 0 (dF id s).on s) else pP id 0 w false s) else(if rZ id s (s.1.length+1) on=true then pP id on w x (i5 on (dF id s).on s) else pP id on w x s)
theorem If {id on:Int} (h:QA s.1 s.2):QA (i5 id on s).1 (i5 id on s).2:=CX h
theorem Hj {id:Int} {n:Nd} {ck:Nat}:∀l:List (KE Nd),(tV id n ck l).length≤l.length+1
 | []=>Nat.le_refl _
 |e::r=>by
  unfold tV
  split
  ·simp
  ·have:=Hj (id:=id) (n:=n) (ck:=ck) r
   simp only[List.length_cons]
   omega
theorem NI {id on:Int}:(i5 id on s).1.length≤s.1.length+1:=Hj _
def eS:List (Nat×Nat):= [(3,0),(4,0),(5,0),(6,0),(7,0),(8,1),(0,1),(1,1),(2,1),(9,0),(10,1)]
theorem JM (hok:QA s.1 s.2) (hl:s.1.length≤1000) (hr:Sg r s) (hK:K (.int .i64 (pZ id on w s)) (pt p [.int .i64 most,.map (some q)] 229::mp q (kM qK (kT id on w x s).1) (kT id on w x s).2::R)):aA Tryz.prog 262 #[.pointer (some ⟨p,0,none⟩),.int .i64 id,.agg #[.int .i64 on,.int .i64 w,.bool x]] (pt p [.int .i64 most,.map (some q)] 229::mp q (kM qK s.1) s.2::R) K:=by
 cases h1:d4 id s.1
 ·have e:pZ id on w s=7:=by unfold pZ;rw[h1,if_pos rfl]
  have e2:kT id on w x s=s:=by unfold kT;rw[e];rfl
  rw[e,e2] at hK
  refine aH Tryz.func262 ?_
  repeat' (first|refine QB ?_|refine dw eS ?_|refine wr ?_|refine w5 ?_ ?_|((refine bh fun h=>?_) <;> try exact w6 h)|(refine aE fun hA=>?_;subst hA)|intro _|(show aA _ 304 _ _ _;refine CA (h:=fO ?_);rw[h1]))
  all_goals(refine aC ?_;exact aB (hK))
 ·cases h2:yT on w
  ·have e:pZ id on w s=2:=by unfold pZ;rw[h1,if_neg (by decide),h2,if_pos rfl]
   have e2:kT id on w x s=s:=by unfold kT;rw[e];rfl
   rw[e,e2] at hK
   refine aH Tryz.func262 ?_
   repeat' (first|refine QB ?_|refine dw eS ?_|refine wr ?_|refine w5 ?_ ?_|((refine bh fun h=>?_) <;> try exact w6 h)|(refine aE fun hA=>?_;subst hA)|intro _|(show aA _ 304 _ _ _;refine CA (h:=fO ?_);rw[h1])|(show aA _ 303 _ _ _;refine CA (h:=kO ?_);rw[h2]))
   all_goals(refine aC ?_;exact aB (hK))
  ·by_cases h3:on=id
   ·have e:pZ id on w s=12:=by unfold pZ;rw[h1,if_neg (by decide),h2,if_neg (by decide),if_pos h3]
    have e2:kT id on w x s=s:=by unfold kT;rw[e];rfl
    rw[e,e2] at hK
    refine aH Tryz.func262 ?_
    repeat' (first|refine QB ?_|refine dw eS ?_|refine wr ?_|refine w5 ?_ ?_|((refine bh fun h=>?_) <;> try exact w6 h)|(refine aE fun hA=>?_;subst hA)|intro _|(show aA _ 304 _ _ _;refine CA (h:=fO ?_);rw[h1])|(show aA _ 303 _ _ _;refine CA (h:=kO ?_);rw[h2]))
    all_goals(refine aC ?_;exact aB (hK))
   ·have e:pZ id on w s=0:=by unfold pZ;rw[h1,if_neg (by decide),h2,if_neg (by decide),if_neg h3]
    cases h4:zI on s
    ·cases h5:rZ id s (s.1.length+1) on
     ·have e2:kT id on w x s=pP id on w x s:=by unfold kT;rw[e,h4,h5];rfl
      rw[e,e2] at hK
      refine aH Tryz.func262 ?_
      repeat' (first|refine QB ?_|refine dw eS ?_|refine wr ?_|refine w5 ?_ ?_|((refine bh fun h=>?_) <;> try exact w6 h)|(refine aE fun hA=>?_;subst hA)|intro _|(show aA _ 304 _ _ _;refine CA (h:=fO ?_);rw[h1])|(show aA _ 303 _ _ _;refine CA (h:=kO ?_);rw[h2])|(show aA _ 306 _ _ _;refine CA (h:=Ag h4 ?_))|(show aA _ 342 _ _ _;refine CA (h:=yC hr ?_);rw[h5])|(show aA _ 305 _ _ _;refine CA (h:=xA hok (by omega) ?_)))
      all_goals(refine aC ?_;exact aB (hK))
     ·have e2:kT id on w x s=pP id on w x (i5 on (dF id s).on s):=by unfold kT;rw[e,h4,h5];rfl
      have hgl:=NI (s:=s) (id:=on) (on:=(dF id s).on)
      rw[e,e2] at hK
      refine aH Tryz.func262 ?_
      repeat' (first|refine QB ?_|refine dw eS ?_|refine wr ?_|refine w5 ?_ ?_|((refine bh fun h=>?_) <;> try exact w6 h)|(refine aE fun hA=>?_;subst hA)|intro _|(show aA _ 304 _ _ _;refine CA (h:=fO ?_);rw[h1])|(show aA _ 303 _ _ _;refine CA (h:=kO ?_);rw[h2])|(show aA _ 306 _ _ _;refine CA (h:=Ag h4 ?_))|(show aA _ 342 _ _ _;refine CA (h:=yC hr ?_);rw[h5])|(show aA _ 343 _ _ _;refine CA (h:=Fl (on:=(dF id s).on) ?_))|(show aA _ 305 _ _ _;refine CA (h:=xA (If hok) (by omega) ?_))|(show aN _ _ _ _ _ _ _;first|(refine jJ ?_ (hv:=pT);simp only[qK])|refine fN ?_))
      all_goals(refine aC ?_;exact aB (hK))
    ·cases h5:rZ id s (s.1.length+1) 0
     ·have e2:kT id on w x s=pP id 0 w false s:=by unfold kT;rw[e,h4,h5];rfl
      rw[e,e2] at hK
      refine aH Tryz.func262 ?_
      repeat' (first|refine QB ?_|refine dw eS ?_|refine wr ?_|refine w5 ?_ ?_|((refine bh fun h=>?_) <;> try exact w6 h)|(refine aE fun hA=>?_;subst hA)|intro _|(show aA _ 304 _ _ _;refine CA (h:=fO ?_);rw[h1])|(show aA _ 303 _ _ _;refine CA (h:=kO ?_);rw[h2])|(show aA _ 306 _ _ _;refine CA (h:=Ad h4 ?_))|(show aA _ 342 _ _ _;refine CA (h:=yC hr ?_);rw[h5])|(show aA _ 305 _ _ _;refine CA (h:=xA hok (by omega) ?_)))
      all_goals(refine aC ?_;exact aB (hK))
     ·have e2:kT id on w x s=pP id 0 w false (i5 0 (dF id s).on s):=by unfold kT;rw[e,h4,h5];rfl
      have hgl:=NI (s:=s) (id:=0) (on:=(dF id s).on)
      rw[e,e2] at hK
      refine aH Tryz.func262 ?_
      repeat' (first|refine QB ?_|refine dw eS ?_|refine wr ?_|refine w5 ?_ ?_|((refine bh fun h=>?_) <;> try exact w6 h)|(refine aE fun hA=>?_;subst hA)|intro _|(show aA _ 304 _ _ _;refine CA (h:=fO ?_);rw[h1])|(show aA _ 303 _ _ _;refine CA (h:=kO ?_);rw[h2])|(show aA _ 306 _ _ _;refine CA (h:=Ad h4 ?_))|(show aA _ 342 _ _ _;refine CA (h:=yC hr ?_);rw[h5])|(show aA _ 343 _ _ _;refine CA (h:=Fl (on:=(dF id s).on) ?_))|(show aA _ 305 _ _ _;refine CA (h:=xA (If hok) (by omega) ?_))|(show aN _ _ _ _ _ _ _;first|(refine jJ ?_ (hv:=pT);simp only[qK])|refine fN ?_))
      all_goals(refine aC ?_;exact aB (hK))
end
end
section
variable {R C:List HP} {K:Value→List HP→Prop}
def TrW (s:eT):Prop:=∀id,d4 id s.1=true→1≤(dF id s).w∧(dF id s).w≤256
def Ni (s:eT):Prop:=(s.1.map KE.k).Nodup
def pW (s:eT):List Int→Int
 | []=>0
 |k::r=>(dF k s).w+pW s r
def C7 (w xw all:Int):Int:=max 1 (w * xw / all)
def p5 (on xw all:Int):List Int→eT→eT
 | [],s=>s
 |k::r,s=>p5 on xw all r (fH k ⟨on,C7 (dF k s).w xw all⟩ s)
def yY (id:Int) (s:eT):eT:=if d4 id s.1=true then(mY id (p5 (dF id s).on (dF id s).w (pW s (cA id s.1)) (cA id s.1) s).1,(p5 (dF id s).on (dF id s).w (pW s (cA id s.1)) (cA id s.1) s).2) else s
theorem zE {k:Int} {l:List Int}:k∈LM l↔k∈l:=(List.mergeSort_perm l _).mem_iff
theorem U2 {l:List Int} (h:l.Nodup):(LM l).Nodup:=(List.mergeSort_perm l _).nodup_iff.2 h
theorem AH {id:Int} {s:eT} (h:Ni s):(cA id s.1).Nodup:=U2 (List.Nodup.sublist ((List.filter_sublist ..).map _) h)
theorem LR {e:KE Nd}:∀ {l:List (KE Nd)},(l.map KE.k).Nodup→e∈l→g9 e.k l=some e.v
 | [],_,h=>by cases h
 |z::r,hnd,h=>by
  rw[List.map_cons] at hnd
  obtain⟨h1,h2⟩:=List.nodup_cons.1 hnd
  unfold g9
  rcases List.mem_cons.1 h with rfl|h
  ·rw[if_pos rfl]
  ·rw[if_neg (fun q=>h1 (by rw[← q];exact List.mem_map_of_mem h)),LR h2 h]
theorem lC {id k:Int} {s:eT} (h:Ni s) (hk:k∈cA id s.1):d4 k s.1=true∧(dF k s).on=id:=by
 unfold cA at hk
 rw[zE] at hk
 obtain⟨e,he,rfl⟩:=List.mem_map.1 hk
 obtain⟨h1,h2⟩:=List.mem_filter.1 he
 have:=LR h h1
 exact⟨by unfold d4;rw[this];rfl,by unfold dF;rw[this];simpa using h2⟩
theorem IG {id j:Int} {n:Nd} {s:eT}:dF j (fH id n s)=if j=id then n else dF j s:=by
 unfold dF fH
 simp only
 rw[G8]
 split <;> rfl
theorem IY {s:eT} (h:TrW s):∀ {l:List Int},(∀k∈l,d4 k s.1=true)→(l.length:Int)≤pW s l∧pW s l≤256 * l.length
 | [],_=>by simp[pW]
 |k::r,hh=>by
  have h1:=h k (hh k (List.mem_cons_self ..))
  have h2:=IY h (l:=r) fun z hz=>hh z (List.mem_cons_of_mem _ hz)
  simp only[pW,List.length_cons]
  omega
theorem ZW {s:eT} {ks:List Int} {j:Nat} {k:Int} (h:ks[j]?=some k):pW s (ks.drop j)=(dF k s).w+pW s (ks.drop (j+1)):=by
 have hj:=(List.getElem?_eq_some_iff.1 h).1
 rw[List.drop_eq_getElem_cons hj,(List.getElem?_eq_some_iff.1 h).2]
 rfl
theorem Zr {on xw all:Int} {s:eT} {ks:List Int} {j:Nat} {k:Int} (h:ks[j]?=some k):p5 on xw all (ks.drop j) s=p5 on xw all (ks.drop (j+1)) (fH k ⟨on,C7 (dF k s).w xw all⟩ s):=by
 have hj:=(List.getElem?_eq_some_iff.1 h).1
 rw[List.drop_eq_getElem_cons hj,(List.getElem?_eq_some_iff.1 h).2]
 rfl
section
variable {p q r5 r7:Nat} {most id low on w xw all:Int} {x:Bool} {s:eT} {r:Int→Nat}
theorem Rw (hw:0≤w∧w≤100000) (hx:0≤xw∧xw≤100000) (ha:0<all) (hK:K (.int .i64 (C7 w xw all)) (pt r5 [.int .i64 on,.int .i64 xw] 373::pt r7 [.int .i64 all] 3::R)):aA Tryz.prog 371 #[.int .i64 w,.pointer (some ⟨r5,0,none⟩),.pointer (some ⟨r7,0,none⟩)] (pt r5 [.int .i64 on,.int .i64 xw] 373::pt r7 [.int .i64 all] 3::R) K:=by
 have h1:0≤w * xw:=Int.mul_nonneg hw.1 hx.1
 have h2:w * xw≤100000 * 100000:=Int.mul_le_mul hw.2 hx.2 hx.1 (by omega)
 have hq1:0≤w * xw / all:=Int.ediv_nonneg h1 (by omega)
 have hq2:w * xw / all≤w * xw:=Int.ediv_le_self all h1
 have hm:IntKind.wrap .i64 (w * xw / all)=w * xw / all:=uS (by omega) (by omega)
 refine aH Tryz.func371 ?_
 repeat' (first|refine v43 ?_|refine wr ?_|refine w5 ?_ ?_|((refine bh fun h=>?_) <;> try exact w6 h)|(refine aE fun hA=>?_;subst hA)|intro _)
 all_goals(refine aC ?_;exact aB (hK))
def fC:List (Nat×Nat):= [(1,0),(2,0),(3,0),(4,0),(5,0),(6,1),(0,1),(7,0),(8,0),(9,1)]
def fA:List (Nat×Nat):= [(8,0),(9,0),(10,0),(11,0),(12,0),(13,1),(7,1),(14,0),(15,1),(0,2),(1,2),(2,2),(3,2),(4,2),(5,2),(6,2),(16,0),(17,1)]
theorem PZ (hok:QA s.1 s.2) (hl:s.1.length≤1000) (hw:TrW s) (hn:Ni s) (hK:∀v,K v (pt p [.int .i64 most,.map (some q)] 229::mp q (kM qK (yY id s).1) (yY id s).2::R)):aA Tryz.prog 314 #[.pointer (some ⟨p,0,none⟩),.int .i64 id] (pt p [.int .i64 most,.map (some q)] 229::mp q (kM qK s.1) s.2::R) K:=by
 cases h1:d4 id s.1
 ·have e:yY id s=s:=by unfold yY;rw[h1,if_neg (by decide)]
  rw[e] at hK
  refine aH Tryz.func314 ?_
  repeat' (first|refine XG ?_|refine dw fC ?_|refine dw fA ?_|refine wr ?_|refine w5 ?_ ?_|((refine bh fun h=>?_) <;> try exact w6 h)|(refine aE fun hA=>?_;subst hA)|intro _|(show aA _ 304 _ _ _;refine CA (h:=fO ?_);rw[h1]))
  all_goals(refine aC ?_;exact aB (hK _))
 ·have hx:=hw id h1
  have hnd:=AH (id:=id) hn
  have hkh:∀k∈cA id s.1,d4 k s.1=true:=fun k hk=>(lC hn hk).1
  have hkl:(cA id s.1).length≤1000:=by
   unfold cA
   rw[Ac,List.length_map]
   exact Nat.le_trans (List.length_filter_le _ _) hl
  have hal:=IY hw hkh
  have e:yY id s=(mY id (p5 (dF id s).on (dF id s).w (pW s (cA id s.1)) (cA id s.1) s).1,(p5 (dF id s).on (dF id s).w (pW s (cA id s.1)) (cA id s.1) s).2):=by unfold yY;rw[h1,if_pos rfl]
  rw[e] at hK
  have hxe:(g9 id s.1).getD ⟨0,0⟩=dF id s:=rfl
  generalize hks:cA id s.1=ks at hK hnd hkh hkl hal
  generalize hxo:dF id s=X at hK hx hxe
  generalize hA:pW s ks=AL at hK hal
  refine aH Tryz.func314 ?_
  repeat' (first|refine XG ?_|refine dw fC ?_|refine dw fA ?_|refine wr ?_|refine w5 ?_ ?_|((refine bh fun h=>?_) <;> try exact w6 h)|(refine aE fun hA=>?_;subst hA)|intro _|(show aA _ 304 _ _ _;refine CA (h:=fO ?_);rw[h1])|(show aN _ _ _ _ _ _ _;first|(refine jJ ?_ (hv:=pT);simp only[qK];rw[hxe])|refine fN ?_)|(show aA _ 355 _ _ _;refine CA (h:=AI hok (by omega) (fun A c=>?_));rw[hks]))
  rename_i r5 r7
  refine iF (fun kk a C'=>∃(j:Nat) (acc:Int),j+kk=ks.length∧acc+pW s (ks.drop j)=AL∧0≤acc∧acc≤256 * j∧cN a [(0,.pointer (some ⟨p,0,none⟩)),(1,.int .i64 id),(5,.pointer (some ⟨r5,0,none⟩)),(6,.slice A ks.length c),(7,.pointer (some ⟨r7,0,none⟩)),(30,.slice A ks.length c),(31,.int .i64 ks.length),(32,.int .i64 j)]∧C'=pt r7 [.int .i64 acc] 3::bT A c 3 kH ks::pt p [.int .i64 most,.map (some q)] 229::mp q (kM qK s.1) s.2::pt r5 [.int .i64 X.on,.int .i64 X.w] 373::R) ks.length (b9 ks.length ⟨0,0,by omega,by rw[List.drop_zero,hA];omega,by omega,by omega,⟨rfl,rfl,rfl,rfl,rfl,rfl,rfl,rfl,trivial⟩,rfl⟩ (by omega)) ?_
  rintro kk a C' ⟨j,acc,hj,hac,h0,h2,ha,rfl⟩
  refine gF _ ha ?_
  simp only[eQ]
  by_cases hlt:j<ks.length
  ·obtain⟨k,hk⟩:∃k,ks[j]?=some k:=⟨_,List.getElem?_eq_getElem hlt⟩
   have hk':ks[((j:Nat):Int).toNat]?=some k:=by rw[Int.toNat_natCast];exact hk
   have hkw:=hw k (hkh k (List.mem_of_getElem? hk))
   rw[ZW hk] at hac
   have hke:(g9 k s.1).getD ⟨0,0⟩=dF k s:=rfl
   repeat' (first|refine XG ?_|refine dw fC ?_|refine dw fA ?_|refine wr ?_|refine w5 ?_ ?_|((refine bh fun h=>?_) <;> try exact w6 h)|(refine aE fun hA=>?_;subst hA)|intro _|(show aN _ _ _ _ _ _ _;first|(refine jJ ?_ (hv:=pT);simp only[qK];rw[hke])|refine fN ?_))
   all_goals(show aW _ _ _ _;exact b9 (kk - 1) ⟨j+1,acc+(dF k s).w,by omega,by omega,by omega,by omega,⟨rfl,rfl,rfl,rfl,rfl,rfl,rfl,rfl,trivial⟩,rfl⟩)
  ·have hd:ks.drop j= []:=List.drop_eq_nil_of_le (by omega)
   rw[hd] at hac
   simp only[pW] at hac
   obtain rfl:acc=AL:=by omega
   repeat' (first|refine XG ?_|refine dw fC ?_|refine dw fA ?_|refine wr ?_|refine w5 ?_ ?_|((refine bh fun h=>?_) <;> try exact w6 h)|(refine aE fun hA=>?_;subst hA)|intro _)
   refine iF (fun kk a C'=>∃(j:Nat) (s':eT),j+kk=ks.length∧p5 X.on X.w acc (ks.drop j) s'=p5 X.on X.w acc ks s∧(∀k∈ks.drop j,dF k s'=dF k s)∧cN a [(0,.pointer (some ⟨p,0,none⟩)),(1,.int .i64 id),(5,.pointer (some ⟨r5,0,none⟩)),(7,.pointer (some ⟨r7,0,none⟩)),(10,.func (.func 371) #[] #[.pointer (some ⟨r5,0,none⟩),.pointer (some ⟨r7,0,none⟩)]),(47,.slice A ks.length c),(48,.int .i64 ks.length),(49,.int .i64 j)]∧C'=pt r7 [.int .i64 acc] 3::bT A c 3 kH ks::pt p [.int .i64 most,.map (some q)] 229::mp q (kM qK s'.1) s'.2::pt r5 [.int .i64 X.on,.int .i64 X.w] 373::R) ks.length (b9 ks.length ⟨0,s,by omega,rfl,(fun _ _=>rfl),⟨rfl,rfl,rfl,rfl,rfl,rfl,rfl,rfl,trivial⟩,rfl⟩ (by omega)) ?_
   rintro kk a C' ⟨j,s',hj,hs',hsame,ha,rfl⟩
   refine gF _ ha ?_
   simp only[eQ]
   by_cases hlt:j<ks.length
   ·obtain⟨k,hk⟩:∃k,ks[j]?=some k:=⟨_,List.getElem?_eq_getElem hlt⟩
    have hk':ks[((j:Nat):Int).toNat]?=some k:=by rw[Int.toNat_natCast];exact hk
    have hkw:=hw k (hkh k (List.mem_of_getElem? hk))
    have hdr:ks.drop j=k::ks.drop (j+1):=by rw[List.drop_eq_getElem_cons hlt,(List.getElem?_eq_some_iff.1 hk).2]
    have hks':=hsame k (by rw[hdr];exact List.mem_cons_self ..)
    rw[Zr hk] at hs'
    have hnk:k ∉ ks.drop (j+1):=by
     have:=List.Nodup.sublist (List.drop_sublist j ks) hnd
     rw[hdr] at this
     exact(List.nodup_cons.1 this).1
    have hsm:∀z∈ks.drop (j+1),dF z (fH k ⟨X.on,C7 (dF k s').w X.w acc⟩ s')=dF z s:=fun z hz=>by
     rw[IG,if_neg (fun e:z=k=>hnk (e▸hz))]
     exact hsame z (by rw[hdr];exact List.mem_cons_of_mem _ hz)
    have hke:(g9 k s'.1).getD ⟨0,0⟩=dF k s':=rfl
    rw[← hks'] at hkw
    simp only[fH] at hs' hsm
    repeat' (first|refine XG ?_|refine dw fC ?_|refine dw fA ?_|refine wr ?_|refine w5 ?_ ?_|((refine bh fun h=>?_) <;> try exact w6 h)|(refine aE fun hA=>?_;subst hA)|intro _|(show aN _ _ _ _ _ _ _;first|(refine jJ ?_ (hv:=pT);simp only[qK];rw[hke])|refine fN ?_|refine kU ?_ (hv:=OO (enc:=qK) (v:=⟨X.on,C7 (dF k s').w X.w acc⟩)) (hu:=by exact rfl))|(show aA _ 371 _ _ _;refine CA (h:=Rw (by omega) (by omega) (by omega) ?_)))
    all_goals(show aW _ _ _ _;exact b9 (kk - 1) ⟨j+1,_,by omega,hs',hsm,⟨rfl,rfl,rfl,rfl,rfl,rfl,rfl,rfl,trivial⟩,rfl⟩)
   ·have hd:ks.drop j= []:=List.drop_eq_nil_of_le (by omega)
    rw[hd] at hs'
    simp only[p5] at hs'
    subst hs'
    repeat' (first|refine XG ?_|refine dw fC ?_|refine dw fA ?_|refine wr ?_|refine w5 ?_ ?_|((refine bh fun h=>?_) <;> try exact w6 h)|(refine aE fun hA=>?_;subst hA)|intro _|(show aN _ _ _ _ _ _ _;first|refine G_delete ?_ (hv:=YV)|refine KH ?_ (hv:=YV)))
    all_goals(refine aC ?_;exact aB (hK _))
end
end
end Go.Proofs.YtifgibijcmppmaaGreat
namespace Go.Proofs.YtifgibijcmppmaaGreat
open Go Go.Proofs Go.Sl
set_option maxRecDepth 100000
set_option maxHeartbeats 40000000
attribute [local irreducible] aN fB cJ bO aM aY aA dM dQ aW dK pt ro fF star sep bI
section
inductive Qx (has:Int→Prop) (on:Int→Int) (k:Int):Int→Prop
 |base {j:Int}:has j→on j=k→Qx has on k j
 |step {j:Int}:has j→Qx has on k (on j)→Qx has on k j
theorem xX {has:Int→Prop} {on:Int→Int} {k j:Int} (h:Qx has on k j):has j:=by cases h <;> assumption
theorem MN {has:Int→Prop} {on:Int→Int} {r:Int→Nat} (hr:∀j,has j→has (on j)→r (on j)<r j) {k j:Int} (hk:has k) (h:Qx has on k j):r k<r j:=by
 induction h with
 |base h1 h2=>have:=hr _ h1 (by rw[h2];exact hk);rw[h2] at this;exact this
 |step h1 h2 ih=>exact Nat.lt_trans ih (hr _ h1 (xX h2))
theorem XZ {has has':Int→Prop} {on on':Int→Int} {r:Int→Nat} (hr:∀j,has j→has (on j)→r (on j)<r j) (U:Int→Prop) (q:Int) (hU:∀j,has j→has (on j)→U (on j)→U j) (hq:¬U q)
  (hn:∀j,has' j→has' (on' j)→(has j∧has (on j)∧on' j=on j)∨(U j∧on' j=q)):∃r':Int→Nat,∀j,has' j→has' (on' j)→r' (on' j)<r' j:=by
 classical
 refine⟨fun j=>if U j then r j+r q+1 else r j,fun j h1 h2=>?_⟩
 rcases hn j h1 h2 with⟨a,b,c⟩|⟨a,b⟩
 ·rw[c]
  have h:=hr j a b
  show(if U (on j) then r (on j)+r q+1 else r (on j))<(if U j then r j+r q+1 else r j)
  by_cases hu:U (on j)
  ·rw[if_pos hu,if_pos (hU j a b hu)];omega
  ·rw[if_neg hu]
   split <;> omega
 ·rw[b]
  show(if U q then r q+r q+1 else r q)<(if U j then r j+r q+1 else r j)
  rw[if_neg hq,if_pos a];omega
theorem Aap {has has':Int→Prop} {on on':Int→Int} {r:Int→Nat} {k p:Int} (hr:∀j,has j→has (on j)→r (on j)<r j) (hkp:p≠k) (hu:¬Qx has on k p) (h1:∀j,has' j→j=k∨has j) (h3:on' k=p) (h4:∀j,j≠k→on' j=on j) (h5:∀j,j≠k→has' j→has' (on j)→has (on j)):
  ∃r':Int→Nat,∀j,has' j→has' (on' j)→r' (on' j)<r' j:=by
 refine XZ hr (fun j=>j=k∨Qx has on k j) p (fun j a b c=>?_) (fun h=>h.elim hkp hu) fun j a b=>?_
 ·rcases c with c|c
  ·exact .inr (.base a c)
  ·exact .inr (.step a c)
 ·by_cases hj:j=k
  ·subst hj;exact .inr ⟨.inl rfl,h3⟩
  ·rw[h4 j hj] at b ⊢
   exact .inl ⟨(h1 j a).resolve_left hj,h5 j hj a b,rfl⟩
theorem Xq {has has':Int→Prop} {on on':Int→Int} {r:Int→Nat} {id q:Int} (hr:∀j,has j→has (on j)→r (on j)<r j) (hid:on id=q) (hq:has q∨∀j,has j→j≠q) (hqi:q≠id)
  (h1:∀j,has' j→has j) (h2:∀j,has j→j≠id→on j=q→on' j=id) (h3:∀j,has j→(j=id∨on j≠q)→on' j=on j):
  ∃r':Int→Nat,∀j,has' j→has' (on' j)→r' (on' j)<r' j:=by
 refine XZ hr (fun j=>∃k,has k∧k≠id∧on k=q∧(j=k∨Qx has on k j)) id (fun j a b c=>?_) (fun h=>?_) fun j a b=>?_
 ·obtain⟨k,c1,c2,c3,c4⟩:=c
  refine⟨k,c1,c2,c3,?_⟩
  rcases c4 with c4|c4
  ·exact .inr (.base a c4)
  ·exact .inr (.step a c4)
 ·obtain⟨k,c1,c2,c3,c4⟩:=h
  rcases c4 with c4|c4
  ·exact c2 c4.symm
  ·have hlt:¬Qx has on k q:=fun h=>by
    have h1:=xX h
    have h2:=MN hr c1 h
    have h3:=hr k c1 (by rw[c3];exact h1)
    rw[c3] at h3
    omega
   cases c4 with
   |base d1 d2=>
    rw[hid] at d2
    rcases hq with e|e
    ·have:=hr k c1 (by rw[c3];exact e)
     rw[c3,d2] at this
     omega
    ·exact e k c1 d2.symm
   |step d1 d2=>rw[hid] at d2;exact hlt d2
 ·have ha:=h1 j a
  by_cases hj:j=id∨on j≠q
  ·rw[h3 j ha hj] at b ⊢
   exact .inl ⟨ha,h1 _ b,rfl⟩
  ·have hj1:j≠id:=fun h=>hj (.inl h)
   have hj2:on j=q:=Classical.byContradiction fun h=>hj (.inr h)
   rw[h2 j ha hj1 hj2]
   exact .inr ⟨⟨j,ha,hj1,hj2,.inl rfl⟩,rfl⟩
section
variable {id j on w:Int} {n:Nd} {s:eT} {x:Bool}
theorem Ad4:d4 j (fH id n s).1=(decide (j=id) || d4 j s.1):=by
 unfold d4 fH
 simp only
 rw[G8]
 by_cases h:j=id
 ·rw[if_pos h,decide_eq_true h];rfl
 ·rw[if_neg h,decide_eq_false h];rfl
theorem Es {id:Int} {n:Nd} {ck:Nat}:∀ {l:List (KE Nd)},(g9 id l).isSome=true→(tV id n ck l).map KE.k=l.map KE.k
 | [],h=>by cases h
 |e::r,h=>by
  unfold g9 at h
  unfold tV
  by_cases he:id=e.k
  ·rw[if_pos he];rfl
  ·rw[if_neg he] at h ⊢
   rw[List.map_cons,List.map_cons,Es h]
theorem LE (h:d4 id s.1=true):(fH id n s).1.length=s.1.length:=by
 have:=congrArg List.length (Es (n:=n) (ck:=s.2) h)
 simpa[fH] using this
theorem UK {id:Int}:∀ {l:List (KE Nd)},g9 id l=none→∀e∈l,e.k≠id
 | [],_,e,he=>by cases he
 |z::r,h,e,he=>by
  unfold g9 at h
  split at h
  ·cases h
  ·rename_i hz
   rcases List.mem_cons.1 he with rfl|he
   ·exact fun h'=>hz h'.symm
   ·exact UK h e he
theorem Hw (h:Ni s):Ni (fH id n s):=by
 unfold Ni fH
 simp only
 cases hg:g9 id s.1 with
 |some v=>rw[Es (by rw[hg];rfl)];exact h
 |none=>
  rw[Ds hg,List.map_append,List.nodup_append]
  refine⟨h,by simp,fun a ha b hb=>?_⟩
  simp only[List.map_cons,List.map_nil,List.mem_cons,List.not_mem_nil,or_false] at hb
  obtain⟨e,he,rfl⟩:=List.mem_map.1 ha
  subst hb
  exact UK hg e he
theorem D8 {id j:Int}:∀ {l:List (KE Nd)},(l.map KE.k).Nodup→g9 j (mY id l)=if j=id then none else g9 j l
 | [],_=>by split <;> rfl
 |e::r,h=>by
  rw[List.map_cons,List.nodup_cons] at h
  unfold mY
  by_cases he:id=e.k
  ·rw[if_pos he]
   by_cases hj:j=id
   ·rw[if_pos hj]
    cases hg:g9 j r with
    |none=>rfl
    |some v=>
     have:=wI (id:=j) (l:=r) (by rw[hg];rfl)
     rw[hj,he] at this
     exact absurd this h.1
   ·rw[if_neg hj]
    show _=if j=e.k then _ else _
    rw[if_neg (by rw[← he];exact hj)]
  ·rw[if_neg he]
   show(if j=e.k then _ else g9 j (mY id r))=if j=id then none else if j=e.k then _ else g9 j r
   rw[D8 h.2]
   by_cases hj:j=id
   ·rw[if_pos hj,if_pos hj,if_neg (by rw[hj];exact he)]
   ·rw[if_neg hj,if_neg hj]
theorem Fh {id:Int}:∀ {l:List (KE Nd)},((mY id l).map KE.k).Sublist (l.map KE.k)
 | []=>List.Sublist.refl _
 |e::r=>by
  unfold mY
  split
  ·exact List.sublist_cons_self ..
  ·exact List.Sublist.cons_cons _ Fh
theorem Abu {id:Int}:∀ {l:List (KE Nd)},((mY id l).map KE.b).Sublist (l.map KE.b)
 | []=>List.Sublist.refl _
 |e::r=>by
  unfold mY
  split
  ·exact List.sublist_cons_self ..
  ·exact List.Sublist.cons_cons _ Abu
theorem JR {id:Int} {e:KE Nd}:∀ {l:List (KE Nd)},e∈mY id l→e∈l
 | [],h=>h
 |z::r,h=>by
  unfold mY at h
  split at h
  ·exact List.mem_cons_of_mem _ h
  ·exact(List.mem_cons.1 h).elim (fun e=>by rw[e];exact List.mem_cons_self ..) fun h=>List.mem_cons_of_mem _ (JR h)
theorem Acr {id:Int} {l:List (KE Nd)}:(mY id l).length≤l.length:=by
 have:=(Fh (id:=id) (l:=l)).length_le
 simpa using this
end
structure Ly (s:eT):Prop where
 kok:QA s.1 s.2
 nd:Ni s
 len:s.1.length≤64
 w:TrW s
 ky:∀id,d4 id s.1=true→1≤id∧id≤2147483647
 cl:∀id,d4 id s.1=true→(dF id s).on=0∨d4 (dF id s).on s.1=true
 rk:∃r,Sg r s
end
section
abbrev eZ (s:eT) (j:Int):Prop:=d4 j s.1=true
abbrev qD (s:eT) (j:Int):Int:=(dF j s).on
section
variable {id j on w low:Int} {s:eT} {x:Bool} {r:Int→Nat}
theorem Ake (hr:Sg r s) (h:Qx (eZ s) (qD s) id low):∀(kk:Nat) (seen:List Int),seen.length+kk=s.1.length→seen.Nodup→(∀z∈seen,z∈s.1.map KE.k∧r low<r z)→rZ id s (kk+1) low=true:=by
 induction h with
 |base h1 h2=>
  intro kk seen _ _ _
  unfold rZ
  rw[if_pos h1,if_pos h2]
 |step h1 h2 ih=>
  rename_i lw
  intro kk seen hk hnd hse
  unfold rZ
  rw[if_pos h1]
  split
  ·rfl
  ·have hns:lw ∉ seen:=fun hm=>by have:=(hse lw hm).2;omega
   have hlen:(lw::seen).length≤(s.1.map KE.k).length:=List.Nodup.length_le_of_subset (List.nodup_cons.2 ⟨hns,hnd⟩) (fun z hz=>by
    rcases List.mem_cons.1 hz with rfl|hz
    ·exact wI h1
    ·exact(hse z hz).1)
   rw[List.length_map,List.length_cons] at hlen
   obtain⟨k1,rfl⟩:∃k1,kk=k1+1:=⟨kk - 1,by omega⟩
   have h3:=hr lw h1 (xX h2)
   refine ih k1 (lw::seen) (by rw[List.length_cons];omega) (List.nodup_cons.2 ⟨hns,hnd⟩) fun z hz=>?_
   rcases List.mem_cons.1 hz with rfl|hz
   ·exact⟨wI h1,h3⟩
   ·exact⟨(hse z hz).1,Nat.lt_trans h3 (hse z hz).2⟩
theorem Q6:∀ {n:Nat} {low:Int},rZ id s n low=true→Qx (eZ s) (qD s) id low
 |0,_,h=>by cases h
 |n+1,low,h=>by
  unfold rZ at h
  split at h
  ·rename_i hh
   split at h
   ·rename_i ho;exact .base hh ho
   ·exact .step hh (Q6 h)
  ·cases h
theorem Akk (hr:Sg r s) (h:rZ id s (s.1.length+1) low=false):¬Qx (eZ s) (qD s) id low:=fun hu=>by
 rw[Ake hr hu s.1.length [] (by simp) List.nodup_nil (fun z hz=>by cases hz)] at h
 cases h
theorem dT {n:Nd}:eZ (fH id n s) j↔j=id∨eZ s j:=by
 unfold eZ;rw[Ad4];simp
theorem u4 {n:Nd}:qD (fH id n s) j=if j=id then n.on else qD s j:=by
 unfold qD;rw[IG];split <;> rfl
theorem PE {n:Nd}:(dF j (fH id n s)).w=if j=id then n.w else(dF j s).w:=by
 rw[IG];split <;> rfl
theorem DZ:∀ {ks:List Int} {s:eT},(∀k∈ks,eZ s k)→QA s.1 s.2→Ni s→(∀j,eZ (iT id ks s) j↔eZ s j)∧(∀j,qD (iT id ks s) j=if j∈ks∧j≠id then id else qD s j)∧(∀j,(dF j (iT id ks s)).w=(dF j s).w)∧QA (iT id ks s).1 (iT id ks s).2∧Ni (iT id ks s)∧(iT id ks s).1.length=s.1.length
 | [],s,_,h1,h2=>⟨fun j=>Iff.rfl,fun j=>by rw[if_neg (by simp)];rfl,fun j=>rfl,h1,h2,rfl⟩
 |k::ks,s,hk,h1,h2=>by
  unfold iT
  by_cases hki:k=id
  ·rw[if_pos hki]
   obtain⟨a1,a2,a3,a4,a5,a6⟩:=DZ (ks:=ks) (s:=s) (fun z hz=>hk z (List.mem_cons_of_mem _ hz)) h1 h2
   refine⟨a1,fun j=>?_,a3,a4,a5,a6⟩
   rw[a2 j]
   by_cases hj:j∈ks∧j≠id
   ·rw[if_pos hj,if_pos ⟨List.mem_cons_of_mem _ hj.1,hj.2⟩]
   ·rw[if_neg hj,if_neg (fun h=>hj ⟨(List.mem_cons.1 h.1).resolve_left (fun e=>h.2 (e.trans hki)),h.2⟩)]
  ·rw[if_neg hki]
   have hkk:=hk k (List.mem_cons_self ..)
   obtain⟨a1,a2,a3,a4,a5,a6⟩:=DZ (ks:=ks) (s:=i5 k id s) (fun z hz=>dT.2 (.inr (hk z (List.mem_cons_of_mem _ hz)))) (CX h1) (Hw h2)
   refine⟨fun j=>(a1 j).trans (dT.trans ⟨fun h=>h.elim (fun e=>by rw[e];exact hkk) (fun h=>h),.inr⟩),fun j=>?_,fun j=>?_,a4,a5,a6.trans (LE hkk)⟩
   ·rw[a2 j]
    unfold i5
    rw[u4]
    by_cases hj:j∈ks∧j≠id
    ·rw[if_pos hj,if_pos ⟨List.mem_cons_of_mem _ hj.1,hj.2⟩]
    ·rw[if_neg hj]
     by_cases hjk:j=k
     ·rw[if_pos hjk,if_pos ⟨by rw[hjk];exact List.mem_cons_self ..,by rw[hjk];exact hki⟩]
     ·rw[if_neg hjk,if_neg (fun h=>hj ⟨(List.mem_cons.1 h.1).resolve_left hjk,h.2⟩)]
   ·rw[a3 j]
    unfold i5
    rw[PE]
    split
    ·rename_i e;rw[e]
    ·rfl
theorem xQ (h:Ni s) {k:Int}:k∈cA id s.1↔eZ s k∧qD s k=id:=by
 refine⟨fun hk=>lC h hk,fun hk=>?_⟩
 obtain⟨h1,h2⟩:=hk
 unfold cA
 rw[zE]
 have hm:=wI h1
 obtain⟨e,he,hek⟩:=List.mem_map.1 hm
 refine List.mem_map.2 ⟨e,List.mem_filter.2 ⟨he,?_⟩,hek⟩
 have hg:=LR h he
 rw[hek] at hg
 unfold qD dF at h2
 rw[hg] at h2
 exact decide_eq_true h2
theorem AN (h:Ly s) (hi:1≤id∧id≤2147483647) (hon:on=0∨eZ s on) (hne:on≠id) (hu:¬Qx (eZ s) (qD s) id on) (hw:1≤w∧w≤256) (hl:eZ s id∨s.1.length<64):Ly (pP id on w x s):=by
 obtain⟨r,hr⟩:=h.rk
 have hz:∀j,eZ s j→j≠0:=fun j hj=>by have:=(h.ky j hj).1;omega
 obtain⟨r1,hr1⟩:∃r':Int→Nat,∀j,eZ (fH id ⟨on,w⟩ s) j→eZ (fH id ⟨on,w⟩ s) (qD (fH id ⟨on,w⟩ s) j)→r' (qD (fH id ⟨on,w⟩ s) j)<r' j:=by
  refine Aap (k:=id) (p:=on) hr hne hu (fun j hj=>dT.1 hj) (by rw[u4,if_pos rfl]) (fun j hj=>by rw[u4,if_neg hj]) fun j hj h1 h2=>?_
  have h1:=(dT.1 h1).resolve_left hj
  rcases dT.1 h2 with e|e
  ·rcases h.cl j h1 with e'|e'
   ·exact absurd (e.symm.trans e') (by omega)
   ·exact e'
  ·exact e
 have hcl:∀j,eZ (fH id ⟨on,w⟩ s) j→qD (fH id ⟨on,w⟩ s) j=0∨eZ (fH id ⟨on,w⟩ s) (qD (fH id ⟨on,w⟩ s) j):=fun j hj=>by
  rw[u4]
  by_cases hji:j=id
  ·rw[if_pos hji]
   exact hon.imp (fun e=>e) fun e=>dT.2 (.inr e)
  ·rw[if_neg hji]
   exact(h.cl j ((dT.1 hj).resolve_left hji)).imp (fun e=>e) fun e=>dT.2 (.inr e)
 have hlen:∀(t:eT),t.1.length=s.1.length→(∀j,eZ t j↔eZ s j)→(fH id ⟨on,w⟩ t).1.length≤64:=fun t ht hh=>by
  rcases hl with e|e
  ·rw[LE ((hh id).2 e),ht];exact h.len
  ·have:=Hj (id:=id) (n:=⟨on,w⟩) (ck:=t.2) t.1
   show(tV id ⟨on,w⟩ t.2 t.1).length≤64
   omega
 have hky:∀j,j=id∨eZ s j→1≤j∧j≤2147483647:=fun j hj=>hj.elim (fun e=>by rw[e];exact hi) (h.ky j)
 cases x with
 |false=>
  show Ly (fH id ⟨on,w⟩ s)
  refine⟨CX h.kok,Hw h.nd,hlen s rfl fun j=>Iff.rfl,fun j hj=>?_,fun j hj=>hky j (dT.1 hj),hcl,r1,hr1⟩
  rw[PE]
  split
  ·exact hw
  ·rename_i hji;exact h.w j ((dT.1 hj).resolve_left hji)
 |true=>
  show Ly (fH id ⟨on,w⟩ (iT id (cA on s.1) s))
  obtain⟨a1,a2,a3,a4,a5,a6⟩:=DZ (id:=id) (ks:=cA on s.1) (s:=s) (fun k hk=>((xQ h.nd).1 hk).1) h.kok h.nd
  have b1:∀j,eZ (fH id ⟨on,w⟩ (iT id (cA on s.1) s)) j↔eZ (fH id ⟨on,w⟩ s) j:=fun j=>dT.trans ((or_congr Iff.rfl (a1 j)).trans dT.symm)
  have b2:∀j,eZ (fH id ⟨on,w⟩ s) j→j≠id→qD (fH id ⟨on,w⟩ s) j=on→qD (fH id ⟨on,w⟩ (iT id (cA on s.1) s)) j=id:=fun j hj hji ho=>by
   rw[u4,if_neg hji] at ho ⊢
   rw[a2,if_pos ⟨(xQ h.nd).2 ⟨(dT.1 hj).resolve_left hji,ho⟩,hji⟩]
  have b3:∀j,eZ (fH id ⟨on,w⟩ s) j→(j=id∨qD (fH id ⟨on,w⟩ s) j≠on)→qD (fH id ⟨on,w⟩ (iT id (cA on s.1) s)) j=qD (fH id ⟨on,w⟩ s) j:=fun j hj ho=>by
   rw[u4,u4] at *
   by_cases hji:j=id
   ·rw[if_pos hji,if_pos hji]
   ·rw[if_neg hji] at ho ⊢
    rw[if_neg hji,a2,if_neg (fun hk=>((ho.resolve_left hji) ((xQ h.nd).1 hk.1).2))]
  refine⟨CX a4,Hw a5,hlen _ a6 a1,fun j hj=>?_,fun j hj=>hky j (dT.1 ((b1 j).1 hj)),fun j hj=>?_,?_⟩
  ·rw[PE]
   split
   ·exact hw
   ·rename_i hji
    rw[a3]
    exact h.w j ((dT.1 ((b1 j).1 hj)).resolve_left hji)
  ·have hj':=(b1 j).1 hj
   show qD _ j=0∨eZ _ (qD _ j)
   by_cases hjo:j=id∨qD (fH id ⟨on,w⟩ s) j≠on
   ·rw[b3 j hj' hjo]
    exact(hcl j hj').imp (fun e=>e) fun e=>(b1 _).2 e
   ·rw[b2 j hj' (fun e=>hjo (.inl e)) (Classical.byContradiction fun e=>hjo (.inr e))]
    exact .inr (dT.2 (.inl rfl))
  ·refine Xq (id:=id) (q:=on) hr1 (by rw[u4,if_pos rfl]) ?_ hne (fun j hj=>(b1 j).1 hj) b2 b3
   rcases hon with e|e
   ·exact .inr fun j hj=>by
     have:=(hky j (dT.1 hj)).1
     omega
   ·exact .inl (dT.2 (.inr e))
theorem Adu (h:Ly s) (hu:Qx (eZ s) (qD s) id low):id=0∨eZ s id:=by
 induction hu with
 |base h1 h2=>rw[← h2];exact h.cl _ h1
 |step _ _ ih=>exact ih
theorem Afa (h:Ly s):Ly (nK id on w x 64 s):=by
 unfold nK
 split
 ·exact h
 ·rename_i he
  have he:m7 id on w 64 s=0:=Classical.byContradiction he
  unfold m7 at he
  split at he
  ·cases he
  ·rename_i h1
   split at he
   ·cases he
   ·rename_i h2
    split at he
    ·cases he
    ·rename_i h3
     split at he
     ·cases he
     ·rename_i h4
      have hmay:yT on w=true:=by simpa using fun hf=>h1 (.inr (.inr hf))
      unfold yT at hmay
      simp only[Bool.and_eq_true,decide_eq_true_eq] at hmay
      have hid:1≤id∧id≤2147483647:=by omega
      have hnu:∀low,¬Qx (eZ s) (qD s) id low:=fun low hu=>(Adu h hu).elim (fun e=>by omega) h3
      split
      ·exact AN h hid (.inl rfl) (by omega) (hnu 0) ⟨hmay.1.2,hmay.2⟩ (.inr (by omega))
      ·rename_i h5
       refine AN h hid ?_ h2 (hnu on) ⟨hmay.1.2,hmay.2⟩ (.inr (by omega))
       unfold zI at h5
       by_cases h0:on=0
       ·exact .inl h0
       ·right
        cases hh:d4 on s.1
        ·exact absurd (by rw[hh];simp[h0]) h5
        ·exact hh
end
end
end Go.Proofs.YtifgibijcmppmaaGreat
