/- A part of the proof: lemmas; each with the conditions that it states. -/
import Derived.Test.YtifgibijcmppmaaGreatNaw
set_option linter.unusedVariables false
set_option linter.unusedSimpArgs false
namespace Go.Proofs.YtifgibijcmppmaaGreat
open Go Go.Proofs Go.Sl
set_option maxRecDepth 100000
set_option maxHeartbeats 40000000
attribute [local irreducible] aN fB cJ bO aM aY aA dM dQ aW dK pt ro fF star sep bI
attribute [local irreducible] mp El
variable {R C:List HP} {K:Value→List HP→Prop}
structure Tu where
 id:Int
 w:Int
 rd:Bool
def tuD:List Value→Option Tu
 | [.int .i64 a,.int .i64 b,.bool c]=>some ⟨a,b,c⟩
 |_=>none
theorem Aji (cs:List Value) (y:Tu) (h:tuD cs=some y): [.int .i64 y.id,.int .i64 y.w,.bool y.rd]=cs:=by
 unfold tuD at h
 split at h
 ·cases h;rfl
 ·cases h
def Lj:t6 Tu:= { enc:=fun y=> [.int .i64 y.id,.int .i64 y.w,.bool y.rd],sz:=3,dec:=tuD,len:=fun _=>rfl,one:=fun _=>rfl,ok:=Aji }
def blE:Bool→Value:=fun b=>.bool b
def qG:List (KE Bool)→Nat→List Tu→List Tu
 |_,_,[]=> []
 |seen,ck,x::r=>if(g9 x.id seen).getD false=false∧x.rd=true then x::qG (tV x.id true ck seen) (kCk x.id ck seen) r else qG (tV x.id true ck seen) (kCk x.id ck seen) r
def Cu (x:Tu):Int:=max (min x.w 256) 1
def sH (pk:List (KE Int)):List Tu→Option Int
 | []=>none
 |x::r=>if 1≤rC x.id pk then some x.id else sH pk r
def vO (pk:List (KE Int)) (x:Tu):Int:=(Cu x - rC x.id pk) / Cu x
def Fy (pk:List (KE Int)):List Tu→Int→Int
 | [],n=>n
 |x::r,n=>Fy pk r (min n (vO pk x))
abbrev xR:=List (KE Int)×Nat
def jX (id n:Int) (s:xR):xR:=(G4 id n s.2 s.1,Xp id n s.2 s.1)
def wT (n:Int):List Tu→xR→xR
 | [],s=>s
 |x::r,s=>wT n r (jX x.id (rC x.id s.1+n * Cu x) s)
def zM (s:xR) (l:List Tu):Option Int×xR:=match qG [] 0 l with
 | []=>(none,s)
 |x::r=>match sH s.1 (x::r) with
  |some id=>(some id,s)
  |none=>(sH (wT (Fy s.1 (x::r) (vO s.1 x)) (x::r) s).1 (x::r),wT (Fy s.1 (x::r) (vO s.1 x)) (x::r) s)
def Ke (s:xR):Prop:=∀e∈s.1,-1024≤e.v∧e.v≤1024
theorem Uy {id v:Int}:∀ {l:List (KE Int)},g9 id l=some v→∃e∈l,e.v=v
 | [],h=>by cases h
 |e::r,h=>by
  unfold g9 at h
  split at h
  ·cases h;exact⟨e,List.mem_cons_self ..,rfl⟩
  ·obtain⟨z,hz,he⟩:=Uy h
   exact⟨z,List.mem_cons_of_mem _ hz,he⟩
theorem EN {s:xR} (h:Ke s) (id:Int):-1024≤rC id s.1∧rC id s.1≤1024:=by
 unfold rC
 cases hg:g9 id s.1 with
 |none=>simp
 |some v=>
  obtain⟨e,he,rfl⟩:=Uy hg
  exact h e he
theorem HR {α:Type} {id:Int} {e:KE α}:∀ {l:List (KE α)},e∈mY id l→e∈l
 | [],h=>h
 |z::r,h=>by
  unfold mY at h
  split at h
  ·exact List.mem_cons_of_mem _ h
  ·rcases List.mem_cons.1 h with rfl|h
   ·exact List.mem_cons_self ..
   ·exact List.mem_cons_of_mem _ (HR h)
theorem OZ {α:Type} {id:Int} {v:α} {ck:Nat} {e:KE α}:∀ {l:List (KE α)},e∈tV id v ck l→e.v=v∨e∈l
 | [],h=>.inl (by rw[List.mem_singleton.1 h])
 |z::r,h=>by
  unfold tV at h
  split at h
  ·rcases List.mem_cons.1 h with rfl|h
   ·exact .inl rfl
   ·exact .inr (List.mem_cons_of_mem _ h)
  ·rcases List.mem_cons.1 h with rfl|h
   ·exact .inr (List.mem_cons_self ..)
   ·rcases OZ h with h|h
    ·exact .inl h
    ·exact .inr (List.mem_cons_of_mem _ h)
theorem Aao {seen:List (KE Bool)} {ck:Nat} {x:Tu} {r:List Tu}:qG seen ck (x::r)=(if(g9 x.id seen).getD false=false∧x.rd=true then [x] else [])++qG (tV x.id true ck seen) (kCk x.id ck seen) r:=by
 conv=>lhs;unfold qG
 split <;> simp
theorem Io {id:Int} {l:List (KE Bool)}:I3 false (.bool false) (jC id (kM blE l) 0)=.bool ((g9 id l).getD false):=by
 rw[UH]
 cases g9 id l <;> rfl
section
variable {p q c n ck:Nat} {A:Option Addr} {l:List Tu} {x:Tu} {s:xR}
theorem UN (hK:K (.int .i64 (Cu x)) R):aA Tryz.prog 285 #[.agg #[.int .i64 x.id,.int .i64 x.w,.bool x.rd]] R K:=by
 refine aH Tryz.func285 ?_
 repeat' (first|refine v39 ?_|refine wr ?_|refine w5 ?_ ?_|((refine bh fun h=>?_) <;> try exact w6 h)|(refine aE fun hA=>?_;subst hA)|intro _)
 all_goals(refine aC ?_;exact aB (hK))
theorem CK (hv:cZ C A Lj l) (hn:l.length=n) (hs:n≤100000) (hK:∀B d,K (.slice B (qG [] 0 l).length d) (bT B d 333 Lj (qG [] 0 l)::C)):aA Tryz.prog 282 #[.slice A n c] C K:=by
 subst hn
 refine aH Tryz.func282 ?_
 repeat' (first|(show aN _ _ _ _ _ _ _;refine E9 ?_;intro _)|refine TU ?_|refine wr ?_|refine w5 ?_ ?_|((refine bh fun h=>?_) <;> try exact w6 h)|(refine aE fun hA=>?_;subst hA)|intro _)
 rename_i m
 refine nR (aG.nilrow 333 Lj _) ?_
 refine iF (fun kk a C'=>∃(j ck:Nat) (seen:List (KE Bool)) (os:List Tu) (B:Option Addr) (d:Nat),j+kk=l.length∧os.length≤j∧os++qG seen ck (l.drop j)=qG [] 0 l∧cN a [(0,.slice A l.length c),(3,.map (some m)),(4,.slice B os.length d),(8,.slice A l.length c),(9,.int .i64 l.length),(10,.int .i64 j)]∧C'=bT B d 333 Lj os::mp m (kM blE seen) ck::C) l.length (b9 l.length ⟨0,0,[],[],none,0,by omega,by simp,rfl,⟨rfl,rfl,rfl,rfl,rfl,rfl,trivial⟩,rfl⟩ (by omega)) ?_
 rintro kk a C' ⟨j,ck,seen,os,B,d,hj,hol,hos,ha,rfl⟩
 have hv':cZ (bT B d 333 Lj os::mp m (kM blE seen) ck::C) A Lj l:=bB (bB hv)
 refine gF _ ha ?_
 simp only[eQ]
 by_cases hlt:j<l.length
 ·obtain⟨x,hx⟩:∃x,l[j]?=some x:=⟨_,List.getElem?_eq_getElem hlt⟩
  have hx':l[((j:Nat):Int).toNat]?=some x:=by rw[Int.toNat_natCast];exact hx
  have hd:l.drop j=x::l.drop (j+1):=by rw[List.drop_eq_getElem_cons hlt,(List.getElem?_eq_some_iff.1 hx).2]
  rw[hd,Aao] at hos
  by_cases hc:(g9 x.id seen).getD false=false∧x.rd=true
  ·rw[if_pos hc,← List.append_assoc] at hos
   obtain⟨hc1,hc2⟩:=hc
   repeat' (first|(show aN _ _ _ _ _ _ _;first|(refine jJ ?_ (hv:=Io);rw[hc1])|refine kU ?_ (hv:=OO (enc:=blE) (v:=true)) (hu:=by exact rfl)|(refine cY (E:=Lj) (xs:=os) (ys:= [x]) ?_;intro B2 d2))|refine TU ?_|refine wr ?_|refine w5 ?_ ?_|((refine bh fun h=>?_) <;> try exact w6 h)|(refine aE fun hA=>?_;subst hA)|intro _)
   all_goals(show aW _ _ _ _;exact b9 (kk - 1) ⟨j+1,_,_,os++ [x],B2,d2,by omega,by rw[List.length_append];exact Nat.succ_le_succ hol,hos,⟨rfl,rfl,rfl,rfl,rfl,rfl,trivial⟩,rfl⟩)
  ·rw[if_neg hc,List.nil_append] at hos
   cases hc1:(g9 x.id seen).getD false
   ·have hc2:x.rd=false:=by
     cases hx2:x.rd
     ·rfl
     ·exact absurd ⟨hc1,hx2⟩ hc
    repeat' (first|(show aN _ _ _ _ _ _ _;first|(refine jJ ?_ (hv:=Io);rw[hc1])|refine kU ?_ (hv:=OO (enc:=blE) (v:=true)) (hu:=by exact rfl))|refine TU ?_|refine wr ?_|refine w5 ?_ ?_|((refine bh fun h=>?_) <;> try exact w6 h)|(refine aE fun hA=>?_;subst hA)|intro _)
    all_goals(show aW _ _ _ _;exact b9 (kk - 1) ⟨j+1,_,_,os,B,d,by omega,by omega,hos,⟨rfl,rfl,rfl,rfl,rfl,rfl,trivial⟩,rfl⟩)
   ·repeat' (first|(show aN _ _ _ _ _ _ _;first|(refine jJ ?_ (hv:=Io);rw[hc1])|refine kU ?_ (hv:=OO (enc:=blE) (v:=true)) (hu:=by exact rfl))|refine TU ?_|refine wr ?_|refine w5 ?_ ?_|((refine bh fun h=>?_) <;> try exact w6 h)|(refine aE fun hA=>?_;subst hA)|intro _)
    all_goals(show aW _ _ _ _;exact b9 (kk - 1) ⟨j+1,_,_,os,B,d,by omega,by omega,hos,⟨rfl,rfl,rfl,rfl,rfl,rfl,trivial⟩,rfl⟩)
 ·rw[List.drop_eq_nil_of_le (by omega)] at hos
  have hos:os=qG [] 0 l:=by simpa[qG] using hos
  subst hos
  repeat' (first|refine TU ?_|refine wr ?_|refine w5 ?_ ?_|((refine bh fun h=>?_) <;> try exact w6 h)|(refine aE fun hA=>?_;subst hA)|intro _)
  all_goals(refine aC ?_;exact aB (hK _ _))
def zQ (pk:List (KE Int)) (l:List Tu):Value:=match sH pk l with
 |some id=>.tuple #[.int .i64 id,.bool true]
 |none=>.tuple #[.int .i64 0,.bool false]
theorem Abp {pk:List (KE Int)} {x:Tu} {j:Nat} (h:l[j]?=some x):sH pk (l.drop j)=if 1≤rC x.id pk then some x.id else sH pk (l.drop (j+1)):=by
 have hj:=(List.getElem?_eq_some_iff.1 h).1
 rw[List.drop_eq_getElem_cons hj,(List.getElem?_eq_some_iff.1 h).2]
 rfl
theorem Ac8 {pk:List (KE Int)} {x:Tu} {j:Nat} {m:Int} (h:l[j]?=some x):Fy pk (l.drop j) m=Fy pk (l.drop (j+1)) (min m (vO pk x)):=by
 have hj:=(List.getElem?_eq_some_iff.1 h).1
 rw[List.drop_eq_getElem_cons hj,(List.getElem?_eq_some_iff.1 h).2]
 rfl
theorem X7 {x:Tu} {j:Nat} {m:Int} (h:l[j]?=some x):wT m (l.drop j) s=wT m (l.drop (j+1)) (jX x.id (rC x.id s.1+m * Cu x) s):=by
 have hj:=(List.getElem?_eq_some_iff.1 h).1
 rw[List.drop_eq_getElem_cons hj,(List.getElem?_eq_some_iff.1 h).2]
 rfl
theorem IA {pk:List (KE Int)}:∀ {l:List Tu},sH pk l=none→∀x∈l,rC x.id pk≤0
 | [],_,x,hx=>by cases hx
 |z::r,h,x,hx=>by
  unfold sH at h
  split at h
  ·cases h
  ·rename_i hz
   rcases List.mem_cons.1 hx with rfl|hx
   ·omega
   ·exact IA h x hx
theorem yH {pk:List (KE Int)} (hs:l.length≤100000) (hK:K (zQ pk l) (bT A c 333 Lj l::pt p [.map (some q)] 211::mp q (kM Kh pk) ck::R)):aA Tryz.prog 283 #[.pointer (some ⟨p,0,none⟩),.slice A l.length c] (bT A c 333 Lj l::pt p [.map (some q)] 211::mp q (kM Kh pk) ck::R) K:=by
 refine aH Tryz.func283 ?_
 repeat' (first|refine Mn ?_|refine wr ?_|refine w5 ?_ ?_|((refine bh fun h=>?_) <;> try exact w6 h)|(refine aE fun hA=>?_;subst hA)|intro _)
 refine iF (fun kk a C'=>∃j:Nat,j+kk=l.length∧sH pk (l.drop j)=sH pk l∧cN a [(0,.pointer (some ⟨p,0,none⟩)),(6,.int .i64 0),(7,.bool false),(10,.slice A l.length c),(11,.int .i64 l.length),(12,.int .i64 j)]∧C'=bT A c 333 Lj l::pt p [.map (some q)] 211::mp q (kM Kh pk) ck::R) l.length (b9 l.length ⟨0,by omega,rfl,⟨rfl,rfl,rfl,rfl,rfl,rfl,trivial⟩,rfl⟩ (by omega)) ?_
 rintro kk a C' ⟨j,hj,hf,ha,rfl⟩
 refine gF _ ha ?_
 simp only[eQ]
 by_cases hlt:j<l.length
 ·obtain⟨x,hx⟩:∃x,l[j]?=some x:=⟨_,List.getElem?_eq_getElem hlt⟩
  have hx':l[((j:Nat):Int).toNat]?=some x:=by rw[Int.toNat_natCast];exact hx
  rw[Abp hx] at hf
  by_cases h1:1≤rC x.id pk
  ·rw[if_pos h1] at hf
   unfold zQ at hK
   rw[← hf] at hK
   repeat' (first|refine Mn ?_|refine wr ?_|refine w5 ?_ ?_|((refine bh fun h=>?_) <;> try exact w6 h)|(refine aE fun hA=>?_;subst hA)|intro _|(show aA _ 286 _ _ _;refine CA (h:=qW ?_)))
   all_goals(refine aC ?_;exact aB (hK))
  ·rw[if_neg h1] at hf
   repeat' (first|refine Mn ?_|refine wr ?_|refine w5 ?_ ?_|((refine bh fun h=>?_) <;> try exact w6 h)|(refine aE fun hA=>?_;subst hA)|intro _|(show aA _ 286 _ _ _;refine CA (h:=qW ?_)))
   all_goals(show aW _ _ _ _;exact b9 (kk - 1) ⟨j+1,by omega,hf,⟨rfl,rfl,rfl,rfl,rfl,rfl,trivial⟩,rfl⟩)
 ·rw[List.drop_eq_nil_of_le (by omega)] at hf
  unfold zQ at hK
  rw[← hf] at hK
  repeat' (first|refine Mn ?_|refine wr ?_|refine w5 ?_ ?_|((refine bh fun h=>?_) <;> try exact w6 h)|(refine aE fun hA=>?_;subst hA)|intro _)
  all_goals(refine aC ?_;exact aB (hK))
theorem SE (x:Tu):1≤Cu x∧Cu x≤256:=by unfold Cu;omega
theorem MW {pk:List (KE Int)} {x:Tu} (h0:rC x.id pk≤0) (h1:-1024≤rC x.id pk):0≤vO pk x∧vO pk x≤1280:=by
 have hw:=SE x
 unfold vO
 have h2:0≤Cu x - rC x.id pk:=by omega
 exact⟨Int.ediv_nonneg h2 (by omega),Int.le_trans (Int.ediv_le_self _ h2) (by omega)⟩
def C1:List (Nat×Nat):= [(0,0),(1,1),(2,1),(3,1),(4,1),(5,1),(7,2),(8,1),(6,1),(9,0),(10,0)]
theorem Oh {pk:List (KE Int)} {r2:Nat} (h0:rC x.id pk≤0) (h1:-1024≤rC x.id pk) (hK:K (.int .i64 (vO pk x)) (pt r2 [.pointer (some ⟨p,0,none⟩)] 110::pt p [.map (some q)] 211::mp q (kM Kh pk) ck::R)):aA Tryz.prog 284 #[.agg #[.int .i64 x.id,.int .i64 x.w,.bool x.rd],.pointer (some ⟨r2,0,none⟩)] (pt r2 [.pointer (some ⟨p,0,none⟩)] 110::pt p [.map (some q)] 211::mp q (kM Kh pk) ck::R) K:=by
 have hw:=SE x
 have hb:=MW h0 h1
 have hm:IntKind.wrap .i64 ((Cu x - rC x.id pk) / Cu x)=(Cu x - rC x.id pk) / Cu x:=uS (by unfold vO at hb;omega) (by unfold vO at hb;omega)
 refine aH Tryz.func284 ?_
 repeat' (first|refine v84 ?_|refine dw C1 ?_|refine wr ?_|refine w5 ?_ ?_|((refine bh fun h=>?_) <;> try exact w6 h)|(refine aE fun hA=>?_;subst hA)|intro _|(show aA _ 285 _ _ _;refine CA (h:=UN ?_))|(show aA _ 286 _ _ _;refine CA (h:=qW ?_)))
 all_goals(refine aC ?_;exact aB (hK))
theorem MQ {id n:Int} (h:Ke s):Ke (jX id n s):=fun e he=>by
 unfold jX G4 at he
 simp only at he
 split at he
 ·exact h e (HR he)
 ·rcases OZ he with hv|he
  ·rw[hv];unfold L6;omega
  ·exact h e he
theorem Afh {id:Int} (h:Ke s):Ke (mY id s.1,s.2):=fun e he=>h e (HR he)
theorem T3 {m:Int}:∀ {l:List Tu} {s:xR},Ke s→Ke (wT m l s)
 | [],_,h=>h
 |_::_,_,h=>by unfold wT;exact T3 (MQ h)
theorem Mm {l:List Tu} (h:Ke s):Ke (zM s l).2:=by
 unfold zM
 split
 ·exact h
 ·split
  ·exact h
  ·exact T3 h
def Kj (s:xR) (l:List Tu):Value:=match (zM s l).1 with
 |some id=>.tuple #[.int .i64 id,.bool true]
 |none=>.tuple #[.int .i64 0,.bool false]
theorem Kk:∀(l:List Tu) (seen:List (KE Bool)) (ck:Nat),(qG seen ck l).length≤l.length
 | [],_,_=>Nat.le_refl _
 |x::r,seen,ck=>by
  have h:=Kk r (tV x.id true ck seen) (kCk x.id ck seen)
  unfold qG
  split
  ·simp only[List.length_cons];omega
  ·simp only[List.length_cons];omega
def dZ:List (Nat×Nat):= [(3,0),(4,0),(5,0),(6,1),(8,1),(9,1),(0,2),(1,2),(2,2),(7,2),(10,0),(11,0),(12,1)]
theorem wJ (hs:l.length≤10000) (hb:Ke s) (hK:K (Kj s l) (pt p [.map (some q)] 211::mp q (kM Kh (zM s l).2.1) (zM s l).2.2::R)):aA Tryz.prog 190 #[.pointer (some ⟨p,0,none⟩),.slice A l.length c] (bT A c 333 Lj l::pt p [.map (some q)] 211::mp q (kM Kh s.1) s.2::R) K:=by
 have hle:=Kk l [] 0
 unfold Kj zM at hK
 generalize hw:qG [] 0 l=w at hK hle
 cases w with
 |nil=>
  refine aH Tryz.func190 ?_
  repeat' (first|refine v94 ?_|refine dw dZ ?_|refine wr ?_|refine w5 ?_ ?_|((refine bh fun h=>?_) <;> try exact w6 h)|(refine aE fun hA=>?_;subst hA)|intro _|(show aA _ 282 _ _ _;refine CA (h:=CK (l:=l) (by exact kR) rfl (by omega) (fun B d=>?_));rw[hw]))
  all_goals(refine aC ?_;exact aB (hK))
 |cons x0 w=>
  simp only at hK
  cases hf:sH s.1 (x0::w) with
  |some id=>
   rw[hf] at hK
   simp only at hK
   have hv:zQ s.1 (x0::w)=.tuple #[.int .i64 id,.bool true]:=by unfold zQ;rw[hf]
   refine aH Tryz.func190 ?_
   repeat' (first|refine v94 ?_|refine dw dZ ?_|refine wr ?_|refine w5 ?_ ?_|((refine bh fun h=>?_) <;> try exact w6 h)|(refine aE fun hA=>?_;subst hA)|intro _|(show aA _ 282 _ _ _;refine CA (h:=CK (l:=l) (by exact kR) rfl (by omega) (fun B d=>?_));rw[hw])|(show aA _ 283 _ _ _;refine CA (h:=yH (l:=x0::w) (by omega) ?_);rw[hv]))
   all_goals(refine aC ?_;exact aB (hK))
  |none=>
   rw[hf] at hK
   simp only at hK
   have hv:zQ s.1 (x0::w)=.tuple #[.int .i64 0,.bool false]:=by unfold zQ;rw[hf]
   have h0:=IA hf
   have hx0:(x0::w)[(0:Int).toNat]?=some x0:=rfl
   have hpos:0<(x0::w).length:=by simp
   have hr0:=MW (h0 x0 (List.mem_cons_self ..)) (EN hb _).1
   refine aH Tryz.func190 ?_
   repeat' (first|refine v94 ?_|refine dw dZ ?_|refine wr ?_|refine w5 ?_ ?_|((refine bh fun h=>?_) <;> try exact w6 h)|(refine aE fun hA=>?_;subst hA)|intro _|(show aA _ 282 _ _ _;refine CA (h:=CK (l:=l) (by exact kR) rfl (by omega) (fun B d=>?_));rw[hw])|(show aA _ 283 _ _ _;refine CA (h:=yH (l:=x0::w) (by omega) ?_);rw[hv])|(show aA _ 284 _ _ _;refine CA (h:=Oh (h0 _ (List.mem_cons_self ..)) (EN hb _).1 ?_)))
   rename_i r2 B0 o0
   refine iF (fun kk a C'=>∃(j:Nat) (m:Int),j+kk=(x0::w).length∧Fy s.1 ((x0::w).drop j) m=Fy s.1 (x0::w) (vO s.1 x0)∧0≤m∧m≤1280∧cN a [(1,.slice (some ⟨B0,o0,none⟩) (x0::w).length d),(2,.pointer (some ⟨r2,0,none⟩)),(8,.func (.func 284) #[] #[.pointer (some ⟨r2,0,none⟩)]),(9,.int .i64 m),(37,.slice (some ⟨B0,o0,none⟩) (x0::w).length d),(38,.int .i64 (x0::w).length),(39,.int .i64 j)]∧C'=bT (some ⟨B0,o0,none⟩) d 333 Lj (x0::w)::pt p [.map (some q)] 211::mp q (kM Kh s.1) s.2::pt r2 [.pointer (some ⟨p,0,none⟩)] 110::R) (x0::w).length (b9 (x0::w).length ⟨0,vO s.1 x0,by omega,rfl,hr0.1,hr0.2,⟨rfl,rfl,rfl,rfl,rfl,rfl,rfl,trivial⟩,rfl⟩ (by omega)) ?_
   rintro kk a C' ⟨j,m,hj,hm,hm0,hm1,ha,rfl⟩
   refine gF _ ha ?_
   simp only[eQ]
   by_cases hlt:j<(x0::w).length
   ·obtain⟨x,hx⟩:∃x,(x0::w)[j]?=some x:=⟨_,List.getElem?_eq_getElem hlt⟩
    have hx':(x0::w)[((j:Nat):Int).toNat]?=some x:=by rw[Int.toNat_natCast];exact hx
    have hxm:=List.mem_of_getElem? hx
    have hrx:=MW (h0 x hxm) (EN hb _).1
    rw[Ac8 hx] at hm
    repeat' (first|refine v94 ?_|refine dw dZ ?_|refine wr ?_|refine w5 ?_ ?_|((refine bh fun h=>?_) <;> try exact w6 h)|(refine aE fun hA=>?_;subst hA)|intro _|(show aA _ 284 _ _ _;refine CA (h:=Oh (h0 _ hxm) (EN hb _).1 ?_)))
    all_goals(show aW _ _ _ _;exact b9 (kk - 1) ⟨j+1,min m (vO s.1 x),by omega,hm,by omega,by omega,⟨rfl,rfl,rfl,rfl,rfl,rfl,rfl,trivial⟩,rfl⟩)
   ·rw[List.drop_eq_nil_of_le (by omega)] at hm
    have hm:m=Fy s.1 (x0::w) (vO s.1 x0):=hm
    rw[← hm] at hK
    repeat' (first|refine v94 ?_|refine dw dZ ?_|refine wr ?_|refine w5 ?_ ?_|((refine bh fun h=>?_) <;> try exact w6 h)|(refine aE fun hA=>?_;subst hA)|intro _)
    refine iF (fun kk a C'=>∃(j:Nat) (s':xR),j+kk=(x0::w).length∧wT m ((x0::w).drop j) s'=wT m (x0::w) s∧Ke s'∧cN a [(1,.slice (some ⟨B0,o0,none⟩) (x0::w).length d),(2,.pointer (some ⟨r2,0,none⟩)),(9,.int .i64 m),(49,.slice (some ⟨B0,o0,none⟩) (x0::w).length d),(50,.int .i64 (x0::w).length),(51,.int .i64 j)]∧C'=bT (some ⟨B0,o0,none⟩) d 333 Lj (x0::w)::pt p [.map (some q)] 211::mp q (kM Kh s'.1) s'.2::pt r2 [.pointer (some ⟨p,0,none⟩)] 110::R) (x0::w).length (b9 (x0::w).length ⟨0,s,by omega,rfl,hb,⟨rfl,rfl,rfl,rfl,rfl,rfl,trivial⟩,rfl⟩ (by omega)) ?_
    rintro kk a C' ⟨j,s',hj,hs',hb',ha,rfl⟩
    refine gF _ ha ?_
    simp only[eQ]
    by_cases hlt:j<(x0::w).length
    ·obtain⟨x,hx⟩:∃x,(x0::w)[j]?=some x:=⟨_,List.getElem?_eq_getElem hlt⟩
     have hx':(x0::w)[((j:Nat):Int).toNat]?=some x:=by rw[Int.toNat_natCast];exact hx
     have hwt:=SE x
     have hlx:=EN hb' x.id
     have hp0:0≤m * Cu x:=Int.mul_nonneg hm0 (by omega)
     have L2:m * Cu x≤1280 * 256:=Int.mul_le_mul hm1 hwt.2 (by omega) (by omega)
     rw[X7 hx] at hs'
     repeat' (first|refine v94 ?_|refine dw dZ ?_|refine wr ?_|refine w5 ?_ ?_|((refine bh fun h=>?_) <;> try exact w6 h)|(refine aE fun hA=>?_;subst hA)|intro _|(show aA _ 286 _ _ _;refine CA (h:=qW ?_))|(show aA _ 285 _ _ _;refine CA (h:=UN ?_))|(show aA _ 287 _ _ _;refine CA (h:=HW ?_)))
     all_goals(show aW _ _ _ _;exact b9 (kk - 1) ⟨j+1,_,by omega,hs',MQ hb',⟨rfl,rfl,rfl,rfl,rfl,rfl,trivial⟩,rfl⟩)
    ·rw[List.drop_eq_nil_of_le (by omega)] at hs'
     have hs':s'=wT m (x0::w) s:=hs'
     subst hs'
     have hfv:zQ (wT m (x0::w) s).1 (x0::w)=match sH (wT m (x0::w) s).1 (x0::w) with
      |some id=>.tuple #[.int .i64 id,.bool true]
      |none=>.tuple #[.int .i64 0,.bool false]:=rfl
     cases hf2:sH (wT m (x0::w) s).1 (x0::w) with
     |some id=>
      rw[hf2] at hK hfv
      repeat' (first|refine v94 ?_|refine dw dZ ?_|refine wr ?_|refine w5 ?_ ?_|((refine bh fun h=>?_) <;> try exact w6 h)|(refine aE fun hA=>?_;subst hA)|intro _|(show aA _ 283 _ _ _;refine CA (h:=yH (l:=x0::w) (by omega) ?_);rw[hfv]))
      all_goals(refine aC ?_;exact aB (hK))
     |none=>
      rw[hf2] at hK hfv
      repeat' (first|refine v94 ?_|refine dw dZ ?_|refine wr ?_|refine w5 ?_ ?_|((refine bh fun h=>?_) <;> try exact w6 h)|(refine aE fun hA=>?_;subst hA)|intro _|(show aA _ 283 _ _ _;refine CA (h:=yH (l:=x0::w) (by omega) ?_);rw[hfv]))
      all_goals(refine aC ?_;exact aB (hK))
end
end Go.Proofs.YtifgibijcmppmaaGreat
