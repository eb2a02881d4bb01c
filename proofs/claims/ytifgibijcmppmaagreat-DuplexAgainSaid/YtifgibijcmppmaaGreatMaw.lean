/- A part of the proof: lemmas; each with the conditions that it states. -/
import Derived.Test.YtifgibijcmppmaaGreatMah
set_option linter.unusedVariables false
set_option linter.unusedSimpArgs false
namespace Go.Proofs.YtifgibijcmppmaaGreat
open Go Go.Proofs Go.Sl
set_option maxRecDepth 100000
set_option maxHeartbeats 40000000
attribute [local irreducible] aM fG cV bP aN aW aA dP dX aV dO pt ro eW star sep bH
attribute [local irreducible] mp Ec
variable {R C:List HP} {K:Value→List HP→Prop}
structure Tu where
 id:Int
 w:Int
 rd:Bool
def tuD:List Value→Option Tu
 | [.int .i64 a,.int .i64 b,.bool c]=>some ⟨a,b,c⟩
 |_=>none
theorem Aja (cs:List Value) (y:Tu) (h:tuD cs=some y): [.int .i64 y.id,.int .i64 y.w,.bool y.rd]=cs:=by
 unfold tuD at h
 split at h
 ·cases h;rfl
 ·cases h
def MK:tG Tu:= { enc:=fun y=> [.int .i64 y.id,.int .i64 y.w,.bool y.rd],sz:=3,dec:=tuD,len:=fun _=>rfl,one:=fun _=>rfl,ok:=Aja }
def blE:Bool→Value:=fun b=>.bool b
def pO:List (KE Bool)→Nat→List Tu→List Tu
 |_,_,[]=> []
 |seen,ck,x::r=>if(f6 x.id seen).getD false=false∧x.rd=true then x::pO (s8 x.id true ck seen) (kCk x.id ck seen) r else pO (s8 x.id true ck seen) (kCk x.id ck seen) r
def CE (x:Tu):Int:=max (min x.w 256) 1
def rQ (pk:List (KE Int)):List Tu→Option Int
 | []=>none
 |x::r=>if 1≤p7 x.id pk then some x.id else rQ pk r
def u6 (pk:List (KE Int)) (x:Tu):Int:=(CE x - p7 x.id pk) / CE x
def FG (pk:List (KE Int)):List Tu→Int→Int
 | [],n=>n
 |x::r,n=>FG pk r (min n (u6 pk x))
abbrev wU:=List (KE Int)×Nat
def jC (id n:Int) (s:wU):wU:=(Il id n s.2 s.1,U2 id n s.2 s.1)
def wP (n:Int):List Tu→wU→wU
 | [],s=>s
 |x::r,s=>wP n r (jC x.id (p7 x.id s.1+n * CE x) s)
def zC (s:wU) (l:List Tu):Option Int×wU:=match pO [] 0 l with
 | []=>(none,s)
 |x::r=>match rQ s.1 (x::r) with
  |some id=>(some id,s)
  |none=>(rQ (wP (FG s.1 (x::r) (u6 s.1 x)) (x::r) s).1 (x::r),wP (FG s.1 (x::r) (u6 s.1 x)) (x::r) s)
def KO (s:wU):Prop:=∀e∈s.1,-1024≤e.v∧e.v≤1024
theorem Ur {id v:Int}:∀ {l:List (KE Int)},f6 id l=some v→∃e∈l,e.v=v
 | [],h=>by cases h
 |e::r,h=>by
  unfold f6 at h
  split at h
  ·cases h;exact⟨e,List.mem_cons_self ..,rfl⟩
  ·obtain⟨z,hz,he⟩:=Ur h
   exact⟨z,List.mem_cons_of_mem _ hz,he⟩
theorem E3 {s:wU} (h:KO s) (id:Int):-1024≤p7 id s.1∧p7 id s.1≤1024:=by
 unfold p7
 cases hg:f6 id s.1 with
 |none=>simp
 |some v=>
  obtain⟨e,he,rfl⟩:=Ur hg
  exact h e he
theorem IL {α:Type} {id:Int} {e:KE α}:∀ {l:List (KE α)},e∈mD id l→e∈l
 | [],h=>h
 |z::r,h=>by
  unfold mD at h
  split at h
  ·exact List.mem_cons_of_mem _ h
  ·rcases List.mem_cons.1 h with rfl|h
   ·exact List.mem_cons_self ..
   ·exact List.mem_cons_of_mem _ (IL h)
theorem Qk {α:Type} {id:Int} {v:α} {ck:Nat} {e:KE α}:∀ {l:List (KE α)},e∈s8 id v ck l→e.v=v∨e∈l
 | [],h=>.inl (by rw[List.mem_singleton.1 h])
 |z::r,h=>by
  unfold s8 at h
  split at h
  ·rcases List.mem_cons.1 h with rfl|h
   ·exact .inl rfl
   ·exact .inr (List.mem_cons_of_mem _ h)
  ·rcases List.mem_cons.1 h with rfl|h
   ·exact .inr (List.mem_cons_self ..)
   ·rcases Qk h with h|h
    ·exact .inl h
    ·exact .inr (List.mem_cons_of_mem _ h)
theorem Abk {seen:List (KE Bool)} {ck:Nat} {x:Tu} {r:List Tu}:pO seen ck (x::r)=(if(f6 x.id seen).getD false=false∧x.rd=true then [x] else [])++pO (s8 x.id true ck seen) (kCk x.id ck seen) r:=by
 conv=>lhs;unfold pO
 split <;> simp
theorem If {id:Int} {l:List (KE Bool)}:GM false (.bool false) (iT id (kM blE l) 0)=.bool ((f6 id l).getD false):=by
 rw[Tn]
 cases f6 id l <;> rfl
section
variable {p q c n ck:Nat} {A:Option Addr} {l:List Tu} {x:Tu} {s:wU}
theorem Ui (hK:K (.int .i64 (CE x)) R):aA Tryz.prog 285 #[.agg #[.int .i64 x.id,.int .i64 x.w,.bool x.rd]] R K:=by
 refine aH Tryz.func285 ?_
 repeat' (first|refine v39 ?_|refine wr ?_|refine w5 ?_ ?_|((refine bh fun h=>?_) <;> try exact w6 h)|(refine aE fun hA=>?_;subst hA)|intro _)
 all_goals(refine aC ?_;exact aB (hK))
theorem BY (hv:dL C A MK l) (hn:l.length=n) (hs:n≤100000) (hK:∀B d,K (.slice B (pO [] 0 l).length d) (bU B d 333 MK (pO [] 0 l)::C)):aA Tryz.prog 282 #[.slice A n c] C K:=by
 subst hn
 refine aH Tryz.func282 ?_
 repeat' (first|(show aM _ _ _ _ _ _ _;refine EJ ?_;intro _)|refine Uz ?_|refine wr ?_|refine w5 ?_ ?_|((refine bh fun h=>?_) <;> try exact w6 h)|(refine aE fun hA=>?_;subst hA)|intro _)
 rename_i m
 refine lW (aG.nilrow 333 MK _) ?_
 refine iL (fun kk a C'=>∃(j ck:Nat) (seen:List (KE Bool)) (os:List Tu) (B:Option Addr) (d:Nat),j+kk=l.length∧os.length≤j∧os++pO seen ck (l.drop j)=pO [] 0 l∧dC a [(0,.slice A l.length c),(3,.map (some m)),(4,.slice B os.length d),(8,.slice A l.length c),(9,.int .i64 l.length),(10,.int .i64 j)]∧C'=bU B d 333 MK os::mp m (kM blE seen) ck::C) l.length (cC l.length ⟨0,0,[],[],none,0,by omega,by simp,rfl,⟨rfl,rfl,rfl,rfl,rfl,rfl,trivial⟩,rfl⟩ (by omega)) ?_
 rintro kk a C' ⟨j,ck,seen,os,B,d,hj,hol,hos,ha,rfl⟩
 have hv':dL (bU B d 333 MK os::mp m (kM blE seen) ck::C) A MK l:=bI (bI hv)
 refine gV _ ha ?_
 simp only[fN]
 by_cases hlt:j<l.length
 ·obtain⟨x,hx⟩:∃x,l[j]?=some x:=⟨_,List.getElem?_eq_getElem hlt⟩
  have hx':l[((j:Nat):Int).toNat]?=some x:=by rw[Int.toNat_natCast];exact hx
  have hd:l.drop j=x::l.drop (j+1):=by rw[List.drop_eq_getElem_cons hlt,(List.getElem?_eq_some_iff.1 hx).2]
  rw[hd,Abk] at hos
  by_cases hc:(f6 x.id seen).getD false=false∧x.rd=true
  ·rw[if_pos hc,← List.append_assoc] at hos
   obtain⟨hc1,hc2⟩:=hc
   repeat' (first|(show aM _ _ _ _ _ _ _;first|(refine iY ?_ (hv:=If);rw[hc1])|refine j2 ?_ (hv:=O1 (enc:=blE) (v:=true)) (hu:=by exact rfl)|(refine cU (E:=MK) (xs:=os) (ys:= [x]) ?_;intro B2 d2))|refine Uz ?_|refine wr ?_|refine w5 ?_ ?_|((refine bh fun h=>?_) <;> try exact w6 h)|(refine aE fun hA=>?_;subst hA)|intro _)
   all_goals(show aV _ _ _ _;exact cC (kk - 1) ⟨j+1,_,_,os++ [x],B2,d2,by omega,by rw[List.length_append];exact Nat.succ_le_succ hol,hos,⟨rfl,rfl,rfl,rfl,rfl,rfl,trivial⟩,rfl⟩)
  ·rw[if_neg hc,List.nil_append] at hos
   cases hc1:(f6 x.id seen).getD false
   ·have hc2:x.rd=false:=by
     cases hx2:x.rd
     ·rfl
     ·exact absurd ⟨hc1,hx2⟩ hc
    repeat' (first|(show aM _ _ _ _ _ _ _;first|(refine iY ?_ (hv:=If);rw[hc1])|refine j2 ?_ (hv:=O1 (enc:=blE) (v:=true)) (hu:=by exact rfl))|refine Uz ?_|refine wr ?_|refine w5 ?_ ?_|((refine bh fun h=>?_) <;> try exact w6 h)|(refine aE fun hA=>?_;subst hA)|intro _)
    all_goals(show aV _ _ _ _;exact cC (kk - 1) ⟨j+1,_,_,os,B,d,by omega,by omega,hos,⟨rfl,rfl,rfl,rfl,rfl,rfl,trivial⟩,rfl⟩)
   ·repeat' (first|(show aM _ _ _ _ _ _ _;first|(refine iY ?_ (hv:=If);rw[hc1])|refine j2 ?_ (hv:=O1 (enc:=blE) (v:=true)) (hu:=by exact rfl))|refine Uz ?_|refine wr ?_|refine w5 ?_ ?_|((refine bh fun h=>?_) <;> try exact w6 h)|(refine aE fun hA=>?_;subst hA)|intro _)
    all_goals(show aV _ _ _ _;exact cC (kk - 1) ⟨j+1,_,_,os,B,d,by omega,by omega,hos,⟨rfl,rfl,rfl,rfl,rfl,rfl,trivial⟩,rfl⟩)
 ·rw[List.drop_eq_nil_of_le (by omega)] at hos
  have hos:os=pO [] 0 l:=by simpa[pO] using hos
  subst hos
  repeat' (first|refine Uz ?_|refine wr ?_|refine w5 ?_ ?_|((refine bh fun h=>?_) <;> try exact w6 h)|(refine aE fun hA=>?_;subst hA)|intro _)
  all_goals(refine aC ?_;exact aB (hK _ _))
def Ap (pk:List (KE Int)) (l:List Tu):Value:=match rQ pk l with
 |some id=>.tuple #[.int .i64 id,.bool true]
 |none=>.tuple #[.int .i64 0,.bool false]
theorem Zx {pk:List (KE Int)} {x:Tu} {j:Nat} (h:l[j]?=some x):rQ pk (l.drop j)=if 1≤p7 x.id pk then some x.id else rQ pk (l.drop (j+1)):=by
 have hj:=(List.getElem?_eq_some_iff.1 h).1
 rw[List.drop_eq_getElem_cons hj,(List.getElem?_eq_some_iff.1 h).2]
 rfl
theorem Acp {pk:List (KE Int)} {x:Tu} {j:Nat} {m:Int} (h:l[j]?=some x):FG pk (l.drop j) m=FG pk (l.drop (j+1)) (min m (u6 pk x)):=by
 have hj:=(List.getElem?_eq_some_iff.1 h).1
 rw[List.drop_eq_getElem_cons hj,(List.getElem?_eq_some_iff.1 h).2]
 rfl
theorem YH {x:Tu} {j:Nat} {m:Int} (h:l[j]?=some x):wP m (l.drop j) s=wP m (l.drop (j+1)) (jC x.id (p7 x.id s.1+m * CE x) s):=by
 have hj:=(List.getElem?_eq_some_iff.1 h).1
 rw[List.drop_eq_getElem_cons hj,(List.getElem?_eq_some_iff.1 h).2]
 rfl
theorem Ip {pk:List (KE Int)}:∀ {l:List Tu},rQ pk l=none→∀x∈l,p7 x.id pk≤0
 | [],_,x,hx=>by cases hx
 |z::r,h,x,hx=>by
  unfold rQ at h
  split at h
  ·cases h
  ·rename_i hz
   rcases List.mem_cons.1 hx with rfl|hx
   ·omega
   ·exact Ip h x hx
theorem xY {pk:List (KE Int)} (hs:l.length≤100000) (hK:K (Ap pk l) (bU A c 333 MK l::pt p [.map (some q)] 211::mp q (kM K8 pk) ck::R)):aA Tryz.prog 283 #[.pointer (some ⟨p,0,none⟩),.slice A l.length c] (bU A c 333 MK l::pt p [.map (some q)] 211::mp q (kM K8 pk) ck::R) K:=by
 refine aH Tryz.func283 ?_
 repeat' (first|refine JC ?_|refine wr ?_|refine w5 ?_ ?_|((refine bh fun h=>?_) <;> try exact w6 h)|(refine aE fun hA=>?_;subst hA)|intro _)
 refine iL (fun kk a C'=>∃j:Nat,j+kk=l.length∧rQ pk (l.drop j)=rQ pk l∧dC a [(0,.pointer (some ⟨p,0,none⟩)),(6,.int .i64 0),(7,.bool false),(10,.slice A l.length c),(11,.int .i64 l.length),(12,.int .i64 j)]∧C'=bU A c 333 MK l::pt p [.map (some q)] 211::mp q (kM K8 pk) ck::R) l.length (cC l.length ⟨0,by omega,rfl,⟨rfl,rfl,rfl,rfl,rfl,rfl,trivial⟩,rfl⟩ (by omega)) ?_
 rintro kk a C' ⟨j,hj,hf,ha,rfl⟩
 refine gV _ ha ?_
 simp only[fN]
 by_cases hlt:j<l.length
 ·obtain⟨x,hx⟩:∃x,l[j]?=some x:=⟨_,List.getElem?_eq_getElem hlt⟩
  have hx':l[((j:Nat):Int).toNat]?=some x:=by rw[Int.toNat_natCast];exact hx
  rw[Zx hx] at hf
  by_cases h1:1≤p7 x.id pk
  ·rw[if_pos h1] at hf
   unfold Ap at hK
   rw[← hf] at hK
   repeat' (first|refine JC ?_|refine wr ?_|refine w5 ?_ ?_|((refine bh fun h=>?_) <;> try exact w6 h)|(refine aE fun hA=>?_;subst hA)|intro _|(show aA _ 286 _ _ _;refine CA (h:=pS ?_)))
   all_goals(refine aC ?_;exact aB (hK))
  ·rw[if_neg h1] at hf
   repeat' (first|refine JC ?_|refine wr ?_|refine w5 ?_ ?_|((refine bh fun h=>?_) <;> try exact w6 h)|(refine aE fun hA=>?_;subst hA)|intro _|(show aA _ 286 _ _ _;refine CA (h:=pS ?_)))
   all_goals(show aV _ _ _ _;exact cC (kk - 1) ⟨j+1,by omega,hf,⟨rfl,rfl,rfl,rfl,rfl,rfl,trivial⟩,rfl⟩)
 ·rw[List.drop_eq_nil_of_le (by omega)] at hf
  unfold Ap at hK
  rw[← hf] at hK
  repeat' (first|refine JC ?_|refine wr ?_|refine w5 ?_ ?_|((refine bh fun h=>?_) <;> try exact w6 h)|(refine aE fun hA=>?_;subst hA)|intro _)
  all_goals(refine aC ?_;exact aB (hK))
theorem Ro (x:Tu):1≤CE x∧CE x≤256:=by unfold CE;omega
theorem Mt {pk:List (KE Int)} {x:Tu} (h0:p7 x.id pk≤0) (h1:-1024≤p7 x.id pk):0≤u6 pk x∧u6 pk x≤1280:=by
 have hw:=Ro x
 unfold u6
 have h2:0≤CE x - p7 x.id pk:=by omega
 exact⟨Int.ediv_nonneg h2 (by omega),Int.le_trans (Int.ediv_le_self _ h2) (by omega)⟩
def De:List (Nat×Nat):= [(0,0),(1,1),(2,1),(3,1),(4,1),(5,1),(7,2),(8,1),(6,1),(9,0),(10,0)]
theorem PQ {pk:List (KE Int)} {r2:Nat} (h0:p7 x.id pk≤0) (h1:-1024≤p7 x.id pk) (hK:K (.int .i64 (u6 pk x)) (pt r2 [.pointer (some ⟨p,0,none⟩)] 110::pt p [.map (some q)] 211::mp q (kM K8 pk) ck::R)):aA Tryz.prog 284 #[.agg #[.int .i64 x.id,.int .i64 x.w,.bool x.rd],.pointer (some ⟨r2,0,none⟩)] (pt r2 [.pointer (some ⟨p,0,none⟩)] 110::pt p [.map (some q)] 211::mp q (kM K8 pk) ck::R) K:=by
 have hw:=Ro x
 have hb:=Mt h0 h1
 have hm:IntKind.wrap .i64 ((CE x - p7 x.id pk) / CE x)=(CE x - p7 x.id pk) / CE x:=tY (by unfold u6 at hb;omega) (by unfold u6 at hb;omega)
 refine aH Tryz.func284 ?_
 repeat' (first|refine v84 ?_|refine dw De ?_|refine wr ?_|refine w5 ?_ ?_|((refine bh fun h=>?_) <;> try exact w6 h)|(refine aE fun hA=>?_;subst hA)|intro _|(show aA _ 285 _ _ _;refine CA (h:=Ui ?_))|(show aA _ 286 _ _ _;refine CA (h:=pS ?_)))
 all_goals(refine aC ?_;exact aB (hK))
theorem Mk {id n:Int} (h:KO s):KO (jC id n s):=fun e he=>by
 unfold jC Il at he
 simp only at he
 split at he
 ·exact h e (IL he)
 ·rcases Qk he with hv|he
  ·rw[hv];unfold Lt;omega
  ·exact h e he
theorem Ad2 {id:Int} (h:KO s):KO (mD id s.1,s.2):=fun e he=>h e (IL he)
theorem UB {m:Int}:∀ {l:List Tu} {s:wU},KO s→KO (wP m l s)
 | [],_,h=>h
 |_::_,_,h=>by unfold wP;exact UB (Mk h)
theorem Lx {l:List Tu} (h:KO s):KO (zC s l).2:=by
 unfold zC
 split
 ·exact h
 ·split
  ·exact h
  ·exact UB h
def KT (s:wU) (l:List Tu):Value:=match (zC s l).1 with
 |some id=>.tuple #[.int .i64 id,.bool true]
 |none=>.tuple #[.int .i64 0,.bool false]
theorem Ka:∀(l:List Tu) (seen:List (KE Bool)) (ck:Nat),(pO seen ck l).length≤l.length
 | [],_,_=>Nat.le_refl _
 |x::r,seen,ck=>by
  have h:=Ka r (s8 x.id true ck seen) (kCk x.id ck seen)
  unfold pO
  split
  ·simp only[List.length_cons];omega
  ·simp only[List.length_cons];omega
def dT:List (Nat×Nat):= [(3,0),(4,0),(5,0),(6,1),(8,1),(9,1),(0,2),(1,2),(2,2),(7,2),(10,0),(11,0),(12,1)]
theorem wH (hs:l.length≤10000) (hb:KO s) (hK:K (KT s l) (pt p [.map (some q)] 211::mp q (kM K8 (zC s l).2.1) (zC s l).2.2::R)):aA Tryz.prog 190 #[.pointer (some ⟨p,0,none⟩),.slice A l.length c] (bU A c 333 MK l::pt p [.map (some q)] 211::mp q (kM K8 s.1) s.2::R) K:=by
 have hle:=Ka l [] 0
 unfold KT zC at hK
 generalize hw:pO [] 0 l=w at hK hle
 cases w with
 |nil=>
  refine aH Tryz.func190 ?_
  repeat' (first|refine v94 ?_|refine dw dT ?_|refine wr ?_|refine w5 ?_ ?_|((refine bh fun h=>?_) <;> try exact w6 h)|(refine aE fun hA=>?_;subst hA)|intro _|(show aA _ 282 _ _ _;refine CA (h:=BY (l:=l) (by exact jY) rfl (by omega) (fun B d=>?_));rw[hw]))
  all_goals(refine aC ?_;exact aB (hK))
 |cons x0 w=>
  simp only at hK
  cases hf:rQ s.1 (x0::w) with
  |some id=>
   rw[hf] at hK
   simp only at hK
   have hv:Ap s.1 (x0::w)=.tuple #[.int .i64 id,.bool true]:=by unfold Ap;rw[hf]
   refine aH Tryz.func190 ?_
   repeat' (first|refine v94 ?_|refine dw dT ?_|refine wr ?_|refine w5 ?_ ?_|((refine bh fun h=>?_) <;> try exact w6 h)|(refine aE fun hA=>?_;subst hA)|intro _|(show aA _ 282 _ _ _;refine CA (h:=BY (l:=l) (by exact jY) rfl (by omega) (fun B d=>?_));rw[hw])|(show aA _ 283 _ _ _;refine CA (h:=xY (l:=x0::w) (by omega) ?_);rw[hv]))
   all_goals(refine aC ?_;exact aB (hK))
  |none=>
   rw[hf] at hK
   simp only at hK
   have hv:Ap s.1 (x0::w)=.tuple #[.int .i64 0,.bool false]:=by unfold Ap;rw[hf]
   have h0:=Ip hf
   have hx0:(x0::w)[(0:Int).toNat]?=some x0:=rfl
   have hpos:0<(x0::w).length:=by simp
   have hr0:=Mt (h0 x0 (List.mem_cons_self ..)) (E3 hb _).1
   refine aH Tryz.func190 ?_
   repeat' (first|refine v94 ?_|refine dw dT ?_|refine wr ?_|refine w5 ?_ ?_|((refine bh fun h=>?_) <;> try exact w6 h)|(refine aE fun hA=>?_;subst hA)|intro _|(show aA _ 282 _ _ _;refine CA (h:=BY (l:=l) (by exact jY) rfl (by omega) (fun B d=>?_));rw[hw])|(show aA _ 283 _ _ _;refine CA (h:=xY (l:=x0::w) (by omega) ?_);rw[hv])|(show aA _ 284 _ _ _;refine CA (h:=PQ (h0 _ (List.mem_cons_self ..)) (E3 hb _).1 ?_)))
   rename_i r2 B0 o0
   refine iL (fun kk a C'=>∃(j:Nat) (m:Int),j+kk=(x0::w).length∧FG s.1 ((x0::w).drop j) m=FG s.1 (x0::w) (u6 s.1 x0)∧0≤m∧m≤1280∧dC a [(1,.slice (some ⟨B0,o0,none⟩) (x0::w).length d),(2,.pointer (some ⟨r2,0,none⟩)),(8,.func (.func 284) #[] #[.pointer (some ⟨r2,0,none⟩)]),(9,.int .i64 m),(37,.slice (some ⟨B0,o0,none⟩) (x0::w).length d),(38,.int .i64 (x0::w).length),(39,.int .i64 j)]∧C'=bU (some ⟨B0,o0,none⟩) d 333 MK (x0::w)::pt p [.map (some q)] 211::mp q (kM K8 s.1) s.2::pt r2 [.pointer (some ⟨p,0,none⟩)] 110::R) (x0::w).length (cC (x0::w).length ⟨0,u6 s.1 x0,by omega,rfl,hr0.1,hr0.2,⟨rfl,rfl,rfl,rfl,rfl,rfl,rfl,trivial⟩,rfl⟩ (by omega)) ?_
   rintro kk a C' ⟨j,m,hj,hm,hm0,hm1,ha,rfl⟩
   refine gV _ ha ?_
   simp only[fN]
   by_cases hlt:j<(x0::w).length
   ·obtain⟨x,hx⟩:∃x,(x0::w)[j]?=some x:=⟨_,List.getElem?_eq_getElem hlt⟩
    have hx':(x0::w)[((j:Nat):Int).toNat]?=some x:=by rw[Int.toNat_natCast];exact hx
    have hxm:=List.mem_of_getElem? hx
    have hrx:=Mt (h0 x hxm) (E3 hb _).1
    rw[Acp hx] at hm
    repeat' (first|refine v94 ?_|refine dw dT ?_|refine wr ?_|refine w5 ?_ ?_|((refine bh fun h=>?_) <;> try exact w6 h)|(refine aE fun hA=>?_;subst hA)|intro _|(show aA _ 284 _ _ _;refine CA (h:=PQ (h0 _ hxm) (E3 hb _).1 ?_)))
    all_goals(show aV _ _ _ _;exact cC (kk - 1) ⟨j+1,min m (u6 s.1 x),by omega,hm,by omega,by omega,⟨rfl,rfl,rfl,rfl,rfl,rfl,rfl,trivial⟩,rfl⟩)
   ·rw[List.drop_eq_nil_of_le (by omega)] at hm
    have hm:m=FG s.1 (x0::w) (u6 s.1 x0):=hm
    rw[← hm] at hK
    repeat' (first|refine v94 ?_|refine dw dT ?_|refine wr ?_|refine w5 ?_ ?_|((refine bh fun h=>?_) <;> try exact w6 h)|(refine aE fun hA=>?_;subst hA)|intro _)
    refine iL (fun kk a C'=>∃(j:Nat) (s':wU),j+kk=(x0::w).length∧wP m ((x0::w).drop j) s'=wP m (x0::w) s∧KO s'∧dC a [(1,.slice (some ⟨B0,o0,none⟩) (x0::w).length d),(2,.pointer (some ⟨r2,0,none⟩)),(9,.int .i64 m),(49,.slice (some ⟨B0,o0,none⟩) (x0::w).length d),(50,.int .i64 (x0::w).length),(51,.int .i64 j)]∧C'=bU (some ⟨B0,o0,none⟩) d 333 MK (x0::w)::pt p [.map (some q)] 211::mp q (kM K8 s'.1) s'.2::pt r2 [.pointer (some ⟨p,0,none⟩)] 110::R) (x0::w).length (cC (x0::w).length ⟨0,s,by omega,rfl,hb,⟨rfl,rfl,rfl,rfl,rfl,rfl,trivial⟩,rfl⟩ (by omega)) ?_
    rintro kk a C' ⟨j,s',hj,hs',hb',ha,rfl⟩
    refine gV _ ha ?_
    simp only[fN]
    by_cases hlt:j<(x0::w).length
    ·obtain⟨x,hx⟩:∃x,(x0::w)[j]?=some x:=⟨_,List.getElem?_eq_getElem hlt⟩
     have hx':(x0::w)[((j:Nat):Int).toNat]?=some x:=by rw[Int.toNat_natCast];exact hx
     have hwt:=Ro x
     have hlx:=E3 hb' x.id
     have hp0:0≤m * CE x:=Int.mul_nonneg hm0 (by omega)
     have Jd:m * CE x≤1280 * 256:=Int.mul_le_mul hm1 hwt.2 (by omega) (by omega)
     rw[YH hx] at hs'
     repeat' (first|refine v94 ?_|refine dw dT ?_|refine wr ?_|refine w5 ?_ ?_|((refine bh fun h=>?_) <;> try exact w6 h)|(refine aE fun hA=>?_;subst hA)|intro _|(show aA _ 286 _ _ _;refine CA (h:=pS ?_))|(show aA _ 285 _ _ _;refine CA (h:=Ui ?_))|(show aA _ 287 _ _ _;refine CA (h:=Ix ?_)))
     all_goals(show aV _ _ _ _;exact cC (kk - 1) ⟨j+1,_,by omega,hs',Mk hb',⟨rfl,rfl,rfl,rfl,rfl,rfl,trivial⟩,rfl⟩)
    ·rw[List.drop_eq_nil_of_le (by omega)] at hs'
     have hs':s'=wP m (x0::w) s:=hs'
     subst hs'
     have hfv:Ap (wP m (x0::w) s).1 (x0::w)=match rQ (wP m (x0::w) s).1 (x0::w) with
      |some id=>.tuple #[.int .i64 id,.bool true]
      |none=>.tuple #[.int .i64 0,.bool false]:=rfl
     cases hf2:rQ (wP m (x0::w) s).1 (x0::w) with
     |some id=>
      rw[hf2] at hK hfv
      repeat' (first|refine v94 ?_|refine dw dT ?_|refine wr ?_|refine w5 ?_ ?_|((refine bh fun h=>?_) <;> try exact w6 h)|(refine aE fun hA=>?_;subst hA)|intro _|(show aA _ 283 _ _ _;refine CA (h:=xY (l:=x0::w) (by omega) ?_);rw[hfv]))
      all_goals(refine aC ?_;exact aB (hK))
     |none=>
      rw[hf2] at hK hfv
      repeat' (first|refine v94 ?_|refine dw dT ?_|refine wr ?_|refine w5 ?_ ?_|((refine bh fun h=>?_) <;> try exact w6 h)|(refine aE fun hA=>?_;subst hA)|intro _|(show aA _ 283 _ _ _;refine CA (h:=xY (l:=x0::w) (by omega) ?_);rw[hfv]))
      all_goals(refine aC ?_;exact aB (hK))
end
end Go.Proofs.YtifgibijcmppmaaGreat
