/- A part of the proof: lemmas; each with the conditions that it states. -/
import Derived.Test.YtepnmcipkangkaaGreatPbd
set_option linter.unusedVariables false
set_option linter.unusedSimpArgs false
set_option maxRecDepth 100000
set_option maxHeartbeats 40000000
namespace Go.Proofs.YtepnmcipkangkaaGreat
open Go Go.Proofs Go.Sl
attribute [local irreducible] aN fJ cY bN aM aS aA dM dN aV dL pt ro fB star sep bF
attribute [local irreducible] mp CV
variable {R C:List HP} {K:KP} {x mc i b p r j:Nat} {a:Ca} {s:Cn} {M:Option Addr} {B id n on w kind sg:Int} {f:Fm} {bs u:List UInt8} {m:Sm} {d:ByteArray} {xx:Bool} {l:List Sm} {z:Xs} {H:Hp}
theorem Hj (hI:bO B s) (hB:B+300<=249000000) (hr:bR f) (hv:d4 R f.pa tI f.ps) (hn:f.ps.length=f.pn) (hK:∀M mc,K (.tuple #[]) (cB x a (bD f s) M mc R)):CT 117 #[PO x,.agg #[I6 f.t,I6 f.st,.bool f.e,.string f.d,I6 f.k,I6 f.on,I6 f.w,.bool f.x,I6 f.c,I6 f.la,I6 f.n,.slice f.pa f.pn f.pc]] (cB x a s M mc R) K:=by
 have ht:=hr.1
 obtain⟨t,st,e,d,k,on,w,xx,c,la,n,pa,pn,pc,ps⟩:=f
 dsimp only at ht hv hn ⊢
 rcases(by omega:t=0\/t=1\/t=2\/t=3\/t=4\/t=5\/t=6\/t=7\/t=8\/t=9\/t=10\/t=11) with rfl|rfl|rfl|rfl|rfl|rfl|rfl|rfl|rfl|rfl|rfl|rfl
 ·exact NC hI hB hr hv hn hK
 ·exact Na hI hB hr hv hn hK
 ·exact NV hI hB hr hv hn hK
 ·exact On hI hB hr hv hn hK
 ·exact Nv hI hB hr hv hn hK
 ·exact OP hI hB hr hv hn hK
 ·exact Ot hI hB hr hv hn hK
 ·exact NU hI hB hr hv hn hK
 ·exact Oa hI hB hr hv hn hK
 ·exact N1 hI hB hr hv hn hK
 ·exact K3 hI hB hr hv hn hK
 ·exact K2 hI hB hr hv hn hK
theorem Q1 {p:ByteArray} (h:uV p=none):bR (G8 p):=by
 unfold uV at h
 split at h
 ·cases h
 ·split at h
  ·split at h
   ·split at h
    ·cases h
    ·split at h
     ·rename_i hg
      unfold gE at hg
      split at hg
      ·split at hg
       ·split at hg
        ·rename_i hk
         unfold gOk gB at hk
         rw[Bool.and_eq_true] at hk
         exact(HL _ _ _ _ _ _ _ _ _ _ _ _).1 hk.1
        ·cases hg
       ·cases hg
      ·rename_i hq;first|exact absurd hg hq|exact absurd (by assumption) hq
     ·cases h
   ·cases h
  ·cases h
theorem Aar:∀(k:Nat) (bs:List UInt8),bs.length<=k->∀p∈(pF bs).1,uV p=none:=by
 intro k
 induction k with
 |zero=>
  intro bs hb p hp
  cases hs:uV (hZ bs) with
  |some e=>rw[uR hs] at hp;cases hp
  |none=>
   exfalso
   have h0:bs.length=0:=by omega
   unfold uV at hs
   rw[if_pos (by rw[i8];omega)] at hs
   cases hs
 |succ k ih=>
  intro bs hb p hp
  cases hs:uV (hZ bs) with
  |some e=>rw[uR hs] at hp;cases hp
  |none=>
   rw[EI hs] at hp
   rcases List.mem_cons.1 hp with rfl|hp
   ·exact hs
   ·refine ih _ ?_ p hp
    have h9:¬(hZ bs).size<9:=fun hq=>by unfold uV at hs;rw[if_pos hq] at hs;cases hs
    rw[i8] at h9
    have hL:0<=sL (hZ bs):=by
     unfold uV at hs
     split at hs
     ·cases hs
     ·split at hs
      ·split at hs
       ·rename_i hf;exact(I1 hf).1
       ·cases hs
      ·cases hs
    rw[List.length_drop]
    omega
theorem UV {fs:List Fm} (h:fs.map jH=(pF bs).1.map G8):∀z∈fs,bR z/\z.ps.length=z.pn:=fun z hz=>by
 have h1:jH z∈(pF bs).1.map G8:=by rw[<- h];exact List.mem_map_of_mem hz
 obtain⟨p,hp,he⟩:=List.mem_map.1 h1
 have h2:=Q1 (Aar bs.length bs (Nat.le_refl _) p hp)
 rw[he] at h2
 refine⟨h2,?_⟩
 have h3:(G8 p).ps.length=(G8 p).pn:=rfl
 rw[he] at h3
 exact h3
theorem EF (h:bO B s) (hB:B+u.length<=250000000):bO (B+u.length) (eC u (aD s)).2:=
 { h.mono (B':=B+u.length) (by omega) hB with
   inb:=by
    have h1:=h.inb
    have h2:=(Xe (s.inb++u).length (s.inb++u) (Nat.le_refl _)).2
    rw[List.length_append] at h2
    show((if(pF (s.inb++u)).2.2=0 then(pF (s.inb++u)).2.1 else []:List UInt8).length:Int)<=B+u.length
    split
    ·omega
    ·have:=h.bb;simp only[List.length_nil];omega
   mv:=by
    have h1:=h.mv
    have:=h.bb
    show(([]:List Mv).length:Int)+s.l.length<=B+u.length
    simp only[List.length_nil];omega }
theorem Afu {ks:List UInt8} {s:ByteArray} {e0:Int} (h0:e0=0) (hz:ks.length+s.size<4000000) (hK:∀F c fs,fs.map jH=(pF (ks++s.data.toList)).1.map G8->K (.tuple #[.slice F fs.length c,I6 (pF (ks++s.data.toList)).2.2]) (bV F c 178 u7 fs::lS zP fs::spP x (if(pF (ks++s.data.toList)).2.2=0 then(pF (ks++s.data.toList)).2.1 else []) (pF (ks++s.data.toList)).2.2::R)):CT 115 #[PO x,.string s] (spP x ks e0::R) K:=by
 subst h0;exact Aik hz hK
theorem X8 {u:ByteArray} (hI:bO B s) (he:s.dr.ov=true\/s.ine=0) (hu:s.inb.length+u.size<4000000) (hB:B+u.size+300 * (pF (s.inb++u.data.toList)).1.length<=248000000) (hK:∀M mc,K (I6 (HE s)) (cB x a (fS u.data.toList s) M mc R)):CT 29 #[PO x,.string u] (cB x a s M mc R) K:=by
 have hbb:=hI.bb
 have hsz:u.data.toList.length=u.size:=Array.length_toList
 unfold HE fS at hK
 cases ho:s.dr.ov
 ·rw[ho] at hK
  simp only[Bool.false_eq_true,if_false] at hK
  have hine:s.ine=0:=he.resolve_left (by rw[ho];decide)
  have hI1:=EF (u:=u.data.toList) hI (by omega)
  have hst:(eC u.data.toList (aD s)).2= { aD s with inb:=(if(pF (s.inb++u.data.toList)).2.2=0 then(pF (s.inb++u.data.toList)).2.1 else []),ine:=(pF (s.inb++u.data.toList)).2.2 }:=rfl
  have hfs:(eC u.data.toList (aD s)).1=(pF (s.inb++u.data.toList)).1.map G8:=rfl
  rw[hfs] at hK
  generalize hs1:(eC u.data.toList (aD s)).2=s1 at hK hst hI1
  have ho1:s1.dr.ov=false:=by rw[hst];exact ho
  refine aH Tryz.func29 ?_
  repeat' (first|refine Lc ?_|refine w5 ?_ ?_|((refine bh fun h=>?_) <;> try exact w6 h)|(refine aE fun hA=>?_;subst hA)|intro _|(show aA _ 104 _ _ _;refine CA (h:=cE (x:=x) (a:=a) (s:=s) (M:=M) (mc:=mc) (R:=R) ?_);rw[ho,if_neg Bool.false_ne_true])|(show aA _ 115 _ _ _;refine CA (h:=Afu (e0:=(aD s).ine) (ks:=s.inb) (s:=u) hine hu (fun F c fs hfe=>?_))))
  subst hst
  have hfl:=congrArg List.length hfe
  simp only[List.length_map] at hfl
  refine jG (fun n1 a' C'=>∃(j:Nat) (s':Cn) (M':Option Addr) (mc':Nat),j+n1=fs.length/\bO (B+u.data.toList.length+300 * j) s'/\s'.dr.ov=false/\cA ((fs.drop j).map jH) s'=cA ((pF (s.inb++u.data.toList)).1.map G8) { aD s with inb:=(if(pF (s.inb++u.data.toList)).2.2=0 then(pF (s.inb++u.data.toList)).2.1 else []),ine:=(pF (s.inb++u.data.toList)).2.2 }/\dP a' [(0,PO x),(7,I6 (pF (s.inb++u.data.toList)).2.2),(24,.slice F fs.length c),(25,I6 fs.length),(26,I6 j)]/\C'=bV F c 178 u7 fs::lS zP fs::cB x a s' M' mc' R) fs.length (cN fs.length ⟨0,{ aD s with inb:=(if(pF (s.inb++u.data.toList)).2.2=0 then(pF (s.inb++u.data.toList)).2.1 else []),ine:=(pF (s.inb++u.data.toList)).2.2 },none,0,by omega,hI1.mono (by omega) (by omega),ho1,by rw[List.drop_zero,hfe],⟨rfl,rfl,rfl,rfl,rfl,trivial⟩,rfl⟩ (by omega)) ?_
  rintro n1 a' C' ⟨j,s',M',mc',hj,hI',ho',hc,ha,rfl⟩
  refine iT _ ha ?_
  simp only[gH]
  by_cases hlt:j<fs.length
  ·obtain⟨z,hz,hd⟩:=lH (l:=fs) (j:=j) hlt
   have hzm:=List.mem_of_getElem? hz
   obtain⟨hzr,hzn⟩:=UV hfe z hzm
   have hv:fs[((j:Nat):Int).toNat]?=some z:=by rw[Int.toNat_natCast];exact hz
   rw[hd] at hc
   have hc2:(if(bD z s').dr.ov=true then bD z s' else cA ((fs.drop (j+1)).map jH) (bD z s'))=cA ((pF (s.inb++u.data.toList)).1.map G8) { aD s with inb:=(if(pF (s.inb++u.data.toList)).2.2=0 then(pF (s.inb++u.data.toList)).2.1 else []),ine:=(pF (s.inb++u.data.toList)).2.2 }:=hc
   have hI2:=Aa hI' (by omega) hzr
   cases hov:(bD z s').dr.ov
   ·rw[hov,if_neg Bool.false_ne_true] at hc2
    repeat' (first|refine Lc ?_|refine w5 ?_ ?_|((refine bh fun h=>?_) <;> try exact w6 h)|(refine aE fun hA=>?_;subst hA)|intro _|(show aA _ 117 _ _ _;refine CA (h:=Hj (x:=x) (a:=a) (s:=s') (M:=M') (mc:=mc') (R:=bV _ c 178 u7 fs::lS zP fs::R) (f:=z) hI' (by omega) hzr (bM (yD hzm)) hzn (fun _ _=>?_)))|(show aA _ 105 _ _ _;refine CA (h:=kU (x:=x) (a:=a) (s:=bD z s') ?_);rw[hov]))
    all_goals(show aV _ _ _ _;exact cN (n1 - 1) ⟨j+1,bD z s',_,_,by omega,hI2.mono (by omega) (by omega),hov,hc2,⟨rfl,rfl,rfl,rfl,rfl,trivial⟩,rfl⟩)
   ·rw[hov,if_pos rfl] at hc2
    rw[<- hc2,if_pos (.inl hov)] at hK
    repeat' (first|refine Lc ?_|refine w5 ?_ ?_|((refine bh fun h=>?_) <;> try exact w6 h)|(refine aE fun hA=>?_;subst hA)|intro _|(show aA _ 117 _ _ _;refine CA (h:=Hj (x:=x) (a:=a) (s:=s') (M:=M') (mc:=mc') (R:=bV _ c 178 u7 fs::lS zP fs::R) (f:=z) hI' (by omega) hzr (bM (yD hzm)) hzn (fun _ _=>?_)))|(show aA _ 105 _ _ _;refine CA (h:=kU (x:=x) (a:=a) (s:=bD z s') ?_);rw[hov]))
    all_goals(refine aC ?_;exact aB (hK _ _))
  ·have hd:fs.drop j= []:=List.drop_eq_nil_of_le (by omega)
   rw[hd] at hc
   have hc2:s'=cA ((pF (s.inb++u.data.toList)).1.map G8) { aD s with inb:=(if(pF (s.inb++u.data.toList)).2.2=0 then(pF (s.inb++u.data.toList)).2.1 else []),ine:=(pF (s.inb++u.data.toList)).2.2 }:=hc
   rw[<- hc2] at hK
   by_cases hE:(pF (s.inb++u.data.toList)).2.2=0
   ·rw[if_pos (.inr hE)] at hK
    repeat' (first|refine Lc ?_|refine w5 ?_ ?_|((refine bh fun h=>?_) <;> try exact w6 h)|(refine aE fun hA=>?_;subst hA)|intro _)
    all_goals(refine aC ?_;exact aB (hK _ _))
   ·rw[if_neg (fun q=>q.elim (fun w=>by rw[ho'] at w;cases w) hE)] at hK
    repeat' (first|(show Br _ _ _;refine Br.t (by first|(simp <;> done)|simpa using hE) ?_)|refine Lc ?_|refine w5 ?_ ?_|((refine bh fun h=>?_) <;> try exact w6 h)|(refine aE fun hA=>?_;subst hA)|intro _|(show aA _ 118 _ _ _;refine CA (h:=dU (x:=x) (a:=a) (s:=s') hI' (by decide) (by decide) (fun _ _=>?_))))
    all_goals(refine aC ?_;exact aB (hK _ _))
 ·rw[ho,if_pos rfl,if_pos rfl] at hK
  refine aH Tryz.func29 ?_
  repeat' (first|refine Lc ?_|refine w5 ?_ ?_|((refine bh fun h=>?_) <;> try exact w6 h)|(refine aE fun hA=>?_;subst hA)|intro _|(show aA _ 104 _ _ _;refine CA (h:=cE (x:=x) (a:=a) (s:=s) (M:=M) (mc:=mc) (R:=R) ?_);rw[ho,if_pos rfl]))
  all_goals(refine aC ?_;exact aB (hK _ _))
section
variable {y:Ys}
theorem sH (h:cG s id=0):s.dr.ov=false/\∃m,bY id s.l=some m:=by
 unfold cG at h
 cases ho:s.dr.ov
 ·refine⟨rfl,?_⟩
  rw[ho,if_neg Bool.false_ne_true] at h
  cases hm:bY id s.l with
  |some m=>exact⟨m,rfl⟩
  |none=>
   rw[hm] at h
   dsimp only at h
   split at h <;> cases h
 ·rw[ho,if_pos rfl] at h;cases h
theorem Yl (hb:0<=s.now/\s.now<=1000000000) (hK:K (I6 (s.now+1)) (cB x a (pI s) M mc R)):CT 57 #[PO x] (cB x a s M mc R) K:=by
 dsimp only[cB,rI,pI] at hK ⊢
 refine aH Tryz.func57 ?_
 repeat' (first|refine HA ?_|refine w5 ?_ ?_|((refine bh fun h=>?_) <;> try exact w6 h)|(refine aE fun hA=>?_;subst hA)|intro _)
 all_goals(refine aC ?_;exact aB (hK))
theorem Cu:(Bz m d).id=m.id:=by unfold Bz;split <;> rfl
theorem CJ:(Bm m).id=m.id:=by unfold Bm;split <;> rfl
theorem Uk (hI:bO B s) (hd:d.size<=100000000) (hK:K (.tuple #[I6 (BE id d s).1,I6 (BE id d s).2]) (cB x a (oW id d s) none 0 R)):CT 53 #[PO x,I6 id,.string d] (cB x a s M mc R) K:=by
 have hbb:=hI.bb
 unfold BE oW at hK
 by_cases hf:cG s id=0
 ·obtain⟨ho,m,hm⟩:=sH hf
  obtain⟨hi,hmid⟩:=aX hm
  have hac:=(hI.st m (List.mem_of_getElem? hi)).ac
  simp only[if_neg (fun q=>q hf:¬cG s id≠0)] at hK
  rw[hm] at hK
  dsimp only at hK
  rw[eO (id:=id) (Cu.trans hmid)] at hK
  refine aH Tryz.func53 ?_
  repeat' (first|refine v2 ?_|refine w5 ?_ ?_|((refine bh fun h=>?_) <;> try exact w6 h)|(refine aE fun hA=>?_;subst hA)|intro _|(show aA _ 141 _ _ _;refine CA (h:=f8 (x:=x) (a:=a) (s:=s) (M:=M) (mc:=mc) (R:=R) hI ho hm (fun _=>?_)))|(show aA _ 142 _ _ _;refine CA (h:=Aad (m:=m) (by omega) (by omega) ?_)))
  all_goals(refine aC ?_;exact aK (aG.trans (by exact aZ) ((nA (x:=x) (a:=a) (s:=aD s) (M:=none) (mc:=0) (R:=R) (m':=Bz m d) hi Cu))) (hK))
 ·simp only[if_pos hf] at hK
  refine aH Tryz.func53 ?_
  repeat' (first|(show Br _ _ _;refine Br.t (by first|(simp <;> done)|simpa using hf) ?_)|refine v2 ?_|refine w5 ?_ ?_|((refine bh fun h=>?_) <;> try exact w6 h)|(refine aE fun hA=>?_;subst hA)|intro _|(show aA _ 141 _ _ _;refine CA (h:=pC (x:=x) (a:=a) (s:=s) (M:=M) (mc:=mc) (R:=R) hI hf ?_)))
  all_goals(refine aC ?_;exact aB (hK))
theorem Aa2 (hI:bO B s) (hK:K (I6 (Tk id s)) (cB x a (Ax id s) none 0 R)):CT 151 #[PO x,I6 id] (cB x a s M mc R) K:=by
 unfold Tk Ax at hK
 by_cases hf:cG s id=0
 ·obtain⟨ho,m,hm⟩:=sH hf
  obtain⟨hi,hmid⟩:=aX hm
  simp only[if_neg (fun q=>q hf:¬cG s id≠0)] at hK
  rw[hm] at hK
  dsimp only at hK
  rw[eO (id:=id) (CJ.trans hmid)] at hK
  refine aH Tryz.func151 ?_
  repeat' (first|refine v2 ?_|refine w5 ?_ ?_|((refine bh fun h=>?_) <;> try exact w6 h)|(refine aE fun hA=>?_;subst hA)|intro _|(show aA _ 141 _ _ _;refine CA (h:=f8 (x:=x) (a:=a) (s:=s) (M:=M) (mc:=mc) (R:=R) hI ho hm (fun _=>?_)))|(show aA _ 246 _ _ _;refine CA (h:=Afe (m:=m) ?_)))
  all_goals(refine aC ?_;exact aK (aG.trans (by exact aZ) ((nA (x:=x) (a:=a) (s:=aD s) (M:=none) (mc:=0) (R:=R) (m':=Bm m) hi CJ))) (hK))
 ·simp only[if_pos hf] at hK
  refine aH Tryz.func151 ?_
  repeat' (first|(show Br _ _ _;refine Br.t (by first|(simp <;> done)|simpa using hf) ?_)|refine v2 ?_|refine w5 ?_ ?_|((refine bh fun h=>?_) <;> try exact w6 h)|(refine aE fun hA=>?_;subst hA)|intro _|(show aA _ 141 _ _ _;refine CA (h:=pC (x:=x) (a:=a) (s:=s) (M:=M) (mc:=mc) (R:=R) hI hf ?_)))
  all_goals(refine aC ?_;exact aB (hK))
theorem Acn:lO (Hy y n)=lO y:=by cases y <;> rfl
theorem Adj (hI:bO B s) (hK:K (I6 (Uj id n s)) (cB x a (Ar id n s) none 0 R)):CT 153 #[PO x,I6 id,I6 n] (cB x a s M mc R) K:=by
 unfold Uj Ar at hK
 by_cases hf:cG s id=0
 ·obtain⟨ho,m,hm⟩:=sH hf
  obtain⟨hi,hmid⟩:=aX hm
  simp only[if_neg (fun q=>q hf:¬cG s id≠0)] at hK
  rw[hm] at hK
  dsimp only at hK
  rw[eO (id:=id) (show({ m with y:=Hy m.y n }:Sm).id=id from hmid)] at hK
  refine aH Tryz.func153 ?_
  repeat' (first|refine v2 ?_|refine w5 ?_ ?_|((refine bh fun h=>?_) <;> try exact w6 h)|(refine aE fun hA=>?_;subst hA)|intro _|(show aA _ 141 _ _ _;refine CA (h:=f8 (x:=x) (a:=a) (s:=s) (M:=M) (mc:=mc) (R:=R) hI ho hm (fun _=>?_)))|(show aA _ 63 _ _ _;refine CA (h:=sR (m:=m) (fun _=>?_)))|(show aA _ 248 _ _ _;refine CA (h:=Ah8 (y:=m.y) ?_)))
  all_goals(refine aC ?_;exact aK (aG.trans (by exact aZ) ((aG.trans (nX Acn) (nA (x:=x) (a:=a) (s:=aD s) (M:=none) (mc:=0) (R:=R) (m':= { m with y:=Hy m.y n }) hi rfl)))) (hK))
 ·simp only[if_pos hf] at hK
  refine aH Tryz.func153 ?_
  repeat' (first|(show Br _ _ _;refine Br.t (by first|(simp <;> done)|simpa using hf) ?_)|refine v2 ?_|refine w5 ?_ ?_|((refine bh fun h=>?_) <;> try exact w6 h)|(refine aE fun hA=>?_;subst hA)|intro _|(show aA _ 141 _ _ _;refine CA (h:=pC (x:=x) (a:=a) (s:=s) (M:=M) (mc:=mc) (R:=R) hI hf ?_)))
  all_goals(refine aC ?_;exact aB (hK))
end
section
variable {y:Ys}
theorem bI (h:bO B s):bO B (aD s):=
 { h with
   mv:=by
    have h1:=h.mv
    show(([]:List Mv).length:Int)+s.l.length<=B
    simp only[List.length_nil];omega }
theorem Amc:lO (FL y n)=lO y:=by cases y <;> rfl
theorem Al3:lO (Ga y)=lO y:=by
 cases y with
 |b y=>rfl
 |i y=>unfold Ga;dsimp only;split <;> rfl
theorem SU (h:GH B m):GH B { m with y:=FL m.y n }:=by
 obtain⟨h1,h2,h3,h4⟩:=h
 refine⟨h1,h2,?_,?_⟩
 ·cases hy:m.y <;> (rw[hy] at h3;exact h3)
 ·cases hy:m.y with
  |b z=>rw[hy] at h4;simp only[FL,iQ,List.length_drop] at h4 ⊢;omega
  |i z=>rw[hy] at h4;exact h4
theorem UW (h:GH B m):GH B { m with y:=Ga m.y }:=by
 obtain⟨h1,h2,h3,h4⟩:=h
 cases hy:m.y with
 |b z=>rw[hy] at h3 h4;exact⟨h1,h2,h3,h4⟩
 |i z=>
  rw[hy] at h3 h4
  cases hl:z.l with
  |nil=>
   have e:Ga (.i z)=.i z:=by simp only[Ga,hl]
   rw[e];exact⟨h1,h2,h3,h4⟩
  |cons q r=>
   have e:Ga (.i z)=.i { z with l:=r,tk:=z.tk+1 }:=by simp only[Ga,hl]
   rw[e]
   refine⟨h1,h2,h3,?_⟩
   simp only[iQ,hl,List.length_cons] at h4 ⊢
   omega
theorem Aia {y:Ys} (h:(iQ y:Int)<=B):(((CX y n).size:Nat):Int)<=max B 0:=by
 cases y with
 |b z=>
  have:(CX (.b z) n).size=min (MH z n) z.bs.length:=by
   show((z.bs.take (MH z n)).toArray).size=_
   simp
  simp only[iQ] at h
  omega
 |i z=>show((0:Nat):Int)<=max B 0;omega
theorem YS (hI:bO B s) (hK:∀M mc,K (.tuple #[.string (xA id n s).1,.bool (xA id n s).2.1,I6 (xA id n s).2.2]) (cB x a (tV id n s) M mc R)):CT 54 #[PO x,I6 id,I6 n] (cB x a s M mc R) K:=by
 have hbb:=hI.bb
 have hrv:=hI.rv
 unfold JV at hrv
 unfold xA tV at hK
 by_cases hf:cG s id=0
 ·obtain⟨ho,m,hm⟩:=sH hf
  obtain⟨hi,hmid⟩:=aX hm
  have hIm:=hI.st m (List.mem_of_getElem? hi)
  have hsz:=Aia (n:=n) hIm.ln
  simp only[if_neg (fun q=>q hf:¬cG s id≠0)] at hK
  rw[hm] at hK
  dsimp only at hK
  by_cases hE:P8 m.y=0
  ·simp only[if_neg (fun q=>q hE:¬P8 m.y≠0)] at hK
   rw[eO (id:=id) (show({ m with y:=FL m.y n }:Sm).id=id from hmid)] at hK
   have hI2:bO B { ({ aD s with rv:=fL s.rv ((CX m.y n).size:Nat) }:Cn) with l:=s.l.set (cI id s.l) { m with y:=FL m.y n } }:=l7 (s:= { aD s with rv:=fL s.rv ((CX m.y n).size:Nat) }) (rG (bI hI)) hi rfl rfl (SU hIm)
   refine aH Tryz.func54 ?_
   repeat' (first|refine Ku ?_|refine w5 ?_ ?_|((refine bh fun h=>?_) <;> try exact w6 h)|(refine aE fun hA=>?_;subst hA)|intro _|(show aA _ 141 _ _ _;refine CA (h:=f8 (x:=x) (a:=a) (s:=s) (M:=M) (mc:=mc) (R:=R) hI ho hm (fun _=>?_)))|(show aA _ 63 _ _ _;first|refine CA (h:=sR (m:=m) (fun _=>?_))|refine CA (h:=aA.ent (nX Amc) (sR (m:= { m with y:=FL m.y n }) (fun _=>?_))))|(show aA _ 143 _ _ _;refine CA (h:=QS (y:=m.y) ?_);rw[hE])|(show aA _ 144 _ _ _;refine CA (h:=vF (y:=s.rv) (by omega) (by omega) (fun _=>?_)))|(show aA _ 145 _ _ _;refine CA (h:=Rb (y:=FL m.y n) ?_))|(show aA _ 146 _ _ _;refine CA (h:=aA.ent (nX (m:= { m with y:=FL m.y n }) (y:=FL m.y n) rfl) (lX (x:=x) (a:=a) (s:= { aD s with rv:=fL s.rv ((CX m.y n).size:Nat) }) (i:=cI id s.l) (m:=m) (M:=none) (mc:=0) (R:=R) (m':= { m with y:=FL m.y n }) hi rfl hI2 (mO hm rfl) (fun _ _=>?_)))))
   all_goals(refine aC ?_;exact aB (hK _ _))
  ·simp only[if_pos hE] at hK
   have hy:FL m.y n=m.y/\CX m.y n=⟨#[]⟩:=by cases hq:m.y with
    |b z=>rw[hq] at hE;exact absurd rfl hE
    |i z=>exact⟨rfl,rfl⟩
   refine aH Tryz.func54 ?_
   repeat' (first|(show Br _ _ _;refine Br.t (by first|(simp <;> done)|simpa using hE) ?_)|refine Ku ?_|refine w5 ?_ ?_|((refine bh fun h=>?_) <;> try exact w6 h)|(refine aE fun hA=>?_;subst hA)|intro _|(show aA _ 141 _ _ _;refine CA (h:=f8 (x:=x) (a:=a) (s:=s) (M:=M) (mc:=mc) (R:=R) hI ho hm (fun _=>?_)))|(show aA _ 63 _ _ _;refine CA (h:=sR (m:=m) (fun _=>?_)))|(show aA _ 143 _ _ _;refine CA (h:=QS (y:=m.y) ?_);rw[hy.1,hy.2]))
   all_goals(refine aC ?_;exact aK (aG.trans (by exact aZ) ((aG.trans (nX (m:=m) (y:=m.y) rfl) (eD (x:=x) (a:=a) (s:=aD s) (M:=none) (mc:=0) (R:=R) hi)))) (hK _ _))
 ·simp only[if_pos hf] at hK
  refine aH Tryz.func54 ?_
  repeat' (first|(show Br _ _ _;refine Br.t (by first|(simp <;> done)|simpa using hf) ?_)|refine Ku ?_|refine w5 ?_ ?_|((refine bh fun h=>?_) <;> try exact w6 h)|(refine aE fun hA=>?_;subst hA)|intro _|(show aA _ 141 _ _ _;refine CA (h:=pC (x:=x) (a:=a) (s:=s) (M:=M) (mc:=mc) (R:=R) hI hf ?_)))
  all_goals(refine aC ?_;exact aB (hK _ _))
end
section
variable {y:Ys}
theorem Z8 (hI:bO B s) (hK:∀M mc,K (.tuple #[.string (uJ id s).1,.bool (uJ id s).2.1,.bool (uJ id s).2.2.1,I6 (uJ id s).2.2.2]) (cB x a (tZ id s) M mc R)):CT 152 #[PO x,I6 id] (cB x a s M mc R) K:=by
 have hbb:=hI.bb
 unfold uJ tZ at hK
 by_cases hf:cG s id=0
 ·obtain⟨ho,m,hm⟩:=sH hf
  obtain⟨hi,hmid⟩:=aX hm
  have hIm:=hI.st m (List.mem_of_getElem? hi)
  simp only[if_neg (fun q=>q hf:¬cG s id≠0)] at hK
  rw[hm] at hK
  dsimp only at hK
  by_cases hE:YE m.y=0
  ·simp only[if_neg (fun q=>q hE:¬YE m.y≠0)] at hK
   rw[eO (id:=id) (show({ m with y:=Ga m.y }:Sm).id=id from hmid)] at hK
   have hI2:bO B { aD s with l:=s.l.set (cI id s.l) { m with y:=Ga m.y } }:=l7 (s:=aD s) (bI hI) hi rfl rfl (UW hIm)
   refine aH Tryz.func152 ?_
   repeat' (first|refine v2 ?_|refine w5 ?_ ?_|((refine bh fun h=>?_) <;> try exact w6 h)|(refine aE fun hA=>?_;subst hA)|intro _|(show aA _ 141 _ _ _;refine CA (h:=f8 (x:=x) (a:=a) (s:=s) (M:=M) (mc:=mc) (R:=R) hI ho hm (fun _=>?_)))|(show aA _ 63 _ _ _;first|refine CA (h:=sR (m:=m) (fun _=>?_))|refine CA (h:=aA.ent (nX Al3) (sR (m:= { m with y:=Ga m.y }) (fun _=>?_))))|(show aA _ 247 _ _ _;refine CA (h:=Rm (y:=m.y) ?_);rw[hE])|(show aA _ 145 _ _ _;refine CA (h:=Rb (y:=Ga m.y) ?_))|(show aA _ 146 _ _ _;refine CA (h:=aA.ent (nX (m:= { m with y:=Ga m.y }) (y:=Ga m.y) rfl) (lX (x:=x) (a:=a) (s:=aD s) (i:=cI id s.l) (m:=m) (M:=none) (mc:=0) (R:=R) (m':= { m with y:=Ga m.y }) hi rfl hI2 (mO hm rfl) (fun _ _=>?_)))))
   all_goals(refine aC ?_;exact aB (hK _ _))
  ·simp only[if_pos hE] at hK
   have hy:Ga m.y=m.y/\Aor m.y=⟨#[]⟩/\Afw m.y=false:=by cases hq:m.y with
    |b z=>exact⟨rfl,rfl,rfl⟩
    |i z=>rw[hq] at hE;exact absurd rfl hE
   refine aH Tryz.func152 ?_
   repeat' (first|(show Br _ _ _;refine Br.t (by first|(simp <;> done)|simpa using hE) ?_)|refine v2 ?_|refine w5 ?_ ?_|((refine bh fun h=>?_) <;> try exact w6 h)|(refine aE fun hA=>?_;subst hA)|intro _|(show aA _ 141 _ _ _;refine CA (h:=f8 (x:=x) (a:=a) (s:=s) (M:=M) (mc:=mc) (R:=R) hI ho hm (fun _=>?_)))|(show aA _ 63 _ _ _;refine CA (h:=sR (m:=m) (fun _=>?_)))|(show aA _ 247 _ _ _;refine CA (h:=Rm (y:=m.y) ?_);rw[hy.1,hy.2.1,hy.2.2]))
   all_goals(refine aC ?_;exact aK (aG.trans (by exact aZ) ((aG.trans (nX (m:=m) (y:=m.y) rfl) (eD (x:=x) (a:=a) (s:=aD s) (M:=none) (mc:=0) (R:=R) hi)))) (hK _ _))
 ·simp only[if_pos hf] at hK
  refine aH Tryz.func152 ?_
  repeat' (first|(show Br _ _ _;refine Br.t (by first|(simp <;> done)|simpa using hf) ?_)|refine v2 ?_|refine w5 ?_ ?_|((refine bh fun h=>?_) <;> try exact w6 h)|(refine aE fun hA=>?_;subst hA)|intro _|(show aA _ 141 _ _ _;refine CA (h:=pC (x:=x) (a:=a) (s:=s) (M:=M) (mc:=mc) (R:=R) hI hf ?_)))
  all_goals(refine aC ?_;exact aB (hK _ _))
theorem Jy {out:List Fm} (h:zB f out≠0):wK f out=out:=by unfold wK;rw[if_pos h]
def oU:List (Nat×Nat):= [(4,0),(5,0),(6,0),(7,0),(8,1),(0,1),(1,1),(2,1),(3,1),(9,0),(10,1),(11,0),(12,0)]
def oY:List (Nat×Nat):= [(4,0),(5,0),(6,0),(7,0),(8,1),(0,1),(1,1),(2,1),(3,1),(9,1),(10,0)]
theorem V6 (hI:bO B s) (hK:K (I6 (Abu s)) (cB x a (EK s) none 0 R)):CT 55 #[PO x] (cB x a s M mc R) K:=by
 unfold Abu EK at hK
 cases ho:s.dr.ov
 ·cases hs:s.dr.se
  ·by_cases hq:zB (zM s.la 0) s.out=0
   ·simp only[ho,hs,hq,Bool.false_eq_true,if_false,false_or,ne_eq,not_true_eq_false] at hK
    refine aH Tryz.func55 ?_
    repeat' (first|refine v46 ?_|refine dw oU ?_|refine dw oY ?_|refine w5 ?_ ?_|((refine bh fun h=>?_) <;> try exact w6 h)|(refine aE fun hA=>?_;subst hA)|intro _|(show aA _ 104 _ _ _;refine CA (h:=cE (x:=x) (a:=a) (s:=s) (M:=M) (mc:=mc) (R:=R) ?_);rw[ho,if_neg Bool.false_ne_true])|(show aA _ 147 _ _ _;refine CA (h:=Gr (d:=s.dr) ?_);rw[hs])|(show aA _ 148 _ _ _;refine CA (h:=DR (sd:=s.sd) (nx:=s.nx) (la:=s.la) ?_))|(show aA _ 100 _ _ _;refine CA (h:=kV (f:=zM s.la 0) hI.ou eN rfl (show(0:Nat)<1000000000000000 by decide) ?_);rw[hq])|(show aA _ 149 _ _ _;refine CA (h:=Af7 (d:=s.dr) ?_)))
    all_goals(refine aC ?_;exact aB (hK))
   ·simp only[ho,hs,hq,Bool.false_eq_true,if_false,false_or,ne_eq,not_false_eq_true,if_true] at hK
    have h9:=Jy hq
    refine aH Tryz.func55 ?_
    repeat' (first|(show Br _ _ _;refine Br.t (by first|(simp <;> done)|simpa using hq) ?_)|refine v46 ?_|refine dw oU ?_|refine dw oY ?_|refine w5 ?_ ?_|((refine bh fun h=>?_) <;> try exact w6 h)|(refine aE fun hA=>?_;subst hA)|intro _|(show aA _ 104 _ _ _;refine CA (h:=cE (x:=x) (a:=a) (s:=s) (M:=M) (mc:=mc) (R:=R) ?_);rw[ho,if_neg Bool.false_ne_true])|(show aA _ 147 _ _ _;refine CA (h:=Gr (d:=s.dr) ?_);rw[hs])|(show aA _ 148 _ _ _;refine CA (h:=DR (sd:=s.sd) (nx:=s.nx) (la:=s.la) ?_))|(show aA _ 100 _ _ _;refine CA (h:=kV (f:=zM s.la 0) hI.ou eN rfl (show(0:Nat)<1000000000000000 by decide) ?_);rw[h9]))
    all_goals(refine aC ?_;exact aB (hK))
  ·simp only[ho,hs,Bool.false_eq_true,if_false,if_true,true_or,or_true] at hK
   refine aH Tryz.func55 ?_
   repeat' (first|refine v46 ?_|refine dw oU ?_|refine dw oY ?_|refine w5 ?_ ?_|((refine bh fun h=>?_) <;> try exact w6 h)|(refine aE fun hA=>?_;subst hA)|intro _|(show aA _ 104 _ _ _;refine CA (h:=cE (x:=x) (a:=a) (s:=s) (M:=M) (mc:=mc) (R:=R) ?_);rw[ho,if_neg Bool.false_ne_true])|(show aA _ 147 _ _ _;refine CA (h:=Gr (d:=s.dr) ?_);rw[hs]))
   all_goals(refine aC ?_;exact aB (hK))
 ·simp only[ho,if_true,true_or] at hK
  refine aH Tryz.func55 ?_
  repeat' (first|refine v46 ?_|refine dw oU ?_|refine dw oY ?_|refine w5 ?_ ?_|((refine bh fun h=>?_) <;> try exact w6 h)|(refine aE fun hA=>?_;subst hA)|intro _|(show aA _ 104 _ _ _;refine CA (h:=cE (x:=x) (a:=a) (s:=s) (M:=M) (mc:=mc) (R:=R) ?_);rw[ho,if_pos rfl]))
  all_goals(refine aC ?_;exact aB (hK))
end
section
variable {y:Ys}
theorem sX (h:bO B s):bO B { s with out:=wK f s.out }:= { h with ou:=GK h.ou }
def kF:List (Nat×Nat):= [(0,0),(1,0),(2,0),(3,0),(4,0),(5,1),(6,0),(7,0)]
theorem Ux (hI:bO B s) (hK:∀M mc,K (I6 (kQ id n s)) (cB x a (nC id n s) M mc R)):CT 155 #[PO x,I6 id,I6 n] (cB x a s M mc R) K:=by
 unfold nC at hK
 by_cases hf:cG s id=0
 ·obtain⟨ho,m,hm⟩:=sH hf
  obtain⟨hi,hmid⟩:=aX hm
  cases hc:lM (fK id n)
  ·have hE:kQ id n s=2:=by unfold kQ;rw[if_neg (fun q=>q hf),if_pos hc]
   rw[hE,if_pos (by decide)] at hK
   refine aH Tryz.func155 ?_
   repeat' (first|refine Lc ?_|refine dw kF ?_|refine w5 ?_ ?_|((refine bh fun h=>?_) <;> try exact w6 h)|(refine aE fun hA=>?_;subst hA)|intro _|(show aA _ 141 _ _ _;refine CA (h:=f8 (x:=x) (a:=a) (s:=s) (M:=M) (mc:=mc) (R:=R) hI ho hm (fun _=>?_)))|(show aA _ 137 _ _ _;refine CA (h:=B3 (ps:= []) (show wN 4 id false ⟨#[]⟩ 0 0 0 false n 0 0 []=false from hc) eN rfl (show(0:Nat)<1000000000000000 by decide) ?_)))
   all_goals(refine aC ?_;exact aK (aG.trans (by exact aZ) ((eD (x:=x) (a:=a) (s:=aD s) (M:=none) (mc:=0) (R:=R) hi))) (hK _ _))
  ·by_cases hq:zB (fK id n) s.out=0
   ·have hE:kQ id n s=0:=by unfold kQ;rw[if_neg (fun q=>q hf),if_neg (by rw[hc];decide),if_neg (fun q=>q hq)]
    rw[hE,if_neg (by decide),hm] at hK
    refine aH Tryz.func155 ?_
    repeat' (first|refine Lc ?_|refine dw kF ?_|refine w5 ?_ ?_|((refine bh fun h=>?_) <;> try exact w6 h)|(refine aE fun hA=>?_;subst hA)|intro _|(show aA _ 141 _ _ _;refine CA (h:=f8 (x:=x) (a:=a) (s:=s) (M:=M) (mc:=mc) (R:=R) hI ho hm (fun _=>?_)))|(show aA _ 137 _ _ _;refine CA (h:=i5 (ps:= []) (show wN 4 id false ⟨#[]⟩ 0 0 0 false n 0 0 []=true from hc) eN rfl (show(0:Nat)<1000000000000000 by decide) ?_))|(show aA _ 100 _ _ _;refine CA (h:=kV (f:=fK id n) hI.ou eN rfl (show(0:Nat)<1000000000000000 by decide) ?_);rw[hq])|(show aA _ 250 _ _ _;refine CA (h:=Ch (x:=x) (a:=a) (s:= { aD s with out:=wK (fK id n) s.out }) (M:=none) (mc:=0) (R:=R) (m:=m) (sX (bI hI)) hm (.inl rfl) (fun _ _=>?_))))
    all_goals(refine aC ?_;exact aB (hK _ _))
   ·have hE:kQ id n s=9:=by unfold kQ;rw[if_neg (fun q=>q hf),if_neg (by rw[hc];decide),if_pos hq]
    rw[hE,if_pos (by decide)] at hK
    have h9:=Jy hq
    refine aH Tryz.func155 ?_
    repeat' (first|(show Br _ _ _;refine Br.t (by first|(simp <;> done)|simpa using hq) ?_)|refine Lc ?_|refine dw kF ?_|refine w5 ?_ ?_|((refine bh fun h=>?_) <;> try exact w6 h)|(refine aE fun hA=>?_;subst hA)|intro _|(show aA _ 141 _ _ _;refine CA (h:=f8 (x:=x) (a:=a) (s:=s) (M:=M) (mc:=mc) (R:=R) hI ho hm (fun _=>?_)))|(show aA _ 137 _ _ _;refine CA (h:=i5 (ps:= []) (show wN 4 id false ⟨#[]⟩ 0 0 0 false n 0 0 []=true from hc) eN rfl (show(0:Nat)<1000000000000000 by decide) ?_))|(show aA _ 100 _ _ _;refine CA (h:=kV (f:=fK id n) hI.ou eN rfl (show(0:Nat)<1000000000000000 by decide) ?_);rw[h9]))
    all_goals(refine aC ?_;exact aK (aG.trans (by exact aZ) ((eD (x:=x) (a:=a) (s:=aD s) (M:=none) (mc:=0) (R:=R) hi))) (hK _ _))
 ·have hE:kQ id n s=cG s id:=by unfold kQ;rw[if_pos hf]
  rw[hE,if_pos hf] at hK
  refine aH Tryz.func155 ?_
  repeat' (first|(show Br _ _ _;refine Br.t (by first|(simp <;> done)|simpa using hf) ?_)|refine Lc ?_|refine dw kF ?_|refine w5 ?_ ?_|((refine bh fun h=>?_) <;> try exact w6 h)|(refine aE fun hA=>?_;subst hA)|intro _|(show aA _ 141 _ _ _;refine CA (h:=pC (x:=x) (a:=a) (s:=s) (M:=M) (mc:=mc) (R:=R) hI hf ?_)))
  all_goals(refine aC ?_;exact aB (hK _ _))
def jB:List (Nat×Nat):= [(0,0),(1,0),(2,0),(3,0),(4,0),(5,1),(6,0),(7,0)]
def iU:List (Nat×Nat):= [(0,0),(1,0),(2,0),(3,0),(4,0),(5,0),(6,1),(7,0)]
theorem ZL (hI:bO B s) (hK:∀M mc,K (I6 (ND id on w xx s)) (cB x a (sI id on w xx s) M mc R)):CT 154 #[PO x,I6 id,.agg #[I6 on,I6 w,.bool xx]] (cB x a s M mc R) K:=by
 have htl:=hI.tr.len
 obtain⟨rk,hrk⟩:=hI.tr.rk
 unfold ND sI at hK
 by_cases hf:cG s id=0
 ·obtain⟨ho,m,hm⟩:=sH hf
  obtain⟨hi,hmid⟩:=aX hm
  rw[if_neg (fun q=>q hf)] at hK
  cases hc:lM (mP id on w xx)
  ·rw[if_pos hc,if_pos (.inr (.inl hc))] at hK
   refine aH Tryz.func154 ?_
   repeat' (first|refine KM ?_|refine dw jB ?_|refine dw iU ?_|refine w5 ?_ ?_|((refine bh fun h=>?_) <;> try exact w6 h)|(refine aE fun hA=>?_;subst hA)|intro _|(show aA _ 141 _ _ _;refine CA (h:=f8 (x:=x) (a:=a) (s:=s) (M:=M) (mc:=mc) hI ho hm (fun _=>?_)))|(show aA _ 137 _ _ _;refine CA (h:=B3 (ps:= []) (show wN 3 id false ⟨#[]⟩ 0 on w xx 0 0 0 []=false from hc) eN rfl (show(0:Nat)<1000000000000000 by decide) ?_)))
   all_goals(refine aC ?_;exact aK (aG.trans (by exact aZ) ((eD (x:=x) (a:=a) (s:=aD s) (M:=none) (mc:=0) (R:=R) hi))) (hK _ _))
  ·have hc0:¬lM (mP id on w xx)=false:=by rw[hc];decide
   rw[if_neg hc0] at hK
   by_cases h1:on=id
   ·rw[if_pos h1,if_pos (.inr (.inr (.inl h1)))] at hK
    refine aH Tryz.func154 ?_
    repeat' (first|refine KM ?_|refine dw jB ?_|refine dw iU ?_|refine w5 ?_ ?_|((refine bh fun h=>?_) <;> try exact w6 h)|(refine aE fun hA=>?_;subst hA)|intro _|(show aA _ 141 _ _ _;refine CA (h:=f8 (x:=x) (a:=a) (s:=s) (M:=M) (mc:=mc) hI ho hm (fun _=>?_)))|(show aA _ 137 _ _ _;refine CA (h:=i5 (ps:= []) (show wN 3 id false ⟨#[]⟩ 0 on w xx 0 0 0 []=true from hc) eN rfl (show(0:Nat)<1000000000000000 by decide) ?_)))
    all_goals(refine aC ?_;exact aK (aG.trans (by exact aZ) ((eD (x:=x) (a:=a) (s:=aD s) (M:=none) (mc:=0) (R:=R) hi))) (hK _ _))
   ·rw[if_neg h1] at hK
    by_cases hq:zB (mP id on w xx) s.out=0
    ·rw[if_neg (fun q=>q hq),if_neg (fun q=>q.elim (fun q=>q hf) (fun q=>q.elim hc0 (fun q=>q.elim h1 (fun q=>q hq))))] at hK
     refine aH Tryz.func154 ?_
     repeat' (first|refine KM ?_|refine dw jB ?_|refine dw iU ?_|refine w5 ?_ ?_|((refine bh fun h=>?_) <;> try exact w6 h)|(refine aE fun hA=>?_;subst hA)|intro _|(show aA _ 141 _ _ _;refine CA (h:=f8 (x:=x) (a:=a) (s:=s) (M:=M) (mc:=mc) hI ho hm (fun _=>?_)))|(show aA _ 137 _ _ _;refine CA (h:=i5 (ps:= []) (show wN 3 id false ⟨#[]⟩ 0 on w xx 0 0 0 []=true from hc) eN rfl (show(0:Nat)<1000000000000000 by decide) ?_))|(show aA _ 100 _ _ _;refine CA (h:=kV (f:=mP id on w xx) hI.ou eN rfl (show(0:Nat)<1000000000000000 by decide) ?_);rw[hq])|(show aA _ 249 _ _ _;refine CA (h:=Mn (s:=s.tr) hI.tr.kok (by omega) hrk ?_)))
     all_goals(refine aC ?_;exact aK (aG.trans (by exact aZ) ((eD (x:=x) (a:=a) (s:= { aD s with out:=wK (mP id on w xx) s.out,tr:=lC id on w xx s.tr }) (M:=none) (mc:=0) (R:=R) hi))) (hK _ _))
    ·rw[if_pos hq,if_pos (.inr (.inr (.inr hq)))] at hK
     have h9:=Jy hq
     refine aH Tryz.func154 ?_
     repeat' (first|(show Br _ _ _;refine Br.t (by first|(simp <;> done)|simpa using hq) ?_)|refine KM ?_|refine dw jB ?_|refine dw iU ?_|refine w5 ?_ ?_|((refine bh fun h=>?_) <;> try exact w6 h)|(refine aE fun hA=>?_;subst hA)|intro _|(show aA _ 141 _ _ _;refine CA (h:=f8 (x:=x) (a:=a) (s:=s) (M:=M) (mc:=mc) hI ho hm (fun _=>?_)))|(show aA _ 137 _ _ _;refine CA (h:=i5 (ps:= []) (show wN 3 id false ⟨#[]⟩ 0 on w xx 0 0 0 []=true from hc) eN rfl (show(0:Nat)<1000000000000000 by decide) ?_))|(show aA _ 100 _ _ _;refine CA (h:=kV (f:=mP id on w xx) hI.ou eN rfl (show(0:Nat)<1000000000000000 by decide) ?_);rw[h9]))
     all_goals(refine aC ?_;exact aK (aG.trans (by exact aZ) ((eD (x:=x) (a:=a) (s:=aD s) (M:=none) (mc:=0) (R:=R) hi))) (hK _ _))
 ·rw[if_pos hf,if_pos (.inl hf)] at hK
  refine aH Tryz.func154 ?_
  repeat' (first|(show Br _ _ _;refine Br.t (by first|(simp <;> done)|simpa using hf) ?_)|refine KM ?_|refine dw jB ?_|refine dw iU ?_|refine w5 ?_ ?_|((refine bh fun h=>?_) <;> try exact w6 h)|(refine aE fun hA=>?_;subst hA)|intro _|(show aA _ 141 _ _ _;refine CA (h:=pC (x:=x) (a:=a) (s:=s) (M:=M) (mc:=mc) (R:=R) hI hf ?_)))
  all_goals(refine aC ?_;exact aB (hK _ _))
end
section
variable {y:Ys} {t:dZ}
theorem Km {i u v:Int} {l:List Pr}:(Kw i u v l).length<=l.length+1:=by
 unfold Kw
 split <;> simp
theorem OU {u v:dZ}:(Ds u v).length<=3:=by
 unfold Ds
 have h1:=Km (i:=1) (u:=u.w) (v:=v.w) (l:= [])
 have h2:=Km (i:=2) (u:=u.st) (v:=v.st) (l:=Kw 1 u.w v.w [])
 have h3:=Km (i:=3) (u:=u.it) (v:=v.it) (l:=Kw 2 u.st v.st (Kw 1 u.w v.w []))
 simp only[List.length_nil] at h1
 omega
def mZ:List (Nat×Nat):= [(0,0),(1,0),(2,0),(3,0),(4,0),(5,1),(6,0),(7,0),(8,0),(9,0),(10,0)]
theorem PG (hI:bO B s) (hK:K (I6 (TM t s)) (cB x a (wO t s) none 0 R)):CT 56 #[PO x,.agg #[I6 t.w,I6 t.st,I6 t.it]] (cB x a s M mc R) K:=by
 have h64:=hI.ou.1
 unfold TM wO at hK
 cases ho:s.dr.ov
 ·by_cases h1:64<=s.out.length
  ·simp only[ho,h1,Bool.false_eq_true,if_false,if_true,false_or,true_or] at hK
   refine aH Tryz.func56 ?_
   repeat' (first|refine v46 ?_|refine dw mZ ?_|refine w5 ?_ ?_|((refine bh fun h=>?_) <;> try exact w6 h)|(refine aE fun hA=>?_;subst hA)|intro _|(show aA _ 104 _ _ _;refine CA (h:=cE (x:=x) (a:=a) (s:=s) (M:=M) (mc:=mc) ?_);rw[ho,if_neg Bool.false_ne_true])|(show aA _ 138 _ _ _;refine CA (h:=x7 (out:=s.out) hI.ou ?_)))
   all_goals(refine aC ?_;exact aB (hK))
  ·by_cases hs:g8 s.sh t=0
   ·simp only[ho,h1,hs,Bool.false_eq_true,if_false,false_or,ne_eq,not_true_eq_false] at hK
    have hlen:=OU (u:=mK s.sh) (v:=t)
    refine aH Tryz.func56 ?_
    repeat' (first|refine v46 ?_|refine dw mZ ?_|refine w5 ?_ ?_|((refine bh fun h=>?_) <;> try exact w6 h)|(refine aE fun hA=>?_;subst hA)|intro _|(show aA _ 104 _ _ _;refine CA (h:=cE (x:=x) (a:=a) (s:=s) (M:=M) (mc:=mc) ?_);rw[ho,if_neg Bool.false_ne_true])|(show aA _ 138 _ _ _;refine CA (h:=x7 (out:=s.out) hI.ou ?_))|(show aA _ 99 _ _ _;refine CA (h:=Gd (s:=s.sh) (t:=t) hI.sh.1 (fun Aq cq=>?_));rw[hs];simp only[if_true])|(show aA _ 100 _ _ _;refine CA (h:=kV (out:=s.out) (f:=⟨5,0,false,⟨#[]⟩,0,0,0,false,0,0,0,Aq,(Ds (mK s.sh) t).length,cq,Ds (mK s.sh) t⟩) hI.ou (by exact lF) rfl (by show(Ds (mK s.sh) t).length<1000000000000000;omega) ?_)))
    all_goals(refine aC ?_;exact aB (hK))
   ·simp only[ho,h1,hs,Bool.false_eq_true,if_false,if_true,false_or,ne_eq,not_false_eq_true] at hK
    have hsm:eB s.sh t=s.sh:=by unfold eB;rw[if_neg hs]
    refine aH Tryz.func56 ?_
    repeat' (first|(show Br _ _ _;refine Br.t (by first|(simp <;> done)|simpa using hs) ?_)|refine v46 ?_|refine dw mZ ?_|refine w5 ?_ ?_|((refine bh fun h=>?_) <;> try exact w6 h)|(refine aE fun hA=>?_;subst hA)|intro _|(show aA _ 104 _ _ _;refine CA (h:=cE (x:=x) (a:=a) (s:=s) (M:=M) (mc:=mc) ?_);rw[ho,if_neg Bool.false_ne_true])|(show aA _ 138 _ _ _;refine CA (h:=x7 (out:=s.out) hI.ou ?_))|(show aA _ 99 _ _ _;refine CA (h:=Gd (s:=s.sh) (t:=t) hI.sh.1 (fun Aq cq=>?_));rw[hsm]))
    all_goals(refine aC ?_;exact aB (hK))
 ·simp only[ho,if_true,true_or] at hK
  refine aH Tryz.func56 ?_
  repeat' (first|refine v46 ?_|refine dw mZ ?_|refine w5 ?_ ?_|((refine bh fun h=>?_) <;> try exact w6 h)|(refine aE fun hA=>?_;subst hA)|intro _|(show aA _ 104 _ _ _;refine CA (h:=cE (x:=x) (a:=a) (s:=s) (M:=M) (mc:=mc) ?_);rw[ho,if_pos rfl]))
  all_goals(refine aC ?_;exact aB (hK))
end
theorem VL (h:bO B s) (hn:s.nx<=2147483647):PI s.sd s.nx=true:=by
 have h1:=h.nx
 have h2:=h.sd
 unfold PI
 simp only[Bool.and_eq_true,decide_eq_true_eq,beq_iff_eq,decide_eq_decide]
 refine⟨by omega,h1.2.2⟩
theorem GN (h:bO B s) (hn:s.nx<=2147483647):bY s.nx s.l=none:=by
 cases hm:bY s.nx s.l with
 |none=>rfl
 |some m=>
  obtain⟨hi,hid⟩:=aX hm
  have h4:=h.ids m (List.mem_of_getElem? hi)
  rw[hid] at h4
  unfold gF at h4
  rw[VL h hn] at h4
  simp only[Bool.and_eq_true,decide_eq_true_eq,if_true] at h4
  omega
theorem NR (h:bO B s) (ho:fW s true<32):s.l.length<64:=by
 have h2:=h.own false
 have h3:=Nf s.l
 unfold fW at *
 omega
theorem IS (h:bO B s) (hn:s.nx<=2147483647):bO B { s with nx:=s.nx+2 }:=
 { h with
   nx:=by
    have:=h.nx
    show 1<=s.nx+2/\s.nx+2<=2147483649/\((s.nx+2) % 2=1↔s.sd=0)
    omega
   ids:=fun z hz=>by
    have h1:=h.ids z hz
    show gF s.sd (s.nx+2) s.la z.id=true
    unfold gF at h1 ⊢
    simp only[Bool.and_eq_true,decide_eq_true_eq] at h1 ⊢
    refine⟨h1.1,?_⟩
    have h3:=h1.2
    split at h3
    ·rename_i hq;rw[if_pos hq];simp only[decide_eq_true_eq] at h3 ⊢;omega
    ·rename_i hq;rw[if_neg hq];exact h3 }
theorem Ea (h:mE kind sg on w xx s=0):s.dr.ov=false/\(kind=1\/kind=2)/\(0<=sg/\sg<=2)/\L5 s.dr=true/\s.nx<=2147483647/\(fW s true:Nat)<min s.pe.st 32/\lM (lK s.nx kind on w xx)=true/\on≠s.nx/\s.out.length<64:=by
 unfold mE at h
 repeat' split at h
 all_goals first|(exfalso;revert h;decide)|skip
 rename_i h1 h2 h3 h4 h5 h6 h7 h8
 refine⟨by cases hq:s.dr.ov <;> first|rfl|exact absurd hq h1,by omega,by omega,by cases hq:L5 s.dr <;> first|rfl|exact absurd hq h4,by omega,by omega,by cases hq:lM (lK s.nx kind on w xx) <;> first|rfl|exact absurd hq h6,h7,by omega⟩
def CO:List (Nat×Nat):= [(0,0),(1,0),(2,0),(3,0),(4,1),(5,1),(6,1),(7,1),(8,1),(9,1),(10,1),(11,0),(12,0),(13,0)]
def CU:List (Nat×Nat):= [(0,0),(1,0),(2,0),(3,0),(4,0),(5,1)]
theorem Tm (hI:bO B s) (hE:mE kind sg on w xx s=0) (hK:K (.tuple #[I6 (s.nx+2 - 2),I6 0]) (cB x a (mM kind sg on w xx s) none 0 R)):CT 52 #[PO x,I6 kind,I6 sg,.agg #[I6 on,I6 w,.bool xx]] (cB x a s M mc R) K:=by
 obtain⟨e1,e2,e3,e4,e5,e6,e7,e8,e9⟩:=Ea hE
 have hnx:=hI.nx
 unfold mM at hK
 rw[if_neg (fun q=>q hE)] at hK
 have hown:fW (aD s) true=fW s true:=rfl
 have hI1:=IS (sX (f:=lK s.nx kind on w xx) (bI hI)) e5
 have hpe:(aD s).pe.st=s.pe.st:=rfl
 have q1:=GN hI e5
 have q2:=NR hI (by omega)
 have hnn:s.nx+2 - 2=s.nx:=by omega
 rw[hnn] at hK
 refine aH Tryz.func52 ?_
 repeat' (first|refine HN ?_|refine dw CO ?_|refine dw CU ?_|refine w5 ?_ ?_|((refine bh fun h=>?_) <;> try exact w6 h)|(refine aE fun hA=>?_;subst hA)|intro _|(show aA _ 104 _ _ _;refine CA (h:=cE (x:=x) (a:=a) (s:=s) (M:=M) (mc:=mc) ?_);rw[e1,if_neg Bool.false_ne_true])|(show aA _ 135 _ _ _;refine CA (h:=mX (sd:=s.sd) (nx:=s.nx) (la:=s.la) ?_))|(show aA _ 136 _ _ _;refine CA (h:=Cb (d:=s.dr) ?_);rw[e4])|(show aA _ 61 _ _ _;refine CA (h:=s9 (x:=x) (a:=a) (s:=aD s) (M:=none) (mc:=0) (bI hI) ?_);rw[hown])|(show aA _ 137 _ _ _;refine CA (h:=i5 (ps:= []) (show wN 2 s.nx false ⟨#[]⟩ kind on w xx 0 0 0 []=true from e7) eN rfl (show(0:Nat)<1000000000000000 by decide) ?_))|(show aA _ 138 _ _ _;refine CA (h:=x7 (out:=s.out) hI.ou ?_))|(show aA _ 139 _ _ _;refine CA (h:=YA (sd:=s.sd) (nx:=s.nx) (la:=s.la) e5 (by omega) ?_))|(show aA _ 100 _ _ _;refine CA (h:=kV (out:=s.out) (f:=lK s.nx kind on w xx) hI.ou eN rfl (show(0:Nat)<1000000000000000 by decide) ?_))|(show aA _ 140 _ _ _;refine CA (h:=SA (x:=x) (a:=a) (s:= { aD s with nx:=s.nx+2,out:=wK (lK s.nx kind on w xx) s.out }) (M:=none) (mc:=0) (id:=s.nx) hI1 e2 e3 q1 q2 ⟨by omega,e5⟩ ?_)))
 all_goals(refine aC ?_;exact aB (hK))
def d6:List (Nat×Nat):= [(0,0),(1,0),(2,0),(3,0),(4,1),(5,1),(6,1),(7,1),(8,1),(9,1),(10,1),(11,0),(12,0),(13,0)]
def d8:List (Nat×Nat):= [(0,0),(1,0),(2,0),(3,0),(4,0),(5,1)]
theorem SX (hI:bO B s) (hE:mE kind sg on w xx s≠0) (hK:K (.tuple #[I6 0,I6 (mE kind sg on w xx s)]) (cB x a (aD s) none 0 R)):CT 52 #[PO x,I6 kind,I6 sg,.agg #[I6 on,I6 w,.bool xx]] (cB x a s M mc R) K:=by
 have hnx:=hI.nx
 have hown:fW (aD s) true=fW s true:=rfl
 have hpe:(aD s).pe.st=s.pe.st:=rfl
 have h64:=hI.ou.1
 unfold mE at hE hK
 cases c1:s.dr.ov
 ·rw[c1,if_neg Bool.false_ne_true] at hE hK
  by_cases c2:kind≠1/\kind≠2
  ·rw[if_pos c2] at hK
   refine aH Tryz.func52 ?_
   repeat' (first|refine HN ?_|refine dw d6 ?_|refine dw d8 ?_|refine w5 ?_ ?_|((refine bh fun h=>?_) <;> try exact w6 h)|(refine aE fun hA=>?_;subst hA)|intro _|(show aA _ 104 _ _ _;refine CA (h:=cE (x:=x) (a:=a) (s:=s) (M:=M) (mc:=mc) ?_);rw[c1,if_neg Bool.false_ne_true])|(show aA _ 135 _ _ _;refine CA (h:=mX (sd:=s.sd) (nx:=s.nx) (la:=s.la) ?_)))
   all_goals(refine aC ?_;exact aB (hK))
  ·rw[if_neg c2] at hE hK
   by_cases c3:sg<0\/2<sg
   ·rw[if_pos c3] at hK
    refine aH Tryz.func52 ?_
    repeat' (first|refine HN ?_|refine dw d6 ?_|refine dw d8 ?_|refine w5 ?_ ?_|((refine bh fun h=>?_) <;> try exact w6 h)|(refine aE fun hA=>?_;subst hA)|intro _|(show aA _ 104 _ _ _;refine CA (h:=cE (x:=x) (a:=a) (s:=s) (M:=M) (mc:=mc) ?_);rw[c1,if_neg Bool.false_ne_true])|(show aA _ 135 _ _ _;refine CA (h:=mX (sd:=s.sd) (nx:=s.nx) (la:=s.la) ?_)))
    all_goals(refine aC ?_;exact aB (hK))
   ·rw[if_neg c3] at hE hK
    cases c4:L5 s.dr
    ·rw[if_pos c4] at hK
     refine aH Tryz.func52 ?_
     repeat' (first|refine HN ?_|refine dw d6 ?_|refine dw d8 ?_|refine w5 ?_ ?_|((refine bh fun h=>?_) <;> try exact w6 h)|(refine aE fun hA=>?_;subst hA)|intro _|(show aA _ 104 _ _ _;refine CA (h:=cE (x:=x) (a:=a) (s:=s) (M:=M) (mc:=mc) ?_);rw[c1,if_neg Bool.false_ne_true])|(show aA _ 135 _ _ _;refine CA (h:=mX (sd:=s.sd) (nx:=s.nx) (la:=s.la) ?_))|(show aA _ 136 _ _ _;refine CA (h:=Cb (d:=s.dr) ?_);rw[c4]))
     all_goals(refine aC ?_;exact aB (hK))
    ·rw[if_neg (by rw[c4];decide)] at hE hK
     by_cases c5:2147483647<s.nx\/min s.pe.st 32<=(fW s true:Nat)
     ·rw[if_pos c5] at hK
      refine aH Tryz.func52 ?_
      repeat' (first|refine HN ?_|refine dw d6 ?_|refine dw d8 ?_|refine w5 ?_ ?_|((refine bh fun h=>?_) <;> try exact w6 h)|(refine aE fun hA=>?_;subst hA)|intro _|(show aA _ 104 _ _ _;refine CA (h:=cE (x:=x) (a:=a) (s:=s) (M:=M) (mc:=mc) ?_);rw[c1,if_neg Bool.false_ne_true])|(show aA _ 135 _ _ _;refine CA (h:=mX (sd:=s.sd) (nx:=s.nx) (la:=s.la) ?_))|(show aA _ 136 _ _ _;refine CA (h:=Cb (d:=s.dr) ?_);rw[c4])|(show aA _ 61 _ _ _;refine CA (h:=s9 (x:=x) (a:=a) (s:=aD s) (M:=none) (mc:=0) (bI hI) ?_);rw[hown]))
      all_goals(refine aC ?_;exact aB (hK))
     ·rw[if_neg c5] at hE hK
      cases c6:lM (lK s.nx kind on w xx)
      ·rw[if_pos c6] at hK
       refine aH Tryz.func52 ?_
       repeat' (first|refine HN ?_|refine dw d6 ?_|refine dw d8 ?_|refine w5 ?_ ?_|((refine bh fun h=>?_) <;> try exact w6 h)|(refine aE fun hA=>?_;subst hA)|intro _|(show aA _ 104 _ _ _;refine CA (h:=cE (x:=x) (a:=a) (s:=s) (M:=M) (mc:=mc) ?_);rw[c1,if_neg Bool.false_ne_true])|(show aA _ 135 _ _ _;refine CA (h:=mX (sd:=s.sd) (nx:=s.nx) (la:=s.la) ?_))|(show aA _ 136 _ _ _;refine CA (h:=Cb (d:=s.dr) ?_);rw[c4])|(show aA _ 61 _ _ _;refine CA (h:=s9 (x:=x) (a:=a) (s:=aD s) (M:=none) (mc:=0) (bI hI) ?_);rw[hown])|(show aA _ 137 _ _ _;refine CA (h:=B3 (ps:= []) (show wN 2 s.nx false ⟨#[]⟩ kind on w xx 0 0 0 []=false from c6) eN rfl (show(0:Nat)<1000000000000000 by decide) ?_)))
       all_goals(refine aC ?_;exact aB (hK))
      ·rw[if_neg (by rw[c6];decide)] at hE hK
       by_cases c7:on=s.nx
       ·rw[if_pos c7] at hK
        refine aH Tryz.func52 ?_
        repeat' (first|refine HN ?_|refine dw d6 ?_|refine dw d8 ?_|refine w5 ?_ ?_|((refine bh fun h=>?_) <;> try exact w6 h)|(refine aE fun hA=>?_;subst hA)|intro _|(show aA _ 104 _ _ _;refine CA (h:=cE (x:=x) (a:=a) (s:=s) (M:=M) (mc:=mc) ?_);rw[c1,if_neg Bool.false_ne_true])|(show aA _ 135 _ _ _;refine CA (h:=mX (sd:=s.sd) (nx:=s.nx) (la:=s.la) ?_))|(show aA _ 136 _ _ _;refine CA (h:=Cb (d:=s.dr) ?_);rw[c4])|(show aA _ 61 _ _ _;refine CA (h:=s9 (x:=x) (a:=a) (s:=aD s) (M:=none) (mc:=0) (bI hI) ?_);rw[hown])|(show aA _ 137 _ _ _;refine CA (h:=i5 (ps:= []) (show wN 2 s.nx false ⟨#[]⟩ kind on w xx 0 0 0 []=true from c6) eN rfl (show(0:Nat)<1000000000000000 by decide) ?_)))
        all_goals(refine aC ?_;exact aB (hK))
       ·rw[if_neg c7] at hE hK
        by_cases c8:64<=s.out.length
        ·rw[if_pos c8] at hK
         refine aH Tryz.func52 ?_
         repeat' (first|refine HN ?_|refine dw d6 ?_|refine dw d8 ?_|refine w5 ?_ ?_|((refine bh fun h=>?_) <;> try exact w6 h)|(refine aE fun hA=>?_;subst hA)|intro _|(show aA _ 104 _ _ _;refine CA (h:=cE (x:=x) (a:=a) (s:=s) (M:=M) (mc:=mc) ?_);rw[c1,if_neg Bool.false_ne_true])|(show aA _ 135 _ _ _;refine CA (h:=mX (sd:=s.sd) (nx:=s.nx) (la:=s.la) ?_))|(show aA _ 136 _ _ _;refine CA (h:=Cb (d:=s.dr) ?_);rw[c4])|(show aA _ 61 _ _ _;refine CA (h:=s9 (x:=x) (a:=a) (s:=aD s) (M:=none) (mc:=0) (bI hI) ?_);rw[hown])|(show aA _ 137 _ _ _;refine CA (h:=i5 (ps:= []) (show wN 2 s.nx false ⟨#[]⟩ kind on w xx 0 0 0 []=true from c6) eN rfl (show(0:Nat)<1000000000000000 by decide) ?_))|(show aA _ 138 _ _ _;refine CA (h:=x7 (out:=s.out) hI.ou ?_)))
         all_goals(refine aC ?_;exact aB (hK))
        ·rw[if_neg c8] at hE
         exact absurd rfl hE
 ·rw[c1,if_pos rfl] at hK
  refine aH Tryz.func52 ?_
  repeat' (first|refine HN ?_|refine dw d6 ?_|refine dw d8 ?_|refine w5 ?_ ?_|((refine bh fun h=>?_) <;> try exact w6 h)|(refine aE fun hA=>?_;subst hA)|intro _|(show aA _ 104 _ _ _;refine CA (h:=cE (x:=x) (a:=a) (s:=s) (M:=M) (mc:=mc) ?_);rw[c1,if_pos rfl]))
  all_goals(refine aC ?_;exact aB (hK))
section
variable {t:dZ}
theorem Ak3 {cap:Nat} {en:Bool}:Gq cap bs en d<=d.size:=by
 unfold Gq
 split
 ·omega
 ·omega
theorem Akg {x:Xs}:Mo (BI x d)<=Mo x+d.size+1:=by
 cases x with
 |b z=>
  have:=Ak3 (cap:=z.cap) (bs:=z.bs) (en:=z.en) (d:=d)
  show z.ac+((Gq z.cap z.bs z.en d:Nat):Int)<=z.ac+d.size+1
  omega
 |i z=>
  show(if z.en=true\/256<d.size then z else if z.l.length<z.cap then { z with l:=z.l++ [d],ac:=z.ac+1 } else if z.st=0 then z else if z.st=1\/z.cap=0 then { z with ac:=z.ac+1,dr:=z.dr+1 } else { z with l:=z.l.tail++ [d],ac:=z.ac+1,dr:=z.dr+1 }).ac<=z.ac+d.size+1
  repeat' split
  all_goals first|(dsimp only;omega)|omega
theorem Ais (h:GH B m):GH (B+d.size+1) (Bz m d):=by
 obtain⟨h1,h2,h3,h4⟩:=h
 unfold Bz
 split
 ·refine⟨h1,?_,by show KT m.y<=_;omega,by show(iQ m.y:Int)<=_;omega⟩
  have:=Akg (x:=m.x) (d:=d)
  show Mo (BI m.x d)<=_
  omega
 ·exact⟨h1,by omega,by omega,by omega⟩
theorem QV:(Bz m d).own=m.own:=by unfold Bz;split <;> rfl
theorem Qs:(Bm m).own=m.own:=by unfold Bm;split <;> rfl
theorem Ah1 (h:GH B m):GH B (Bm m):=by
 obtain⟨h1,h2,h3,h4⟩:=h
 unfold Bm
 split
 ·refine⟨h1,?_,h3,h4⟩
  show Mo (KV m.x)<=B
  cases hx:m.x with
  |b z=>rw[hx] at h2;exact h2
  |i z=>rw[hx] at h2;exact h2
 ·exact⟨h1,h2,h3,h4⟩
theorem Aln (h:GH B m):GH B { m with y:=Hy m.y n }:=by
 obtain⟨h1,h2,h3,h4⟩:=h
 refine⟨h1,h2,?_,?_⟩
 ·cases hy:m.y with
  |b z=>rw[hy] at h3;exact h3
  |i z=>
   rw[hy] at h3
   show(if 1<=n then { z with ask:=z.ask+min n (2147483647 - z.ask) } else z).ac<=B
   split <;> exact h3
 ·cases hy:m.y with
  |b z=>rw[hy] at h4;exact h4
  |i z=>
   rw[hy] at h4
   show((if 1<=n then { z with ask:=z.ask+min n (2147483647 - z.ask) } else z).l.length:Int)<=B
   split <;> exact h4
theorem X1 (h:bO B s) (hB:B+d.size+1<=250000000):bO (B+d.size+1) (oW id d s):=by
 have hb:=h.bb
 unfold oW
 split
 ·exact(bI h).mono (by omega) hB
 ·split
  ·rename_i m hm
   obtain⟨hi,hmid⟩:=aX hm
   rw[eO (id:=id) (Cu.trans hmid)]
   exact l7 (s:=aD s) ((bI h).mono (by omega) hB) hi Cu QV (Ais (h.st m (List.mem_of_getElem? hi)))
  ·exact h.mono (by omega) hB
theorem Ahy (h:bO B s):bO B (Ax id s):=by
 unfold Ax
 split
 ·exact bI h
 ·split
  ·rename_i m hm
   obtain⟨hi,hmid⟩:=aX hm
   rw[eO (id:=id) (CJ.trans hmid)]
   exact l7 (s:=aD s) (bI h) hi CJ Qs (Ah1 (h.st m (List.mem_of_getElem? hi)))
  ·exact h
theorem Aeq (h:bO B s):bO B (tV id n s):=by
 unfold tV
 split
 ·exact bI h
 ·split
  ·rename_i m hm
   obtain⟨hi,hmid⟩:=aX hm
   split
   ·exact bI h
   ·rw[eO (id:=id) (show({ m with y:=FL m.y n }:Sm).id=id from hmid)]
    have hI2:bO B { ({ aD s with rv:=fL s.rv ((CX m.y n).size:Nat) }:Cn) with l:=s.l.set (cI id s.l) { m with y:=FL m.y n } }:=l7 (s:= { aD s with rv:=fL s.rv ((CX m.y n).size:Nat) }) (rG (bI h)) hi rfl rfl (SU (h.st m (List.mem_of_getElem? hi)))
    exact Ej hI2 (mO (m':= { m with y:=FL m.y n }) hm rfl)
  ·exact h
theorem Agl (h:bO B s):bO B (tZ id s):=by
 unfold tZ
 split
 ·exact bI h
 ·split
  ·rename_i m hm
   obtain⟨hi,hmid⟩:=aX hm
   split
   ·exact bI h
   ·rw[eO (id:=id) (show({ m with y:=Ga m.y }:Sm).id=id from hmid)]
    have hI2:bO B { aD s with l:=s.l.set (cI id s.l) { m with y:=Ga m.y } }:=l7 (s:=aD s) (bI h) hi rfl rfl (UW (h.st m (List.mem_of_getElem? hi)))
    exact Ej hI2 (mO (m':= { m with y:=Ga m.y }) hm rfl)
  ·exact h
theorem Ahk (h:bO B s):bO B (Ar id n s):=by
 unfold Ar
 split
 ·exact bI h
 ·split
  ·rename_i m hm
   obtain⟨hi,hmid⟩:=aX hm
   rw[eO (id:=id) (show({ m with y:=Hy m.y n }:Sm).id=id from hmid)]
   exact l7 (s:=aD s) (bI h) hi rfl rfl (Aln (h.st m (List.mem_of_getElem? hi)))
  ·exact h
theorem Adg (h:bO B s):bO B (sI id on w xx s):=by
 unfold sI
 split
 ·exact bI h
 ·exact WP (sX (bI h))
theorem XY (h:bO B s):bO B (nC id n s):=by
 unfold nC
 split
 ·exact bI h
 ·split
  ·rename_i m hm
   exact tN (s:= { aD s with out:=wK (fK id n) s.out }) (sX (bI h)) hm
  ·exact h
theorem Ano (h:bO B s):bO B (EK s):=by
 unfold EK
 split
 ·exact bI h
 ·exact Gg (sX (bI h))
theorem Yh {z:Gm} (h:z.l.length<=4/\tM z.h/\tM z.g/\∀t∈z.l,tM t):(eB z t).l.length<=4/\tM (eB z t).h/\tM (eB z t).g/\∀q∈(eB z t).l,tM q:=by
 obtain⟨h1,h2,h3,h4⟩:=h
 unfold eB
 by_cases hq:g8 z t=0
 ·rw[if_pos hq]
  unfold g8 at hq
  split at hq
  ·cases hq
  ·rename_i hc
   split at hq
   ·cases hq
   ·rename_i hl
    have hc:rT t.w t.st t.it=true:=by simpa using hc
    refine⟨by show(z.l++ [t]).length<=4;rw[List.length_append,List.length_singleton];omega,h2,?_,?_⟩
    ·unfold tM rT at *
     rw[decide_eq_true_eq] at *
     show _
     simp only[MZ]
     omega
    ·intro q hq
     rcases List.mem_append.1 hq with hq|hq
     ·exact h4 q hq
     ·rw[List.mem_singleton.1 hq];exact hc
 ·rw[if_neg hq];exact⟨h1,h2,h3,h4⟩
theorem Abv (h:bO B s):bO B (wO t s):=by
 unfold wO
 split
 ·exact bI h
 ·exact { sX (f:=vK (Ds (mK s.sh) t)) (bI h) with sh:=Yh h.sh }
theorem Ab0 (h:bO B s) (hB:B+1<=250000000):bO (B+1) (pI s):=
 { h.mono (B':=B+1) (by omega) hB with now:=by have:=h.now;show 0<=s.now+1/\s.now+1<=B+1;omega }
theorem Agj (h:bO B s) (hB:B+1<=250000000):bO (B+1) (mM kind sg on w xx s):=by
 unfold mM
 split
 ·exact(bI h).mono (by omega) hB
 ·rename_i hE
  have hE:mE kind sg on w xx s=0:=by simpa using hE
  obtain⟨e1,e2,e3,e4,e5,e6,e7,e8,e9⟩:=Ea hE
  have hnx:=h.nx
  have h64:=h.sm.1
  have hmv:=h.mv
  have hI1:=(IS (sX (f:=lK s.nx kind on w xx) (bI h)) e5).mono (B':=B+1) (by omega) hB
  have hof:=VL h e5
  refine We (s:= { aD s with nx:=s.nx+2,out:=wK (lK s.nx kind on w xx) s.out }) hI1 (GN h e5) (show s.l.length<64 from NR h (by omega)) ⟨by omega,e5⟩ ?_ (by show fW s true<32;omega) (by show(([]:List Mv).length:Int)+s.l.length+1<=B+1;simp only[List.length_nil];omega)
  show gF s.sd (s.nx+2) s.la s.nx=true
  unfold gF
  rw[hof]
  simp only[Bool.and_eq_true,decide_eq_true_eq,if_true]
  omega
theorem BD:∀ {fs:List Fm} {s:Cn} {B:Int},bO B s->(∀f∈fs,bR f)->B+300 * fs.length<=250000000->bO (B+300 * fs.length) (cA fs s)
 | [],s,B,h,_,hB=>h.mono (by simp) hB
 |f::r,s,B,h,hr,hB=>by
  have e:(f::r).length=r.length+1:=rfl
  rw[e] at hB ⊢
  have h1:=Aa h (by omega) (hr f (List.mem_cons_self ..))
  unfold cA
  split
  ·exact h1.mono (by omega) hB
  ·exact(BD h1 (fun z hz=>hr z (List.mem_cons_of_mem _ hz)) (by omega)).mono (by omega) hB
theorem Dv:∀f∈(pF bs).1.map G8,bR f:=fun f hf=>by
 obtain⟨p,hp,rfl⟩:=List.mem_map.1 hf
 exact Q1 (Aar bs.length bs (Nat.le_refl _) p hp)
theorem Aew (h:bO B s) (hB:B+u.length+300 * (pF (s.inb++u)).1.length<=250000000):bO (B+u.length+300 * (pF (s.inb++u)).1.length) (fS u s):=by
 have hb:=h.bb
 unfold fS
 split
 ·exact(bI h).mono (by omega) hB
 ·have h1:=EF (u:=u) h (by omega)
  have hl:((pF (s.inb++u)).1.map G8).length=(pF (s.inb++u)).1.length:=List.length_map ..
  have h2:=BD (fs:=(eC u (aD s)).1) h1 Dv (by show B+u.length+300 * ((((pF (s.inb++u)).1.map G8).length:Nat):Int)<=250000000;rw[hl];exact hB)
  have h3:bO (B+u.length+300 * (pF (s.inb++u)).1.length) (cA (eC u (aD s)).1 (eC u (aD s)).2):=h2.mono (by show B+u.length+300 * ((((pF (s.inb++u)).1.map G8).length:Nat):Int)<=_;rw[hl];omega) hB
  split
  ·exact h3
  ·exact jF h3
end
section
variable {t:Nat} {y:Ys}
def Af4:Xs->Prop
 |.b x=>TB x.cap x.bs x.en x.ou x.ac x.se x.dr
 |.i x=>TI x.cap x.st x.l x.w x.en x.ou x.ac x.se x.dr
def QB:Ys->Prop
 |.b y=>RB y.cap y.most y.gr y.got y.us y.bs
 |.i y=>RI y.mr y.room y.op y.ask y.l y.ac y.tk y.dr
theorem VZ (h:bW (B1 t z::R) H):Af4 z:=by
 cases z with
 |b z=>
  obtain⟨r,h⟩:=h.ex
  exact(aG.cons aG.unsep H (aG.unsep H h)).tail.tail.pure.1
 |i z=>
  obtain⟨q,h⟩:=h.ex
  obtain⟨d,h⟩:=h.ex
  exact(aG.cons (aG.cons aG.unsep) H (aG.cons aG.unsep H (aG.unsep H h))).tail.tail.tail.pure.1
theorem V9 (h:bW (Ed r y::R) H):QB y:=by
 cases y with
 |b y=>
  obtain⟨q,h⟩:=h.ex
  obtain⟨d,h⟩:=h.ex
  exact(aG.cons (aG.cons aG.unsep) H (aG.cons aG.unsep H (aG.unsep H h))).tail.tail.tail.pure.1
 |i y=>
  obtain⟨q,h⟩:=h.ex
  obtain⟨d,h⟩:=h.ex
  exact(aG.cons (aG.cons aG.unsep) H (aG.cons aG.unsep H (aG.unsep H h))).tail.tail.tail.pure.1
def FK (m:Sm):Prop:=Af4 m.x/\QB m.y/\x9 m
theorem Acz (h:bW (tO b m::R) H):FK m:=by
 obtain⟨li,h⟩:=h.ex
 obtain⟨t,h⟩:=h.ex
 obtain⟨r,h⟩:=h.ex
 obtain⟨hok,h⟩:=(s6 H h).pure
 exact⟨VZ h.tail.tail,V9 h.tail.tail.tail,hok⟩
theorem JO:∀ {q:List (jN×Sm)} {R:List HP} {H:Hp},bW (eG SF q::R) H->∀e∈q,FK e.2
 | [],_,_,_,e,he=>by cases he
 |e0::q,R,H,h,e,he=>by
  have h1:=EC H h
  rcases List.mem_cons.1 he with rfl|he
  ·exact Acz h1
  ·exact JO h1.tail e he
theorem JW (h:bW (JB p l::R) H):∀m∈l,FK m:=fun m hm=>by
 obtain⟨A,h⟩:=h.ex
 obtain⟨c,h⟩:=h.ex
 obtain⟨q,h⟩:=h.ex
 obtain⟨hI,h⟩:=(s5 H h).pure
 rw[<- hI.1] at hm
 obtain⟨e,he,rfl⟩:=List.mem_map.1 hm
 exact JO h.tail.tail e he
theorem Ag6 {f:FuncId} {args:Array Value} {P:Program} (h:(∀m∈s.l,FK m)->aA P f args (cB x a s M mc R) K):aA P f args (cB x a s M mc R) K:=aA.fact (fun _ hs=>JW hs.tail.tail) h
theorem Ak9 (h:Af4 z):JQ z<=4096/\Mo z=xSe z+xDr z+JQ z/\0<=xSe z/\0<=xDr z/\Mo z<=900000000:=by
 cases z with
 |b z=>obtain⟨h1,h2,h3,h4,h5,h6,h7⟩:=h;simp only[JQ,Mo,xSe,xDr];omega
 |i z=>obtain⟨h1,h2,h3,h4,h5,h6,h7⟩:=h;simp only[JQ,Mo,xSe,xDr];omega
theorem Ajo (h:QB y):iQ y<=4096:=by
 cases y with
 |b y=>obtain⟨h1,h2,h3,h4,h5,h6,h7,h8,h9⟩:=h;simp only[iQ];omega
 |i y=>obtain⟨h1,h2,h3,h4,h5,h6,h7,h8,h9⟩:=h;simp only[iQ];omega
theorem Agn (hK:JQ z<=4096->K (I6 (JQ z:Nat)) (B1 t z::R)):CT 46 #[.agg #[I6 (Mo z),I6 (xSe z),I6 (xDr z)]] (B1 t z::R) K:=aA.fact (fun _ hs=>VZ hs) fun hf=>by
 obtain⟨h1,h2,h3,h4,h5⟩:=Ak9 hf
 have hK:=hK h1
 have e:((JQ z:Nat):Int)=Mo z - xSe z - xDr z:=by omega
 rw[e] at hK
 exact gV ⟨h3,h4,by omega,by omega,by omega,by omega⟩ hK
theorem ZZ (hK:iQ y<=4096->K (I6 (iQ y:Nat)) (Ed r y::R)):CT 64 #[PO r] (Ed r y::R) K:=aA.fact (fun _ hs=>V9 hs) fun hf=>Aax (hK (Ajo hf))
theorem CB (hs:Hq l) (hm:l[i]?=some m) (hK:∀b li t r,x9 m->K (.tuple #[I6 m.id,PO b,.bool true]) (pt b [PO li,PO t,PO r,I6 m.id,.bool m.own] 223::qW li m.sta::B1 t m.x::Ed r m.y::O4 p l i b::R)):CT 62 #[PO p,I6 i] (JB p l::R) K:=
 aA.satsK (K':=fun v C'=>∃b,v=.tuple #[I6 m.id,PO b,.bool true]/\C'=tO b m::O4 p l i b::R) (Ge hs hm fun b=>⟨b,rfl,rfl⟩) fun v C' H ⟨b,hv,hC⟩ hS=>by
  subst hv hC
  obtain⟨li,hS⟩:=hS.ex
  obtain⟨t,hS⟩:=hS.ex
  obtain⟨r,hS⟩:=hS.ex
  obtain⟨hok,hS⟩:=(s6 H hS).pure
  exact⟨_,hS,hK b li t r hok⟩
theorem Q9 (hs:Hq l) (hm:bY id l=some m) (hK:∀b li t r,x9 m->K (.tuple #[PO b,.bool true]) (pt b [PO li,PO t,PO r,I6 m.id,.bool m.own] 223::qW li m.sta::B1 t m.x::Ed r m.y::O4 p l (cI id l) b::R)):CT 126 #[PO p,I6 id] (JB p l::R) K:=
 aA.satsK (K':=fun v C'=>∃b,v=.tuple #[PO b,.bool true]/\C'=tO b m::O4 p l (cI id l) b::R) (g9 hs hm fun b=>⟨b,rfl,rfl⟩) fun v C' H ⟨b,hv,hC⟩ hS=>by
  subst hv hC
  obtain⟨li,hS⟩:=hS.ex
  obtain⟨t,hS⟩:=hS.ex
  obtain⟨r,hS⟩:=hS.ex
  obtain⟨hok,hS⟩:=(s6 H hS).pure
  exact⟨_,hS,hK b li t r hok⟩
def wtL (l:List Sm):Nat:=(l.map fun m=>JQ m.x).sum
def kpL (l:List Sm):Nat:=(l.map fun m=>iQ m.y).sum
theorem Acl (h:l[j]?=some m):wtL (l.take (j+1))=wtL (l.take j)+JQ m.x:=by
 unfold wtL
 rw[List.take_add_one,h]
 simp
theorem Aed (h:l[j]?=some m):kpL (l.take (j+1))=kpL (l.take j)+iQ m.y:=by
 unfold kpL
 rw[List.take_add_one,h]
 simp
def zV (s:Cn):Value:=.agg #[I6 s.l.length,I6 (fW s true:Nat),I6 (wtL s.l:Nat),I6 (kpL s.l:Nat),.bool s.dr.ov,I6 s.dr.co,I6 s.now]
def p9:Tr:=(.br (.st 0 1 (.st 1 1 (.st 2 1 (.st 3 1 (.st 4 2 (.br (.st 5 2 (.st 6 2 (.st 14 3 (.st 7 3 (.st 8 3 (.st 9 3 (.st 10 3 (.st 11 3 (.st 12 3 (.st 13 1 (.st 15 1 .nil))))))))))) (.st 14 3 (.st 5 2 (.st 6 2 (.st 7 3 (.st 8 3 (.st 9 3 (.st 10 3 (.st 11 3 (.st 12 3 (.st 13 1 (.st 15 1 .nil))))))))))))))))) (.st 14 3 (.st 0 1 (.st 1 1 (.st 2 1 (.st 3 1 (.st 4 2 (.st 5 2 (.st 6 2 (.st 7 3 (.st 8 3 (.st 9 3 (.st 10 3 (.st 11 3 (.st 12 3 (.st 13 1 (.st 15 1 .nil)))))))))))))))))
def qY:List (Nat×Nat):= [(2,0),(3,1),(4,1),(5,1),(0,3),(1,3),(6,0),(7,0),(8,1)]
def pA:List (Nat×Nat):= [(2,0),(3,1),(4,1),(0,2),(1,2),(5,0),(6,0),(7,1)]
theorem XH (hI:bO B s) (hK:K (zV s) (cB x a s M mc R)):CT 13 #[PO x] (cB x a s M mc R) K:=by
 have h64:=hI.sm.1
 unfold zV at hK
 dsimp only[cB,rI] at hK ⊢
 refine aH Tryz.func13 ?_
 repeat' (first|refine v79 ?_|refine SK p9 ?_|refine dw qY ?_|refine dw pA ?_|refine w5 ?_ ?_|((refine bh fun h=>?_) <;> try exact w6 h)|(refine aE fun hA=>?_;subst hA)|intro _|(show aA _ 59 _ _ _;refine CA (h:=IF (d:=s.dr) ?_))|(show aA _ 60 _ _ _;refine CA (h:=Ae (l:=s.l) ?_))|(show aA _ 61 _ _ _;refine CA (h:=s9 (x:=x) (a:=a) (s:=s) (M:=M) (mc:=mc) hI ?_)))
 all_goals
  rename_i r2 r5
  refine jG (fun n a' C'=>∃j:Nat,j+n=s.l.length/\wtL (s.l.take j)<=4096 * j/\kpL (s.l.take j)<=4096 * j/\dP a' [(0,PO x),(2,PO r2),(5,PO r5),(39,I6 s.l.length),(40,I6 j)]/\C'=pt r2 [I6 0,I6 0,I6 0,I6 0,.bool false,I6 0,I6 0] 37::pt r5 [I6 s.l.length,I6 (fW s true:Nat),I6 (wtL (s.l.take j):Nat),I6 (kpL (s.l.take j):Nat),.bool s.dr.ov,I6 s.dr.co,I6 s.now] 37::cB x a s M mc R) s.l.length (cN s.l.length ⟨0,by omega,by simp[wtL],by simp[kpL],⟨rfl,rfl,rfl,rfl,rfl,trivial⟩,rfl⟩ (by omega)) ?_
  rintro n a' C' ⟨j,hj,hw,hk,ha,rfl⟩
  refine iT _ ha ?_
  simp only[gH]
  by_cases hlt:j<s.l.length
  ·obtain⟨m,hm⟩:∃m,s.l[j]?=some m:=⟨_,List.getElem?_eq_getElem hlt⟩
   have hw2:=Acl hm
   have hk2:=Aed hm
   have hw3:((wtL (s.l.take j):Nat):Int)+((JQ m.x:Nat):Int)=(wtL (s.l.take (j+1)):Nat):=by omega
   have hk3:((kpL (s.l.take j):Nat):Int)+((iQ m.y:Nat):Int)=(kpL (s.l.take (j+1)):Nat):=by omega
   repeat' (first|refine v79 ?_|refine SK p9 ?_|refine dw qY ?_|refine dw pA ?_|refine w5 ?_ ?_|((refine bh fun h=>?_) <;> try exact w6 h)|(refine aE fun hA=>?_;subst hA)|intro _|(show aA _ 62 _ _ _;refine CA (h:=Ge (l:=s.l) hI.sm hm (fun _=>?_)))|(show aA _ 42 _ _ _;refine CA (h:=OX (m:=m) (fun _=>?_)))|(show aA _ 43 _ _ _;refine CA (h:=Adp (x:=m.x) ?_))|(show aA _ 46 _ _ _;refine CA (h:=Agn (z:=m.x) (fun hxl=>?_)))|(show aA _ 63 _ _ _;refine CA (h:=aA.ent (I4 (m:=m) (z:=m.x) rfl) (sR (m:=m) (fun _=>?_))))|(show aA _ 64 _ _ _;refine CA (h:=ZZ (y:=m.y) (fun hyl=>?_))))
   all_goals rw[hw3,hk3]
   all_goals(show aV _ _ _ _;exact uF (m:=n - 1) (C':=pt r2 [I6 0,I6 0,I6 0,I6 0,.bool false,I6 0,I6 0] 37::pt r5 [I6 s.l.length,I6 (fW s true:Nat),I6 (wtL (s.l.take (j+1)):Nat),I6 (kpL (s.l.take (j+1)):Nat),.bool s.dr.ov,I6 s.dr.co,I6 s.now] 37::cB x a s M mc R) (by omega) (aG.trans (by exact aZ) (aG.trans (aG.cons (A:=pt r2 [I6 0,I6 0,I6 0,I6 0,.bool false,I6 0,I6 0] 37) (aG.cons (A:=pt r5 [I6 s.l.length,I6 (fW s true:Nat),I6 (wtL (s.l.take (j+1)):Nat),I6 (kpL (s.l.take (j+1)):Nat),.bool s.dr.ov,I6 s.dr.co,I6 s.now] 37) (nX (m:=m) (y:=m.y) rfl))) (aG.cons (aG.cons (eD (x:=x) (a:=a) (s:=s) (M:=M) (mc:=mc) (R:=R) hm))))) ⟨j+1,by omega,by omega,by omega,⟨rfl,rfl,rfl,rfl,rfl,trivial⟩,rfl⟩)
  ·obtain rfl:j=s.l.length:=by omega
   rw[List.take_length]
   repeat' (first|refine v79 ?_|refine SK p9 ?_|refine dw qY ?_|refine dw pA ?_|refine w5 ?_ ?_|((refine bh fun h=>?_) <;> try exact w6 h)|(refine aE fun hA=>?_;subst hA)|intro _)
   all_goals(refine aC ?_;exact aB (hK))
end
end Go.Proofs.YtepnmcipkangkaaGreat
