/- A part of the proof: lemmas; each with the conditions that it states. -/
import Derived.Test.YtifgibijcmppmaaGreatMbc
set_option linter.unusedVariables false
set_option linter.unusedSimpArgs false
namespace Go.Proofs.YtifgibijcmppmaaGreat
open Go Go.Proofs Go.Sl
set_option maxRecDepth 100000
set_option maxHeartbeats 40000000
attribute [local irreducible] aM fG cV bP aN aW aA dP dX aV dO pt ro eW star sep bH
attribute [local irreducible] mp Ec
section
variable {R C:List HP} {K:Value→List HP→Prop} {x mc i b p r:Nat} {a:Ca} {s:Cn} {M:Option Addr} {B:Int} {f:Fm}
theorem FK (hI:bS B s) (hB:B+300≤249000000) (hr:cX f) (hv:dL R f.pa rN f.ps) (hn:f.ps.length=f.pn) (hK:∀M mc,K (.tuple #[]) (bY x a (bQ f s) M mc R)):aA Tryz.prog 77 #[.pointer (some ⟨x,0,none⟩),.agg #[.int .i64 f.t,.int .i64 f.st,.bool f.e,.string f.d,.int .i64 f.k,.int .i64 f.on,.int .i64 f.w,.bool f.x,.int .i64 f.c,.int .i64 f.la,.int .i64 f.n,.slice f.pa f.pn f.pc]] (bY x a s M mc R) K:=by
 have ht:=hr.1
 obtain⟨t,st,e,d,k,on,w,xx,c,la,n,pa,pn,pc,ps⟩:=f
 dsimp only at ht hv hn ⊢
 rcases(by omega:t=0∨t=1∨t=2∨t=3∨t=4∨t=5∨t=6∨t=7∨t=8∨t=9∨t=10∨t=11) with rfl|rfl|rfl|rfl|rfl|rfl|rfl|rfl|rfl|rfl|rfl|rfl
 ·exact MJ hI hB hr hv hn hK
 ·exact Mz hI hB hr hv hn hK
 ·exact ME hI hB hr hv hn hK
 ·exact Ml hI hB hr hv hn hK
 ·exact LP hI hB hr hv hn hK
 ·exact MB hI hB hr hv hn hK
 ·exact MU hI hB hr hv hn hK
 ·exact LQ hI hB hr hv hn hK
 ·exact Ma hI hB hr hv hn hK
 ·exact Mh hI hB hr hv hn hK
 ·exact Jo hI hB hr hv hn hK
 ·exact Jf hI hB hr hv hn hK
end
section
variable {R C:List HP} {K:Value→List HP→Prop} {x mc i b p r:Nat} {a:Ca} {s:Cn} {M:Option Addr} {B:Int} {f:Fm}
theorem Qd {p:ByteArray} (h:Dk p=none):cX (Ke p):=by
 unfold Dk at h
 split at h
 ·cases h
 ·split at h
  ·split at h
   ·split at h
    ·cases h
    ·split at h
     ·rename_i hg
      unfold gE at hg
      split at hg
      ·split at hg
       ·split at hg
        ·rename_i hk
         unfold gOk gB at hk
         rw[Bool.and_eq_true] at hk
         exact(Gs _ _ _ _ _ _ _ _ _ _ _ _).1 hk.1
        ·cases hg
       ·cases hg
      ·rename_i hq;first|exact absurd hg hq|exact absurd (by assumption) hq
     ·cases h
   ·cases h
  ·cases h
theorem Zi:∀(k:Nat) (bs:List UInt8),bs.length≤k→∀p∈(pF bs).1,Dk p=none:=by
 intro k
 induction k with
 |zero=>
  intro bs hb p hp
  cases hs:Dk (kN bs) with
  |some e=>rw[x9 hs] at hp;cases hp
  |none=>
   exfalso
   have h0:bs.length=0:=by omega
   unfold Dk at hs
   rw[if_pos (by rw[pI];omega)] at hs
   cases hs
 |succ k ih=>
  intro bs hb p hp
  cases hs:Dk (kN bs) with
  |some e=>rw[x9 hs] at hp;cases hp
  |none=>
   rw[F7 hs] at hp
   rcases List.mem_cons.1 hp with rfl|hp
   ·exact hs
   ·refine ih _ ?_ p hp
    have h9:¬(kN bs).size<9:=fun hq=>by unfold Dk at hs;rw[if_pos hq] at hs;cases hs
    rw[pI] at h9
    have hL:0≤sL (kN bs):=by
     unfold Dk at hs
     split at hs
     ·cases hs
     ·split at hs
      ·split at hs
       ·rename_i hf;exact(LH hf).1
       ·cases hs
      ·cases hs
    rw[List.length_drop]
    omega
theorem QX {fs:List Fm} {bs:List UInt8} (h:fs.map jD=(pF bs).1.map Ke):∀z∈fs,cX z∧z.ps.length=z.pn:=fun z hz=>by
 have h1:jD z∈(pF bs).1.map Ke:=by rw[← h];exact List.mem_map_of_mem hz
 obtain⟨p,hp,he⟩:=List.mem_map.1 h1
 have h2:=Qd (Zi bs.length bs (Nat.le_refl _) p hp)
 rw[he] at h2
 refine⟨h2,?_⟩
 have h3:(Ke p).ps.length=(Ke p).pn:=rfl
 rw[he] at h3
 exact h3
theorem HZ {u:List UInt8} (h:bS B s) (hB:B+u.length≤250000000):bS (B+u.length) (iQ u (aD s)).2:=
 { h.mono (B':=B+u.length) (by omega) hB with
   inb:=by
    have h1:=h.inb
    have h2:=(T3 (s.inb++u).length (s.inb++u) (Nat.le_refl _)).2
    rw[List.length_append] at h2
    show((if(pF (s.inb++u)).2.2=0 then(pF (s.inb++u)).2.1 else []:List UInt8).length:Int)≤B+u.length
    split
    ·omega
    ·have:=h.bb;simp only[List.length_nil];omega
   mv:=by
    have h1:=h.mv
    have:=h.bb
    show(([]:List Mv).length:Int)+s.l.length≤B+u.length
    simp only[List.length_nil];omega }
theorem Ace {x:Nat} {ks:List UInt8} {s:ByteArray} {e0:Int} (h0:e0=0) (hz:ks.length+s.size<4000000) (hK:∀F c fs,fs.map jD=(pF (ks++s.data.toList)).1.map Ke→K (.tuple #[.slice F fs.length c,.int .i64 (pF (ks++s.data.toList)).2.2]) (bU F c 45 uM fs::kB yG fs::spP x (if(pF (ks++s.data.toList)).2.2=0 then(pF (ks++s.data.toList)).2.1 else []) (pF (ks++s.data.toList)).2.2::R)):aA Tryz.prog 76 #[.pointer (some ⟨x,0,none⟩),.string s] (spP x ks e0::R) K:=by
 subst h0;exact Afe hz hK
theorem WQ {u:ByteArray} (hI:bS B s) (he:s.dr.ov=true∨s.ine=0) (hu:s.inb.length+u.size<4000000) (hB:B+u.size+300 * (pF (s.inb++u.data.toList)).1.length≤248000000) (hK:∀M mc,K (.int .i64 (Gn s)) (bY x a (lB u.data.toList s) M mc R)):aA Tryz.prog 14 #[.pointer (some ⟨x,0,none⟩),.string u] (bY x a s M mc R) K:=by
 have hbb:=hI.bb
 have hsz:u.data.toList.length=u.size:=Array.length_toList
 unfold Gn lB at hK
 cases ho:s.dr.ov
 ·rw[ho] at hK
  simp only[Bool.false_eq_true,if_false] at hK
  have hine:s.ine=0:=he.resolve_left (by rw[ho];decide)
  have hI1:=HZ (u:=u.data.toList) hI (by omega)
  have hst:(iQ u.data.toList (aD s)).2= { aD s with inb:=(if(pF (s.inb++u.data.toList)).2.2=0 then(pF (s.inb++u.data.toList)).2.1 else []),ine:=(pF (s.inb++u.data.toList)).2.2 }:=rfl
  have hfs:(iQ u.data.toList (aD s)).1=(pF (s.inb++u.data.toList)).1.map Ke:=rfl
  rw[hfs] at hK
  generalize hs1:(iQ u.data.toList (aD s)).2=s1 at hK hst hI1
  have ho1:s1.dr.ov=false:=by rw[hst];exact ho
  refine aH Tryz.func14 ?_
  repeat' (first|refine JC ?_|refine wr ?_|refine w5 ?_ ?_|((refine bh fun h=>?_) <;> try exact w6 h)|(refine aE fun hA=>?_;subst hA)|intro _|(show aA _ 75 _ _ _;refine CA (h:=b5 (x:=x) (a:=a) (s:=s) (M:=M) (mc:=mc) (R:=R) ?_);rw[ho,if_neg Bool.false_ne_true])|(show aA _ 76 _ _ _;refine CA (h:=Ace (e0:=(aD s).ine) (ks:=s.inb) (s:=u) hine hu (fun F c fs hfe=>?_))))
  subst hst
  have hfl:=congrArg List.length hfe
  simp only[List.length_map] at hfl
  refine iL (fun n1 a' C'=>∃(j:Nat) (s':Cn) (M':Option Addr) (mc':Nat),j+n1=fs.length∧bS (B+u.data.toList.length+300 * j) s'∧s'.dr.ov=false∧d4 ((fs.drop j).map jD) s'=d4 ((pF (s.inb++u.data.toList)).1.map Ke) { aD s with inb:=(if(pF (s.inb++u.data.toList)).2.2=0 then(pF (s.inb++u.data.toList)).2.1 else []),ine:=(pF (s.inb++u.data.toList)).2.2 }∧dC a' [(0,.pointer (some ⟨x,0,none⟩)),(7,.int .i64 (pF (s.inb++u.data.toList)).2.2),(24,.slice F fs.length c),(25,.int .i64 fs.length),(26,.int .i64 j)]∧C'=bU F c 45 uM fs::kB yG fs::bY x a s' M' mc' R) fs.length (cC fs.length ⟨0,{ aD s with inb:=(if(pF (s.inb++u.data.toList)).2.2=0 then(pF (s.inb++u.data.toList)).2.1 else []),ine:=(pF (s.inb++u.data.toList)).2.2 },none,0,by omega,hI1.mono (by omega) (by omega),ho1,by rw[List.drop_zero,hfe],⟨rfl,rfl,rfl,rfl,rfl,trivial⟩,rfl⟩ (by omega)) ?_
  rintro n1 a' C' ⟨j,s',M',mc',hj,hI',ho',hc,ha,rfl⟩
  refine gV _ ha ?_
  simp only[fN]
  by_cases hlt:j<fs.length
  ·obtain⟨z,hz,hd⟩:=iS (l:=fs) (j:=j) hlt
   have hzm:=List.mem_of_getElem? hz
   obtain⟨hzr,hzn⟩:=QX hfe z hzm
   have hv:fs[((j:Nat):Int).toNat]?=some z:=by rw[Int.toNat_natCast];exact hz
   rw[hd] at hc
   have hc2:(if(bQ z s').dr.ov=true then bQ z s' else d4 ((fs.drop (j+1)).map jD) (bQ z s'))=d4 ((pF (s.inb++u.data.toList)).1.map Ke) { aD s with inb:=(if(pF (s.inb++u.data.toList)).2.2=0 then(pF (s.inb++u.data.toList)).2.1 else []),ine:=(pF (s.inb++u.data.toList)).2.2 }:=hc
   have hI2:=Cx hI' (by omega) hzr
   cases hov:(bQ z s').dr.ov
   ·rw[hov,if_neg Bool.false_ne_true] at hc2
    repeat' (first|refine JC ?_|refine wr ?_|refine w5 ?_ ?_|((refine bh fun h=>?_) <;> try exact w6 h)|(refine aE fun hA=>?_;subst hA)|intro _|(show aA _ 77 _ _ _;refine CA (h:=FK (x:=x) (a:=a) (s:=s') (M:=M') (mc:=mc') (R:=bU _ c 45 uM fs::kB yG fs::R) (f:=z) hI' (by omega) hzr (bI (wE hzm)) hzn (fun _ _=>?_)))|(show aA _ 78 _ _ _;refine CA (h:=jN (x:=x) (a:=a) (s:=bQ z s') ?_);rw[hov]))
    all_goals(show aV _ _ _ _;exact cC (n1 - 1) ⟨j+1,bQ z s',_,_,by omega,hI2.mono (by omega) (by omega),hov,hc2,⟨rfl,rfl,rfl,rfl,rfl,trivial⟩,rfl⟩)
   ·rw[hov,if_pos rfl] at hc2
    rw[← hc2,if_pos (.inl hov)] at hK
    repeat' (first|refine JC ?_|refine wr ?_|refine w5 ?_ ?_|((refine bh fun h=>?_) <;> try exact w6 h)|(refine aE fun hA=>?_;subst hA)|intro _|(show aA _ 77 _ _ _;refine CA (h:=FK (x:=x) (a:=a) (s:=s') (M:=M') (mc:=mc') (R:=bU _ c 45 uM fs::kB yG fs::R) (f:=z) hI' (by omega) hzr (bI (wE hzm)) hzn (fun _ _=>?_)))|(show aA _ 78 _ _ _;refine CA (h:=jN (x:=x) (a:=a) (s:=bQ z s') ?_);rw[hov]))
    all_goals(refine aC ?_;exact aB (hK _ _))
  ·have hd:fs.drop j= []:=List.drop_eq_nil_of_le (by omega)
   rw[hd] at hc
   have hc2:s'=d4 ((pF (s.inb++u.data.toList)).1.map Ke) { aD s with inb:=(if(pF (s.inb++u.data.toList)).2.2=0 then(pF (s.inb++u.data.toList)).2.1 else []),ine:=(pF (s.inb++u.data.toList)).2.2 }:=hc
   rw[← hc2] at hK
   by_cases hE:(pF (s.inb++u.data.toList)).2.2=0
   ·rw[if_pos (.inr hE)] at hK
    repeat' (first|refine JC ?_|refine wr ?_|refine w5 ?_ ?_|((refine bh fun h=>?_) <;> try exact w6 h)|(refine aE fun hA=>?_;subst hA)|intro _)
    all_goals(refine aC ?_;exact aB (hK _ _))
   ·rw[if_neg (fun q=>q.elim (fun w=>by rw[ho'] at w;cases w) hE)] at hK
    repeat' (first|(show Br _ _ _;refine Br.t (by first | (simp <;> done) | simpa using hE) ?_)|refine JC ?_|refine wr ?_|refine w5 ?_ ?_|((refine bh fun h=>?_) <;> try exact w6 h)|(refine aE fun hA=>?_;subst hA)|intro _|(show aA _ 79 _ _ _;refine CA (h:=dH (x:=x) (a:=a) (s:=s') hI' (by decide) (by decide) (fun _ _=>?_))))
    all_goals(refine aC ?_;exact aB (hK _ _))
 ·rw[ho,if_pos rfl,if_pos rfl] at hK
  refine aH Tryz.func14 ?_
  repeat' (first|refine JC ?_|refine wr ?_|refine w5 ?_ ?_|((refine bh fun h=>?_) <;> try exact w6 h)|(refine aE fun hA=>?_;subst hA)|intro _|(show aA _ 75 _ _ _;refine CA (h:=b5 (x:=x) (a:=a) (s:=s) (M:=M) (mc:=mc) (R:=R) ?_);rw[ho,if_pos rfl]))
  all_goals(refine aC ?_;exact aB (hK _ _))
end
section
variable {R C:List HP} {K:Value→List HP→Prop} {x mc i b p r:Nat} {a:Ca} {s:Cn} {M:Option Addr} {B id n:Int} {m:Sm} {d:ByteArray} {y:Ys}
theorem pU (h:cJ s id=0):s.dr.ov=false∧∃m,b7 id s.l=some m:=by
 unfold cJ at h
 cases ho:s.dr.ov
 ·refine⟨rfl,?_⟩
  rw[ho,if_neg Bool.false_ne_true] at h
  cases hm:b7 id s.l with
  |some m=>exact⟨m,rfl⟩
  |none=>
   rw[hm] at h
   dsimp only at h
   split at h <;> cases h
 ·rw[ho,if_pos rfl] at h;cases h
theorem VT (hb:0≤s.now∧s.now≤1000000000) (hK:K (.int .i64 (s.now+1)) (bY x a (qH s) M mc R)):aA Tryz.prog 102 #[.pointer (some ⟨x,0,none⟩)] (bY x a s M mc R) K:=by
 dsimp only[bY,pM,qH] at hK ⊢
 refine aH Tryz.func102 ?_
 repeat' (first|refine Ga ?_|refine wr ?_|refine w5 ?_ ?_|((refine bh fun h=>?_) <;> try exact w6 h)|(refine aE fun hA=>?_;subst hA)|intro _)
 all_goals(refine aC ?_;exact aB (hK))
theorem A8:(Al m d).id=m.id:=by unfold Al;split <;> rfl
theorem AF:(Au m).id=m.id:=by unfold Au;split <;> rfl
theorem RL (hI:bS B s) (hd:d.size≤100000000) (hK:K (.tuple #[.int .i64 (Ay id d s).1,.int .i64 (Ay id d s).2]) (bY x a (qK id d s) none 0 R)):aA Tryz.prog 44 #[.pointer (some ⟨x,0,none⟩),.int .i64 id,.string d] (bY x a s M mc R) K:=by
 have hbb:=hI.bb
 unfold Ay qK at hK
 by_cases hf:cJ s id=0
 ·obtain⟨ho,m,hm⟩:=pU hf
  obtain⟨hi,hmid⟩:=aZ hm
  have hac:=(hI.st m (List.mem_of_getElem? hi)).ac
  simp only[if_neg (fun q=>q hf:¬cJ s id≠0)] at hK
  rw[hm] at hK
  dsimp only at hK
  rw[eB (id:=id) (A8.trans hmid)] at hK
  refine aH Tryz.func44 ?_
  repeat' (first|refine v2 ?_|refine wr ?_|refine w5 ?_ ?_|((refine bh fun h=>?_) <;> try exact w6 h)|(refine aE fun hA=>?_;subst hA)|intro _|(show aA _ 116 _ _ _;refine CA (h:=fJ (x:=x) (a:=a) (s:=s) (M:=M) (mc:=mc) (R:=R) hI ho hm (fun _=>?_)))|(show aA _ 138 _ _ _;refine CA (h:=Yg (m:=m) (by omega) (by omega) ?_)))
  all_goals(refine aC ?_;exact aK (aG.trans (by exact aY) ((lP (x:=x) (a:=a) (s:=aD s) (M:=none) (mc:=0) (R:=R) (m':=Al m d) hi A8))) (hK))
 ·simp only[if_pos hf] at hK
  refine aH Tryz.func44 ?_
  repeat' (first|(show Br _ _ _;refine Br.t (by first | (simp <;> done) | simpa using hf) ?_)|refine v2 ?_|refine wr ?_|refine w5 ?_ ?_|((refine bh fun h=>?_) <;> try exact w6 h)|(refine aE fun hA=>?_;subst hA)|intro _|(show aA _ 116 _ _ _;refine CA (h:=nA (x:=x) (a:=a) (s:=s) (M:=M) (mc:=mc) (R:=R) hI hf ?_)))
  all_goals(refine aC ?_;exact aB (hK))
theorem ZB (hI:bS B s) (hK:K (.int .i64 (Sc id s)) (bY x a (BQ id s) none 0 R)):aA Tryz.prog 204 #[.pointer (some ⟨x,0,none⟩),.int .i64 id] (bY x a s M mc R) K:=by
 unfold Sc BQ at hK
 by_cases hf:cJ s id=0
 ·obtain⟨ho,m,hm⟩:=pU hf
  obtain⟨hi,hmid⟩:=aZ hm
  simp only[if_neg (fun q=>q hf:¬cJ s id≠0)] at hK
  rw[hm] at hK
  dsimp only at hK
  rw[eB (id:=id) (AF.trans hmid)] at hK
  refine aH Tryz.func204 ?_
  repeat' (first|refine v2 ?_|refine wr ?_|refine w5 ?_ ?_|((refine bh fun h=>?_) <;> try exact w6 h)|(refine aE fun hA=>?_;subst hA)|intro _|(show aA _ 116 _ _ _;refine CA (h:=fJ (x:=x) (a:=a) (s:=s) (M:=M) (mc:=mc) (R:=R) hI ho hm (fun _=>?_)))|(show aA _ 295 _ _ _;refine CA (h:=Aad (m:=m) ?_)))
  all_goals(refine aC ?_;exact aK (aG.trans (by exact aY) ((lP (x:=x) (a:=a) (s:=aD s) (M:=none) (mc:=0) (R:=R) (m':=Au m) hi AF))) (hK))
 ·simp only[if_pos hf] at hK
  refine aH Tryz.func204 ?_
  repeat' (first|(show Br _ _ _;refine Br.t (by first | (simp <;> done) | simpa using hf) ?_)|refine v2 ?_|refine wr ?_|refine w5 ?_ ?_|((refine bh fun h=>?_) <;> try exact w6 h)|(refine aE fun hA=>?_;subst hA)|intro _|(show aA _ 116 _ _ _;refine CA (h:=nA (x:=x) (a:=a) (s:=s) (M:=M) (mc:=mc) (R:=R) hI hf ?_)))
  all_goals(refine aC ?_;exact aB (hK))
theorem Acz:kG (FX y n)=kG y:=by cases y <;> rfl
theorem Zc (hI:bS B s) (hK:K (.int .i64 (QM id n s)) (bY x a (BJ id n s) none 0 R)):aA Tryz.prog 205 #[.pointer (some ⟨x,0,none⟩),.int .i64 id,.int .i64 n] (bY x a s M mc R) K:=by
 unfold QM BJ at hK
 by_cases hf:cJ s id=0
 ·obtain⟨ho,m,hm⟩:=pU hf
  obtain⟨hi,hmid⟩:=aZ hm
  simp only[if_neg (fun q=>q hf:¬cJ s id≠0)] at hK
  rw[hm] at hK
  dsimp only at hK
  rw[eB (id:=id) (show({ m with y:=FX m.y n }:Sm).id=id from hmid)] at hK
  refine aH Tryz.func205 ?_
  repeat' (first|refine v2 ?_|refine wr ?_|refine w5 ?_ ?_|((refine bh fun h=>?_) <;> try exact w6 h)|(refine aE fun hA=>?_;subst hA)|intro _|(show aA _ 116 _ _ _;refine CA (h:=fJ (x:=x) (a:=a) (s:=s) (M:=M) (mc:=mc) (R:=R) hI ho hm (fun _=>?_)))|(show aA _ 89 _ _ _;refine CA (h:=qP (m:=m) (fun _=>?_)))|(show aA _ 296 _ _ _;refine CA (h:=Af9 (y:=m.y) ?_)))
  all_goals(refine aC ?_;exact aK (aG.trans (by exact aY) ((aG.trans (mM Acz) (lP (x:=x) (a:=a) (s:=aD s) (M:=none) (mc:=0) (R:=R) (m':= { m with y:=FX m.y n }) hi rfl)))) (hK))
 ·simp only[if_pos hf] at hK
  refine aH Tryz.func205 ?_
  repeat' (first|(show Br _ _ _;refine Br.t (by first | (simp <;> done) | simpa using hf) ?_)|refine v2 ?_|refine wr ?_|refine w5 ?_ ?_|((refine bh fun h=>?_) <;> try exact w6 h)|(refine aE fun hA=>?_;subst hA)|intro _|(show aA _ 116 _ _ _;refine CA (h:=nA (x:=x) (a:=a) (s:=s) (M:=M) (mc:=mc) (R:=R) hI hf ?_)))
  all_goals(refine aC ?_;exact aB (hK))
end
section
variable {R C:List HP} {K:Value→List HP→Prop} {x mc i b p r:Nat} {a:Ca} {s:Cn} {M:Option Addr} {B id n:Int} {m:Sm} {d:ByteArray} {y:Ys}
theorem bF (h:bS B s):bS B (aD s):=
 { h with
   mv:=by
    have h1:=h.mv
    show(([]:List Mv).length:Int)+s.l.length≤B
    simp only[List.length_nil];omega }
theorem Ag9:kG (Ej y n)=kG y:=by cases y <;> rfl
theorem Ahg:kG (Ek y)=kG y:=by
 cases y with
 |b y=>rfl
 |i y=>unfold Ek;dsimp only;split <;> rfl
theorem Rw (h:ED B m):ED B { m with y:=Ej m.y n }:=by
 obtain⟨h1,h2,h3,h4⟩:=h
 refine⟨h1,h2,?_,?_⟩
 ·cases hy:m.y <;> (rw[hy] at h3;exact h3)
 ·cases hy:m.y with
  |b z=>rw[hy] at h4;simp only[Ej,hO,List.length_drop] at h4 ⊢;omega
  |i z=>rw[hy] at h4;exact h4
theorem QY (h:ED B m):ED B { m with y:=Ek m.y }:=by
 obtain⟨h1,h2,h3,h4⟩:=h
 cases hy:m.y with
 |b z=>rw[hy] at h3 h4;exact⟨h1,h2,h3,h4⟩
 |i z=>
  rw[hy] at h3 h4
  cases hl:z.l with
  |nil=>
   have e:Ek (.i z)=.i z:=by simp only[Ek,hl]
   rw[e];exact⟨h1,h2,h3,h4⟩
  |cons q r=>
   have e:Ek (.i z)=.i { z with l:=r,tk:=z.tk+1 }:=by simp only[Ek,hl]
   rw[e]
   refine⟨h1,h2,h3,?_⟩
   simp only[hO,hl,List.length_cons] at h4 ⊢
   omega
theorem Ae4 {y:Ys} (h:(hO y:Int)≤B):(((BC y n).size:Nat):Int)≤max B 0:=by
 cases y with
 |b z=>
  have:(BC (.b z) n).size=min (LI z n) z.bs.length:=by
   show((z.bs.take (LI z n)).toArray).size=_
   simp
  simp only[hO] at h
  omega
 |i z=>show((0:Nat):Int)≤max B 0;omega
theorem VK (hI:bS B s) (hK:∀M mc,K (.tuple #[.string (vF id n s).1,.bool (vF id n s).2.1,.int .i64 (vF id n s).2.2]) (bY x a (vQ id n s) M mc R)):aA Tryz.prog 26 #[.pointer (some ⟨x,0,none⟩),.int .i64 id,.int .i64 n] (bY x a s M mc R) K:=by
 have hbb:=hI.bb
 have hrv:=hI.rv
 unfold I3 at hrv
 unfold vF vQ at hK
 by_cases hf:cJ s id=0
 ·obtain⟨ho,m,hm⟩:=pU hf
  obtain⟨hi,hmid⟩:=aZ hm
  have hIm:=hI.st m (List.mem_of_getElem? hi)
  have hsz:=Ae4 (n:=n) hIm.ln
  simp only[if_neg (fun q=>q hf:¬cJ s id≠0)] at hK
  rw[hm] at hK
  dsimp only at hK
  by_cases hE:OF m.y=0
  ·simp only[if_neg (fun q=>q hE:¬OF m.y≠0)] at hK
   rw[eB (id:=id) (show({ m with y:=Ej m.y n }:Sm).id=id from hmid)] at hK
   have hI2:bS B { ({ aD s with rv:=fT s.rv ((BC m.y n).size:Nat) }:Cn) with l:=s.l.set (cB id s.l) { m with y:=Ej m.y n } }:=kZ (s:= { aD s with rv:=fT s.rv ((BC m.y n).size:Nat) }) (oM (bF hI)) hi rfl rfl (Rw hIm)
   refine aH Tryz.func26 ?_
   repeat' (first|refine I2 ?_|refine wr ?_|refine w5 ?_ ?_|((refine bh fun h=>?_) <;> try exact w6 h)|(refine aE fun hA=>?_;subst hA)|intro _|(show aA _ 116 _ _ _;refine CA (h:=fJ (x:=x) (a:=a) (s:=s) (M:=M) (mc:=mc) (R:=R) hI ho hm (fun _=>?_)))|(show aA _ 89 _ _ _;first|refine CA (h:=qP (m:=m) (fun _=>?_))|refine CA (h:=aA.ent (mM Ag9) (qP (m:= { m with y:=Ej m.y n }) (fun _=>?_))))|(show aA _ 117 _ _ _;refine CA (h:=PG (y:=m.y) ?_);rw[hE])|(show aA _ 118 _ _ _;refine CA (h:=tM (y:=s.rv) (by omega) (by omega) (fun _=>?_)))|(show aA _ 119 _ _ _;refine CA (h:=Qb (y:=Ej m.y n) ?_))|(show aA _ 120 _ _ _;refine CA (h:=aA.ent (mM (m:= { m with y:=Ej m.y n }) (y:=Ej m.y n) rfl) (kL (x:=x) (a:=a) (s:= { aD s with rv:=fT s.rv ((BC m.y n).size:Nat) }) (i:=cB id s.l) (m:=m) (M:=none) (mc:=0) (R:=R) (m':= { m with y:=Ej m.y n }) hi rfl hI2 (lN hm rfl) (fun _ _=>?_)))))
   all_goals(refine aC ?_;exact aB (hK _ _))
  ·simp only[if_pos hE] at hK
   have hy:Ej m.y n=m.y∧BC m.y n=⟨#[]⟩:=by cases hq:m.y with
    |b z=>rw[hq] at hE;exact absurd rfl hE
    |i z=>exact⟨rfl,rfl⟩
   refine aH Tryz.func26 ?_
   repeat' (first|(show Br _ _ _;refine Br.t (by first | (simp <;> done) | simpa using hE) ?_)|refine I2 ?_|refine wr ?_|refine w5 ?_ ?_|((refine bh fun h=>?_) <;> try exact w6 h)|(refine aE fun hA=>?_;subst hA)|intro _|(show aA _ 116 _ _ _;refine CA (h:=fJ (x:=x) (a:=a) (s:=s) (M:=M) (mc:=mc) (R:=R) hI ho hm (fun _=>?_)))|(show aA _ 89 _ _ _;refine CA (h:=qP (m:=m) (fun _=>?_)))|(show aA _ 117 _ _ _;refine CA (h:=PG (y:=m.y) ?_);rw[hy.1,hy.2]))
   all_goals(refine aC ?_;exact aK (aG.trans (by exact aY) ((aG.trans (mM (m:=m) (y:=m.y) rfl) (dY (x:=x) (a:=a) (s:=aD s) (M:=none) (mc:=0) (R:=R) hi)))) (hK _ _))
 ·simp only[if_pos hf] at hK
  refine aH Tryz.func26 ?_
  repeat' (first|(show Br _ _ _;refine Br.t (by first | (simp <;> done) | simpa using hf) ?_)|refine I2 ?_|refine wr ?_|refine w5 ?_ ?_|((refine bh fun h=>?_) <;> try exact w6 h)|(refine aE fun hA=>?_;subst hA)|intro _|(show aA _ 116 _ _ _;refine CA (h:=nA (x:=x) (a:=a) (s:=s) (M:=M) (mc:=mc) (R:=R) hI hf ?_)))
  all_goals(refine aC ?_;exact aB (hK _ _))
end
section
variable {R C:List HP} {K:Value→List HP→Prop} {x mc i b p r:Nat} {a:Ca} {s:Cn} {M:Option Addr} {B id n:Int} {m:Sm} {d:ByteArray} {y:Ys}
theorem Xx (hI:bS B s) (hK:∀M mc,K (.tuple #[.string (tA id s).1,.bool (tA id s).2.1,.bool (tA id s).2.2.1,.int .i64 (tA id s).2.2.2]) (bY x a (vO id s) M mc R)):aA Tryz.prog 27 #[.pointer (some ⟨x,0,none⟩),.int .i64 id] (bY x a s M mc R) K:=by
 have hbb:=hI.bb
 unfold tA vO at hK
 by_cases hf:cJ s id=0
 ·obtain⟨ho,m,hm⟩:=pU hf
  obtain⟨hi,hmid⟩:=aZ hm
  have hIm:=hI.st m (List.mem_of_getElem? hi)
  simp only[if_neg (fun q=>q hf:¬cJ s id≠0)] at hK
  rw[hm] at hK
  dsimp only at hK
  by_cases hE:WT m.y=0
  ·simp only[if_neg (fun q=>q hE:¬WT m.y≠0)] at hK
   rw[eB (id:=id) (show({ m with y:=Ek m.y }:Sm).id=id from hmid)] at hK
   have hI2:bS B { aD s with l:=s.l.set (cB id s.l) { m with y:=Ek m.y } }:=kZ (s:=aD s) (bF hI) hi rfl rfl (QY hIm)
   refine aH Tryz.func27 ?_
   repeat' (first|refine v2 ?_|refine wr ?_|refine w5 ?_ ?_|((refine bh fun h=>?_) <;> try exact w6 h)|(refine aE fun hA=>?_;subst hA)|intro _|(show aA _ 116 _ _ _;refine CA (h:=fJ (x:=x) (a:=a) (s:=s) (M:=M) (mc:=mc) (R:=R) hI ho hm (fun _=>?_)))|(show aA _ 89 _ _ _;first|refine CA (h:=qP (m:=m) (fun _=>?_))|refine CA (h:=aA.ent (mM Ahg) (qP (m:= { m with y:=Ek m.y }) (fun _=>?_))))|(show aA _ 121 _ _ _;refine CA (h:=Ov (y:=m.y) ?_);rw[hE])|(show aA _ 119 _ _ _;refine CA (h:=Qb (y:=Ek m.y) ?_))|(show aA _ 120 _ _ _;refine CA (h:=aA.ent (mM (m:= { m with y:=Ek m.y }) (y:=Ek m.y) rfl) (kL (x:=x) (a:=a) (s:=aD s) (i:=cB id s.l) (m:=m) (M:=none) (mc:=0) (R:=R) (m':= { m with y:=Ek m.y }) hi rfl hI2 (lN hm rfl) (fun _ _=>?_)))))
   all_goals(refine aC ?_;exact aB (hK _ _))
  ·simp only[if_pos hE] at hK
   have hy:Ek m.y=m.y∧Aji m.y=⟨#[]⟩∧YC m.y=false:=by cases hq:m.y with
    |b z=>exact⟨rfl,rfl,rfl⟩
    |i z=>rw[hq] at hE;exact absurd rfl hE
   refine aH Tryz.func27 ?_
   repeat' (first|(show Br _ _ _;refine Br.t (by first | (simp <;> done) | simpa using hE) ?_)|refine v2 ?_|refine wr ?_|refine w5 ?_ ?_|((refine bh fun h=>?_) <;> try exact w6 h)|(refine aE fun hA=>?_;subst hA)|intro _|(show aA _ 116 _ _ _;refine CA (h:=fJ (x:=x) (a:=a) (s:=s) (M:=M) (mc:=mc) (R:=R) hI ho hm (fun _=>?_)))|(show aA _ 89 _ _ _;refine CA (h:=qP (m:=m) (fun _=>?_)))|(show aA _ 121 _ _ _;refine CA (h:=Ov (y:=m.y) ?_);rw[hy.1,hy.2.1,hy.2.2]))
   all_goals(refine aC ?_;exact aK (aG.trans (by exact aY) ((aG.trans (mM (m:=m) (y:=m.y) rfl) (dY (x:=x) (a:=a) (s:=aD s) (M:=none) (mc:=0) (R:=R) hi)))) (hK _ _))
 ·simp only[if_pos hf] at hK
  refine aH Tryz.func27 ?_
  repeat' (first|(show Br _ _ _;refine Br.t (by first | (simp <;> done) | simpa using hf) ?_)|refine v2 ?_|refine wr ?_|refine w5 ?_ ?_|((refine bh fun h=>?_) <;> try exact w6 h)|(refine aE fun hA=>?_;subst hA)|intro _|(show aA _ 116 _ _ _;refine CA (h:=nA (x:=x) (a:=a) (s:=s) (M:=M) (mc:=mc) (R:=R) hI hf ?_)))
  all_goals(refine aC ?_;exact aB (hK _ _))
theorem GY {f:Fm} {out:List Fm} (h:Ei f out≠0):yZ f out=out:=by unfold yZ;rw[if_pos h]
def lS:List (Nat×Nat):= [(4,0),(5,0),(6,0),(7,0),(8,1),(0,1),(1,1),(2,1),(3,1),(9,0),(10,1),(11,0),(12,0)]
def lY:List (Nat×Nat):= [(4,0),(5,0),(6,0),(7,0),(8,1),(0,1),(1,1),(2,1),(3,1),(9,1),(10,0)]
theorem T5 (hI:bS B s) (hK:K (.int .i64 (XQ s)) (bY x a (Jp s) none 0 R)):aA Tryz.prog 100 #[.pointer (some ⟨x,0,none⟩)] (bY x a s M mc R) K:=by
 unfold XQ Jp at hK
 cases ho:s.dr.ov
 ·cases hs:s.dr.se
  ·by_cases hq:Ei (EF s.la 0) s.out=0
   ·simp only[ho,hs,hq,Bool.false_eq_true,if_false,false_or,ne_eq,not_true_eq_false] at hK
    refine aH Tryz.func100 ?_
    repeat' (first|refine v46 ?_|refine dw lS ?_|refine dw lY ?_|refine wr ?_|refine w5 ?_ ?_|((refine bh fun h=>?_) <;> try exact w6 h)|(refine aE fun hA=>?_;subst hA)|intro _|(show aA _ 75 _ _ _;refine CA (h:=b5 (x:=x) (a:=a) (s:=s) (M:=M) (mc:=mc) (R:=R) ?_);rw[ho,if_neg Bool.false_ne_true])|(show aA _ 201 _ _ _;refine CA (h:=EP (d:=s.dr) ?_);rw[hs])|(show aA _ 173 _ _ _;refine CA (h:=CF (sd:=s.sd) (nx:=s.nx) (la:=s.la) ?_))|(show aA _ 60 _ _ _;refine CA (h:=jR (f:=EF s.la 0) hI.ou eD rfl (show(0:Nat)<1000000000000000 by decide) ?_);rw[hq])|(show aA _ 202 _ _ _;refine CA (h:=Aal (d:=s.dr) ?_)))
    all_goals(refine aC ?_;exact aB (hK))
   ·simp only[ho,hs,hq,Bool.false_eq_true,if_false,false_or,ne_eq,not_false_eq_true,if_true] at hK
    have h9:=GY hq
    refine aH Tryz.func100 ?_
    repeat' (first|(show Br _ _ _;refine Br.t (by first | (simp <;> done) | simpa using hq) ?_)|refine v46 ?_|refine dw lS ?_|refine dw lY ?_|refine wr ?_|refine w5 ?_ ?_|((refine bh fun h=>?_) <;> try exact w6 h)|(refine aE fun hA=>?_;subst hA)|intro _|(show aA _ 75 _ _ _;refine CA (h:=b5 (x:=x) (a:=a) (s:=s) (M:=M) (mc:=mc) (R:=R) ?_);rw[ho,if_neg Bool.false_ne_true])|(show aA _ 201 _ _ _;refine CA (h:=EP (d:=s.dr) ?_);rw[hs])|(show aA _ 173 _ _ _;refine CA (h:=CF (sd:=s.sd) (nx:=s.nx) (la:=s.la) ?_))|(show aA _ 60 _ _ _;refine CA (h:=jR (f:=EF s.la 0) hI.ou eD rfl (show(0:Nat)<1000000000000000 by decide) ?_);rw[h9]))
    all_goals(refine aC ?_;exact aB (hK))
  ·simp only[ho,hs,Bool.false_eq_true,if_false,if_true,true_or,or_true] at hK
   refine aH Tryz.func100 ?_
   repeat' (first|refine v46 ?_|refine dw lS ?_|refine dw lY ?_|refine wr ?_|refine w5 ?_ ?_|((refine bh fun h=>?_) <;> try exact w6 h)|(refine aE fun hA=>?_;subst hA)|intro _|(show aA _ 75 _ _ _;refine CA (h:=b5 (x:=x) (a:=a) (s:=s) (M:=M) (mc:=mc) (R:=R) ?_);rw[ho,if_neg Bool.false_ne_true])|(show aA _ 201 _ _ _;refine CA (h:=EP (d:=s.dr) ?_);rw[hs]))
   all_goals(refine aC ?_;exact aB (hK))
 ·simp only[ho,if_true,true_or] at hK
  refine aH Tryz.func100 ?_
  repeat' (first|refine v46 ?_|refine dw lS ?_|refine dw lY ?_|refine wr ?_|refine w5 ?_ ?_|((refine bh fun h=>?_) <;> try exact w6 h)|(refine aE fun hA=>?_;subst hA)|intro _|(show aA _ 75 _ _ _;refine CA (h:=b5 (x:=x) (a:=a) (s:=s) (M:=M) (mc:=mc) (R:=R) ?_);rw[ho,if_pos rfl]))
  all_goals(refine aC ?_;exact aB (hK))
end
section
variable {R C:List HP} {K:Value→List HP→Prop} {x mc i b p r:Nat} {a:Ca} {s:Cn} {M:Option Addr} {B id n:Int} {m:Sm} {d:ByteArray} {y:Ys}
theorem qN {f:Fm} (h:bS B s):bS B { s with out:=yZ f s.out }:= { h with ou:=Ez h.ou }
def jI:List (Nat×Nat):= [(0,0),(1,0),(2,0),(3,0),(4,0),(5,1),(6,0),(7,0)]
theorem Sa (hI:bS B s) (hK:∀M mc,K (.int .i64 (lK id n s)) (bY x a (qQ id n s) M mc R)):aA Tryz.prog 207 #[.pointer (some ⟨x,0,none⟩),.int .i64 id,.int .i64 n] (bY x a s M mc R) K:=by
 unfold qQ at hK
 by_cases hf:cJ s id=0
 ·obtain⟨ho,m,hm⟩:=pU hf
  obtain⟨hi,hmid⟩:=aZ hm
  cases hc:l8 (lX id n)
  ·have hE:lK id n s=2:=by unfold lK;rw[if_neg (fun q=>q hf),if_pos hc]
   rw[hE,if_pos (by decide)] at hK
   refine aH Tryz.func207 ?_
   repeat' (first|refine JC ?_|refine dw jI ?_|refine wr ?_|refine w5 ?_ ?_|((refine bh fun h=>?_) <;> try exact w6 h)|(refine aE fun hA=>?_;subst hA)|intro _|(show aA _ 116 _ _ _;refine CA (h:=fJ (x:=x) (a:=a) (s:=s) (M:=M) (mc:=mc) (R:=R) hI ho hm (fun _=>?_)))|(show aA _ 112 _ _ _;refine CA (h:=Be (ps:= []) (show uP 4 id false ⟨#[]⟩ 0 0 0 false n 0 0 []=false from hc) eD rfl (show(0:Nat)<1000000000000000 by decide) ?_)))
   all_goals(refine aC ?_;exact aK (aG.trans (by exact aY) ((dY (x:=x) (a:=a) (s:=aD s) (M:=none) (mc:=0) (R:=R) hi))) (hK _ _))
  ·by_cases hq:Ei (lX id n) s.out=0
   ·have hE:lK id n s=0:=by unfold lK;rw[if_neg (fun q=>q hf),if_neg (by rw[hc];decide),if_neg (fun q=>q hq)]
    rw[hE,if_neg (by decide),hm] at hK
    refine aH Tryz.func207 ?_
    repeat' (first|refine JC ?_|refine dw jI ?_|refine wr ?_|refine w5 ?_ ?_|((refine bh fun h=>?_) <;> try exact w6 h)|(refine aE fun hA=>?_;subst hA)|intro _|(show aA _ 116 _ _ _;refine CA (h:=fJ (x:=x) (a:=a) (s:=s) (M:=M) (mc:=mc) (R:=R) hI ho hm (fun _=>?_)))|(show aA _ 112 _ _ _;refine CA (h:=iD (ps:= []) (show uP 4 id false ⟨#[]⟩ 0 0 0 false n 0 0 []=true from hc) eD rfl (show(0:Nat)<1000000000000000 by decide) ?_))|(show aA _ 60 _ _ _;refine CA (h:=jR (f:=lX id n) hI.ou eD rfl (show(0:Nat)<1000000000000000 by decide) ?_);rw[hq])|(show aA _ 254 _ _ _;refine CA (h:=AJ (x:=x) (a:=a) (s:= { aD s with out:=yZ (lX id n) s.out }) (M:=none) (mc:=0) (R:=R) (m:=m) (qN (bF hI)) hm (.inl rfl) (fun _ _=>?_))))
    all_goals(refine aC ?_;exact aB (hK _ _))
   ·have hE:lK id n s=9:=by unfold lK;rw[if_neg (fun q=>q hf),if_neg (by rw[hc];decide),if_pos hq]
    rw[hE,if_pos (by decide)] at hK
    have h9:=GY hq
    refine aH Tryz.func207 ?_
    repeat' (first|(show Br _ _ _;refine Br.t (by first | (simp <;> done) | simpa using hq) ?_)|refine JC ?_|refine dw jI ?_|refine wr ?_|refine w5 ?_ ?_|((refine bh fun h=>?_) <;> try exact w6 h)|(refine aE fun hA=>?_;subst hA)|intro _|(show aA _ 116 _ _ _;refine CA (h:=fJ (x:=x) (a:=a) (s:=s) (M:=M) (mc:=mc) (R:=R) hI ho hm (fun _=>?_)))|(show aA _ 112 _ _ _;refine CA (h:=iD (ps:= []) (show uP 4 id false ⟨#[]⟩ 0 0 0 false n 0 0 []=true from hc) eD rfl (show(0:Nat)<1000000000000000 by decide) ?_))|(show aA _ 60 _ _ _;refine CA (h:=jR (f:=lX id n) hI.ou eD rfl (show(0:Nat)<1000000000000000 by decide) ?_);rw[h9]))
    all_goals(refine aC ?_;exact aK (aG.trans (by exact aY) ((dY (x:=x) (a:=a) (s:=aD s) (M:=none) (mc:=0) (R:=R) hi))) (hK _ _))
 ·have hE:lK id n s=cJ s id:=by unfold lK;rw[if_pos hf]
  rw[hE,if_pos hf] at hK
  refine aH Tryz.func207 ?_
  repeat' (first|(show Br _ _ _;refine Br.t (by first | (simp <;> done) | simpa using hf) ?_)|refine JC ?_|refine dw jI ?_|refine wr ?_|refine w5 ?_ ?_|((refine bh fun h=>?_) <;> try exact w6 h)|(refine aE fun hA=>?_;subst hA)|intro _|(show aA _ 116 _ _ _;refine CA (h:=nA (x:=x) (a:=a) (s:=s) (M:=M) (mc:=mc) (R:=R) hI hf ?_)))
  all_goals(refine aC ?_;exact aB (hK _ _))
def iK:List (Nat×Nat):= [(0,0),(1,0),(2,0),(3,0),(4,0),(5,1),(6,0),(7,0)]
def hQ:List (Nat×Nat):= [(0,0),(1,0),(2,0),(3,0),(4,0),(5,0),(6,1),(7,0)]
theorem Xw {on w:Int} {xx:Bool} (hI:bS B s) (hK:∀M mc,K (.int .i64 (Mb id on w xx s)) (bY x a (vR id on w xx s) M mc R)):aA Tryz.prog 206 #[.pointer (some ⟨x,0,none⟩),.int .i64 id,.agg #[.int .i64 on,.int .i64 w,.bool xx]] (bY x a s M mc R) K:=by
 have htl:=hI.tr.len
 obtain⟨rk,hrk⟩:=hI.tr.rk
 unfold Mb vR at hK
 by_cases hf:cJ s id=0
 ·obtain⟨ho,m,hm⟩:=pU hf
  obtain⟨hi,hmid⟩:=aZ hm
  rw[if_neg (fun q=>q hf)] at hK
  cases hc:l8 (rZ id on w xx)
  ·rw[if_pos hc,if_pos (.inr (.inl hc))] at hK
   refine aH Tryz.func206 ?_
   repeat' (first|refine Jc ?_|refine dw iK ?_|refine dw hQ ?_|refine wr ?_|refine w5 ?_ ?_|((refine bh fun h=>?_) <;> try exact w6 h)|(refine aE fun hA=>?_;subst hA)|intro _|(show aA _ 116 _ _ _;refine CA (h:=fJ (x:=x) (a:=a) (s:=s) (M:=M) (mc:=mc) hI ho hm (fun _=>?_)))|(show aA _ 112 _ _ _;refine CA (h:=Be (ps:= []) (show uP 3 id false ⟨#[]⟩ 0 on w xx 0 0 0 []=false from hc) eD rfl (show(0:Nat)<1000000000000000 by decide) ?_)))
   all_goals(refine aC ?_;exact aK (aG.trans (by exact aY) ((dY (x:=x) (a:=a) (s:=aD s) (M:=none) (mc:=0) (R:=R) hi))) (hK _ _))
  ·have hc0:¬l8 (rZ id on w xx)=false:=by rw[hc];decide
   rw[if_neg hc0] at hK
   by_cases h1:on=id
   ·rw[if_pos h1,if_pos (.inr (.inr (.inl h1)))] at hK
    refine aH Tryz.func206 ?_
    repeat' (first|refine Jc ?_|refine dw iK ?_|refine dw hQ ?_|refine wr ?_|refine w5 ?_ ?_|((refine bh fun h=>?_) <;> try exact w6 h)|(refine aE fun hA=>?_;subst hA)|intro _|(show aA _ 116 _ _ _;refine CA (h:=fJ (x:=x) (a:=a) (s:=s) (M:=M) (mc:=mc) hI ho hm (fun _=>?_)))|(show aA _ 112 _ _ _;refine CA (h:=iD (ps:= []) (show uP 3 id false ⟨#[]⟩ 0 on w xx 0 0 0 []=true from hc) eD rfl (show(0:Nat)<1000000000000000 by decide) ?_)))
    all_goals(refine aC ?_;exact aK (aG.trans (by exact aY) ((dY (x:=x) (a:=a) (s:=aD s) (M:=none) (mc:=0) (R:=R) hi))) (hK _ _))
   ·rw[if_neg h1] at hK
    by_cases hq:Ei (rZ id on w xx) s.out=0
    ·rw[if_neg (fun q=>q hq),if_neg (fun q=>q.elim (fun q=>q hf) (fun q=>q.elim hc0 (fun q=>q.elim h1 (fun q=>q hq))))] at hK
     refine aH Tryz.func206 ?_
     repeat' (first|refine Jc ?_|refine dw iK ?_|refine dw hQ ?_|refine wr ?_|refine w5 ?_ ?_|((refine bh fun h=>?_) <;> try exact w6 h)|(refine aE fun hA=>?_;subst hA)|intro _|(show aA _ 116 _ _ _;refine CA (h:=fJ (x:=x) (a:=a) (s:=s) (M:=M) (mc:=mc) hI ho hm (fun _=>?_)))|(show aA _ 112 _ _ _;refine CA (h:=iD (ps:= []) (show uP 3 id false ⟨#[]⟩ 0 on w xx 0 0 0 []=true from hc) eD rfl (show(0:Nat)<1000000000000000 by decide) ?_))|(show aA _ 60 _ _ _;refine CA (h:=jR (f:=rZ id on w xx) hI.ou eD rfl (show(0:Nat)<1000000000000000 by decide) ?_);rw[hq])|(show aA _ 262 _ _ _;refine CA (h:=J7 (s:=s.tr) hI.tr.kok (by omega) hrk ?_)))
     all_goals(refine aC ?_;exact aK (aG.trans (by exact aY) ((dY (x:=x) (a:=a) (s:= { aD s with out:=yZ (rZ id on w xx) s.out,tr:=jZ id on w xx s.tr }) (M:=none) (mc:=0) (R:=R) hi))) (hK _ _))
    ·rw[if_pos hq,if_pos (.inr (.inr (.inr hq)))] at hK
     have h9:=GY hq
     refine aH Tryz.func206 ?_
     repeat' (first|(show Br _ _ _;refine Br.t (by first | (simp <;> done) | simpa using hq) ?_)|refine Jc ?_|refine dw iK ?_|refine dw hQ ?_|refine wr ?_|refine w5 ?_ ?_|((refine bh fun h=>?_) <;> try exact w6 h)|(refine aE fun hA=>?_;subst hA)|intro _|(show aA _ 116 _ _ _;refine CA (h:=fJ (x:=x) (a:=a) (s:=s) (M:=M) (mc:=mc) hI ho hm (fun _=>?_)))|(show aA _ 112 _ _ _;refine CA (h:=iD (ps:= []) (show uP 3 id false ⟨#[]⟩ 0 on w xx 0 0 0 []=true from hc) eD rfl (show(0:Nat)<1000000000000000 by decide) ?_))|(show aA _ 60 _ _ _;refine CA (h:=jR (f:=rZ id on w xx) hI.ou eD rfl (show(0:Nat)<1000000000000000 by decide) ?_);rw[h9]))
     all_goals(refine aC ?_;exact aK (aG.trans (by exact aY) ((dY (x:=x) (a:=a) (s:=aD s) (M:=none) (mc:=0) (R:=R) hi))) (hK _ _))
 ·rw[if_pos hf,if_pos (.inl hf)] at hK
  refine aH Tryz.func206 ?_
  repeat' (first|(show Br _ _ _;refine Br.t (by first | (simp <;> done) | simpa using hf) ?_)|refine Jc ?_|refine dw iK ?_|refine dw hQ ?_|refine wr ?_|refine w5 ?_ ?_|((refine bh fun h=>?_) <;> try exact w6 h)|(refine aE fun hA=>?_;subst hA)|intro _|(show aA _ 116 _ _ _;refine CA (h:=nA (x:=x) (a:=a) (s:=s) (M:=M) (mc:=mc) (R:=R) hI hf ?_)))
  all_goals(refine aC ?_;exact aB (hK _ _))
end
end Go.Proofs.YtifgibijcmppmaaGreat
