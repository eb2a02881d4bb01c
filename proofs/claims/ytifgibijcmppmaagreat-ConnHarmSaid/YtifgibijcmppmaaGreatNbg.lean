/- A part of the proof: lemmas; each with the conditions that it states. -/
import Derived.Test.YtifgibijcmppmaaGreatNbf
set_option linter.unusedVariables false
set_option linter.unusedSimpArgs false
namespace Go.Proofs.YtifgibijcmppmaaGreat
open Go Go.Proofs Go.Sl
set_option maxRecDepth 100000
set_option maxHeartbeats 40000000
attribute [local irreducible] aN fB cJ bO aM aY aA dM dQ aW dK pt ro fF star sep bI
attribute [local irreducible] mp El
section
variable {R C:List HP} {K:Value→List HP→Prop} {x mc i b p r:Nat} {a:Ca} {s:Cn} {M:Option Addr} {B:Int} {f:Fm}
theorem Fz (hI:bU B s) (hB:B+300≤249000000) (hr:dB f) (hv:cZ R f.pa nV f.ps) (hn:f.ps.length=f.pn) (hK:∀M mc,K (.tuple #[]) (b7 x a (bS f s) M mc R)):aA Tryz.prog 77 #[.pointer (some ⟨x,0,none⟩),.agg #[.int .i64 f.t,.int .i64 f.st,.bool f.e,.string f.d,.int .i64 f.k,.int .i64 f.on,.int .i64 f.w,.bool f.x,.int .i64 f.c,.int .i64 f.la,.int .i64 f.n,.slice f.pa f.pn f.pc]] (b7 x a s M mc R) K:=by
 have ht:=hr.1
 obtain⟨t,st,e,d,k,on,w,xx,c,la,n,pa,pn,pc,ps⟩:=f
 dsimp only at ht hv hn ⊢
 rcases(by omega:t=0∨t=1∨t=2∨t=3∨t=4∨t=5∨t=6∨t=7∨t=8∨t=9∨t=10∨t=11) with rfl|rfl|rfl|rfl|rfl|rfl|rfl|rfl|rfl|rfl|rfl|rfl
 ·exact LA hI hB hr hv hn hK
 ·exact Lg hI hB hr hv hn hK
 ·exact Mh hI hB hr hv hn hK
 ·exact My hI hB hr hv hn hK
 ·exact Mi hI hB hr hv hn hK
 ·exact Lh hI hB hr hv hn hK
 ·exact Mr hI hB hr hv hn hK
 ·exact L9 hI hB hr hv hn hK
 ·exact Me hI hB hr hv hn hK
 ·exact Md hI hB hr hv hn hK
 ·exact Jy hI hB hr hv hn hK
 ·exact Ju hI hB hr hv hn hK
end
section
variable {R C:List HP} {K:Value→List HP→Prop} {x mc i b p r:Nat} {a:Ca} {s:Cn} {M:Option Addr} {B:Int} {f:Fm}
theorem P0 {p:ByteArray} (h:Dh p=none):dB (KF p):=by
 unfold Dh at h
 split at h
 ·cases h
 ·split at h
  ·split at h
   ·split at h
    ·cases h
    ·split at h
     ·rename_i hg
      unfold gE at hg
      split at hg
      ·split at hg
       ·split at hg
        ·rename_i hk
         unfold gOk gB at hk
         rw[Bool.and_eq_true] at hk
         exact(tO _ _ _ _ _ _ _ _ _ _ _ _).1 hk.1
        ·cases hg
       ·cases hg
      ·rename_i hq;first|exact absurd hg hq|exact absurd (by assumption) hq
     ·cases h
   ·cases h
  ·cases h
theorem Ye:∀(k:Nat) (bs:List UInt8),bs.length≤k→∀p∈(pF bs).1,Dh p=none:=by
 intro k
 induction k with
 |zero=>
  intro bs hb p hp
  cases hs:Dh (lH bs) with
  |some e=>rw[yL hs] at hp;cases hp
  |none=>
   exfalso
   have h0:bs.length=0:=by omega
   unfold Dh at hs
   rw[if_pos (by rw[pI];omega)] at hs
   cases hs
 |succ k ih=>
  intro bs hb p hp
  cases hs:Dh (lH bs) with
  |some e=>rw[yL hs] at hp;cases hp
  |none=>
   rw[Gq hs] at hp
   rcases List.mem_cons.1 hp with rfl|hp
   ·exact hs
   ·refine ih _ ?_ p hp
    have h9:¬(lH bs).size<9:=fun hq=>by unfold Dh at hs;rw[if_pos hq] at hs;cases hs
    rw[pI] at h9
    have hL:0≤sL (lH bs):=by
     unfold Dh at hs
     split at hs
     ·cases hs
     ·split at hs
      ·split at hs
       ·rename_i hf;exact(Lq hf).1
       ·cases hs
      ·cases hs
    rw[List.length_drop]
    omega
theorem QX {fs:List Fm} {bs:List UInt8} (h:fs.map jW=(pF bs).1.map KF):∀z∈fs,dB z∧z.ps.length=z.pn:=fun z hz=>by
 have h1:jW z∈(pF bs).1.map KF:=by rw[← h];exact List.mem_map_of_mem hz
 obtain⟨p,hp,he⟩:=List.mem_map.1 h1
 have h2:=P0 (Ye bs.length bs (Nat.le_refl _) p hp)
 rw[he] at h2
 refine⟨h2,?_⟩
 have h3:(KF p).ps.length=(KF p).pn:=rfl
 rw[he] at h3
 exact h3
theorem IV {u:List UInt8} (h:bU B s) (hB:B+u.length≤250000000):bU (B+u.length) (i9 u (aD s)).2:=
 { h.mono (B':=B+u.length) (by omega) hB with
   inb:=by
    have h1:=h.inb
    have h2:=(Uh (s.inb++u).length (s.inb++u) (Nat.le_refl _)).2
    rw[List.length_append] at h2
    show((if(pF (s.inb++u)).2.2=0 then(pF (s.inb++u)).2.1 else []:List UInt8).length:Int)≤B+u.length
    split
    ·omega
    ·have:=h.bb;simp only[List.length_nil];omega
   mv:=by
    have h1:=h.mv
    have:=h.bb
    show(([]:List Mv).length:Int)+s.l.length≤B+u.length
    simp only[List.length_nil];omega }
theorem Abc {x:Nat} {ks:List UInt8} {s:ByteArray} {e0:Int} (h0:e0=0) (hz:ks.length+s.size<4000000) (hK:∀F c fs,fs.map jW=(pF (ks++s.data.toList)).1.map KF→K (.tuple #[.slice F fs.length c,.int .i64 (pF (ks++s.data.toList)).2.2]) (bT F c 45 sR fs::jY xS fs::spP x (if(pF (ks++s.data.toList)).2.2=0 then(pF (ks++s.data.toList)).2.1 else []) (pF (ks++s.data.toList)).2.2::R)):aA Tryz.prog 76 #[.pointer (some ⟨x,0,none⟩),.string s] (spP x ks e0::R) K:=by
 subst h0;exact Ag0 hz hK
theorem VN {u:ByteArray} (hI:bU B s) (he:s.dr.ov=true∨s.ine=0) (hu:s.inb.length+u.size<4000000) (hB:B+u.size+300 * (pF (s.inb++u.data.toList)).1.length≤248000000) (hK:∀M mc,K (.int .i64 (vK s)) (b7 x a (eB u.data.toList s) M mc R)):aA Tryz.prog 14 #[.pointer (some ⟨x,0,none⟩),.string u] (b7 x a s M mc R) K:=by
 have hbb:=hI.bb
 have hsz:u.data.toList.length=u.size:=Array.length_toList
 unfold vK eB at hK
 cases ho:s.dr.ov
 ·rw[ho] at hK
  simp only[Bool.false_eq_true,if_false] at hK
  have hine:s.ine=0:=he.resolve_left (by rw[ho];decide)
  have hI1:=IV (u:=u.data.toList) hI (by omega)
  have hst:(i9 u.data.toList (aD s)).2= { aD s with inb:=(if(pF (s.inb++u.data.toList)).2.2=0 then(pF (s.inb++u.data.toList)).2.1 else []),ine:=(pF (s.inb++u.data.toList)).2.2 }:=rfl
  have hfs:(i9 u.data.toList (aD s)).1=(pF (s.inb++u.data.toList)).1.map KF:=rfl
  rw[hfs] at hK
  generalize hs1:(i9 u.data.toList (aD s)).2=s1 at hK hst hI1
  have ho1:s1.dr.ov=false:=by rw[hst];exact ho
  refine aH Tryz.func14 ?_
  repeat' (first|refine Mn ?_|refine wr ?_|refine w5 ?_ ?_|((refine bh fun h=>?_) <;> try exact w6 h)|(refine aE fun hA=>?_;subst hA)|intro _|(show aA _ 75 _ _ _;refine CA (h:=cC (x:=x) (a:=a) (s:=s) (M:=M) (mc:=mc) (R:=R) ?_);rw[ho,if_neg Bool.false_ne_true])|(show aA _ 76 _ _ _;refine CA (h:=Abc (e0:=(aD s).ine) (ks:=s.inb) (s:=u) hine hu (fun F c fs hfe=>?_))))
  subst hst
  have hfl:=congrArg List.length hfe
  simp only[List.length_map] at hfl
  refine iF (fun n1 a' C'=>∃(j:Nat) (s':Cn) (M':Option Addr) (mc':Nat),j+n1=fs.length∧bU (B+u.data.toList.length+300 * j) s'∧s'.dr.ov=false∧eD ((fs.drop j).map jW) s'=eD ((pF (s.inb++u.data.toList)).1.map KF) { aD s with inb:=(if(pF (s.inb++u.data.toList)).2.2=0 then(pF (s.inb++u.data.toList)).2.1 else []),ine:=(pF (s.inb++u.data.toList)).2.2 }∧cN a' [(0,.pointer (some ⟨x,0,none⟩)),(7,.int .i64 (pF (s.inb++u.data.toList)).2.2),(24,.slice F fs.length c),(25,.int .i64 fs.length),(26,.int .i64 j)]∧C'=bT F c 45 sR fs::jY xS fs::b7 x a s' M' mc' R) fs.length (b9 fs.length ⟨0,{ aD s with inb:=(if(pF (s.inb++u.data.toList)).2.2=0 then(pF (s.inb++u.data.toList)).2.1 else []),ine:=(pF (s.inb++u.data.toList)).2.2 },none,0,by omega,hI1.mono (by omega) (by omega),ho1,by rw[List.drop_zero,hfe],⟨rfl,rfl,rfl,rfl,rfl,trivial⟩,rfl⟩ (by omega)) ?_
  rintro n1 a' C' ⟨j,s',M',mc',hj,hI',ho',hc,ha,rfl⟩
  refine gF _ ha ?_
  simp only[eQ]
  by_cases hlt:j<fs.length
  ·obtain⟨z,hz,hd⟩:=jP (l:=fs) (j:=j) hlt
   have hzm:=List.mem_of_getElem? hz
   obtain⟨hzr,hzn⟩:=QX hfe z hzm
   have hv:fs[((j:Nat):Int).toNat]?=some z:=by rw[Int.toNat_natCast];exact hz
   rw[hd] at hc
   have hc2:(if(bS z s').dr.ov=true then bS z s' else eD ((fs.drop (j+1)).map jW) (bS z s'))=eD ((pF (s.inb++u.data.toList)).1.map KF) { aD s with inb:=(if(pF (s.inb++u.data.toList)).2.2=0 then(pF (s.inb++u.data.toList)).2.1 else []),ine:=(pF (s.inb++u.data.toList)).2.2 }:=hc
   have hI2:=Cg hI' (by omega) hzr
   cases hov:(bS z s').dr.ov
   ·rw[hov,if_neg Bool.false_ne_true] at hc2
    repeat' (first|refine Mn ?_|refine wr ?_|refine w5 ?_ ?_|((refine bh fun h=>?_) <;> try exact w6 h)|(refine aE fun hA=>?_;subst hA)|intro _|(show aA _ 77 _ _ _;refine CA (h:=Fz (x:=x) (a:=a) (s:=s') (M:=M') (mc:=mc') (R:=bT _ c 45 sR fs::jY xS fs::R) (f:=z) hI' (by omega) hzr (bB (uY hzm)) hzn (fun _ _=>?_)))|(show aA _ 78 _ _ _;refine CA (h:=kI (x:=x) (a:=a) (s:=bS z s') ?_);rw[hov]))
    all_goals(show aW _ _ _ _;exact b9 (n1 - 1) ⟨j+1,bS z s',_,_,by omega,hI2.mono (by omega) (by omega),hov,hc2,⟨rfl,rfl,rfl,rfl,rfl,trivial⟩,rfl⟩)
   ·rw[hov,if_pos rfl] at hc2
    rw[← hc2,if_pos (.inl hov)] at hK
    repeat' (first|refine Mn ?_|refine wr ?_|refine w5 ?_ ?_|((refine bh fun h=>?_) <;> try exact w6 h)|(refine aE fun hA=>?_;subst hA)|intro _|(show aA _ 77 _ _ _;refine CA (h:=Fz (x:=x) (a:=a) (s:=s') (M:=M') (mc:=mc') (R:=bT _ c 45 sR fs::jY xS fs::R) (f:=z) hI' (by omega) hzr (bB (uY hzm)) hzn (fun _ _=>?_)))|(show aA _ 78 _ _ _;refine CA (h:=kI (x:=x) (a:=a) (s:=bS z s') ?_);rw[hov]))
    all_goals(refine aC ?_;exact aB (hK _ _))
  ·have hd:fs.drop j= []:=List.drop_eq_nil_of_le (by omega)
   rw[hd] at hc
   have hc2:s'=eD ((pF (s.inb++u.data.toList)).1.map KF) { aD s with inb:=(if(pF (s.inb++u.data.toList)).2.2=0 then(pF (s.inb++u.data.toList)).2.1 else []),ine:=(pF (s.inb++u.data.toList)).2.2 }:=hc
   rw[← hc2] at hK
   by_cases hE:(pF (s.inb++u.data.toList)).2.2=0
   ·rw[if_pos (.inr hE)] at hK
    repeat' (first|refine Mn ?_|refine wr ?_|refine w5 ?_ ?_|((refine bh fun h=>?_) <;> try exact w6 h)|(refine aE fun hA=>?_;subst hA)|intro _)
    all_goals(refine aC ?_;exact aB (hK _ _))
   ·rw[if_neg (fun q=>q.elim (fun w=>by rw[ho'] at w;cases w) hE)] at hK
    repeat' (first|(show Br _ _ _;refine Br.t (by first|(simp <;> done)|simpa using hE) ?_)|refine Mn ?_|refine wr ?_|refine w5 ?_ ?_|((refine bh fun h=>?_) <;> try exact w6 h)|(refine aE fun hA=>?_;subst hA)|intro _|(show aA _ 79 _ _ _;refine CA (h:=dN (x:=x) (a:=a) (s:=s') hI' (by decide) (by decide) (fun _ _=>?_))))
    all_goals(refine aC ?_;exact aB (hK _ _))
 ·rw[ho,if_pos rfl,if_pos rfl] at hK
  refine aH Tryz.func14 ?_
  repeat' (first|refine Mn ?_|refine wr ?_|refine w5 ?_ ?_|((refine bh fun h=>?_) <;> try exact w6 h)|(refine aE fun hA=>?_;subst hA)|intro _|(show aA _ 75 _ _ _;refine CA (h:=cC (x:=x) (a:=a) (s:=s) (M:=M) (mc:=mc) (R:=R) ?_);rw[ho,if_pos rfl]))
  all_goals(refine aC ?_;exact aB (hK _ _))
end
section
variable {R C:List HP} {K:Value→List HP→Prop} {x mc i b p r:Nat} {a:Ca} {s:Cn} {M:Option Addr} {B id n:Int} {m:Sm} {d:ByteArray} {y:Ys}
theorem qI (h:cH s id=0):s.dr.ov=false∧∃m,cB id s.l=some m:=by
 unfold cH at h
 cases ho:s.dr.ov
 ·refine⟨rfl,?_⟩
  rw[ho,if_neg Bool.false_ne_true] at h
  cases hm:cB id s.l with
  |some m=>exact⟨m,rfl⟩
  |none=>
   rw[hm] at h
   dsimp only at h
   split at h <;> cases h
 ·rw[ho,if_pos rfl] at h;cases h
theorem WJ (hb:0≤s.now∧s.now≤1000000000) (hK:K (.int .i64 (s.now+1)) (b7 x a (sV s) M mc R)):aA Tryz.prog 102 #[.pointer (some ⟨x,0,none⟩)] (b7 x a s M mc R) K:=by
 dsimp only[b7,mV,sV] at hK ⊢
 refine aH Tryz.func102 ?_
 repeat' (first|refine FL ?_|refine wr ?_|refine w5 ?_ ?_|((refine bh fun h=>?_) <;> try exact w6 h)|(refine aE fun hA=>?_;subst hA)|intro _)
 all_goals(refine aC ?_;exact aB (hK))
theorem Bl:(zG m d).id=m.id:=by unfold zG;split <;> rfl
theorem AJ:(z1 m).id=m.id:=by unfold z1;split <;> rfl
theorem Q5 (hI:bU B s) (hd:d.size≤100000000) (hK:K (.tuple #[.int .i64 (pD id d s).1,.int .i64 (pD id d s).2]) (b7 x a (lW id d s) none 0 R)):aA Tryz.prog 44 #[.pointer (some ⟨x,0,none⟩),.int .i64 id,.string d] (b7 x a s M mc R) K:=by
 have hbb:=hI.bb
 unfold pD lW at hK
 by_cases hf:cH s id=0
 ·obtain⟨ho,m,hm⟩:=qI hf
  obtain⟨hi,hmid⟩:=aU hm
  have hac:=(hI.st m (List.mem_of_getElem? hi)).ac
  simp only[if_neg (fun q=>q hf:¬cH s id≠0)] at hK
  rw[hm] at hK
  dsimp only at hK
  rw[eL (id:=id) (Bl.trans hmid)] at hK
  refine aH Tryz.func44 ?_
  repeat' (first|refine v2 ?_|refine wr ?_|refine w5 ?_ ?_|((refine bh fun h=>?_) <;> try exact w6 h)|(refine aE fun hA=>?_;subst hA)|intro _|(show aA _ 116 _ _ _;refine CA (h:=fV (x:=x) (a:=a) (s:=s) (M:=M) (mc:=mc) (R:=R) hI ho hm (fun _=>?_)))|(show aA _ 138 _ _ _;refine CA (h:=Aca (m:=m) (by omega) (by omega) ?_)))
  all_goals(refine aC ?_;exact aL (aG.trans (by exact bA) ((mO (x:=x) (a:=a) (s:=aD s) (M:=none) (mc:=0) (R:=R) (m':=zG m d) hi Bl))) (hK))
 ·simp only[if_pos hf] at hK
  refine aH Tryz.func44 ?_
  repeat' (first|(show Br _ _ _;refine Br.t (by first|(simp <;> done)|simpa using hf) ?_)|refine v2 ?_|refine wr ?_|refine w5 ?_ ?_|((refine bh fun h=>?_) <;> try exact w6 h)|(refine aE fun hA=>?_;subst hA)|intro _|(show aA _ 116 _ _ _;refine CA (h:=oB (x:=x) (a:=a) (s:=s) (M:=M) (mc:=mc) (R:=R) hI hf ?_)))
  all_goals(refine aC ?_;exact aB (hK))
theorem Ab5 (hI:bU B s) (hK:K (.int .i64 (Mp id s)) (b7 x a (y5 id s) none 0 R)):aA Tryz.prog 204 #[.pointer (some ⟨x,0,none⟩),.int .i64 id] (b7 x a s M mc R) K:=by
 unfold Mp y5 at hK
 by_cases hf:cH s id=0
 ·obtain⟨ho,m,hm⟩:=qI hf
  obtain⟨hi,hmid⟩:=aU hm
  simp only[if_neg (fun q=>q hf:¬cH s id≠0)] at hK
  rw[hm] at hK
  dsimp only at hK
  rw[eL (id:=id) (AJ.trans hmid)] at hK
  refine aH Tryz.func204 ?_
  repeat' (first|refine v2 ?_|refine wr ?_|refine w5 ?_ ?_|((refine bh fun h=>?_) <;> try exact w6 h)|(refine aE fun hA=>?_;subst hA)|intro _|(show aA _ 116 _ _ _;refine CA (h:=fV (x:=x) (a:=a) (s:=s) (M:=M) (mc:=mc) (R:=R) hI ho hm (fun _=>?_)))|(show aA _ 295 _ _ _;refine CA (h:=Acw (m:=m) ?_)))
  all_goals(refine aC ?_;exact aL (aG.trans (by exact bA) ((mO (x:=x) (a:=a) (s:=aD s) (M:=none) (mc:=0) (R:=R) (m':=z1 m) hi AJ))) (hK))
 ·simp only[if_pos hf] at hK
  refine aH Tryz.func204 ?_
  repeat' (first|(show Br _ _ _;refine Br.t (by first|(simp <;> done)|simpa using hf) ?_)|refine v2 ?_|refine wr ?_|refine w5 ?_ ?_|((refine bh fun h=>?_) <;> try exact w6 h)|(refine aE fun hA=>?_;subst hA)|intro _|(show aA _ 116 _ _ _;refine CA (h:=oB (x:=x) (a:=a) (s:=s) (M:=M) (mc:=mc) (R:=R) hI hf ?_)))
  all_goals(refine aC ?_;exact aB (hK))
theorem Aby:jI (F1 y n)=jI y:=by cases y <;> rfl
theorem X1 (hI:bU B s) (hK:K (.int .i64 (Mu id n s)) (b7 x a (yZ id n s) none 0 R)):aA Tryz.prog 205 #[.pointer (some ⟨x,0,none⟩),.int .i64 id,.int .i64 n] (b7 x a s M mc R) K:=by
 unfold Mu yZ at hK
 by_cases hf:cH s id=0
 ·obtain⟨ho,m,hm⟩:=qI hf
  obtain⟨hi,hmid⟩:=aU hm
  simp only[if_neg (fun q=>q hf:¬cH s id≠0)] at hK
  rw[hm] at hK
  dsimp only at hK
  rw[eL (id:=id) (show({ m with y:=F1 m.y n }:Sm).id=id from hmid)] at hK
  refine aH Tryz.func205 ?_
  repeat' (first|refine v2 ?_|refine wr ?_|refine w5 ?_ ?_|((refine bh fun h=>?_) <;> try exact w6 h)|(refine aE fun hA=>?_;subst hA)|intro _|(show aA _ 116 _ _ _;refine CA (h:=fV (x:=x) (a:=a) (s:=s) (M:=M) (mc:=mc) (R:=R) hI ho hm (fun _=>?_)))|(show aA _ 89 _ _ _;refine CA (h:=nM (m:=m) (fun _=>?_)))|(show aA _ 296 _ _ _;refine CA (h:=Afb (y:=m.y) ?_)))
  all_goals(refine aC ?_;exact aL (aG.trans (by exact bA) ((aG.trans (k8 Aby) (mO (x:=x) (a:=a) (s:=aD s) (M:=none) (mc:=0) (R:=R) (m':= { m with y:=F1 m.y n }) hi rfl)))) (hK))
 ·simp only[if_pos hf] at hK
  refine aH Tryz.func205 ?_
  repeat' (first|(show Br _ _ _;refine Br.t (by first|(simp <;> done)|simpa using hf) ?_)|refine v2 ?_|refine wr ?_|refine w5 ?_ ?_|((refine bh fun h=>?_) <;> try exact w6 h)|(refine aE fun hA=>?_;subst hA)|intro _|(show aA _ 116 _ _ _;refine CA (h:=oB (x:=x) (a:=a) (s:=s) (M:=M) (mc:=mc) (R:=R) hI hf ?_)))
  all_goals(refine aC ?_;exact aB (hK))
end
section
variable {R C:List HP} {K:Value→List HP→Prop} {x mc i b p r:Nat} {a:Ca} {s:Cn} {M:Option Addr} {B id n:Int} {m:Sm} {d:ByteArray} {y:Ys}
theorem bH (h:bU B s):bU B (aD s):=
 { h with
   mv:=by
    have h1:=h.mv
    show(([]:List Mv).length:Int)+s.l.length≤B
    simp only[List.length_nil];omega }
theorem Ahz:jI (Ek y n)=jI y:=by cases y <;> rfl
theorem Ahw:jI (EP y)=jI y:=by
 cases y with
 |b y=>rfl
 |i y=>unfold EP;dsimp only;split <;> rfl
theorem Sn (h:Fs B m):Fs B { m with y:=Ek m.y n }:=by
 obtain⟨h1,h2,h3,h4⟩:=h
 refine⟨h1,h2,?_,?_⟩
 ·cases hy:m.y <;> (rw[hy] at h3;exact h3)
 ·cases hy:m.y with
  |b z=>rw[hy] at h4;simp only[Ek,gT,List.length_drop] at h4 ⊢;omega
  |i z=>rw[hy] at h4;exact h4
theorem RQ (h:Fs B m):Fs B { m with y:=EP m.y }:=by
 obtain⟨h1,h2,h3,h4⟩:=h
 cases hy:m.y with
 |b z=>rw[hy] at h3 h4;exact⟨h1,h2,h3,h4⟩
 |i z=>
  rw[hy] at h3 h4
  cases hl:z.l with
  |nil=>
   have e:EP (.i z)=.i z:=by simp only[EP,hl]
   rw[e];exact⟨h1,h2,h3,h4⟩
  |cons q r=>
   have e:EP (.i z)=.i { z with l:=r,tk:=z.tk+1 }:=by simp only[EP,hl]
   rw[e]
   refine⟨h1,h2,h3,?_⟩
   simp only[gT,hl,List.length_cons] at h4 ⊢
   omega
theorem Ahb {y:Ys} (h:(gT y:Int)≤B):(((BO y n).size:Nat):Int)≤max B 0:=by
 cases y with
 |b z=>
  have:(BO (.b z) n).size=min (Mo z n) z.bs.length:=by
   show((z.bs.take (Mo z n)).toArray).size=_
   simp
  simp only[gT] at h
  omega
 |i z=>show((0:Nat):Int)≤max B 0;omega
theorem Xe (hI:bU B s) (hK:∀M mc,K (.tuple #[.string (kB id n s).1,.bool (kB id n s).2.1,.int .i64 (kB id n s).2.2]) (b7 x a (mG id n s) M mc R)):aA Tryz.prog 26 #[.pointer (some ⟨x,0,none⟩),.int .i64 id,.int .i64 n] (b7 x a s M mc R) K:=by
 have hbb:=hI.bb
 have hrv:=hI.rv
 unfold I8 at hrv
 unfold kB mG at hK
 by_cases hf:cH s id=0
 ·obtain⟨ho,m,hm⟩:=qI hf
  obtain⟨hi,hmid⟩:=aU hm
  have hIm:=hI.st m (List.mem_of_getElem? hi)
  have hsz:=Ahb (n:=n) hIm.ln
  simp only[if_neg (fun q=>q hf:¬cH s id≠0)] at hK
  rw[hm] at hK
  dsimp only at hK
  by_cases hE:NJ m.y=0
  ·simp only[if_neg (fun q=>q hE:¬NJ m.y≠0)] at hK
   rw[eL (id:=id) (show({ m with y:=Ek m.y n }:Sm).id=id from hmid)] at hK
   have hI2:bU B { ({ aD s with rv:=gA s.rv ((BO m.y n).size:Nat) }:Cn) with l:=s.l.set (cE id s.l) { m with y:=Ek m.y n } }:=lP (s:= { aD s with rv:=gA s.rv ((BO m.y n).size:Nat) }) (pU (bH hI)) hi rfl rfl (Sn hIm)
   refine aH Tryz.func26 ?_
   repeat' (first|refine I6 ?_|refine wr ?_|refine w5 ?_ ?_|((refine bh fun h=>?_) <;> try exact w6 h)|(refine aE fun hA=>?_;subst hA)|intro _|(show aA _ 116 _ _ _;refine CA (h:=fV (x:=x) (a:=a) (s:=s) (M:=M) (mc:=mc) (R:=R) hI ho hm (fun _=>?_)))|(show aA _ 89 _ _ _;first|refine CA (h:=nM (m:=m) (fun _=>?_))|refine CA (h:=aA.ent (k8 Ahz) (nM (m:= { m with y:=Ek m.y n }) (fun _=>?_))))|(show aA _ 117 _ _ _;refine CA (h:=Pi (y:=m.y) ?_);rw[hE])|(show aA _ 118 _ _ _;refine CA (h:=uM (y:=s.rv) (by omega) (by omega) (fun _=>?_)))|(show aA _ 119 _ _ _;refine CA (h:=Oo (y:=Ek m.y n) ?_))|(show aA _ 120 _ _ _;refine CA (h:=aA.ent (k8 (m:= { m with y:=Ek m.y n }) (y:=Ek m.y n) rfl) (lG (x:=x) (a:=a) (s:= { aD s with rv:=gA s.rv ((BO m.y n).size:Nat) }) (i:=cE id s.l) (m:=m) (M:=none) (mc:=0) (R:=R) (m':= { m with y:=Ek m.y n }) hi rfl hI2 (mB hm rfl) (fun _ _=>?_)))))
   all_goals(refine aC ?_;exact aB (hK _ _))
  ·simp only[if_pos hE] at hK
   have hy:Ek m.y n=m.y∧BO m.y n=⟨#[]⟩:=by cases hq:m.y with
    |b z=>rw[hq] at hE;exact absurd rfl hE
    |i z=>exact⟨rfl,rfl⟩
   refine aH Tryz.func26 ?_
   repeat' (first|(show Br _ _ _;refine Br.t (by first|(simp <;> done)|simpa using hE) ?_)|refine I6 ?_|refine wr ?_|refine w5 ?_ ?_|((refine bh fun h=>?_) <;> try exact w6 h)|(refine aE fun hA=>?_;subst hA)|intro _|(show aA _ 116 _ _ _;refine CA (h:=fV (x:=x) (a:=a) (s:=s) (M:=M) (mc:=mc) (R:=R) hI ho hm (fun _=>?_)))|(show aA _ 89 _ _ _;refine CA (h:=nM (m:=m) (fun _=>?_)))|(show aA _ 117 _ _ _;refine CA (h:=Pi (y:=m.y) ?_);rw[hy.1,hy.2]))
   all_goals(refine aC ?_;exact aL (aG.trans (by exact bA) ((aG.trans (k8 (m:=m) (y:=m.y) rfl) (dD (x:=x) (a:=a) (s:=aD s) (M:=none) (mc:=0) (R:=R) hi)))) (hK _ _))
 ·simp only[if_pos hf] at hK
  refine aH Tryz.func26 ?_
  repeat' (first|(show Br _ _ _;refine Br.t (by first|(simp <;> done)|simpa using hf) ?_)|refine I6 ?_|refine wr ?_|refine w5 ?_ ?_|((refine bh fun h=>?_) <;> try exact w6 h)|(refine aE fun hA=>?_;subst hA)|intro _|(show aA _ 116 _ _ _;refine CA (h:=oB (x:=x) (a:=a) (s:=s) (M:=M) (mc:=mc) (R:=R) hI hf ?_)))
  all_goals(refine aC ?_;exact aB (hK _ _))
end
section
variable {R C:List HP} {K:Value→List HP→Prop} {x mc i b p r:Nat} {a:Ca} {s:Cn} {M:Option Addr} {B id n:Int} {m:Sm} {d:ByteArray} {y:Ys}
theorem Vs (hI:bU B s) (hK:∀M mc,K (.tuple #[.string (k7 id s).1,.bool (k7 id s).2.1,.bool (k7 id s).2.2.1,.int .i64 (k7 id s).2.2.2]) (b7 x a (pR id s) M mc R)):aA Tryz.prog 27 #[.pointer (some ⟨x,0,none⟩),.int .i64 id] (b7 x a s M mc R) K:=by
 have hbb:=hI.bb
 unfold k7 pR at hK
 by_cases hf:cH s id=0
 ·obtain⟨ho,m,hm⟩:=qI hf
  obtain⟨hi,hmid⟩:=aU hm
  have hIm:=hI.st m (List.mem_of_getElem? hi)
  simp only[if_neg (fun q=>q hf:¬cH s id≠0)] at hK
  rw[hm] at hK
  dsimp only at hK
  by_cases hE:W1 m.y=0
  ·simp only[if_neg (fun q=>q hE:¬W1 m.y≠0)] at hK
   rw[eL (id:=id) (show({ m with y:=EP m.y }:Sm).id=id from hmid)] at hK
   have hI2:bU B { aD s with l:=s.l.set (cE id s.l) { m with y:=EP m.y } }:=lP (s:=aD s) (bH hI) hi rfl rfl (RQ hIm)
   refine aH Tryz.func27 ?_
   repeat' (first|refine v2 ?_|refine wr ?_|refine w5 ?_ ?_|((refine bh fun h=>?_) <;> try exact w6 h)|(refine aE fun hA=>?_;subst hA)|intro _|(show aA _ 116 _ _ _;refine CA (h:=fV (x:=x) (a:=a) (s:=s) (M:=M) (mc:=mc) (R:=R) hI ho hm (fun _=>?_)))|(show aA _ 89 _ _ _;first|refine CA (h:=nM (m:=m) (fun _=>?_))|refine CA (h:=aA.ent (k8 Ahw) (nM (m:= { m with y:=EP m.y }) (fun _=>?_))))|(show aA _ 121 _ _ _;refine CA (h:=NZ (y:=m.y) ?_);rw[hE])|(show aA _ 119 _ _ _;refine CA (h:=Oo (y:=EP m.y) ?_))|(show aA _ 120 _ _ _;refine CA (h:=aA.ent (k8 (m:= { m with y:=EP m.y }) (y:=EP m.y) rfl) (lG (x:=x) (a:=a) (s:=aD s) (i:=cE id s.l) (m:=m) (M:=none) (mc:=0) (R:=R) (m':= { m with y:=EP m.y }) hi rfl hI2 (mB hm rfl) (fun _ _=>?_)))))
   all_goals(refine aC ?_;exact aB (hK _ _))
  ·simp only[if_pos hE] at hK
   have hy:EP m.y=m.y∧Akf m.y=⟨#[]⟩∧XS m.y=false:=by cases hq:m.y with
    |b z=>exact⟨rfl,rfl,rfl⟩
    |i z=>rw[hq] at hE;exact absurd rfl hE
   refine aH Tryz.func27 ?_
   repeat' (first|(show Br _ _ _;refine Br.t (by first|(simp <;> done)|simpa using hE) ?_)|refine v2 ?_|refine wr ?_|refine w5 ?_ ?_|((refine bh fun h=>?_) <;> try exact w6 h)|(refine aE fun hA=>?_;subst hA)|intro _|(show aA _ 116 _ _ _;refine CA (h:=fV (x:=x) (a:=a) (s:=s) (M:=M) (mc:=mc) (R:=R) hI ho hm (fun _=>?_)))|(show aA _ 89 _ _ _;refine CA (h:=nM (m:=m) (fun _=>?_)))|(show aA _ 121 _ _ _;refine CA (h:=NZ (y:=m.y) ?_);rw[hy.1,hy.2.1,hy.2.2]))
   all_goals(refine aC ?_;exact aL (aG.trans (by exact bA) ((aG.trans (k8 (m:=m) (y:=m.y) rfl) (dD (x:=x) (a:=a) (s:=aD s) (M:=none) (mc:=0) (R:=R) hi)))) (hK _ _))
 ·simp only[if_pos hf] at hK
  refine aH Tryz.func27 ?_
  repeat' (first|(show Br _ _ _;refine Br.t (by first|(simp <;> done)|simpa using hf) ?_)|refine v2 ?_|refine wr ?_|refine w5 ?_ ?_|((refine bh fun h=>?_) <;> try exact w6 h)|(refine aE fun hA=>?_;subst hA)|intro _|(show aA _ 116 _ _ _;refine CA (h:=oB (x:=x) (a:=a) (s:=s) (M:=M) (mc:=mc) (R:=R) hI hf ?_)))
  all_goals(refine aC ?_;exact aB (hK _ _))
theorem HB {f:Fm} {out:List Fm} (h:Em f out≠0):zA f out=out:=by unfold zA;rw[if_pos h]
def mP:List (Nat×Nat):= [(4,0),(5,0),(6,0),(7,0),(8,1),(0,1),(1,1),(2,1),(3,1),(9,0),(10,1),(11,0),(12,0)]
def mI:List (Nat×Nat):= [(4,0),(5,0),(6,0),(7,0),(8,1),(0,1),(1,1),(2,1),(3,1),(9,1),(10,0)]
theorem Af6 (hI:bU B s) (hK:K (.int .i64 (Um s)) (b7 x a (Ey s) none 0 R)):aA Tryz.prog 100 #[.pointer (some ⟨x,0,none⟩)] (b7 x a s M mc R) K:=by
 unfold Um Ey at hK
 cases ho:s.dr.ov
 ·cases hs:s.dr.se
  ·by_cases hq:Em (Eu s.la 0) s.out=0
   ·simp only[ho,hs,hq,Bool.false_eq_true,if_false,false_or,ne_eq,not_true_eq_false] at hK
    refine aH Tryz.func100 ?_
    repeat' (first|refine v46 ?_|refine dw mP ?_|refine dw mI ?_|refine wr ?_|refine w5 ?_ ?_|((refine bh fun h=>?_) <;> try exact w6 h)|(refine aE fun hA=>?_;subst hA)|intro _|(show aA _ 75 _ _ _;refine CA (h:=cC (x:=x) (a:=a) (s:=s) (M:=M) (mc:=mc) (R:=R) ?_);rw[ho,if_neg Bool.false_ne_true])|(show aA _ 201 _ _ _;refine CA (h:=ES (d:=s.dr) ?_);rw[hs])|(show aA _ 173 _ _ _;refine CA (h:=B8 (sd:=s.sd) (nx:=s.nx) (la:=s.la) ?_))|(show aA _ 60 _ _ _;refine CA (h:=kN (f:=Eu s.la 0) hI.ou eH rfl (show(0:Nat)<1000000000000000 by decide) ?_);rw[hq])|(show aA _ 202 _ _ _;refine CA (h:=Abf (d:=s.dr) ?_)))
    all_goals(refine aC ?_;exact aB (hK))
   ·simp only[ho,hs,hq,Bool.false_eq_true,if_false,false_or,ne_eq,not_false_eq_true,if_true] at hK
    have h9:=HB hq
    refine aH Tryz.func100 ?_
    repeat' (first|(show Br _ _ _;refine Br.t (by first|(simp <;> done)|simpa using hq) ?_)|refine v46 ?_|refine dw mP ?_|refine dw mI ?_|refine wr ?_|refine w5 ?_ ?_|((refine bh fun h=>?_) <;> try exact w6 h)|(refine aE fun hA=>?_;subst hA)|intro _|(show aA _ 75 _ _ _;refine CA (h:=cC (x:=x) (a:=a) (s:=s) (M:=M) (mc:=mc) (R:=R) ?_);rw[ho,if_neg Bool.false_ne_true])|(show aA _ 201 _ _ _;refine CA (h:=ES (d:=s.dr) ?_);rw[hs])|(show aA _ 173 _ _ _;refine CA (h:=B8 (sd:=s.sd) (nx:=s.nx) (la:=s.la) ?_))|(show aA _ 60 _ _ _;refine CA (h:=kN (f:=Eu s.la 0) hI.ou eH rfl (show(0:Nat)<1000000000000000 by decide) ?_);rw[h9]))
    all_goals(refine aC ?_;exact aB (hK))
  ·simp only[ho,hs,Bool.false_eq_true,if_false,if_true,true_or,or_true] at hK
   refine aH Tryz.func100 ?_
   repeat' (first|refine v46 ?_|refine dw mP ?_|refine dw mI ?_|refine wr ?_|refine w5 ?_ ?_|((refine bh fun h=>?_) <;> try exact w6 h)|(refine aE fun hA=>?_;subst hA)|intro _|(show aA _ 75 _ _ _;refine CA (h:=cC (x:=x) (a:=a) (s:=s) (M:=M) (mc:=mc) (R:=R) ?_);rw[ho,if_neg Bool.false_ne_true])|(show aA _ 201 _ _ _;refine CA (h:=ES (d:=s.dr) ?_);rw[hs]))
   all_goals(refine aC ?_;exact aB (hK))
 ·simp only[ho,if_true,true_or] at hK
  refine aH Tryz.func100 ?_
  repeat' (first|refine v46 ?_|refine dw mP ?_|refine dw mI ?_|refine wr ?_|refine w5 ?_ ?_|((refine bh fun h=>?_) <;> try exact w6 h)|(refine aE fun hA=>?_;subst hA)|intro _|(show aA _ 75 _ _ _;refine CA (h:=cC (x:=x) (a:=a) (s:=s) (M:=M) (mc:=mc) (R:=R) ?_);rw[ho,if_pos rfl]))
  all_goals(refine aC ?_;exact aB (hK))
end
section
variable {R C:List HP} {K:Value→List HP→Prop} {x mc i b p r:Nat} {a:Ca} {s:Cn} {M:Option Addr} {B id n:Int} {m:Sm} {d:ByteArray} {y:Ys}
theorem rI {f:Fm} (h:bU B s):bU B { s with out:=zA f s.out }:= { h with ou:=EI h.ou }
def j1:List (Nat×Nat):= [(0,0),(1,0),(2,0),(3,0),(4,0),(5,1),(6,0),(7,0)]
theorem SF (hI:bU B s) (hK:∀M mc,K (.int .i64 (lD id n s)) (b7 x a (nN id n s) M mc R)):aA Tryz.prog 207 #[.pointer (some ⟨x,0,none⟩),.int .i64 id,.int .i64 n] (b7 x a s M mc R) K:=by
 unfold nN at hK
 by_cases hf:cH s id=0
 ·obtain⟨ho,m,hm⟩:=qI hf
  obtain⟨hi,hmid⟩:=aU hm
  cases hc:mQ (mN id n)
  ·have hE:lD id n s=2:=by unfold lD;rw[if_neg (fun q=>q hf),if_pos hc]
   rw[hE,if_pos (by decide)] at hK
   refine aH Tryz.func207 ?_
   repeat' (first|refine Mn ?_|refine dw j1 ?_|refine wr ?_|refine w5 ?_ ?_|((refine bh fun h=>?_) <;> try exact w6 h)|(refine aE fun hA=>?_;subst hA)|intro _|(show aA _ 116 _ _ _;refine CA (h:=fV (x:=x) (a:=a) (s:=s) (M:=M) (mc:=mc) (R:=R) hI ho hm (fun _=>?_)))|(show aA _ 112 _ _ _;refine CA (h:=Bh (ps:= []) (show o7 4 id false ⟨#[]⟩ 0 0 0 false n 0 0 []=false from hc) eH rfl (show(0:Nat)<1000000000000000 by decide) ?_)))
   all_goals(refine aC ?_;exact aL (aG.trans (by exact bA) ((dD (x:=x) (a:=a) (s:=aD s) (M:=none) (mc:=0) (R:=R) hi))) (hK _ _))
  ·by_cases hq:Em (mN id n) s.out=0
   ·have hE:lD id n s=0:=by unfold lD;rw[if_neg (fun q=>q hf),if_neg (by rw[hc];decide),if_neg (fun q=>q hq)]
    rw[hE,if_neg (by decide),hm] at hK
    refine aH Tryz.func207 ?_
    repeat' (first|refine Mn ?_|refine dw j1 ?_|refine wr ?_|refine w5 ?_ ?_|((refine bh fun h=>?_) <;> try exact w6 h)|(refine aE fun hA=>?_;subst hA)|intro _|(show aA _ 116 _ _ _;refine CA (h:=fV (x:=x) (a:=a) (s:=s) (M:=M) (mc:=mc) (R:=R) hI ho hm (fun _=>?_)))|(show aA _ 112 _ _ _;refine CA (h:=iW (ps:= []) (show o7 4 id false ⟨#[]⟩ 0 0 0 false n 0 0 []=true from hc) eH rfl (show(0:Nat)<1000000000000000 by decide) ?_))|(show aA _ 60 _ _ _;refine CA (h:=kN (f:=mN id n) hI.ou eH rfl (show(0:Nat)<1000000000000000 by decide) ?_);rw[hq])|(show aA _ 254 _ _ _;refine CA (h:=Be (x:=x) (a:=a) (s:= { aD s with out:=zA (mN id n) s.out }) (M:=none) (mc:=0) (R:=R) (m:=m) (rI (bH hI)) hm (.inl rfl) (fun _ _=>?_))))
    all_goals(refine aC ?_;exact aB (hK _ _))
   ·have hE:lD id n s=9:=by unfold lD;rw[if_neg (fun q=>q hf),if_neg (by rw[hc];decide),if_pos hq]
    rw[hE,if_pos (by decide)] at hK
    have h9:=HB hq
    refine aH Tryz.func207 ?_
    repeat' (first|(show Br _ _ _;refine Br.t (by first|(simp <;> done)|simpa using hq) ?_)|refine Mn ?_|refine dw j1 ?_|refine wr ?_|refine w5 ?_ ?_|((refine bh fun h=>?_) <;> try exact w6 h)|(refine aE fun hA=>?_;subst hA)|intro _|(show aA _ 116 _ _ _;refine CA (h:=fV (x:=x) (a:=a) (s:=s) (M:=M) (mc:=mc) (R:=R) hI ho hm (fun _=>?_)))|(show aA _ 112 _ _ _;refine CA (h:=iW (ps:= []) (show o7 4 id false ⟨#[]⟩ 0 0 0 false n 0 0 []=true from hc) eH rfl (show(0:Nat)<1000000000000000 by decide) ?_))|(show aA _ 60 _ _ _;refine CA (h:=kN (f:=mN id n) hI.ou eH rfl (show(0:Nat)<1000000000000000 by decide) ?_);rw[h9]))
    all_goals(refine aC ?_;exact aL (aG.trans (by exact bA) ((dD (x:=x) (a:=a) (s:=aD s) (M:=none) (mc:=0) (R:=R) hi))) (hK _ _))
 ·have hE:lD id n s=cH s id:=by unfold lD;rw[if_pos hf]
  rw[hE,if_pos hf] at hK
  refine aH Tryz.func207 ?_
  repeat' (first|(show Br _ _ _;refine Br.t (by first|(simp <;> done)|simpa using hf) ?_)|refine Mn ?_|refine dw j1 ?_|refine wr ?_|refine w5 ?_ ?_|((refine bh fun h=>?_) <;> try exact w6 h)|(refine aE fun hA=>?_;subst hA)|intro _|(show aA _ 116 _ _ _;refine CA (h:=oB (x:=x) (a:=a) (s:=s) (M:=M) (mc:=mc) (R:=R) hI hf ?_)))
  all_goals(refine aC ?_;exact aB (hK _ _))
def jA:List (Nat×Nat):= [(0,0),(1,0),(2,0),(3,0),(4,0),(5,1),(6,0),(7,0)]
def iM:List (Nat×Nat):= [(0,0),(1,0),(2,0),(3,0),(4,0),(5,0),(6,1),(7,0)]
theorem Xc {on w:Int} {xx:Bool} (hI:bU B s) (hK:∀M mc,K (.int .i64 (Gn id on w xx s)) (b7 x a (sU id on w xx s) M mc R)):aA Tryz.prog 206 #[.pointer (some ⟨x,0,none⟩),.int .i64 id,.agg #[.int .i64 on,.int .i64 w,.bool xx]] (b7 x a s M mc R) K:=by
 have htl:=hI.tr.len
 obtain⟨rk,hrk⟩:=hI.tr.rk
 unfold Gn sU at hK
 by_cases hf:cH s id=0
 ·obtain⟨ho,m,hm⟩:=qI hf
  obtain⟨hi,hmid⟩:=aU hm
  rw[if_neg (fun q=>q hf)] at hK
  cases hc:mQ (s5 id on w xx)
  ·rw[if_pos hc,if_pos (.inr (.inl hc))] at hK
   refine aH Tryz.func206 ?_
   repeat' (first|refine XO ?_|refine dw jA ?_|refine dw iM ?_|refine wr ?_|refine w5 ?_ ?_|((refine bh fun h=>?_) <;> try exact w6 h)|(refine aE fun hA=>?_;subst hA)|intro _|(show aA _ 116 _ _ _;refine CA (h:=fV (x:=x) (a:=a) (s:=s) (M:=M) (mc:=mc) hI ho hm (fun _=>?_)))|(show aA _ 112 _ _ _;refine CA (h:=Bh (ps:= []) (show o7 3 id false ⟨#[]⟩ 0 on w xx 0 0 0 []=false from hc) eH rfl (show(0:Nat)<1000000000000000 by decide) ?_)))
   all_goals(refine aC ?_;exact aL (aG.trans (by exact bA) ((dD (x:=x) (a:=a) (s:=aD s) (M:=none) (mc:=0) (R:=R) hi))) (hK _ _))
  ·have hc0:¬mQ (s5 id on w xx)=false:=by rw[hc];decide
   rw[if_neg hc0] at hK
   by_cases h1:on=id
   ·rw[if_pos h1,if_pos (.inr (.inr (.inl h1)))] at hK
    refine aH Tryz.func206 ?_
    repeat' (first|refine XO ?_|refine dw jA ?_|refine dw iM ?_|refine wr ?_|refine w5 ?_ ?_|((refine bh fun h=>?_) <;> try exact w6 h)|(refine aE fun hA=>?_;subst hA)|intro _|(show aA _ 116 _ _ _;refine CA (h:=fV (x:=x) (a:=a) (s:=s) (M:=M) (mc:=mc) hI ho hm (fun _=>?_)))|(show aA _ 112 _ _ _;refine CA (h:=iW (ps:= []) (show o7 3 id false ⟨#[]⟩ 0 on w xx 0 0 0 []=true from hc) eH rfl (show(0:Nat)<1000000000000000 by decide) ?_)))
    all_goals(refine aC ?_;exact aL (aG.trans (by exact bA) ((dD (x:=x) (a:=a) (s:=aD s) (M:=none) (mc:=0) (R:=R) hi))) (hK _ _))
   ·rw[if_neg h1] at hK
    by_cases hq:Em (s5 id on w xx) s.out=0
    ·rw[if_neg (fun q=>q hq),if_neg (fun q=>q.elim (fun q=>q hf) (fun q=>q.elim hc0 (fun q=>q.elim h1 (fun q=>q hq))))] at hK
     refine aH Tryz.func206 ?_
     repeat' (first|refine XO ?_|refine dw jA ?_|refine dw iM ?_|refine wr ?_|refine w5 ?_ ?_|((refine bh fun h=>?_) <;> try exact w6 h)|(refine aE fun hA=>?_;subst hA)|intro _|(show aA _ 116 _ _ _;refine CA (h:=fV (x:=x) (a:=a) (s:=s) (M:=M) (mc:=mc) hI ho hm (fun _=>?_)))|(show aA _ 112 _ _ _;refine CA (h:=iW (ps:= []) (show o7 3 id false ⟨#[]⟩ 0 on w xx 0 0 0 []=true from hc) eH rfl (show(0:Nat)<1000000000000000 by decide) ?_))|(show aA _ 60 _ _ _;refine CA (h:=kN (f:=s5 id on w xx) hI.ou eH rfl (show(0:Nat)<1000000000000000 by decide) ?_);rw[hq])|(show aA _ 262 _ _ _;refine CA (h:=JM (s:=s.tr) hI.tr.kok (by omega) hrk ?_)))
     all_goals(refine aC ?_;exact aL (aG.trans (by exact bA) ((dD (x:=x) (a:=a) (s:= { aD s with out:=zA (s5 id on w xx) s.out,tr:=kT id on w xx s.tr }) (M:=none) (mc:=0) (R:=R) hi))) (hK _ _))
    ·rw[if_pos hq,if_pos (.inr (.inr (.inr hq)))] at hK
     have h9:=HB hq
     refine aH Tryz.func206 ?_
     repeat' (first|(show Br _ _ _;refine Br.t (by first|(simp <;> done)|simpa using hq) ?_)|refine XO ?_|refine dw jA ?_|refine dw iM ?_|refine wr ?_|refine w5 ?_ ?_|((refine bh fun h=>?_) <;> try exact w6 h)|(refine aE fun hA=>?_;subst hA)|intro _|(show aA _ 116 _ _ _;refine CA (h:=fV (x:=x) (a:=a) (s:=s) (M:=M) (mc:=mc) hI ho hm (fun _=>?_)))|(show aA _ 112 _ _ _;refine CA (h:=iW (ps:= []) (show o7 3 id false ⟨#[]⟩ 0 on w xx 0 0 0 []=true from hc) eH rfl (show(0:Nat)<1000000000000000 by decide) ?_))|(show aA _ 60 _ _ _;refine CA (h:=kN (f:=s5 id on w xx) hI.ou eH rfl (show(0:Nat)<1000000000000000 by decide) ?_);rw[h9]))
     all_goals(refine aC ?_;exact aL (aG.trans (by exact bA) ((dD (x:=x) (a:=a) (s:=aD s) (M:=none) (mc:=0) (R:=R) hi))) (hK _ _))
 ·rw[if_pos hf,if_pos (.inl hf)] at hK
  refine aH Tryz.func206 ?_
  repeat' (first|(show Br _ _ _;refine Br.t (by first|(simp <;> done)|simpa using hf) ?_)|refine XO ?_|refine dw jA ?_|refine dw iM ?_|refine wr ?_|refine w5 ?_ ?_|((refine bh fun h=>?_) <;> try exact w6 h)|(refine aE fun hA=>?_;subst hA)|intro _|(show aA _ 116 _ _ _;refine CA (h:=oB (x:=x) (a:=a) (s:=s) (M:=M) (mc:=mc) (R:=R) hI hf ?_)))
  all_goals(refine aC ?_;exact aB (hK _ _))
end
section
variable {R C:List HP} {K:Value→List HP→Prop} {x mc i b p r:Nat} {a:Ca} {s:Cn} {M:Option Addr} {B id n:Int} {m:Sm} {d:ByteArray} {y:Ys} {t:eJ}
theorem IE {i u v:Int} {l:List Pr}:(KS i u v l).length≤l.length+1:=by
 unfold KS
 split <;> simp
theorem UQ {u v:eJ}:(MA u v).length≤3:=by
 unfold MA
 have h1:=IE (i:=1) (u:=u.w) (v:=v.w) (l:= [])
 have h2:=IE (i:=2) (u:=u.st) (v:=v.st) (l:=KS 1 u.w v.w [])
 have h3:=IE (i:=3) (u:=u.it) (v:=v.it) (l:=KS 2 u.st v.st (KS 1 u.w v.w []))
 simp only[List.length_nil] at h1
 omega
def lQ:List (Nat×Nat):= [(0,0),(1,0),(2,0),(3,0),(4,0),(5,1),(6,0),(7,0),(8,0),(9,0),(10,0)]
theorem Abv (hI:bU B s) (hK:K (.int .i64 (MJ t s)) (b7 x a (wV t s) none 0 R)):aA Tryz.prog 101 #[.pointer (some ⟨x,0,none⟩),.agg #[.int .i64 t.w,.int .i64 t.st,.int .i64 t.it]] (b7 x a s M mc R) K:=by
 have h64:=hI.ou.1
 unfold MJ wV at hK
 cases ho:s.dr.ov
 ·by_cases h1:64≤s.out.length
  ·simp only[ho,h1,Bool.false_eq_true,if_false,if_true,false_or,true_or] at hK
   refine aH Tryz.func101 ?_
   repeat' (first|refine v46 ?_|refine dw lQ ?_|refine wr ?_|refine w5 ?_ ?_|((refine bh fun h=>?_) <;> try exact w6 h)|(refine aE fun hA=>?_;subst hA)|intro _|(show aA _ 75 _ _ _;refine CA (h:=cC (x:=x) (a:=a) (s:=s) (M:=M) (mc:=mc) ?_);rw[ho,if_neg Bool.false_ne_true])|(show aA _ 113 _ _ _;refine CA (h:=wH (out:=s.out) hI.ou ?_)))
   all_goals(refine aC ?_;exact aB (hK))
  ·by_cases hs:iU s.sh t=0
   ·simp only[ho,h1,hs,Bool.false_eq_true,if_false,false_or,ne_eq,not_true_eq_false] at hK
    have hlen:=UQ (u:=rM s.sh) (v:=t)
    refine aH Tryz.func101 ?_
    repeat' (first|refine v46 ?_|refine dw lQ ?_|refine wr ?_|refine w5 ?_ ?_|((refine bh fun h=>?_) <;> try exact w6 h)|(refine aE fun hA=>?_;subst hA)|intro _|(show aA _ 75 _ _ _;refine CA (h:=cC (x:=x) (a:=a) (s:=s) (M:=M) (mc:=mc) ?_);rw[ho,if_neg Bool.false_ne_true])|(show aA _ 113 _ _ _;refine CA (h:=wH (out:=s.out) hI.ou ?_))|(show aA _ 59 _ _ _;refine CA (h:=EH (s:=s.sh) (t:=t) hI.sh.1 (fun Aq cq=>?_));rw[hs];simp only[if_true])|(show aA _ 60 _ _ _;refine CA (h:=kN (out:=s.out) (f:=⟨5,0,false,⟨#[]⟩,0,0,0,false,0,0,0,Aq,(MA (rM s.sh) t).length,cq,MA (rM s.sh) t⟩) hI.ou (by exact kR) rfl (by show(MA (rM s.sh) t).length<1000000000000000;omega) ?_)))
    all_goals(refine aC ?_;exact aB (hK))
   ·simp only[ho,h1,hs,Bool.false_eq_true,if_false,if_true,false_or,ne_eq,not_false_eq_true] at hK
    have hsm:eK s.sh t=s.sh:=by unfold eK;rw[if_neg hs]
    refine aH Tryz.func101 ?_
    repeat' (first|(show Br _ _ _;refine Br.t (by first|(simp <;> done)|simpa using hs) ?_)|refine v46 ?_|refine dw lQ ?_|refine wr ?_|refine w5 ?_ ?_|((refine bh fun h=>?_) <;> try exact w6 h)|(refine aE fun hA=>?_;subst hA)|intro _|(show aA _ 75 _ _ _;refine CA (h:=cC (x:=x) (a:=a) (s:=s) (M:=M) (mc:=mc) ?_);rw[ho,if_neg Bool.false_ne_true])|(show aA _ 113 _ _ _;refine CA (h:=wH (out:=s.out) hI.ou ?_))|(show aA _ 59 _ _ _;refine CA (h:=EH (s:=s.sh) (t:=t) hI.sh.1 (fun Aq cq=>?_));rw[hsm]))
    all_goals(refine aC ?_;exact aB (hK))
 ·simp only[ho,if_true,true_or] at hK
  refine aH Tryz.func101 ?_
  repeat' (first|refine v46 ?_|refine dw lQ ?_|refine wr ?_|refine w5 ?_ ?_|((refine bh fun h=>?_) <;> try exact w6 h)|(refine aE fun hA=>?_;subst hA)|intro _|(show aA _ 75 _ _ _;refine CA (h:=cC (x:=x) (a:=a) (s:=s) (M:=M) (mc:=mc) ?_);rw[ho,if_pos rfl]))
  all_goals(refine aC ?_;exact aB (hK))
end
section
variable {R C:List HP} {K:Value→List HP→Prop} {x mc i b p r:Nat} {a:Ca} {s:Cn} {M:Option Addr} {B kind sg on w:Int} {xx:Bool} {m:Sm}
theorem UG (h:bU B s) (hn:s.nx≤2147483647):XH s.sd s.nx=true:=by
 have h1:=h.nx
 have h2:=h.sd
 unfold XH
 simp only[Bool.and_eq_true,decide_eq_true_eq,beq_iff_eq,decide_eq_decide]
 refine⟨by omega,h1.2.2⟩
theorem Ep (h:bU B s) (hn:s.nx≤2147483647):cB s.nx s.l=none:=by
 cases hm:cB s.nx s.l with
 |none=>rfl
 |some m=>
  obtain⟨hi,hid⟩:=aU hm
  have h4:=h.ids m (List.mem_of_getElem? hi)
  rw[hid] at h4
  unfold oY at h4
  rw[UG h hn] at h4
  simp only[Bool.and_eq_true,decide_eq_true_eq,if_true] at h4
  omega
theorem Lb (h:bU B s) (ho:fG s true<32):s.l.length<64:=by
 have h2:=h.own false
 have h3:=Gh s.l
 unfold fG at *
 omega
theorem GY (h:bU B s) (hn:s.nx≤2147483647):bU B { s with nx:=s.nx+2 }:=
 { h with
   nx:=by
    have:=h.nx
    show 1≤s.nx+2∧s.nx+2≤2147483649∧((s.nx+2) % 2=1↔s.sd=0)
    omega
   ids:=fun z hz=>by
    have h1:=h.ids z hz
    show oY s.sd (s.nx+2) s.la z.id=true
    unfold oY at h1 ⊢
    simp only[Bool.and_eq_true,decide_eq_true_eq] at h1 ⊢
    refine⟨h1.1,?_⟩
    have h3:=h1.2
    split at h3
    ·rename_i hq;rw[if_pos hq];simp only[decide_eq_true_eq] at h3 ⊢;omega
    ·rename_i hq;rw[if_neg hq];exact h3 }
end
section
variable {R C:List HP} {K:Value→List HP→Prop} {x mc i b p r:Nat} {a:Ca} {s:Cn} {M:Option Addr} {B kind sg on w:Int} {xx:Bool} {m:Sm}
theorem Cc (h:iV kind sg on w xx s=0):s.dr.ov=false∧(kind=1∨kind=2)∧(0≤sg∧sg≤2)∧K0 s.dr=true∧s.nx≤2147483647∧(fG s true:Nat)<min s.pe.st 32∧mQ (rA s.nx kind on w xx)=true∧on≠s.nx∧s.out.length<64:=by
 unfold iV at h
 repeat' split at h
 all_goals first|(exfalso;revert h;decide)|skip
 rename_i h1 h2 h3 h4 h5 h6 h7 h8
 refine⟨by cases hq:s.dr.ov <;> first|rfl|exact absurd hq h1,by omega,by omega,by cases hq:K0 s.dr <;> first|rfl|exact absurd hq h4,by omega,by omega,by cases hq:mQ (rA s.nx kind on w xx) <;> first|rfl|exact absurd hq h6,h7,by omega⟩
def BN:List (Nat×Nat):= [(0,0),(1,0),(2,0),(3,0),(4,1),(5,1),(6,1),(7,1),(8,1),(9,1),(10,1),(11,0),(12,0),(13,0)]
def BQ:List (Nat×Nat):= [(0,0),(1,0),(2,0),(3,0),(4,0),(5,1)]
theorem Si (hI:bU B s) (hE:iV kind sg on w xx s=0) (hK:K (.tuple #[.int .i64 (s.nx+2 - 2),.int .i64 0]) (b7 x a (l5 kind sg on w xx s) none 0 R)):aA Tryz.prog 25 #[.pointer (some ⟨x,0,none⟩),.int .i64 kind,.int .i64 sg,.agg #[.int .i64 on,.int .i64 w,.bool xx]] (b7 x a s M mc R) K:=by
 obtain⟨e1,e2,e3,e4,e5,e6,e7,e8,e9⟩:=Cc hE
 have hnx:=hI.nx
 unfold l5 at hK
 rw[if_neg (fun q=>q hE)] at hK
 have hown:fG (aD s) true=fG s true:=rfl
 have hI1:=GY (rI (f:=rA s.nx kind on w xx) (bH hI)) e5
 have hpe:(aD s).pe.st=s.pe.st:=rfl
 have q1:=Ep hI e5
 have q2:=Lb hI (by omega)
 have hnn:s.nx+2 - 2=s.nx:=by omega
 rw[hnn] at hK
 refine aH Tryz.func25 ?_
 repeat' (first|refine Gy ?_|refine dw BN ?_|refine dw BQ ?_|refine wr ?_|refine w5 ?_ ?_|((refine bh fun h=>?_) <;> try exact w6 h)|(refine aE fun hA=>?_;subst hA)|intro _|(show aA _ 75 _ _ _;refine CA (h:=cC (x:=x) (a:=a) (s:=s) (M:=M) (mc:=mc) ?_);rw[e1,if_neg Bool.false_ne_true])|(show aA _ 110 _ _ _;refine CA (h:=l6 (sd:=s.sd) (nx:=s.nx) (la:=s.la) ?_))|(show aA _ 111 _ _ _;refine CA (h:=Bz (d:=s.dr) ?_);rw[e4])|(show aA _ 84 _ _ _;refine CA (h:=sK (x:=x) (a:=a) (s:=aD s) (M:=none) (mc:=0) (bH hI) ?_);rw[hown])|(show aA _ 112 _ _ _;refine CA (h:=iW (ps:= []) (show o7 2 s.nx false ⟨#[]⟩ kind on w xx 0 0 0 []=true from e7) eH rfl (show(0:Nat)<1000000000000000 by decide) ?_))|(show aA _ 113 _ _ _;refine CA (h:=wH (out:=s.out) hI.ou ?_))|(show aA _ 114 _ _ _;refine CA (h:=Xg (sd:=s.sd) (nx:=s.nx) (la:=s.la) e5 (by omega) ?_))|(show aA _ 60 _ _ _;refine CA (h:=kN (out:=s.out) (f:=rA s.nx kind on w xx) hI.ou eH rfl (show(0:Nat)<1000000000000000 by decide) ?_))|(show aA _ 115 _ _ _;refine CA (h:=O0 (x:=x) (a:=a) (s:= { aD s with nx:=s.nx+2,out:=zA (rA s.nx kind on w xx) s.out }) (M:=none) (mc:=0) (id:=s.nx) hI1 e2 e3 q1 q2 ⟨by omega,e5⟩ ?_)))
 all_goals(refine aC ?_;exact aB (hK))
end
section
variable {R C:List HP} {K:Value→List HP→Prop} {x mc i b p r:Nat} {a:Ca} {s:Cn} {M:Option Addr} {B kind sg on w:Int} {xx:Bool} {m:Sm}
def d6:List (Nat×Nat):= [(0,0),(1,0),(2,0),(3,0),(4,1),(5,1),(6,1),(7,1),(8,1),(9,1),(10,1),(11,0),(12,0),(13,0)]
def d7:List (Nat×Nat):= [(0,0),(1,0),(2,0),(3,0),(4,0),(5,1)]
theorem RS (hI:bU B s) (hE:iV kind sg on w xx s≠0) (hK:K (.tuple #[.int .i64 0,.int .i64 (iV kind sg on w xx s)]) (b7 x a (aD s) none 0 R)):aA Tryz.prog 25 #[.pointer (some ⟨x,0,none⟩),.int .i64 kind,.int .i64 sg,.agg #[.int .i64 on,.int .i64 w,.bool xx]] (b7 x a s M mc R) K:=by
 have hnx:=hI.nx
 have hown:fG (aD s) true=fG s true:=rfl
 have hpe:(aD s).pe.st=s.pe.st:=rfl
 have h64:=hI.ou.1
 unfold iV at hE hK
 cases c1:s.dr.ov
 ·rw[c1,if_neg Bool.false_ne_true] at hE hK
  by_cases c2:kind≠1∧kind≠2
  ·rw[if_pos c2] at hK
   refine aH Tryz.func25 ?_
   repeat' (first|refine Gy ?_|refine dw d6 ?_|refine dw d7 ?_|refine wr ?_|refine w5 ?_ ?_|((refine bh fun h=>?_) <;> try exact w6 h)|(refine aE fun hA=>?_;subst hA)|intro _|(show aA _ 75 _ _ _;refine CA (h:=cC (x:=x) (a:=a) (s:=s) (M:=M) (mc:=mc) ?_);rw[c1,if_neg Bool.false_ne_true])|(show aA _ 110 _ _ _;refine CA (h:=l6 (sd:=s.sd) (nx:=s.nx) (la:=s.la) ?_)))
   all_goals(refine aC ?_;exact aB (hK))
  ·rw[if_neg c2] at hE hK
   by_cases c3:sg<0∨2<sg
   ·rw[if_pos c3] at hK
    refine aH Tryz.func25 ?_
    repeat' (first|refine Gy ?_|refine dw d6 ?_|refine dw d7 ?_|refine wr ?_|refine w5 ?_ ?_|((refine bh fun h=>?_) <;> try exact w6 h)|(refine aE fun hA=>?_;subst hA)|intro _|(show aA _ 75 _ _ _;refine CA (h:=cC (x:=x) (a:=a) (s:=s) (M:=M) (mc:=mc) ?_);rw[c1,if_neg Bool.false_ne_true])|(show aA _ 110 _ _ _;refine CA (h:=l6 (sd:=s.sd) (nx:=s.nx) (la:=s.la) ?_)))
    all_goals(refine aC ?_;exact aB (hK))
   ·rw[if_neg c3] at hE hK
    cases c4:K0 s.dr
    ·rw[if_pos c4] at hK
     refine aH Tryz.func25 ?_
     repeat' (first|refine Gy ?_|refine dw d6 ?_|refine dw d7 ?_|refine wr ?_|refine w5 ?_ ?_|((refine bh fun h=>?_) <;> try exact w6 h)|(refine aE fun hA=>?_;subst hA)|intro _|(show aA _ 75 _ _ _;refine CA (h:=cC (x:=x) (a:=a) (s:=s) (M:=M) (mc:=mc) ?_);rw[c1,if_neg Bool.false_ne_true])|(show aA _ 110 _ _ _;refine CA (h:=l6 (sd:=s.sd) (nx:=s.nx) (la:=s.la) ?_))|(show aA _ 111 _ _ _;refine CA (h:=Bz (d:=s.dr) ?_);rw[c4]))
     all_goals(refine aC ?_;exact aB (hK))
    ·rw[if_neg (by rw[c4];decide)] at hE hK
     by_cases c5:2147483647<s.nx∨min s.pe.st 32≤(fG s true:Nat)
     ·rw[if_pos c5] at hK
      refine aH Tryz.func25 ?_
      repeat' (first|refine Gy ?_|refine dw d6 ?_|refine dw d7 ?_|refine wr ?_|refine w5 ?_ ?_|((refine bh fun h=>?_) <;> try exact w6 h)|(refine aE fun hA=>?_;subst hA)|intro _|(show aA _ 75 _ _ _;refine CA (h:=cC (x:=x) (a:=a) (s:=s) (M:=M) (mc:=mc) ?_);rw[c1,if_neg Bool.false_ne_true])|(show aA _ 110 _ _ _;refine CA (h:=l6 (sd:=s.sd) (nx:=s.nx) (la:=s.la) ?_))|(show aA _ 111 _ _ _;refine CA (h:=Bz (d:=s.dr) ?_);rw[c4])|(show aA _ 84 _ _ _;refine CA (h:=sK (x:=x) (a:=a) (s:=aD s) (M:=none) (mc:=0) (bH hI) ?_);rw[hown]))
      all_goals(refine aC ?_;exact aB (hK))
     ·rw[if_neg c5] at hE hK
      cases c6:mQ (rA s.nx kind on w xx)
      ·rw[if_pos c6] at hK
       refine aH Tryz.func25 ?_
       repeat' (first|refine Gy ?_|refine dw d6 ?_|refine dw d7 ?_|refine wr ?_|refine w5 ?_ ?_|((refine bh fun h=>?_) <;> try exact w6 h)|(refine aE fun hA=>?_;subst hA)|intro _|(show aA _ 75 _ _ _;refine CA (h:=cC (x:=x) (a:=a) (s:=s) (M:=M) (mc:=mc) ?_);rw[c1,if_neg Bool.false_ne_true])|(show aA _ 110 _ _ _;refine CA (h:=l6 (sd:=s.sd) (nx:=s.nx) (la:=s.la) ?_))|(show aA _ 111 _ _ _;refine CA (h:=Bz (d:=s.dr) ?_);rw[c4])|(show aA _ 84 _ _ _;refine CA (h:=sK (x:=x) (a:=a) (s:=aD s) (M:=none) (mc:=0) (bH hI) ?_);rw[hown])|(show aA _ 112 _ _ _;refine CA (h:=Bh (ps:= []) (show o7 2 s.nx false ⟨#[]⟩ kind on w xx 0 0 0 []=false from c6) eH rfl (show(0:Nat)<1000000000000000 by decide) ?_)))
       all_goals(refine aC ?_;exact aB (hK))
      ·rw[if_neg (by rw[c6];decide)] at hE hK
       by_cases c7:on=s.nx
       ·rw[if_pos c7] at hK
        refine aH Tryz.func25 ?_
        repeat' (first|refine Gy ?_|refine dw d6 ?_|refine dw d7 ?_|refine wr ?_|refine w5 ?_ ?_|((refine bh fun h=>?_) <;> try exact w6 h)|(refine aE fun hA=>?_;subst hA)|intro _|(show aA _ 75 _ _ _;refine CA (h:=cC (x:=x) (a:=a) (s:=s) (M:=M) (mc:=mc) ?_);rw[c1,if_neg Bool.false_ne_true])|(show aA _ 110 _ _ _;refine CA (h:=l6 (sd:=s.sd) (nx:=s.nx) (la:=s.la) ?_))|(show aA _ 111 _ _ _;refine CA (h:=Bz (d:=s.dr) ?_);rw[c4])|(show aA _ 84 _ _ _;refine CA (h:=sK (x:=x) (a:=a) (s:=aD s) (M:=none) (mc:=0) (bH hI) ?_);rw[hown])|(show aA _ 112 _ _ _;refine CA (h:=iW (ps:= []) (show o7 2 s.nx false ⟨#[]⟩ kind on w xx 0 0 0 []=true from c6) eH rfl (show(0:Nat)<1000000000000000 by decide) ?_)))
        all_goals(refine aC ?_;exact aB (hK))
       ·rw[if_neg c7] at hE hK
        by_cases c8:64≤s.out.length
        ·rw[if_pos c8] at hK
         refine aH Tryz.func25 ?_
         repeat' (first|refine Gy ?_|refine dw d6 ?_|refine dw d7 ?_|refine wr ?_|refine w5 ?_ ?_|((refine bh fun h=>?_) <;> try exact w6 h)|(refine aE fun hA=>?_;subst hA)|intro _|(show aA _ 75 _ _ _;refine CA (h:=cC (x:=x) (a:=a) (s:=s) (M:=M) (mc:=mc) ?_);rw[c1,if_neg Bool.false_ne_true])|(show aA _ 110 _ _ _;refine CA (h:=l6 (sd:=s.sd) (nx:=s.nx) (la:=s.la) ?_))|(show aA _ 111 _ _ _;refine CA (h:=Bz (d:=s.dr) ?_);rw[c4])|(show aA _ 84 _ _ _;refine CA (h:=sK (x:=x) (a:=a) (s:=aD s) (M:=none) (mc:=0) (bH hI) ?_);rw[hown])|(show aA _ 112 _ _ _;refine CA (h:=iW (ps:= []) (show o7 2 s.nx false ⟨#[]⟩ kind on w xx 0 0 0 []=true from c6) eH rfl (show(0:Nat)<1000000000000000 by decide) ?_))|(show aA _ 113 _ _ _;refine CA (h:=wH (out:=s.out) hI.ou ?_)))
         all_goals(refine aC ?_;exact aB (hK))
        ·rw[if_neg c8] at hE
         exact absurd rfl hE
 ·rw[c1,if_pos rfl] at hK
  refine aH Tryz.func25 ?_
  repeat' (first|refine Gy ?_|refine dw d6 ?_|refine dw d7 ?_|refine wr ?_|refine w5 ?_ ?_|((refine bh fun h=>?_) <;> try exact w6 h)|(refine aE fun hA=>?_;subst hA)|intro _|(show aA _ 75 _ _ _;refine CA (h:=cC (x:=x) (a:=a) (s:=s) (M:=M) (mc:=mc) ?_);rw[c1,if_pos rfl]))
  all_goals(refine aC ?_;exact aB (hK))
end
section
variable {R C:List HP} {K:Value→List HP→Prop} {x mc i b p r:Nat} {a:Ca} {s:Cn} {M:Option Addr} {B id:Int} {m:Sm}
theorem QO (hb:s.mv.length≤1000000000) (hK:∀B d,K (.slice B s.mv.length d) (bT B d 280 mvC s.mv::b7 x a s M mc R)):aA Tryz.prog 28 #[.pointer (some ⟨x,0,none⟩)] (b7 x a s M mc R) K:=by
 dsimp only[b7,mV] at hK ⊢
 refine aH Tryz.func28 ?_
 repeat' (first|(show aN _ _ _ _ _ _ _;(refine dJ (E:=mvC) (ys:=s.mv) ?_;intro _ _))|refine v20 ?_|refine wr ?_|refine w5 ?_ ?_|((refine bh fun h=>?_) <;> try exact w6 h)|(refine aE fun hA=>?_;subst hA)|intro _)
 all_goals(refine aC ?_;exact aB (hK _ _))
end
section
variable {s:Cn} {B id n kind sg on w:Int} {xx:Bool} {m:Sm} {d:ByteArray} {t:eJ} {u:List UInt8} {f:Fm}
theorem Ahe {cap:Nat} {bs:List UInt8} {en:Bool}:EX cap bs en d≤d.size:=by
 unfold EX
 split
 ·omega
 ·omega
theorem Agl {x:Xs}:Kv (AG x d)≤Kv x+d.size+1:=by
 cases x with
 |b z=>
  have:=Ahe (cap:=z.cap) (bs:=z.bs) (en:=z.en) (d:=d)
  show z.ac+((EX z.cap z.bs z.en d:Nat):Int)≤z.ac+d.size+1
  omega
 |i z=>
  show(if z.en=true∨256<d.size then z else if z.l.length<z.cap then { z with l:=z.l++ [d],ac:=z.ac+1 } else if z.st=0 then z else if z.st=1∨z.cap=0 then { z with ac:=z.ac+1,dr:=z.dr+1 } else { z with l:=z.l.tail++ [d],ac:=z.ac+1,dr:=z.dr+1 }).ac≤z.ac+d.size+1
  repeat' split
  all_goals first|(dsimp only;omega)|omega
theorem Aen (h:Fs B m):Fs (B+d.size+1) (zG m d):=by
 obtain⟨h1,h2,h3,h4⟩:=h
 unfold zG
 split
 ·refine⟨h1,?_,by show Jr m.y≤_;omega,by show(gT m.y:Int)≤_;omega⟩
  have:=Agl (x:=m.x) (d:=d)
  show Kv (AG m.x d)≤_
  omega
 ·exact⟨h1,by omega,by omega,by omega⟩
theorem Nn:(zG m d).own=m.own:=by unfold zG;split <;> rfl
theorem Oj:(z1 m).own=m.own:=by unfold z1;split <;> rfl
theorem Aeh (h:Fs B m):Fs B (z1 m):=by
 obtain⟨h1,h2,h3,h4⟩:=h
 unfold z1
 split
 ·refine⟨h1,?_,h3,h4⟩
  show Kv (Jj m.x)≤B
  cases hx:m.x with
  |b z=>rw[hx] at h2;exact h2
  |i z=>rw[hx] at h2;exact h2
 ·exact⟨h1,h2,h3,h4⟩
theorem Ag1 (h:Fs B m):Fs B { m with y:=F1 m.y n }:=by
 obtain⟨h1,h2,h3,h4⟩:=h
 refine⟨h1,h2,?_,?_⟩
 ·cases hy:m.y with
  |b z=>rw[hy] at h3;exact h3
  |i z=>
   rw[hy] at h3
   show(if 1≤n then { z with ask:=z.ask+min n (2147483647 - z.ask) } else z).ac≤B
   split <;> exact h3
 ·cases hy:m.y with
  |b z=>rw[hy] at h4;exact h4
  |i z=>
   rw[hy] at h4
   show((if 1≤n then { z with ask:=z.ask+min n (2147483647 - z.ask) } else z).l.length:Int)≤B
   split <;> exact h4
theorem XD (h:bU B s) (hB:B+d.size+1≤250000000):bU (B+d.size+1) (lW id d s):=by
 have hb:=h.bb
 unfold lW
 split
 ·exact(bH h).mono (by omega) hB
 ·split
  ·rename_i m hm
   obtain⟨hi,hmid⟩:=aU hm
   rw[eL (id:=id) (Bl.trans hmid)]
   exact lP (s:=aD s) ((bH h).mono (by omega) hB) hi Bl Nn (Aen (h.st m (List.mem_of_getElem? hi)))
  ·exact h.mono (by omega) hB
theorem Adw (h:bU B s):bU B (y5 id s):=by
 unfold y5
 split
 ·exact bH h
 ·split
  ·rename_i m hm
   obtain⟨hi,hmid⟩:=aU hm
   rw[eL (id:=id) (AJ.trans hmid)]
   exact lP (s:=aD s) (bH h) hi AJ Oj (Aeh (h.st m (List.mem_of_getElem? hi)))
  ·exact h
theorem Acm (h:bU B s):bU B (mG id n s):=by
 unfold mG
 split
 ·exact bH h
 ·split
  ·rename_i m hm
   obtain⟨hi,hmid⟩:=aU hm
   split
   ·exact bH h
   ·rw[eL (id:=id) (show({ m with y:=Ek m.y n }:Sm).id=id from hmid)]
    have hI2:bU B { ({ aD s with rv:=gA s.rv ((BO m.y n).size:Nat) }:Cn) with l:=s.l.set (cE id s.l) { m with y:=Ek m.y n } }:=lP (s:= { aD s with rv:=gA s.rv ((BO m.y n).size:Nat) }) (pU (bH h)) hi rfl rfl (Sn (h.st m (List.mem_of_getElem? hi)))
    exact CZ hI2 (mB (m':= { m with y:=Ek m.y n }) hm rfl)
  ·exact h
theorem Yy (h:bU B s):bU B (pR id s):=by
 unfold pR
 split
 ·exact bH h
 ·split
  ·rename_i m hm
   obtain⟨hi,hmid⟩:=aU hm
   split
   ·exact bH h
   ·rw[eL (id:=id) (show({ m with y:=EP m.y }:Sm).id=id from hmid)]
    have hI2:bU B { aD s with l:=s.l.set (cE id s.l) { m with y:=EP m.y } }:=lP (s:=aD s) (bH h) hi rfl rfl (RQ (h.st m (List.mem_of_getElem? hi)))
    exact CZ hI2 (mB (m':= { m with y:=EP m.y }) hm rfl)
  ·exact h
theorem Ade (h:bU B s):bU B (yZ id n s):=by
 unfold yZ
 split
 ·exact bH h
 ·split
  ·rename_i m hm
   obtain⟨hi,hmid⟩:=aU hm
   rw[eL (id:=id) (show({ m with y:=F1 m.y n }:Sm).id=id from hmid)]
   exact lP (s:=aD s) (bH h) hi rfl rfl (Ag1 (h.st m (List.mem_of_getElem? hi)))
  ·exact h
theorem ZJ (h:bU B s):bU B (sU id on w xx s):=by
 unfold sU
 split
 ·exact bH h
 ·exact TJ (rI (bH h))
theorem Xo (h:bU B s):bU B (nN id n s):=by
 unfold nN
 split
 ·exact bH h
 ·split
  ·rename_i m hm
   exact sE (s:= { aD s with out:=zA (mN id n) s.out }) (rI (bH h)) hm
  ·exact h
theorem Ai4 (h:bU B s):bU B (Ey s):=by
 unfold Ey
 split
 ·exact bH h
 ·exact Fi (rI (bH h))
theorem Xz {z:F2} (h:z.l.length≤4∧wD z.h∧wD z.g∧∀t∈z.l,wD t):(eK z t).l.length≤4∧wD (eK z t).h∧wD (eK z t).g∧∀q∈(eK z t).l,wD q:=by
 obtain⟨h1,h2,h3,h4⟩:=h
 unfold eK
 by_cases hq:iU z t=0
 ·rw[if_pos hq]
  unfold iU at hq
  split at hq
  ·cases hq
  ·rename_i hc
   split at hq
   ·cases hq
   ·rename_i hl
    have hc:sW t.w t.st t.it=true:=by simpa using hc
    refine⟨by show(z.l++ [t]).length≤4;rw[List.length_append,List.length_singleton];omega,h2,?_,?_⟩
    ·unfold wD sW at *
     rw[decide_eq_true_eq] at *
     show _
     simp only[MK]
     omega
    ·intro q hq
     rcases List.mem_append.1 hq with hq|hq
     ·exact h4 q hq
     ·rw[List.mem_singleton.1 hq];exact hc
 ·rw[if_neg hq];exact⟨h1,h2,h3,h4⟩
theorem YF (h:bU B s):bU B (wV t s):=by
 unfold wV
 split
 ·exact bH h
 ·exact { rI (f:=JV (MA (rM s.sh) t)) (bH h) with sh:=Xz h.sh }
theorem Yc (h:bU B s) (hB:B+1≤250000000):bU (B+1) (sV s):=
 { h.mono (B':=B+1) (by omega) hB with now:=by have:=h.now;show 0≤s.now+1∧s.now+1≤B+1;omega }
theorem YO (h:bU B s) (hB:B+1≤250000000):bU (B+1) (l5 kind sg on w xx s):=by
 unfold l5
 split
 ·exact(bH h).mono (by omega) hB
 ·rename_i hE
  have hE:iV kind sg on w xx s=0:=by simpa using hE
  obtain⟨e1,e2,e3,e4,e5,e6,e7,e8,e9⟩:=Cc hE
  have hnx:=h.nx
  have h64:=h.sm.1
  have hmv:=h.mv
  have hI1:=(GY (rI (f:=rA s.nx kind on w xx) (bH h)) e5).mono (B':=B+1) (by omega) hB
  have hof:=UG h e5
  refine TN (s:= { aD s with nx:=s.nx+2,out:=zA (rA s.nx kind on w xx) s.out }) hI1 (Ep h e5) (show s.l.length<64 from Lb h (by omega)) ⟨by omega,e5⟩ ?_ (by show fG s true<32;omega) (by show(([]:List Mv).length:Int)+s.l.length+1≤B+1;simp only[List.length_nil];omega)
  show oY s.sd (s.nx+2) s.la s.nx=true
  unfold oY
  rw[hof]
  simp only[Bool.and_eq_true,decide_eq_true_eq,if_true]
  omega
theorem As:∀ {fs:List Fm} {s:Cn} {B:Int},bU B s→(∀f∈fs,dB f)→B+300 * fs.length≤250000000→bU (B+300 * fs.length) (eD fs s)
 | [],s,B,h,_,hB=>h.mono (by simp) hB
 |f::r,s,B,h,hr,hB=>by
  have e:(f::r).length=r.length+1:=rfl
  rw[e] at hB ⊢
  have h1:=Cg h (by omega) (hr f (List.mem_cons_self ..))
  unfold eD
  split
  ·exact h1.mono (by omega) hB
  ·exact(As h1 (fun z hz=>hr z (List.mem_cons_of_mem _ hz)) (by omega)).mono (by omega) hB
theorem CF {bs:List UInt8}:∀f∈(pF bs).1.map KF,dB f:=fun f hf=>by
 obtain⟨p,hp,rfl⟩:=List.mem_map.1 hf
 exact P0 (Ye bs.length bs (Nat.le_refl _) p hp)
theorem Aa8 (h:bU B s) (hB:B+u.length+300 * (pF (s.inb++u)).1.length≤250000000):bU (B+u.length+300 * (pF (s.inb++u)).1.length) (eB u s):=by
 have hb:=h.bb
 unfold eB
 split
 ·exact(bH h).mono (by omega) hB
 ·have h1:=IV (u:=u) h (by omega)
  have hl:((pF (s.inb++u)).1.map KF).length=(pF (s.inb++u)).1.length:=List.length_map ..
  have h2:=As (fs:=(i9 u (aD s)).1) h1 CF (by show B+u.length+300 * ((((pF (s.inb++u)).1.map KF).length:Nat):Int)≤250000000;rw[hl];exact hB)
  have h3:bU (B+u.length+300 * (pF (s.inb++u)).1.length) (eD (i9 u (aD s)).1 (i9 u (aD s)).2):=h2.mono (by show B+u.length+300 * ((((pF (s.inb++u)).1.map KF).length:Nat):Int)≤_;rw[hl];omega) hB
  split
  ·exact h3
  ·exact i0 h3
end
section
variable {R C:List HP} {K:Value→List HP→Prop} {x mc i b p r t:Nat} {a:Ca} {s:Cn} {M:Option Addr} {B id n:Int} {m:Sm} {l:List Sm} {z:Xs} {y:Ys}
def Za:Xs→Prop
 |.b x=>TB x.cap x.bs x.en x.ou x.ac x.se x.dr
 |.i x=>TI x.cap x.st x.l x.w x.en x.ou x.ac x.se x.dr
def TQ:Ys→Prop
 |.b y=>RB y.cap y.most y.gr y.got y.us y.bs
 |.i y=>RI y.mr y.room y.op y.ask y.l y.ac y.tk y.dr
theorem Tt {H:Hp} (h:bY (AS t z::R) H):Za z:=by
 cases z with
 |b z=>
  obtain⟨r,h⟩:=h.ex
  exact(aG.cons aG.unsep H (aG.unsep H h)).tail.tail.pure.1
 |i z=>
  obtain⟨q,h⟩:=h.ex
  obtain⟨d,h⟩:=h.ex
  exact(aG.cons (aG.cons aG.unsep) H (aG.cons aG.unsep H (aG.unsep H h))).tail.tail.tail.pure.1
theorem Tj {H:Hp} (h:bY (Bn r y::R) H):TQ y:=by
 cases y with
 |b y=>
  obtain⟨q,h⟩:=h.ex
  obtain⟨d,h⟩:=h.ex
  exact(aG.cons (aG.cons aG.unsep) H (aG.cons aG.unsep H (aG.unsep H h))).tail.tail.tail.pure.1
 |i y=>
  obtain⟨q,h⟩:=h.ex
  obtain⟨d,h⟩:=h.ex
  exact(aG.cons (aG.cons aG.unsep) H (aG.cons aG.unsep H (aG.unsep H h))).tail.tail.tail.pure.1
def XL (m:Sm):Prop:=Za m.x∧TQ m.y∧wZ m
theorem Acv {H:Hp} (h:bY (rR b m::R) H):XL m:=by
 obtain⟨li,h⟩:=h.ex
 obtain⟨t,h⟩:=h.ex
 obtain⟨r,h⟩:=h.ex
 obtain⟨hok,h⟩:=(sA H h).pure
 exact⟨Tt h.tail.tail,Tj h.tail.tail.tail,hok⟩
theorem Ik:∀ {q:List (jR×Sm)} {R:List HP} {H:Hp},bY (eC Qv q::R) H→∀e∈q,XL e.2
 | [],_,_,_,e,he=>by cases he
 |e0::q,R,H,h,e,he=>by
  have h1:=Dn H h
  rcases List.mem_cons.1 he with rfl|he
  ·exact Acv h1
  ·exact Ik h1.tail e he
theorem XU {H:Hp} (h:bY (IN p l::R) H):∀m∈l,XL m:=fun m hm=>by
 obtain⟨A,h⟩:=h.ex
 obtain⟨c,h⟩:=h.ex
 obtain⟨q,h⟩:=h.ex
 obtain⟨hI,h⟩:=(sC H h).pure
 rw[← hI.1] at hm
 obtain⟨e,he,rfl⟩:=List.mem_map.1 hm
 exact Ik h.tail.tail e he
theorem OQ {f:FuncId} {args:Array Value} {P:Program} (h:(∀m∈s.l,XL m)→aA P f args (b7 x a s M mc R) K):aA P f args (b7 x a s M mc R) K:=aA.fact (fun _ hs=>XU hs.tail.tail) h
theorem Agn (h:Za z):Hf z≤4096∧Kv z=xSe z+xDr z+Hf z∧0≤xSe z∧0≤xDr z∧Kv z≤900000000:=by
 cases z with
 |b z=>obtain⟨h1,h2,h3,h4,h5,h6,h7⟩:=h;simp only[Hf,Kv,xSe,xDr];omega
 |i z=>obtain⟨h1,h2,h3,h4,h5,h6,h7⟩:=h;simp only[Hf,Kv,xSe,xDr];omega
theorem Agu (h:TQ y):gT y≤4096:=by
 cases y with
 |b y=>obtain⟨h1,h2,h3,h4,h5,h6,h7,h8,h9⟩:=h;simp only[gT];omega
 |i y=>obtain⟨h1,h2,h3,h4,h5,h6,h7,h8,h9⟩:=h;simp only[gT];omega
theorem Acl (hK:Hf z≤4096→K (.int .i64 (Hf z:Nat)) (AS t z::R)):aA Tryz.prog 88 #[.agg #[.int .i64 (Kv z),.int .i64 (xSe z),.int .i64 (xDr z)]] (AS t z::R) K:=aA.fact (fun _ hs=>Tt hs) fun hf=>by
 obtain⟨h1,h2,h3,h4,h5⟩:=Agn hf
 have hK:=hK h1
 have e:((Hf z:Nat):Int)=Kv z - xSe z - xDr z:=by omega
 rw[e] at hK
 exact gQ ⟨h3,h4,by omega,by omega,by omega,by omega⟩ hK
theorem Ws (hK:gT y≤4096→K (.int .i64 (gT y:Nat)) (Bn r y::R)):aA Tryz.prog 90 #[.pointer (some ⟨r,0,none⟩)] (Bn r y::R) K:=aA.fact (fun _ hs=>Tj hs) fun hf=>HJ (hK (Agu hf))
theorem A7 (hs:F4 l) (hm:l[i]?=some m) (hK:∀b li t r,wZ m→K (.tuple #[.int .i64 m.id,.pointer (some ⟨b,0,none⟩),.bool true]) (pt b [.pointer (some ⟨li,0,none⟩),.pointer (some ⟨t,0,none⟩),.pointer (some ⟨r,0,none⟩),.int .i64 m.id,.bool m.own] 258::pG li m.sta::AS t m.x::Bn r m.y::Nh p l i b::R)):aA Tryz.prog 85 #[.pointer (some ⟨p,0,none⟩),.int .i64 i] (IN p l::R) K:=
 aA.satsK (K':=fun v C'=>∃b,v=.tuple #[.int .i64 m.id,.pointer (some ⟨b,0,none⟩),.bool true]∧C'=rR b m::Nh p l i b::R) (EA hs hm fun b=>⟨b,rfl,rfl⟩) fun v C' H ⟨b,hv,hC⟩ hS=>by
  subst hv hC
  obtain⟨li,hS⟩:=hS.ex
  obtain⟨t,hS⟩:=hS.ex
  obtain⟨r,hS⟩:=hS.ex
  obtain⟨hok,hS⟩:=(sA H hS).pure
  exact⟨_,hS,hK b li t r hok⟩
theorem No (hs:F4 l) (hm:cB id l=some m) (hK:∀b li t r,wZ m→K (.tuple #[.pointer (some ⟨b,0,none⟩),.bool true]) (pt b [.pointer (some ⟨li,0,none⟩),.pointer (some ⟨t,0,none⟩),.pointer (some ⟨r,0,none⟩),.int .i64 m.id,.bool m.own] 258::pG li m.sta::AS t m.x::Bn r m.y::Nh p l (cE id l) b::R)):aA Tryz.prog 192 #[.pointer (some ⟨p,0,none⟩),.int .i64 id] (IN p l::R) K:=
 aA.satsK (K':=fun v C'=>∃b,v=.tuple #[.pointer (some ⟨b,0,none⟩),.bool true]∧C'=rR b m::Nh p l (cE id l) b::R) (gG hs hm fun b=>⟨b,rfl,rfl⟩) fun v C' H ⟨b,hv,hC⟩ hS=>by
  subst hv hC
  obtain⟨li,hS⟩:=hS.ex
  obtain⟨t,hS⟩:=hS.ex
  obtain⟨r,hS⟩:=hS.ex
  obtain⟨hok,hS⟩:=(sA H hS).pure
  exact⟨_,hS,hK b li t r hok⟩
theorem Pe (hI:bU B s) (hK:∀B d,K (.slice B (s.l.map Sm.id).length d) (bT B d 3 kH (s.l.map Sm.id)::b7 x a s M mc R)):aA Tryz.prog 18 #[.pointer (some ⟨x,0,none⟩)] (b7 x a s M mc R) K:=by
 dsimp only[b7,mV] at hK ⊢
 refine aH Tryz.func18 ?_
 repeat' (first|refine SL ?_|refine wr ?_|refine w5 ?_ ?_|((refine bh fun h=>?_) <;> try exact w6 h)|(refine aE fun hA=>?_;subst hA)|intro _|(show aA _ 91 _ _ _;refine CA (h:=MV (l:=s.l) hI.sm (fun _ _=>?_))))
 all_goals(refine aC ?_;exact aB (hK _ _))
theorem rY (hI:bU B s) (hm:cB id s.l=some m) (hK:∀b,K (.pointer (some ⟨b,0,none⟩)) (rR b m::cnH x a s M mc (cE id s.l) b R)):aA Tryz.prog 104 #[.pointer (some ⟨x,0,none⟩),.int .i64 id] (b7 x a s M mc R) K:=by
 dsimp only[b7,mV,cnH] at hK ⊢
 refine aH Tryz.func104 ?_
 repeat' (first|refine SL ?_|refine wr ?_|refine w5 ?_ ?_|((refine bh fun h=>?_) <;> try exact w6 h)|(refine aE fun hA=>?_;subst hA)|intro _|(show aA _ 192 _ _ _;refine CA (h:=gG (l:=s.l) hI.sm hm (fun _=>?_))))
 all_goals(refine aC ?_;exact aB (hK _))
theorem Ae6 (hK:K (.pointer (some ⟨a.rc,0,none⟩)) (b7 x a s M mc R)):aA Tryz.prog 108 #[.pointer (some ⟨x,0,none⟩)] (b7 x a s M mc R) K:=by
 dsimp only[b7,mV] at hK ⊢
 refine aH Tryz.func108 ?_
 repeat' (first|refine v4 ?_|refine wr ?_|refine w5 ?_ ?_|((refine bh fun h=>?_) <;> try exact w6 h)|(refine aE fun hA=>?_;subst hA)|intro _)
 all_goals(refine aC ?_;exact aB (hK))
theorem Rz (hK:K (.pointer (some ⟨a.sh,0,none⟩)) (b7 x a s M mc R)):aA Tryz.prog 41 #[.pointer (some ⟨x,0,none⟩)] (b7 x a s M mc R) K:=by
 dsimp only[b7,mV] at hK ⊢
 refine aH Tryz.func41 ?_
 repeat' (first|refine v4 ?_|refine wr ?_|refine w5 ?_ ?_|((refine bh fun h=>?_) <;> try exact w6 h)|(refine aE fun hA=>?_;subst hA)|intro _)
 all_goals(refine aC ?_;exact aB (hK))
theorem Sf (hK:K (.pointer (some ⟨a.ou,0,none⟩)) (b7 x a s M mc R)):aA Tryz.prog 19 #[.pointer (some ⟨x,0,none⟩)] (b7 x a s M mc R) K:=by
 dsimp only[b7,mV] at hK ⊢
 refine aH Tryz.func19 ?_
 repeat' (first|refine v4 ?_|refine wr ?_|refine w5 ?_ ?_|((refine bh fun h=>?_) <;> try exact w6 h)|(refine aE fun hA=>?_;subst hA)|intro _)
 all_goals(refine aC ?_;exact aB (hK))
def wtL (l:List Sm):Nat:=(l.map fun m=>Hf m.x).sum
def kpL (l:List Sm):Nat:=(l.map fun m=>gT m.y).sum
theorem Zz {j:Nat} (h:l[j]?=some m):wtL (l.take (j+1))=wtL (l.take j)+Hf m.x:=by
 unfold wtL
 rw[List.take_add_one,h]
 simp
theorem Aco {j:Nat} (h:l[j]?=some m):kpL (l.take (j+1))=kpL (l.take j)+gT m.y:=by
 unfold kpL
 rw[List.take_add_one,h]
 simp
def wF (s:Cn):Value:=.agg #[.int .i64 s.l.length,.int .i64 (fG s true:Nat),.int .i64 (wtL s.l:Nat),.int .i64 (kpL s.l:Nat),.bool s.dr.ov,.int .i64 s.dr.co,.int .i64 s.now]
def pN:Tr:=(.br (.st 0 1 (.st 1 1 (.st 2 1 (.st 3 1 (.st 4 2 (.br (.st 5 2 (.st 6 2 (.st 14 3 (.st 7 3 (.st 8 3 (.st 9 3 (.st 10 3 (.st 11 3 (.st 12 3 (.st 13 1 (.st 15 1 .nil))))))))))) (.st 14 3 (.st 5 2 (.st 6 2 (.st 7 3 (.st 8 3 (.st 9 3 (.st 10 3 (.st 11 3 (.st 12 3 (.st 13 1 (.st 15 1 .nil))))))))))))))))) (.st 14 3 (.st 0 1 (.st 1 1 (.st 2 1 (.st 3 1 (.st 4 2 (.st 5 2 (.st 6 2 (.st 7 3 (.st 8 3 (.st 9 3 (.st 10 3 (.st 11 3 (.st 12 3 (.st 13 1 (.st 15 1 .nil)))))))))))))))))
def pX:List (Nat×Nat):= [(2,0),(3,1),(4,1),(5,1),(0,3),(1,3),(6,0),(7,0),(8,1)]
def oA:List (Nat×Nat):= [(2,0),(3,1),(4,1),(0,2),(1,2),(5,0),(6,0),(7,1)]
theorem Kz (hI:bU B s) (hK:K (wF s) (b7 x a s M mc R)):aA Tryz.prog 16 #[.pointer (some ⟨x,0,none⟩)] (b7 x a s M mc R) K:=by
 have h64:=hI.sm.1
 unfold wF at hK
 dsimp only[b7,mV] at hK ⊢
 refine aH Tryz.func16 ?_
 repeat' (first|refine Yj ?_|refine Hi pN ?_|refine dw pX ?_|refine dw oA ?_|refine wr ?_|refine w5 ?_ ?_|((refine bh fun h=>?_) <;> try exact w6 h)|(refine aE fun hA=>?_;subst hA)|intro _|(show aA _ 82 _ _ _;refine CA (h:=H4 (d:=s.dr) ?_))|(show aA _ 83 _ _ _;refine CA (h:=x4 (l:=s.l) ?_))|(show aA _ 84 _ _ _;refine CA (h:=sK (x:=x) (a:=a) (s:=s) (M:=M) (mc:=mc) hI ?_)))
 all_goals
  rename_i r2 r5
  refine iF (fun n a' C'=>∃j:Nat,j+n=s.l.length∧wtL (s.l.take j)≤4096 * j∧kpL (s.l.take j)≤4096 * j∧cN a' [(0,.pointer (some ⟨x,0,none⟩)),(2,.pointer (some ⟨r2,0,none⟩)),(5,.pointer (some ⟨r5,0,none⟩)),(39,.int .i64 s.l.length),(40,.int .i64 j)]∧C'=pt r2 [.int .i64 0,.int .i64 0,.int .i64 0,.int .i64 0,.bool false,.int .i64 0,.int .i64 0] 53::pt r5 [.int .i64 s.l.length,.int .i64 (fG s true:Nat),.int .i64 (wtL (s.l.take j):Nat),.int .i64 (kpL (s.l.take j):Nat),.bool s.dr.ov,.int .i64 s.dr.co,.int .i64 s.now] 53::b7 x a s M mc R) s.l.length (b9 s.l.length ⟨0,by omega,by simp[wtL],by simp[kpL],⟨rfl,rfl,rfl,rfl,rfl,trivial⟩,rfl⟩ (by omega)) ?_
  rintro n a' C' ⟨j,hj,hw,hk,ha,rfl⟩
  refine gF _ ha ?_
  simp only[eQ]
  by_cases hlt:j<s.l.length
  ·obtain⟨m,hm⟩:∃m,s.l[j]?=some m:=⟨_,List.getElem?_eq_getElem hlt⟩
   have hw2:=Zz hm
   have hk2:=Aco hm
   have hw3:((wtL (s.l.take j):Nat):Int)+((Hf m.x:Nat):Int)=(wtL (s.l.take (j+1)):Nat):=by omega
   have hk3:((kpL (s.l.take j):Nat):Int)+((gT m.y:Nat):Int)=(kpL (s.l.take (j+1)):Nat):=by omega
   repeat' (first|refine Yj ?_|refine Hi pN ?_|refine dw pX ?_|refine dw oA ?_|refine wr ?_|refine w5 ?_ ?_|((refine bh fun h=>?_) <;> try exact w6 h)|(refine aE fun hA=>?_;subst hA)|intro _|(show aA _ 85 _ _ _;refine CA (h:=EA (l:=s.l) hI.sm hm (fun _=>?_)))|(show aA _ 86 _ _ _;refine CA (h:=ML (m:=m) (fun _=>?_)))|(show aA _ 87 _ _ _;refine CA (h:=Ze (x:=m.x) ?_))|(show aA _ 88 _ _ _;refine CA (h:=Acl (z:=m.x) (fun hxl=>?_)))|(show aA _ 89 _ _ _;refine CA (h:=aA.ent (Ic (m:=m) (z:=m.x) rfl) (nM (m:=m) (fun _=>?_))))|(show aA _ 90 _ _ _;refine CA (h:=Ws (y:=m.y) (fun hyl=>?_))))
   all_goals rw[hw3,hk3]
   all_goals(show aW _ _ _ _;exact pJ (m:=n - 1) (C':=pt r2 [.int .i64 0,.int .i64 0,.int .i64 0,.int .i64 0,.bool false,.int .i64 0,.int .i64 0] 53::pt r5 [.int .i64 s.l.length,.int .i64 (fG s true:Nat),.int .i64 (wtL (s.l.take (j+1)):Nat),.int .i64 (kpL (s.l.take (j+1)):Nat),.bool s.dr.ov,.int .i64 s.dr.co,.int .i64 s.now] 53::b7 x a s M mc R) (by omega) (aG.trans (by exact bA) (aG.trans (aG.cons (A:=pt r2 [.int .i64 0,.int .i64 0,.int .i64 0,.int .i64 0,.bool false,.int .i64 0,.int .i64 0] 53) (aG.cons (A:=pt r5 [.int .i64 s.l.length,.int .i64 (fG s true:Nat),.int .i64 (wtL (s.l.take (j+1)):Nat),.int .i64 (kpL (s.l.take (j+1)):Nat),.bool s.dr.ov,.int .i64 s.dr.co,.int .i64 s.now] 53) (k8 (m:=m) (y:=m.y) rfl))) (aG.cons (aG.cons (dD (x:=x) (a:=a) (s:=s) (M:=M) (mc:=mc) (R:=R) hm))))) ⟨j+1,by omega,by omega,by omega,⟨rfl,rfl,rfl,rfl,rfl,trivial⟩,rfl⟩)
  ·obtain rfl:j=s.l.length:=by omega
   rw[List.take_length]
   repeat' (first|refine Yj ?_|refine Hi pN ?_|refine dw pX ?_|refine dw oA ?_|refine wr ?_|refine w5 ?_ ?_|((refine bh fun h=>?_) <;> try exact w6 h)|(refine aE fun hA=>?_;subst hA)|intro _)
   all_goals(refine aC ?_;exact aB (hK))
end
end Go.Proofs.YtifgibijcmppmaaGreat
