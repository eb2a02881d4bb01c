/- A part of the proof: lemmas; each with the conditions that it states. -/
import Derived.Test.YtifgibijcmppmaaGreatUbf
set_option linter.unusedVariables false
set_option linter.unusedSimpArgs false
set_option maxRecDepth 100000
set_option maxHeartbeats 40000000
namespace Go.Proofs.YtifgibijcmppmaaGreat
open Go Go.Proofs Go.Sl
attribute [local irreducible] aN fN cX bP aM aX aA dS dV aT dU pt ro eV star sep bH
attribute [local irreducible] mp ED
section
variable {R C:List HP} {K:KP} {x mc i b p r:Nat} {a:Ca} {s:Cn} {M:Option Addr} {B:Int} {f:Fm}
theorem Gd (hI:bU B s) (hB:B+300≤249000000) (hr:cZ f) (hv:dT R f.pa rE f.ps) (hn:f.ps.length=f.pn) (hK:∀M mc,K (.tuple #[]) (b5 x a (bT f s) M mc R)):CT 77 #[PO x,.agg #[I6 f.t,I6 f.st,.bool f.e,.string f.d,I6 f.k,I6 f.on,I6 f.w,.bool f.x,I6 f.c,I6 f.la,I6 f.n,.slice f.pa f.pn f.pc]] (b5 x a s M mc R) K:=by
 have ht:=hr.1
 obtain⟨t,st,e,d,k,on,w,xx,c,la,n,pa,pn,pc,ps⟩:=f
 dsimp only at ht hv hn ⊢
 rcases(by omega:t=0∨t=1∨t=2∨t=3∨t=4∨t=5∨t=6∨t=7∨t=8∨t=9∨t=10∨t=11) with rfl|rfl|rfl|rfl|rfl|rfl|rfl|rfl|rfl|rfl|rfl|rfl
 ·exact LS hI hB hr hv hn hK
 ·exact M6 hI hB hr hv hn hK
 ·exact Nc hI hB hr hv hn hK
 ·exact LH hI hB hr hv hn hK
 ·exact Ms hI hB hr hv hn hK
 ·exact NG hI hB hr hv hn hK
 ·exact LX hI hB hr hv hn hK
 ·exact LV hI hB hr hv hn hK
 ·exact NH hI hB hr hv hn hK
 ·exact MU hI hB hr hv hn hK
 ·exact J1 hI hB hr hv hn hK
 ·exact JL hI hB hr hv hn hK
end
section
variable {R C:List HP} {K:KP} {x mc i b p r:Nat} {a:Ca} {s:Cn} {M:Option Addr} {B:Int} {f:Fm}
theorem QB {p:ByteArray} (h:DU p=none):cZ (Lu p):=by
 unfold DU at h
 split at h
 ·cases h
 ·split at h
  ·split at h
   ·split at h
    ·cases h
    ·split at h
     ·rename_i hg
      unfold gE at hg
      split at hg
      ·split at hg
       ·split at hg
        ·rename_i hk
         unfold gOk gB at hk
         rw[Bool.and_eq_true] at hk
         exact(GN _ _ _ _ _ _ _ _ _ _ _ _).1 hk.1
        ·cases hg
       ·cases hg
      ·rename_i hq;first|exact absurd hg hq|exact absurd (by assumption) hq
     ·cases h
   ·cases h
  ·cases h
theorem Aal:∀(k:Nat) (bs:List UInt8),bs.length≤k→∀p∈(pF bs).1,DU p=none:=by
 intro k
 induction k with
 |zero=>
  intro bs hb p hp
  cases hs:DU (kW bs) with
  |some e=>rw[yG hs] at hp;cases hp
  |none=>
   exfalso
   have h0:bs.length=0:=by omega
   unfold DU at hs
   rw[if_pos (by rw[pD];omega)] at hs
   cases hs
 |succ k ih=>
  intro bs hb p hp
  cases hs:DU (kW bs) with
  |some e=>rw[yG hs] at hp;cases hp
  |none=>
   rw[GG hs] at hp
   rcases List.mem_cons.1 hp with rfl|hp
   ·exact hs
   ·refine ih _ ?_ p hp
    have h9:¬(kW bs).size<9:=fun hq=>by unfold DU at hs;rw[if_pos hq] at hs;cases hs
    rw[pD] at h9
    have hL:0≤sL (kW bs):=by
     unfold DU at hs
     split at hs
     ·cases hs
     ·split at hs
      ·split at hs
       ·rename_i hf;exact(MZ hf).1
       ·cases hs
      ·cases hs
    rw[List.length_drop]
    omega
theorem SE {fs:List Fm} {bs:List UInt8} (h:fs.map jL=(pF bs).1.map Lu):∀z∈fs,cZ z∧z.ps.length=z.pn:=fun z hz=>by
 have h1:jL z∈(pF bs).1.map Lu:=by rw[← h];exact List.mem_map_of_mem hz
 obtain⟨p,hp,he⟩:=List.mem_map.1 h1
 have h2:=QB (Aal bs.length bs (Nat.le_refl _) p hp)
 rw[he] at h2
 refine⟨h2,?_⟩
 have h3:(Lu p).ps.length=(Lu p).pn:=rfl
 rw[he] at h3
 exact h3
theorem IR {u:List UInt8} (h:bU B s) (hB:B+u.length≤250000000):bU (B+u.length) (iQ u (aD s)).2:=
 { h.mono (B':=B+u.length) (by omega) hB with
   inb:=by
    have h1:=h.inb
    have h2:=(U7 (s.inb++u).length (s.inb++u) (Nat.le_refl _)).2
    rw[List.length_append] at h2
    show((if(pF (s.inb++u)).2.2=0 then(pF (s.inb++u)).2.1 else []:List UInt8).length:Int)≤B+u.length
    split
    ·omega
    ·have:=h.bb;simp only[List.length_nil];omega
   mv:=by
    have h1:=h.mv
    have:=h.bb
    show(([]:List Mv).length:Int)+s.l.length≤B+u.length
    simp only[List.length_nil];omega }
theorem YS {x:Nat} {ks:List UInt8} {s:ByteArray} {e0:Int} (h0:e0=0) (hz:ks.length+s.size<4000000) (hK:∀F c fs,fs.map jL=(pF (ks++s.data.toList)).1.map Lu→K (.tuple #[.slice F fs.length c,I6 (pF (ks++s.data.toList)).2.2]) (bQ F c 45 uR fs::kR yA fs::spP x (if(pF (ks++s.data.toList)).2.2=0 then(pF (ks++s.data.toList)).2.1 else []) (pF (ks++s.data.toList)).2.2::R)):CT 76 #[PO x,.string s] (spP x ks e0::R) K:=by
 subst h0;exact Aes hz hK
theorem XQ {u:ByteArray} (hI:bU B s) (he:s.dr.ov=true∨s.ine=0) (hu:s.inb.length+u.size<4000000) (hB:B+u.size+300 * (pF (s.inb++u.data.toList)).1.length≤248000000) (hK:∀M mc,K (I6 (Gx s)) (b5 x a (lQ u.data.toList s) M mc R)):CT 14 #[PO x,.string u] (b5 x a s M mc R) K:=by
 have hbb:=hI.bb
 have hsz:u.data.toList.length=u.size:=Array.length_toList
 unfold Gx lQ at hK
 cases ho:s.dr.ov
 ·rw[ho] at hK
  simp only[Bool.false_eq_true,if_false] at hK
  have hine:s.ine=0:=he.resolve_left (by rw[ho];decide)
  have hI1:=IR (u:=u.data.toList) hI (by omega)
  have hst:(iQ u.data.toList (aD s)).2= { aD s with inb:=(if(pF (s.inb++u.data.toList)).2.2=0 then(pF (s.inb++u.data.toList)).2.1 else []),ine:=(pF (s.inb++u.data.toList)).2.2 }:=rfl
  have hfs:(iQ u.data.toList (aD s)).1=(pF (s.inb++u.data.toList)).1.map Lu:=rfl
  rw[hfs] at hK
  generalize hs1:(iQ u.data.toList (aD s)).2=s1 at hK hst hI1
  have ho1:s1.dr.ov=false:=by rw[hst];exact ho
  refine aH Tryz.func14 ?_
  repeat' (first|refine KV ?_|refine w5 ?_ ?_|((refine bh fun h=>?_) <;> try exact w6 h)|(refine aE fun hA=>?_;subst hA)|intro _|(show aA _ 75 _ _ _;refine CA (h:=b9 (x:=x) (a:=a) (s:=s) (M:=M) (mc:=mc) (R:=R) ?_);rw[ho,if_neg Bool.false_ne_true])|(show aA _ 76 _ _ _;refine CA (h:=YS (e0:=(aD s).ine) (ks:=s.inb) (s:=u) hine hu (fun F c fs hfe=>?_))))
  subst hst
  have hfl:=congrArg List.length hfe
  simp only[List.length_map] at hfl
  refine fZ (fun n1 a' C'=>∃(j:Nat) (s':Cn) (M':Option Addr) (mc':Nat),j+n1=fs.length∧bU (B+u.data.toList.length+300 * j) s'∧s'.dr.ov=false∧d9 ((fs.drop j).map jL) s'=d9 ((pF (s.inb++u.data.toList)).1.map Lu) { aD s with inb:=(if(pF (s.inb++u.data.toList)).2.2=0 then(pF (s.inb++u.data.toList)).2.1 else []),ine:=(pF (s.inb++u.data.toList)).2.2 }∧cJ a' [(0,PO x),(7,I6 (pF (s.inb++u.data.toList)).2.2),(24,.slice F fs.length c),(25,I6 fs.length),(26,I6 j)]∧C'=bQ F c 45 uR fs::kR yA fs::b5 x a s' M' mc' R) fs.length (bV fs.length ⟨0,{ aD s with inb:=(if(pF (s.inb++u.data.toList)).2.2=0 then(pF (s.inb++u.data.toList)).2.1 else []),ine:=(pF (s.inb++u.data.toList)).2.2 },none,0,by omega,hI1.mono (by omega) (by omega),ho1,by rw[List.drop_zero,hfe],⟨rfl,rfl,rfl,rfl,rfl,trivial⟩,rfl⟩ (by omega)) ?_
  rintro n1 a' C' ⟨j,s',M',mc',hj,hI',ho',hc,ha,rfl⟩
  refine fP _ ha ?_
  simp only[eP]
  by_cases hlt:j<fs.length
  ·obtain⟨z,hz,hd⟩:=i7 (l:=fs) (j:=j) hlt
   have hzm:=List.mem_of_getElem? hz
   obtain⟨hzr,hzn⟩:=SE hfe z hzm
   have hv:fs[((j:Nat):Int).toNat]?=some z:=by rw[Int.toNat_natCast];exact hz
   rw[hd] at hc
   have hc2:(if(bT z s').dr.ov=true then bT z s' else d9 ((fs.drop (j+1)).map jL) (bT z s'))=d9 ((pF (s.inb++u.data.toList)).1.map Lu) { aD s with inb:=(if(pF (s.inb++u.data.toList)).2.2=0 then(pF (s.inb++u.data.toList)).2.1 else []),ine:=(pF (s.inb++u.data.toList)).2.2 }:=hc
   have hI2:=CU hI' (by omega) hzr
   cases hov:(bT z s').dr.ov
   ·rw[hov,if_neg Bool.false_ne_true] at hc2
    repeat' (first|refine KV ?_|refine w5 ?_ ?_|((refine bh fun h=>?_) <;> try exact w6 h)|(refine aE fun hA=>?_;subst hA)|intro _|(show aA _ 77 _ _ _;refine CA (h:=Gd (x:=x) (a:=a) (s:=s') (M:=M') (mc:=mc') (R:=bQ _ c 45 uR fs::kR yA fs::R) (f:=z) hI' (by omega) hzr (bM (w8 hzm)) hzn (fun _ _=>?_)))|(show aA _ 78 _ _ _;refine CA (h:=j8 (x:=x) (a:=a) (s:=bT z s') ?_);rw[hov]))
    all_goals(show aT _ _ _ _;exact bV (n1 - 1) ⟨j+1,bT z s',_,_,by omega,hI2.mono (by omega) (by omega),hov,hc2,⟨rfl,rfl,rfl,rfl,rfl,trivial⟩,rfl⟩)
   ·rw[hov,if_pos rfl] at hc2
    rw[← hc2,if_pos (.inl hov)] at hK
    repeat' (first|refine KV ?_|refine w5 ?_ ?_|((refine bh fun h=>?_) <;> try exact w6 h)|(refine aE fun hA=>?_;subst hA)|intro _|(show aA _ 77 _ _ _;refine CA (h:=Gd (x:=x) (a:=a) (s:=s') (M:=M') (mc:=mc') (R:=bQ _ c 45 uR fs::kR yA fs::R) (f:=z) hI' (by omega) hzr (bM (w8 hzm)) hzn (fun _ _=>?_)))|(show aA _ 78 _ _ _;refine CA (h:=j8 (x:=x) (a:=a) (s:=bT z s') ?_);rw[hov]))
    all_goals(refine aC ?_;exact aB (hK _ _))
  ·have hd:fs.drop j= []:=List.drop_eq_nil_of_le (by omega)
   rw[hd] at hc
   have hc2:s'=d9 ((pF (s.inb++u.data.toList)).1.map Lu) { aD s with inb:=(if(pF (s.inb++u.data.toList)).2.2=0 then(pF (s.inb++u.data.toList)).2.1 else []),ine:=(pF (s.inb++u.data.toList)).2.2 }:=hc
   rw[← hc2] at hK
   by_cases hE:(pF (s.inb++u.data.toList)).2.2=0
   ·rw[if_pos (.inr hE)] at hK
    repeat' (first|refine KV ?_|refine w5 ?_ ?_|((refine bh fun h=>?_) <;> try exact w6 h)|(refine aE fun hA=>?_;subst hA)|intro _)
    all_goals(refine aC ?_;exact aB (hK _ _))
   ·rw[if_neg (fun q=>q.elim (fun w=>by rw[ho'] at w;cases w) hE)] at hK
    repeat' (first|(show Br _ _ _;refine Br.t (by first|(simp <;> done)|simpa using hE) ?_)|refine KV ?_|refine w5 ?_ ?_|((refine bh fun h=>?_) <;> try exact w6 h)|(refine aE fun hA=>?_;subst hA)|intro _|(show aA _ 79 _ _ _;refine CA (h:=dO (x:=x) (a:=a) (s:=s') hI' (by decide) (by decide) (fun _ _=>?_))))
    all_goals(refine aC ?_;exact aB (hK _ _))
 ·rw[ho,if_pos rfl,if_pos rfl] at hK
  refine aH Tryz.func14 ?_
  repeat' (first|refine KV ?_|refine w5 ?_ ?_|((refine bh fun h=>?_) <;> try exact w6 h)|(refine aE fun hA=>?_;subst hA)|intro _|(show aA _ 75 _ _ _;refine CA (h:=b9 (x:=x) (a:=a) (s:=s) (M:=M) (mc:=mc) (R:=R) ?_);rw[ho,if_pos rfl]))
  all_goals(refine aC ?_;exact aB (hK _ _))
end
section
variable {R C:List HP} {K:KP} {x mc i b p r:Nat} {a:Ca} {s:Cn} {M:Option Addr} {B id n:Int} {m:Sm} {d:ByteArray} {y:Ys}
theorem qJ (h:cM s id=0):s.dr.ov=false∧∃m,bY id s.l=some m:=by
 unfold cM at h
 cases ho:s.dr.ov
 ·refine⟨rfl,?_⟩
  rw[ho,if_neg Bool.false_ne_true] at h
  cases hm:bY id s.l with
  |some m=>exact⟨m,rfl⟩
  |none=>
   rw[hm] at h
   dsimp only at h
   split at h <;> cases h
 ·rw[ho,if_pos rfl] at h;cases h
theorem WX (hb:0≤s.now∧s.now≤1000000000) (hK:K (I6 (s.now+1)) (b5 x a (qC s) M mc R)):CT 102 #[PO x] (b5 x a s M mc R) K:=by
 dsimp only[b5,nW,qC] at hK ⊢
 refine aH Tryz.func102 ?_
 repeat' (first|refine Gt ?_|refine w5 ?_ ?_|((refine bh fun h=>?_) <;> try exact w6 h)|(refine aE fun hA=>?_;subst hA)|intro _)
 all_goals(refine aC ?_;exact aB (hK))
theorem Bo:(Az m d).id=m.id:=by unfold Az;split <;> rfl
theorem Bb:(AO m).id=m.id:=by unfold AO;split <;> rfl
theorem S0 (hI:bU B s) (hd:d.size≤100000000) (hK:K (.tuple #[I6 (Ac id d s).1,I6 (Ac id d s).2]) (b5 x a (qX id d s) none 0 R)):CT 44 #[PO x,I6 id,.string d] (b5 x a s M mc R) K:=by
 have hbb:=hI.bb
 unfold Ac qX at hK
 by_cases hf:cM s id=0
 ·obtain⟨ho,m,hm⟩:=qJ hf
  obtain⟨hi,hmid⟩:=bA hm
  have hac:=(hI.st m (List.mem_of_getElem? hi)).ac
  simp only[if_neg (fun q=>q hf:¬cM s id≠0)] at hK
  rw[hm] at hK
  dsimp only at hK
  rw[eE (id:=id) (Bo.trans hmid)] at hK
  refine aH Tryz.func44 ?_
  repeat' (first|refine v2 ?_|refine w5 ?_ ?_|((refine bh fun h=>?_) <;> try exact w6 h)|(refine aE fun hA=>?_;subst hA)|intro _|(show aA _ 116 _ _ _;refine CA (h:=fQ (x:=x) (a:=a) (s:=s) (M:=M) (mc:=mc) (R:=R) hI ho hm (fun _=>?_)))|(show aA _ 138 _ _ _;refine CA (h:=Zc (m:=m) (by omega) (by omega) ?_)))
  all_goals(refine aC ?_;exact aK (aG.trans (by exact aZ) ((l6 (x:=x) (a:=a) (s:=aD s) (M:=none) (mc:=0) (R:=R) (m':=Az m d) hi Bo))) (hK))
 ·simp only[if_pos hf] at hK
  refine aH Tryz.func44 ?_
  repeat' (first|(show Br _ _ _;refine Br.t (by first|(simp <;> done)|simpa using hf) ?_)|refine v2 ?_|refine w5 ?_ ?_|((refine bh fun h=>?_) <;> try exact w6 h)|(refine aE fun hA=>?_;subst hA)|intro _|(show aA _ 116 _ _ _;refine CA (h:=nT (x:=x) (a:=a) (s:=s) (M:=M) (mc:=mc) (R:=R) hI hf ?_)))
  all_goals(refine aC ?_;exact aB (hK))
theorem Ac7 (hI:bU B s) (hK:K (I6 (R3 id s)) (b5 x a (Cd id s) none 0 R)):CT 204 #[PO x,I6 id] (b5 x a s M mc R) K:=by
 unfold R3 Cd at hK
 by_cases hf:cM s id=0
 ·obtain⟨ho,m,hm⟩:=qJ hf
  obtain⟨hi,hmid⟩:=bA hm
  simp only[if_neg (fun q=>q hf:¬cM s id≠0)] at hK
  rw[hm] at hK
  dsimp only at hK
  rw[eE (id:=id) (Bb.trans hmid)] at hK
  refine aH Tryz.func204 ?_
  repeat' (first|refine v2 ?_|refine w5 ?_ ?_|((refine bh fun h=>?_) <;> try exact w6 h)|(refine aE fun hA=>?_;subst hA)|intro _|(show aA _ 116 _ _ _;refine CA (h:=fQ (x:=x) (a:=a) (s:=s) (M:=M) (mc:=mc) (R:=R) hI ho hm (fun _=>?_)))|(show aA _ 295 _ _ _;refine CA (h:=Acj (m:=m) ?_)))
  all_goals(refine aC ?_;exact aK (aG.trans (by exact aZ) ((l6 (x:=x) (a:=a) (s:=aD s) (M:=none) (mc:=0) (R:=R) (m':=AO m) hi Bb))) (hK))
 ·simp only[if_pos hf] at hK
  refine aH Tryz.func204 ?_
  repeat' (first|(show Br _ _ _;refine Br.t (by first|(simp <;> done)|simpa using hf) ?_)|refine v2 ?_|refine w5 ?_ ?_|((refine bh fun h=>?_) <;> try exact w6 h)|(refine aE fun hA=>?_;subst hA)|intro _|(show aA _ 116 _ _ _;refine CA (h:=nT (x:=x) (a:=a) (s:=s) (M:=M) (mc:=mc) (R:=R) hI hf ?_)))
  all_goals(refine aC ?_;exact aB (hK))
theorem Zi:kV (Gq y n)=kV y:=by cases y <;> rfl
theorem Ad9 (hI:bU B s) (hK:K (I6 (SX id n s)) (b5 x a (Ci id n s) none 0 R)):CT 205 #[PO x,I6 id,I6 n] (b5 x a s M mc R) K:=by
 unfold SX Ci at hK
 by_cases hf:cM s id=0
 ·obtain⟨ho,m,hm⟩:=qJ hf
  obtain⟨hi,hmid⟩:=bA hm
  simp only[if_neg (fun q=>q hf:¬cM s id≠0)] at hK
  rw[hm] at hK
  dsimp only at hK
  rw[eE (id:=id) (show({ m with y:=Gq m.y n }:Sm).id=id from hmid)] at hK
  refine aH Tryz.func205 ?_
  repeat' (first|refine v2 ?_|refine w5 ?_ ?_|((refine bh fun h=>?_) <;> try exact w6 h)|(refine aE fun hA=>?_;subst hA)|intro _|(show aA _ 116 _ _ _;refine CA (h:=fQ (x:=x) (a:=a) (s:=s) (M:=M) (mc:=mc) (R:=R) hI ho hm (fun _=>?_)))|(show aA _ 89 _ _ _;refine CA (h:=l5 (m:=m) (fun _=>?_)))|(show aA _ 296 _ _ _;refine CA (h:=Ahz (y:=m.y) ?_)))
  all_goals(refine aC ?_;exact aK (aG.trans (by exact aZ) ((aG.trans (jU Zi) (l6 (x:=x) (a:=a) (s:=aD s) (M:=none) (mc:=0) (R:=R) (m':= { m with y:=Gq m.y n }) hi rfl)))) (hK))
 ·simp only[if_pos hf] at hK
  refine aH Tryz.func205 ?_
  repeat' (first|(show Br _ _ _;refine Br.t (by first|(simp <;> done)|simpa using hf) ?_)|refine v2 ?_|refine w5 ?_ ?_|((refine bh fun h=>?_) <;> try exact w6 h)|(refine aE fun hA=>?_;subst hA)|intro _|(show aA _ 116 _ _ _;refine CA (h:=nT (x:=x) (a:=a) (s:=s) (M:=M) (mc:=mc) (R:=R) hI hf ?_)))
  all_goals(refine aC ?_;exact aB (hK))
end
section
variable {R C:List HP} {K:KP} {x mc i b p r:Nat} {a:Ca} {s:Cn} {M:Option Addr} {B id n:Int} {m:Sm} {d:ByteArray} {y:Ys}
theorem bG (h:bU B s):bU B (aD s):=
 { h with
   mv:=by
    have h1:=h.mv
    show(([]:List Mv).length:Int)+s.l.length≤B
    simp only[List.length_nil];omega }
theorem Aiv:kV (EE y n)=kV y:=by cases y <;> rfl
theorem Ain:kV (Fw y)=kV y:=by
 cases y with
 |b y=>rfl
 |i y=>unfold Fw;dsimp only;split <;> rfl
theorem RY (h:E6 B m):E6 B { m with y:=EE m.y n }:=by
 obtain⟨h1,h2,h3,h4⟩:=h
 refine⟨h1,h2,?_,?_⟩
 ·cases hy:m.y <;> (rw[hy] at h3;exact h3)
 ·cases hy:m.y with
  |b z=>rw[hy] at h4;simp only[EE,gF,List.length_drop] at h4 ⊢;omega
  |i z=>rw[hy] at h4;exact h4
theorem Tl (h:E6 B m):E6 B { m with y:=Fw m.y }:=by
 obtain⟨h1,h2,h3,h4⟩:=h
 cases hy:m.y with
 |b z=>rw[hy] at h3 h4;exact⟨h1,h2,h3,h4⟩
 |i z=>
  rw[hy] at h3 h4
  cases hl:z.l with
  |nil=>
   have e:Fw (.i z)=.i z:=by simp only[Fw,hl]
   rw[e];exact⟨h1,h2,h3,h4⟩
  |cons q r=>
   have e:Fw (.i z)=.i { z with l:=r,tk:=z.tk+1 }:=by simp only[Fw,hl]
   rw[e]
   refine⟨h1,h2,h3,?_⟩
   simp only[gF,hl,List.length_cons] at h4 ⊢
   omega
theorem Ae3 {y:Ys} (h:(gF y:Int)≤B):(((BZ y n).size:Nat):Int)≤max B 0:=by
 cases y with
 |b z=>
  have:(BZ (.b z) n).size=min (Ny z n) z.bs.length:=by
   show((z.bs.take (Ny z n)).toArray).size=_
   simp
  simp only[gF] at h
  omega
 |i z=>show((0:Nat):Int)≤max B 0;omega
theorem Wd (hI:bU B s) (hK:∀M mc,K (.tuple #[.string (vS id n s).1,.bool (vS id n s).2.1,I6 (vS id n s).2.2]) (b5 x a (wF id n s) M mc R)):CT 26 #[PO x,I6 id,I6 n] (b5 x a s M mc R) K:=by
 have hbb:=hI.bb
 have hrv:=hI.rv
 unfold Jn at hrv
 unfold vS wF at hK
 by_cases hf:cM s id=0
 ·obtain⟨ho,m,hm⟩:=qJ hf
  obtain⟨hi,hmid⟩:=bA hm
  have hIm:=hI.st m (List.mem_of_getElem? hi)
  have hsz:=Ae3 (n:=n) hIm.ln
  simp only[if_neg (fun q=>q hf:¬cM s id≠0)] at hK
  rw[hm] at hK
  dsimp only at hK
  by_cases hE:Ox m.y=0
  ·simp only[if_neg (fun q=>q hE:¬Ox m.y≠0)] at hK
   rw[eE (id:=id) (show({ m with y:=EE m.y n }:Sm).id=id from hmid)] at hK
   have hI2:bU B { ({ aD s with rv:=fY s.rv ((BZ m.y n).size:Nat) }:Cn) with l:=s.l.set (b7 id s.l) { m with y:=EE m.y n } }:=lI (s:= { aD s with rv:=fY s.rv ((BZ m.y n).size:Nat) }) (pI (bG hI)) hi rfl rfl (RY hIm)
   refine aH Tryz.func26 ?_
   repeat' (first|refine Jo ?_|refine w5 ?_ ?_|((refine bh fun h=>?_) <;> try exact w6 h)|(refine aE fun hA=>?_;subst hA)|intro _|(show aA _ 116 _ _ _;refine CA (h:=fQ (x:=x) (a:=a) (s:=s) (M:=M) (mc:=mc) (R:=R) hI ho hm (fun _=>?_)))|(show aA _ 89 _ _ _;first|refine CA (h:=l5 (m:=m) (fun _=>?_))|refine CA (h:=aA.ent (jU Aiv) (l5 (m:= { m with y:=EE m.y n }) (fun _=>?_))))|(show aA _ 117 _ _ _;refine CA (h:=Q0 (y:=m.y) ?_);rw[hE])|(show aA _ 118 _ _ _;refine CA (h:=tV (y:=s.rv) (by omega) (by omega) (fun _=>?_)))|(show aA _ 119 _ _ _;refine CA (h:=On (y:=EE m.y n) ?_))|(show aA _ 120 _ _ _;refine CA (h:=aA.ent (jU (m:= { m with y:=EE m.y n }) (y:=EE m.y n) rfl) (kX (x:=x) (a:=a) (s:= { aD s with rv:=fY s.rv ((BZ m.y n).size:Nat) }) (i:=b7 id s.l) (m:=m) (M:=none) (mc:=0) (R:=R) (m':= { m with y:=EE m.y n }) hi rfl hI2 (lN hm rfl) (fun _ _=>?_)))))
   all_goals(refine aC ?_;exact aB (hK _ _))
  ·simp only[if_pos hE] at hK
   have hy:EE m.y n=m.y∧BZ m.y n=⟨#[]⟩:=by cases hq:m.y with
    |b z=>rw[hq] at hE;exact absurd rfl hE
    |i z=>exact⟨rfl,rfl⟩
   refine aH Tryz.func26 ?_
   repeat' (first|(show Br _ _ _;refine Br.t (by first|(simp <;> done)|simpa using hE) ?_)|refine Jo ?_|refine w5 ?_ ?_|((refine bh fun h=>?_) <;> try exact w6 h)|(refine aE fun hA=>?_;subst hA)|intro _|(show aA _ 116 _ _ _;refine CA (h:=fQ (x:=x) (a:=a) (s:=s) (M:=M) (mc:=mc) (R:=R) hI ho hm (fun _=>?_)))|(show aA _ 89 _ _ _;refine CA (h:=l5 (m:=m) (fun _=>?_)))|(show aA _ 117 _ _ _;refine CA (h:=Q0 (y:=m.y) ?_);rw[hy.1,hy.2]))
   all_goals(refine aC ?_;exact aK (aG.trans (by exact aZ) ((aG.trans (jU (m:=m) (y:=m.y) rfl) (d8 (x:=x) (a:=a) (s:=aD s) (M:=none) (mc:=0) (R:=R) hi)))) (hK _ _))
 ·simp only[if_pos hf] at hK
  refine aH Tryz.func26 ?_
  repeat' (first|(show Br _ _ _;refine Br.t (by first|(simp <;> done)|simpa using hf) ?_)|refine Jo ?_|refine w5 ?_ ?_|((refine bh fun h=>?_) <;> try exact w6 h)|(refine aE fun hA=>?_;subst hA)|intro _|(show aA _ 116 _ _ _;refine CA (h:=nT (x:=x) (a:=a) (s:=s) (M:=M) (mc:=mc) (R:=R) hI hf ?_)))
  all_goals(refine aC ?_;exact aB (hK _ _))
end
section
variable {R C:List HP} {K:KP} {x mc i b p r:Nat} {a:Ca} {s:Cn} {M:Option Addr} {B id n:Int} {m:Sm} {d:ByteArray} {y:Ys}
theorem Wu (hI:bU B s) (hK:∀M mc,K (.tuple #[.string (s7 id s).1,.bool (s7 id s).2.1,.bool (s7 id s).2.2.1,I6 (s7 id s).2.2.2]) (b5 x a (wE id s) M mc R)):CT 27 #[PO x,I6 id] (b5 x a s M mc R) K:=by
 have hbb:=hI.bb
 unfold s7 wE at hK
 by_cases hf:cM s id=0
 ·obtain⟨ho,m,hm⟩:=qJ hf
  obtain⟨hi,hmid⟩:=bA hm
  have hIm:=hI.st m (List.mem_of_getElem? hi)
  simp only[if_neg (fun q=>q hf:¬cM s id≠0)] at hK
  rw[hm] at hK
  dsimp only at hK
  by_cases hE:VL m.y=0
  ·simp only[if_neg (fun q=>q hE:¬VL m.y≠0)] at hK
   rw[eE (id:=id) (show({ m with y:=Fw m.y }:Sm).id=id from hmid)] at hK
   have hI2:bU B { aD s with l:=s.l.set (b7 id s.l) { m with y:=Fw m.y } }:=lI (s:=aD s) (bG hI) hi rfl rfl (Tl hIm)
   refine aH Tryz.func27 ?_
   repeat' (first|refine v2 ?_|refine w5 ?_ ?_|((refine bh fun h=>?_) <;> try exact w6 h)|(refine aE fun hA=>?_;subst hA)|intro _|(show aA _ 116 _ _ _;refine CA (h:=fQ (x:=x) (a:=a) (s:=s) (M:=M) (mc:=mc) (R:=R) hI ho hm (fun _=>?_)))|(show aA _ 89 _ _ _;first|refine CA (h:=l5 (m:=m) (fun _=>?_))|refine CA (h:=aA.ent (jU Ain) (l5 (m:= { m with y:=Fw m.y }) (fun _=>?_))))|(show aA _ 121 _ _ _;refine CA (h:=Pu (y:=m.y) ?_);rw[hE])|(show aA _ 119 _ _ _;refine CA (h:=On (y:=Fw m.y) ?_))|(show aA _ 120 _ _ _;refine CA (h:=aA.ent (jU (m:= { m with y:=Fw m.y }) (y:=Fw m.y) rfl) (kX (x:=x) (a:=a) (s:=aD s) (i:=b7 id s.l) (m:=m) (M:=none) (mc:=0) (R:=R) (m':= { m with y:=Fw m.y }) hi rfl hI2 (lN hm rfl) (fun _ _=>?_)))))
   all_goals(refine aC ?_;exact aB (hK _ _))
  ·simp only[if_pos hE] at hK
   have hy:Fw m.y=m.y∧Aiz m.y=⟨#[]⟩∧Adi m.y=false:=by cases hq:m.y with
    |b z=>exact⟨rfl,rfl,rfl⟩
    |i z=>rw[hq] at hE;exact absurd rfl hE
   refine aH Tryz.func27 ?_
   repeat' (first|(show Br _ _ _;refine Br.t (by first|(simp <;> done)|simpa using hE) ?_)|refine v2 ?_|refine w5 ?_ ?_|((refine bh fun h=>?_) <;> try exact w6 h)|(refine aE fun hA=>?_;subst hA)|intro _|(show aA _ 116 _ _ _;refine CA (h:=fQ (x:=x) (a:=a) (s:=s) (M:=M) (mc:=mc) (R:=R) hI ho hm (fun _=>?_)))|(show aA _ 89 _ _ _;refine CA (h:=l5 (m:=m) (fun _=>?_)))|(show aA _ 121 _ _ _;refine CA (h:=Pu (y:=m.y) ?_);rw[hy.1,hy.2.1,hy.2.2]))
   all_goals(refine aC ?_;exact aK (aG.trans (by exact aZ) ((aG.trans (jU (m:=m) (y:=m.y) rfl) (d8 (x:=x) (a:=a) (s:=aD s) (M:=none) (mc:=0) (R:=R) hi)))) (hK _ _))
 ·simp only[if_pos hf] at hK
  refine aH Tryz.func27 ?_
  repeat' (first|(show Br _ _ _;refine Br.t (by first|(simp <;> done)|simpa using hf) ?_)|refine v2 ?_|refine w5 ?_ ?_|((refine bh fun h=>?_) <;> try exact w6 h)|(refine aE fun hA=>?_;subst hA)|intro _|(show aA _ 116 _ _ _;refine CA (h:=nT (x:=x) (a:=a) (s:=s) (M:=M) (mc:=mc) (R:=R) hI hf ?_)))
  all_goals(refine aC ?_;exact aB (hK _ _))
theorem Hg {f:Fm} {out:List Fm} (h:EF f out≠0):zF f out=out:=by unfold zF;rw[if_pos h]
def l9:List (Nat×Nat):= [(4,0),(5,0),(6,0),(7,0),(8,1),(0,1),(1,1),(2,1),(3,1),(9,0),(10,1),(11,0),(12,0)]
def mB:List (Nat×Nat):= [(4,0),(5,0),(6,0),(7,0),(8,1),(0,1),(1,1),(2,1),(3,1),(9,1),(10,0)]
theorem UG (hI:bU B s) (hK:K (I6 (Aa4 s)) (b5 x a (JI s) none 0 R)):CT 100 #[PO x] (b5 x a s M mc R) K:=by
 unfold Aa4 JI at hK
 cases ho:s.dr.ov
 ·cases hs:s.dr.se
  ·by_cases hq:EF (E8 s.la 0) s.out=0
   ·simp only[ho,hs,hq,Bool.false_eq_true,if_false,false_or,ne_eq,not_true_eq_false] at hK
    refine aH Tryz.func100 ?_
    repeat' (first|refine v46 ?_|refine dw l9 ?_|refine dw mB ?_|refine w5 ?_ ?_|((refine bh fun h=>?_) <;> try exact w6 h)|(refine aE fun hA=>?_;subst hA)|intro _|(show aA _ 75 _ _ _;refine CA (h:=b9 (x:=x) (a:=a) (s:=s) (M:=M) (mc:=mc) (R:=R) ?_);rw[ho,if_neg Bool.false_ne_true])|(show aA _ 201 _ _ _;refine CA (h:=EY (d:=s.dr) ?_);rw[hs])|(show aA _ 173 _ _ _;refine CA (h:=C3 (sd:=s.sd) (nx:=s.nx) (la:=s.la) ?_))|(show aA _ 60 _ _ _;refine CA (h:=jZ (f:=E8 s.la 0) hI.ou eI rfl (show(0:Nat)<1000000000000000 by decide) ?_);rw[hq])|(show aA _ 202 _ _ _;refine CA (h:=YJ (d:=s.dr) ?_)))
    all_goals(refine aC ?_;exact aB (hK))
   ·simp only[ho,hs,hq,Bool.false_eq_true,if_false,false_or,ne_eq,not_false_eq_true,if_true] at hK
    have h9:=Hg hq
    refine aH Tryz.func100 ?_
    repeat' (first|(show Br _ _ _;refine Br.t (by first|(simp <;> done)|simpa using hq) ?_)|refine v46 ?_|refine dw l9 ?_|refine dw mB ?_|refine w5 ?_ ?_|((refine bh fun h=>?_) <;> try exact w6 h)|(refine aE fun hA=>?_;subst hA)|intro _|(show aA _ 75 _ _ _;refine CA (h:=b9 (x:=x) (a:=a) (s:=s) (M:=M) (mc:=mc) (R:=R) ?_);rw[ho,if_neg Bool.false_ne_true])|(show aA _ 201 _ _ _;refine CA (h:=EY (d:=s.dr) ?_);rw[hs])|(show aA _ 173 _ _ _;refine CA (h:=C3 (sd:=s.sd) (nx:=s.nx) (la:=s.la) ?_))|(show aA _ 60 _ _ _;refine CA (h:=jZ (f:=E8 s.la 0) hI.ou eI rfl (show(0:Nat)<1000000000000000 by decide) ?_);rw[h9]))
    all_goals(refine aC ?_;exact aB (hK))
  ·simp only[ho,hs,Bool.false_eq_true,if_false,if_true,true_or,or_true] at hK
   refine aH Tryz.func100 ?_
   repeat' (first|refine v46 ?_|refine dw l9 ?_|refine dw mB ?_|refine w5 ?_ ?_|((refine bh fun h=>?_) <;> try exact w6 h)|(refine aE fun hA=>?_;subst hA)|intro _|(show aA _ 75 _ _ _;refine CA (h:=b9 (x:=x) (a:=a) (s:=s) (M:=M) (mc:=mc) (R:=R) ?_);rw[ho,if_neg Bool.false_ne_true])|(show aA _ 201 _ _ _;refine CA (h:=EY (d:=s.dr) ?_);rw[hs]))
   all_goals(refine aC ?_;exact aB (hK))
 ·simp only[ho,if_true,true_or] at hK
  refine aH Tryz.func100 ?_
  repeat' (first|refine v46 ?_|refine dw l9 ?_|refine dw mB ?_|refine w5 ?_ ?_|((refine bh fun h=>?_) <;> try exact w6 h)|(refine aE fun hA=>?_;subst hA)|intro _|(show aA _ 75 _ _ _;refine CA (h:=b9 (x:=x) (a:=a) (s:=s) (M:=M) (mc:=mc) (R:=R) ?_);rw[ho,if_pos rfl]))
  all_goals(refine aC ?_;exact aB (hK))
end
section
variable {R C:List HP} {K:KP} {x mc i b p r:Nat} {a:Ca} {s:Cn} {M:Option Addr} {B id n:Int} {m:Sm} {d:ByteArray} {y:Ys}
theorem q6 {f:Fm} (h:bU B s):bU B { s with out:=zF f s.out }:= { h with ou:=EQ h.ou }
def jQ:List (Nat×Nat):= [(0,0),(1,0),(2,0),(3,0),(4,0),(5,1),(6,0),(7,0)]
theorem Sg (hI:bU B s) (hK:∀M mc,K (I6 (lS id n s)) (b5 x a (qZ id n s) M mc R)):CT 207 #[PO x,I6 id,I6 n] (b5 x a s M mc R) K:=by
 unfold qZ at hK
 by_cases hf:cM s id=0
 ·obtain⟨ho,m,hm⟩:=qJ hf
  obtain⟨hi,hmid⟩:=bA hm
  cases hc:mK (mE id n)
  ·have hE:lS id n s=2:=by unfold lS;rw[if_neg (fun q=>q hf),if_pos hc]
   rw[hE,if_pos (by decide)] at hK
   refine aH Tryz.func207 ?_
   repeat' (first|refine KV ?_|refine dw jQ ?_|refine w5 ?_ ?_|((refine bh fun h=>?_) <;> try exact w6 h)|(refine aE fun hA=>?_;subst hA)|intro _|(show aA _ 116 _ _ _;refine CA (h:=fQ (x:=x) (a:=a) (s:=s) (M:=M) (mc:=mc) (R:=R) hI ho hm (fun _=>?_)))|(show aA _ 112 _ _ _;refine CA (h:=Bv (ps:= []) (show u4 4 id false ⟨#[]⟩ 0 0 0 false n 0 0 []=false from hc) eI rfl (show(0:Nat)<1000000000000000 by decide) ?_)))
   all_goals(refine aC ?_;exact aK (aG.trans (by exact aZ) ((d8 (x:=x) (a:=a) (s:=aD s) (M:=none) (mc:=0) (R:=R) hi))) (hK _ _))
  ·by_cases hq:EF (mE id n) s.out=0
   ·have hE:lS id n s=0:=by unfold lS;rw[if_neg (fun q=>q hf),if_neg (by rw[hc];decide),if_neg (fun q=>q hq)]
    rw[hE,if_neg (by decide),hm] at hK
    refine aH Tryz.func207 ?_
    repeat' (first|refine KV ?_|refine dw jQ ?_|refine w5 ?_ ?_|((refine bh fun h=>?_) <;> try exact w6 h)|(refine aE fun hA=>?_;subst hA)|intro _|(show aA _ 116 _ _ _;refine CA (h:=fQ (x:=x) (a:=a) (s:=s) (M:=M) (mc:=mc) (R:=R) hI ho hm (fun _=>?_)))|(show aA _ 112 _ _ _;refine CA (h:=iN (ps:= []) (show u4 4 id false ⟨#[]⟩ 0 0 0 false n 0 0 []=true from hc) eI rfl (show(0:Nat)<1000000000000000 by decide) ?_))|(show aA _ 60 _ _ _;refine CA (h:=jZ (f:=mE id n) hI.ou eI rfl (show(0:Nat)<1000000000000000 by decide) ?_);rw[hq])|(show aA _ 254 _ _ _;refine CA (h:=BL (x:=x) (a:=a) (s:= { aD s with out:=zF (mE id n) s.out }) (M:=none) (mc:=0) (R:=R) (m:=m) (q6 (bG hI)) hm (.inl rfl) (fun _ _=>?_))))
    all_goals(refine aC ?_;exact aB (hK _ _))
   ·have hE:lS id n s=9:=by unfold lS;rw[if_neg (fun q=>q hf),if_neg (by rw[hc];decide),if_pos hq]
    rw[hE,if_pos (by decide)] at hK
    have h9:=Hg hq
    refine aH Tryz.func207 ?_
    repeat' (first|(show Br _ _ _;refine Br.t (by first|(simp <;> done)|simpa using hq) ?_)|refine KV ?_|refine dw jQ ?_|refine w5 ?_ ?_|((refine bh fun h=>?_) <;> try exact w6 h)|(refine aE fun hA=>?_;subst hA)|intro _|(show aA _ 116 _ _ _;refine CA (h:=fQ (x:=x) (a:=a) (s:=s) (M:=M) (mc:=mc) (R:=R) hI ho hm (fun _=>?_)))|(show aA _ 112 _ _ _;refine CA (h:=iN (ps:= []) (show u4 4 id false ⟨#[]⟩ 0 0 0 false n 0 0 []=true from hc) eI rfl (show(0:Nat)<1000000000000000 by decide) ?_))|(show aA _ 60 _ _ _;refine CA (h:=jZ (f:=mE id n) hI.ou eI rfl (show(0:Nat)<1000000000000000 by decide) ?_);rw[h9]))
    all_goals(refine aC ?_;exact aK (aG.trans (by exact aZ) ((d8 (x:=x) (a:=a) (s:=aD s) (M:=none) (mc:=0) (R:=R) hi))) (hK _ _))
 ·have hE:lS id n s=cM s id:=by unfold lS;rw[if_pos hf]
  rw[hE,if_pos hf] at hK
  refine aH Tryz.func207 ?_
  repeat' (first|(show Br _ _ _;refine Br.t (by first|(simp <;> done)|simpa using hf) ?_)|refine KV ?_|refine dw jQ ?_|refine w5 ?_ ?_|((refine bh fun h=>?_) <;> try exact w6 h)|(refine aE fun hA=>?_;subst hA)|intro _|(show aA _ 116 _ _ _;refine CA (h:=nT (x:=x) (a:=a) (s:=s) (M:=M) (mc:=mc) (R:=R) hI hf ?_)))
  all_goals(refine aC ?_;exact aB (hK _ _))
def iT:List (Nat×Nat):= [(0,0),(1,0),(2,0),(3,0),(4,0),(5,1),(6,0),(7,0)]
def iH:List (Nat×Nat):= [(0,0),(1,0),(2,0),(3,0),(4,0),(5,0),(6,1),(7,0)]
theorem Yk {on w:Int} {xx:Bool} (hI:bU B s) (hK:∀M mc,K (I6 (LR id on w xx s)) (b5 x a (wC id on w xx s) M mc R)):CT 206 #[PO x,I6 id,.agg #[I6 on,I6 w,.bool xx]] (b5 x a s M mc R) K:=by
 have htl:=hI.tr.len
 obtain⟨rk,hrk⟩:=hI.tr.rk
 unfold LR wC at hK
 by_cases hf:cM s id=0
 ·obtain⟨ho,m,hm⟩:=qJ hf
  obtain⟨hi,hmid⟩:=bA hm
  rw[if_neg (fun q=>q hf)] at hK
  cases hc:mK (sK id on w xx)
  ·rw[if_pos hc,if_pos (.inr (.inl hc))] at hK
   refine aH Tryz.func206 ?_
   repeat' (first|refine JK ?_|refine dw iT ?_|refine dw iH ?_|refine w5 ?_ ?_|((refine bh fun h=>?_) <;> try exact w6 h)|(refine aE fun hA=>?_;subst hA)|intro _|(show aA _ 116 _ _ _;refine CA (h:=fQ (x:=x) (a:=a) (s:=s) (M:=M) (mc:=mc) hI ho hm (fun _=>?_)))|(show aA _ 112 _ _ _;refine CA (h:=Bv (ps:= []) (show u4 3 id false ⟨#[]⟩ 0 on w xx 0 0 0 []=false from hc) eI rfl (show(0:Nat)<1000000000000000 by decide) ?_)))
   all_goals(refine aC ?_;exact aK (aG.trans (by exact aZ) ((d8 (x:=x) (a:=a) (s:=aD s) (M:=none) (mc:=0) (R:=R) hi))) (hK _ _))
  ·have hc0:¬mK (sK id on w xx)=false:=by rw[hc];decide
   rw[if_neg hc0] at hK
   by_cases h1:on=id
   ·rw[if_pos h1,if_pos (.inr (.inr (.inl h1)))] at hK
    refine aH Tryz.func206 ?_
    repeat' (first|refine JK ?_|refine dw iT ?_|refine dw iH ?_|refine w5 ?_ ?_|((refine bh fun h=>?_) <;> try exact w6 h)|(refine aE fun hA=>?_;subst hA)|intro _|(show aA _ 116 _ _ _;refine CA (h:=fQ (x:=x) (a:=a) (s:=s) (M:=M) (mc:=mc) hI ho hm (fun _=>?_)))|(show aA _ 112 _ _ _;refine CA (h:=iN (ps:= []) (show u4 3 id false ⟨#[]⟩ 0 on w xx 0 0 0 []=true from hc) eI rfl (show(0:Nat)<1000000000000000 by decide) ?_)))
    all_goals(refine aC ?_;exact aK (aG.trans (by exact aZ) ((d8 (x:=x) (a:=a) (s:=aD s) (M:=none) (mc:=0) (R:=R) hi))) (hK _ _))
   ·rw[if_neg h1] at hK
    by_cases hq:EF (sK id on w xx) s.out=0
    ·rw[if_neg (fun q=>q hq),if_neg (fun q=>q.elim (fun q=>q hf) (fun q=>q.elim hc0 (fun q=>q.elim h1 (fun q=>q hq))))] at hK
     refine aH Tryz.func206 ?_
     repeat' (first|refine JK ?_|refine dw iT ?_|refine dw iH ?_|refine w5 ?_ ?_|((refine bh fun h=>?_) <;> try exact w6 h)|(refine aE fun hA=>?_;subst hA)|intro _|(show aA _ 116 _ _ _;refine CA (h:=fQ (x:=x) (a:=a) (s:=s) (M:=M) (mc:=mc) hI ho hm (fun _=>?_)))|(show aA _ 112 _ _ _;refine CA (h:=iN (ps:= []) (show u4 3 id false ⟨#[]⟩ 0 on w xx 0 0 0 []=true from hc) eI rfl (show(0:Nat)<1000000000000000 by decide) ?_))|(show aA _ 60 _ _ _;refine CA (h:=jZ (f:=sK id on w xx) hI.ou eI rfl (show(0:Nat)<1000000000000000 by decide) ?_);rw[hq])|(show aA _ 262 _ _ _;refine CA (h:=Kl (s:=s.tr) hI.tr.kok (by omega) hrk ?_)))
     all_goals(refine aC ?_;exact aK (aG.trans (by exact aZ) ((d8 (x:=x) (a:=a) (s:= { aD s with out:=zF (sK id on w xx) s.out,tr:=kC id on w xx s.tr }) (M:=none) (mc:=0) (R:=R) hi))) (hK _ _))
    ·rw[if_pos hq,if_pos (.inr (.inr (.inr hq)))] at hK
     have h9:=Hg hq
     refine aH Tryz.func206 ?_
     repeat' (first|(show Br _ _ _;refine Br.t (by first|(simp <;> done)|simpa using hq) ?_)|refine JK ?_|refine dw iT ?_|refine dw iH ?_|refine w5 ?_ ?_|((refine bh fun h=>?_) <;> try exact w6 h)|(refine aE fun hA=>?_;subst hA)|intro _|(show aA _ 116 _ _ _;refine CA (h:=fQ (x:=x) (a:=a) (s:=s) (M:=M) (mc:=mc) hI ho hm (fun _=>?_)))|(show aA _ 112 _ _ _;refine CA (h:=iN (ps:= []) (show u4 3 id false ⟨#[]⟩ 0 on w xx 0 0 0 []=true from hc) eI rfl (show(0:Nat)<1000000000000000 by decide) ?_))|(show aA _ 60 _ _ _;refine CA (h:=jZ (f:=sK id on w xx) hI.ou eI rfl (show(0:Nat)<1000000000000000 by decide) ?_);rw[h9]))
     all_goals(refine aC ?_;exact aK (aG.trans (by exact aZ) ((d8 (x:=x) (a:=a) (s:=aD s) (M:=none) (mc:=0) (R:=R) hi))) (hK _ _))
 ·rw[if_pos hf,if_pos (.inl hf)] at hK
  refine aH Tryz.func206 ?_
  repeat' (first|(show Br _ _ _;refine Br.t (by first|(simp <;> done)|simpa using hf) ?_)|refine JK ?_|refine dw iT ?_|refine dw iH ?_|refine w5 ?_ ?_|((refine bh fun h=>?_) <;> try exact w6 h)|(refine aE fun hA=>?_;subst hA)|intro _|(show aA _ 116 _ _ _;refine CA (h:=nT (x:=x) (a:=a) (s:=s) (M:=M) (mc:=mc) (R:=R) hI hf ?_)))
  all_goals(refine aC ?_;exact aB (hK _ _))
end
section
variable {R C:List HP} {K:KP} {x mc i b p r:Nat} {a:Ca} {s:Cn} {M:Option Addr} {B id n:Int} {m:Sm} {d:ByteArray} {y:Ys} {t:eJ}
theorem IH {i u v:Int} {l:List Pr}:(KC i u v l).length≤l.length+1:=by
 unfold KC
 split <;> simp
theorem Vl {u v:eJ}:(NE u v).length≤3:=by
 unfold NE
 have h1:=IH (i:=1) (u:=u.w) (v:=v.w) (l:= [])
 have h2:=IH (i:=2) (u:=u.st) (v:=v.st) (l:=KC 1 u.w v.w [])
 have h3:=IH (i:=3) (u:=u.it) (v:=v.it) (l:=KC 2 u.st v.st (KC 1 u.w v.w []))
 simp only[List.length_nil] at h1
 omega
def lF:List (Nat×Nat):= [(0,0),(1,0),(2,0),(3,0),(4,0),(5,1),(6,0),(7,0),(8,0),(9,0),(10,0)]
theorem Oz (hI:bU B s) (hK:K (I6 (SO t s)) (b5 x a (Cc t s) none 0 R)):CT 101 #[PO x,.agg #[I6 t.w,I6 t.st,I6 t.it]] (b5 x a s M mc R) K:=by
 have h64:=hI.ou.1
 unfold SO Cc at hK
 cases ho:s.dr.ov
 ·by_cases h1:64≤s.out.length
  ·simp only[ho,h1,Bool.false_eq_true,if_false,if_true,false_or,true_or] at hK
   refine aH Tryz.func101 ?_
   repeat' (first|refine v46 ?_|refine dw lF ?_|refine w5 ?_ ?_|((refine bh fun h=>?_) <;> try exact w6 h)|(refine aE fun hA=>?_;subst hA)|intro _|(show aA _ 75 _ _ _;refine CA (h:=b9 (x:=x) (a:=a) (s:=s) (M:=M) (mc:=mc) ?_);rw[ho,if_neg Bool.false_ne_true])|(show aA _ 113 _ _ _;refine CA (h:=xI (out:=s.out) hI.ou ?_)))
   all_goals(refine aC ?_;exact aB (hK))
  ·by_cases hs:iJ s.sh t=0
   ·simp only[ho,h1,hs,Bool.false_eq_true,if_false,false_or,ne_eq,not_true_eq_false] at hK
    have hlen:=Vl (u:=rU s.sh) (v:=t)
    refine aH Tryz.func101 ?_
    repeat' (first|refine v46 ?_|refine dw lF ?_|refine w5 ?_ ?_|((refine bh fun h=>?_) <;> try exact w6 h)|(refine aE fun hA=>?_;subst hA)|intro _|(show aA _ 75 _ _ _;refine CA (h:=b9 (x:=x) (a:=a) (s:=s) (M:=M) (mc:=mc) ?_);rw[ho,if_neg Bool.false_ne_true])|(show aA _ 113 _ _ _;refine CA (h:=xI (out:=s.out) hI.ou ?_))|(show aA _ 59 _ _ _;refine CA (h:=Fy (s:=s.sh) (t:=t) hI.sh.1 (fun Aq cq=>?_));rw[hs];simp only[if_true])|(show aA _ 60 _ _ _;refine CA (h:=jZ (out:=s.out) (f:=⟨5,0,false,⟨#[]⟩,0,0,0,false,0,0,0,Aq,(NE (rU s.sh) t).length,cq,NE (rU s.sh) t⟩) hI.ou (by exact kF) rfl (by show(NE (rU s.sh) t).length<1000000000000000;omega) ?_)))
    all_goals(refine aC ?_;exact aB (hK))
   ·simp only[ho,h1,hs,Bool.false_eq_true,if_false,if_true,false_or,ne_eq,not_false_eq_true] at hK
    have hsm:eF s.sh t=s.sh:=by unfold eF;rw[if_neg hs]
    refine aH Tryz.func101 ?_
    repeat' (first|(show Br _ _ _;refine Br.t (by first|(simp <;> done)|simpa using hs) ?_)|refine v46 ?_|refine dw lF ?_|refine w5 ?_ ?_|((refine bh fun h=>?_) <;> try exact w6 h)|(refine aE fun hA=>?_;subst hA)|intro _|(show aA _ 75 _ _ _;refine CA (h:=b9 (x:=x) (a:=a) (s:=s) (M:=M) (mc:=mc) ?_);rw[ho,if_neg Bool.false_ne_true])|(show aA _ 113 _ _ _;refine CA (h:=xI (out:=s.out) hI.ou ?_))|(show aA _ 59 _ _ _;refine CA (h:=Fy (s:=s.sh) (t:=t) hI.sh.1 (fun Aq cq=>?_));rw[hsm]))
    all_goals(refine aC ?_;exact aB (hK))
 ·simp only[ho,if_true,true_or] at hK
  refine aH Tryz.func101 ?_
  repeat' (first|refine v46 ?_|refine dw lF ?_|refine w5 ?_ ?_|((refine bh fun h=>?_) <;> try exact w6 h)|(refine aE fun hA=>?_;subst hA)|intro _|(show aA _ 75 _ _ _;refine CA (h:=b9 (x:=x) (a:=a) (s:=s) (M:=M) (mc:=mc) ?_);rw[ho,if_pos rfl]))
  all_goals(refine aC ?_;exact aB (hK))
end
section
variable {R C:List HP} {K:KP} {x mc i b p r:Nat} {a:Ca} {s:Cn} {M:Option Addr} {B kind sg on w:Int} {xx:Bool} {m:Sm}
theorem VH (h:bU B s) (hn:s.nx≤2147483647):YA s.sd s.nx=true:=by
 have h1:=h.nx
 have h2:=h.sd
 unfold YA
 simp only[Bool.and_eq_true,decide_eq_true_eq,beq_iff_eq,decide_eq_decide]
 refine⟨by omega,h1.2.2⟩
theorem EZ (h:bU B s) (hn:s.nx≤2147483647):bY s.nx s.l=none:=by
 cases hm:bY s.nx s.l with
 |none=>rfl
 |some m=>
  obtain⟨hi,hid⟩:=bA hm
  have h4:=h.ids m (List.mem_of_getElem? hi)
  rw[hid] at h4
  unfold oJ at h4
  rw[VH h hn] at h4
  simp only[Bool.and_eq_true,decide_eq_true_eq,if_true] at h4
  omega
theorem MV (h:bU B s) (ho:fO s true<32):s.l.length<64:=by
 have h2:=h.own false
 have h3:=Gy s.l
 unfold fO at *
 omega
theorem It (h:bU B s) (hn:s.nx≤2147483647):bU B { s with nx:=s.nx+2 }:=
 { h with
   nx:=by
    have:=h.nx
    show 1≤s.nx+2∧s.nx+2≤2147483649∧((s.nx+2) % 2=1↔s.sd=0)
    omega
   ids:=fun z hz=>by
    have h1:=h.ids z hz
    show oJ s.sd (s.nx+2) s.la z.id=true
    unfold oJ at h1 ⊢
    simp only[Bool.and_eq_true,decide_eq_true_eq] at h1 ⊢
    refine⟨h1.1,?_⟩
    have h3:=h1.2
    split at h3
    ·rename_i hq;rw[if_pos hq];simp only[decide_eq_true_eq] at h3 ⊢;omega
    ·rename_i hq;rw[if_neg hq];exact h3 }
end
section
variable {R C:List HP} {K:KP} {x mc i b p r:Nat} {a:Ca} {s:Cn} {M:Option Addr} {B kind sg on w:Int} {xx:Bool} {m:Sm}
theorem CZ (h:nE kind sg on w xx s=0):s.dr.ov=false∧(kind=1∨kind=2)∧(0≤sg∧sg≤2)∧Ke s.dr=true∧s.nx≤2147483647∧(fO s true:Nat)<min s.pe.st 32∧mK (qE s.nx kind on w xx)=true∧on≠s.nx∧s.out.length<64:=by
 unfold nE at h
 repeat' split at h
 all_goals first|(exfalso;revert h;decide)|skip
 rename_i h1 h2 h3 h4 h5 h6 h7 h8
 refine⟨by cases hq:s.dr.ov <;> first|rfl|exact absurd hq h1,by omega,by omega,by cases hq:Ke s.dr <;> first|rfl|exact absurd hq h4,by omega,by omega,by cases hq:mK (qE s.nx kind on w xx) <;> first|rfl|exact absurd hq h6,h7,by omega⟩
def BO:List (Nat×Nat):= [(0,0),(1,0),(2,0),(3,0),(4,1),(5,1),(6,1),(7,1),(8,1),(9,1),(10,1),(11,0),(12,0),(13,0)]
def B4:List (Nat×Nat):= [(0,0),(1,0),(2,0),(3,0),(4,0),(5,1)]
theorem Sn (hI:bU B s) (hE:nE kind sg on w xx s=0) (hK:K (.tuple #[I6 (s.nx+2 - 2),I6 0]) (b5 x a (sD kind sg on w xx s) none 0 R)):CT 25 #[PO x,I6 kind,I6 sg,.agg #[I6 on,I6 w,.bool xx]] (b5 x a s M mc R) K:=by
 obtain⟨e1,e2,e3,e4,e5,e6,e7,e8,e9⟩:=CZ hE
 have hnx:=hI.nx
 unfold sD at hK
 rw[if_neg (fun q=>q hE)] at hK
 have hown:fO (aD s) true=fO s true:=rfl
 have hI1:=It (q6 (f:=qE s.nx kind on w xx) (bG hI)) e5
 have hpe:(aD s).pe.st=s.pe.st:=rfl
 have q1:=EZ hI e5
 have q2:=MV hI (by omega)
 have hnn:s.nx+2 - 2=s.nx:=by omega
 rw[hnn] at hK
 refine aH Tryz.func25 ?_
 repeat' (first|refine GA ?_|refine dw BO ?_|refine dw B4 ?_|refine w5 ?_ ?_|((refine bh fun h=>?_) <;> try exact w6 h)|(refine aE fun hA=>?_;subst hA)|intro _|(show aA _ 75 _ _ _;refine CA (h:=b9 (x:=x) (a:=a) (s:=s) (M:=M) (mc:=mc) ?_);rw[e1,if_neg Bool.false_ne_true])|(show aA _ 110 _ _ _;refine CA (h:=lL (sd:=s.sd) (nx:=s.nx) (la:=s.la) ?_))|(show aA _ 111 _ _ _;refine CA (h:=Bm (d:=s.dr) ?_);rw[e4])|(show aA _ 84 _ _ _;refine CA (h:=tW (x:=x) (a:=a) (s:=aD s) (M:=none) (mc:=0) (bG hI) ?_);rw[hown])|(show aA _ 112 _ _ _;refine CA (h:=iN (ps:= []) (show u4 2 s.nx false ⟨#[]⟩ kind on w xx 0 0 0 []=true from e7) eI rfl (show(0:Nat)<1000000000000000 by decide) ?_))|(show aA _ 113 _ _ _;refine CA (h:=xI (out:=s.out) hI.ou ?_))|(show aA _ 114 _ _ _;refine CA (h:=XV (sd:=s.sd) (nx:=s.nx) (la:=s.la) e5 (by omega) ?_))|(show aA _ 60 _ _ _;refine CA (h:=jZ (out:=s.out) (f:=qE s.nx kind on w xx) hI.ou eI rfl (show(0:Nat)<1000000000000000 by decide) ?_))|(show aA _ 115 _ _ _;refine CA (h:=PW (x:=x) (a:=a) (s:= { aD s with nx:=s.nx+2,out:=zF (qE s.nx kind on w xx) s.out }) (M:=none) (mc:=0) (id:=s.nx) hI1 e2 e3 q1 q2 ⟨by omega,e5⟩ ?_)))
 all_goals(refine aC ?_;exact aB (hK))
end
section
variable {R C:List HP} {K:KP} {x mc i b p r:Nat} {a:Ca} {s:Cn} {M:Option Addr} {B kind sg on w:Int} {xx:Bool} {m:Sm}
def d4:List (Nat×Nat):= [(0,0),(1,0),(2,0),(3,0),(4,1),(5,1),(6,1),(7,1),(8,1),(9,1),(10,1),(11,0),(12,0),(13,0)]
def d6:List (Nat×Nat):= [(0,0),(1,0),(2,0),(3,0),(4,0),(5,1)]
theorem RH (hI:bU B s) (hE:nE kind sg on w xx s≠0) (hK:K (.tuple #[I6 0,I6 (nE kind sg on w xx s)]) (b5 x a (aD s) none 0 R)):CT 25 #[PO x,I6 kind,I6 sg,.agg #[I6 on,I6 w,.bool xx]] (b5 x a s M mc R) K:=by
 have hnx:=hI.nx
 have hown:fO (aD s) true=fO s true:=rfl
 have hpe:(aD s).pe.st=s.pe.st:=rfl
 have h64:=hI.ou.1
 unfold nE at hE hK
 cases c1:s.dr.ov
 ·rw[c1,if_neg Bool.false_ne_true] at hE hK
  by_cases c2:kind≠1∧kind≠2
  ·rw[if_pos c2] at hK
   refine aH Tryz.func25 ?_
   repeat' (first|refine GA ?_|refine dw d4 ?_|refine dw d6 ?_|refine w5 ?_ ?_|((refine bh fun h=>?_) <;> try exact w6 h)|(refine aE fun hA=>?_;subst hA)|intro _|(show aA _ 75 _ _ _;refine CA (h:=b9 (x:=x) (a:=a) (s:=s) (M:=M) (mc:=mc) ?_);rw[c1,if_neg Bool.false_ne_true])|(show aA _ 110 _ _ _;refine CA (h:=lL (sd:=s.sd) (nx:=s.nx) (la:=s.la) ?_)))
   all_goals(refine aC ?_;exact aB (hK))
  ·rw[if_neg c2] at hE hK
   by_cases c3:sg<0∨2<sg
   ·rw[if_pos c3] at hK
    refine aH Tryz.func25 ?_
    repeat' (first|refine GA ?_|refine dw d4 ?_|refine dw d6 ?_|refine w5 ?_ ?_|((refine bh fun h=>?_) <;> try exact w6 h)|(refine aE fun hA=>?_;subst hA)|intro _|(show aA _ 75 _ _ _;refine CA (h:=b9 (x:=x) (a:=a) (s:=s) (M:=M) (mc:=mc) ?_);rw[c1,if_neg Bool.false_ne_true])|(show aA _ 110 _ _ _;refine CA (h:=lL (sd:=s.sd) (nx:=s.nx) (la:=s.la) ?_)))
    all_goals(refine aC ?_;exact aB (hK))
   ·rw[if_neg c3] at hE hK
    cases c4:Ke s.dr
    ·rw[if_pos c4] at hK
     refine aH Tryz.func25 ?_
     repeat' (first|refine GA ?_|refine dw d4 ?_|refine dw d6 ?_|refine w5 ?_ ?_|((refine bh fun h=>?_) <;> try exact w6 h)|(refine aE fun hA=>?_;subst hA)|intro _|(show aA _ 75 _ _ _;refine CA (h:=b9 (x:=x) (a:=a) (s:=s) (M:=M) (mc:=mc) ?_);rw[c1,if_neg Bool.false_ne_true])|(show aA _ 110 _ _ _;refine CA (h:=lL (sd:=s.sd) (nx:=s.nx) (la:=s.la) ?_))|(show aA _ 111 _ _ _;refine CA (h:=Bm (d:=s.dr) ?_);rw[c4]))
     all_goals(refine aC ?_;exact aB (hK))
    ·rw[if_neg (by rw[c4];decide)] at hE hK
     by_cases c5:2147483647<s.nx∨min s.pe.st 32≤(fO s true:Nat)
     ·rw[if_pos c5] at hK
      refine aH Tryz.func25 ?_
      repeat' (first|refine GA ?_|refine dw d4 ?_|refine dw d6 ?_|refine w5 ?_ ?_|((refine bh fun h=>?_) <;> try exact w6 h)|(refine aE fun hA=>?_;subst hA)|intro _|(show aA _ 75 _ _ _;refine CA (h:=b9 (x:=x) (a:=a) (s:=s) (M:=M) (mc:=mc) ?_);rw[c1,if_neg Bool.false_ne_true])|(show aA _ 110 _ _ _;refine CA (h:=lL (sd:=s.sd) (nx:=s.nx) (la:=s.la) ?_))|(show aA _ 111 _ _ _;refine CA (h:=Bm (d:=s.dr) ?_);rw[c4])|(show aA _ 84 _ _ _;refine CA (h:=tW (x:=x) (a:=a) (s:=aD s) (M:=none) (mc:=0) (bG hI) ?_);rw[hown]))
      all_goals(refine aC ?_;exact aB (hK))
     ·rw[if_neg c5] at hE hK
      cases c6:mK (qE s.nx kind on w xx)
      ·rw[if_pos c6] at hK
       refine aH Tryz.func25 ?_
       repeat' (first|refine GA ?_|refine dw d4 ?_|refine dw d6 ?_|refine w5 ?_ ?_|((refine bh fun h=>?_) <;> try exact w6 h)|(refine aE fun hA=>?_;subst hA)|intro _|(show aA _ 75 _ _ _;refine CA (h:=b9 (x:=x) (a:=a) (s:=s) (M:=M) (mc:=mc) ?_);rw[c1,if_neg Bool.false_ne_true])|(show aA _ 110 _ _ _;refine CA (h:=lL (sd:=s.sd) (nx:=s.nx) (la:=s.la) ?_))|(show aA _ 111 _ _ _;refine CA (h:=Bm (d:=s.dr) ?_);rw[c4])|(show aA _ 84 _ _ _;refine CA (h:=tW (x:=x) (a:=a) (s:=aD s) (M:=none) (mc:=0) (bG hI) ?_);rw[hown])|(show aA _ 112 _ _ _;refine CA (h:=Bv (ps:= []) (show u4 2 s.nx false ⟨#[]⟩ kind on w xx 0 0 0 []=false from c6) eI rfl (show(0:Nat)<1000000000000000 by decide) ?_)))
       all_goals(refine aC ?_;exact aB (hK))
      ·rw[if_neg (by rw[c6];decide)] at hE hK
       by_cases c7:on=s.nx
       ·rw[if_pos c7] at hK
        refine aH Tryz.func25 ?_
        repeat' (first|refine GA ?_|refine dw d4 ?_|refine dw d6 ?_|refine w5 ?_ ?_|((refine bh fun h=>?_) <;> try exact w6 h)|(refine aE fun hA=>?_;subst hA)|intro _|(show aA _ 75 _ _ _;refine CA (h:=b9 (x:=x) (a:=a) (s:=s) (M:=M) (mc:=mc) ?_);rw[c1,if_neg Bool.false_ne_true])|(show aA _ 110 _ _ _;refine CA (h:=lL (sd:=s.sd) (nx:=s.nx) (la:=s.la) ?_))|(show aA _ 111 _ _ _;refine CA (h:=Bm (d:=s.dr) ?_);rw[c4])|(show aA _ 84 _ _ _;refine CA (h:=tW (x:=x) (a:=a) (s:=aD s) (M:=none) (mc:=0) (bG hI) ?_);rw[hown])|(show aA _ 112 _ _ _;refine CA (h:=iN (ps:= []) (show u4 2 s.nx false ⟨#[]⟩ kind on w xx 0 0 0 []=true from c6) eI rfl (show(0:Nat)<1000000000000000 by decide) ?_)))
        all_goals(refine aC ?_;exact aB (hK))
       ·rw[if_neg c7] at hE hK
        by_cases c8:64≤s.out.length
        ·rw[if_pos c8] at hK
         refine aH Tryz.func25 ?_
         repeat' (first|refine GA ?_|refine dw d4 ?_|refine dw d6 ?_|refine w5 ?_ ?_|((refine bh fun h=>?_) <;> try exact w6 h)|(refine aE fun hA=>?_;subst hA)|intro _|(show aA _ 75 _ _ _;refine CA (h:=b9 (x:=x) (a:=a) (s:=s) (M:=M) (mc:=mc) ?_);rw[c1,if_neg Bool.false_ne_true])|(show aA _ 110 _ _ _;refine CA (h:=lL (sd:=s.sd) (nx:=s.nx) (la:=s.la) ?_))|(show aA _ 111 _ _ _;refine CA (h:=Bm (d:=s.dr) ?_);rw[c4])|(show aA _ 84 _ _ _;refine CA (h:=tW (x:=x) (a:=a) (s:=aD s) (M:=none) (mc:=0) (bG hI) ?_);rw[hown])|(show aA _ 112 _ _ _;refine CA (h:=iN (ps:= []) (show u4 2 s.nx false ⟨#[]⟩ kind on w xx 0 0 0 []=true from c6) eI rfl (show(0:Nat)<1000000000000000 by decide) ?_))|(show aA _ 113 _ _ _;refine CA (h:=xI (out:=s.out) hI.ou ?_)))
         all_goals(refine aC ?_;exact aB (hK))
        ·rw[if_neg c8] at hE
         exact absurd rfl hE
 ·rw[c1,if_pos rfl] at hK
  refine aH Tryz.func25 ?_
  repeat' (first|refine GA ?_|refine dw d4 ?_|refine dw d6 ?_|refine w5 ?_ ?_|((refine bh fun h=>?_) <;> try exact w6 h)|(refine aE fun hA=>?_;subst hA)|intro _|(show aA _ 75 _ _ _;refine CA (h:=b9 (x:=x) (a:=a) (s:=s) (M:=M) (mc:=mc) ?_);rw[c1,if_pos rfl]))
  all_goals(refine aC ?_;exact aB (hK))
end
section
variable {s:Cn} {B id n kind sg on w:Int} {xx:Bool} {m:Sm} {d:ByteArray} {t:eJ} {u:List UInt8} {f:Fm}
theorem Ag4 {cap:Nat} {bs:List UInt8} {en:Bool}:Fb cap bs en d≤d.size:=by
 unfold Fb
 split
 ·omega
 ·omega
theorem Aew {x:Xs}:KL (Aj x d)≤KL x+d.size+1:=by
 cases x with
 |b z=>
  have:=Ag4 (cap:=z.cap) (bs:=z.bs) (en:=z.en) (d:=d)
  show z.ac+((Fb z.cap z.bs z.en d:Nat):Int)≤z.ac+d.size+1
  omega
 |i z=>
  show(if z.en=true∨256<d.size then z else if z.l.length<z.cap then { z with l:=z.l++ [d],ac:=z.ac+1 } else if z.st=0 then z else if z.st=1∨z.cap=0 then { z with ac:=z.ac+1,dr:=z.dr+1 } else { z with l:=z.l.tail++ [d],ac:=z.ac+1,dr:=z.dr+1 }).ac≤z.ac+d.size+1
  repeat' split
  all_goals first|(dsimp only;omega)|omega
theorem Ahv (h:E6 B m):E6 (B+d.size+1) (Az m d):=by
 obtain⟨h1,h2,h3,h4⟩:=h
 unfold Az
 split
 ·refine⟨h1,?_,by show J2 m.y≤_;omega,by show(gF m.y:Int)≤_;omega⟩
  have:=Aew (x:=m.x) (d:=d)
  show KL (Aj m.x d)≤_
  omega
 ·exact⟨h1,by omega,by omega,by omega⟩
theorem QY:(Az m d).own=m.own:=by unfold Az;split <;> rfl
theorem PD:(AO m).own=m.own:=by unfold AO;split <;> rfl
theorem Aif (h:E6 B m):E6 B (AO m):=by
 obtain⟨h1,h2,h3,h4⟩:=h
 unfold AO
 split
 ·refine⟨h1,?_,h3,h4⟩
  show KL (JJ m.x)≤B
  cases hx:m.x with
  |b z=>rw[hx] at h2;exact h2
  |i z=>rw[hx] at h2;exact h2
 ·exact⟨h1,h2,h3,h4⟩
theorem Ah1 (h:E6 B m):E6 B { m with y:=Gq m.y n }:=by
 obtain⟨h1,h2,h3,h4⟩:=h
 refine⟨h1,h2,?_,?_⟩
 ·cases hy:m.y with
  |b z=>rw[hy] at h3;exact h3
  |i z=>
   rw[hy] at h3
   show(if 1≤n then { z with ask:=z.ask+min n (2147483647 - z.ask) } else z).ac≤B
   split <;> exact h3
 ·cases hy:m.y with
  |b z=>rw[hy] at h4;exact h4
  |i z=>
   rw[hy] at h4
   show((if 1≤n then { z with ask:=z.ask+min n (2147483647 - z.ask) } else z).l.length:Int)≤B
   split <;> exact h4
theorem XS (h:bU B s) (hB:B+d.size+1≤250000000):bU (B+d.size+1) (qX id d s):=by
 have hb:=h.bb
 unfold qX
 split
 ·exact(bG h).mono (by omega) hB
 ·split
  ·rename_i m hm
   obtain⟨hi,hmid⟩:=bA hm
   rw[eE (id:=id) (Bo.trans hmid)]
   exact lI (s:=aD s) ((bG h).mono (by omega) hB) hi Bo QY (Ahv (h.st m (List.mem_of_getElem? hi)))
  ·exact h.mono (by omega) hB
theorem Ahx (h:bU B s):bU B (Cd id s):=by
 unfold Cd
 split
 ·exact bG h
 ·split
  ·rename_i m hm
   obtain⟨hi,hmid⟩:=bA hm
   rw[eE (id:=id) (Bb.trans hmid)]
   exact lI (s:=aD s) (bG h) hi Bb PD (Aif (h.st m (List.mem_of_getElem? hi)))
  ·exact h
theorem Z5 (h:bU B s):bU B (wF id n s):=by
 unfold wF
 split
 ·exact bG h
 ·split
  ·rename_i m hm
   obtain⟨hi,hmid⟩:=bA hm
   split
   ·exact bG h
   ·rw[eE (id:=id) (show({ m with y:=EE m.y n }:Sm).id=id from hmid)]
    have hI2:bU B { ({ aD s with rv:=fY s.rv ((BZ m.y n).size:Nat) }:Cn) with l:=s.l.set (b7 id s.l) { m with y:=EE m.y n } }:=lI (s:= { aD s with rv:=fY s.rv ((BZ m.y n).size:Nat) }) (pI (bG h)) hi rfl rfl (RY (h.st m (List.mem_of_getElem? hi)))
    exact DN hI2 (lN (m':= { m with y:=EE m.y n }) hm rfl)
  ·exact h
theorem ZC (h:bU B s):bU B (wE id s):=by
 unfold wE
 split
 ·exact bG h
 ·split
  ·rename_i m hm
   obtain⟨hi,hmid⟩:=bA hm
   split
   ·exact bG h
   ·rw[eE (id:=id) (show({ m with y:=Fw m.y }:Sm).id=id from hmid)]
    have hI2:bU B { aD s with l:=s.l.set (b7 id s.l) { m with y:=Fw m.y } }:=lI (s:=aD s) (bG h) hi rfl rfl (Tl (h.st m (List.mem_of_getElem? hi)))
    exact DN hI2 (lN (m':= { m with y:=Fw m.y }) hm rfl)
  ·exact h
theorem Ah7 (h:bU B s):bU B (Ci id n s):=by
 unfold Ci
 split
 ·exact bG h
 ·split
  ·rename_i m hm
   obtain⟨hi,hmid⟩:=bA hm
   rw[eE (id:=id) (show({ m with y:=Gq m.y n }:Sm).id=id from hmid)]
   exact lI (s:=aD s) (bG h) hi rfl rfl (Ah1 (h.st m (List.mem_of_getElem? hi)))
  ·exact h
theorem Add (h:bU B s):bU B (wC id on w xx s):=by
 unfold wC
 split
 ·exact bG h
 ·exact Ua (q6 (bG h))
theorem Xz (h:bU B s):bU B (qZ id n s):=by
 unfold qZ
 split
 ·exact bG h
 ·split
  ·rename_i m hm
   exact rW (s:= { aD s with out:=zF (mE id n) s.out }) (q6 (bG h)) hm
  ·exact h
theorem Akm (h:bU B s):bU B (JI s):=by
 unfold JI
 split
 ·exact bG h
 ·exact FD (q6 (bG h))
theorem Xw {z:Gh} (h:z.l.length≤4∧u3 z.h∧u3 z.g∧∀t∈z.l,u3 t):(eF z t).l.length≤4∧u3 (eF z t).h∧u3 (eF z t).g∧∀q∈(eF z t).l,u3 q:=by
 obtain⟨h1,h2,h3,h4⟩:=h
 unfold eF
 by_cases hq:iJ z t=0
 ·rw[if_pos hq]
  unfold iJ at hq
  split at hq
  ·cases hq
  ·rename_i hc
   split at hq
   ·cases hq
   ·rename_i hl
    have hc:rY t.w t.st t.it=true:=by simpa using hc
    refine⟨by show(z.l++ [t]).length≤4;rw[List.length_append,List.length_singleton];omega,h2,?_,?_⟩
    ·unfold u3 rY at *
     rw[decide_eq_true_eq] at *
     show _
     simp only[M7]
     omega
    ·intro q hq
     rcases List.mem_append.1 hq with hq|hq
     ·exact h4 q hq
     ·rw[List.mem_singleton.1 hq];exact hc
 ·rw[if_neg hq];exact⟨h1,h2,h3,h4⟩
theorem ZB (h:bU B s):bU B (Cc t s):=by
 unfold Cc
 split
 ·exact bG h
 ·exact { q6 (f:=J6 (NE (rU s.sh) t)) (bG h) with sh:=Xw h.sh }
theorem Abl (h:bU B s) (hB:B+1≤250000000):bU (B+1) (qC s):=
 { h.mono (B':=B+1) (by omega) hB with now:=by have:=h.now;show 0≤s.now+1∧s.now+1≤B+1;omega }
theorem Zs (h:bU B s) (hB:B+1≤250000000):bU (B+1) (sD kind sg on w xx s):=by
 unfold sD
 split
 ·exact(bG h).mono (by omega) hB
 ·rename_i hE
  have hE:nE kind sg on w xx s=0:=by simpa using hE
  obtain⟨e1,e2,e3,e4,e5,e6,e7,e8,e9⟩:=CZ hE
  have hnx:=h.nx
  have h64:=h.sm.1
  have hmv:=h.mv
  have hI1:=(It (q6 (f:=qE s.nx kind on w xx) (bG h)) e5).mono (B':=B+1) (by omega) hB
  have hof:=VH h e5
  refine Ul (s:= { aD s with nx:=s.nx+2,out:=zF (qE s.nx kind on w xx) s.out }) hI1 (EZ h e5) (show s.l.length<64 from MV h (by omega)) ⟨by omega,e5⟩ ?_ (by show fO s true<32;omega) (by show(([]:List Mv).length:Int)+s.l.length+1≤B+1;simp only[List.length_nil];omega)
  show oJ s.sd (s.nx+2) s.la s.nx=true
  unfold oJ
  rw[hof]
  simp only[Bool.and_eq_true,decide_eq_true_eq,if_true]
  omega
theorem AI:∀ {fs:List Fm} {s:Cn} {B:Int},bU B s→(∀f∈fs,cZ f)→B+300 * fs.length≤250000000→bU (B+300 * fs.length) (d9 fs s)
 | [],s,B,h,_,hB=>h.mono (by simp) hB
 |f::r,s,B,h,hr,hB=>by
  have e:(f::r).length=r.length+1:=rfl
  rw[e] at hB ⊢
  have h1:=CU h (by omega) (hr f (List.mem_cons_self ..))
  unfold d9
  split
  ·exact h1.mono (by omega) hB
  ·exact(AI h1 (fun z hz=>hr z (List.mem_cons_of_mem _ hz)) (by omega)).mono (by omega) hB
theorem Cl {bs:List UInt8}:∀f∈(pF bs).1.map Lu,cZ f:=fun f hf=>by
 obtain⟨p,hp,rfl⟩:=List.mem_map.1 hf
 exact QB (Aal bs.length bs (Nat.le_refl _) p hp)
theorem Zg (h:bU B s) (hB:B+u.length+300 * (pF (s.inb++u)).1.length≤250000000):bU (B+u.length+300 * (pF (s.inb++u)).1.length) (lQ u s):=by
 have hb:=h.bb
 unfold lQ
 split
 ·exact(bG h).mono (by omega) hB
 ·have h1:=IR (u:=u) h (by omega)
  have hl:((pF (s.inb++u)).1.map Lu).length=(pF (s.inb++u)).1.length:=List.length_map ..
  have h2:=AI (fs:=(iQ u (aD s)).1) h1 Cl (by show B+u.length+300 * ((((pF (s.inb++u)).1.map Lu).length:Nat):Int)≤250000000;rw[hl];exact hB)
  have h3:bU (B+u.length+300 * (pF (s.inb++u)).1.length) (d9 (iQ u (aD s)).1 (iQ u (aD s)).2):=h2.mono (by show B+u.length+300 * ((((pF (s.inb++u)).1.map Lu).length:Nat):Int)≤_;rw[hl];omega) hB
  split
  ·exact h3
  ·exact iU h3
end
section
variable {R C:List HP} {K:KP} {x mc i b p r t:Nat} {a:Ca} {s:Cn} {M:Option Addr} {B id n:Int} {m:Sm} {l:List Sm} {z:Xs} {y:Ys}
def Abo:Xs→Prop
 |.b x=>TB x.cap x.bs x.en x.ou x.ac x.se x.dr
 |.i x=>TI x.cap x.st x.l x.w x.en x.ou x.ac x.se x.dr
def TY:Ys→Prop
 |.b y=>RB y.cap y.most y.gr y.got y.us y.bs
 |.i y=>RI y.mr y.room y.op y.ask y.l y.ac y.tk y.dr
theorem Up {H:Hp} (h:bX (BH t z::R) H):Abo z:=by
 cases z with
 |b z=>
  obtain⟨r,h⟩:=h.ex
  exact(aG.cons aG.unsep H (aG.unsep H h)).tail.tail.pure.1
 |i z=>
  obtain⟨q,h⟩:=h.ex
  obtain⟨d,h⟩:=h.ex
  exact(aG.cons (aG.cons aG.unsep) H (aG.cons aG.unsep H (aG.unsep H h))).tail.tail.tail.pure.1
theorem TZ {H:Hp} (h:bX (Dc r y::R) H):TY y:=by
 cases y with
 |b y=>
  obtain⟨q,h⟩:=h.ex
  obtain⟨d,h⟩:=h.ex
  exact(aG.cons (aG.cons aG.unsep) H (aG.cons aG.unsep H (aG.unsep H h))).tail.tail.tail.pure.1
 |i y=>
  obtain⟨q,h⟩:=h.ex
  obtain⟨d,h⟩:=h.ex
  exact(aG.cons (aG.cons aG.unsep) H (aG.cons aG.unsep H (aG.unsep H h))).tail.tail.tail.pure.1
def NL (m:Sm):Prop:=Abo m.x∧TY m.y∧wX m
theorem Ade {H:Hp} (h:bX (mS b m::R) H):NL m:=by
 obtain⟨li,h⟩:=h.ex
 obtain⟨t,h⟩:=h.ex
 obtain⟨r,h⟩:=h.ex
 obtain⟨hok,h⟩:=(rX H h).pure
 exact⟨Up h.tail.tail,TZ h.tail.tail.tail,hok⟩
theorem Hd:∀ {q:List (jF×Sm)} {R:List HP} {H:Hp},bX (eA Q8 q::R) H→∀e∈q,NL e.2
 | [],_,_,_,e,he=>by cases he
 |e0::q,R,H,h,e,he=>by
  have h1:=Ey H h
  rcases List.mem_cons.1 he with rfl|he
  ·exact Ade h1
  ·exact Hd h1.tail e he
theorem OR {H:Hp} (h:bX (Iz p l::R) H):∀m∈l,NL m:=fun m hm=>by
 obtain⟨A,h⟩:=h.ex
 obtain⟨c,h⟩:=h.ex
 obtain⟨q,h⟩:=h.ex
 obtain⟨hI,h⟩:=(rP H h).pure
 rw[← hI.1] at hm
 obtain⟨e,he,rfl⟩:=List.mem_map.1 hm
 exact Hd h.tail.tail e he
theorem PP {f:FuncId} {args:Array Value} {P:Program} (h:(∀m∈s.l,NL m)→aA P f args (b5 x a s M mc R) K):aA P f args (b5 x a s M mc R) K:=aA.fact (fun _ hs=>OR hs.tail.tail) h
theorem Ahb (h:Abo z):qK z≤4096∧KL z=xSe z+xDr z+qK z∧0≤xSe z∧0≤xDr z∧KL z≤900000000:=by
 cases z with
 |b z=>obtain⟨h1,h2,h3,h4,h5,h6,h7⟩:=h;simp only[qK,KL,xSe,xDr];omega
 |i z=>obtain⟨h1,h2,h3,h4,h5,h6,h7⟩:=h;simp only[qK,KL,xSe,xDr];omega
theorem Aib (h:TY y):gF y≤4096:=by
 cases y with
 |b y=>obtain⟨h1,h2,h3,h4,h5,h6,h7,h8,h9⟩:=h;simp only[gF];omega
 |i y=>obtain⟨h1,h2,h3,h4,h5,h6,h7,h8,h9⟩:=h;simp only[gF];omega
theorem AG (hK:qK z≤4096→K (I6 (qK z:Nat)) (BH t z::R)):CT 88 #[.agg #[I6 (KL z),I6 (xSe z),I6 (xDr z)]] (BH t z::R) K:=aA.fact (fun _ hs=>Up hs) fun hf=>by
 obtain⟨h1,h2,h3,h4,h5⟩:=Ahb hf
 have hK:=hK h1
 have e:((qK z:Nat):Int)=KL z - xSe z - xDr z:=by omega
 rw[e] at hK
 exact gJ ⟨h3,h4,by omega,by omega,by omega,by omega⟩ hK
theorem BE (hK:gF y≤4096→K (I6 (gF y:Nat)) (Dc r y::R)):CT 90 #[PO r] (Dc r y::R) K:=aA.fact (fun _ hs=>TZ hs) fun hf=>ZK (hK (Aib hf))
theorem BI (hs:Gl l) (hm:l[i]?=some m) (hK:∀b li t r,wX m→K (.tuple #[I6 m.id,PO b,.bool true]) (pt b [PO li,PO t,PO r,I6 m.id,.bool m.own] 258::o6 li m.sta::BH t m.x::Dc r m.y::NN p l i b::R)):CT 85 #[PO p,I6 i] (Iz p l::R) K:=
 aA.satsK (K':=fun v C'=>∃b,v=.tuple #[I6 m.id,PO b,.bool true]∧C'=mS b m::NN p l i b::R) (Ie hs hm fun b=>⟨b,rfl,rfl⟩) fun v C' H ⟨b,hv,hC⟩ hS=>by
  subst hv hC
  obtain⟨li,hS⟩:=hS.ex
  obtain⟨t,hS⟩:=hS.ex
  obtain⟨r,hS⟩:=hS.ex
  obtain⟨hok,hS⟩:=(rX H hS).pure
  exact⟨_,hS,hK b li t r hok⟩
theorem N5 (hs:Gl l) (hm:bY id l=some m) (hK:∀b li t r,wX m→K (.tuple #[PO b,.bool true]) (pt b [PO li,PO t,PO r,I6 m.id,.bool m.own] 258::o6 li m.sta::BH t m.x::Dc r m.y::NN p l (b7 id l) b::R)):CT 192 #[PO p,I6 id] (Iz p l::R) K:=
 aA.satsK (K':=fun v C'=>∃b,v=.tuple #[PO b,.bool true]∧C'=mS b m::NN p l (b7 id l) b::R) (f5 hs hm fun b=>⟨b,rfl,rfl⟩) fun v C' H ⟨b,hv,hC⟩ hS=>by
  subst hv hC
  obtain⟨li,hS⟩:=hS.ex
  obtain⟨t,hS⟩:=hS.ex
  obtain⟨r,hS⟩:=hS.ex
  obtain⟨hok,hS⟩:=(rX H hS).pure
  exact⟨_,hS,hK b li t r hok⟩
theorem Ada (hI:bU B s) (hK:∀B d,K (.slice B (s.l.map Sm.id).length d) (bQ B d 3 jI (s.l.map Sm.id)::b5 x a s M mc R)):CT 18 #[PO x] (b5 x a s M mc R) K:=by
 dsimp only[b5,nW] at hK ⊢
 refine aH Tryz.func18 ?_
 repeat' (first|refine Yw ?_|refine w5 ?_ ?_|((refine bh fun h=>?_) <;> try exact w6 h)|(refine aE fun hA=>?_;subst hA)|intro _|(show aA _ 91 _ _ _;refine CA (h:=Mj (l:=s.l) hI.sm (fun _ _=>?_))))
 all_goals(refine aC ?_;exact aB (hK _ _))
theorem NS (hI:bU B s) (hm:bY id s.l=some m) (hK:∀b,K (PO b) (mS b m::OY x a s M mc (b7 id s.l) b R)):CT 104 #[PO x,I6 id] (b5 x a s M mc R) K:=by
 dsimp only[b5,nW,OY] at hK ⊢
 refine aH Tryz.func104 ?_
 repeat' (first|refine Yw ?_|refine w5 ?_ ?_|((refine bh fun h=>?_) <;> try exact w6 h)|(refine aE fun hA=>?_;subst hA)|intro _|(show aA _ 192 _ _ _;refine CA (h:=f5 (l:=s.l) hI.sm hm (fun _=>?_))))
 all_goals(refine aC ?_;exact aB (hK _))
theorem SA (hK:K (PO a.sh) (b5 x a s M mc R)):CT 41 #[PO x] (b5 x a s M mc R) K:=by
 dsimp only[b5,nW] at hK ⊢
 refine aH Tryz.func41 ?_
 repeat' (first|refine v4 ?_|refine w5 ?_ ?_|((refine bh fun h=>?_) <;> try exact w6 h)|(refine aE fun hA=>?_;subst hA)|intro _)
 all_goals(refine aC ?_;exact aB (hK))
theorem SB (hK:K (PO a.ou) (b5 x a s M mc R)):CT 19 #[PO x] (b5 x a s M mc R) K:=by
 dsimp only[b5,nW] at hK ⊢
 refine aH Tryz.func19 ?_
 repeat' (first|refine v4 ?_|refine w5 ?_ ?_|((refine bh fun h=>?_) <;> try exact w6 h)|(refine aE fun hA=>?_;subst hA)|intro _)
 all_goals(refine aC ?_;exact aB (hK))
def YG (l:List Sm):Nat:=(l.map fun m=>qK m.x).sum
end
end Go.Proofs.YtifgibijcmppmaaGreat
