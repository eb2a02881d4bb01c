/- A part of the proof: lemmas; each with the conditions that it states. -/
import Derived.Test.YtepnmcipkangkaaGreatCbe
set_option linter.unusedVariables false
set_option linter.unusedSimpArgs false
set_option maxRecDepth 100000
set_option maxHeartbeats 40000000
namespace Go.Proofs.YtepnmcipkangkaaGreat
open Go Go.Proofs Go.Sl
attribute [local irreducible] aN fL cL bM aL aR aA dJ dK aU dI pt ro fC star sep bF
attribute [local irreducible] mp DG
variable {R C:List HP} {K:KP} {x mc i b p r:Nat} {a:Ca} {s:Cn} {M:Option Addr} {B id n on w kind sg:Int} {f:Fm} {m:Sm} {d:ByteArray} {y:Ys} {xx:Bool} {t:dR}
theorem GB (hI:bO B s) (hB:B+300<=249000000) (hr:bR f) (hv:dW R f.pa tX f.ps) (hn:f.ps.length=f.pn) (hK:∀M mc,K (.tuple #[]) (cA x a (bC f s) M mc R)):CT 117 #[PO x,.agg #[I6 f.t,I6 f.st,.bool f.e,.string f.d,I6 f.k,I6 f.on,I6 f.w,.bool f.x,I6 f.c,I6 f.la,I6 f.n,.slice f.pa f.pn f.pc]] (cA x a s M mc R) K:=by
 have ht:=hr.1
 obtain⟨t,st,e,d,k,on,w,xx,c,la,n,pa,pn,pc,ps⟩:=f
 dsimp only at ht hv hn ⊢
 rcases(by omega:t=0\/t=1\/t=2\/t=3\/t=4\/t=5\/t=6\/t=7\/t=8\/t=9\/t=10\/t=11) with rfl|rfl|rfl|rfl|rfl|rfl|rfl|rfl|rfl|rfl|rfl|rfl
 ·exact Nv hI hB hr hv hn hK
 ·exact MJ hI hB hr hv hn hK
 ·exact Nk hI hB hr hv hn hK
 ·exact Nh hI hB hr hv hn hK
 ·exact NF hI hB hr hv hn hK
 ·exact MG hI hB hr hv hn hK
 ·exact Mb hI hB hr hv hn hK
 ·exact NC hI hB hr hv hn hK
 ·exact NV hI hB hr hv hn hK
 ·exact N9 hI hB hr hv hn hK
 ·exact Kp hI hB hr hv hn hK
 ·exact Kr hI hB hr hv hn hK
theorem PF {p:ByteArray} (h:uR p=none):bR (GG p):=by
 unfold uR at h
 split at h
 ·cases h
 ·split at h
  ·split at h
   ·split at h
    ·cases h
    ·split at h
     ·rename_i hg
      unfold gE at hg
      split at hg
      ·split at hg
       ·split at hg
        ·rename_i hk
         unfold gOk gB at hk
         rw[Bool.and_eq_true] at hk
         exact(HH _ _ _ _ _ _ _ _ _ _ _ _).1 hk.1
        ·cases hg
       ·cases hg
      ·rename_i hq;first|exact absurd hg hq|exact absurd (by assumption) hq
     ·cases h
   ·cases h
  ·cases h
theorem Ag2:∀(k:Nat) (bs:List UInt8),bs.length<=k->∀p∈(pF bs).1,uR p=none:=by
 intro k
 induction k with
 |zero=>
  intro bs hb p hp
  cases hs:uR (iG bs) with
  |some e=>rw[uV hs] at hp;cases hp
  |none=>
   exfalso
   have h0:bs.length=0:=by omega
   unfold uR at hs
   rw[if_pos (by rw[jF];omega)] at hs
   cases hs
 |succ k ih=>
  intro bs hb p hp
  cases hs:uR (iG bs) with
  |some e=>rw[uV hs] at hp;cases hp
  |none=>
   rw[EO hs] at hp
   rcases List.mem_cons.1 hp with rfl|hp
   ·exact hs
   ·refine ih _ ?_ p hp
    have h9:¬(iG bs).size<9:=fun hq=>by unfold uR at hs;rw[if_pos hq] at hs;cases hs
    rw[jF] at h9
    have hL:0<=sL (iG bs):=by
     unfold uR at hs
     split at hs
     ·cases hs
     ·split at hs
      ·split at hs
       ·rename_i hf;exact(IF hf).1
       ·cases hs
      ·cases hs
    rw[List.length_drop]
    omega
theorem Uk {fs:List Fm} {bs:List UInt8} (h:fs.map jD=(pF bs).1.map GG):∀z∈fs,bR z/\z.ps.length=z.pn:=fun z hz=>by
 have h1:jD z∈(pF bs).1.map GG:=by rw[<- h];exact List.mem_map_of_mem hz
 obtain⟨p,hp,he⟩:=List.mem_map.1 h1
 have h2:=PF (Ag2 bs.length bs (Nat.le_refl _) p hp)
 rw[he] at h2
 refine⟨h2,?_⟩
 have h3:(GG p).ps.length=(GG p).pn:=rfl
 rw[he] at h3
 exact h3
theorem Fa {u:List UInt8} (h:bO B s) (hB:B+u.length<=250000000):bO (B+u.length) (eB u (aD s)).2:=
 { h.mono (B':=B+u.length) (by omega) hB with
   inb:=by
    have h1:=h.inb
    have h2:=(VV (s.inb++u).length (s.inb++u) (Nat.le_refl _)).2
    rw[List.length_append] at h2
    show((if(pF (s.inb++u)).2.2=0 then(pF (s.inb++u)).2.1 else []:List UInt8).length:Int)<=B+u.length
    split
    ·omega
    ·have:=h.bb;simp only[List.length_nil];omega
   mv:=by
    have h1:=h.mv
    have:=h.bb
    show(([]:List Mv).length:Int)+s.l.length<=B+u.length
    simp only[List.length_nil];omega }
theorem Agm {ks:List UInt8} {s:ByteArray} {e0:Int} (h0:e0=0) (hz:ks.length+s.size<4000000) (hK:∀F c fs,fs.map jD=(pF (ks++s.data.toList)).1.map GG->K (.tuple #[.slice F fs.length c,I6 (pF (ks++s.data.toList)).2.2]) (bT F c 178 wD fs::mC zE fs::spP x (if(pF (ks++s.data.toList)).2.2=0 then(pF (ks++s.data.toList)).2.1 else []) (pF (ks++s.data.toList)).2.2::R)):CT 115 #[PO x,.string s] (spP x ks e0::R) K:=by
 subst h0;exact Aib hz hK
theorem LG {u:ByteArray} (hI:bO B s) (he:s.dr.ov=true\/s.ine=0) (hu:s.inb.length+u.size<4000000) (hB:B+u.size+300 * (pF (s.inb++u.data.toList)).1.length<=248000000) (hK:∀M mc,K (I6 (zP s)) (cA x a (fJ u.data.toList s) M mc R)):CT 29 #[PO x,.string u] (cA x a s M mc R) K:=by
 have hbb:=hI.bb
 have hsz:u.data.toList.length=u.size:=Array.length_toList
 unfold zP fJ at hK
 cases ho:s.dr.ov
 ·rw[ho] at hK
  simp only[Bool.false_eq_true,if_false] at hK
  have hine:s.ine=0:=he.resolve_left (by rw[ho];decide)
  have hI1:=Fa (u:=u.data.toList) hI (by omega)
  have hst:(eB u.data.toList (aD s)).2= { aD s with inb:=(if(pF (s.inb++u.data.toList)).2.2=0 then(pF (s.inb++u.data.toList)).2.1 else []),ine:=(pF (s.inb++u.data.toList)).2.2 }:=rfl
  have hfs:(eB u.data.toList (aD s)).1=(pF (s.inb++u.data.toList)).1.map GG:=rfl
  rw[hfs] at hK
  generalize hs1:(eB u.data.toList (aD s)).2=s1 at hK hst hI1
  have ho1:s1.dr.ov=false:=by rw[hst];exact ho
  refine aH Tryz.func29 ?_
  repeat' (first|refine Ng ?_|refine w5 ?_ ?_|((refine bh fun h=>?_) <;> try exact w6 h)|(refine aE fun hA=>?_;subst hA)|intro _|(show aA _ 104 _ _ _;refine CA (h:=cG (x:=x) (a:=a) (s:=s) (M:=M) (mc:=mc) (R:=R) ?_);rw[ho,if_neg Bool.false_ne_true])|(show aA _ 115 _ _ _;refine CA (h:=Agm (e0:=(aD s).ine) (ks:=s.inb) (s:=u) hine hu (fun F c fs hfe=>?_))))
  subst hst
  have hfl:=congrArg List.length hfe
  simp only[List.length_map] at hfl
  refine jA (fun n1 a' C'=>∃(j:Nat) (s':Cn) (M':Option Addr) (mc':Nat),j+n1=fs.length/\bO (B+u.data.toList.length+300 * j) s'/\s'.dr.ov=false/\cC ((fs.drop j).map jD) s'=cC ((pF (s.inb++u.data.toList)).1.map GG) { aD s with inb:=(if(pF (s.inb++u.data.toList)).2.2=0 then(pF (s.inb++u.data.toList)).2.1 else []),ine:=(pF (s.inb++u.data.toList)).2.2 }/\dH a' [(0,PO x),(7,I6 (pF (s.inb++u.data.toList)).2.2),(24,.slice F fs.length c),(25,I6 fs.length),(26,I6 j)]/\C'=bT F c 178 wD fs::mC zE fs::cA x a s' M' mc' R) fs.length (cJ fs.length ⟨0,{ aD s with inb:=(if(pF (s.inb++u.data.toList)).2.2=0 then(pF (s.inb++u.data.toList)).2.1 else []),ine:=(pF (s.inb++u.data.toList)).2.2 },none,0,by omega,hI1.mono (by omega) (by omega),ho1,by rw[List.drop_zero,hfe],⟨rfl,rfl,rfl,rfl,rfl,trivial⟩,rfl⟩ (by omega)) ?_
  rintro n1 a' C' ⟨j,s',M',mc',hj,hI',ho',hc,ha,rfl⟩
  refine i6 _ ha ?_
  simp only[gJ]
  by_cases hlt:j<fs.length
  ·obtain⟨z,hz,hd⟩:=lS (l:=fs) (j:=j) hlt
   have hzm:=List.mem_of_getElem? hz
   obtain⟨hzr,hzn⟩:=Uk hfe z hzm
   have hv:fs[((j:Nat):Int).toNat]?=some z:=by rw[Int.toNat_natCast];exact hz
   rw[hd] at hc
   have hc2:(if(bC z s').dr.ov=true then bC z s' else cC ((fs.drop (j+1)).map jD) (bC z s'))=cC ((pF (s.inb++u.data.toList)).1.map GG) { aD s with inb:=(if(pF (s.inb++u.data.toList)).2.2=0 then(pF (s.inb++u.data.toList)).2.1 else []),ine:=(pF (s.inb++u.data.toList)).2.2 }:=hc
   have hI2:=zS hI' (by omega) hzr
   cases hov:(bC z s').dr.ov
   ·rw[hov,if_neg Bool.false_ne_true] at hc2
    repeat' (first|refine Ng ?_|refine w5 ?_ ?_|((refine bh fun h=>?_) <;> try exact w6 h)|(refine aE fun hA=>?_;subst hA)|intro _|(show aA _ 117 _ _ _;refine CA (h:=GB (x:=x) (a:=a) (s:=s') (M:=M') (mc:=mc') (R:=bT _ c 178 wD fs::mC zE fs::R) (f:=z) hI' (by omega) hzr (bN (yJ hzm)) hzn (fun _ _=>?_)))|(show aA _ 105 _ _ _;refine CA (h:=lC (x:=x) (a:=a) (s:=bC z s') ?_);rw[hov]))
    all_goals(show aU _ _ _ _;exact cJ (n1 - 1) ⟨j+1,bC z s',_,_,by omega,hI2.mono (by omega) (by omega),hov,hc2,⟨rfl,rfl,rfl,rfl,rfl,trivial⟩,rfl⟩)
   ·rw[hov,if_pos rfl] at hc2
    rw[<- hc2,if_pos (.inl hov)] at hK
    repeat' (first|refine Ng ?_|refine w5 ?_ ?_|((refine bh fun h=>?_) <;> try exact w6 h)|(refine aE fun hA=>?_;subst hA)|intro _|(show aA _ 117 _ _ _;refine CA (h:=GB (x:=x) (a:=a) (s:=s') (M:=M') (mc:=mc') (R:=bT _ c 178 wD fs::mC zE fs::R) (f:=z) hI' (by omega) hzr (bN (yJ hzm)) hzn (fun _ _=>?_)))|(show aA _ 105 _ _ _;refine CA (h:=lC (x:=x) (a:=a) (s:=bC z s') ?_);rw[hov]))
    all_goals(refine aC ?_;exact aB (hK _ _))
  ·have hd:fs.drop j= []:=List.drop_eq_nil_of_le (by omega)
   rw[hd] at hc
   have hc2:s'=cC ((pF (s.inb++u.data.toList)).1.map GG) { aD s with inb:=(if(pF (s.inb++u.data.toList)).2.2=0 then(pF (s.inb++u.data.toList)).2.1 else []),ine:=(pF (s.inb++u.data.toList)).2.2 }:=hc
   rw[<- hc2] at hK
   by_cases hE:(pF (s.inb++u.data.toList)).2.2=0
   ·rw[if_pos (.inr hE)] at hK
    repeat' (first|refine Ng ?_|refine w5 ?_ ?_|((refine bh fun h=>?_) <;> try exact w6 h)|(refine aE fun hA=>?_;subst hA)|intro _)
    all_goals(refine aC ?_;exact aB (hK _ _))
   ·rw[if_neg (fun q=>q.elim (fun w=>by rw[ho'] at w;cases w) hE)] at hK
    repeat' (first|(show Br _ _ _;refine Br.t (by first|(simp <;> done)|simpa using hE) ?_)|refine Ng ?_|refine w5 ?_ ?_|((refine bh fun h=>?_) <;> try exact w6 h)|(refine aE fun hA=>?_;subst hA)|intro _|(show aA _ 118 _ _ _;refine CA (h:=dQ (x:=x) (a:=a) (s:=s') hI' (by decide) (by decide) (fun _ _=>?_))))
    all_goals(refine aC ?_;exact aB (hK _ _))
 ·rw[ho,if_pos rfl,if_pos rfl] at hK
  refine aH Tryz.func29 ?_
  repeat' (first|refine Ng ?_|refine w5 ?_ ?_|((refine bh fun h=>?_) <;> try exact w6 h)|(refine aE fun hA=>?_;subst hA)|intro _|(show aA _ 104 _ _ _;refine CA (h:=cG (x:=x) (a:=a) (s:=s) (M:=M) (mc:=mc) (R:=R) ?_);rw[ho,if_pos rfl]))
  all_goals(refine aC ?_;exact aB (hK _ _))
theorem sM (h:cH s id=0):s.dr.ov=false/\∃m,bX id s.l=some m:=by
 unfold cH at h
 cases ho:s.dr.ov
 ·refine⟨rfl,?_⟩
  rw[ho,if_neg Bool.false_ne_true] at h
  cases hm:bX id s.l with
  |some m=>exact⟨m,rfl⟩
  |none=>
   rw[hm] at h
   dsimp only at h
   split at h <;> cases h
 ·rw[ho,if_pos rfl] at h;cases h
theorem Yz (hb:0<=s.now/\s.now<=1000000000) (hK:K (I6 (s.now+1)) (cA x a (s4 s) M mc R)):CT 57 #[PO x] (cA x a s M mc R) K:=by
 dsimp only[cA,nF,s4] at hK ⊢
 refine aH Tryz.func57 ?_
 repeat' (first|refine GF ?_|refine w5 ?_ ?_|((refine bh fun h=>?_) <;> try exact w6 h)|(refine aE fun hA=>?_;subst hA)|intro _)
 all_goals(refine aC ?_;exact aB (hK))
theorem Cc:(Bw m d).id=m.id:=by unfold Bw;split <;> rfl
theorem Cb:(Bl m).id=m.id:=by unfold Bl;split <;> rfl
theorem Uw (hI:bO B s) (hd:d.size<=100000000) (hK:K (.tuple #[I6 (qD id d s).1,I6 (qD id d s).2]) (cA x a (kY id d s) none 0 R)):CT 53 #[PO x,I6 id,.string d] (cA x a s M mc R) K:=by
 have hbb:=hI.bb
 unfold qD kY at hK
 by_cases hf:cH s id=0
 ·obtain⟨ho,m,hm⟩:=sM hf
  obtain⟨hi,hmid⟩:=aS hm
  have hac:=(hI.st m (List.mem_of_getElem? hi)).ac
  simp only[if_neg (fun q=>q hf:¬cH s id≠0)] at hK
  rw[hm] at hK
  dsimp only at hK
  rw[eN (id:=id) (Cc.trans hmid)] at hK
  refine aH Tryz.func53 ?_
  repeat' (first|refine v2 ?_|refine w5 ?_ ?_|((refine bh fun h=>?_) <;> try exact w6 h)|(refine aE fun hA=>?_;subst hA)|intro _|(show aA _ 141 _ _ _;refine CA (h:=gF (x:=x) (a:=a) (s:=s) (M:=M) (mc:=mc) (R:=R) hI ho hm (fun _=>?_)))|(show aA _ 142 _ _ _;refine CA (h:=Ac1 (m:=m) (by omega) (by omega) ?_)))
  all_goals(refine aC ?_;exact aM (aG.trans (by exact aY) ((nL (x:=x) (a:=a) (s:=aD s) (M:=none) (mc:=0) (R:=R) (m':=Bw m d) hi Cc))) (hK))
 ·simp only[if_pos hf] at hK
  refine aH Tryz.func53 ?_
  repeat' (first|(show Br _ _ _;refine Br.t (by first|(simp <;> done)|simpa using hf) ?_)|refine v2 ?_|refine w5 ?_ ?_|((refine bh fun h=>?_) <;> try exact w6 h)|(refine aE fun hA=>?_;subst hA)|intro _|(show aA _ 141 _ _ _;refine CA (h:=pH (x:=x) (a:=a) (s:=s) (M:=M) (mc:=mc) (R:=R) hI hf ?_)))
  all_goals(refine aC ?_;exact aB (hK))
theorem Ab6 (hI:bO B s) (hK:K (I6 (M8 id s)) (cA x a (xF id s) none 0 R)):CT 151 #[PO x,I6 id] (cA x a s M mc R) K:=by
 unfold M8 xF at hK
 by_cases hf:cH s id=0
 ·obtain⟨ho,m,hm⟩:=sM hf
  obtain⟨hi,hmid⟩:=aS hm
  simp only[if_neg (fun q=>q hf:¬cH s id≠0)] at hK
  rw[hm] at hK
  dsimp only at hK
  rw[eN (id:=id) (Cb.trans hmid)] at hK
  refine aH Tryz.func151 ?_
  repeat' (first|refine v2 ?_|refine w5 ?_ ?_|((refine bh fun h=>?_) <;> try exact w6 h)|(refine aE fun hA=>?_;subst hA)|intro _|(show aA _ 141 _ _ _;refine CA (h:=gF (x:=x) (a:=a) (s:=s) (M:=M) (mc:=mc) (R:=R) hI ho hm (fun _=>?_)))|(show aA _ 246 _ _ _;refine CA (h:=Adi (m:=m) ?_)))
  all_goals(refine aC ?_;exact aM (aG.trans (by exact aY) ((nL (x:=x) (a:=a) (s:=aD s) (M:=none) (mc:=0) (R:=R) (m':=Bl m) hi Cb))) (hK))
 ·simp only[if_pos hf] at hK
  refine aH Tryz.func151 ?_
  repeat' (first|(show Br _ _ _;refine Br.t (by first|(simp <;> done)|simpa using hf) ?_)|refine v2 ?_|refine w5 ?_ ?_|((refine bh fun h=>?_) <;> try exact w6 h)|(refine aE fun hA=>?_;subst hA)|intro _|(show aA _ 141 _ _ _;refine CA (h:=pH (x:=x) (a:=a) (s:=s) (M:=M) (mc:=mc) (R:=R) hI hf ?_)))
  all_goals(refine aC ?_;exact aB (hK))
theorem Ae7:jZ (G7 y n)=jZ y:=by cases y <;> rfl
theorem Aa1 (hI:bO B s) (hK:K (I6 (N0 id n s)) (cA x a (wR id n s) none 0 R)):CT 153 #[PO x,I6 id,I6 n] (cA x a s M mc R) K:=by
 unfold N0 wR at hK
 by_cases hf:cH s id=0
 ·obtain⟨ho,m,hm⟩:=sM hf
  obtain⟨hi,hmid⟩:=aS hm
  simp only[if_neg (fun q=>q hf:¬cH s id≠0)] at hK
  rw[hm] at hK
  dsimp only at hK
  rw[eN (id:=id) (show({ m with y:=G7 m.y n }:Sm).id=id from hmid)] at hK
  refine aH Tryz.func153 ?_
  repeat' (first|refine v2 ?_|refine w5 ?_ ?_|((refine bh fun h=>?_) <;> try exact w6 h)|(refine aE fun hA=>?_;subst hA)|intro _|(show aA _ 141 _ _ _;refine CA (h:=gF (x:=x) (a:=a) (s:=s) (M:=M) (mc:=mc) (R:=R) hI ho hm (fun _=>?_)))|(show aA _ 63 _ _ _;refine CA (h:=o9 (m:=m) (fun _=>?_)))|(show aA _ 248 _ _ _;refine CA (h:=Ail (y:=m.y) ?_)))
  all_goals(refine aC ?_;exact aM (aG.trans (by exact aY) ((aG.trans (lX Ae7) (nL (x:=x) (a:=a) (s:=aD s) (M:=none) (mc:=0) (R:=R) (m':= { m with y:=G7 m.y n }) hi rfl)))) (hK))
 ·simp only[if_pos hf] at hK
  refine aH Tryz.func153 ?_
  repeat' (first|(show Br _ _ _;refine Br.t (by first|(simp <;> done)|simpa using hf) ?_)|refine v2 ?_|refine w5 ?_ ?_|((refine bh fun h=>?_) <;> try exact w6 h)|(refine aE fun hA=>?_;subst hA)|intro _|(show aA _ 141 _ _ _;refine CA (h:=pH (x:=x) (a:=a) (s:=s) (M:=M) (mc:=mc) (R:=R) hI hf ?_)))
  all_goals(refine aC ?_;exact aB (hK))
theorem bH (h:bO B s):bO B (aD s):=
 { h with
   mv:=by
    have h1:=h.mv
    show(([]:List Mv).length:Int)+s.l.length<=B
    simp only[List.length_nil];omega }
theorem Alu:jZ (Fi y n)=jZ y:=by cases y <;> rfl
theorem Al2:jZ (FC y)=jZ y:=by
 cases y with
 |b y=>rfl
 |i y=>unfold FC;dsimp only;split <;> rfl
theorem Tq (h:FI B m):FI B { m with y:=Fi m.y n }:=by
 obtain⟨h1,h2,h3,h4⟩:=h
 refine⟨h1,h2,?_,?_⟩
 ·cases hy:m.y <;> (rw[hy] at h3;exact h3)
 ·cases hy:m.y with
  |b z=>rw[hy] at h4;simp only[Fi,iD,List.length_drop] at h4 ⊢;omega
  |i z=>rw[hy] at h4;exact h4
theorem Tt (h:FI B m):FI B { m with y:=FC m.y }:=by
 obtain⟨h1,h2,h3,h4⟩:=h
 cases hy:m.y with
 |b z=>rw[hy] at h3 h4;exact⟨h1,h2,h3,h4⟩
 |i z=>
  rw[hy] at h3 h4
  cases hl:z.l with
  |nil=>
   have e:FC (.i z)=.i z:=by simp only[FC,hl]
   rw[e];exact⟨h1,h2,h3,h4⟩
  |cons q r=>
   have e:FC (.i z)=.i { z with l:=r,tk:=z.tk+1 }:=by simp only[FC,hl]
   rw[e]
   refine⟨h1,h2,h3,?_⟩
   simp only[iD,hl,List.length_cons] at h4 ⊢
   omega
theorem Aka (h:(iD y:Int)<=B):(((CI y n).size:Nat):Int)<=max B 0:=by
 cases y with
 |b z=>
  have:(CI (.b z) n).size=min (MD z n) z.bs.length:=by
   show((z.bs.take (MD z n)).toArray).size=_
   simp
  simp only[iD] at h
  omega
 |i z=>show((0:Nat):Int)<=max B 0;omega
theorem XV (hI:bO B s) (hK:∀M mc,K (.tuple #[.string (mH id n s).1,.bool (mH id n s).2.1,I6 (mH id n s).2.2]) (cA x a (mY id n s) M mc R)):CT 54 #[PO x,I6 id,I6 n] (cA x a s M mc R) K:=by
 have hbb:=hI.bb
 have hrv:=hI.rv
 unfold JN at hrv
 unfold mH mY at hK
 by_cases hf:cH s id=0
 ·obtain⟨ho,m,hm⟩:=sM hf
  obtain⟨hi,hmid⟩:=aS hm
  have hIm:=hI.st m (List.mem_of_getElem? hi)
  have hsz:=Aka (n:=n) hIm.ln
  simp only[if_neg (fun q=>q hf:¬cH s id≠0)] at hK
  rw[hm] at hK
  dsimp only at hK
  by_cases hE:Pb m.y=0
  ·simp only[if_neg (fun q=>q hE:¬Pb m.y≠0)] at hK
   rw[eN (id:=id) (show({ m with y:=Fi m.y n }:Sm).id=id from hmid)] at hK
   have hI2:bO B { ({ aD s with rv:=fO s.rv ((CI m.y n).size:Nat) }:Cn) with l:=s.l.set (cI id s.l) { m with y:=Fi m.y n } }:=mN (s:= { aD s with rv:=fO s.rv ((CI m.y n).size:Nat) }) (rN (bH hI)) hi rfl rfl (Tq hIm)
   refine aH Tryz.func54 ?_
   repeat' (first|refine MN ?_|refine w5 ?_ ?_|((refine bh fun h=>?_) <;> try exact w6 h)|(refine aE fun hA=>?_;subst hA)|intro _|(show aA _ 141 _ _ _;refine CA (h:=gF (x:=x) (a:=a) (s:=s) (M:=M) (mc:=mc) (R:=R) hI ho hm (fun _=>?_)))|(show aA _ 63 _ _ _;first|refine CA (h:=o9 (m:=m) (fun _=>?_))|refine CA (h:=aA.ent (lX Alu) (o9 (m:= { m with y:=Fi m.y n }) (fun _=>?_))))|(show aA _ 143 _ _ _;refine CA (h:=PV (y:=m.y) ?_);rw[hE])|(show aA _ 144 _ _ _;refine CA (h:=vI (y:=s.rv) (by omega) (by omega) (fun _=>?_)))|(show aA _ 145 _ _ _;refine CA (h:=O2 (y:=Fi m.y n) ?_))|(show aA _ 146 _ _ _;refine CA (h:=aA.ent (lX (m:= { m with y:=Fi m.y n }) (y:=Fi m.y n) rfl) (mD (x:=x) (a:=a) (s:= { aD s with rv:=fO s.rv ((CI m.y n).size:Nat) }) (i:=cI id s.l) (m:=m) (M:=none) (mc:=0) (R:=R) (m':= { m with y:=Fi m.y n }) hi rfl hI2 (m7 hm rfl) (fun _ _=>?_)))))
   all_goals(refine aC ?_;exact aB (hK _ _))
  ·simp only[if_pos hE] at hK
   have hy:Fi m.y n=m.y/\CI m.y n=⟨#[]⟩:=by cases hq:m.y with
    |b z=>rw[hq] at hE;exact absurd rfl hE
    |i z=>exact⟨rfl,rfl⟩
   refine aH Tryz.func54 ?_
   repeat' (first|(show Br _ _ _;refine Br.t (by first|(simp <;> done)|simpa using hE) ?_)|refine MN ?_|refine w5 ?_ ?_|((refine bh fun h=>?_) <;> try exact w6 h)|(refine aE fun hA=>?_;subst hA)|intro _|(show aA _ 141 _ _ _;refine CA (h:=gF (x:=x) (a:=a) (s:=s) (M:=M) (mc:=mc) (R:=R) hI ho hm (fun _=>?_)))|(show aA _ 63 _ _ _;refine CA (h:=o9 (m:=m) (fun _=>?_)))|(show aA _ 143 _ _ _;refine CA (h:=PV (y:=m.y) ?_);rw[hy.1,hy.2]))
   all_goals(refine aC ?_;exact aM (aG.trans (by exact aY) ((aG.trans (lX (m:=m) (y:=m.y) rfl) (dF (x:=x) (a:=a) (s:=aD s) (M:=none) (mc:=0) (R:=R) hi)))) (hK _ _))
 ·simp only[if_pos hf] at hK
  refine aH Tryz.func54 ?_
  repeat' (first|(show Br _ _ _;refine Br.t (by first|(simp <;> done)|simpa using hf) ?_)|refine MN ?_|refine w5 ?_ ?_|((refine bh fun h=>?_) <;> try exact w6 h)|(refine aE fun hA=>?_;subst hA)|intro _|(show aA _ 141 _ _ _;refine CA (h:=pH (x:=x) (a:=a) (s:=s) (M:=M) (mc:=mc) (R:=R) hI hf ?_)))
  all_goals(refine aC ?_;exact aB (hK _ _))
theorem YL (hI:bO B s) (hK:∀M mc,K (.tuple #[.string (nJ id s).1,.bool (nJ id s).2.1,.bool (nJ id s).2.2.1,I6 (nJ id s).2.2.2]) (cA x a (rJ id s) M mc R)):CT 152 #[PO x,I6 id] (cA x a s M mc R) K:=by
 have hbb:=hI.bb
 unfold nJ rJ at hK
 by_cases hf:cH s id=0
 ·obtain⟨ho,m,hm⟩:=sM hf
  obtain⟨hi,hmid⟩:=aS hm
  have hIm:=hI.st m (List.mem_of_getElem? hi)
  simp only[if_neg (fun q=>q hf:¬cH s id≠0)] at hK
  rw[hm] at hK
  dsimp only at hK
  by_cases hE:ZB m.y=0
  ·simp only[if_neg (fun q=>q hE:¬ZB m.y≠0)] at hK
   rw[eN (id:=id) (show({ m with y:=FC m.y }:Sm).id=id from hmid)] at hK
   have hI2:bO B { aD s with l:=s.l.set (cI id s.l) { m with y:=FC m.y } }:=mN (s:=aD s) (bH hI) hi rfl rfl (Tt hIm)
   refine aH Tryz.func152 ?_
   repeat' (first|refine v2 ?_|refine w5 ?_ ?_|((refine bh fun h=>?_) <;> try exact w6 h)|(refine aE fun hA=>?_;subst hA)|intro _|(show aA _ 141 _ _ _;refine CA (h:=gF (x:=x) (a:=a) (s:=s) (M:=M) (mc:=mc) (R:=R) hI ho hm (fun _=>?_)))|(show aA _ 63 _ _ _;first|refine CA (h:=o9 (m:=m) (fun _=>?_))|refine CA (h:=aA.ent (lX Al2) (o9 (m:= { m with y:=FC m.y }) (fun _=>?_))))|(show aA _ 247 _ _ _;refine CA (h:=Rs (y:=m.y) ?_);rw[hE])|(show aA _ 145 _ _ _;refine CA (h:=O2 (y:=FC m.y) ?_))|(show aA _ 146 _ _ _;refine CA (h:=aA.ent (lX (m:= { m with y:=FC m.y }) (y:=FC m.y) rfl) (mD (x:=x) (a:=a) (s:=aD s) (i:=cI id s.l) (m:=m) (M:=none) (mc:=0) (R:=R) (m':= { m with y:=FC m.y }) hi rfl hI2 (m7 hm rfl) (fun _ _=>?_)))))
   all_goals(refine aC ?_;exact aB (hK _ _))
  ·simp only[if_pos hE] at hK
   have hy:FC m.y=m.y/\Ank m.y=⟨#[]⟩/\Afe m.y=false:=by cases hq:m.y with
    |b z=>exact⟨rfl,rfl,rfl⟩
    |i z=>rw[hq] at hE;exact absurd rfl hE
   refine aH Tryz.func152 ?_
   repeat' (first|(show Br _ _ _;refine Br.t (by first|(simp <;> done)|simpa using hE) ?_)|refine v2 ?_|refine w5 ?_ ?_|((refine bh fun h=>?_) <;> try exact w6 h)|(refine aE fun hA=>?_;subst hA)|intro _|(show aA _ 141 _ _ _;refine CA (h:=gF (x:=x) (a:=a) (s:=s) (M:=M) (mc:=mc) (R:=R) hI ho hm (fun _=>?_)))|(show aA _ 63 _ _ _;refine CA (h:=o9 (m:=m) (fun _=>?_)))|(show aA _ 247 _ _ _;refine CA (h:=Rs (y:=m.y) ?_);rw[hy.1,hy.2.1,hy.2.2]))
   all_goals(refine aC ?_;exact aM (aG.trans (by exact aY) ((aG.trans (lX (m:=m) (y:=m.y) rfl) (dF (x:=x) (a:=a) (s:=aD s) (M:=none) (mc:=0) (R:=R) hi)))) (hK _ _))
 ·simp only[if_pos hf] at hK
  refine aH Tryz.func152 ?_
  repeat' (first|(show Br _ _ _;refine Br.t (by first|(simp <;> done)|simpa using hf) ?_)|refine v2 ?_|refine w5 ?_ ?_|((refine bh fun h=>?_) <;> try exact w6 h)|(refine aE fun hA=>?_;subst hA)|intro _|(show aA _ 141 _ _ _;refine CA (h:=pH (x:=x) (a:=a) (s:=s) (M:=M) (mc:=mc) (R:=R) hI hf ?_)))
  all_goals(refine aC ?_;exact aB (hK _ _))
theorem Iu {out:List Fm} (h:zA f out≠0):wL f out=out:=by unfold wL;rw[if_pos h]
def pD:List (Nat×Nat):= [(4,0),(5,0),(6,0),(7,0),(8,1),(0,1),(1,1),(2,1),(3,1),(9,0),(10,1),(11,0),(12,0)]
def pE:List (Nat×Nat):= [(4,0),(5,0),(6,0),(7,0),(8,1),(0,1),(1,1),(2,1),(3,1),(9,1),(10,0)]
theorem Akh (hI:bO B s) (hK:K (I6 (VX s)) (cA x a (AT s) none 0 R)):CT 55 #[PO x] (cA x a s M mc R) K:=by
 unfold VX AT at hK
 cases ho:s.dr.ov
 ·cases hs:s.dr.se
  ·by_cases hq:zA (zZ s.la 0) s.out=0
   ·simp only[ho,hs,hq,Bool.false_eq_true,if_false,false_or,ne_eq,not_true_eq_false] at hK
    refine aH Tryz.func55 ?_
    repeat' (first|refine v46 ?_|refine dw pD ?_|refine dw pE ?_|refine w5 ?_ ?_|((refine bh fun h=>?_) <;> try exact w6 h)|(refine aE fun hA=>?_;subst hA)|intro _|(show aA _ 104 _ _ _;refine CA (h:=cG (x:=x) (a:=a) (s:=s) (M:=M) (mc:=mc) (R:=R) ?_);rw[ho,if_neg Bool.false_ne_true])|(show aA _ 147 _ _ _;refine CA (h:=FY (d:=s.dr) ?_);rw[hs])|(show aA _ 148 _ _ _;refine CA (h:=DJ (sd:=s.sd) (nx:=s.nx) (la:=s.la) ?_))|(show aA _ 100 _ _ _;refine CA (h:=k9 (f:=zZ s.la 0) hI.ou eM rfl (show(0:Nat)<1000000000000000 by decide) ?_);rw[hq])|(show aA _ 149 _ _ _;refine CA (h:=Aco (d:=s.dr) ?_)))
    all_goals(refine aC ?_;exact aB (hK))
   ·simp only[ho,hs,hq,Bool.false_eq_true,if_false,false_or,ne_eq,not_false_eq_true,if_true] at hK
    have h9:=Iu hq
    refine aH Tryz.func55 ?_
    repeat' (first|(show Br _ _ _;refine Br.t (by first|(simp <;> done)|simpa using hq) ?_)|refine v46 ?_|refine dw pD ?_|refine dw pE ?_|refine w5 ?_ ?_|((refine bh fun h=>?_) <;> try exact w6 h)|(refine aE fun hA=>?_;subst hA)|intro _|(show aA _ 104 _ _ _;refine CA (h:=cG (x:=x) (a:=a) (s:=s) (M:=M) (mc:=mc) (R:=R) ?_);rw[ho,if_neg Bool.false_ne_true])|(show aA _ 147 _ _ _;refine CA (h:=FY (d:=s.dr) ?_);rw[hs])|(show aA _ 148 _ _ _;refine CA (h:=DJ (sd:=s.sd) (nx:=s.nx) (la:=s.la) ?_))|(show aA _ 100 _ _ _;refine CA (h:=k9 (f:=zZ s.la 0) hI.ou eM rfl (show(0:Nat)<1000000000000000 by decide) ?_);rw[h9]))
    all_goals(refine aC ?_;exact aB (hK))
  ·simp only[ho,hs,Bool.false_eq_true,if_false,if_true,true_or,or_true] at hK
   refine aH Tryz.func55 ?_
   repeat' (first|refine v46 ?_|refine dw pD ?_|refine dw pE ?_|refine w5 ?_ ?_|((refine bh fun h=>?_) <;> try exact w6 h)|(refine aE fun hA=>?_;subst hA)|intro _|(show aA _ 104 _ _ _;refine CA (h:=cG (x:=x) (a:=a) (s:=s) (M:=M) (mc:=mc) (R:=R) ?_);rw[ho,if_neg Bool.false_ne_true])|(show aA _ 147 _ _ _;refine CA (h:=FY (d:=s.dr) ?_);rw[hs]))
   all_goals(refine aC ?_;exact aB (hK))
 ·simp only[ho,if_true,true_or] at hK
  refine aH Tryz.func55 ?_
  repeat' (first|refine v46 ?_|refine dw pD ?_|refine dw pE ?_|refine w5 ?_ ?_|((refine bh fun h=>?_) <;> try exact w6 h)|(refine aE fun hA=>?_;subst hA)|intro _|(show aA _ 104 _ _ _;refine CA (h:=cG (x:=x) (a:=a) (s:=s) (M:=M) (mc:=mc) (R:=R) ?_);rw[ho,if_pos rfl]))
  all_goals(refine aC ?_;exact aB (hK))
theorem s8 (h:bO B s):bO B { s with out:=wL f s.out }:= { h with ou:=Gs h.ou }
def kW:List (Nat×Nat):= [(0,0),(1,0),(2,0),(3,0),(4,0),(5,1),(6,0),(7,0)]
theorem UM (hI:bO B s) (hK:∀M mc,K (I6 (kB id n s)) (cA x a (lU id n s) M mc R)):CT 155 #[PO x,I6 id,I6 n] (cA x a s M mc R) K:=by
 unfold lU at hK
 by_cases hf:cH s id=0
 ·obtain⟨ho,m,hm⟩:=sM hf
  obtain⟨hi,hmid⟩:=aS hm
  cases hc:lZ (fM id n)
  ·have hE:kB id n s=2:=by unfold kB;rw[if_neg (fun q=>q hf),if_pos hc]
   rw[hE,if_pos (by decide)] at hK
   refine aH Tryz.func155 ?_
   repeat' (first|refine Ng ?_|refine dw kW ?_|refine w5 ?_ ?_|((refine bh fun h=>?_) <;> try exact w6 h)|(refine aE fun hA=>?_;subst hA)|intro _|(show aA _ 141 _ _ _;refine CA (h:=gF (x:=x) (a:=a) (s:=s) (M:=M) (mc:=mc) (R:=R) hI ho hm (fun _=>?_)))|(show aA _ 137 _ _ _;refine CA (h:=Cu (ps:= []) (show wM 4 id false ⟨#[]⟩ 0 0 0 false n 0 0 []=false from hc) eM rfl (show(0:Nat)<1000000000000000 by decide) ?_)))
   all_goals(refine aC ?_;exact aM (aG.trans (by exact aY) ((dF (x:=x) (a:=a) (s:=aD s) (M:=none) (mc:=0) (R:=R) hi))) (hK _ _))
  ·by_cases hq:zA (fM id n) s.out=0
   ·have hE:kB id n s=0:=by unfold kB;rw[if_neg (fun q=>q hf),if_neg (by rw[hc];decide),if_neg (fun q=>q hq)]
    rw[hE,if_neg (by decide),hm] at hK
    refine aH Tryz.func155 ?_
    repeat' (first|refine Ng ?_|refine dw kW ?_|refine w5 ?_ ?_|((refine bh fun h=>?_) <;> try exact w6 h)|(refine aE fun hA=>?_;subst hA)|intro _|(show aA _ 141 _ _ _;refine CA (h:=gF (x:=x) (a:=a) (s:=s) (M:=M) (mc:=mc) (R:=R) hI ho hm (fun _=>?_)))|(show aA _ 137 _ _ _;refine CA (h:=jB (ps:= []) (show wM 4 id false ⟨#[]⟩ 0 0 0 false n 0 0 []=true from hc) eM rfl (show(0:Nat)<1000000000000000 by decide) ?_))|(show aA _ 100 _ _ _;refine CA (h:=k9 (f:=fM id n) hI.ou eM rfl (show(0:Nat)<1000000000000000 by decide) ?_);rw[hq])|(show aA _ 250 _ _ _;refine CA (h:=Cj (x:=x) (a:=a) (s:= { aD s with out:=wL (fM id n) s.out }) (M:=none) (mc:=0) (R:=R) (m:=m) (s8 (bH hI)) hm (.inl rfl) (fun _ _=>?_))))
    all_goals(refine aC ?_;exact aB (hK _ _))
   ·have hE:kB id n s=9:=by unfold kB;rw[if_neg (fun q=>q hf),if_neg (by rw[hc];decide),if_pos hq]
    rw[hE,if_pos (by decide)] at hK
    have h9:=Iu hq
    refine aH Tryz.func155 ?_
    repeat' (first|(show Br _ _ _;refine Br.t (by first|(simp <;> done)|simpa using hq) ?_)|refine Ng ?_|refine dw kW ?_|refine w5 ?_ ?_|((refine bh fun h=>?_) <;> try exact w6 h)|(refine aE fun hA=>?_;subst hA)|intro _|(show aA _ 141 _ _ _;refine CA (h:=gF (x:=x) (a:=a) (s:=s) (M:=M) (mc:=mc) (R:=R) hI ho hm (fun _=>?_)))|(show aA _ 137 _ _ _;refine CA (h:=jB (ps:= []) (show wM 4 id false ⟨#[]⟩ 0 0 0 false n 0 0 []=true from hc) eM rfl (show(0:Nat)<1000000000000000 by decide) ?_))|(show aA _ 100 _ _ _;refine CA (h:=k9 (f:=fM id n) hI.ou eM rfl (show(0:Nat)<1000000000000000 by decide) ?_);rw[h9]))
    all_goals(refine aC ?_;exact aM (aG.trans (by exact aY) ((dF (x:=x) (a:=a) (s:=aD s) (M:=none) (mc:=0) (R:=R) hi))) (hK _ _))
 ·have hE:kB id n s=cH s id:=by unfold kB;rw[if_pos hf]
  rw[hE,if_pos hf] at hK
  refine aH Tryz.func155 ?_
  repeat' (first|(show Br _ _ _;refine Br.t (by first|(simp <;> done)|simpa using hf) ?_)|refine Ng ?_|refine dw kW ?_|refine w5 ?_ ?_|((refine bh fun h=>?_) <;> try exact w6 h)|(refine aE fun hA=>?_;subst hA)|intro _|(show aA _ 141 _ _ _;refine CA (h:=pH (x:=x) (a:=a) (s:=s) (M:=M) (mc:=mc) (R:=R) hI hf ?_)))
  all_goals(refine aC ?_;exact aB (hK _ _))
def jG:List (Nat×Nat):= [(0,0),(1,0),(2,0),(3,0),(4,0),(5,1),(6,0),(7,0)]
def iV:List (Nat×Nat):= [(0,0),(1,0),(2,0),(3,0),(4,0),(5,0),(6,1),(7,0)]
theorem Xx (hI:bO B s) (hK:∀M mc,K (I6 (Hi id on w xx s)) (cA x a (pJ id on w xx s) M mc R)):CT 154 #[PO x,I6 id,.agg #[I6 on,I6 w,.bool xx]] (cA x a s M mc R) K:=by
 have htl:=hI.tr.len
 obtain⟨rk,hrk⟩:=hI.tr.rk
 unfold Hi pJ at hK
 by_cases hf:cH s id=0
 ·obtain⟨ho,m,hm⟩:=sM hf
  obtain⟨hi,hmid⟩:=aS hm
  rw[if_neg (fun q=>q hf)] at hK
  cases hc:lZ (mX id on w xx)
  ·rw[if_pos hc,if_pos (.inr (.inl hc))] at hK
   refine aH Tryz.func154 ?_
   repeat' (first|refine ZO ?_|refine dw jG ?_|refine dw iV ?_|refine w5 ?_ ?_|((refine bh fun h=>?_) <;> try exact w6 h)|(refine aE fun hA=>?_;subst hA)|intro _|(show aA _ 141 _ _ _;refine CA (h:=gF (x:=x) (a:=a) (s:=s) (M:=M) (mc:=mc) hI ho hm (fun _=>?_)))|(show aA _ 137 _ _ _;refine CA (h:=Cu (ps:= []) (show wM 3 id false ⟨#[]⟩ 0 on w xx 0 0 0 []=false from hc) eM rfl (show(0:Nat)<1000000000000000 by decide) ?_)))
   all_goals(refine aC ?_;exact aM (aG.trans (by exact aY) ((dF (x:=x) (a:=a) (s:=aD s) (M:=none) (mc:=0) (R:=R) hi))) (hK _ _))
  ·have hc0:¬lZ (mX id on w xx)=false:=by rw[hc];decide
   rw[if_neg hc0] at hK
   by_cases h1:on=id
   ·rw[if_pos h1,if_pos (.inr (.inr (.inl h1)))] at hK
    refine aH Tryz.func154 ?_
    repeat' (first|refine ZO ?_|refine dw jG ?_|refine dw iV ?_|refine w5 ?_ ?_|((refine bh fun h=>?_) <;> try exact w6 h)|(refine aE fun hA=>?_;subst hA)|intro _|(show aA _ 141 _ _ _;refine CA (h:=gF (x:=x) (a:=a) (s:=s) (M:=M) (mc:=mc) hI ho hm (fun _=>?_)))|(show aA _ 137 _ _ _;refine CA (h:=jB (ps:= []) (show wM 3 id false ⟨#[]⟩ 0 on w xx 0 0 0 []=true from hc) eM rfl (show(0:Nat)<1000000000000000 by decide) ?_)))
    all_goals(refine aC ?_;exact aM (aG.trans (by exact aY) ((dF (x:=x) (a:=a) (s:=aD s) (M:=none) (mc:=0) (R:=R) hi))) (hK _ _))
   ·rw[if_neg h1] at hK
    by_cases hq:zA (mX id on w xx) s.out=0
    ·rw[if_neg (fun q=>q hq),if_neg (fun q=>q.elim (fun q=>q hf) (fun q=>q.elim hc0 (fun q=>q.elim h1 (fun q=>q hq))))] at hK
     refine aH Tryz.func154 ?_
     repeat' (first|refine ZO ?_|refine dw jG ?_|refine dw iV ?_|refine w5 ?_ ?_|((refine bh fun h=>?_) <;> try exact w6 h)|(refine aE fun hA=>?_;subst hA)|intro _|(show aA _ 141 _ _ _;refine CA (h:=gF (x:=x) (a:=a) (s:=s) (M:=M) (mc:=mc) hI ho hm (fun _=>?_)))|(show aA _ 137 _ _ _;refine CA (h:=jB (ps:= []) (show wM 3 id false ⟨#[]⟩ 0 on w xx 0 0 0 []=true from hc) eM rfl (show(0:Nat)<1000000000000000 by decide) ?_))|(show aA _ 100 _ _ _;refine CA (h:=k9 (f:=mX id on w xx) hI.ou eM rfl (show(0:Nat)<1000000000000000 by decide) ?_);rw[hq])|(show aA _ 249 _ _ _;refine CA (h:=LR (s:=s.tr) hI.tr.kok (by omega) hrk ?_)))
     all_goals(refine aC ?_;exact aM (aG.trans (by exact aY) ((dF (x:=x) (a:=a) (s:= { aD s with out:=wL (mX id on w xx) s.out,tr:=lO id on w xx s.tr }) (M:=none) (mc:=0) (R:=R) hi))) (hK _ _))
    ·rw[if_pos hq,if_pos (.inr (.inr (.inr hq)))] at hK
     have h9:=Iu hq
     refine aH Tryz.func154 ?_
     repeat' (first|(show Br _ _ _;refine Br.t (by first|(simp <;> done)|simpa using hq) ?_)|refine ZO ?_|refine dw jG ?_|refine dw iV ?_|refine w5 ?_ ?_|((refine bh fun h=>?_) <;> try exact w6 h)|(refine aE fun hA=>?_;subst hA)|intro _|(show aA _ 141 _ _ _;refine CA (h:=gF (x:=x) (a:=a) (s:=s) (M:=M) (mc:=mc) hI ho hm (fun _=>?_)))|(show aA _ 137 _ _ _;refine CA (h:=jB (ps:= []) (show wM 3 id false ⟨#[]⟩ 0 on w xx 0 0 0 []=true from hc) eM rfl (show(0:Nat)<1000000000000000 by decide) ?_))|(show aA _ 100 _ _ _;refine CA (h:=k9 (f:=mX id on w xx) hI.ou eM rfl (show(0:Nat)<1000000000000000 by decide) ?_);rw[h9]))
     all_goals(refine aC ?_;exact aM (aG.trans (by exact aY) ((dF (x:=x) (a:=a) (s:=aD s) (M:=none) (mc:=0) (R:=R) hi))) (hK _ _))
 ·rw[if_pos hf,if_pos (.inl hf)] at hK
  refine aH Tryz.func154 ?_
  repeat' (first|(show Br _ _ _;refine Br.t (by first|(simp <;> done)|simpa using hf) ?_)|refine ZO ?_|refine dw jG ?_|refine dw iV ?_|refine w5 ?_ ?_|((refine bh fun h=>?_) <;> try exact w6 h)|(refine aE fun hA=>?_;subst hA)|intro _|(show aA _ 141 _ _ _;refine CA (h:=pH (x:=x) (a:=a) (s:=s) (M:=M) (mc:=mc) (R:=R) hI hf ?_)))
  all_goals(refine aC ?_;exact aB (hK _ _))
theorem JM {i u v:Int} {l:List Pr}:(J6 i u v l).length<=l.length+1:=by
 unfold J6
 split <;> simp
theorem Nz {u v:dR}:(CX u v).length<=3:=by
 unfold CX
 have h1:=JM (i:=1) (u:=u.w) (v:=v.w) (l:= [])
 have h2:=JM (i:=2) (u:=u.st) (v:=v.st) (l:=J6 1 u.w v.w [])
 have h3:=JM (i:=3) (u:=u.it) (v:=v.it) (l:=J6 2 u.st v.st (J6 1 u.w v.w []))
 simp only[List.length_nil] at h1
 omega
def nG:List (Nat×Nat):= [(0,0),(1,0),(2,0),(3,0),(4,0),(5,1),(6,0),(7,0),(8,0),(9,0),(10,0)]
theorem Ael (hI:bO B s) (hK:K (I6 (MZ t s)) (cA x a (tD t s) none 0 R)):CT 56 #[PO x,.agg #[I6 t.w,I6 t.st,I6 t.it]] (cA x a s M mc R) K:=by
 have h64:=hI.ou.1
 unfold MZ tD at hK
 cases ho:s.dr.ov
 ·by_cases h1:64<=s.out.length
  ·simp only[ho,h1,Bool.false_eq_true,if_false,if_true,false_or,true_or] at hK
   refine aH Tryz.func56 ?_
   repeat' (first|refine v46 ?_|refine dw nG ?_|refine w5 ?_ ?_|((refine bh fun h=>?_) <;> try exact w6 h)|(refine aE fun hA=>?_;subst hA)|intro _|(show aA _ 104 _ _ _;refine CA (h:=cG (x:=x) (a:=a) (s:=s) (M:=M) (mc:=mc) ?_);rw[ho,if_neg Bool.false_ne_true])|(show aA _ 138 _ _ _;refine CA (h:=xY (out:=s.out) hI.ou ?_)))
   all_goals(refine aC ?_;exact aB (hK))
  ·by_cases hs:iE s.sh t=0
   ·simp only[ho,h1,hs,Bool.false_eq_true,if_false,false_or,ne_eq,not_true_eq_false] at hK
    have hlen:=Nz (u:=nD s.sh) (v:=t)
    refine aH Tryz.func56 ?_
    repeat' (first|refine v46 ?_|refine dw nG ?_|refine w5 ?_ ?_|((refine bh fun h=>?_) <;> try exact w6 h)|(refine aE fun hA=>?_;subst hA)|intro _|(show aA _ 104 _ _ _;refine CA (h:=cG (x:=x) (a:=a) (s:=s) (M:=M) (mc:=mc) ?_);rw[ho,if_neg Bool.false_ne_true])|(show aA _ 138 _ _ _;refine CA (h:=xY (out:=s.out) hI.ou ?_))|(show aA _ 99 _ _ _;refine CA (h:=FL (s:=s.sh) (t:=t) hI.sh.1 (fun Aq cq=>?_));rw[hs];simp only[if_true])|(show aA _ 100 _ _ _;refine CA (h:=k9 (out:=s.out) (f:=⟨5,0,false,⟨#[]⟩,0,0,0,false,0,0,0,Aq,(CX (nD s.sh) t).length,cq,CX (nD s.sh) t⟩) hI.ou (by exact lL) rfl (by show(CX (nD s.sh) t).length<1000000000000000;omega) ?_)))
    all_goals(refine aC ?_;exact aB (hK))
   ·simp only[ho,h1,hs,Bool.false_eq_true,if_false,if_true,false_or,ne_eq,not_false_eq_true] at hK
    have hsm:eC s.sh t=s.sh:=by unfold eC;rw[if_neg hs]
    refine aH Tryz.func56 ?_
    repeat' (first|(show Br _ _ _;refine Br.t (by first|(simp <;> done)|simpa using hs) ?_)|refine v46 ?_|refine dw nG ?_|refine w5 ?_ ?_|((refine bh fun h=>?_) <;> try exact w6 h)|(refine aE fun hA=>?_;subst hA)|intro _|(show aA _ 104 _ _ _;refine CA (h:=cG (x:=x) (a:=a) (s:=s) (M:=M) (mc:=mc) ?_);rw[ho,if_neg Bool.false_ne_true])|(show aA _ 138 _ _ _;refine CA (h:=xY (out:=s.out) hI.ou ?_))|(show aA _ 99 _ _ _;refine CA (h:=FL (s:=s.sh) (t:=t) hI.sh.1 (fun Aq cq=>?_));rw[hsm]))
    all_goals(refine aC ?_;exact aB (hK))
 ·simp only[ho,if_true,true_or] at hK
  refine aH Tryz.func56 ?_
  repeat' (first|refine v46 ?_|refine dw nG ?_|refine w5 ?_ ?_|((refine bh fun h=>?_) <;> try exact w6 h)|(refine aE fun hA=>?_;subst hA)|intro _|(show aA _ 104 _ _ _;refine CA (h:=cG (x:=x) (a:=a) (s:=s) (M:=M) (mc:=mc) ?_);rw[ho,if_pos rfl]))
  all_goals(refine aC ?_;exact aB (hK))
theorem VP (h:bO B s) (hn:s.nx<=2147483647):QY s.sd s.nx=true:=by
 have h1:=h.nx
 have h2:=h.sd
 unfold QY
 simp only[Bool.and_eq_true,decide_eq_true_eq,beq_iff_eq,decide_eq_decide]
 refine⟨by omega,h1.2.2⟩
theorem Fx (h:bO B s) (hn:s.nx<=2147483647):bX s.nx s.l=none:=by
 cases hm:bX s.nx s.l with
 |none=>rfl
 |some m=>
  obtain⟨hi,hid⟩:=aS hm
  have h4:=h.ids m (List.mem_of_getElem? hi)
  rw[hid] at h4
  unfold gI at h4
  rw[VP h hn] at h4
  simp only[Bool.and_eq_true,decide_eq_true_eq,if_true] at h4
  omega
theorem Nm (h:bO B s) (ho:fQ s true<32):s.l.length<64:=by
 have h2:=h.own false
 have h3:=He s.l
 unfold fQ at *
 omega
theorem Jc (h:bO B s) (hn:s.nx<=2147483647):bO B { s with nx:=s.nx+2 }:=
 { h with
   nx:=by
    have:=h.nx
    show 1<=s.nx+2/\s.nx+2<=2147483649/\((s.nx+2) % 2=1↔s.sd=0)
    omega
   ids:=fun z hz=>by
    have h1:=h.ids z hz
    show gI s.sd (s.nx+2) s.la z.id=true
    unfold gI at h1 ⊢
    simp only[Bool.and_eq_true,decide_eq_true_eq] at h1 ⊢
    refine⟨h1.1,?_⟩
    have h3:=h1.2
    split at h3
    ·rename_i hq;rw[if_pos hq];simp only[decide_eq_true_eq] at h3 ⊢;omega
    ·rename_i hq;rw[if_neg hq];exact h3 }
theorem DK (h:jP kind sg on w xx s=0):s.dr.ov=false/\(kind=1\/kind=2)/\(0<=sg/\sg<=2)/\KL s.dr=true/\s.nx<=2147483647/\(fQ s true:Nat)<min s.pe.st 32/\lZ (lV s.nx kind on w xx)=true/\on≠s.nx/\s.out.length<64:=by
 unfold jP at h
 repeat' split at h
 all_goals first|(exfalso;revert h;decide)|skip
 rename_i h1 h2 h3 h4 h5 h6 h7 h8
 refine⟨by cases hq:s.dr.ov <;> first|rfl|exact absurd hq h1,by omega,by omega,by cases hq:KL s.dr <;> first|rfl|exact absurd hq h4,by omega,by omega,by cases hq:lZ (lV s.nx kind on w xx) <;> first|rfl|exact absurd hq h6,h7,by omega⟩
def CH:List (Nat×Nat):= [(0,0),(1,0),(2,0),(3,0),(4,1),(5,1),(6,1),(7,1),(8,1),(9,1),(10,1),(11,0),(12,0),(13,0)]
def CF:List (Nat×Nat):= [(0,0),(1,0),(2,0),(3,0),(4,0),(5,1)]
theorem US (hI:bO B s) (hE:jP kind sg on w xx s=0) (hK:K (.tuple #[I6 (s.nx+2 - 2),I6 0]) (cA x a (lF kind sg on w xx s) none 0 R)):CT 52 #[PO x,I6 kind,I6 sg,.agg #[I6 on,I6 w,.bool xx]] (cA x a s M mc R) K:=by
 obtain⟨e1,e2,e3,e4,e5,e6,e7,e8,e9⟩:=DK hE
 have hnx:=hI.nx
 unfold lF at hK
 rw[if_neg (fun q=>q hE)] at hK
 have hown:fQ (aD s) true=fQ s true:=rfl
 have hI1:=Jc (s8 (f:=lV s.nx kind on w xx) (bH hI)) e5
 have hpe:(aD s).pe.st=s.pe.st:=rfl
 have q1:=Fx hI e5
 have q2:=Nm hI (by omega)
 have hnn:s.nx+2 - 2=s.nx:=by omega
 rw[hnn] at hK
 refine aH Tryz.func52 ?_
 repeat' (first|refine HG ?_|refine dw CH ?_|refine dw CF ?_|refine w5 ?_ ?_|((refine bh fun h=>?_) <;> try exact w6 h)|(refine aE fun hA=>?_;subst hA)|intro _|(show aA _ 104 _ _ _;refine CA (h:=cG (x:=x) (a:=a) (s:=s) (M:=M) (mc:=mc) ?_);rw[e1,if_neg Bool.false_ne_true])|(show aA _ 135 _ _ _;refine CA (h:=m6 (sd:=s.sd) (nx:=s.nx) (la:=s.la) ?_))|(show aA _ 136 _ _ _;refine CA (h:=B7 (d:=s.dr) ?_);rw[e4])|(show aA _ 61 _ _ _;refine CA (h:=tB (x:=x) (a:=a) (s:=aD s) (M:=none) (mc:=0) (bH hI) ?_);rw[hown])|(show aA _ 137 _ _ _;refine CA (h:=jB (ps:= []) (show wM 2 s.nx false ⟨#[]⟩ kind on w xx 0 0 0 []=true from e7) eM rfl (show(0:Nat)<1000000000000000 by decide) ?_))|(show aA _ 138 _ _ _;refine CA (h:=xY (out:=s.out) hI.ou ?_))|(show aA _ 139 _ _ _;refine CA (h:=XL (sd:=s.sd) (nx:=s.nx) (la:=s.la) e5 (by omega) ?_))|(show aA _ 100 _ _ _;refine CA (h:=k9 (out:=s.out) (f:=lV s.nx kind on w xx) hI.ou eM rfl (show(0:Nat)<1000000000000000 by decide) ?_))|(show aA _ 140 _ _ _;refine CA (h:=P8 (x:=x) (a:=a) (s:= { aD s with nx:=s.nx+2,out:=wL (lV s.nx kind on w xx) s.out }) (M:=none) (mc:=0) (id:=s.nx) hI1 e2 e3 q1 q2 ⟨by omega,e5⟩ ?_)))
 all_goals(refine aC ?_;exact aB (hK))
end Go.Proofs.YtepnmcipkangkaaGreat
