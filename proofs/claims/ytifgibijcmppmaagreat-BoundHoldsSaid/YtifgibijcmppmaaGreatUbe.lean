/- A part of the proof: lemmas; each with the conditions that it states. -/
import Derived.Test.YtifgibijcmppmaaGreatUbd
set_option linter.unusedVariables false
set_option linter.unusedSimpArgs false
set_option maxRecDepth 100000
set_option maxHeartbeats 40000000
namespace Go.Proofs.YtifgibijcmppmaaGreat
open Go Go.Proofs Go.Sl
attribute [local irreducible] aN fN cX bP aM aX aA dS dV aT dU pt ro eV star sep bH
attribute [local irreducible] mp ED
section
variable {R C:List HP} {K:KP} {x mc i b p r t:Nat} {a:Ca} {s:Cn} {M:Option Addr} {B B' id code k la c st w o on sg kind:Int} {gone own xx:Bool} {m m':Sm} {f:Fm} {y:Ys} {l:List Sm} {cf:Cf} {h3:eJ} {z:Yp}
def AJ:List (Nat×Nat):= [(5,0),(6,1),(1,1),(2,1),(3,1),(4,1),(7,1),(0,2),(8,0),(9,0),(10,1)]
theorem kD {T:HP} {k id n:Int} {z:ByteArray} {b:Bool} (hb:s.mv.length≤1000000000) (hK:∀M mc,K (.tuple #[]) (nW x a (tF ⟨k,id,n,z,b⟩ s) M mc T R)):CT 197 #[PO x,.agg #[I6 k,I6 id,I6 n,.string z,.bool b]] (nW x a s M mc T R) K:=by
 dsimp only[nW,tF] at hK ⊢
 refine aH Tryz.func197 ?_
 repeat' (first|(show aN _ _ _ _ _ _ _;(refine cU (E:=mvC) (ys:= [⟨k,id,n,z,b⟩]) ?_;intro _ _))|refine v54 ?_|refine dw AJ ?_|refine w5 ?_ ?_|((refine bh fun h=>?_) <;> try exact w6 h)|(refine aE fun hA=>?_;subst hA)|intro _)
 all_goals(refine aC ?_;exact aB (hK _ _))
theorem All (h:lB z k≠0):lB z k=9:=by
 unfold lB at *
 split at h
 ·rename_i hq;rw[if_pos hq]
 ·exact absurd rfl h
theorem Acv (h:lB z k≠0):f7 z k=z:=by unfold f7;rw[if_neg h]
theorem A7 (h:bU B s) (hk:0≤k∧k≤300) (hb:B+300≤250000000):bU (B+300) { s with rv:=f7 s.rv k }:=
 { h.mono (B':=B+300) (by omega) hb with rv:=Af4 h.rv (by omega) }
theorem eE (h:m'.id=id):zV m' s= { s with l:=s.l.set (b7 id s.l) m' }:=by subst h;rfl
theorem xF {d:ByteArray} {e:Bool} {mv:Mv} (h:bU B s) (hm:bY id s.l=some m) (hk:0≤k∧k≤300) (hb:B+300≤250000000) (hd:d.size≤256):bU (B+300) { tF mv { s with rv:=f7 s.rv k } with l:=s.l.set (b7 id s.l) (fM m d e) }:=by
 obtain⟨hi,hmid⟩:=bA hm
 refine lI (s:=tF mv { s with rv:=f7 s.rv k }) (m:=m) ?_ hi rfl rfl (Zz (h.st m (List.mem_of_getElem? hi)) hd (Int.le_refl _))
 exact { A7 h hk hb with
  mv:=by
   have:=h.mv
   show((s.mv++ [mv]).length:Int)+s.l.length≤B+300
   rw[List.length_append,List.length_singleton];omega }
theorem DN (h:bU B s) (hm:bY m.id s.l=some m):bU B (k7 m s):=by
 unfold k7
 split
 ·exact Ay h hm
 ·exact h
theorem Aco (h:bU B s) (hB:B+300≤250000000) (hd:f.d.size≤256):bU (B+300) (uB f s):=by
 have hk:0≤(if f.t=0 then((f.d.size:Nat):Int) else 0)∧(if f.t=0 then((f.d.size:Nat):Int) else 0)≤300:=by split <;> omega
 unfold uB
 generalize (if f.t=0 then((f.d.size:Nat):Int) else 0)=kk at hk ⊢
 split
 ·exact iU (h.mono (by omega) hB)
 ·cases hm:bY f.st s.l with
  |none=>exact pI (A7 h hk hB)
  |some m=>
   dsimp only
   split
   ·exact qP (pI (A7 h hk hB))
   ·have hmid:=(bA hm).2
    rw[eE (id:=f.st) (show(fM m f.d f.e).id=f.st from hmid)]
    exact DN (xF h hm hk hB hd) (lN hm rfl)
def cW:List (Nat×Nat):= [(0,0),(1,0),(2,0),(3,0),(4,0),(5,0),(6,1),(7,0),(8,0),(9,0),(10,0),(11,0)]
theorem Tp {st:Int} {e:Bool} {d:ByteArray} {k on w:Int} {xx:Bool} {c la n:Int} {pa:Option Addr} {pn pc:Nat} {ps:List Pr} (hI:bU B s) (hB:B+300≤250000000) (hst:1≤st∧st≤2147483647) (hd:d.size≤256) (hK:∀M mc,K (.tuple #[]) (b5 x a (uB ⟨0,st,e,d,k,on,w,xx,c,la,n,pa,pn,pc,ps⟩ s) M mc R)):CT 170 #[PO x,.agg #[I6 0,I6 st,.bool e,.string d,I6 k,I6 on,I6 w,.bool xx,I6 c,I6 la,I6 n,.slice pa pn pc]] (b5 x a s M mc R) K:=by
 have hN:(if(0:Int)=0 then((d.size:Nat):Int) else 0)=((d.size:Nat):Int):=if_pos rfl
 have hI3:=hI.mono (B':=B+300) (by omega) hB
 have hN3:0≤(((d.size:Nat):Int):Int)∧(((d.size:Nat):Int):Int)≤300:=by omega
 have hrv:=hI.rv
 have hI1:=A7 (k:=((d.size:Nat):Int)) hI hN3 hB
 have hrv1:=hI1.rv
 have hmv:=hI.mv
 have hbb:=hI.bb
 unfold Jn at hrv hrv1
 unfold uB at hK
 dsimp only at hK hrv1
 rw[hN] at hK
 dsimp only[b5,nW]
 by_cases hg:lB s.rv ((d.size:Nat):Int)=0
 ·rw[if_neg (fun hq=>hq hg)] at hK
  cases hm:bY st s.l with
  |none=>
   rw[hm] at hK
   refine aH Tryz.func170 ?_
   repeat' (first|refine GA ?_|refine dw cW ?_|refine w5 ?_ ?_|((refine bh fun h=>?_) <;> try exact w6 h)|(refine aE fun hA=>?_;subst hA)|intro _|(show aA _ 260 _ _ _;refine CA (h:=mV (z:=s.rv) (k:=((d.size:Nat):Int)) hI.rv (by omega) (by omega) ?_);rw[hg])|(show aA _ 192 _ _ _;refine CA (h:=mW (l:=s.l) hI.sm hm ?_))|(show aA _ 118 _ _ _;refine CA (h:=tV (y:=f7 s.rv ((d.size:Nat):Int)) (k:=((d.size:Nat):Int)) (by omega) (by omega) (fun _=>?_))))
   all_goals(refine aC ?_;exact aB (hK _ _))
  |some m=>
   rw[hm] at hK
   dsimp only at hK
   obtain⟨hi,hmid⟩:=bA hm
   have hIm:=hI.st m (List.mem_of_getElem? hi)
   have hgo:=hIm.got
   by_cases hw:gI m 0 d e=0
   ·rw[if_neg (fun hq=>hq hw),eE (id:=st) (show(fM m d e).id=st from hmid)] at hK
    rw[if_neg (fun hq:(0:Int)=1∧_=>absurd hq.1 (by decide))] at hK
    refine aH Tryz.func170 ?_
    repeat' (first|refine GA ?_|refine dw cW ?_|refine w5 ?_ ?_|((refine bh fun h=>?_) <;> try exact w6 h)|(refine aE fun hA=>?_;subst hA)|intro _|(show aA _ 260 _ _ _;refine CA (h:=mV (z:=s.rv) (k:=((d.size:Nat):Int)) hI.rv (by omega) (by omega) ?_);rw[hg])|(show aA _ 192 _ _ _;refine CA (h:=f5 (l:=s.l) hI.sm hm (fun bq=>?_)))|(show aA _ 261 _ _ _;refine CA (h:=BF (m:=m) hw (by omega) (by omega) ?_))|(show aA _ 197 _ _ _;refine CA (h:=kD (x:=x) (a:=a) (s:= { s with rv:=f7 s.rv ((d.size:Nat):Int) }) (M:=M) (mc:=mc) (T:=NN a.l s.l (b7 st s.l) bq) (R:=mS bq (fM m d e)::R) (k:=2) (id:=st) (n:=((d.size:Nat):Int)) (z:=d) (b:=e) (by show s.mv.length≤1000000000;omega) (fun _ _=>?_)))|(show aA _ 120 _ _ _;refine CA (h:=kX (x:=x) (a:=a) (s:=tF ⟨2,st,((d.size:Nat):Int),d,e⟩ { s with rv:=f7 s.rv ((d.size:Nat):Int) }) (i:=b7 st s.l) (m:=m) (R:=R) (m':=fM m d e) hi rfl (xF hI hm hN3 hB hd) (lN hm rfl) (fun _ _=>?_))))
    all_goals(refine aC ?_;exact aB (hK _ _))
   ·rw[if_pos hw] at hK
    refine aH Tryz.func170 ?_
    repeat' (first|refine GA ?_|refine dw cW ?_|refine w5 ?_ ?_|((refine bh fun h=>?_) <;> try exact w6 h)|(refine aE fun hA=>?_;subst hA)|intro _|(show aA _ 260 _ _ _;refine CA (h:=mV (z:=s.rv) (k:=((d.size:Nat):Int)) hI.rv (by omega) (by omega) ?_);rw[hg])|(show aA _ 192 _ _ _;refine CA (h:=f5 (l:=s.l) hI.sm hm (fun _=>?_)))|(show aA _ 261 _ _ _;refine CA (h:=GZ (m:=m) hw ?_))|(show aA _ 118 _ _ _;refine CA (h:=tV (y:=f7 s.rv ((d.size:Nat):Int)) (k:=((d.size:Nat):Int)) (by omega) (by omega) (fun _=>?_)))|(show aA _ 257 _ _ _;refine CA (h:=aA.ent (d8 (x:=x) (a:=a) (s:= { s with rv:=fY (f7 s.rv ((d.size:Nat):Int)) ((d.size:Nat):Int) }) (M:=M) (mc:=mc) (R:=R) hi) (jJ (pI hI1) J7 hst (fun _ _=>?_)))))
    all_goals(refine aC ?_;exact aB (hK _ _))
 ·rw[if_pos hg] at hK
  have he9:=All hg
  have hsm:=Acv hg
  refine aH Tryz.func170 ?_
  repeat' (first|refine GA ?_|refine dw cW ?_|refine w5 ?_ ?_|((refine bh fun h=>?_) <;> try exact w6 h)|(refine aE fun hA=>?_;subst hA)|intro _|(show aA _ 260 _ _ _;refine CA (h:=mV (z:=s.rv) (k:=((d.size:Nat):Int)) hI.rv (by omega) (by omega) ?_);rw[he9,hsm])|(show aA _ 79 _ _ _;refine CA (h:=dO (x:=x) (a:=a) (s:=s) hI (by decide) (by decide) (fun _ _=>?_))))
  all_goals(refine aC ?_;exact aB (hK _ _))
theorem Sx {st:Int} {e:Bool} {d:ByteArray} {k on w:Int} {xx:Bool} {c la n:Int} {pa:Option Addr} {pn pc:Nat} {ps:List Pr} (hI:bU B s) (hB:B+300≤250000000) (hst:1≤st∧st≤2147483647) (hd:d.size≤256) (hK:∀M mc,K (.tuple #[]) (b5 x a (uB ⟨1,st,e,d,k,on,w,xx,c,la,n,pa,pn,pc,ps⟩ s) M mc R)):CT 170 #[PO x,.agg #[I6 1,I6 st,.bool e,.string d,I6 k,I6 on,I6 w,.bool xx,I6 c,I6 la,I6 n,.slice pa pn pc]] (b5 x a s M mc R) K:=by
 have hN:(if(1:Int)=0 then((d.size:Nat):Int) else 0)=0:=if_neg (by decide)
 have hI3:=hI.mono (B':=B+300) (by omega) hB
 have hN3:0≤(0:Int)∧(0:Int)≤300:=by omega
 have hrv:=hI.rv
 have hI1:=A7 (k:=0) hI hN3 hB
 have hrv1:=hI1.rv
 have hmv:=hI.mv
 have hbb:=hI.bb
 unfold Jn at hrv hrv1
 unfold uB at hK
 dsimp only at hK hrv1
 rw[hN] at hK
 dsimp only[b5,nW]
 by_cases hg:lB s.rv 0=0
 ·rw[if_neg (fun hq=>hq hg)] at hK
  cases hm:bY st s.l with
  |none=>
   rw[hm] at hK
   refine aH Tryz.func170 ?_
   repeat' (first|refine GA ?_|refine dw cW ?_|refine w5 ?_ ?_|((refine bh fun h=>?_) <;> try exact w6 h)|(refine aE fun hA=>?_;subst hA)|intro _|(show aA _ 260 _ _ _;refine CA (h:=mV (z:=s.rv) (k:=0) hI.rv (by omega) (by omega) ?_);rw[hg])|(show aA _ 192 _ _ _;refine CA (h:=mW (l:=s.l) hI.sm hm ?_))|(show aA _ 118 _ _ _;refine CA (h:=tV (y:=f7 s.rv 0) (k:=0) (by omega) (by omega) (fun _=>?_))))
   all_goals(refine aC ?_;exact aB (hK _ _))
  |some m=>
   rw[hm] at hK
   dsimp only at hK
   obtain⟨hi,hmid⟩:=bA hm
   have hIm:=hI.st m (List.mem_of_getElem? hi)
   have hgo:=hIm.got
   by_cases hw:gI m 1 d e=0
   ·rw[if_neg (fun hq=>hq hw),eE (id:=st) (show(fM m d e).id=st from hmid)] at hK
    by_cases h0:d=⟨#[]⟩
    ·subst h0
     cases e
     ·rw[if_pos ⟨rfl,.inr rfl⟩] at hK
      refine aH Tryz.func170 ?_
      repeat' (first|refine GA ?_|refine dw cW ?_|refine w5 ?_ ?_|((refine bh fun h=>?_) <;> try exact w6 h)|(refine aE fun hA=>?_;subst hA)|intro _|(show aA _ 260 _ _ _;refine CA (h:=mV (z:=s.rv) (k:=0) hI.rv (by omega) (by omega) ?_);rw[hg])|(show aA _ 192 _ _ _;refine CA (h:=f5 (l:=s.l) hI.sm hm (fun bq=>?_)))|(show aA _ 261 _ _ _;refine CA (h:=BF (m:=m) hw (by omega) (by omega) ?_))|(show aA _ 197 _ _ _;refine CA (h:=kD (x:=x) (a:=a) (s:= { s with rv:=f7 s.rv 0 }) (M:=M) (mc:=mc) (T:=NN a.l s.l (b7 st s.l) bq) (R:=mS bq (fM m ⟨#[]⟩ false)::R) (k:=2) (id:=st) (n:=1) (z:=⟨#[]⟩) (b:=false) (by show s.mv.length≤1000000000;omega) (fun _ _=>?_)))|(show aA _ 120 _ _ _;refine CA (h:=kX (x:=x) (a:=a) (s:=tF ⟨2,st,1,⟨#[]⟩,false⟩ { s with rv:=f7 s.rv 0 }) (i:=b7 st s.l) (m:=m) (R:=R) (m':=fM m ⟨#[]⟩ false) hi rfl (xF hI hm hN3 hB hd) (lN hm rfl) (fun _ _=>?_))))
      all_goals(refine aC ?_;exact aB (hK _ _))
     ·rw[if_neg (fun hq=>hq.2.elim (fun h=>h rfl) (fun h=>by cases h))] at hK
      refine aH Tryz.func170 ?_
      repeat' (first|refine GA ?_|refine dw cW ?_|refine w5 ?_ ?_|((refine bh fun h=>?_) <;> try exact w6 h)|(refine aE fun hA=>?_;subst hA)|intro _|(show aA _ 260 _ _ _;refine CA (h:=mV (z:=s.rv) (k:=0) hI.rv (by omega) (by omega) ?_);rw[hg])|(show aA _ 192 _ _ _;refine CA (h:=f5 (l:=s.l) hI.sm hm (fun bq=>?_)))|(show aA _ 261 _ _ _;refine CA (h:=BF (m:=m) hw (by omega) (by omega) ?_))|(show aA _ 197 _ _ _;refine CA (h:=kD (x:=x) (a:=a) (s:= { s with rv:=f7 s.rv 0 }) (M:=M) (mc:=mc) (T:=NN a.l s.l (b7 st s.l) bq) (R:=mS bq (fM m ⟨#[]⟩ true)::R) (k:=2) (id:=st) (n:=0) (z:=⟨#[]⟩) (b:=true) (by show s.mv.length≤1000000000;omega) (fun _ _=>?_)))|(show aA _ 120 _ _ _;refine CA (h:=kX (x:=x) (a:=a) (s:=tF ⟨2,st,0,⟨#[]⟩,true⟩ { s with rv:=f7 s.rv 0 }) (i:=b7 st s.l) (m:=m) (R:=R) (m':=fM m ⟨#[]⟩ true) hi rfl (xF hI hm hN3 hB hd) (lN hm rfl) (fun _ _=>?_))))
      all_goals(refine aC ?_;exact aB (hK _ _))
    ·rw[if_pos ⟨rfl,.inl h0⟩] at hK
     have hbq:=TO h0
     refine aH Tryz.func170 ?_
     repeat' (first|(show Br _ _ _;refine Br.t hbq ?_)|(show cX _ _ _;rw[hbq])|refine GA ?_|refine dw cW ?_|refine w5 ?_ ?_|((refine bh fun h=>?_) <;> try exact w6 h)|(refine aE fun hA=>?_;subst hA)|intro _|(show aA _ 260 _ _ _;refine CA (h:=mV (z:=s.rv) (k:=0) hI.rv (by omega) (by omega) ?_);rw[hg])|(show aA _ 192 _ _ _;refine CA (h:=f5 (l:=s.l) hI.sm hm (fun bq=>?_)))|(show aA _ 261 _ _ _;refine CA (h:=BF (m:=m) hw (by omega) (by omega) ?_))|(show aA _ 197 _ _ _;refine CA (h:=kD (x:=x) (a:=a) (s:= { s with rv:=f7 s.rv 0 }) (M:=M) (mc:=mc) (T:=NN a.l s.l (b7 st s.l) bq) (R:=mS bq (fM m d e)::R) (k:=2) (id:=st) (n:=1) (z:=d) (b:=e) (by show s.mv.length≤1000000000;omega) (fun _ _=>?_)))|(show aA _ 120 _ _ _;refine CA (h:=kX (x:=x) (a:=a) (s:=tF ⟨2,st,1,d,e⟩ { s with rv:=f7 s.rv 0 }) (i:=b7 st s.l) (m:=m) (R:=R) (m':=fM m d e) hi rfl (xF hI hm hN3 hB hd) (lN hm rfl) (fun _ _=>?_))))
     all_goals(refine aC ?_;exact aB (hK _ _))
   ·rw[if_pos hw] at hK
    refine aH Tryz.func170 ?_
    repeat' (first|refine GA ?_|refine dw cW ?_|refine w5 ?_ ?_|((refine bh fun h=>?_) <;> try exact w6 h)|(refine aE fun hA=>?_;subst hA)|intro _|(show aA _ 260 _ _ _;refine CA (h:=mV (z:=s.rv) (k:=0) hI.rv (by omega) (by omega) ?_);rw[hg])|(show aA _ 192 _ _ _;refine CA (h:=f5 (l:=s.l) hI.sm hm (fun _=>?_)))|(show aA _ 261 _ _ _;refine CA (h:=GZ (m:=m) hw ?_))|(show aA _ 118 _ _ _;refine CA (h:=tV (y:=f7 s.rv 0) (k:=0) (by omega) (by omega) (fun _=>?_)))|(show aA _ 257 _ _ _;refine CA (h:=aA.ent (d8 (x:=x) (a:=a) (s:= { s with rv:=fY (f7 s.rv 0) 0 }) (M:=M) (mc:=mc) (R:=R) hi) (jJ (pI hI1) J7 hst (fun _ _=>?_)))))
    all_goals(refine aC ?_;exact aB (hK _ _))
 ·rw[if_pos hg] at hK
  have he9:=All hg
  have hsm:=Acv hg
  refine aH Tryz.func170 ?_
  repeat' (first|refine GA ?_|refine dw cW ?_|refine w5 ?_ ?_|((refine bh fun h=>?_) <;> try exact w6 h)|(refine aE fun hA=>?_;subst hA)|intro _|(show aA _ 260 _ _ _;refine CA (h:=mV (z:=s.rv) (k:=0) hI.rv (by omega) (by omega) ?_);rw[he9,hsm])|(show aA _ 79 _ _ _;refine CA (h:=dO (x:=x) (a:=a) (s:=s) hI (by decide) (by decide) (fun _ _=>?_))))
  all_goals(refine aC ?_;exact aB (hK _ _))
end
section
variable {R C:List HP} {K:KP} {x mc i b p r t:Nat} {a:Ca} {s:Cn} {M:Option Addr} {B B' id code:Int} {own xx:Bool} {m m':Sm} {f:Fm} {y:Ys} {l:List Sm} {cf:Cf} {h3:eJ} {z:Yp}
theorem Gy:∀l:List Sm,l.length=(l.filter fun m=>m.own == true).length+(l.filter fun m=>m.own == false).length
 | []=>rfl
 |m::l=>by
  have:=Gy l
  rw[List.filter_cons,List.filter_cons,List.length_cons]
  cases m.own <;> simp only[beq_self_eq_true,if_true,List.length_cons,(by decide:(false == true)=false),(by decide:(true == false)=false),Bool.false_eq_true,if_false] <;> omega
theorem qH {id:Int} (hs:s.sd=0∨s.sd=1) (hp:pV s.sd s.la id=0):(1≤id∧id≤2147483647)∧s.la<id∧YA s.sd id=false:=by
 unfold pV at hp
 split at hp
 ·rename_i hq
  obtain⟨h1,h2⟩:=hq
  unfold YA at h1 ⊢
  simp only[Bool.and_eq_true,decide_eq_true_eq,beq_iff_eq,decide_eq_decide] at h1
  refine⟨h1.1,h2,?_⟩
  have h3:=h1.2
  rw[Bool.and_eq_false_iff]
  right
  rw[beq_eq_false_iff_ne]
  intro h4
  rw[decide_eq_decide] at h4
  omega
 ·cases hp
theorem IG {id:Int} (h:bU B s) (hp:pV s.sd s.la id=0):bU B { s with la:=id }:=
 { h with
   la:=by
    have:=(qH h.sd hp).1
    show zA id
    unfold zA;omega
   ids:=fun z hz=>by
    have h1:=h.ids z hz
    have h2:=(qH h.sd hp).2.1
    show oJ s.sd s.nx id z.id=true
    unfold oJ at h1 ⊢
    simp only[Bool.and_eq_true,decide_eq_true_eq] at h1 ⊢
    refine⟨h1.1,?_⟩
    have h3:=h1.2
    split at h3
    ·rename_i hq;rw[if_pos hq];exact h3
    ·rename_i hq;rw[if_neg hq];simp only[decide_eq_true_eq] at h3 ⊢;omega }
theorem Fi {id:Int} (h:bU B s) (hp:pV s.sd s.la id=0):bY id s.l=none:=by
 obtain⟨h1,h2,h3⟩:=qH h.sd hp
 cases hm:bY id s.l with
 |none=>rfl
 |some m=>
  obtain⟨hi,hid⟩:=bA hm
  have h4:=h.ids m (List.mem_of_getElem? hi)
  rw[hid] at h4
  unfold oJ at h4
  rw[h3] at h4
  simp only[Bool.and_eq_true,decide_eq_true_eq,Bool.false_eq_true,if_false] at h4
  omega
theorem X6 {id:Int} (hs:s.sd=0∨s.sd=1) (hp:pV s.sd s.la id=0):oJ s.sd s.nx id id=true:=by
 obtain⟨h1,h2,h3⟩:=qH hs hp
 unfold oJ
 rw[h3]
 simp only[Bool.false_eq_true,if_false,Bool.and_eq_true,decide_eq_true_eq]
 omega
theorem Ago (h:bU B s):s.sh.h.st≤32:=by
 have:=h.sh.2.1
 unfold u3 rY at this
 simp only[decide_eq_true_eq] at this
 omega
theorem H8 (h:bU B s) (ho:¬s.sh.h.st≤(fO s false:Nat)):s.l.length<64∧fO s false<32:=by
 have h1:=Ago h
 have h2:=h.own true
 have h3:=Gy s.l
 unfold fO at *
 omega
theorem Aku {mv:Mv} (h:bU B s) (hb:(s.mv.length:Int)+s.l.length+1≤B):bU B (tF mv s):=
 { h with
   mv:=by
    show((s.mv++ [mv]).length:Int)+s.l.length≤B
    rw[List.length_append,List.length_singleton];omega }
theorem Sy (h:bU B s) (hB:B+300≤250000000):bU (B+300) (pT f s):=by
 have hm:=h.mono (B':=B+300) (by omega) hB
 have hmv:=h.mv
 unfold pT
 by_cases hp:pV s.sd s.la f.st=0
 ·rw[if_neg (fun q=>q hp)]
  have JE:=IG hm hp
  split
  ·exact iU JE
  ·split
   ·exact qP JE
   ·split
    ·exact qP JE
    ·rename_i ho
     obtain⟨h1,h2⟩:=H8 h ho
     have q1:=Fi h hp
     have q2:=(qH h.sd hp).1
     have q3:=X6 h.sd hp
     have hl:=(Ul (s:= { s with la:=f.st }) (kind:=f.k) (on:=f.on) (w:=f.w) (xx:=f.x) (sg:=s.cf.sg) (own:=false) JE q1 h1 q2 q3 h2 (by show(s.mv.length:Int)+s.l.length+1≤B+300;omega))
     refine Aku hl ?_
     have e:(kG (gU s.cf s.sh.h f.st f.k s.cf.sg false) s.l).length≤s.l.length+1:=by
      unfold kG
      rw[List.length_append,List.length_cons,List.length_take,List.length_drop]
      omega
     show(s.mv.length:Int)+((kG (gU s.cf s.sh.h f.st f.k s.cf.sg false) s.l).length:Int)+1≤B+300
     omega
 ·rw[if_pos hp];exact iU hm
def hJ:List (Nat×Nat):= [(0,0),(1,0),(2,0),(3,0),(4,0),(5,0),(6,1),(7,0),(8,0)]
def gZ:List (Nat×Nat):= [(0,0),(1,0),(2,0),(3,0),(4,0),(5,0),(6,1),(7,0),(8,0)]
def g9:List (Nat×Nat):= [(0,0),(1,1),(2,1),(3,1),(4,1),(5,1),(6,1),(7,0),(8,0),(9,0)]
def gT:List (Nat×Nat):= [(0,0),(1,0),(2,0),(3,0),(4,0),(5,0),(6,0),(7,0),(8,0),(9,0),(10,0),(11,0),(12,1)]
theorem PI {t st:Int} {e:Bool} {d:ByteArray} {k on w:Int} {xx:Bool} {c la n:Int} {pa:Option Addr} {pn pc:Nat} {ps:List Pr} (hI:bU B s) (hst:1≤st∧st≤2147483647) (hk:k=1∨k=2) (hb:B≤249000000) (hK:∀M mc,K (.tuple #[]) (b5 x a (pT ⟨t,st,e,d,k,on,w,xx,c,la,n,pa,pn,pc,ps⟩ s) M mc R)):CT 167 #[PO x,.agg #[I6 t,I6 st,.bool e,.string d,I6 k,I6 on,I6 w,.bool xx,I6 c,I6 la,I6 n,.slice pa pn pc]] (b5 x a s M mc R) K:=by
 have hmv:=hI.mv
 have hbb:=hI.bb
 unfold pT at hK
 dsimp only at hK
 dsimp only[b5,nW]
 by_cases hp:pV s.sd s.la st=0
 ·rw[if_neg (fun q=>q hp)] at hK
  have hI1:=IG hI hp
  by_cases h1:on=st
  ·rw[if_pos h1] at hK
   refine aH Tryz.func167 ?_
   repeat' (first|(show aN _ _ _ _ _ _ _;refine i9 ?_)|refine Bc ?_|refine dw hJ ?_|refine dw gZ ?_|refine dw g9 ?_|refine dw gT ?_|refine w5 ?_ ?_|((refine bh fun h=>?_) <;> try exact w6 h)|(refine aE fun hA=>?_;subst hA)|intro _|(show aA _ 255 _ _ _;refine CA (h:=uJ (sd:=s.sd) (la:=s.la) (nx:=s.nx) hI.sd ?_);rw[hp,if_pos rfl])|(show aA _ 79 _ _ _;refine CA (h:=dO (x:=x) (a:=a) (s:= { s with la:=st }) hI1 (by decide) (by decide) (fun _ _=>?_))))
   all_goals(refine aC ?_;exact aB (hK _ _))
  ·rw[if_neg h1] at hK
   cases h2:D3 s.dr st
   ·rw[h2,if_pos rfl] at hK
    refine aH Tryz.func167 ?_
    repeat' (first|(show aN _ _ _ _ _ _ _;refine i9 ?_)|refine Bc ?_|refine dw hJ ?_|refine dw gZ ?_|refine dw g9 ?_|refine dw gT ?_|refine w5 ?_ ?_|((refine bh fun h=>?_) <;> try exact w6 h)|(refine aE fun hA=>?_;subst hA)|intro _|(show aA _ 255 _ _ _;refine CA (h:=uJ (sd:=s.sd) (la:=s.la) (nx:=s.nx) hI.sd ?_);rw[hp,if_pos rfl])|(show aA _ 256 _ _ _;refine CA (h:=Fa (d:=s.dr) ?_);rw[h2])|(show aA _ 257 _ _ _;refine CA (h:=jJ (x:=x) (a:=a) (s:= { s with la:=st }) hI1 (by decide) hst (fun _ _=>?_))))
    all_goals(refine aC ?_;exact aB (hK _ _))
   ·rw[h2,if_neg (by decide)] at hK
    have hown:fO { s with la:=st } false=fO s false:=rfl
    by_cases h3:s.sh.h.st≤(fO s false:Nat)
    ·rw[if_pos h3] at hK
     refine aH Tryz.func167 ?_
     repeat' (first|(show aN _ _ _ _ _ _ _;refine i9 ?_)|refine Bc ?_|refine dw hJ ?_|refine dw gZ ?_|refine dw g9 ?_|refine dw gT ?_|refine w5 ?_ ?_|((refine bh fun h=>?_) <;> try exact w6 h)|(refine aE fun hA=>?_;subst hA)|intro _|(show aA _ 255 _ _ _;refine CA (h:=uJ (sd:=s.sd) (la:=s.la) (nx:=s.nx) hI.sd ?_);rw[hp,if_pos rfl])|(show aA _ 256 _ _ _;refine CA (h:=Fa (d:=s.dr) ?_);rw[h2])|(show aA _ 84 _ _ _;refine CA (h:=tW (x:=x) (a:=a) (s:= { s with la:=st }) (M:=M) (mc:=mc) hI1 ?_);rw[hown])|(show aA _ 214 _ _ _;refine CA (h:=xZ (s:=s.sh) ?_))|(show aA _ 257 _ _ _;refine CA (h:=jJ (x:=x) (a:=a) (s:= { s with la:=st }) hI1 (by decide) hst (fun _ _=>?_))))
     all_goals(refine aC ?_;exact aB (hK _ _))
    ·rw[if_neg h3] at hK
     obtain⟨hr1,hr2⟩:=H8 hI h3
     have q1:=Fi hI hp
     refine aH Tryz.func167 ?_
     repeat' (first|(show aN _ _ _ _ _ _ _;refine i9 ?_)|refine Bc ?_|refine dw hJ ?_|refine dw gZ ?_|refine dw g9 ?_|refine dw gT ?_|refine w5 ?_ ?_|((refine bh fun h=>?_) <;> try exact w6 h)|(refine aE fun hA=>?_;subst hA)|intro _|(show aA _ 255 _ _ _;refine CA (h:=uJ (sd:=s.sd) (la:=s.la) (nx:=s.nx) hI.sd ?_);rw[hp,if_pos rfl])|(show aA _ 256 _ _ _;refine CA (h:=Fa (d:=s.dr) ?_);rw[h2])|(show aA _ 84 _ _ _;refine CA (h:=tW (x:=x) (a:=a) (s:= { s with la:=st }) (M:=M) (mc:=mc) hI1 ?_);rw[hown])|(show aA _ 214 _ _ _;refine CA (h:=xZ (s:=s.sh) ?_))|(show aA _ 115 _ _ _;refine CA (h:=PW (x:=x) (a:=a) (s:= { s with la:=st }) (M:=M) (mc:=mc) hI1 hk hI.cf.2.2 q1 hr1 hst ?_))|(show aA _ 197 _ _ _;refine CA (h:=Ii (x:=x) (a:=a) (s:=HG st k on w xx false s.cf.sg { s with la:=st }) (M:=M) (mc:=mc) (R:=R) (by show s.mv.length≤1000000000;omega) (fun _ _=>?_))))
     all_goals(refine aC ?_;exact aB (hK _ _))
 ·rw[if_pos hp] at hK
  have JE:pV s.sd s.la st=1:=by unfold pV at hp ⊢;split <;> first|rfl|(rename_i hq;rw[if_pos hq] at hp;exact absurd rfl hp)
  refine aH Tryz.func167 ?_
  repeat' (first|(show aN _ _ _ _ _ _ _;refine i9 ?_)|refine Bc ?_|refine dw hJ ?_|refine dw gZ ?_|refine dw g9 ?_|refine dw gT ?_|refine w5 ?_ ?_|((refine bh fun h=>?_) <;> try exact w6 h)|(refine aE fun hA=>?_;subst hA)|intro _|(show aA _ 255 _ _ _;refine CA (h:=uJ (sd:=s.sd) (la:=s.la) (nx:=s.nx) hI.sd ?_);rw[JE,if_neg (by decide)])|(show aA _ 79 _ _ _;refine CA (h:=dO (x:=x) (a:=a) (s:=s) hI (by decide) (by decide) (fun _ _=>?_))))
  all_goals(refine aC ?_;exact aB (hK _ _))
end
section
variable {R C:List HP} {K:KP} {x mc i b p r:Nat} {a:Ca} {s:Cn} {M:Option Addr} {B B' id code:Int} {own:Bool} {m m':Sm} {f:Fm} {y:Ys} {l:List Sm} {cf:Cf} {h3:eJ} {z:Yp}
theorem F7 {n b:Int} (h:qW n b≠0):lX n b=n:=by
 unfold qW at h
 unfold lX
 split at h
 ·rename_i hq
  rw[if_pos hq]
  unfold CO at h
  unfold Eo
  split at h
  ·exact absurd rfl h
  ·rename_i hf;rw[if_neg hf]
 ·rename_i hq;rw[if_neg hq]
theorem F1 {t b:Int} {s:Ld} (h:s9 t b s≠0):o4 t b s=s:=by
 unfold s9 at h
 unfold o4
 split at h
 ·rename_i ht
  rw[if_pos ht,F7 h]
 ·rename_i ht
  rw[if_neg ht]
  cases he:o7 t s.l with
  |none=>rfl
  |some e=>
   rw[he] at h
   dsimp only at h ⊢
   rw[F7 h]
   have:=(rZ he).1
   rw[j9 _ this]
theorem Cp (h:bU B s) {q:Ld} (hq:Gn B q):bU B { s with ld:=q,sl:=iS s.sl s.now }:=
 { h with
   ld:=hq
   sl:=by
    have h1:=h.sl
    have h2:=h.now
    show(0≤(iS s.sl s.now).nw∧(iS s.sl s.now).nw≤B)∧0≤(iS s.sl s.now).si∧(iS s.sl s.now).si≤B
    unfold iS
    split
    ·exact h1
    ·dsimp only
     split <;> omega }
theorem X9 (h:bU B s):bU B (tH f s):=by
 unfold tH
 split
 ·exact iU h
 ·split
  ·exact iU h
  ·exact Cp h (Qy h.ld)
def mM:List (Nat×Nat):= [(0,0),(1,0),(2,0),(3,0),(4,0),(5,0),(6,1),(7,0),(8,0)]
def mN:List (Nat×Nat):= [(0,0),(1,0),(2,0),(3,0),(4,0),(5,0),(6,0),(7,0),(8,1)]
theorem II {t st:Int} {e:Bool} {d:ByteArray} {k on w:Int} {xx:Bool} {c la n:Int} {pa:Option Addr} {pn pc:Nat} {ps:List Pr} (hI:bU B s) (hK:∀M mc,K (.tuple #[]) (b5 x a (tH ⟨t,st,e,d,k,on,w,xx,c,la,n,pa,pn,pc,ps⟩ s) M mc R)):CT 168 #[PO x,.agg #[I6 t,I6 st,.bool e,.string d,I6 k,I6 on,I6 w,.bool xx,I6 c,I6 la,I6 n,.slice pa pn pc]] (b5 x a s M mc R) K:=by
 have hbb:=hI.bb
 unfold tH at hK
 dsimp only at hK
 dsimp only[b5,nW]
 by_cases h0:n=0
 ·rw[if_pos h0] at hK
  refine aH Tryz.func168 ?_
  repeat' (first|refine v46 ?_|refine dw mM ?_|refine dw mN ?_|refine w5 ?_ ?_|((refine bh fun h=>?_) <;> try exact w6 h)|(refine aE fun hA=>?_;subst hA)|intro _|(show aA _ 79 _ _ _;refine CA (h:=dO (x:=x) (a:=a) (s:=s) hI (by decide) (by decide) (fun _ _=>?_))))
  all_goals(refine aC ?_;exact aB (hK _ _))
 ·rw[if_neg h0] at hK
  by_cases hg:s9 0 n s.ld=0
  ·rw[if_neg (fun q=>q hg)] at hK
   refine aH Tryz.func168 ?_
   repeat' (first|refine v46 ?_|refine dw mM ?_|refine dw mN ?_|refine w5 ?_ ?_|((refine bh fun h=>?_) <;> try exact w6 h)|(refine aE fun hA=>?_;subst hA)|intro _|(show aA _ 258 _ _ _;refine CA (h:=Bg (s:=s.ld) (hI.ld.ok (by omega)) ?_);rw[hg])|(show aA _ 259 _ _ _;refine CA (h:=zJ (s:=s.sl) ?_)))
   all_goals(refine aC ?_;exact aB (hK _ _))
  ·rw[if_pos hg] at hK
   have hs:=F1 hg
   refine aH Tryz.func168 ?_
   repeat' (first|(show Br _ _ _;refine Br.t (by first|(simp <;> done)|simpa using hg) ?_)|refine v46 ?_|refine dw mM ?_|refine dw mN ?_|refine w5 ?_ ?_|((refine bh fun h=>?_) <;> try exact w6 h)|(refine aE fun hA=>?_;subst hA)|intro _|(show aA _ 258 _ _ _;refine CA (h:=Bg (s:=s.ld) (hI.ld.ok (by omega)) ?_);rw[hs])|(show aA _ 79 _ _ _;refine CA (h:=dO (x:=x) (a:=a) (s:=s) hI (by decide) (by decide) (fun _ _=>?_))))
   all_goals(refine aC ?_;exact aB (hK _ _))
theorem GM {q:Xs} {n:Int}:bB (pR q n)=bB q:=by
 cases q with
 |b z=>rfl
 |i z=>rfl
theorem Ac4 {n:Int} (h:E6 B m):E6 B { m with x:=pR m.x n }:=by
 obtain⟨h1,h2,h3,h4⟩:=h
 refine⟨h1,?_,h3,h4⟩
 cases hx:m.x with
 |b z=>rw[hx] at h2;exact h2
 |i z=>
  rw[hx] at h2
  by_cases hn:1≤n
  ·simp only[pR,if_pos hn];exact h2
  ·simp only[pR,if_neg hn];exact h2
theorem O1 (h:bU B s) (hm:bY f.st s.l=some m):bU B (l8 f m s):=by
 obtain⟨hi,hmid⟩:=bA hm
 unfold l8
 split
 ·exact qP h
 ·split
  ·exact qP h
  ·split
   ·split
    ·exact qP h
    ·exact Cp h (Qy h.ld)
   ·split
    ·exact qP h
    ·rw[eE (id:=f.st) (show({ m with x:=pR m.x f.n }:Sm).id=f.st from hmid)]
     exact lI (s:= { s with sl:=iS s.sl s.now }) (Cp h h.ld) hi rfl rfl (Ac4 (h.st m (List.mem_of_getElem? hi)))
def cY:List (Nat×Nat):= [(0,0),(1,0),(2,0),(3,0),(4,0),(5,0),(6,0),(7,0),(8,1),(9,0)]
def dC:List (Nat×Nat):= [(0,0),(1,1),(2,1),(3,1),(4,1),(5,0)]
def dA:List (Nat×Nat):= [(0,0),(1,0),(2,0),(3,0),(4,0),(5,0),(6,0),(7,0),(8,1)]
theorem Es {t st:Int} {e:Bool} {d:ByteArray} {k on w:Int} {xx:Bool} {c la n:Int} {pa:Option Addr} {pn pc:Nat} {ps:List Pr} (hI:bU B s) (ht:t=10∨t=11) (hst:1≤st∧st≤2147483647) (hm:bY st s.l=some m) (hK:∀M mc,K (.tuple #[]) (b5 x a (l8 ⟨t,st,e,d,k,on,w,xx,c,la,n,pa,pn,pc,ps⟩ m s) M mc R)):CT 263 #[PO x,.agg #[I6 t,I6 st,.bool e,.string d,I6 k,I6 on,I6 w,.bool xx,I6 c,I6 la,I6 n,.slice pa pn pc],PO b] (mS b m::OY x a s M mc (b7 st s.l) b R) K:=by
 have hbb:=hI.bb
 obtain⟨hi,hmid⟩:=bA hm
 unfold l8 at hK
 dsimp only at hK
 refine U0 fun hok=>?_
 dsimp only[OY,nW]
 have hk2:bB m.x=1∨bB m.x=2:=by cases m.x <;> simp[bB]
 rcases hk2 with h1|h1 <;> rcases ht with rfl|rfl
 ·rw[if_neg (by rw[h1];simp)] at hK
  by_cases h0:n=0
  ·rw[if_pos h0] at hK
   refine aH Tryz.func263 ?_
   repeat' (first|refine v46 ?_|refine dw cY ?_|refine dw dC ?_|refine dw dA ?_|refine w5 ?_ ?_|((refine bh fun h=>?_) <;> try exact w6 h)|(refine aE fun hA=>?_;subst hA)|intro _|(show aA _ 107 _ _ _;refine CA (h:=gM (m:=m) ?_);rw[h1])|(show aA _ 257 _ _ _;refine CA (h:=aA.ent (d8 (x:=x) (a:=a) (s:=s) (M:=M) (mc:=mc) (R:=R) hi) (jJ hI (by decide) hst (fun _ _=>?_)))))
   all_goals(refine aC ?_;exact aB (hK _ _))
  ·rw[if_neg h0,if_pos h1] at hK
   by_cases hg:s9 st n s.ld=0
   ·rw[if_neg (fun q=>q hg)] at hK
    refine aH Tryz.func263 ?_
    repeat' (first|refine v46 ?_|refine dw cY ?_|refine dw dC ?_|refine dw dA ?_|refine w5 ?_ ?_|((refine bh fun h=>?_) <;> try exact w6 h)|(refine aE fun hA=>?_;subst hA)|intro _|(show aA _ 107 _ _ _;refine CA (h:=gM (m:=m) ?_);rw[h1])|(show aA _ 258 _ _ _;refine CA (h:=Bg (s:=s.ld) (hI.ld.ok (by omega)) ?_);rw[hg])|(show aA _ 259 _ _ _;refine CA (h:=zJ (s:=s.sl) ?_)))
    all_goals(refine aC ?_;exact aK (aG.trans (by exact aZ) ((d8 (x:=x) (a:=a) (s:= { s with ld:=o4 st n s.ld,sl:=iS s.sl s.now }) (M:=M) (mc:=mc) (R:=R) (b:=b) hi))) (hK _ _))
   ·rw[if_pos hg] at hK
    have hs:=F1 hg
    refine aH Tryz.func263 ?_
    repeat' (first|(show Br _ _ _;refine Br.t (by first|(simp <;> done)|simpa using hg) ?_)|refine v46 ?_|refine dw cY ?_|refine dw dC ?_|refine dw dA ?_|refine w5 ?_ ?_|((refine bh fun h=>?_) <;> try exact w6 h)|(refine aE fun hA=>?_;subst hA)|intro _|(show aA _ 107 _ _ _;refine CA (h:=gM (m:=m) ?_);rw[h1])|(show aA _ 258 _ _ _;refine CA (h:=Bg (s:=s.ld) (hI.ld.ok (by omega)) ?_);rw[hs])|(show aA _ 257 _ _ _;refine CA (h:=aA.ent (d8 (x:=x) (a:=a) (s:=s) (M:=M) (mc:=mc) (R:=R) hi) (jJ hI (by decide) hst (fun _ _=>?_)))))
    all_goals(refine aC ?_;exact aB (hK _ _))
 ·rw[if_pos (by rw[h1];simp)] at hK
  refine aH Tryz.func263 ?_
  repeat' (first|refine v46 ?_|refine dw cY ?_|refine dw dC ?_|refine dw dA ?_|refine w5 ?_ ?_|((refine bh fun h=>?_) <;> try exact w6 h)|(refine aE fun hA=>?_;subst hA)|intro _|(show aA _ 107 _ _ _;refine CA (h:=gM (m:=m) ?_);rw[h1])|(show aA _ 257 _ _ _;refine CA (h:=aA.ent (d8 (x:=x) (a:=a) (s:=s) (M:=M) (mc:=mc) (R:=R) hi) (jJ hI (by decide) hst (fun _ _=>?_)))))
  all_goals(refine aC ?_;exact aB (hK _ _))
 ·rw[if_pos (by rw[h1];simp)] at hK
  refine aH Tryz.func263 ?_
  repeat' (first|refine v46 ?_|refine dw cY ?_|refine dw dC ?_|refine dw dA ?_|refine w5 ?_ ?_|((refine bh fun h=>?_) <;> try exact w6 h)|(refine aE fun hA=>?_;subst hA)|intro _|(show aA _ 107 _ _ _;refine CA (h:=gM (m:=m) ?_);rw[h1])|(show aA _ 257 _ _ _;refine CA (h:=aA.ent (d8 (x:=x) (a:=a) (s:=s) (M:=M) (mc:=mc) (R:=R) hi) (jJ hI (by decide) hst (fun _ _=>?_)))))
  all_goals(refine aC ?_;exact aB (hK _ _))
 ·rw[if_neg (by rw[h1];simp)] at hK
  by_cases h0:n=0
  ·rw[if_pos h0] at hK
   refine aH Tryz.func263 ?_
   repeat' (first|refine v46 ?_|refine dw cY ?_|refine dw dC ?_|refine dw dA ?_|refine w5 ?_ ?_|((refine bh fun h=>?_) <;> try exact w6 h)|(refine aE fun hA=>?_;subst hA)|intro _|(show aA _ 107 _ _ _;refine CA (h:=gM (m:=m) ?_);rw[h1])|(show aA _ 257 _ _ _;refine CA (h:=aA.ent (d8 (x:=x) (a:=a) (s:=s) (M:=M) (mc:=mc) (R:=R) hi) (jJ hI (by decide) hst (fun _ _=>?_)))))
   all_goals(refine aC ?_;exact aB (hK _ _))
  ·rw[if_neg h0,if_neg (by rw[h1];decide)] at hK
   by_cases hg:Ft m.x n=0
   ·rw[if_neg (fun q=>q hg),eE (id:=st) (show({ m with x:=pR m.x n }:Sm).id=st from hmid)] at hK
    refine aH Tryz.func263 ?_
    repeat' (first|refine v46 ?_|refine dw cY ?_|refine dw dC ?_|refine dw dA ?_|refine w5 ?_ ?_|((refine bh fun h=>?_) <;> try exact w6 h)|(refine aE fun hA=>?_;subst hA)|intro _|(show aA _ 107 _ _ _;refine CA (h:=gM (m:=m) ?_);rw[h1])|(show aA _ 86 _ _ _;refine CA (h:=s5 (m:=m) (fun _=>?_)))|(show aA _ 344 _ _ _;refine CA (h:=N6 (x:=m.x) ?_);rw[hg])|(show aA _ 259 _ _ _;refine CA (h:=zJ (s:=s.sl) ?_)))
    all_goals(refine aC ?_;exact aK (aG.trans (by exact aZ) ((aG.trans (pO GM) (l6 (x:=x) (a:=a) (s:= { s with sl:=iS s.sl s.now }) (M:=M) (mc:=mc) (R:=R) (b:=b) (m':= { m with x:=pR m.x n }) hi rfl)))) (hK _ _))
   ·rw[if_pos hg] at hK
    have hsx:pR m.x n=m.x:=by
     cases hx:m.x with
     |b z=>rfl
     |i z=>
      rw[hx] at hg
      unfold Ft at hg
      unfold pR
      by_cases hn:1≤n
      ·simp only[if_pos hn] at hg;exact absurd trivial hg
      ·simp only[if_neg hn]
    refine aH Tryz.func263 ?_
    repeat' (first|(show Br _ _ _;refine Br.t (by first|(simp <;> done)|simpa using hg) ?_)|refine v46 ?_|refine dw cY ?_|refine dw dC ?_|refine dw dA ?_|refine w5 ?_ ?_|((refine bh fun h=>?_) <;> try exact w6 h)|(refine aE fun hA=>?_;subst hA)|intro _|(show aA _ 107 _ _ _;refine CA (h:=gM (m:=m) ?_);rw[h1])|(show aA _ 86 _ _ _;refine CA (h:=s5 (m:=m) (fun _=>?_)))|(show aA _ 344 _ _ _;refine CA (h:=N6 (x:=m.x) ?_);rw[hsx])|(show aA _ 257 _ _ _;refine CA (h:=aA.ent (aG.trans (pO (m:=m) (z:=m.x) rfl) (d8 (x:=x) (a:=a) (s:=s) (M:=M) (mc:=mc) (R:=R) hi)) (jJ hI (by decide) hst (fun _ _=>?_)))))
    all_goals(refine aC ?_;exact aB (hK _ _))
end
end Go.Proofs.YtifgibijcmppmaaGreat
