/- A part of the proof: lemmas; each with the conditions that it states. -/
import Derived.Test.YtifgibijcmppmaaGreatNbd
set_option linter.unusedVariables false
set_option linter.unusedSimpArgs false
namespace Go.Proofs.YtifgibijcmppmaaGreat
open Go Go.Proofs Go.Sl
set_option maxRecDepth 100000
set_option maxHeartbeats 40000000
attribute [local irreducible] aN fB cJ bO aM aY aA dM dQ aW dK pt ro fF star sep bI
attribute [local irreducible] mp El
section
variable {R C:List HP} {K:Value→List HP→Prop} {x mc i b p r t:Nat} {a:Ca} {s:Cn} {M:Option Addr} {B B' id code k la c st w o on sg kind:Int} {gone own xx:Bool} {m m':Sm} {f:Fm} {y:Ys} {l:List Sm} {cf:Cf} {h3:eJ} {z:Yp}
def zU:List (Nat×Nat):= [(5,0),(6,1),(1,1),(2,1),(3,1),(4,1),(7,1),(0,2),(8,0),(9,0),(10,1)]
theorem kW {T:HP} {k id n:Int} {z:ByteArray} {b:Bool} (hb:s.mv.length≤1000000000) (hK:∀M mc,K (.tuple #[]) (mV x a (tW ⟨k,id,n,z,b⟩ s) M mc T R)):aA Tryz.prog 197 #[.pointer (some ⟨x,0,none⟩),.agg #[.int .i64 k,.int .i64 id,.int .i64 n,.string z,.bool b]] (mV x a s M mc T R) K:=by
 dsimp only[mV,tW] at hK ⊢
 refine aH Tryz.func197 ?_
 repeat' (first|(show aN _ _ _ _ _ _ _;(refine cY (E:=mvC) (ys:= [⟨k,id,n,z,b⟩]) ?_;intro _ _))|refine v54 ?_|refine dw zU ?_|refine wr ?_|refine w5 ?_ ?_|((refine bh fun h=>?_) <;> try exact w6 h)|(refine aE fun hA=>?_;subst hA)|intro _)
 all_goals(refine aC ?_;exact aB (hK _ _))
theorem Ak5 (h:lJ z k≠0):lJ z k=9:=by
 unfold lJ at *
 split at h
 ·rename_i hq;rw[if_pos hq]
 ·exact absurd rfl h
theorem Zn (h:lJ z k≠0):gJ z k=z:=by unfold gJ;rw[if_neg h]
theorem Bj (h:bU B s) (hk:0≤k∧k≤300) (hb:B+300≤250000000):bU (B+300) { s with rv:=gJ s.rv k }:=
 { h.mono (B':=B+300) (by omega) hb with rv:=Ahk h.rv (by omega) }
theorem eL (h:m'.id=id):Aj m' s= { s with l:=s.l.set (cE id s.l) m' }:=by subst h;rfl
theorem xO {d:ByteArray} {e:Bool} {mv:Mv} (h:bU B s) (hm:cB id s.l=some m) (hk:0≤k∧k≤300) (hb:B+300≤250000000) (hd:d.size≤256):bU (B+300) { tW mv { s with rv:=gJ s.rv k } with l:=s.l.set (cE id s.l) (fT m d e) }:=by
 obtain⟨hi,hmid⟩:=aU hm
 refine lP (s:=tW mv { s with rv:=gJ s.rv k }) (m:=m) ?_ hi rfl rfl (Zk (h.st m (List.mem_of_getElem? hi)) hd (Int.le_refl _))
 exact { Bj h hk hb with
  mv:=by
   have:=h.mv
   show((s.mv++ [mv]).length:Int)+s.l.length≤B+300
   rw[List.length_append,List.length_singleton];omega }
theorem CZ (h:bU B s) (hm:cB m.id s.l=some m):bU B (lK m s):=by
 unfold lK
 split
 ·exact An h hm
 ·exact h
theorem Zq (h:bU B s) (hB:B+300≤250000000) (hd:f.d.size≤256):bU (B+300) (uE f s):=by
 have hk:0≤(if f.t=0 then((f.d.size:Nat):Int) else 0)∧(if f.t=0 then((f.d.size:Nat):Int) else 0)≤300:=by split <;> omega
 unfold uE
 generalize (if f.t=0 then((f.d.size:Nat):Int) else 0)=kk at hk ⊢
 split
 ·exact i0 (h.mono (by omega) hB)
 ·cases hm:cB f.st s.l with
  |none=>exact pU (Bj h hk hB)
  |some m=>
   dsimp only
   split
   ·exact qH (pU (Bj h hk hB))
   ·have hmid:=(aU hm).2
    rw[eL (id:=f.st) (show(fT m f.d f.e).id=f.st from hmid)]
    exact CZ (xO h hm hk hB hd) (mB hm rfl)
def cX:List (Nat×Nat):= [(0,0),(1,0),(2,0),(3,0),(4,0),(5,0),(6,1),(7,0),(8,0),(9,0),(10,0),(11,0)]
theorem Ti {st:Int} {e:Bool} {d:ByteArray} {k on w:Int} {xx:Bool} {c la n:Int} {pa:Option Addr} {pn pc:Nat} {ps:List Pr} (hI:bU B s) (hB:B+300≤250000000) (hst:1≤st∧st≤2147483647) (hd:d.size≤256) (hK:∀M mc,K (.tuple #[]) (b7 x a (uE ⟨0,st,e,d,k,on,w,xx,c,la,n,pa,pn,pc,ps⟩ s) M mc R)):aA Tryz.prog 170 #[.pointer (some ⟨x,0,none⟩),.agg #[.int .i64 0,.int .i64 st,.bool e,.string d,.int .i64 k,.int .i64 on,.int .i64 w,.bool xx,.int .i64 c,.int .i64 la,.int .i64 n,.slice pa pn pc]] (b7 x a s M mc R) K:=by
 have hN:(if(0:Int)=0 then((d.size:Nat):Int) else 0)=((d.size:Nat):Int):=if_pos rfl
 have hI3:=hI.mono (B':=B+300) (by omega) hB
 have hN3:0≤(((d.size:Nat):Int):Int)∧(((d.size:Nat):Int):Int)≤300:=by omega
 have hrv:=hI.rv
 have hI1:=Bj (k:=((d.size:Nat):Int)) hI hN3 hB
 have hrv1:=hI1.rv
 have hmv:=hI.mv
 have hbb:=hI.bb
 unfold I8 at hrv hrv1
 unfold uE at hK
 dsimp only at hK hrv1
 rw[hN] at hK
 dsimp only[b7,mV]
 by_cases hg:lJ s.rv ((d.size:Nat):Int)=0
 ·rw[if_neg (fun hq=>hq hg)] at hK
  cases hm:cB st s.l with
  |none=>
   rw[hm] at hK
   refine aH Tryz.func170 ?_
   repeat' (first|refine Gy ?_|refine dw cX ?_|refine wr ?_|refine w5 ?_ ?_|((refine bh fun h=>?_) <;> try exact w6 h)|(refine aE fun hA=>?_;subst hA)|intro _|(show aA _ 260 _ _ _;refine CA (h:=nD (z:=s.rv) (k:=((d.size:Nat):Int)) hI.rv (by omega) (by omega) ?_);rw[hg])|(show aA _ 192 _ _ _;refine CA (h:=nF (l:=s.l) hI.sm hm ?_))|(show aA _ 118 _ _ _;refine CA (h:=uM (y:=gJ s.rv ((d.size:Nat):Int)) (k:=((d.size:Nat):Int)) (by omega) (by omega) (fun _=>?_))))
   all_goals(refine aC ?_;exact aB (hK _ _))
  |some m=>
   rw[hm] at hK
   dsimp only at hK
   obtain⟨hi,hmid⟩:=aU hm
   have hIm:=hI.st m (List.mem_of_getElem? hi)
   have hgo:=hIm.got
   by_cases hw:gZ m 0 d e=0
   ·rw[if_neg (fun hq=>hq hw),eL (id:=st) (show(fT m d e).id=st from hmid)] at hK
    rw[if_neg (fun hq:(0:Int)=1∧_=>absurd hq.1 (by decide))] at hK
    refine aH Tryz.func170 ?_
    repeat' (first|refine Gy ?_|refine dw cX ?_|refine wr ?_|refine w5 ?_ ?_|((refine bh fun h=>?_) <;> try exact w6 h)|(refine aE fun hA=>?_;subst hA)|intro _|(show aA _ 260 _ _ _;refine CA (h:=nD (z:=s.rv) (k:=((d.size:Nat):Int)) hI.rv (by omega) (by omega) ?_);rw[hg])|(show aA _ 192 _ _ _;refine CA (h:=gG (l:=s.l) hI.sm hm (fun bq=>?_)))|(show aA _ 261 _ _ _;refine CA (h:=Ba (m:=m) hw (by omega) (by omega) ?_))|(show aA _ 197 _ _ _;refine CA (h:=kW (x:=x) (a:=a) (s:= { s with rv:=gJ s.rv ((d.size:Nat):Int) }) (M:=M) (mc:=mc) (T:=Nh a.l s.l (cE st s.l) bq) (R:=rR bq (fT m d e)::R) (k:=2) (id:=st) (n:=((d.size:Nat):Int)) (z:=d) (b:=e) (by show s.mv.length≤1000000000;omega) (fun _ _=>?_)))|(show aA _ 120 _ _ _;refine CA (h:=lG (x:=x) (a:=a) (s:=tW ⟨2,st,((d.size:Nat):Int),d,e⟩ { s with rv:=gJ s.rv ((d.size:Nat):Int) }) (i:=cE st s.l) (m:=m) (R:=R) (m':=fT m d e) hi rfl (xO hI hm hN3 hB hd) (mB hm rfl) (fun _ _=>?_))))
    all_goals(refine aC ?_;exact aB (hK _ _))
   ·rw[if_pos hw] at hK
    refine aH Tryz.func170 ?_
    repeat' (first|refine Gy ?_|refine dw cX ?_|refine wr ?_|refine w5 ?_ ?_|((refine bh fun h=>?_) <;> try exact w6 h)|(refine aE fun hA=>?_;subst hA)|intro _|(show aA _ 260 _ _ _;refine CA (h:=nD (z:=s.rv) (k:=((d.size:Nat):Int)) hI.rv (by omega) (by omega) ?_);rw[hg])|(show aA _ 192 _ _ _;refine CA (h:=gG (l:=s.l) hI.sm hm (fun _=>?_)))|(show aA _ 261 _ _ _;refine CA (h:=He (m:=m) hw ?_))|(show aA _ 118 _ _ _;refine CA (h:=uM (y:=gJ s.rv ((d.size:Nat):Int)) (k:=((d.size:Nat):Int)) (by omega) (by omega) (fun _=>?_)))|(show aA _ 257 _ _ _;refine CA (h:=aA.ent (dD (x:=x) (a:=a) (s:= { s with rv:=gA (gJ s.rv ((d.size:Nat):Int)) ((d.size:Nat):Int) }) (M:=M) (mc:=mc) (R:=R) hi) (jV (pU hI1) Kn hst (fun _ _=>?_)))))
    all_goals(refine aC ?_;exact aB (hK _ _))
 ·rw[if_pos hg] at hK
  have he9:=Ak5 hg
  have hsm:=Zn hg
  refine aH Tryz.func170 ?_
  repeat' (first|refine Gy ?_|refine dw cX ?_|refine wr ?_|refine w5 ?_ ?_|((refine bh fun h=>?_) <;> try exact w6 h)|(refine aE fun hA=>?_;subst hA)|intro _|(show aA _ 260 _ _ _;refine CA (h:=nD (z:=s.rv) (k:=((d.size:Nat):Int)) hI.rv (by omega) (by omega) ?_);rw[he9,hsm])|(show aA _ 79 _ _ _;refine CA (h:=dN (x:=x) (a:=a) (s:=s) hI (by decide) (by decide) (fun _ _=>?_))))
  all_goals(refine aC ?_;exact aB (hK _ _))
theorem S6 {st:Int} {e:Bool} {d:ByteArray} {k on w:Int} {xx:Bool} {c la n:Int} {pa:Option Addr} {pn pc:Nat} {ps:List Pr} (hI:bU B s) (hB:B+300≤250000000) (hst:1≤st∧st≤2147483647) (hd:d.size≤256) (hK:∀M mc,K (.tuple #[]) (b7 x a (uE ⟨1,st,e,d,k,on,w,xx,c,la,n,pa,pn,pc,ps⟩ s) M mc R)):aA Tryz.prog 170 #[.pointer (some ⟨x,0,none⟩),.agg #[.int .i64 1,.int .i64 st,.bool e,.string d,.int .i64 k,.int .i64 on,.int .i64 w,.bool xx,.int .i64 c,.int .i64 la,.int .i64 n,.slice pa pn pc]] (b7 x a s M mc R) K:=by
 have hN:(if(1:Int)=0 then((d.size:Nat):Int) else 0)=0:=if_neg (by decide)
 have hI3:=hI.mono (B':=B+300) (by omega) hB
 have hN3:0≤(0:Int)∧(0:Int)≤300:=by omega
 have hrv:=hI.rv
 have hI1:=Bj (k:=0) hI hN3 hB
 have hrv1:=hI1.rv
 have hmv:=hI.mv
 have hbb:=hI.bb
 unfold I8 at hrv hrv1
 unfold uE at hK
 dsimp only at hK hrv1
 rw[hN] at hK
 dsimp only[b7,mV]
 by_cases hg:lJ s.rv 0=0
 ·rw[if_neg (fun hq=>hq hg)] at hK
  cases hm:cB st s.l with
  |none=>
   rw[hm] at hK
   refine aH Tryz.func170 ?_
   repeat' (first|refine Gy ?_|refine dw cX ?_|refine wr ?_|refine w5 ?_ ?_|((refine bh fun h=>?_) <;> try exact w6 h)|(refine aE fun hA=>?_;subst hA)|intro _|(show aA _ 260 _ _ _;refine CA (h:=nD (z:=s.rv) (k:=0) hI.rv (by omega) (by omega) ?_);rw[hg])|(show aA _ 192 _ _ _;refine CA (h:=nF (l:=s.l) hI.sm hm ?_))|(show aA _ 118 _ _ _;refine CA (h:=uM (y:=gJ s.rv 0) (k:=0) (by omega) (by omega) (fun _=>?_))))
   all_goals(refine aC ?_;exact aB (hK _ _))
  |some m=>
   rw[hm] at hK
   dsimp only at hK
   obtain⟨hi,hmid⟩:=aU hm
   have hIm:=hI.st m (List.mem_of_getElem? hi)
   have hgo:=hIm.got
   by_cases hw:gZ m 1 d e=0
   ·rw[if_neg (fun hq=>hq hw),eL (id:=st) (show(fT m d e).id=st from hmid)] at hK
    by_cases h0:d=⟨#[]⟩
    ·subst h0
     cases e
     ·rw[if_pos ⟨rfl,.inr rfl⟩] at hK
      refine aH Tryz.func170 ?_
      repeat' (first|refine Gy ?_|refine dw cX ?_|refine wr ?_|refine w5 ?_ ?_|((refine bh fun h=>?_) <;> try exact w6 h)|(refine aE fun hA=>?_;subst hA)|intro _|(show aA _ 260 _ _ _;refine CA (h:=nD (z:=s.rv) (k:=0) hI.rv (by omega) (by omega) ?_);rw[hg])|(show aA _ 192 _ _ _;refine CA (h:=gG (l:=s.l) hI.sm hm (fun bq=>?_)))|(show aA _ 261 _ _ _;refine CA (h:=Ba (m:=m) hw (by omega) (by omega) ?_))|(show aA _ 197 _ _ _;refine CA (h:=kW (x:=x) (a:=a) (s:= { s with rv:=gJ s.rv 0 }) (M:=M) (mc:=mc) (T:=Nh a.l s.l (cE st s.l) bq) (R:=rR bq (fT m ⟨#[]⟩ false)::R) (k:=2) (id:=st) (n:=1) (z:=⟨#[]⟩) (b:=false) (by show s.mv.length≤1000000000;omega) (fun _ _=>?_)))|(show aA _ 120 _ _ _;refine CA (h:=lG (x:=x) (a:=a) (s:=tW ⟨2,st,1,⟨#[]⟩,false⟩ { s with rv:=gJ s.rv 0 }) (i:=cE st s.l) (m:=m) (R:=R) (m':=fT m ⟨#[]⟩ false) hi rfl (xO hI hm hN3 hB hd) (mB hm rfl) (fun _ _=>?_))))
      all_goals(refine aC ?_;exact aB (hK _ _))
     ·rw[if_neg (fun hq=>hq.2.elim (fun h=>h rfl) (fun h=>by cases h))] at hK
      refine aH Tryz.func170 ?_
      repeat' (first|refine Gy ?_|refine dw cX ?_|refine wr ?_|refine w5 ?_ ?_|((refine bh fun h=>?_) <;> try exact w6 h)|(refine aE fun hA=>?_;subst hA)|intro _|(show aA _ 260 _ _ _;refine CA (h:=nD (z:=s.rv) (k:=0) hI.rv (by omega) (by omega) ?_);rw[hg])|(show aA _ 192 _ _ _;refine CA (h:=gG (l:=s.l) hI.sm hm (fun bq=>?_)))|(show aA _ 261 _ _ _;refine CA (h:=Ba (m:=m) hw (by omega) (by omega) ?_))|(show aA _ 197 _ _ _;refine CA (h:=kW (x:=x) (a:=a) (s:= { s with rv:=gJ s.rv 0 }) (M:=M) (mc:=mc) (T:=Nh a.l s.l (cE st s.l) bq) (R:=rR bq (fT m ⟨#[]⟩ true)::R) (k:=2) (id:=st) (n:=0) (z:=⟨#[]⟩) (b:=true) (by show s.mv.length≤1000000000;omega) (fun _ _=>?_)))|(show aA _ 120 _ _ _;refine CA (h:=lG (x:=x) (a:=a) (s:=tW ⟨2,st,0,⟨#[]⟩,true⟩ { s with rv:=gJ s.rv 0 }) (i:=cE st s.l) (m:=m) (R:=R) (m':=fT m ⟨#[]⟩ true) hi rfl (xO hI hm hN3 hB hd) (mB hm rfl) (fun _ _=>?_))))
      all_goals(refine aC ?_;exact aB (hK _ _))
    ·rw[if_pos ⟨rfl,.inl h0⟩] at hK
     have hbq:=Rn h0
     refine aH Tryz.func170 ?_
     repeat' (first|(show Br _ _ _;refine Br.t hbq ?_)|(show cJ _ _ _;rw[hbq])|refine Gy ?_|refine dw cX ?_|refine wr ?_|refine w5 ?_ ?_|((refine bh fun h=>?_) <;> try exact w6 h)|(refine aE fun hA=>?_;subst hA)|intro _|(show aA _ 260 _ _ _;refine CA (h:=nD (z:=s.rv) (k:=0) hI.rv (by omega) (by omega) ?_);rw[hg])|(show aA _ 192 _ _ _;refine CA (h:=gG (l:=s.l) hI.sm hm (fun bq=>?_)))|(show aA _ 261 _ _ _;refine CA (h:=Ba (m:=m) hw (by omega) (by omega) ?_))|(show aA _ 197 _ _ _;refine CA (h:=kW (x:=x) (a:=a) (s:= { s with rv:=gJ s.rv 0 }) (M:=M) (mc:=mc) (T:=Nh a.l s.l (cE st s.l) bq) (R:=rR bq (fT m d e)::R) (k:=2) (id:=st) (n:=1) (z:=d) (b:=e) (by show s.mv.length≤1000000000;omega) (fun _ _=>?_)))|(show aA _ 120 _ _ _;refine CA (h:=lG (x:=x) (a:=a) (s:=tW ⟨2,st,1,d,e⟩ { s with rv:=gJ s.rv 0 }) (i:=cE st s.l) (m:=m) (R:=R) (m':=fT m d e) hi rfl (xO hI hm hN3 hB hd) (mB hm rfl) (fun _ _=>?_))))
     all_goals(refine aC ?_;exact aB (hK _ _))
   ·rw[if_pos hw] at hK
    refine aH Tryz.func170 ?_
    repeat' (first|refine Gy ?_|refine dw cX ?_|refine wr ?_|refine w5 ?_ ?_|((refine bh fun h=>?_) <;> try exact w6 h)|(refine aE fun hA=>?_;subst hA)|intro _|(show aA _ 260 _ _ _;refine CA (h:=nD (z:=s.rv) (k:=0) hI.rv (by omega) (by omega) ?_);rw[hg])|(show aA _ 192 _ _ _;refine CA (h:=gG (l:=s.l) hI.sm hm (fun _=>?_)))|(show aA _ 261 _ _ _;refine CA (h:=He (m:=m) hw ?_))|(show aA _ 118 _ _ _;refine CA (h:=uM (y:=gJ s.rv 0) (k:=0) (by omega) (by omega) (fun _=>?_)))|(show aA _ 257 _ _ _;refine CA (h:=aA.ent (dD (x:=x) (a:=a) (s:= { s with rv:=gA (gJ s.rv 0) 0 }) (M:=M) (mc:=mc) (R:=R) hi) (jV (pU hI1) Kn hst (fun _ _=>?_)))))
    all_goals(refine aC ?_;exact aB (hK _ _))
 ·rw[if_pos hg] at hK
  have he9:=Ak5 hg
  have hsm:=Zn hg
  refine aH Tryz.func170 ?_
  repeat' (first|refine Gy ?_|refine dw cX ?_|refine wr ?_|refine w5 ?_ ?_|((refine bh fun h=>?_) <;> try exact w6 h)|(refine aE fun hA=>?_;subst hA)|intro _|(show aA _ 260 _ _ _;refine CA (h:=nD (z:=s.rv) (k:=0) hI.rv (by omega) (by omega) ?_);rw[he9,hsm])|(show aA _ 79 _ _ _;refine CA (h:=dN (x:=x) (a:=a) (s:=s) hI (by decide) (by decide) (fun _ _=>?_))))
  all_goals(refine aC ?_;exact aB (hK _ _))
end
section
variable {R C:List HP} {K:Value→List HP→Prop} {x mc i b p r t:Nat} {a:Ca} {s:Cn} {M:Option Addr} {B B' id code:Int} {own xx:Bool} {m m':Sm} {f:Fm} {y:Ys} {l:List Sm} {cf:Cf} {h3:eJ} {z:Yp}
theorem Gh:∀l:List Sm,l.length=(l.filter fun m=>m.own == true).length+(l.filter fun m=>m.own == false).length
 | []=>rfl
 |m::l=>by
  have:=Gh l
  rw[List.filter_cons,List.filter_cons,List.length_cons]
  cases m.own <;> simp only[beq_self_eq_true,if_true,List.length_cons,(by decide:(false == true)=false),(by decide:(true == false)=false),Bool.false_eq_true,if_false] <;> omega
theorem qL {id:Int} (hs:s.sd=0∨s.sd=1) (hp:p8 s.sd s.la id=0):(1≤id∧id≤2147483647)∧s.la<id∧XH s.sd id=false:=by
 unfold p8 at hp
 split at hp
 ·rename_i hq
  obtain⟨h1,h2⟩:=hq
  unfold XH at h1 ⊢
  simp only[Bool.and_eq_true,decide_eq_true_eq,beq_iff_eq,decide_eq_decide] at h1
  refine⟨h1.1,h2,?_⟩
  have h3:=h1.2
  rw[Bool.and_eq_false_iff]
  right
  rw[beq_eq_false_iff_ne]
  intro h4
  rw[decide_eq_decide] at h4
  omega
 ·cases hp
theorem IL {id:Int} (h:bU B s) (hp:p8 s.sd s.la id=0):bU B { s with la:=id }:=
 { h with
   la:=by
    have:=(qL h.sd hp).1
    show y8 id
    unfold y8;omega
   ids:=fun z hz=>by
    have h1:=h.ids z hz
    have h2:=(qL h.sd hp).2.1
    show oY s.sd s.nx id z.id=true
    unfold oY at h1 ⊢
    simp only[Bool.and_eq_true,decide_eq_true_eq] at h1 ⊢
    refine⟨h1.1,?_⟩
    have h3:=h1.2
    split at h3
    ·rename_i hq;rw[if_pos hq];exact h3
    ·rename_i hq;rw[if_neg hq];simp only[decide_eq_true_eq] at h3 ⊢;omega }
theorem EQ {id:Int} (h:bU B s) (hp:p8 s.sd s.la id=0):cB id s.l=none:=by
 obtain⟨h1,h2,h3⟩:=qL h.sd hp
 cases hm:cB id s.l with
 |none=>rfl
 |some m=>
  obtain⟨hi,hid⟩:=aU hm
  have h4:=h.ids m (List.mem_of_getElem? hi)
  rw[hid] at h4
  unfold oY at h4
  rw[h3] at h4
  simp only[Bool.and_eq_true,decide_eq_true_eq,Bool.false_eq_true,if_false] at h4
  omega
theorem VI {id:Int} (hs:s.sd=0∨s.sd=1) (hp:p8 s.sd s.la id=0):oY s.sd s.nx id id=true:=by
 obtain⟨h1,h2,h3⟩:=qL hs hp
 unfold oY
 rw[h3]
 simp only[Bool.false_eq_true,if_false,Bool.and_eq_true,decide_eq_true_eq]
 omega
theorem Adl (h:bU B s):s.sh.h.st≤32:=by
 have:=h.sh.2.1
 unfold wD sW at this
 simp only[decide_eq_true_eq] at this
 omega
theorem IX (h:bU B s) (ho:¬s.sh.h.st≤(fG s false:Nat)):s.l.length<64∧fG s false<32:=by
 have h1:=Adl h
 have h2:=h.own true
 have h3:=Gh s.l
 unfold fG at *
 omega
theorem Ajh {mv:Mv} (h:bU B s) (hb:(s.mv.length:Int)+s.l.length+1≤B):bU B (tW mv s):=
 { h with
   mv:=by
    show((s.mv++ [mv]).length:Int)+s.l.length≤B
    rw[List.length_append,List.length_singleton];omega }
theorem QD (h:bU B s) (hB:B+300≤250000000):bU (B+300) (pY f s):=by
 have hm:=h.mono (B':=B+300) (by omega) hB
 have hmv:=h.mv
 unfold pY
 by_cases hp:p8 s.sd s.la f.st=0
 ·rw[if_neg (fun q=>q hp)]
  have L2:=IL hm hp
  split
  ·exact i0 L2
  ·split
   ·exact qH L2
   ·split
    ·exact qH L2
    ·rename_i ho
     obtain⟨h1,h2⟩:=IX h ho
     have q1:=EQ h hp
     have q2:=(qL h.sd hp).1
     have q3:=VI h.sd hp
     have hl:=(TN (s:= { s with la:=f.st }) (kind:=f.k) (on:=f.on) (w:=f.w) (xx:=f.x) (sg:=s.cf.sg) (own:=false) L2 q1 h1 q2 q3 h2 (by show(s.mv.length:Int)+s.l.length+1≤B+300;omega))
     refine Ajh hl ?_
     have e:(kS (iB s.cf s.sh.h f.st f.k s.cf.sg false) s.l).length≤s.l.length+1:=by
      unfold kS
      rw[List.length_append,List.length_cons,List.length_take,List.length_drop]
      omega
     show(s.mv.length:Int)+((kS (iB s.cf s.sh.h f.st f.k s.cf.sg false) s.l).length:Int)+1≤B+300
     omega
 ·rw[if_pos hp];exact i0 hm
def hJ:List (Nat×Nat):= [(0,0),(1,0),(2,0),(3,0),(4,0),(5,0),(6,1),(7,0),(8,0)]
def iD:List (Nat×Nat):= [(0,0),(1,0),(2,0),(3,0),(4,0),(5,0),(6,1),(7,0),(8,0)]
def hM:List (Nat×Nat):= [(0,0),(1,1),(2,1),(3,1),(4,1),(5,1),(6,1),(7,0),(8,0),(9,0)]
def iC:List (Nat×Nat):= [(0,0),(1,0),(2,0),(3,0),(4,0),(5,0),(6,0),(7,0),(8,0),(9,0),(10,0),(11,0),(12,1)]
theorem Po {t st:Int} {e:Bool} {d:ByteArray} {k on w:Int} {xx:Bool} {c la n:Int} {pa:Option Addr} {pn pc:Nat} {ps:List Pr} (hI:bU B s) (hst:1≤st∧st≤2147483647) (hk:k=1∨k=2) (hb:B≤249000000) (hK:∀M mc,K (.tuple #[]) (b7 x a (pY ⟨t,st,e,d,k,on,w,xx,c,la,n,pa,pn,pc,ps⟩ s) M mc R)):aA Tryz.prog 167 #[.pointer (some ⟨x,0,none⟩),.agg #[.int .i64 t,.int .i64 st,.bool e,.string d,.int .i64 k,.int .i64 on,.int .i64 w,.bool xx,.int .i64 c,.int .i64 la,.int .i64 n,.slice pa pn pc]] (b7 x a s M mc R) K:=by
 have hmv:=hI.mv
 have hbb:=hI.bb
 unfold pY at hK
 dsimp only at hK
 dsimp only[b7,mV]
 by_cases hp:p8 s.sd s.la st=0
 ·rw[if_neg (fun q=>q hp)] at hK
  have hI1:=IL hI hp
  by_cases h1:on=st
  ·rw[if_pos h1] at hK
   refine aH Tryz.func167 ?_
   repeat' (first|(show aN _ _ _ _ _ _ _;refine fN ?_)|refine AK ?_|refine dw hJ ?_|refine dw iD ?_|refine dw hM ?_|refine dw iC ?_|refine wr ?_|refine w5 ?_ ?_|((refine bh fun h=>?_) <;> try exact w6 h)|(refine aE fun hA=>?_;subst hA)|intro _|(show aA _ 255 _ _ _;refine CA (h:=u1 (sd:=s.sd) (la:=s.la) (nx:=s.nx) hI.sd ?_);rw[hp,if_pos rfl])|(show aA _ 79 _ _ _;refine CA (h:=dN (x:=x) (a:=a) (s:= { s with la:=st }) hI1 (by decide) (by decide) (fun _ _=>?_))))
   all_goals(refine aC ?_;exact aB (hK _ _))
  ·rw[if_neg h1] at hK
   cases h2:CV s.dr st
   ·rw[h2,if_pos rfl] at hK
    refine aH Tryz.func167 ?_
    repeat' (first|(show aN _ _ _ _ _ _ _;refine fN ?_)|refine AK ?_|refine dw hJ ?_|refine dw iD ?_|refine dw hM ?_|refine dw iC ?_|refine wr ?_|refine w5 ?_ ?_|((refine bh fun h=>?_) <;> try exact w6 h)|(refine aE fun hA=>?_;subst hA)|intro _|(show aA _ 255 _ _ _;refine CA (h:=u1 (sd:=s.sd) (la:=s.la) (nx:=s.nx) hI.sd ?_);rw[hp,if_pos rfl])|(show aA _ 256 _ _ _;refine CA (h:=Fo (d:=s.dr) ?_);rw[h2])|(show aA _ 257 _ _ _;refine CA (h:=jV (x:=x) (a:=a) (s:= { s with la:=st }) hI1 (by decide) hst (fun _ _=>?_))))
    all_goals(refine aC ?_;exact aB (hK _ _))
   ·rw[h2,if_neg (by decide)] at hK
    have hown:fG { s with la:=st } false=fG s false:=rfl
    by_cases h3:s.sh.h.st≤(fG s false:Nat)
    ·rw[if_pos h3] at hK
     refine aH Tryz.func167 ?_
     repeat' (first|(show aN _ _ _ _ _ _ _;refine fN ?_)|refine AK ?_|refine dw hJ ?_|refine dw iD ?_|refine dw hM ?_|refine dw iC ?_|refine wr ?_|refine w5 ?_ ?_|((refine bh fun h=>?_) <;> try exact w6 h)|(refine aE fun hA=>?_;subst hA)|intro _|(show aA _ 255 _ _ _;refine CA (h:=u1 (sd:=s.sd) (la:=s.la) (nx:=s.nx) hI.sd ?_);rw[hp,if_pos rfl])|(show aA _ 256 _ _ _;refine CA (h:=Fo (d:=s.dr) ?_);rw[h2])|(show aA _ 84 _ _ _;refine CA (h:=sK (x:=x) (a:=a) (s:= { s with la:=st }) (M:=M) (mc:=mc) hI1 ?_);rw[hown])|(show aA _ 214 _ _ _;refine CA (h:=yM (s:=s.sh) ?_))|(show aA _ 257 _ _ _;refine CA (h:=jV (x:=x) (a:=a) (s:= { s with la:=st }) hI1 (by decide) hst (fun _ _=>?_))))
     all_goals(refine aC ?_;exact aB (hK _ _))
    ·rw[if_neg h3] at hK
     obtain⟨hr1,hr2⟩:=IX hI h3
     have q1:=EQ hI hp
     refine aH Tryz.func167 ?_
     repeat' (first|(show aN _ _ _ _ _ _ _;refine fN ?_)|refine AK ?_|refine dw hJ ?_|refine dw iD ?_|refine dw hM ?_|refine dw iC ?_|refine wr ?_|refine w5 ?_ ?_|((refine bh fun h=>?_) <;> try exact w6 h)|(refine aE fun hA=>?_;subst hA)|intro _|(show aA _ 255 _ _ _;refine CA (h:=u1 (sd:=s.sd) (la:=s.la) (nx:=s.nx) hI.sd ?_);rw[hp,if_pos rfl])|(show aA _ 256 _ _ _;refine CA (h:=Fo (d:=s.dr) ?_);rw[h2])|(show aA _ 84 _ _ _;refine CA (h:=sK (x:=x) (a:=a) (s:= { s with la:=st }) (M:=M) (mc:=mc) hI1 ?_);rw[hown])|(show aA _ 214 _ _ _;refine CA (h:=yM (s:=s.sh) ?_))|(show aA _ 115 _ _ _;refine CA (h:=O0 (x:=x) (a:=a) (s:= { s with la:=st }) (M:=M) (mc:=mc) hI1 hk hI.cf.2.2 q1 hr1 hst ?_))|(show aA _ 197 _ _ _;refine CA (h:=HD (x:=x) (a:=a) (s:=G5 st k on w xx false s.cf.sg { s with la:=st }) (M:=M) (mc:=mc) (R:=R) (by show s.mv.length≤1000000000;omega) (fun _ _=>?_))))
     all_goals(refine aC ?_;exact aB (hK _ _))
 ·rw[if_pos hp] at hK
  have L2:p8 s.sd s.la st=1:=by unfold p8 at hp ⊢;split <;> first|rfl|(rename_i hq;rw[if_pos hq] at hp;exact absurd rfl hp)
  refine aH Tryz.func167 ?_
  repeat' (first|(show aN _ _ _ _ _ _ _;refine fN ?_)|refine AK ?_|refine dw hJ ?_|refine dw iD ?_|refine dw hM ?_|refine dw iC ?_|refine wr ?_|refine w5 ?_ ?_|((refine bh fun h=>?_) <;> try exact w6 h)|(refine aE fun hA=>?_;subst hA)|intro _|(show aA _ 255 _ _ _;refine CA (h:=u1 (sd:=s.sd) (la:=s.la) (nx:=s.nx) hI.sd ?_);rw[L2,if_neg (by decide)])|(show aA _ 79 _ _ _;refine CA (h:=dN (x:=x) (a:=a) (s:=s) hI (by decide) (by decide) (fun _ _=>?_))))
  all_goals(refine aC ?_;exact aB (hK _ _))
end
section
variable {R C:List HP} {K:Value→List HP→Prop} {x mc i b p r:Nat} {a:Ca} {s:Cn} {M:Option Addr} {B B' id code:Int} {own:Bool} {m m':Sm} {f:Fm} {y:Ys} {l:List Sm} {cf:Cf} {h3:eJ} {z:Yp}
theorem FT {n b:Int} (h:rH n b≠0):mH n b=n:=by
 unfold rH at h
 unfold mH
 split at h
 ·rename_i hq
  rw[if_pos hq]
  unfold Cw at h
  unfold Eh
  split at h
  ·exact absurd rfl h
  ·rename_i hf;rw[if_neg hf]
 ·rename_i hq;rw[if_neg hq]
theorem Ft {t b:Int} {s:Ld} (h:tU t b s≠0):qC t b s=s:=by
 unfold tU at h
 unfold qC
 split at h
 ·rename_i ht
  rw[if_pos ht,FT h]
 ·rename_i ht
  rw[if_neg ht]
  cases he:pH t s.l with
  |none=>rfl
  |some e=>
   rw[he] at h
   dsimp only at h ⊢
   rw[FT h]
   have:=(rW he).1
   rw[kE _ this]
theorem Ck (h:bU B s) {q:Ld} (hq:FY B q):bU B { s with ld:=q,sl:=iZ s.sl s.now }:=
 { h with
   ld:=hq
   sl:=by
    have h1:=h.sl
    have h2:=h.now
    show(0≤(iZ s.sl s.now).nw∧(iZ s.sl s.now).nw≤B)∧0≤(iZ s.sl s.now).si∧(iZ s.sl s.now).si≤B
    unfold iZ
    split
    ·exact h1
    ·dsimp only
     split <;> omega }
theorem VH (h:bU B s):bU B (tP f s):=by
 unfold tP
 split
 ·exact i0 h
 ·split
  ·exact i0 h
  ·exact Ck h (Qi h.ld)
def mX:List (Nat×Nat):= [(0,0),(1,0),(2,0),(3,0),(4,0),(5,0),(6,1),(7,0),(8,0)]
def nB:List (Nat×Nat):= [(0,0),(1,0),(2,0),(3,0),(4,0),(5,0),(6,0),(7,0),(8,1)]
theorem Im {t st:Int} {e:Bool} {d:ByteArray} {k on w:Int} {xx:Bool} {c la n:Int} {pa:Option Addr} {pn pc:Nat} {ps:List Pr} (hI:bU B s) (hK:∀M mc,K (.tuple #[]) (b7 x a (tP ⟨t,st,e,d,k,on,w,xx,c,la,n,pa,pn,pc,ps⟩ s) M mc R)):aA Tryz.prog 168 #[.pointer (some ⟨x,0,none⟩),.agg #[.int .i64 t,.int .i64 st,.bool e,.string d,.int .i64 k,.int .i64 on,.int .i64 w,.bool xx,.int .i64 c,.int .i64 la,.int .i64 n,.slice pa pn pc]] (b7 x a s M mc R) K:=by
 have hbb:=hI.bb
 unfold tP at hK
 dsimp only at hK
 dsimp only[b7,mV]
 by_cases h0:n=0
 ·rw[if_pos h0] at hK
  refine aH Tryz.func168 ?_
  repeat' (first|refine v46 ?_|refine dw mX ?_|refine dw nB ?_|refine wr ?_|refine w5 ?_ ?_|((refine bh fun h=>?_) <;> try exact w6 h)|(refine aE fun hA=>?_;subst hA)|intro _|(show aA _ 79 _ _ _;refine CA (h:=dN (x:=x) (a:=a) (s:=s) hI (by decide) (by decide) (fun _ _=>?_))))
  all_goals(refine aC ?_;exact aB (hK _ _))
 ·rw[if_neg h0] at hK
  by_cases hg:tU 0 n s.ld=0
  ·rw[if_neg (fun q=>q hg)] at hK
   refine aH Tryz.func168 ?_
   repeat' (first|refine v46 ?_|refine dw mX ?_|refine dw nB ?_|refine wr ?_|refine w5 ?_ ?_|((refine bh fun h=>?_) <;> try exact w6 h)|(refine aE fun hA=>?_;subst hA)|intro _|(show aA _ 258 _ _ _;refine CA (h:=AU (s:=s.ld) (hI.ld.ok (by omega)) ?_);rw[hg])|(show aA _ 259 _ _ _;refine CA (h:=zP (s:=s.sl) ?_)))
   all_goals(refine aC ?_;exact aB (hK _ _))
  ·rw[if_pos hg] at hK
   have hs:=Ft hg
   refine aH Tryz.func168 ?_
   repeat' (first|(show Br _ _ _;refine Br.t (by first|(simp <;> done)|simpa using hg) ?_)|refine v46 ?_|refine dw mX ?_|refine dw nB ?_|refine wr ?_|refine w5 ?_ ?_|((refine bh fun h=>?_) <;> try exact w6 h)|(refine aE fun hA=>?_;subst hA)|intro _|(show aA _ 258 _ _ _;refine CA (h:=AU (s:=s.ld) (hI.ld.ok (by omega)) ?_);rw[hs])|(show aA _ 79 _ _ _;refine CA (h:=dN (x:=x) (a:=a) (s:=s) hI (by decide) (by decide) (fun _ _=>?_))))
   all_goals(refine aC ?_;exact aB (hK _ _))
theorem Gl {q:Xs} {n:Int}:bD (qA q n)=bD q:=by
 cases q with
 |b z=>rfl
 |i z=>rfl
theorem YG {n:Int} (h:Fs B m):Fs B { m with x:=qA m.x n }:=by
 obtain⟨h1,h2,h3,h4⟩:=h
 refine⟨h1,?_,h3,h4⟩
 cases hx:m.x with
 |b z=>rw[hx] at h2;exact h2
 |i z=>
  rw[hx] at h2
  by_cases hn:1≤n
  ·simp only[qA,if_pos hn];exact h2
  ·simp only[qA,if_neg hn];exact h2
theorem PK (h:bU B s) (hm:cB f.st s.l=some m):bU B (mK f m s):=by
 obtain⟨hi,hmid⟩:=aU hm
 unfold mK
 split
 ·exact qH h
 ·split
  ·exact qH h
  ·split
   ·split
    ·exact qH h
    ·exact Ck h (Qi h.ld)
   ·split
    ·exact qH h
    ·rw[eL (id:=f.st) (show({ m with x:=qA m.x f.n }:Sm).id=f.st from hmid)]
     exact lP (s:= { s with sl:=iZ s.sl s.now }) (Ck h h.ld) hi rfl rfl (YG (h.st m (List.mem_of_getElem? hi)))
def dA:List (Nat×Nat):= [(0,0),(1,0),(2,0),(3,0),(4,0),(5,0),(6,0),(7,0),(8,1),(9,0)]
def dH:List (Nat×Nat):= [(0,0),(1,1),(2,1),(3,1),(4,1),(5,0)]
def dC:List (Nat×Nat):= [(0,0),(1,0),(2,0),(3,0),(4,0),(5,0),(6,0),(7,0),(8,1)]
theorem D4 {t st:Int} {e:Bool} {d:ByteArray} {k on w:Int} {xx:Bool} {c la n:Int} {pa:Option Addr} {pn pc:Nat} {ps:List Pr} (hI:bU B s) (ht:t=10∨t=11) (hst:1≤st∧st≤2147483647) (hm:cB st s.l=some m) (hK:∀M mc,K (.tuple #[]) (b7 x a (mK ⟨t,st,e,d,k,on,w,xx,c,la,n,pa,pn,pc,ps⟩ m s) M mc R)):aA Tryz.prog 263 #[.pointer (some ⟨x,0,none⟩),.agg #[.int .i64 t,.int .i64 st,.bool e,.string d,.int .i64 k,.int .i64 on,.int .i64 w,.bool xx,.int .i64 c,.int .i64 la,.int .i64 n,.slice pa pn pc],.pointer (some ⟨b,0,none⟩)] (rR b m::cnH x a s M mc (cE st s.l) b R) K:=by
 have hbb:=hI.bb
 obtain⟨hi,hmid⟩:=aU hm
 unfold mK at hK
 dsimp only at hK
 refine T2 fun hok=>?_
 dsimp only[cnH,mV]
 have hk2:bD m.x=1∨bD m.x=2:=by cases m.x <;> simp[bD]
 rcases hk2 with h1|h1 <;> rcases ht with rfl|rfl
 ·rw[if_neg (by rw[h1];simp)] at hK
  by_cases h0:n=0
  ·rw[if_pos h0] at hK
   refine aH Tryz.func263 ?_
   repeat' (first|refine v46 ?_|refine dw dA ?_|refine dw dH ?_|refine dw dC ?_|refine wr ?_|refine w5 ?_ ?_|((refine bh fun h=>?_) <;> try exact w6 h)|(refine aE fun hA=>?_;subst hA)|intro _|(show aA _ 107 _ _ _;refine CA (h:=jF (m:=m) ?_);rw[h1])|(show aA _ 257 _ _ _;refine CA (h:=aA.ent (dD (x:=x) (a:=a) (s:=s) (M:=M) (mc:=mc) (R:=R) hi) (jV hI (by decide) hst (fun _ _=>?_)))))
   all_goals(refine aC ?_;exact aB (hK _ _))
  ·rw[if_neg h0,if_pos h1] at hK
   by_cases hg:tU st n s.ld=0
   ·rw[if_neg (fun q=>q hg)] at hK
    refine aH Tryz.func263 ?_
    repeat' (first|refine v46 ?_|refine dw dA ?_|refine dw dH ?_|refine dw dC ?_|refine wr ?_|refine w5 ?_ ?_|((refine bh fun h=>?_) <;> try exact w6 h)|(refine aE fun hA=>?_;subst hA)|intro _|(show aA _ 107 _ _ _;refine CA (h:=jF (m:=m) ?_);rw[h1])|(show aA _ 258 _ _ _;refine CA (h:=AU (s:=s.ld) (hI.ld.ok (by omega)) ?_);rw[hg])|(show aA _ 259 _ _ _;refine CA (h:=zP (s:=s.sl) ?_)))
    all_goals(refine aC ?_;exact aL (aG.trans (by exact bA) ((dD (x:=x) (a:=a) (s:= { s with ld:=qC st n s.ld,sl:=iZ s.sl s.now }) (M:=M) (mc:=mc) (R:=R) (b:=b) hi))) (hK _ _))
   ·rw[if_pos hg] at hK
    have hs:=Ft hg
    refine aH Tryz.func263 ?_
    repeat' (first|(show Br _ _ _;refine Br.t (by first|(simp <;> done)|simpa using hg) ?_)|refine v46 ?_|refine dw dA ?_|refine dw dH ?_|refine dw dC ?_|refine wr ?_|refine w5 ?_ ?_|((refine bh fun h=>?_) <;> try exact w6 h)|(refine aE fun hA=>?_;subst hA)|intro _|(show aA _ 107 _ _ _;refine CA (h:=jF (m:=m) ?_);rw[h1])|(show aA _ 258 _ _ _;refine CA (h:=AU (s:=s.ld) (hI.ld.ok (by omega)) ?_);rw[hs])|(show aA _ 257 _ _ _;refine CA (h:=aA.ent (dD (x:=x) (a:=a) (s:=s) (M:=M) (mc:=mc) (R:=R) hi) (jV hI (by decide) hst (fun _ _=>?_)))))
    all_goals(refine aC ?_;exact aB (hK _ _))
 ·rw[if_pos (by rw[h1];simp)] at hK
  refine aH Tryz.func263 ?_
  repeat' (first|refine v46 ?_|refine dw dA ?_|refine dw dH ?_|refine dw dC ?_|refine wr ?_|refine w5 ?_ ?_|((refine bh fun h=>?_) <;> try exact w6 h)|(refine aE fun hA=>?_;subst hA)|intro _|(show aA _ 107 _ _ _;refine CA (h:=jF (m:=m) ?_);rw[h1])|(show aA _ 257 _ _ _;refine CA (h:=aA.ent (dD (x:=x) (a:=a) (s:=s) (M:=M) (mc:=mc) (R:=R) hi) (jV hI (by decide) hst (fun _ _=>?_)))))
  all_goals(refine aC ?_;exact aB (hK _ _))
 ·rw[if_pos (by rw[h1];simp)] at hK
  refine aH Tryz.func263 ?_
  repeat' (first|refine v46 ?_|refine dw dA ?_|refine dw dH ?_|refine dw dC ?_|refine wr ?_|refine w5 ?_ ?_|((refine bh fun h=>?_) <;> try exact w6 h)|(refine aE fun hA=>?_;subst hA)|intro _|(show aA _ 107 _ _ _;refine CA (h:=jF (m:=m) ?_);rw[h1])|(show aA _ 257 _ _ _;refine CA (h:=aA.ent (dD (x:=x) (a:=a) (s:=s) (M:=M) (mc:=mc) (R:=R) hi) (jV hI (by decide) hst (fun _ _=>?_)))))
  all_goals(refine aC ?_;exact aB (hK _ _))
 ·rw[if_neg (by rw[h1];simp)] at hK
  by_cases h0:n=0
  ·rw[if_pos h0] at hK
   refine aH Tryz.func263 ?_
   repeat' (first|refine v46 ?_|refine dw dA ?_|refine dw dH ?_|refine dw dC ?_|refine wr ?_|refine w5 ?_ ?_|((refine bh fun h=>?_) <;> try exact w6 h)|(refine aE fun hA=>?_;subst hA)|intro _|(show aA _ 107 _ _ _;refine CA (h:=jF (m:=m) ?_);rw[h1])|(show aA _ 257 _ _ _;refine CA (h:=aA.ent (dD (x:=x) (a:=a) (s:=s) (M:=M) (mc:=mc) (R:=R) hi) (jV hI (by decide) hst (fun _ _=>?_)))))
   all_goals(refine aC ?_;exact aB (hK _ _))
  ·rw[if_neg h0,if_neg (by rw[h1];decide)] at hK
   by_cases hg:E7 m.x n=0
   ·rw[if_neg (fun q=>q hg),eL (id:=st) (show({ m with x:=qA m.x n }:Sm).id=st from hmid)] at hK
    refine aH Tryz.func263 ?_
    repeat' (first|refine v46 ?_|refine dw dA ?_|refine dw dH ?_|refine dw dC ?_|refine wr ?_|refine w5 ?_ ?_|((refine bh fun h=>?_) <;> try exact w6 h)|(refine aE fun hA=>?_;subst hA)|intro _|(show aA _ 107 _ _ _;refine CA (h:=jF (m:=m) ?_);rw[h1])|(show aA _ 86 _ _ _;refine CA (h:=ML (m:=m) (fun _=>?_)))|(show aA _ 344 _ _ _;refine CA (h:=OS (x:=m.x) ?_);rw[hg])|(show aA _ 259 _ _ _;refine CA (h:=zP (s:=s.sl) ?_)))
    all_goals(refine aC ?_;exact aL (aG.trans (by exact bA) ((aG.trans (Ic Gl) (mO (x:=x) (a:=a) (s:= { s with sl:=iZ s.sl s.now }) (M:=M) (mc:=mc) (R:=R) (b:=b) (m':= { m with x:=qA m.x n }) hi rfl)))) (hK _ _))
   ·rw[if_pos hg] at hK
    have hsx:qA m.x n=m.x:=by
     cases hx:m.x with
     |b z=>rfl
     |i z=>
      rw[hx] at hg
      unfold E7 at hg
      unfold qA
      by_cases hn:1≤n
      ·simp only[if_pos hn] at hg;exact absurd trivial hg
      ·simp only[if_neg hn]
    refine aH Tryz.func263 ?_
    repeat' (first|(show Br _ _ _;refine Br.t (by first|(simp <;> done)|simpa using hg) ?_)|refine v46 ?_|refine dw dA ?_|refine dw dH ?_|refine dw dC ?_|refine wr ?_|refine w5 ?_ ?_|((refine bh fun h=>?_) <;> try exact w6 h)|(refine aE fun hA=>?_;subst hA)|intro _|(show aA _ 107 _ _ _;refine CA (h:=jF (m:=m) ?_);rw[h1])|(show aA _ 86 _ _ _;refine CA (h:=ML (m:=m) (fun _=>?_)))|(show aA _ 344 _ _ _;refine CA (h:=OS (x:=m.x) ?_);rw[hsx])|(show aA _ 257 _ _ _;refine CA (h:=aA.ent (aG.trans (Ic (m:=m) (z:=m.x) rfl) (dD (x:=x) (a:=a) (s:=s) (M:=M) (mc:=mc) (R:=R) hi)) (jV hI (by decide) hst (fun _ _=>?_)))))
    all_goals(refine aC ?_;exact aB (hK _ _))
end
end Go.Proofs.YtifgibijcmppmaaGreat
