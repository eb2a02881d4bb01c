/- A part of the proof: lemmas; each with the conditions that it states. -/
import Derived.Test.YtifgibijcmppmaaGreatMba
set_option linter.unusedVariables false
set_option linter.unusedSimpArgs false
namespace Go.Proofs.YtifgibijcmppmaaGreat
open Go Go.Proofs Go.Sl
set_option maxRecDepth 100000
set_option maxHeartbeats 40000000
attribute [local irreducible] aM fG cV bP aN aW aA dP dX aV dO pt ro eW star sep bH
attribute [local irreducible] mp Ec
section
variable {R C:List HP} {K:Value→List HP→Prop} {x mc i b p r t:Nat} {a:Ca} {s:Cn} {M:Option Addr} {B B' id code k la c st w o on sg kind:Int} {gone own xx:Bool} {m m':Sm} {f:Fm} {y:Ys} {l:List Sm} {cf:Cf} {h3:eE} {z:Yp}
def zI:List (Nat×Nat):= [(5,0),(6,1),(1,1),(2,1),(3,1),(4,1),(7,1),(0,2),(8,0),(9,0),(10,1)]
theorem j1 {T:HP} {k id n:Int} {z:ByteArray} {b:Bool} (hb:s.mv.length≤1000000000) (hK:∀M mc,K (.tuple #[]) (pM x a (sY ⟨k,id,n,z,b⟩ s) M mc T R)):aA Tryz.prog 197 #[.pointer (some ⟨x,0,none⟩),.agg #[.int .i64 k,.int .i64 id,.int .i64 n,.string z,.bool b]] (pM x a s M mc T R) K:=by
 dsimp only[pM,sY] at hK ⊢
 refine aH Tryz.func197 ?_
 repeat' (first|(show aM _ _ _ _ _ _ _;(refine cU (E:=mvC) (ys:= [⟨k,id,n,z,b⟩]) ?_;intro _ _))|refine v54 ?_|refine dw zI ?_|refine wr ?_|refine w5 ?_ ?_|((refine bh fun h=>?_) <;> try exact w6 h)|(refine aE fun hA=>?_;subst hA)|intro _)
 all_goals(refine aC ?_;exact aB (hK _ _))
theorem Aj8 (h:kS z k≠0):kS z k=9:=by
 unfold kS at *
 split at h
 ·rename_i hq;rw[if_pos hq]
 ·exact absurd rfl h
theorem Yj (h:kS z k≠0):fX z k=z:=by unfold fX;rw[if_neg h]
theorem Bo (h:bS B s) (hk:0≤k∧k≤300) (hb:B+300≤250000000):bS (B+300) { s with rv:=fX s.rv k }:=
 { h.mono (B':=B+300) (by omega) hb with rv:=Agt h.rv (by omega) }
theorem eB (h:m'.id=id):Aj m' s= { s with l:=s.l.set (cB id s.l) m' }:=by subst h;rfl
theorem wN {d:ByteArray} {e:Bool} {mv:Mv} (h:bS B s) (hm:b7 id s.l=some m) (hk:0≤k∧k≤300) (hb:B+300≤250000000) (hd:d.size≤256):bS (B+300) { sY mv { s with rv:=fX s.rv k } with l:=s.l.set (cB id s.l) (fE m d e) }:=by
 obtain⟨hi,hmid⟩:=aZ hm
 refine kZ (s:=sY mv { s with rv:=fX s.rv k }) (m:=m) ?_ hi rfl rfl (Aba (h.st m (List.mem_of_getElem? hi)) hd (Int.le_refl _))
 exact { Bo h hk hb with
  mv:=by
   have:=h.mv
   show((s.mv++ [mv]).length:Int)+s.l.length≤B+300
   rw[List.length_append,List.length_singleton];omega }
theorem D4 (h:bS B s) (hm:b7 m.id s.l=some m):bS B (kP m s):=by
 unfold kP
 split
 ·exact zE h hm
 ·exact h
theorem ZU (h:bS B s) (hB:B+300≤250000000) (hd:f.d.size≤256):bS (B+300) (uC f s):=by
 have hk:0≤(if f.t=0 then((f.d.size:Nat):Int) else 0)∧(if f.t=0 then((f.d.size:Nat):Int) else 0)≤300:=by split <;> omega
 unfold uC
 generalize (if f.t=0 then((f.d.size:Nat):Int) else 0)=kk at hk ⊢
 split
 ·exact iM (h.mono (by omega) hB)
 ·cases hm:b7 f.st s.l with
  |none=>exact oM (Bo h hk hB)
  |some m=>
   dsimp only
   split
   ·exact p9 (oM (Bo h hk hB))
   ·have hmid:=(aZ hm).2
    rw[eB (id:=f.st) (show(fE m f.d f.e).id=f.st from hmid)]
    exact D4 (wN h hm hk hB hd) (lN hm rfl)
def cT:List (Nat×Nat):= [(0,0),(1,0),(2,0),(3,0),(4,0),(5,0),(6,1),(7,0),(8,0),(9,0),(10,0),(11,0)]
theorem SA {st:Int} {e:Bool} {d:ByteArray} {k on w:Int} {xx:Bool} {c la n:Int} {pa:Option Addr} {pn pc:Nat} {ps:List Pr} (hI:bS B s) (hB:B+300≤250000000) (hst:1≤st∧st≤2147483647) (hd:d.size≤256) (hK:∀M mc,K (.tuple #[]) (bY x a (uC ⟨0,st,e,d,k,on,w,xx,c,la,n,pa,pn,pc,ps⟩ s) M mc R)):aA Tryz.prog 170 #[.pointer (some ⟨x,0,none⟩),.agg #[.int .i64 0,.int .i64 st,.bool e,.string d,.int .i64 k,.int .i64 on,.int .i64 w,.bool xx,.int .i64 c,.int .i64 la,.int .i64 n,.slice pa pn pc]] (bY x a s M mc R) K:=by
 have hN:(if(0:Int)=0 then((d.size:Nat):Int) else 0)=((d.size:Nat):Int):=if_pos rfl
 have hI3:=hI.mono (B':=B+300) (by omega) hB
 have hN3:0≤(((d.size:Nat):Int):Int)∧(((d.size:Nat):Int):Int)≤300:=by omega
 have hrv:=hI.rv
 have hI1:=Bo (k:=((d.size:Nat):Int)) hI hN3 hB
 have hrv1:=hI1.rv
 have hmv:=hI.mv
 have hbb:=hI.bb
 unfold I3 at hrv hrv1
 unfold uC at hK
 dsimp only at hK hrv1
 rw[hN] at hK
 dsimp only[bY,pM]
 by_cases hg:kS s.rv ((d.size:Nat):Int)=0
 ·rw[if_neg (fun hq=>hq hg)] at hK
  cases hm:b7 st s.l with
  |none=>
   rw[hm] at hK
   refine aH Tryz.func170 ?_
   repeat' (first|refine Gw ?_|refine dw cT ?_|refine wr ?_|refine w5 ?_ ?_|((refine bh fun h=>?_) <;> try exact w6 h)|(refine aE fun hA=>?_;subst hA)|intro _|(show aA _ 260 _ _ _;refine CA (h:=mN (z:=s.rv) (k:=((d.size:Nat):Int)) hI.rv (by omega) (by omega) ?_);rw[hg])|(show aA _ 192 _ _ _;refine CA (h:=mO (l:=s.l) hI.sm hm ?_))|(show aA _ 118 _ _ _;refine CA (h:=tM (y:=fX s.rv ((d.size:Nat):Int)) (k:=((d.size:Nat):Int)) (by omega) (by omega) (fun _=>?_))))
   all_goals(refine aC ?_;exact aB (hK _ _))
  |some m=>
   rw[hm] at hK
   dsimp only at hK
   obtain⟨hi,hmid⟩:=aZ hm
   have hIm:=hI.st m (List.mem_of_getElem? hi)
   have hgo:=hIm.got
   by_cases hw:f3 m 0 d e=0
   ·rw[if_neg (fun hq=>hq hw),eB (id:=st) (show(fE m d e).id=st from hmid)] at hK
    rw[if_neg (fun hq:(0:Int)=1∧_=>absurd hq.1 (by decide))] at hK
    refine aH Tryz.func170 ?_
    repeat' (first|refine Gw ?_|refine dw cT ?_|refine wr ?_|refine w5 ?_ ?_|((refine bh fun h=>?_) <;> try exact w6 h)|(refine aE fun hA=>?_;subst hA)|intro _|(show aA _ 260 _ _ _;refine CA (h:=mN (z:=s.rv) (k:=((d.size:Nat):Int)) hI.rv (by omega) (by omega) ?_);rw[hg])|(show aA _ 192 _ _ _;refine CA (h:=f7 (l:=s.l) hI.sm hm (fun bq=>?_)))|(show aA _ 261 _ _ _;refine CA (h:=Bg (m:=m) hw (by omega) (by omega) ?_))|(show aA _ 197 _ _ _;refine CA (h:=j1 (x:=x) (a:=a) (s:= { s with rv:=fX s.rv ((d.size:Nat):Int) }) (M:=M) (mc:=mc) (T:=Nh a.l s.l (cB st s.l) bq) (R:=rT bq (fE m d e)::R) (k:=2) (id:=st) (n:=((d.size:Nat):Int)) (z:=d) (b:=e) (by show s.mv.length≤1000000000;omega) (fun _ _=>?_)))|(show aA _ 120 _ _ _;refine CA (h:=kL (x:=x) (a:=a) (s:=sY ⟨2,st,((d.size:Nat):Int),d,e⟩ { s with rv:=fX s.rv ((d.size:Nat):Int) }) (i:=cB st s.l) (m:=m) (R:=R) (m':=fE m d e) hi rfl (wN hI hm hN3 hB hd) (lN hm rfl) (fun _ _=>?_))))
    all_goals(refine aC ?_;exact aB (hK _ _))
   ·rw[if_pos hw] at hK
    refine aH Tryz.func170 ?_
    repeat' (first|refine Gw ?_|refine dw cT ?_|refine wr ?_|refine w5 ?_ ?_|((refine bh fun h=>?_) <;> try exact w6 h)|(refine aE fun hA=>?_;subst hA)|intro _|(show aA _ 260 _ _ _;refine CA (h:=mN (z:=s.rv) (k:=((d.size:Nat):Int)) hI.rv (by omega) (by omega) ?_);rw[hg])|(show aA _ 192 _ _ _;refine CA (h:=f7 (l:=s.l) hI.sm hm (fun _=>?_)))|(show aA _ 261 _ _ _;refine CA (h:=GQ (m:=m) hw ?_))|(show aA _ 118 _ _ _;refine CA (h:=tM (y:=fX s.rv ((d.size:Nat):Int)) (k:=((d.size:Nat):Int)) (by omega) (by omega) (fun _=>?_)))|(show aA _ 257 _ _ _;refine CA (h:=aA.ent (dY (x:=x) (a:=a) (s:= { s with rv:=fT (fX s.rv ((d.size:Nat):Int)) ((d.size:Nat):Int) }) (M:=M) (mc:=mc) (R:=R) hi) (jB (oM hI1) JY hst (fun _ _=>?_)))))
    all_goals(refine aC ?_;exact aB (hK _ _))
 ·rw[if_pos hg] at hK
  have he9:=Aj8 hg
  have hsm:=Yj hg
  refine aH Tryz.func170 ?_
  repeat' (first|refine Gw ?_|refine dw cT ?_|refine wr ?_|refine w5 ?_ ?_|((refine bh fun h=>?_) <;> try exact w6 h)|(refine aE fun hA=>?_;subst hA)|intro _|(show aA _ 260 _ _ _;refine CA (h:=mN (z:=s.rv) (k:=((d.size:Nat):Int)) hI.rv (by omega) (by omega) ?_);rw[he9,hsm])|(show aA _ 79 _ _ _;refine CA (h:=dH (x:=x) (a:=a) (s:=s) hI (by decide) (by decide) (fun _ _=>?_))))
  all_goals(refine aC ?_;exact aB (hK _ _))
theorem Rb {st:Int} {e:Bool} {d:ByteArray} {k on w:Int} {xx:Bool} {c la n:Int} {pa:Option Addr} {pn pc:Nat} {ps:List Pr} (hI:bS B s) (hB:B+300≤250000000) (hst:1≤st∧st≤2147483647) (hd:d.size≤256) (hK:∀M mc,K (.tuple #[]) (bY x a (uC ⟨1,st,e,d,k,on,w,xx,c,la,n,pa,pn,pc,ps⟩ s) M mc R)):aA Tryz.prog 170 #[.pointer (some ⟨x,0,none⟩),.agg #[.int .i64 1,.int .i64 st,.bool e,.string d,.int .i64 k,.int .i64 on,.int .i64 w,.bool xx,.int .i64 c,.int .i64 la,.int .i64 n,.slice pa pn pc]] (bY x a s M mc R) K:=by
 have hN:(if(1:Int)=0 then((d.size:Nat):Int) else 0)=0:=if_neg (by decide)
 have hI3:=hI.mono (B':=B+300) (by omega) hB
 have hN3:0≤(0:Int)∧(0:Int)≤300:=by omega
 have hrv:=hI.rv
 have hI1:=Bo (k:=0) hI hN3 hB
 have hrv1:=hI1.rv
 have hmv:=hI.mv
 have hbb:=hI.bb
 unfold I3 at hrv hrv1
 unfold uC at hK
 dsimp only at hK hrv1
 rw[hN] at hK
 dsimp only[bY,pM]
 by_cases hg:kS s.rv 0=0
 ·rw[if_neg (fun hq=>hq hg)] at hK
  cases hm:b7 st s.l with
  |none=>
   rw[hm] at hK
   refine aH Tryz.func170 ?_
   repeat' (first|refine Gw ?_|refine dw cT ?_|refine wr ?_|refine w5 ?_ ?_|((refine bh fun h=>?_) <;> try exact w6 h)|(refine aE fun hA=>?_;subst hA)|intro _|(show aA _ 260 _ _ _;refine CA (h:=mN (z:=s.rv) (k:=0) hI.rv (by omega) (by omega) ?_);rw[hg])|(show aA _ 192 _ _ _;refine CA (h:=mO (l:=s.l) hI.sm hm ?_))|(show aA _ 118 _ _ _;refine CA (h:=tM (y:=fX s.rv 0) (k:=0) (by omega) (by omega) (fun _=>?_))))
   all_goals(refine aC ?_;exact aB (hK _ _))
  |some m=>
   rw[hm] at hK
   dsimp only at hK
   obtain⟨hi,hmid⟩:=aZ hm
   have hIm:=hI.st m (List.mem_of_getElem? hi)
   have hgo:=hIm.got
   by_cases hw:f3 m 1 d e=0
   ·rw[if_neg (fun hq=>hq hw),eB (id:=st) (show(fE m d e).id=st from hmid)] at hK
    by_cases h0:d=⟨#[]⟩
    ·subst h0
     cases e
     ·rw[if_pos ⟨rfl,.inr rfl⟩] at hK
      refine aH Tryz.func170 ?_
      repeat' (first|refine Gw ?_|refine dw cT ?_|refine wr ?_|refine w5 ?_ ?_|((refine bh fun h=>?_) <;> try exact w6 h)|(refine aE fun hA=>?_;subst hA)|intro _|(show aA _ 260 _ _ _;refine CA (h:=mN (z:=s.rv) (k:=0) hI.rv (by omega) (by omega) ?_);rw[hg])|(show aA _ 192 _ _ _;refine CA (h:=f7 (l:=s.l) hI.sm hm (fun bq=>?_)))|(show aA _ 261 _ _ _;refine CA (h:=Bg (m:=m) hw (by omega) (by omega) ?_))|(show aA _ 197 _ _ _;refine CA (h:=j1 (x:=x) (a:=a) (s:= { s with rv:=fX s.rv 0 }) (M:=M) (mc:=mc) (T:=Nh a.l s.l (cB st s.l) bq) (R:=rT bq (fE m ⟨#[]⟩ false)::R) (k:=2) (id:=st) (n:=1) (z:=⟨#[]⟩) (b:=false) (by show s.mv.length≤1000000000;omega) (fun _ _=>?_)))|(show aA _ 120 _ _ _;refine CA (h:=kL (x:=x) (a:=a) (s:=sY ⟨2,st,1,⟨#[]⟩,false⟩ { s with rv:=fX s.rv 0 }) (i:=cB st s.l) (m:=m) (R:=R) (m':=fE m ⟨#[]⟩ false) hi rfl (wN hI hm hN3 hB hd) (lN hm rfl) (fun _ _=>?_))))
      all_goals(refine aC ?_;exact aB (hK _ _))
     ·rw[if_neg (fun hq=>hq.2.elim (fun h=>h rfl) (fun h=>by cases h))] at hK
      refine aH Tryz.func170 ?_
      repeat' (first|refine Gw ?_|refine dw cT ?_|refine wr ?_|refine w5 ?_ ?_|((refine bh fun h=>?_) <;> try exact w6 h)|(refine aE fun hA=>?_;subst hA)|intro _|(show aA _ 260 _ _ _;refine CA (h:=mN (z:=s.rv) (k:=0) hI.rv (by omega) (by omega) ?_);rw[hg])|(show aA _ 192 _ _ _;refine CA (h:=f7 (l:=s.l) hI.sm hm (fun bq=>?_)))|(show aA _ 261 _ _ _;refine CA (h:=Bg (m:=m) hw (by omega) (by omega) ?_))|(show aA _ 197 _ _ _;refine CA (h:=j1 (x:=x) (a:=a) (s:= { s with rv:=fX s.rv 0 }) (M:=M) (mc:=mc) (T:=Nh a.l s.l (cB st s.l) bq) (R:=rT bq (fE m ⟨#[]⟩ true)::R) (k:=2) (id:=st) (n:=0) (z:=⟨#[]⟩) (b:=true) (by show s.mv.length≤1000000000;omega) (fun _ _=>?_)))|(show aA _ 120 _ _ _;refine CA (h:=kL (x:=x) (a:=a) (s:=sY ⟨2,st,0,⟨#[]⟩,true⟩ { s with rv:=fX s.rv 0 }) (i:=cB st s.l) (m:=m) (R:=R) (m':=fE m ⟨#[]⟩ true) hi rfl (wN hI hm hN3 hB hd) (lN hm rfl) (fun _ _=>?_))))
      all_goals(refine aC ?_;exact aB (hK _ _))
    ·rw[if_pos ⟨rfl,.inl h0⟩] at hK
     have hbq:=RN h0
     refine aH Tryz.func170 ?_
     repeat' (first|(show Br _ _ _;refine Br.t hbq ?_)|(show cV _ _ _;rw[hbq])|refine Gw ?_|refine dw cT ?_|refine wr ?_|refine w5 ?_ ?_|((refine bh fun h=>?_) <;> try exact w6 h)|(refine aE fun hA=>?_;subst hA)|intro _|(show aA _ 260 _ _ _;refine CA (h:=mN (z:=s.rv) (k:=0) hI.rv (by omega) (by omega) ?_);rw[hg])|(show aA _ 192 _ _ _;refine CA (h:=f7 (l:=s.l) hI.sm hm (fun bq=>?_)))|(show aA _ 261 _ _ _;refine CA (h:=Bg (m:=m) hw (by omega) (by omega) ?_))|(show aA _ 197 _ _ _;refine CA (h:=j1 (x:=x) (a:=a) (s:= { s with rv:=fX s.rv 0 }) (M:=M) (mc:=mc) (T:=Nh a.l s.l (cB st s.l) bq) (R:=rT bq (fE m d e)::R) (k:=2) (id:=st) (n:=1) (z:=d) (b:=e) (by show s.mv.length≤1000000000;omega) (fun _ _=>?_)))|(show aA _ 120 _ _ _;refine CA (h:=kL (x:=x) (a:=a) (s:=sY ⟨2,st,1,d,e⟩ { s with rv:=fX s.rv 0 }) (i:=cB st s.l) (m:=m) (R:=R) (m':=fE m d e) hi rfl (wN hI hm hN3 hB hd) (lN hm rfl) (fun _ _=>?_))))
     all_goals(refine aC ?_;exact aB (hK _ _))
   ·rw[if_pos hw] at hK
    refine aH Tryz.func170 ?_
    repeat' (first|refine Gw ?_|refine dw cT ?_|refine wr ?_|refine w5 ?_ ?_|((refine bh fun h=>?_) <;> try exact w6 h)|(refine aE fun hA=>?_;subst hA)|intro _|(show aA _ 260 _ _ _;refine CA (h:=mN (z:=s.rv) (k:=0) hI.rv (by omega) (by omega) ?_);rw[hg])|(show aA _ 192 _ _ _;refine CA (h:=f7 (l:=s.l) hI.sm hm (fun _=>?_)))|(show aA _ 261 _ _ _;refine CA (h:=GQ (m:=m) hw ?_))|(show aA _ 118 _ _ _;refine CA (h:=tM (y:=fX s.rv 0) (k:=0) (by omega) (by omega) (fun _=>?_)))|(show aA _ 257 _ _ _;refine CA (h:=aA.ent (dY (x:=x) (a:=a) (s:= { s with rv:=fT (fX s.rv 0) 0 }) (M:=M) (mc:=mc) (R:=R) hi) (jB (oM hI1) JY hst (fun _ _=>?_)))))
    all_goals(refine aC ?_;exact aB (hK _ _))
 ·rw[if_pos hg] at hK
  have he9:=Aj8 hg
  have hsm:=Yj hg
  refine aH Tryz.func170 ?_
  repeat' (first|refine Gw ?_|refine dw cT ?_|refine wr ?_|refine w5 ?_ ?_|((refine bh fun h=>?_) <;> try exact w6 h)|(refine aE fun hA=>?_;subst hA)|intro _|(show aA _ 260 _ _ _;refine CA (h:=mN (z:=s.rv) (k:=0) hI.rv (by omega) (by omega) ?_);rw[he9,hsm])|(show aA _ 79 _ _ _;refine CA (h:=dH (x:=x) (a:=a) (s:=s) hI (by decide) (by decide) (fun _ _=>?_))))
  all_goals(refine aC ?_;exact aB (hK _ _))
end
section
variable {R C:List HP} {K:Value→List HP→Prop} {x mc i b p r t:Nat} {a:Ca} {s:Cn} {M:Option Addr} {B B' id code:Int} {own xx:Bool} {m m':Sm} {f:Fm} {y:Ys} {l:List Sm} {cf:Cf} {h3:eE} {z:Yp}
theorem MR:∀l:List Sm,l.length=(l.filter fun m=>m.own == true).length+(l.filter fun m=>m.own == false).length
 | []=>rfl
 |m::l=>by
  have:=MR l
  rw[List.filter_cons,List.filter_cons,List.length_cons]
  cases m.own <;> simp only[beq_self_eq_true,if_true,List.length_cons,(by decide:(false == true)=false),(by decide:(true == false)=false),Bool.false_eq_true,if_false] <;> omega
theorem pZ {id:Int} (hs:s.sd=0∨s.sd=1) (hp:oJ s.sd s.la id=0):(1≤id∧id≤2147483647)∧s.la<id∧XH s.sd id=false:=by
 unfold oJ at hp
 split at hp
 ·rename_i hq
  obtain⟨h1,h2⟩:=hq
  unfold XH at h1 ⊢
  simp only[Bool.and_eq_true,decide_eq_true_eq,beq_iff_eq,decide_eq_decide] at h1
  refine⟨h1.1,h2,?_⟩
  have h3:=h1.2
  rw[Bool.and_eq_false_iff]
  right
  rw[beq_eq_false_iff_ne]
  intro h4
  rw[decide_eq_decide] at h4
  omega
 ·cases hp
theorem Iq {id:Int} (h:bS B s) (hp:oJ s.sd s.la id=0):bS B { s with la:=id }:=
 { h with
   la:=by
    have:=(pZ h.sd hp).1
    show yT id
    unfold yT;omega
   ids:=fun z hz=>by
    have h1:=h.ids z hz
    have h2:=(pZ h.sd hp).2.1
    show nS s.sd s.nx id z.id=true
    unfold nS at h1 ⊢
    simp only[Bool.and_eq_true,decide_eq_true_eq] at h1 ⊢
    refine⟨h1.1,?_⟩
    have h3:=h1.2
    split at h3
    ·rename_i hq;rw[if_pos hq];exact h3
    ·rename_i hq;rw[if_neg hq];simp only[decide_eq_true_eq] at h3 ⊢;omega }
theorem Ex {id:Int} (h:bS B s) (hp:oJ s.sd s.la id=0):b7 id s.l=none:=by
 obtain⟨h1,h2,h3⟩:=pZ h.sd hp
 cases hm:b7 id s.l with
 |none=>rfl
 |some m=>
  obtain⟨hi,hid⟩:=aZ hm
  have h4:=h.ids m (List.mem_of_getElem? hi)
  rw[hid] at h4
  unfold nS at h4
  rw[h3] at h4
  simp only[Bool.and_eq_true,decide_eq_true_eq,Bool.false_eq_true,if_false] at h4
  omega
theorem VX {id:Int} (hs:s.sd=0∨s.sd=1) (hp:oJ s.sd s.la id=0):nS s.sd s.nx id id=true:=by
 obtain⟨h1,h2,h3⟩:=pZ hs hp
 unfold nS
 rw[h3]
 simp only[Bool.false_eq_true,if_false,Bool.and_eq_true,decide_eq_true_eq]
 omega
theorem Ae7 (h:bS B s):s.sh.h.st≤32:=by
 have:=h.sh.2.1
 unfold vT rY at this
 simp only[decide_eq_true_eq] at this
 omega
theorem IG (h:bS B s) (ho:¬s.sh.h.st≤(fH s false:Nat)):s.l.length<64∧fH s false<32:=by
 have h1:=Ae7 h
 have h2:=h.own true
 have h3:=MR s.l
 unfold fH at *
 omega
theorem Aht {mv:Mv} (h:bS B s) (hb:(s.mv.length:Int)+s.l.length+1≤B):bS B (sY mv s):=
 { h with
   mv:=by
    show((s.mv++ [mv]).length:Int)+s.l.length≤B
    rw[List.length_append,List.length_singleton];omega }
theorem RP (h:bS B s) (hB:B+300≤250000000):bS (B+300) (o7 f s):=by
 have hm:=h.mono (B':=B+300) (by omega) hB
 have hmv:=h.mv
 unfold o7
 by_cases hp:oJ s.sd s.la f.st=0
 ·rw[if_neg (fun q=>q hp)]
  have Jd:=Iq hm hp
  split
  ·exact iM Jd
  ·split
   ·exact p9 Jd
   ·split
    ·exact p9 Jd
    ·rename_i ho
     obtain⟨h1,h2⟩:=IG h ho
     have q1:=Ex h hp
     have q2:=(pZ h.sd hp).1
     have q3:=VX h.sd hp
     have hl:=(TP (s:= { s with la:=f.st }) (kind:=f.k) (on:=f.on) (w:=f.w) (xx:=f.x) (sg:=s.cf.sg) (own:=false) Jd q1 h1 q2 q3 h2 (by show(s.mv.length:Int)+s.l.length+1≤B+300;omega))
     refine Aht hl ?_
     have e:(j0 (gJ s.cf s.sh.h f.st f.k s.cf.sg false) s.l).length≤s.l.length+1:=by
      unfold j0
      rw[List.length_append,List.length_cons,List.length_take,List.length_drop]
      omega
     show(s.mv.length:Int)+((j0 (gJ s.cf s.sh.h f.st f.k s.cf.sg false) s.l).length:Int)+1≤B+300
     omega
 ·rw[if_pos hp];exact iM hm
def gM:List (Nat×Nat):= [(0,0),(1,0),(2,0),(3,0),(4,0),(5,0),(6,1),(7,0),(8,0)]
def gG:List (Nat×Nat):= [(0,0),(1,0),(2,0),(3,0),(4,0),(5,0),(6,1),(7,0),(8,0)]
def gF:List (Nat×Nat):= [(0,0),(1,1),(2,1),(3,1),(4,1),(5,1),(6,1),(7,0),(8,0),(9,0)]
def f9:List (Nat×Nat):= [(0,0),(1,0),(2,0),(3,0),(4,0),(5,0),(6,0),(7,0),(8,0),(9,0),(10,0),(11,0),(12,1)]
theorem Pf {t st:Int} {e:Bool} {d:ByteArray} {k on w:Int} {xx:Bool} {c la n:Int} {pa:Option Addr} {pn pc:Nat} {ps:List Pr} (hI:bS B s) (hst:1≤st∧st≤2147483647) (hk:k=1∨k=2) (hb:B≤249000000) (hK:∀M mc,K (.tuple #[]) (bY x a (o7 ⟨t,st,e,d,k,on,w,xx,c,la,n,pa,pn,pc,ps⟩ s) M mc R)):aA Tryz.prog 167 #[.pointer (some ⟨x,0,none⟩),.agg #[.int .i64 t,.int .i64 st,.bool e,.string d,.int .i64 k,.int .i64 on,.int .i64 w,.bool xx,.int .i64 c,.int .i64 la,.int .i64 n,.slice pa pn pc]] (bY x a s M mc R) K:=by
 have hmv:=hI.mv
 have hbb:=hI.bb
 unfold o7 at hK
 dsimp only at hK
 dsimp only[bY,pM]
 by_cases hp:oJ s.sd s.la st=0
 ·rw[if_neg (fun q=>q hp)] at hK
  have hI1:=Iq hI hp
  by_cases h1:on=st
  ·rw[if_pos h1] at hK
   refine aH Tryz.func167 ?_
   repeat' (first|(show aM _ _ _ _ _ _ _;refine i0 ?_)|refine Bf ?_|refine dw gM ?_|refine dw gG ?_|refine dw gF ?_|refine dw f9 ?_|refine wr ?_|refine w5 ?_ ?_|((refine bh fun h=>?_) <;> try exact w6 h)|(refine aE fun hA=>?_;subst hA)|intro _|(show aA _ 255 _ _ _;refine CA (h:=tV (sd:=s.sd) (la:=s.la) (nx:=s.nx) hI.sd ?_);rw[hp,if_pos rfl])|(show aA _ 79 _ _ _;refine CA (h:=dH (x:=x) (a:=a) (s:= { s with la:=st }) hI1 (by decide) (by decide) (fun _ _=>?_))))
   all_goals(refine aC ?_;exact aB (hK _ _))
  ·rw[if_neg h1] at hK
   cases h2:DY s.dr st
   ·rw[h2,if_pos rfl] at hK
    refine aH Tryz.func167 ?_
    repeat' (first|(show aM _ _ _ _ _ _ _;refine i0 ?_)|refine Bf ?_|refine dw gM ?_|refine dw gG ?_|refine dw gF ?_|refine dw f9 ?_|refine wr ?_|refine w5 ?_ ?_|((refine bh fun h=>?_) <;> try exact w6 h)|(refine aE fun hA=>?_;subst hA)|intro _|(show aA _ 255 _ _ _;refine CA (h:=tV (sd:=s.sd) (la:=s.la) (nx:=s.nx) hI.sd ?_);rw[hp,if_pos rfl])|(show aA _ 256 _ _ _;refine CA (h:=Fo (d:=s.dr) ?_);rw[h2])|(show aA _ 257 _ _ _;refine CA (h:=jB (x:=x) (a:=a) (s:= { s with la:=st }) hI1 (by decide) hst (fun _ _=>?_))))
    all_goals(refine aC ?_;exact aB (hK _ _))
   ·rw[h2,if_neg (by decide)] at hK
    have hown:fH { s with la:=st } false=fH s false:=rfl
    by_cases h3:s.sh.h.st≤(fH s false:Nat)
    ·rw[if_pos h3] at hK
     refine aH Tryz.func167 ?_
     repeat' (first|(show aM _ _ _ _ _ _ _;refine i0 ?_)|refine Bf ?_|refine dw gM ?_|refine dw gG ?_|refine dw gF ?_|refine dw f9 ?_|refine wr ?_|refine w5 ?_ ?_|((refine bh fun h=>?_) <;> try exact w6 h)|(refine aE fun hA=>?_;subst hA)|intro _|(show aA _ 255 _ _ _;refine CA (h:=tV (sd:=s.sd) (la:=s.la) (nx:=s.nx) hI.sd ?_);rw[hp,if_pos rfl])|(show aA _ 256 _ _ _;refine CA (h:=Fo (d:=s.dr) ?_);rw[h2])|(show aA _ 84 _ _ _;refine CA (h:=qZ (x:=x) (a:=a) (s:= { s with la:=st }) (M:=M) (mc:=mc) hI1 ?_);rw[hown])|(show aA _ 214 _ _ _;refine CA (h:=xO (s:=s.sh) ?_))|(show aA _ 257 _ _ _;refine CA (h:=jB (x:=x) (a:=a) (s:= { s with la:=st }) hI1 (by decide) hst (fun _ _=>?_))))
     all_goals(refine aC ?_;exact aB (hK _ _))
    ·rw[if_neg h3] at hK
     obtain⟨hr1,hr2⟩:=IG hI h3
     have q1:=Ex hI hp
     refine aH Tryz.func167 ?_
     repeat' (first|(show aM _ _ _ _ _ _ _;refine i0 ?_)|refine Bf ?_|refine dw gM ?_|refine dw gG ?_|refine dw gF ?_|refine dw f9 ?_|refine wr ?_|refine w5 ?_ ?_|((refine bh fun h=>?_) <;> try exact w6 h)|(refine aE fun hA=>?_;subst hA)|intro _|(show aA _ 255 _ _ _;refine CA (h:=tV (sd:=s.sd) (la:=s.la) (nx:=s.nx) hI.sd ?_);rw[hp,if_pos rfl])|(show aA _ 256 _ _ _;refine CA (h:=Fo (d:=s.dr) ?_);rw[h2])|(show aA _ 84 _ _ _;refine CA (h:=qZ (x:=x) (a:=a) (s:= { s with la:=st }) (M:=M) (mc:=mc) hI1 ?_);rw[hown])|(show aA _ 214 _ _ _;refine CA (h:=xO (s:=s.sh) ?_))|(show aA _ 115 _ _ _;refine CA (h:=P6 (x:=x) (a:=a) (s:= { s with la:=st }) (M:=M) (mc:=mc) hI1 hk hI.cf.2.2 q1 hr1 hst ?_))|(show aA _ 197 _ _ _;refine CA (h:=H5 (x:=x) (a:=a) (s:=Hl st k on w xx false s.cf.sg { s with la:=st }) (M:=M) (mc:=mc) (R:=R) (by show s.mv.length≤1000000000;omega) (fun _ _=>?_))))
     all_goals(refine aC ?_;exact aB (hK _ _))
 ·rw[if_pos hp] at hK
  have Jd:oJ s.sd s.la st=1:=by unfold oJ at hp ⊢;split <;> first|rfl|(rename_i hq;rw[if_pos hq] at hp;exact absurd rfl hp)
  refine aH Tryz.func167 ?_
  repeat' (first|(show aM _ _ _ _ _ _ _;refine i0 ?_)|refine Bf ?_|refine dw gM ?_|refine dw gG ?_|refine dw gF ?_|refine dw f9 ?_|refine wr ?_|refine w5 ?_ ?_|((refine bh fun h=>?_) <;> try exact w6 h)|(refine aE fun hA=>?_;subst hA)|intro _|(show aA _ 255 _ _ _;refine CA (h:=tV (sd:=s.sd) (la:=s.la) (nx:=s.nx) hI.sd ?_);rw[Jd,if_neg (by decide)])|(show aA _ 79 _ _ _;refine CA (h:=dH (x:=x) (a:=a) (s:=s) hI (by decide) (by decide) (fun _ _=>?_))))
  all_goals(refine aC ?_;exact aB (hK _ _))
end
section
variable {R C:List HP} {K:Value→List HP→Prop} {x mc i b p r:Nat} {a:Ca} {s:Cn} {M:Option Addr} {B B' id code:Int} {own:Bool} {m m':Sm} {f:Fm} {y:Ys} {l:List Sm} {cf:Cf} {h3:eE} {z:Yp}
theorem Fw {n b:Int} (h:qO n b≠0):lI n b=n:=by
 unfold qO at h
 unfold lI
 split at h
 ·rename_i hq
  rw[if_pos hq]
  unfold Ce at h
  unfold Dn
  split at h
  ·exact absurd rfl h
  ·rename_i hf;rw[if_neg hf]
 ·rename_i hq;rw[if_neg hq]
theorem FM {t b:Int} {s:Ld} (h:s5 t b s≠0):pB t b s=s:=by
 unfold s5 at h
 unfold pB
 split at h
 ·rename_i ht
  rw[if_pos ht,Fw h]
 ·rename_i ht
  rw[if_neg ht]
  cases he:o9 t s.l with
  |none=>rfl
  |some e=>
   rw[he] at h
   dsimp only at h ⊢
   rw[Fw h]
   have:=(qX he).1
   rw[jT _ this]
theorem Ch (h:bS B s) {q:Ld} (hq:F1 B q):bS B { s with ld:=q,sl:=iF s.sl s.now }:=
 { h with
   ld:=hq
   sl:=by
    have h1:=h.sl
    have h2:=h.now
    show(0≤(iF s.sl s.now).nw∧(iF s.sl s.now).nw≤B)∧0≤(iF s.sl s.now).si∧(iF s.sl s.now).si≤B
    unfold iF
    split
    ·exact h1
    ·dsimp only
     split <;> omega }
theorem WS (h:bS B s):bS B (s4 f s):=by
 unfold s4
 split
 ·exact iM h
 ·split
  ·exact iM h
  ·exact Ch h (OE h.ld)
def mF:List (Nat×Nat):= [(0,0),(1,0),(2,0),(3,0),(4,0),(5,0),(6,1),(7,0),(8,0)]
def mC:List (Nat×Nat):= [(0,0),(1,0),(2,0),(3,0),(4,0),(5,0),(6,0),(7,0),(8,1)]
theorem Hk {t st:Int} {e:Bool} {d:ByteArray} {k on w:Int} {xx:Bool} {c la n:Int} {pa:Option Addr} {pn pc:Nat} {ps:List Pr} (hI:bS B s) (hK:∀M mc,K (.tuple #[]) (bY x a (s4 ⟨t,st,e,d,k,on,w,xx,c,la,n,pa,pn,pc,ps⟩ s) M mc R)):aA Tryz.prog 168 #[.pointer (some ⟨x,0,none⟩),.agg #[.int .i64 t,.int .i64 st,.bool e,.string d,.int .i64 k,.int .i64 on,.int .i64 w,.bool xx,.int .i64 c,.int .i64 la,.int .i64 n,.slice pa pn pc]] (bY x a s M mc R) K:=by
 have hbb:=hI.bb
 unfold s4 at hK
 dsimp only at hK
 dsimp only[bY,pM]
 by_cases h0:n=0
 ·rw[if_pos h0] at hK
  refine aH Tryz.func168 ?_
  repeat' (first|refine v46 ?_|refine dw mF ?_|refine dw mC ?_|refine wr ?_|refine w5 ?_ ?_|((refine bh fun h=>?_) <;> try exact w6 h)|(refine aE fun hA=>?_;subst hA)|intro _|(show aA _ 79 _ _ _;refine CA (h:=dH (x:=x) (a:=a) (s:=s) hI (by decide) (by decide) (fun _ _=>?_))))
  all_goals(refine aC ?_;exact aB (hK _ _))
 ·rw[if_neg h0] at hK
  by_cases hg:s5 0 n s.ld=0
  ·rw[if_neg (fun q=>q hg)] at hK
   refine aH Tryz.func168 ?_
   repeat' (first|refine v46 ?_|refine dw mF ?_|refine dw mC ?_|refine wr ?_|refine w5 ?_ ?_|((refine bh fun h=>?_) <;> try exact w6 h)|(refine aE fun hA=>?_;subst hA)|intro _|(show aA _ 258 _ _ _;refine CA (h:=Ba (s:=s.ld) (hI.ld.ok (by omega)) ?_);rw[hg])|(show aA _ 259 _ _ _;refine CA (h:=Ak (s:=s.sl) ?_)))
   all_goals(refine aC ?_;exact aB (hK _ _))
  ·rw[if_pos hg] at hK
   have hs:=FM hg
   refine aH Tryz.func168 ?_
   repeat' (first|(show Br _ _ _;refine Br.t (by first | (simp <;> done) | simpa using hg) ?_)|refine v46 ?_|refine dw mF ?_|refine dw mC ?_|refine wr ?_|refine w5 ?_ ?_|((refine bh fun h=>?_) <;> try exact w6 h)|(refine aE fun hA=>?_;subst hA)|intro _|(show aA _ 258 _ _ _;refine CA (h:=Ba (s:=s.ld) (hI.ld.ok (by omega)) ?_);rw[hs])|(show aA _ 79 _ _ _;refine CA (h:=dH (x:=x) (a:=a) (s:=s) hI (by decide) (by decide) (fun _ _=>?_))))
   all_goals(refine aC ?_;exact aB (hK _ _))
theorem Gc {q:Xs} {n:Int}:bB (oT q n)=bB q:=by
 cases q with
 |b z=>rfl
 |i z=>rfl
theorem ZR {n:Int} (h:ED B m):ED B { m with x:=oT m.x n }:=by
 obtain⟨h1,h2,h3,h4⟩:=h
 refine⟨h1,?_,h3,h4⟩
 cases hx:m.x with
 |b z=>rw[hx] at h2;exact h2
 |i z=>
  rw[hx] at h2
  by_cases hn:1≤n
  ·simp only[oT,if_pos hn];exact h2
  ·simp only[oT,if_neg hn];exact h2
theorem NA (h:bS B s) (hm:b7 f.st s.l=some m):bS B (lV f m s):=by
 obtain⟨hi,hmid⟩:=aZ hm
 unfold lV
 split
 ·exact p9 h
 ·split
  ·exact p9 h
  ·split
   ·split
    ·exact p9 h
    ·exact Ch h (OE h.ld)
   ·split
    ·exact p9 h
    ·rw[eB (id:=f.st) (show({ m with x:=oT m.x f.n }:Sm).id=f.st from hmid)]
     exact kZ (s:= { s with sl:=iF s.sl s.now }) (Ch h h.ld) hi rfl rfl (ZR (h.st m (List.mem_of_getElem? hi)))
def cY:List (Nat×Nat):= [(0,0),(1,0),(2,0),(3,0),(4,0),(5,0),(6,0),(7,0),(8,1),(9,0)]
def dB:List (Nat×Nat):= [(0,0),(1,1),(2,1),(3,1),(4,1),(5,0)]
def cW:List (Nat×Nat):= [(0,0),(1,0),(2,0),(3,0),(4,0),(5,0),(6,0),(7,0),(8,1)]
theorem DW {t st:Int} {e:Bool} {d:ByteArray} {k on w:Int} {xx:Bool} {c la n:Int} {pa:Option Addr} {pn pc:Nat} {ps:List Pr} (hI:bS B s) (ht:t=10∨t=11) (hst:1≤st∧st≤2147483647) (hm:b7 st s.l=some m) (hK:∀M mc,K (.tuple #[]) (bY x a (lV ⟨t,st,e,d,k,on,w,xx,c,la,n,pa,pn,pc,ps⟩ m s) M mc R)):aA Tryz.prog 263 #[.pointer (some ⟨x,0,none⟩),.agg #[.int .i64 t,.int .i64 st,.bool e,.string d,.int .i64 k,.int .i64 on,.int .i64 w,.bool xx,.int .i64 c,.int .i64 la,.int .i64 n,.slice pa pn pc],.pointer (some ⟨b,0,none⟩)] (rT b m::cnH x a s M mc (cB st s.l) b R) K:=by
 have hbb:=hI.bb
 obtain⟨hi,hmid⟩:=aZ hm
 unfold lV at hK
 dsimp only at hK
 refine Uf fun hok=>?_
 dsimp only[cnH,pM]
 have hk2:bB m.x=1∨bB m.x=2:=by cases m.x <;> simp[bB]
 rcases hk2 with h1|h1 <;> rcases ht with rfl|rfl
 ·rw[if_neg (by rw[h1];simp)] at hK
  by_cases h0:n=0
  ·rw[if_pos h0] at hK
   refine aH Tryz.func263 ?_
   repeat' (first|refine v46 ?_|refine dw cY ?_|refine dw dB ?_|refine dw cW ?_|refine wr ?_|refine w5 ?_ ?_|((refine bh fun h=>?_) <;> try exact w6 h)|(refine aE fun hA=>?_;subst hA)|intro _|(show aA _ 107 _ _ _;refine CA (h:=kJ (m:=m) ?_);rw[h1])|(show aA _ 257 _ _ _;refine CA (h:=aA.ent (dY (x:=x) (a:=a) (s:=s) (M:=M) (mc:=mc) (R:=R) hi) (jB hI (by decide) hst (fun _ _=>?_)))))
   all_goals(refine aC ?_;exact aB (hK _ _))
  ·rw[if_neg h0,if_pos h1] at hK
   by_cases hg:s5 st n s.ld=0
   ·rw[if_neg (fun q=>q hg)] at hK
    refine aH Tryz.func263 ?_
    repeat' (first|refine v46 ?_|refine dw cY ?_|refine dw dB ?_|refine dw cW ?_|refine wr ?_|refine w5 ?_ ?_|((refine bh fun h=>?_) <;> try exact w6 h)|(refine aE fun hA=>?_;subst hA)|intro _|(show aA _ 107 _ _ _;refine CA (h:=kJ (m:=m) ?_);rw[h1])|(show aA _ 258 _ _ _;refine CA (h:=Ba (s:=s.ld) (hI.ld.ok (by omega)) ?_);rw[hg])|(show aA _ 259 _ _ _;refine CA (h:=Ak (s:=s.sl) ?_)))
    all_goals(refine aC ?_;exact aK (aG.trans (by exact aY) ((dY (x:=x) (a:=a) (s:= { s with ld:=pB st n s.ld,sl:=iF s.sl s.now }) (M:=M) (mc:=mc) (R:=R) (b:=b) hi))) (hK _ _))
   ·rw[if_pos hg] at hK
    have hs:=FM hg
    refine aH Tryz.func263 ?_
    repeat' (first|(show Br _ _ _;refine Br.t (by first | (simp <;> done) | simpa using hg) ?_)|refine v46 ?_|refine dw cY ?_|refine dw dB ?_|refine dw cW ?_|refine wr ?_|refine w5 ?_ ?_|((refine bh fun h=>?_) <;> try exact w6 h)|(refine aE fun hA=>?_;subst hA)|intro _|(show aA _ 107 _ _ _;refine CA (h:=kJ (m:=m) ?_);rw[h1])|(show aA _ 258 _ _ _;refine CA (h:=Ba (s:=s.ld) (hI.ld.ok (by omega)) ?_);rw[hs])|(show aA _ 257 _ _ _;refine CA (h:=aA.ent (dY (x:=x) (a:=a) (s:=s) (M:=M) (mc:=mc) (R:=R) hi) (jB hI (by decide) hst (fun _ _=>?_)))))
    all_goals(refine aC ?_;exact aB (hK _ _))
 ·rw[if_pos (by rw[h1];simp)] at hK
  refine aH Tryz.func263 ?_
  repeat' (first|refine v46 ?_|refine dw cY ?_|refine dw dB ?_|refine dw cW ?_|refine wr ?_|refine w5 ?_ ?_|((refine bh fun h=>?_) <;> try exact w6 h)|(refine aE fun hA=>?_;subst hA)|intro _|(show aA _ 107 _ _ _;refine CA (h:=kJ (m:=m) ?_);rw[h1])|(show aA _ 257 _ _ _;refine CA (h:=aA.ent (dY (x:=x) (a:=a) (s:=s) (M:=M) (mc:=mc) (R:=R) hi) (jB hI (by decide) hst (fun _ _=>?_)))))
  all_goals(refine aC ?_;exact aB (hK _ _))
 ·rw[if_pos (by rw[h1];simp)] at hK
  refine aH Tryz.func263 ?_
  repeat' (first|refine v46 ?_|refine dw cY ?_|refine dw dB ?_|refine dw cW ?_|refine wr ?_|refine w5 ?_ ?_|((refine bh fun h=>?_) <;> try exact w6 h)|(refine aE fun hA=>?_;subst hA)|intro _|(show aA _ 107 _ _ _;refine CA (h:=kJ (m:=m) ?_);rw[h1])|(show aA _ 257 _ _ _;refine CA (h:=aA.ent (dY (x:=x) (a:=a) (s:=s) (M:=M) (mc:=mc) (R:=R) hi) (jB hI (by decide) hst (fun _ _=>?_)))))
  all_goals(refine aC ?_;exact aB (hK _ _))
 ·rw[if_neg (by rw[h1];simp)] at hK
  by_cases h0:n=0
  ·rw[if_pos h0] at hK
   refine aH Tryz.func263 ?_
   repeat' (first|refine v46 ?_|refine dw cY ?_|refine dw dB ?_|refine dw cW ?_|refine wr ?_|refine w5 ?_ ?_|((refine bh fun h=>?_) <;> try exact w6 h)|(refine aE fun hA=>?_;subst hA)|intro _|(show aA _ 107 _ _ _;refine CA (h:=kJ (m:=m) ?_);rw[h1])|(show aA _ 257 _ _ _;refine CA (h:=aA.ent (dY (x:=x) (a:=a) (s:=s) (M:=M) (mc:=mc) (R:=R) hi) (jB hI (by decide) hst (fun _ _=>?_)))))
   all_goals(refine aC ?_;exact aB (hK _ _))
  ·rw[if_neg h0,if_neg (by rw[h1];decide)] at hK
   by_cases hg:EG m.x n=0
   ·rw[if_neg (fun q=>q hg),eB (id:=st) (show({ m with x:=oT m.x n }:Sm).id=st from hmid)] at hK
    refine aH Tryz.func263 ?_
    repeat' (first|refine v46 ?_|refine dw cY ?_|refine dw dB ?_|refine dw cW ?_|refine wr ?_|refine w5 ?_ ?_|((refine bh fun h=>?_) <;> try exact w6 h)|(refine aE fun hA=>?_;subst hA)|intro _|(show aA _ 107 _ _ _;refine CA (h:=kJ (m:=m) ?_);rw[h1])|(show aA _ 86 _ _ _;refine CA (h:=L8 (m:=m) (fun _=>?_)))|(show aA _ 344 _ _ _;refine CA (h:=OW (x:=m.x) ?_);rw[hg])|(show aA _ 259 _ _ _;refine CA (h:=Ak (s:=s.sl) ?_)))
    all_goals(refine aC ?_;exact aK (aG.trans (by exact aY) ((aG.trans (HS Gc) (lP (x:=x) (a:=a) (s:= { s with sl:=iF s.sl s.now }) (M:=M) (mc:=mc) (R:=R) (b:=b) (m':= { m with x:=oT m.x n }) hi rfl)))) (hK _ _))
   ·rw[if_pos hg] at hK
    have hsx:oT m.x n=m.x:=by
     cases hx:m.x with
     |b z=>rfl
     |i z=>
      rw[hx] at hg
      unfold EG at hg
      unfold oT
      by_cases hn:1≤n
      ·simp only[if_pos hn] at hg;exact absurd trivial hg
      ·simp only[if_neg hn]
    refine aH Tryz.func263 ?_
    repeat' (first|(show Br _ _ _;refine Br.t (by first | (simp <;> done) | simpa using hg) ?_)|refine v46 ?_|refine dw cY ?_|refine dw dB ?_|refine dw cW ?_|refine wr ?_|refine w5 ?_ ?_|((refine bh fun h=>?_) <;> try exact w6 h)|(refine aE fun hA=>?_;subst hA)|intro _|(show aA _ 107 _ _ _;refine CA (h:=kJ (m:=m) ?_);rw[h1])|(show aA _ 86 _ _ _;refine CA (h:=L8 (m:=m) (fun _=>?_)))|(show aA _ 344 _ _ _;refine CA (h:=OW (x:=m.x) ?_);rw[hsx])|(show aA _ 257 _ _ _;refine CA (h:=aA.ent (aG.trans (HS (m:=m) (z:=m.x) rfl) (dY (x:=x) (a:=a) (s:=s) (M:=M) (mc:=mc) (R:=R) hi)) (jB hI (by decide) hst (fun _ _=>?_)))))
    all_goals(refine aC ?_;exact aB (hK _ _))
end
end Go.Proofs.YtifgibijcmppmaaGreat
