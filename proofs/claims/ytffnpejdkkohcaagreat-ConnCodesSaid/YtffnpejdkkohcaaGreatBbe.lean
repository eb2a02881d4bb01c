/- A part of the proof: lemmas; each with the conditions that it states. -/
import Derived.Test.YtffnpejdkkohcaaGreatBbd
set_option linter.unusedVariables false
set_option linter.unusedSimpArgs false
set_option maxRecDepth 100000
set_option maxHeartbeats 40000000
namespace Go.Proofs.YtffnpejdkkohcaaGreat
open Go Go.Proofs Go.Sl
attribute [local irreducible] aM eY cU bQ aL aW aA dS dT aZ dR pt ro fN star sep bH
attribute [local irreducible] mp FV
variable {R C:List HP} {K:KP} {x mc i b p r t pn pc j:Nat} {a:Ca} {s:Cn} {M pa:Option Addr} {B B' id code k c st w o on sg kind n:Int} {gone own xx e:Bool} {m m':Sm} {f:Fm} {y:Ys} {l acc:List Sm} {cf:Cf} {h3:dI} {z:Yp} {d:ByteArray} {mv:Mv} {ps:List Pr} {q:Ld} {g:Sm->Sm}
section
variable {la:Int}
def AF:List (Nat×Nat):= [(5,0),(6,1),(1,1),(2,1),(3,1),(4,1),(7,1),(0,2),(8,0),(9,0),(10,1)]
theorem kR {T:HP} {z:ByteArray} {b:Bool} (hb:s.mv.length<=1000000000) (hK:∀M mc,K (.tuple #[]) (p8 x a (tI ⟨k,id,n,z,b⟩ s) M mc T R)):CT 149 #[PO x,.agg #[I6 k,I6 id,I6 n,.string z,.bool b]] (p8 x a s M mc T R) K:=by
 dsimp only[p8,tI] at hK ⊢
 refine aJ Tryz.func149 ?_
 repeat' (first|(show aM _ _ _ _ _ _ _;(refine cN (E:=mvC) (ys:= [⟨k,id,n,z,b⟩]) ?_;intro _ _))|refine v54 ?_|refine dw AF ?_|refine w5 ?_ ?_|((refine bh fun h=>?_) <;> try exact w6 h)|(refine aF fun hA=>?_;subst hA)|intro _)
 all_goals(refine aC ?_;exact aB (hK _ _))
theorem Amc (h:jD z k≠0):jD z k=9:=by
 unfold jD at *
 split at h
 ·rename_i hq;rw[if_pos hq]
 ·exact absurd rfl h
theorem XU (h:jD z k≠0):fG z k=z:=by unfold fG;rw[if_neg h]
theorem yJ (h:bR B s) (hk:0<=k/\k<=300) (hb:B+300<=250000000):bR (B+300) { s with rv:=fG s.rv k }:=
 { h.mono (B':=B+300) (by omega) hb with rv:=Afq h.rv (by omega) }
theorem fS (h:m'.id=id):zM m' s= { s with l:=s.l.set (cB id s.l) m' }:=by subst h;rfl
theorem xM (h:bR B s) (hm:bX id s.l=some m) (hk:0<=k/\k<=300) (hb:B+300<=250000000) (hd:d.size<=256):bR (B+300) { tI mv { s with rv:=fG s.rv k } with l:=s.l.set (cB id s.l) (eB m d e) }:=by
 obtain⟨hi,hmid⟩:=aX hm
 refine mA (s:=tI mv { s with rv:=fG s.rv k }) (m:=m) ?_ hi rfl rfl (Zn (h.st m (List.mem_of_getElem? hi)) hd (Int.le_refl _))
 exact { yJ h hk hb with
  mv:=by
   have:=h.mv
   show((s.mv++ [mv]).length:Int)+s.l.length<=B+300
   rw[List.length_append,List.length_singleton];omega }
theorem Dl (h:bR B s) (hm:bX m.id s.l=some m):bR B (kT m s):=by
 unfold kT
 split
 ·exact zW h hm
 ·exact h
theorem Z1 (h:bR B s) (hB:B+300<=250000000) (hd:f.d.size<=256):bR (B+300) (qM f s):=by
 have hk:0<=(if f.t=0 then((f.d.size:Nat):Int) else 0)/\(if f.t=0 then((f.d.size:Nat):Int) else 0)<=300:=by split <;> omega
 unfold qM
 generalize (if f.t=0 then((f.d.size:Nat):Int) else 0)=kk at hk ⊢
 split
 ·exact iZ (h.mono (by omega) hB)
 ·cases hm:bX f.st s.l with
  |none=>exact nE (yJ h hk hB)
  |some m=>
   dsimp only
   split
   ·exact rA (nE (yJ h hk hB))
   ·have hmid:=(aX hm).2
    rw[fS (id:=f.st) (show(eB m f.d f.e).id=f.st from hmid)]
    exact Dl (xM h hm hk hB hd) (mM hm rfl)
def cV:List (Nat×Nat):= [(0,0),(1,0),(2,0),(3,0),(4,0),(5,0),(6,1),(7,0),(8,0),(9,0),(10,0),(11,0)]
theorem Sv {la:Int} (hI:bR B s) (hB:B+300<=250000000) (hst:1<=st/\st<=2147483647) (hd:d.size<=256) (hK:∀M mc,K (.tuple #[]) (cY x a (qM ⟨0,st,e,d,k,on,w,xx,c,la,n,pa,pn,pc,ps⟩ s) M mc R)):CT 121 #[PO x,.agg #[I6 0,I6 st,.bool e,.string d,I6 k,I6 on,I6 w,.bool xx,I6 c,I6 la,I6 n,.slice pa pn pc]] (cY x a s M mc R) K:=by
 have hN:(if(0:Int)=0 then((d.size:Nat):Int) else 0)=((d.size:Nat):Int):=if_pos rfl
 have hI3:=hI.mono (B':=B+300) (by omega) hB
 have hN3:0<=(((d.size:Nat):Int):Int)/\(((d.size:Nat):Int):Int)<=300:=by omega
 have hrv:=hI.rv
 have hI1:=yJ (k:=((d.size:Nat):Int)) hI hN3 hB
 have hrv1:=hI1.rv
 have hmv:=hI.mv
 have hbb:=hI.bb
 unfold Ha at hrv hrv1
 unfold qM at hK
 dsimp only at hK hrv1
 rw[hN] at hK
 dsimp only[cY,p8]
 by_cases hg:jD s.rv ((d.size:Nat):Int)=0
 ·rw[if_neg (fun hq=>hq hg)] at hK
  cases hm:bX st s.l with
  |none=>
   rw[hm] at hK
   refine aJ Tryz.func121 ?_
   repeat' (first|refine Gr ?_|refine dw cV ?_|refine w5 ?_ ?_|((refine bh fun h=>?_) <;> try exact w6 h)|(refine aF fun hA=>?_;subst hA)|intro _|(show aA _ 197 _ _ _;refine CA (h:=nC (z:=s.rv) (k:=((d.size:Nat):Int)) hI.rv (by omega) (by omega) ?_);rw[hg])|(show aA _ 144 _ _ _;refine CA (h:=mY (l:=s.l) hI.sm hm ?_))|(show aA _ 87 _ _ _;refine CA (h:=uO (y:=fG s.rv ((d.size:Nat):Int)) (k:=((d.size:Nat):Int)) (by omega) (by omega) (fun _=>?_))))
   all_goals(refine aC ?_;exact aB (hK _ _))
  |some m=>
   rw[hm] at hK
   dsimp only at hK
   obtain⟨hi,hmid⟩:=aX hm
   have hIm:=hI.st m (List.mem_of_getElem? hi)
   have hgo:=hIm.got
   by_cases hw:dO m 0 d e=0
   ·rw[if_neg (fun hq=>hq hw),fS (id:=st) (show(eB m d e).id=st from hmid)] at hK
    rw[if_neg (fun hq:(0:Int)=1/\_=>absurd hq.1 (by decide))] at hK
    refine aJ Tryz.func121 ?_
    repeat' (first|refine Gr ?_|refine dw cV ?_|refine w5 ?_ ?_|((refine bh fun h=>?_) <;> try exact w6 h)|(refine aF fun hA=>?_;subst hA)|intro _|(show aA _ 197 _ _ _;refine CA (h:=nC (z:=s.rv) (k:=((d.size:Nat):Int)) hI.rv (by omega) (by omega) ?_);rw[hg])|(show aA _ 144 _ _ _;refine CA (h:=gG (l:=s.l) hI.sm hm (fun bq=>?_)))|(show aA _ 198 _ _ _;refine CA (h:=Bg (m:=m) hw (by omega) (by omega) ?_))|(show aA _ 149 _ _ _;refine CA (h:=kR (x:=x) (a:=a) (s:= { s with rv:=fG s.rv ((d.size:Nat):Int) }) (M:=M) (mc:=mc) (T:=Na a.l s.l (cB st s.l) bq) (R:=sR bq (eB m d e)::R) (k:=2) (id:=st) (n:=((d.size:Nat):Int)) (z:=d) (b:=e) (by show s.mv.length<=1000000000;omega) (fun _ _=>?_)))|(show aA _ 89 _ _ _;refine CA (h:=mC (x:=x) (a:=a) (s:=tI ⟨2,st,((d.size:Nat):Int),d,e⟩ { s with rv:=fG s.rv ((d.size:Nat):Int) }) (i:=cB st s.l) (m:=m) (R:=R) (m':=eB m d e) hi rfl (xM hI hm hN3 hB hd) (mM hm rfl) (fun _ _=>?_))))
    all_goals(refine aC ?_;exact aB (hK _ _))
   ·rw[if_pos hw] at hK
    refine aJ Tryz.func121 ?_
    repeat' (first|refine Gr ?_|refine dw cV ?_|refine w5 ?_ ?_|((refine bh fun h=>?_) <;> try exact w6 h)|(refine aF fun hA=>?_;subst hA)|intro _|(show aA _ 197 _ _ _;refine CA (h:=nC (z:=s.rv) (k:=((d.size:Nat):Int)) hI.rv (by omega) (by omega) ?_);rw[hg])|(show aA _ 144 _ _ _;refine CA (h:=gG (l:=s.l) hI.sm hm (fun _=>?_)))|(show aA _ 198 _ _ _;refine CA (h:=GZ (m:=m) hw ?_))|(show aA _ 87 _ _ _;refine CA (h:=uO (y:=fG s.rv ((d.size:Nat):Int)) (k:=((d.size:Nat):Int)) (by omega) (by omega) (fun _=>?_)))|(show aA _ 194 _ _ _;refine CA (h:=aA.ent (f3 (x:=x) (a:=a) (s:= { s with rv:=d8 (fG s.rv ((d.size:Nat):Int)) ((d.size:Nat):Int) }) (M:=M) (mc:=mc) (R:=R) hi) (jU (nE hI1) KQ hst (fun _ _=>?_)))))
    all_goals(refine aC ?_;exact aB (hK _ _))
 ·rw[if_pos hg] at hK
  have he9:=Amc hg
  have hsm:=XU hg
  refine aJ Tryz.func121 ?_
  repeat' (first|refine Gr ?_|refine dw cV ?_|refine w5 ?_ ?_|((refine bh fun h=>?_) <;> try exact w6 h)|(refine aF fun hA=>?_;subst hA)|intro _|(show aA _ 197 _ _ _;refine CA (h:=nC (z:=s.rv) (k:=((d.size:Nat):Int)) hI.rv (by omega) (by omega) ?_);rw[he9,hsm])|(show aA _ 57 _ _ _;refine CA (h:=dK (x:=x) (a:=a) (s:=s) hI (by decide) (by decide) (fun _ _=>?_))))
  all_goals(refine aC ?_;exact aB (hK _ _))
theorem Rz {la:Int} (hI:bR B s) (hB:B+300<=250000000) (hst:1<=st/\st<=2147483647) (hd:d.size<=256) (hK:∀M mc,K (.tuple #[]) (cY x a (qM ⟨1,st,e,d,k,on,w,xx,c,la,n,pa,pn,pc,ps⟩ s) M mc R)):CT 121 #[PO x,.agg #[I6 1,I6 st,.bool e,.string d,I6 k,I6 on,I6 w,.bool xx,I6 c,I6 la,I6 n,.slice pa pn pc]] (cY x a s M mc R) K:=by
 have hN:(if(1:Int)=0 then((d.size:Nat):Int) else 0)=0:=if_neg (by decide)
 have hI3:=hI.mono (B':=B+300) (by omega) hB
 have hN3:0<=(0:Int)/\(0:Int)<=300:=by omega
 have hrv:=hI.rv
 have hI1:=yJ (k:=0) hI hN3 hB
 have hrv1:=hI1.rv
 have hmv:=hI.mv
 have hbb:=hI.bb
 unfold Ha at hrv hrv1
 unfold qM at hK
 dsimp only at hK hrv1
 rw[hN] at hK
 dsimp only[cY,p8]
 by_cases hg:jD s.rv 0=0
 ·rw[if_neg (fun hq=>hq hg)] at hK
  cases hm:bX st s.l with
  |none=>
   rw[hm] at hK
   refine aJ Tryz.func121 ?_
   repeat' (first|refine Gr ?_|refine dw cV ?_|refine w5 ?_ ?_|((refine bh fun h=>?_) <;> try exact w6 h)|(refine aF fun hA=>?_;subst hA)|intro _|(show aA _ 197 _ _ _;refine CA (h:=nC (z:=s.rv) (k:=0) hI.rv (by omega) (by omega) ?_);rw[hg])|(show aA _ 144 _ _ _;refine CA (h:=mY (l:=s.l) hI.sm hm ?_))|(show aA _ 87 _ _ _;refine CA (h:=uO (y:=fG s.rv 0) (k:=0) (by omega) (by omega) (fun _=>?_))))
   all_goals(refine aC ?_;exact aB (hK _ _))
  |some m=>
   rw[hm] at hK
   dsimp only at hK
   obtain⟨hi,hmid⟩:=aX hm
   have hIm:=hI.st m (List.mem_of_getElem? hi)
   have hgo:=hIm.got
   by_cases hw:dO m 1 d e=0
   ·rw[if_neg (fun hq=>hq hw),fS (id:=st) (show(eB m d e).id=st from hmid)] at hK
    by_cases h0:d=⟨#[]⟩
    ·subst h0
     cases e
     ·rw[if_pos ⟨rfl,.inr rfl⟩] at hK
      refine aJ Tryz.func121 ?_
      repeat' (first|refine Gr ?_|refine dw cV ?_|refine w5 ?_ ?_|((refine bh fun h=>?_) <;> try exact w6 h)|(refine aF fun hA=>?_;subst hA)|intro _|(show aA _ 197 _ _ _;refine CA (h:=nC (z:=s.rv) (k:=0) hI.rv (by omega) (by omega) ?_);rw[hg])|(show aA _ 144 _ _ _;refine CA (h:=gG (l:=s.l) hI.sm hm (fun bq=>?_)))|(show aA _ 198 _ _ _;refine CA (h:=Bg (m:=m) hw (by omega) (by omega) ?_))|(show aA _ 149 _ _ _;refine CA (h:=kR (x:=x) (a:=a) (s:= { s with rv:=fG s.rv 0 }) (M:=M) (mc:=mc) (T:=Na a.l s.l (cB st s.l) bq) (R:=sR bq (eB m ⟨#[]⟩ false)::R) (k:=2) (id:=st) (n:=1) (z:=⟨#[]⟩) (b:=false) (by show s.mv.length<=1000000000;omega) (fun _ _=>?_)))|(show aA _ 89 _ _ _;refine CA (h:=mC (x:=x) (a:=a) (s:=tI ⟨2,st,1,⟨#[]⟩,false⟩ { s with rv:=fG s.rv 0 }) (i:=cB st s.l) (m:=m) (R:=R) (m':=eB m ⟨#[]⟩ false) hi rfl (xM hI hm hN3 hB hd) (mM hm rfl) (fun _ _=>?_))))
      all_goals(refine aC ?_;exact aB (hK _ _))
     ·rw[if_neg (fun hq=>hq.2.elim (fun h=>h rfl) (fun h=>by cases h))] at hK
      refine aJ Tryz.func121 ?_
      repeat' (first|refine Gr ?_|refine dw cV ?_|refine w5 ?_ ?_|((refine bh fun h=>?_) <;> try exact w6 h)|(refine aF fun hA=>?_;subst hA)|intro _|(show aA _ 197 _ _ _;refine CA (h:=nC (z:=s.rv) (k:=0) hI.rv (by omega) (by omega) ?_);rw[hg])|(show aA _ 144 _ _ _;refine CA (h:=gG (l:=s.l) hI.sm hm (fun bq=>?_)))|(show aA _ 198 _ _ _;refine CA (h:=Bg (m:=m) hw (by omega) (by omega) ?_))|(show aA _ 149 _ _ _;refine CA (h:=kR (x:=x) (a:=a) (s:= { s with rv:=fG s.rv 0 }) (M:=M) (mc:=mc) (T:=Na a.l s.l (cB st s.l) bq) (R:=sR bq (eB m ⟨#[]⟩ true)::R) (k:=2) (id:=st) (n:=0) (z:=⟨#[]⟩) (b:=true) (by show s.mv.length<=1000000000;omega) (fun _ _=>?_)))|(show aA _ 89 _ _ _;refine CA (h:=mC (x:=x) (a:=a) (s:=tI ⟨2,st,0,⟨#[]⟩,true⟩ { s with rv:=fG s.rv 0 }) (i:=cB st s.l) (m:=m) (R:=R) (m':=eB m ⟨#[]⟩ true) hi rfl (xM hI hm hN3 hB hd) (mM hm rfl) (fun _ _=>?_))))
      all_goals(refine aC ?_;exact aB (hK _ _))
    ·rw[if_pos ⟨rfl,.inl h0⟩] at hK
     have hbq:=Ry h0
     refine aJ Tryz.func121 ?_
     repeat' (first|(show Br _ _ _;refine Br.t hbq ?_)|(show cU _ _ _;rw[hbq])|refine Gr ?_|refine dw cV ?_|refine w5 ?_ ?_|((refine bh fun h=>?_) <;> try exact w6 h)|(refine aF fun hA=>?_;subst hA)|intro _|(show aA _ 197 _ _ _;refine CA (h:=nC (z:=s.rv) (k:=0) hI.rv (by omega) (by omega) ?_);rw[hg])|(show aA _ 144 _ _ _;refine CA (h:=gG (l:=s.l) hI.sm hm (fun bq=>?_)))|(show aA _ 198 _ _ _;refine CA (h:=Bg (m:=m) hw (by omega) (by omega) ?_))|(show aA _ 149 _ _ _;refine CA (h:=kR (x:=x) (a:=a) (s:= { s with rv:=fG s.rv 0 }) (M:=M) (mc:=mc) (T:=Na a.l s.l (cB st s.l) bq) (R:=sR bq (eB m d e)::R) (k:=2) (id:=st) (n:=1) (z:=d) (b:=e) (by show s.mv.length<=1000000000;omega) (fun _ _=>?_)))|(show aA _ 89 _ _ _;refine CA (h:=mC (x:=x) (a:=a) (s:=tI ⟨2,st,1,d,e⟩ { s with rv:=fG s.rv 0 }) (i:=cB st s.l) (m:=m) (R:=R) (m':=eB m d e) hi rfl (xM hI hm hN3 hB hd) (mM hm rfl) (fun _ _=>?_))))
     all_goals(refine aC ?_;exact aB (hK _ _))
   ·rw[if_pos hw] at hK
    refine aJ Tryz.func121 ?_
    repeat' (first|refine Gr ?_|refine dw cV ?_|refine w5 ?_ ?_|((refine bh fun h=>?_) <;> try exact w6 h)|(refine aF fun hA=>?_;subst hA)|intro _|(show aA _ 197 _ _ _;refine CA (h:=nC (z:=s.rv) (k:=0) hI.rv (by omega) (by omega) ?_);rw[hg])|(show aA _ 144 _ _ _;refine CA (h:=gG (l:=s.l) hI.sm hm (fun _=>?_)))|(show aA _ 198 _ _ _;refine CA (h:=GZ (m:=m) hw ?_))|(show aA _ 87 _ _ _;refine CA (h:=uO (y:=fG s.rv 0) (k:=0) (by omega) (by omega) (fun _=>?_)))|(show aA _ 194 _ _ _;refine CA (h:=aA.ent (f3 (x:=x) (a:=a) (s:= { s with rv:=d8 (fG s.rv 0) 0 }) (M:=M) (mc:=mc) (R:=R) hi) (jU (nE hI1) KQ hst (fun _ _=>?_)))))
    all_goals(refine aC ?_;exact aB (hK _ _))
 ·rw[if_pos hg] at hK
  have he9:=Amc hg
  have hsm:=XU hg
  refine aJ Tryz.func121 ?_
  repeat' (first|refine Gr ?_|refine dw cV ?_|refine w5 ?_ ?_|((refine bh fun h=>?_) <;> try exact w6 h)|(refine aF fun hA=>?_;subst hA)|intro _|(show aA _ 197 _ _ _;refine CA (h:=nC (z:=s.rv) (k:=0) hI.rv (by omega) (by omega) ?_);rw[he9,hsm])|(show aA _ 57 _ _ _;refine CA (h:=dK (x:=x) (a:=a) (s:=s) hI (by decide) (by decide) (fun _ _=>?_))))
  all_goals(refine aC ?_;exact aB (hK _ _))
end
theorem LU:∀l:List Sm,l.length=(l.filter fun m=>m.own == true).length+(l.filter fun m=>m.own == false).length
 | []=>rfl
 |m::l=>by
  have:=LU l
  rw[List.filter_cons,List.filter_cons,List.length_cons]
  cases m.own <;> simp only[beq_self_eq_true,if_true,List.length_cons,(by decide:(false == true)=false),(by decide:(true == false)=false),Bool.false_eq_true,if_false] <;> omega
theorem nQ (hs:s.sd=0\/s.sd=1) (hp:lH s.sd s.la id=0):(1<=id/\id<=2147483647)/\s.la<id/\Qm s.sd id=false:=by
 unfold lH at hp
 split at hp
 ·rename_i hq
  obtain⟨h1,h2⟩:=hq
  unfold Qm at h1 ⊢
  simp only[Bool.and_eq_true,decide_eq_true_eq,beq_iff_eq,decide_eq_decide] at h1
  refine⟨h1.1,h2,?_⟩
  have h3:=h1.2
  rw[Bool.and_eq_false_iff]
  right
  rw[beq_eq_false_iff_ne]
  intro h4
  rw[decide_eq_decide] at h4
  omega
 ·cases hp
theorem Ee (h:bR B s) (hp:lH s.sd s.la id=0):bR B { s with la:=id }:=
 { h with
   la:=by
    have:=(nQ h.sd hp).1
    show x9 id
    unfold x9;omega
   ids:=fun z hz=>by
    have h1:=h.ids z hz
    have h2:=(nQ h.sd hp).2.1
    show jV s.sd s.nx id z.id=true
    unfold jV at h1 ⊢
    simp only[Bool.and_eq_true,decide_eq_true_eq] at h1 ⊢
    refine⟨h1.1,?_⟩
    have h3:=h1.2
    split at h3
    ·rename_i hq;rw[if_pos hq];exact h3
    ·rename_i hq;rw[if_neg hq];simp only[decide_eq_true_eq] at h3 ⊢;omega }
theorem Bi (h:bR B s) (hp:lH s.sd s.la id=0):bX id s.l=none:=by
 obtain⟨h1,h2,h3⟩:=nQ h.sd hp
 cases hm:bX id s.l with
 |none=>rfl
 |some m=>
  obtain⟨hi,hid⟩:=aX hm
  have h4:=h.ids m (List.mem_of_getElem? hi)
  rw[hid] at h4
  unfold jV at h4
  rw[h3] at h4
  simp only[Bool.and_eq_true,decide_eq_true_eq,Bool.false_eq_true,if_false] at h4
  omega
theorem VZ (hs:s.sd=0\/s.sd=1) (hp:lH s.sd s.la id=0):jV s.sd s.nx id id=true:=by
 obtain⟨h1,h2,h3⟩:=nQ hs hp
 unfold jV
 rw[h3]
 simp only[Bool.false_eq_true,if_false,Bool.and_eq_true,decide_eq_true_eq]
 omega
theorem Agk (h:bR B s):s.sh.h.st<=32:=by
 have:=h.sh.2.1
 unfold qF pP at this
 simp only[decide_eq_true_eq] at this
 omega
theorem Hc (h:bR B s) (ho:¬s.sh.h.st<=(fJ s false:Nat)):s.l.length<64/\fJ s false<32:=by
 have h1:=Agk h
 have h2:=h.own true
 have h3:=LU s.l
 unfold fJ at *
 omega
theorem Aj0 (h:bR B s) (hb:(s.mv.length:Int)+s.l.length+1<=B):bR B (tI mv s):=
 { h with
   mv:=by
    show((s.mv++ [mv]).length:Int)+s.l.length<=B
    rw[List.length_append,List.length_singleton];omega }
theorem RU (h:bR B s) (hB:B+300<=250000000):bR (B+300) (kY f s):=by
 have hm:=h.mono (B':=B+300) (by omega) hB
 have hmv:=h.mv
 unfold kY
 by_cases hp:lH s.sd s.la f.st=0
 ·rw[if_neg (fun q=>q hp)]
  have I8:=Ee hm hp
  split
  ·exact iZ I8
  ·split
   ·exact rA I8
   ·split
    ·exact rA I8
    ·rename_i ho
     obtain⟨h1,h2⟩:=Hc h ho
     have q1:=Bi h hp
     have q2:=(nQ h.sd hp).1
     have q3:=VZ h.sd hp
     have hl:=(TW (s:= { s with la:=f.st }) (kind:=f.k) (on:=f.on) (w:=f.w) (xx:=f.x) (sg:=s.cf.sg) (own:=false) I8 q1 h1 q2 q3 h2 (by show(s.mv.length:Int)+s.l.length+1<=B+300;omega))
     refine Aj0 hl ?_
     have e:(jT (fQ s.cf s.sh.h f.st f.k s.cf.sg false) s.l).length<=s.l.length+1:=by
      unfold jT
      rw[List.length_append,List.length_cons,List.length_take,List.length_drop]
      omega
     show(s.mv.length:Int)+((jT (fQ s.cf s.sh.h f.st f.k s.cf.sg false) s.l).length:Int)+1<=B+300
     omega
 ·rw[if_pos hp];exact iZ hm
def gV:List (Nat×Nat):= [(0,0),(1,0),(2,0),(3,0),(4,0),(5,0),(6,1),(7,0),(8,0)]
def gZ:List (Nat×Nat):= [(0,0),(1,0),(2,0),(3,0),(4,0),(5,0),(6,1),(7,0),(8,0)]
def gS:List (Nat×Nat):= [(0,0),(1,1),(2,1),(3,1),(4,1),(5,1),(6,1),(7,0),(8,0),(9,0)]
def gU:List (Nat×Nat):= [(0,0),(1,0),(2,0),(3,0),(4,0),(5,0),(6,0),(7,0),(8,0),(9,0),(10,0),(11,0),(12,1)]
theorem OH {t:Int} {la:Int} (hI:bR B s) (hst:1<=st/\st<=2147483647) (hk:k=1\/k=2) (hb:B<=249000000) (hK:∀M mc,K (.tuple #[]) (cY x a (kY ⟨t,st,e,d,k,on,w,xx,c,la,n,pa,pn,pc,ps⟩ s) M mc R)):CT 118 #[PO x,.agg #[I6 t,I6 st,.bool e,.string d,I6 k,I6 on,I6 w,.bool xx,I6 c,I6 la,I6 n,.slice pa pn pc]] (cY x a s M mc R) K:=by
 have hmv:=hI.mv
 have hbb:=hI.bb
 unfold kY at hK
 dsimp only at hK
 dsimp only[cY,p8]
 by_cases hp:lH s.sd s.la st=0
 ·rw[if_neg (fun q=>q hp)] at hK
  have hI1:=Ee hI hp
  by_cases h1:on=st
  ·rw[if_pos h1] at hK
   refine aJ Tryz.func118 ?_
   repeat' (first|(show aM _ _ _ _ _ _ _;refine iQ ?_)|refine By ?_|refine dw gV ?_|refine dw gZ ?_|refine dw gS ?_|refine dw gU ?_|refine w5 ?_ ?_|((refine bh fun h=>?_) <;> try exact w6 h)|(refine aF fun hA=>?_;subst hA)|intro _|(show aA _ 192 _ _ _;refine CA (h:=uP (sd:=s.sd) (la:=s.la) (nx:=s.nx) hI.sd ?_);rw[hp,if_pos rfl])|(show aA _ 57 _ _ _;refine CA (h:=dK (x:=x) (a:=a) (s:= { s with la:=st }) hI1 (by decide) (by decide) (fun _ _=>?_))))
   all_goals(refine aC ?_;exact aB (hK _ _))
  ·rw[if_neg h1] at hK
   cases h2:x4 s.dr st
   ·rw[h2,if_pos rfl] at hK
    refine aJ Tryz.func118 ?_
    repeat' (first|(show aM _ _ _ _ _ _ _;refine iQ ?_)|refine By ?_|refine dw gV ?_|refine dw gZ ?_|refine dw gS ?_|refine dw gU ?_|refine w5 ?_ ?_|((refine bh fun h=>?_) <;> try exact w6 h)|(refine aF fun hA=>?_;subst hA)|intro _|(show aA _ 192 _ _ _;refine CA (h:=uP (sd:=s.sd) (la:=s.la) (nx:=s.nx) hI.sd ?_);rw[hp,if_pos rfl])|(show aA _ 193 _ _ _;refine CA (h:=EZ (d:=s.dr) ?_);rw[h2])|(show aA _ 194 _ _ _;refine CA (h:=jU (x:=x) (a:=a) (s:= { s with la:=st }) hI1 (by decide) hst (fun _ _=>?_))))
    all_goals(refine aC ?_;exact aB (hK _ _))
   ·rw[h2,if_neg (by decide)] at hK
    have hown:fJ { s with la:=st } false=fJ s false:=rfl
    by_cases h3:s.sh.h.st<=(fJ s false:Nat)
    ·rw[if_pos h3] at hK
     refine aJ Tryz.func118 ?_
     repeat' (first|(show aM _ _ _ _ _ _ _;refine iQ ?_)|refine By ?_|refine dw gV ?_|refine dw gZ ?_|refine dw gS ?_|refine dw gU ?_|refine w5 ?_ ?_|((refine bh fun h=>?_) <;> try exact w6 h)|(refine aF fun hA=>?_;subst hA)|intro _|(show aA _ 192 _ _ _;refine CA (h:=uP (sd:=s.sd) (la:=s.la) (nx:=s.nx) hI.sd ?_);rw[hp,if_pos rfl])|(show aA _ 193 _ _ _;refine CA (h:=EZ (d:=s.dr) ?_);rw[h2])|(show aA _ 62 _ _ _;refine CA (h:=sC (x:=x) (a:=a) (s:= { s with la:=st }) (M:=M) (mc:=mc) hI1 ?_);rw[hown])|(show aA _ 158 _ _ _;refine CA (h:=xV (s:=s.sh) ?_))|(show aA _ 194 _ _ _;refine CA (h:=jU (x:=x) (a:=a) (s:= { s with la:=st }) hI1 (by decide) hst (fun _ _=>?_))))
     all_goals(refine aC ?_;exact aB (hK _ _))
    ·rw[if_neg h3] at hK
     obtain⟨hr1,hr2⟩:=Hc hI h3
     have q1:=Bi hI hp
     refine aJ Tryz.func118 ?_
     repeat' (first|(show aM _ _ _ _ _ _ _;refine iQ ?_)|refine By ?_|refine dw gV ?_|refine dw gZ ?_|refine dw gS ?_|refine dw gU ?_|refine w5 ?_ ?_|((refine bh fun h=>?_) <;> try exact w6 h)|(refine aF fun hA=>?_;subst hA)|intro _|(show aA _ 192 _ _ _;refine CA (h:=uP (sd:=s.sd) (la:=s.la) (nx:=s.nx) hI.sd ?_);rw[hp,if_pos rfl])|(show aA _ 193 _ _ _;refine CA (h:=EZ (d:=s.dr) ?_);rw[h2])|(show aA _ 62 _ _ _;refine CA (h:=sC (x:=x) (a:=a) (s:= { s with la:=st }) (M:=M) (mc:=mc) hI1 ?_);rw[hown])|(show aA _ 158 _ _ _;refine CA (h:=xV (s:=s.sh) ?_))|(show aA _ 83 _ _ _;refine CA (h:=NW (x:=x) (a:=a) (s:= { s with la:=st }) (M:=M) (mc:=mc) hI1 hk hI.cf.2.2 q1 hr1 hst ?_))|(show aA _ 149 _ _ _;refine CA (h:=GH (x:=x) (a:=a) (s:=Iy st k on w xx false s.cf.sg { s with la:=st }) (M:=M) (mc:=mc) (R:=R) (by show s.mv.length<=1000000000;omega) (fun _ _=>?_))))
     all_goals(refine aC ?_;exact aB (hK _ _))
 ·rw[if_pos hp] at hK
  have I8:lH s.sd s.la st=1:=by unfold lH at hp ⊢;split <;> first|rfl|(rename_i hq;rw[if_pos hq] at hp;exact absurd rfl hp)
  refine aJ Tryz.func118 ?_
  repeat' (first|(show aM _ _ _ _ _ _ _;refine iQ ?_)|refine By ?_|refine dw gV ?_|refine dw gZ ?_|refine dw gS ?_|refine dw gU ?_|refine w5 ?_ ?_|((refine bh fun h=>?_) <;> try exact w6 h)|(refine aF fun hA=>?_;subst hA)|intro _|(show aA _ 192 _ _ _;refine CA (h:=uP (sd:=s.sd) (la:=s.la) (nx:=s.nx) hI.sd ?_);rw[I8,if_neg (by decide)])|(show aA _ 57 _ _ _;refine CA (h:=dK (x:=x) (a:=a) (s:=s) hI (by decide) (by decide) (fun _ _=>?_))))
  all_goals(refine aC ?_;exact aB (hK _ _))
theorem FF {b:Int} (h:j5 n b≠0):gA n b=n:=by
 unfold j5 at h
 unfold gA
 split at h
 ·rename_i hq
  rw[if_pos hq]
  unfold zU at h
  unfold DK
  split at h
  ·exact absurd rfl h
  ·rename_i hf;rw[if_neg hf]
 ·rename_i hq;rw[if_neg hq]
theorem Fw {t b:Int} {s:Ld} (h:l6 t b s≠0):j8 t b s=s:=by
 unfold l6 at h
 unfold j8
 split at h
 ·rename_i ht
  rw[if_pos ht,FF h]
 ·rename_i ht
  rw[if_neg ht]
  cases he:lS t s.l with
  |none=>rfl
  |some e=>
   rw[he] at h
   dsimp only at h ⊢
   rw[FF h]
   have:=(mW he).1
   rw[kB _ this]
theorem Co (h:bR B s) (hq:F4 B q):bR B { s with ld:=q,sl:=iO s.sl s.now }:=
 { h with
   ld:=hq
   sl:=by
    have h1:=h.sl
    have h2:=h.now
    show(0<=(iO s.sl s.now).nw/\(iO s.sl s.now).nw<=B)/\0<=(iO s.sl s.now).si/\(iO s.sl s.now).si<=B
    unfold iO
    split
    ·exact h1
    ·dsimp only
     split <;> omega }
theorem Wp (h:bR B s):bR B (pW f s):=by
 unfold pW
 split
 ·exact iZ h
 ·split
  ·exact iZ h
  ·exact Co h (OA h.ld)
def mQ:List (Nat×Nat):= [(0,0),(1,0),(2,0),(3,0),(4,0),(5,0),(6,1),(7,0),(8,0)]
def mL:List (Nat×Nat):= [(0,0),(1,0),(2,0),(3,0),(4,0),(5,0),(6,0),(7,0),(8,1)]
theorem Ie {t:Int} {la:Int} (hI:bR B s) (hK:∀M mc,K (.tuple #[]) (cY x a (pW ⟨t,st,e,d,k,on,w,xx,c,la,n,pa,pn,pc,ps⟩ s) M mc R)):CT 119 #[PO x,.agg #[I6 t,I6 st,.bool e,.string d,I6 k,I6 on,I6 w,.bool xx,I6 c,I6 la,I6 n,.slice pa pn pc]] (cY x a s M mc R) K:=by
 have hbb:=hI.bb
 unfold pW at hK
 dsimp only at hK
 dsimp only[cY,p8]
 by_cases h0:n=0
 ·rw[if_pos h0] at hK
  refine aJ Tryz.func119 ?_
  repeat' (first|refine v46 ?_|refine dw mQ ?_|refine dw mL ?_|refine w5 ?_ ?_|((refine bh fun h=>?_) <;> try exact w6 h)|(refine aF fun hA=>?_;subst hA)|intro _|(show aA _ 57 _ _ _;refine CA (h:=dK (x:=x) (a:=a) (s:=s) hI (by decide) (by decide) (fun _ _=>?_))))
  all_goals(refine aC ?_;exact aB (hK _ _))
 ·rw[if_neg h0] at hK
  by_cases hg:l6 0 n s.ld=0
  ·rw[if_neg (fun q=>q hg)] at hK
   refine aJ Tryz.func119 ?_
   repeat' (first|refine v46 ?_|refine dw mQ ?_|refine dw mL ?_|refine w5 ?_ ?_|((refine bh fun h=>?_) <;> try exact w6 h)|(refine aF fun hA=>?_;subst hA)|intro _|(show aA _ 195 _ _ _;refine CA (h:=Bz (s:=s.ld) (hI.ld.ok (by omega)) ?_);rw[hg])|(show aA _ 196 _ _ _;refine CA (h:=AE (s:=s.sl) ?_)))
   all_goals(refine aC ?_;exact aB (hK _ _))
  ·rw[if_pos hg] at hK
   have hs:=Fw hg
   refine aJ Tryz.func119 ?_
   repeat' (first|(show Br _ _ _;refine Br.t (by first|(simp <;> done)|simpa using hg) ?_)|refine v46 ?_|refine dw mQ ?_|refine dw mL ?_|refine w5 ?_ ?_|((refine bh fun h=>?_) <;> try exact w6 h)|(refine aF fun hA=>?_;subst hA)|intro _|(show aA _ 195 _ _ _;refine CA (h:=Bz (s:=s.ld) (hI.ld.ok (by omega)) ?_);rw[hs])|(show aA _ 57 _ _ _;refine CA (h:=dK (x:=x) (a:=a) (s:=s) hI (by decide) (by decide) (fun _ _=>?_))))
   all_goals(refine aC ?_;exact aB (hK _ _))
theorem Gn {q:Xs}:bA (mF q n)=bA q:=by
 cases q with
 |b z=>rfl
 |i z=>rfl
theorem Zh (h:Ey B m):Ey B { m with x:=mF m.x n }:=by
 obtain⟨h1,h2,h3,h4⟩:=h
 refine⟨h1,?_,h3,h4⟩
 cases hx:m.x with
 |b z=>rw[hx] at h2;exact h2
 |i z=>
  rw[hx] at h2
  by_cases hn:1<=n
  ·simp only[mF,if_pos hn];exact h2
  ·simp only[mF,if_neg hn];exact h2
theorem PL (h:bR B s) (hm:bX f.st s.l=some m):bR B (kG f m s):=by
 obtain⟨hi,hmid⟩:=aX hm
 unfold kG
 split
 ·exact rA h
 ·split
  ·exact rA h
  ·split
   ·split
    ·exact rA h
    ·exact Co h (OA h.ld)
   ·split
    ·exact rA h
    ·rw[fS (id:=f.st) (show({ m with x:=mF m.x f.n }:Sm).id=f.st from hmid)]
     exact mA (s:= { s with sl:=iO s.sl s.now }) (Co h h.ld) hi rfl rfl (Zh (h.st m (List.mem_of_getElem? hi)))
def dA:List (Nat×Nat):= [(0,0),(1,0),(2,0),(3,0),(4,0),(5,0),(6,0),(7,0),(8,1),(9,0)]
def dF:List (Nat×Nat):= [(0,0),(1,1),(2,1),(3,1),(4,1),(5,0)]
def dB:List (Nat×Nat):= [(0,0),(1,0),(2,0),(3,0),(4,0),(5,0),(6,0),(7,0),(8,1)]
theorem Eg {t:Int} {la:Int} (hI:bR B s) (ht:t=10\/t=11) (hst:1<=st/\st<=2147483647) (hm:bX st s.l=some m) (hK:∀M mc,K (.tuple #[]) (cY x a (kG ⟨t,st,e,d,k,on,w,xx,c,la,n,pa,pn,pc,ps⟩ m s) M mc R)):CT 200 #[PO x,.agg #[I6 t,I6 st,.bool e,.string d,I6 k,I6 on,I6 w,.bool xx,I6 c,I6 la,I6 n,.slice pa pn pc],PO b] (sR b m::cnH x a s M mc (cB st s.l) b R) K:=by
 have hbb:=hI.bb
 obtain⟨hi,hmid⟩:=aX hm
 unfold kG at hK
 dsimp only at hK
 refine TV fun hok=>?_
 dsimp only[cnH,p8]
 have hk2:bA m.x=1\/bA m.x=2:=by cases m.x <;> simp[bA]
 rcases hk2 with h1|h1 <;> rcases ht with rfl|rfl
 ·rw[if_neg (by rw[h1];simp)] at hK
  by_cases h0:n=0
  ·rw[if_pos h0] at hK
   refine aJ Tryz.func200 ?_
   repeat' (first|refine v46 ?_|refine dw dA ?_|refine dw dF ?_|refine dw dB ?_|refine w5 ?_ ?_|((refine bh fun h=>?_) <;> try exact w6 h)|(refine aF fun hA=>?_;subst hA)|intro _|(show aA _ 139 _ _ _;refine CA (h:=lA (m:=m) ?_);rw[h1])|(show aA _ 194 _ _ _;refine CA (h:=aA.ent (f3 (x:=x) (a:=a) (s:=s) (M:=M) (mc:=mc) (R:=R) hi) (jU hI (by decide) hst (fun _ _=>?_)))))
   all_goals(refine aC ?_;exact aB (hK _ _))
  ·rw[if_neg h0,if_pos h1] at hK
   by_cases hg:l6 st n s.ld=0
   ·rw[if_neg (fun q=>q hg)] at hK
    refine aJ Tryz.func200 ?_
    repeat' (first|refine v46 ?_|refine dw dA ?_|refine dw dF ?_|refine dw dB ?_|refine w5 ?_ ?_|((refine bh fun h=>?_) <;> try exact w6 h)|(refine aF fun hA=>?_;subst hA)|intro _|(show aA _ 139 _ _ _;refine CA (h:=lA (m:=m) ?_);rw[h1])|(show aA _ 195 _ _ _;refine CA (h:=Bz (s:=s.ld) (hI.ld.ok (by omega)) ?_);rw[hg])|(show aA _ 196 _ _ _;refine CA (h:=AE (s:=s.sl) ?_)))
    all_goals(refine aC ?_;exact aQ (aG.trans (by exact bE) ((f3 (x:=x) (a:=a) (s:= { s with ld:=j8 st n s.ld,sl:=iO s.sl s.now }) (M:=M) (mc:=mc) (R:=R) (b:=b) hi))) (hK _ _))
   ·rw[if_pos hg] at hK
    have hs:=Fw hg
    refine aJ Tryz.func200 ?_
    repeat' (first|(show Br _ _ _;refine Br.t (by first|(simp <;> done)|simpa using hg) ?_)|refine v46 ?_|refine dw dA ?_|refine dw dF ?_|refine dw dB ?_|refine w5 ?_ ?_|((refine bh fun h=>?_) <;> try exact w6 h)|(refine aF fun hA=>?_;subst hA)|intro _|(show aA _ 139 _ _ _;refine CA (h:=lA (m:=m) ?_);rw[h1])|(show aA _ 195 _ _ _;refine CA (h:=Bz (s:=s.ld) (hI.ld.ok (by omega)) ?_);rw[hs])|(show aA _ 194 _ _ _;refine CA (h:=aA.ent (f3 (x:=x) (a:=a) (s:=s) (M:=M) (mc:=mc) (R:=R) hi) (jU hI (by decide) hst (fun _ _=>?_)))))
    all_goals(refine aC ?_;exact aB (hK _ _))
 ·rw[if_pos (by rw[h1];simp)] at hK
  refine aJ Tryz.func200 ?_
  repeat' (first|refine v46 ?_|refine dw dA ?_|refine dw dF ?_|refine dw dB ?_|refine w5 ?_ ?_|((refine bh fun h=>?_) <;> try exact w6 h)|(refine aF fun hA=>?_;subst hA)|intro _|(show aA _ 139 _ _ _;refine CA (h:=lA (m:=m) ?_);rw[h1])|(show aA _ 194 _ _ _;refine CA (h:=aA.ent (f3 (x:=x) (a:=a) (s:=s) (M:=M) (mc:=mc) (R:=R) hi) (jU hI (by decide) hst (fun _ _=>?_)))))
  all_goals(refine aC ?_;exact aB (hK _ _))
 ·rw[if_pos (by rw[h1];simp)] at hK
  refine aJ Tryz.func200 ?_
  repeat' (first|refine v46 ?_|refine dw dA ?_|refine dw dF ?_|refine dw dB ?_|refine w5 ?_ ?_|((refine bh fun h=>?_) <;> try exact w6 h)|(refine aF fun hA=>?_;subst hA)|intro _|(show aA _ 139 _ _ _;refine CA (h:=lA (m:=m) ?_);rw[h1])|(show aA _ 194 _ _ _;refine CA (h:=aA.ent (f3 (x:=x) (a:=a) (s:=s) (M:=M) (mc:=mc) (R:=R) hi) (jU hI (by decide) hst (fun _ _=>?_)))))
  all_goals(refine aC ?_;exact aB (hK _ _))
 ·rw[if_neg (by rw[h1];simp)] at hK
  by_cases h0:n=0
  ·rw[if_pos h0] at hK
   refine aJ Tryz.func200 ?_
   repeat' (first|refine v46 ?_|refine dw dA ?_|refine dw dF ?_|refine dw dB ?_|refine w5 ?_ ?_|((refine bh fun h=>?_) <;> try exact w6 h)|(refine aF fun hA=>?_;subst hA)|intro _|(show aA _ 139 _ _ _;refine CA (h:=lA (m:=m) ?_);rw[h1])|(show aA _ 194 _ _ _;refine CA (h:=aA.ent (f3 (x:=x) (a:=a) (s:=s) (M:=M) (mc:=mc) (R:=R) hi) (jU hI (by decide) hst (fun _ _=>?_)))))
   all_goals(refine aC ?_;exact aB (hK _ _))
  ·rw[if_neg h0,if_neg (by rw[h1];decide)] at hK
   by_cases hg:Cv m.x n=0
   ·rw[if_neg (fun q=>q hg),fS (id:=st) (show({ m with x:=mF m.x n }:Sm).id=st from hmid)] at hK
    refine aJ Tryz.func200 ?_
    repeat' (first|refine v46 ?_|refine dw dA ?_|refine dw dF ?_|refine dw dB ?_|refine w5 ?_ ?_|((refine bh fun h=>?_) <;> try exact w6 h)|(refine aF fun hA=>?_;subst hA)|intro _|(show aA _ 139 _ _ _;refine CA (h:=lA (m:=m) ?_);rw[h1])|(show aA _ 64 _ _ _;refine CA (h:=Lc (m:=m) (fun _=>?_)))|(show aA _ 278 _ _ _;refine CA (h:=Pf (x:=m.x) ?_);rw[hg])|(show aA _ 196 _ _ _;refine CA (h:=AE (s:=s.sl) ?_)))
    all_goals(refine aC ?_;exact aQ (aG.trans (by exact bE) ((aG.trans (G6 Gn) (pG (x:=x) (a:=a) (s:= { s with sl:=iO s.sl s.now }) (M:=M) (mc:=mc) (R:=R) (b:=b) (m':= { m with x:=mF m.x n }) hi rfl)))) (hK _ _))
   ·rw[if_pos hg] at hK
    have hsx:mF m.x n=m.x:=by
     cases hx:m.x with
     |b z=>rfl
     |i z=>
      rw[hx] at hg
      unfold Cv at hg
      unfold mF
      by_cases hn:1<=n
      ·simp only[if_pos hn] at hg;exact absurd trivial hg
      ·simp only[if_neg hn]
    refine aJ Tryz.func200 ?_
    repeat' (first|(show Br _ _ _;refine Br.t (by first|(simp <;> done)|simpa using hg) ?_)|refine v46 ?_|refine dw dA ?_|refine dw dF ?_|refine dw dB ?_|refine w5 ?_ ?_|((refine bh fun h=>?_) <;> try exact w6 h)|(refine aF fun hA=>?_;subst hA)|intro _|(show aA _ 139 _ _ _;refine CA (h:=lA (m:=m) ?_);rw[h1])|(show aA _ 64 _ _ _;refine CA (h:=Lc (m:=m) (fun _=>?_)))|(show aA _ 278 _ _ _;refine CA (h:=Pf (x:=m.x) ?_);rw[hsx])|(show aA _ 194 _ _ _;refine CA (h:=aA.ent (aG.trans (G6 (m:=m) (z:=m.x) rfl) (f3 (x:=x) (a:=a) (s:=s) (M:=M) (mc:=mc) (R:=R) hi)) (jU hI (by decide) hst (fun _ _=>?_)))))
    all_goals(refine aC ?_;exact aB (hK _ _))
def In3 (t:dI):Prop:=x9 t.w/\x9 t.st/\x9 t.it
theorem Hd:∀ {ps:List Pr} {t u:dI},In3 t->Qg t ps=some u->In3 u
 | [],t,u,h,e=>by cases e;exact h
 |p::ps,t,u,h,e=>by
  unfold Qg at e
  split at e
  ·rename_i hp
   refine Hd (t:=Nb t p) ?_ e
   obtain⟨h1,h2,h3⟩:=h
   unfold Nb
   split
   ·exact⟨hp,h2,h3⟩
   ·split
    ·exact⟨h1,hp,h3⟩
    ·split
     ·exact⟨h1,h2,hp⟩
     ·exact⟨h1,h2,h3⟩
  ·cases e
theorem TD (h:x9 n):lL n=true:=by
 unfold x9 at h
 unfold lL
 simp only[Bool.and_eq_true,decide_eq_true_eq]
 exact h
theorem Gq (h:bR B s) {t:dI} (ht:In3 t) (hq:F4 B q):bR B { s with ld:=q,pe:=t }:=
 { h with ld:=hq,pe:=ht }
theorem Zx (h:bR B s):bR B (uH f s):=by
 unfold uH
 cases hp:Qg s.pe f.ps with
 |none=>exact iZ h
 |some t=>
  dsimp only
  split
  ·exact iZ h
  ·exact GT (Gq h (Hd h.pe hp) (Gs h.ld))
def nX:Tr:=(.br (.st 0 1 (.st 1 1 (.st 2 1 (.st 3 1 (.st 4 1 (.st 5 1 (.st 6 2 (.st 10 2 (.st 7 1 (.st 8 1 (.st 11 1 (.st 9 2 (.st 12 0 .nil))))))))))))) (.st 10 2 (.st 0 1 (.st 1 1 (.st 2 1 (.st 3 1 (.st 4 1 (.st 5 1 (.st 6 2 (.st 7 1 (.st 8 1 (.st 11 1 (.st 9 2 (.st 12 0 .nil))))))))))))))
def nZ:List (Nat×Nat):= [(0,0),(1,0),(2,0),(3,0),(4,0),(5,0),(6,0),(7,0),(8,0),(9,0),(10,0),(11,1),(12,0),(13,0)]
theorem Vy {t:Int} {la:Int} (hI:bR B s) (hv:dE R pa oG ps) (hn:ps.length=pn) (hn2:pn<=1000000) (hK:∀M mc,K (.tuple #[]) (cY x a (uH ⟨t,st,e,d,k,on,w,xx,c,la,n,pa,pn,pc,ps⟩ s) M mc R)):CT 113 #[PO x,.agg #[I6 t,I6 st,.bool e,.string d,I6 k,I6 on,I6 w,.bool xx,I6 c,I6 la,I6 n,.slice pa pn pc]] (cY x a s M mc R) K:=by
 have hbb:=hI.bb
 unfold uH at hK
 dsimp only at hK
 dsimp only[cY,p8]
 cases hp:Qg s.pe ps with
 |none=>
  rw[hp] at hK
  refine aJ Tryz.func113 ?_
  repeat' (first|refine v64 ?_|refine Hq nX ?_|refine dw nZ ?_|refine w5 ?_ ?_|((refine bh fun h=>?_) <;> try exact w6 h)|(refine aF fun hA=>?_;subst hA)|intro _|(show aA _ 184 _ _ _;refine CA (h:=EF (s:=s.pe) (ps:=ps) (by exact kU) hn hn2 ?_);rw[hp];dsimp only[paV])|(show aA _ 57 _ _ _;refine CA (h:=dK (x:=x) (a:=a) (s:=s) hI (by decide) (by decide) (fun _ _=>?_))))
  all_goals(refine aC ?_;exact aB (hK _ _))
 |some u=>
  rw[hp] at hK
  dsimp only at hK
  have hu:=Hd hI.pe hp
  have hab:lL s.pe.w=true/\lL u.w=true:=⟨TD hI.pe.1,TD hu.1⟩
  by_cases hg:yD s.pe.w u.w s.ld=0
  ·rw[if_neg (fun q=>q hg)] at hK
   refine aJ Tryz.func113 ?_
   repeat' (first|refine v64 ?_|refine Hq nX ?_|refine dw nZ ?_|refine w5 ?_ ?_|((refine bh fun h=>?_) <;> try exact w6 h)|(refine aF fun hA=>?_;subst hA)|intro _|(show aA _ 184 _ _ _;refine CA (h:=EF (s:=s.pe) (ps:=ps) (by exact kU) hn hn2 ?_);rw[hp];dsimp only[paV])|(show aA _ 185 _ _ _;refine CA (h:=N8 (s:=s.ld) (hI.ld.ok (by omega)) hab ?_);rw[hg])|(show aA _ 115 _ _ _;refine CA (h:=BD (x:=x) (a:=a) (s:= { s with ld:=mG s.pe.w u.w s.ld,pe:=u }) (f:=fr0 6 0) (Gq hI hu (Gs hI.ld)) rfl rfl rfl (fun _ _=>?_))))
   all_goals(refine aC ?_;exact aB (hK _ _))
  ·rw[if_pos hg] at hK
   have hs:mG s.pe.w u.w s.ld=s.ld:=by unfold mG;rw[if_pos hg]
   refine aJ Tryz.func113 ?_
   repeat' (first|(show Br _ _ _;refine Br.t (by first|(simp <;> done)|simpa using hg) ?_)|refine v64 ?_|refine Hq nX ?_|refine dw nZ ?_|refine w5 ?_ ?_|((refine bh fun h=>?_) <;> try exact w6 h)|(refine aF fun hA=>?_;subst hA)|intro _|(show aA _ 184 _ _ _;refine CA (h:=EF (s:=s.pe) (ps:=ps) (by exact kU) hn hn2 ?_);rw[hp];dsimp only[paV])|(show aA _ 185 _ _ _;refine CA (h:=N8 (s:=s.ld) (hI.ld.ok (by omega)) hab ?_);rw[hs])|(show aA _ 57 _ _ _;refine CA (h:=dK (x:=x) (a:=a) (s:=s) hI (by decide) (by decide) (fun _ _=>?_))))
   all_goals(refine aC ?_;exact aB (hK _ _))
theorem Uw {l':List Sm} (h:Ga l) (e:l'.map Sm.id=l.map Sm.id):Ga l':=by
 obtain⟨h1,h2⟩:=h
 have hl:=congrArg List.length e
 rw[List.length_map,List.length_map] at hl
 refine⟨by omega,?_⟩
 have h3:(l.map Sm.id).Pairwise (·<·):=List.pairwise_map.2 h2
 rw[<- e] at h3
 exact List.pairwise_map.1 h3
def Rm (t:dI) (m:Sm):Sm:= { m with y:=tY m.y t }
theorem Nw (hm:l[j]?=some m):((l.take j).map g++l.drop j).set j (g m)=(l.take (j+1)).map g++l.drop (j+1):=by
 have hj:=(List.getElem?_eq_some_iff.1 hm).1
 have hlen:((l.take j).map g).length=j:=by rw[List.length_map,List.length_take];omega
 have hd:l.drop j=m::l.drop (j+1):=by rw[List.drop_eq_getElem_cons hj,(List.getElem?_eq_some_iff.1 hm).2]
 rw[List.set_append_right _ _ (by omega),hlen,Nat.sub_self,hd,List.set_cons_zero,List.take_add_one,hm]
 simp
theorem Ug (hm:l[j]?=some m):((l.take j).map g++l.drop j)[j]?=some m:=by
 have hj:=(List.getElem?_eq_some_iff.1 hm).1
 have hlen:((l.take j).map g).length=j:=by rw[List.length_map,List.length_take];omega
 rw[List.getElem?_append_right (by omega),hlen,Nat.sub_self,List.getElem?_drop]
 simpa using hm
theorem OR (hg:∀m,(g m).id=m.id):((l.take j).map g++l.drop j).map Sm.id=l.map Sm.id:=by
 rw[List.map_append,List.map_map]
 have e:(Sm.id ∘ g)=Sm.id:=funext hg
 rw[e,<- List.map_append,List.take_append_drop]
theorem Aaw {t:dI}:jH (tY y t)=jH y:=by cases y <;> rfl
theorem V5 (h:bR B s):bR B (pK s):=by
 unfold pK
 split
 ·exact iZ h
 ·have hsh:=h.sh
  have hsh2:(dC s.sh).l.length<=4/\qF (dC s.sh).h/\qF (dC s.sh).g/\∀t∈(dC s.sh).l,qF t:=by
   unfold dC
   cases hl:s.sh.l with
   |nil=>dsimp only;rw[hl] at hsh;rw[hl];exact hsh
   |cons t r=>
    rw[hl] at hsh
    obtain⟨h1,h2,h3,h4⟩:=hsh
    rw[List.length_cons] at h1
    exact⟨by dsimp only;omega,h4 t (List.mem_cons_self ..),h3,fun z hz=>h4 z (List.mem_cons_of_mem _ hz)⟩
  exact { h with
   sh:=hsh2
   sm:=Uu h.sm fun m=>rfl
   st:=fun q hq=>by
    obtain⟨m,hm,rfl⟩:=List.mem_map.1 hq
    obtain⟨h1,h2,h3,h4⟩:=h.st m hm
    refine⟨h1,h2,?_,?_⟩
    ·cases hy:m.y <;> (rw[hy] at h3;exact h3)
    ·cases hy:m.y <;> (rw[hy] at h4;exact h4)
   ids:=fun q hq=>by
    obtain⟨m,hm,rfl⟩:=List.mem_map.1 hq
    exact h.ids m hm
   own:=fun b=>by
    have:=h.own b
    unfold fJ at this
    show((s.l.map fun m=>({ m with y:=tY m.y (dC s.sh).h }:Sm)).filter fun m=>m.own == b).length<=32
    rw[nF,List.map_map]
    rw[nF] at this
    exact this
   mv:=by
    have:=h.mv
    show(s.mv.length:Int)+((s.l.map _).length:Int)<=B
    rw[List.length_map];exact this }
def j0:List (Nat×Nat):= [(0,0),(1,1),(2,1),(3,1)]
theorem QC (hI:bR B s) (hK:∀M mc,K (.tuple #[]) (cY x a (pK s) M mc R)):CT 114 #[PO x] (cY x a s M mc R) K:=by
 have h64:=hI.sm.1
 unfold pK at hK
 dsimp only[cY,p8]
 by_cases hl:s.sh.l= []
 ·have hE:vU s.sh=1:=by unfold vU;rw[if_pos hl]
  have hA:dC s.sh=s.sh:=by unfold dC;rw[hl]
  rw[hE,if_pos (by decide)] at hK
  refine aJ Tryz.func114 ?_
  repeat' (first|refine Qo ?_|refine dw j0 ?_|refine w5 ?_ ?_|((refine bh fun h=>?_) <;> try exact w6 h)|(refine aF fun hA=>?_;subst hA)|intro _|(show aA _ 186 _ _ _;refine CA (h:=NJ (s:=s.sh) ?_);rw[hE,hA])|(show aA _ 57 _ _ _;refine CA (h:=dK (x:=x) (a:=a) (s:=s) hI (by decide) (by decide) (fun _ _=>?_))))
  all_goals(refine aC ?_;exact aB (hK _ _))
 ·have hE:vU s.sh=0:=by unfold vU;rw[if_neg hl]
  rw[hE,if_neg (by decide)] at hK
  have hch:qF (dC s.sh).h:=by
   have:=hI.sh
   unfold dC
   cases hq:s.sh.l with
   |nil=>exact absurd hq hl
   |cons t r=>rw[hq] at this;exact this.2.2.2 t (List.mem_cons_self ..)
  refine aJ Tryz.func114 ?_
  repeat' (first|refine Qo ?_|refine dw j0 ?_|refine w5 ?_ ?_|((refine bh fun h=>?_) <;> try exact w6 h)|(refine aF fun hA=>?_;subst hA)|intro _|(show aA _ 186 _ _ _;refine CA (h:=NJ (s:=s.sh) ?_);rw[hE];simp only[if_neg hl])|(show aA _ 61 _ _ _;refine CA (h:=yF (l:=s.l) ?_)))
  rename_i r2 r3
  refine iH (fun n a' C'=>∃j:Nat,j+n=s.l.length/\cW a' [(0,PO x),(3,PO r3),(27,I6 s.l.length),(28,I6 j)]/\C'=pt r3 [I6 (dC s.sh).h.w,I6 (dC s.sh).h.st,I6 (dC s.sh).h.it] 23::cY x a { s with sh:=dC s.sh,l:=(s.l.take j).map (Rm (dC s.sh).h)++s.l.drop j } M mc R) s.l.length (cG s.l.length ⟨0,by omega,⟨rfl,rfl,rfl,rfl,trivial⟩,rfl⟩ (by omega)) ?_
  rintro n a' C' ⟨j,hj,ha,rfl⟩
  refine gJ _ ha ?_
  simp only[fF]
  by_cases hlt:j<s.l.length
  ·obtain⟨m,hm⟩:∃m,s.l[j]?=some m:=⟨_,List.getElem?_eq_getElem hlt⟩
   have hat:=Ug (g:=Rm (dC s.sh).h) hm
   have hset:=Nw (g:=Rm (dC s.sh).h) hm
   have hS:=Uw hI.sm (OR (g:=Rm (dC s.sh).h) (l:=s.l) (j:=j) fun _=>rfl)
   repeat' (first|refine Qo ?_|refine dw j0 ?_|refine w5 ?_ ?_|((refine bh fun h=>?_) <;> try exact w6 h)|(refine aF fun hA=>?_;subst hA)|intro _|(show aA _ 63 _ _ _;refine CA (h:=Fq hS hat (fun _=>?_)))|(show aA _ 67 _ _ _;refine CA (h:=BG (m:=m) (fun _=>?_)))|(show aA _ 187 _ _ _;refine CA (h:=Agm (y:=m.y) (s:=(dC s.sh).h) hch ?_)))
   all_goals(show aZ _ _ _ _;exact s8 (m:=n - 1) (by omega) (aG.trans (by exact bE) (aG.trans (aG.cons (A:=pt r3 [I6 (dC s.sh).h.w,I6 (dC s.sh).h.st,I6 (dC s.sh).h.it] 23) (xO (m:=m) (y:=tY m.y (dC s.sh).h) Aaw)) (aG.cons (A:=pt r3 [I6 (dC s.sh).h.w,I6 (dC s.sh).h.st,I6 (dC s.sh).h.it] 23) (pG (x:=x) (a:=a) (s:= { s with sh:=dC s.sh,l:=(s.l.take j).map (Rm (dC s.sh).h)++s.l.drop j }) (M:=M) (mc:=mc) (R:=R) (m':=Rm (dC s.sh).h m) hat rfl)))) ⟨j+1,by omega,⟨rfl,rfl,rfl,rfl,trivial⟩,congrArg (fun q=>pt r3 [I6 (dC s.sh).h.w,I6 (dC s.sh).h.st,I6 (dC s.sh).h.it] 23::cY x a { s with sh:=dC s.sh,l:=q } M mc R) hset⟩)
  ·have hj0:j=s.l.length:=by omega
   subst hj0
   have e:(s.l.take s.l.length).map (Rm (dC s.sh).h)++s.l.drop s.l.length=s.l.map fun m=>({ m with y:=tY m.y (dC s.sh).h }:Sm):=by
    rw[List.take_length,List.drop_length,List.append_nil];rfl
   rw[e]
   repeat' (first|refine Qo ?_|refine dw j0 ?_|refine w5 ?_ ?_|((refine bh fun h=>?_) <;> try exact w6 h)|(refine aF fun hA=>?_;subst hA)|intro _)
   all_goals(refine aC ?_;exact aB (hK _ _))
theorem Oy (h:∀q∈acc,q.id<m.id):cB m.id (acc++m::l)=acc.length:=by
 unfold cB
 induction acc with
 |nil=>rw[List.nil_append,List.takeWhile_cons];simp
 |cons q acc ih=>
  rw[List.cons_append,List.takeWhile_cons,if_pos (decide_eq_true (h q (List.mem_cons_self ..))),List.length_cons,List.length_cons,ih fun z hz=>h z (List.mem_cons_of_mem _ hz)]
theorem HH (h:∀q∈acc,q.id<m.id):bX m.id (acc++m::l)=some m:=by
 unfold bX
 rw[Oy h,List.getElem?_append_right (Nat.le_refl _),Nat.sub_self]
 simp
theorem QA (h:Ga (acc++m::l)):∀q∈acc,q.id<m.id:=fun q hq=>
 (List.pairwise_append.1 h.2).2.2 q hq m (List.mem_cons_self ..)
theorem E1 (h:∀q∈acc,q.id<m.id):(acc++m::l).eraseIdx (cB m.id (acc++m::l))=acc++l:=by
 rw[Oy h,List.eraseIdx_append_of_length_le (Nat.le_refl _),Nat.sub_self];rfl
theorem Kp {ids:List Int} (hm:bX id s.l=some m):lU (id::ids) s=lU ids (if m.own=true/\Fz s.dr id=true then lY m 7 s else s):=by
 show lU ids (match bX id s.l with
  |some m=>_
  |none=>s)=_
 rw[hm]
theorem EX (h:bR B s) {d:Dr}:bR B { s with dr:=d }:= { h with }
theorem H9:∀ {l acc:List Sm} {s:Cn},s.l=acc++l->bR B s->bR B (lU (l.map Sm.id) s)
 | [],acc,s,he,h=>h
 |m::l,acc,s,he,h=>by
  have hlt:=QA (by rw[<- he];exact h.sm)
  have hm:bX m.id s.l=some m:=by rw[he];exact HH hlt
  rw[List.map_cons,Kp hm]
  split
  ·refine H9 (l:=l) (acc:=acc) ?_ (o5 h hm)
   show s.l.eraseIdx (cB m.id s.l)=acc++l
   rw[he];exact E1 hlt
  ·exact H9 (l:=l) (acc:=acc++ [m]) (by rw[he];simp) h
theorem YH (h:bR B s):bR B (uE f s):=by
 unfold uE
 split
 ·exact Ka (EX h)
 ·exact H9 (acc:= []) rfl (EX h)
def gF:List (Nat×Nat):= [(0,0),(1,0),(2,0),(3,0),(4,0),(5,0),(6,0),(7,0),(8,1)]
theorem V9 {t:Int} {la:Int} (hI:bR B s) (hK:∀M mc,K (.tuple #[]) (cY x a (uE ⟨t,st,e,d,k,on,w,xx,c,la,n,pa,pn,pc,ps⟩ s) M mc R)):CT 117 #[PO x,.agg #[I6 t,I6 st,.bool e,.string d,I6 k,I6 on,I6 w,.bool xx,I6 c,I6 la,I6 n,.slice pa pn pc]] (cY x a s M mc R) K:=by
 have h64:=hI.sm.1
 have hlm:(s.l.map Sm.id).length=s.l.length:=List.length_map ..
 have hI1:=EX (d:=iP s.dr la c) hI
 unfold uE at hK
 dsimp only at hK
 dsimp only[cY,p8]
 cases ho:(iP s.dr la c).ov
 ·rw[ho,if_neg Bool.false_ne_true] at hK
  refine aJ Tryz.func117 ?_
  repeat' (first|refine Sg ?_|refine dw gF ?_|refine w5 ?_ ?_|((refine bh fun h=>?_) <;> try exact w6 h)|(refine aF fun hA=>?_;subst hA)|intro _|(show aA _ 189 _ _ _;refine CA (h:=UM (d:=s.dr) ?_))|(show aA _ 56 _ _ _;refine CA (h:=kI (x:=x) (a:=a) (s:= { s with dr:=iP s.dr la c }) (M:=M) (mc:=mc) ?_);rw[show({ s with dr:=iP s.dr la c }:Cn).dr.ov=false from ho])|(show aA _ 69 _ _ _;refine CA (h:=Lx (l:=s.l) hI.sm (fun Bq dq=>?_))))
  refine iH (fun n a' C'=>∃(j:Nat) (s':Cn) (acc:List Sm) (M':Option Addr) (mc':Nat),j+n=s.l.length/\s'.l=acc++s.l.drop j/\bR B s'/\lU ((s.l.drop j).map Sm.id) s'=lU (s.l.map Sm.id) { s with dr:=iP s.dr la c }/\cW a' [(0,PO x),(25,.slice Bq (s.l.map Sm.id).length dq),(26,I6 s.l.length),(27,I6 j)]/\C'=bU Bq dq 3 mI (s.l.map Sm.id)::cY x a s' M' mc' R) s.l.length (cG s.l.length ⟨0,{ s with dr:=iP s.dr la c },[],M,mc,by omega,rfl,hI1,rfl,⟨rfl,rfl,(by simp;rfl),rfl,trivial⟩,rfl⟩ (by omega)) ?_
  rintro n1 a' C' ⟨j,s',acc,M',mc',hj,hl,hI',hc,ha,rfl⟩
  refine gJ _ ha ?_
  simp only[fF]
  by_cases hlt:j<s.l.length
  ·obtain⟨m,hm,hd⟩:=i0 (l:=s.l) (j:=j) hlt
   rw[hd] at hl hc
   have hml:=QA (by rw[<- hl];exact hI'.sm)
   have hat:bX m.id s'.l=some m:=by rw[hl];exact HH hml
   obtain⟨hi,_⟩:=aX hat
   have hv:(s.l.map Sm.id)[((j:Nat):Int).toNat]?=some m.id:=by rw[Int.toNat_natCast,List.getElem?_map,hm];rfl
   have hc2:lU ((s.l.drop (j+1)).map Sm.id) (if m.own=true/\Fz s'.dr m.id=true then lY m 7 s' else s')=lU (s.l.map Sm.id) { s with dr:=iP s.dr la c }:=by
    rw[<- hc]
    show _=lU _ (match bX m.id s'.l with
     |some m=>_
     |none=>s')
    rw[hat]
   cases how:m.own
   ·rw[how,if_neg (fun q=>Bool.false_ne_true q.1)] at hc2
    repeat' (first|refine Sg ?_|refine dw gF ?_|refine w5 ?_ ?_|((refine bh fun h=>?_) <;> try exact w6 h)|(refine aF fun hA=>?_;subst hA)|intro _|(show aA _ 144 _ _ _;refine CA (h:=gG (l:=s'.l) hI'.sm hat (fun _=>?_)))|(show aA _ 129 _ _ _;refine CA (h:=zZ (m:=m) ?_);rw[how]))
    all_goals(show aZ _ _ _ _;exact s8 (m:=n1 - 1) (by omega) (aG.trans (by exact bE) (aG.cons (A:=bU _ dq 3 mI (s.l.map Sm.id)) (f3 (x:=x) (a:=a) (s:=s') (M:=M') (mc:=mc') (R:=R) hi))) ⟨j+1,s',acc++ [m],M',mc',by omega,by rw[hl];simp,hI',hc2,⟨rfl,rfl,rfl,rfl,trivial⟩,rfl⟩)
   ·cases hrf:Fz s'.dr m.id
    ·rw[hrf,if_neg (fun q=>Bool.false_ne_true q.2)] at hc2
     repeat' (first|refine Sg ?_|refine dw gF ?_|refine w5 ?_ ?_|((refine bh fun h=>?_) <;> try exact w6 h)|(refine aF fun hA=>?_;subst hA)|intro _|(show aA _ 144 _ _ _;refine CA (h:=gG (l:=s'.l) hI'.sm hat (fun _=>?_)))|(show aA _ 129 _ _ _;refine CA (h:=zZ (m:=m) ?_);rw[how])|(show aA _ 190 _ _ _;refine CA (h:=Tx (d:=s'.dr) ?_);rw[hrf]))
     all_goals(show aZ _ _ _ _;exact s8 (m:=n1 - 1) (by omega) (aG.trans (by exact bE) (aG.cons (A:=bU _ dq 3 mI (s.l.map Sm.id)) (f3 (x:=x) (a:=a) (s:=s') (M:=M') (mc:=mc') (R:=R) hi))) ⟨j+1,s',acc++ [m],M',mc',by omega,by rw[hl];simp,hI',hc2,⟨rfl,rfl,rfl,rfl,trivial⟩,rfl⟩)
    ·rw[how,hrf,if_pos ⟨rfl,rfl⟩] at hc2
     repeat' (first|refine Sg ?_|refine dw gF ?_|refine w5 ?_ ?_|((refine bh fun h=>?_) <;> try exact w6 h)|(refine aF fun hA=>?_;subst hA)|intro _|(show aA _ 144 _ _ _;refine CA (h:=gG (l:=s'.l) hI'.sm hat (fun _=>?_)))|(show aA _ 129 _ _ _;refine CA (h:=zZ (m:=m) ?_);rw[how])|(show aA _ 190 _ _ _;refine CA (h:=Tx (d:=s'.dr) ?_);rw[hrf])|(show aA _ 191 _ _ _;refine CA (h:=EN (x:=x) (a:=a) (s:=s') (M:=M') (mc:=mc') (m:=m) hI' hat (.inr rfl) (fun _ _=>?_))))
     all_goals(show aZ _ _ _ _;exact cG (n1 - 1) ⟨j+1,lY m 7 s',acc,_,_,by omega,(by show s'.l.eraseIdx (cB m.id s'.l)=_;rw[hl];exact E1 hml),o5 hI' hat,hc2,⟨rfl,rfl,rfl,rfl,trivial⟩,rfl⟩)
  ·have hj0:j=s.l.length:=by omega
   subst hj0
   rw[List.drop_length] at hc hl
   have hc:s'=lU (s.l.map Sm.id) { s with dr:=iP s.dr la c }:=hc
   subst hc
   repeat' (first|refine Sg ?_|refine dw gF ?_|refine w5 ?_ ?_|((refine bh fun h=>?_) <;> try exact w6 h)|(refine aF fun hA=>?_;subst hA)|intro _)
   all_goals(refine aC ?_;exact aB (hK _ _))
 ·rw[ho,if_pos rfl] at hK
  refine aJ Tryz.func117 ?_
  repeat' (first|refine Sg ?_|refine dw gF ?_|refine w5 ?_ ?_|((refine bh fun h=>?_) <;> try exact w6 h)|(refine aF fun hA=>?_;subst hA)|intro _|(show aA _ 189 _ _ _;refine CA (h:=UM (d:=s.dr) ?_))|(show aA _ 56 _ _ _;refine CA (h:=kI (x:=x) (a:=a) (s:= { s with dr:=iP s.dr la c }) (M:=M) (mc:=mc) ?_);rw[show({ s with dr:=iP s.dr la c }:Cn).dr.ov=true from ho])|(show aA _ 127 _ _ _;refine CA (h:=Ik (x:=x) (a:=a) (s:= { s with dr:=iP s.dr la c }) hI1 (fun _ _=>?_))))
  all_goals(refine aC ?_;exact aB (hK _ _))
theorem UC (h:bR B s):bR B { s with tr:=k8 id on w xx s.tr }:= { h with tr:=Aeo h.tr }
theorem Wg (h:bR B s):bR B (jI f s):=by
 unfold jI
 split
 ·exact iZ h
 ·cases hm:bX f.st s.l with
  |none=>exact h
  |some m=>
   dsimp only
   split
   ·exact UC h
   ·split
    ·exact o5 h hm
    ·exact PL h hm
def cK:List (Nat×Nat):= [(0,0),(1,0),(2,0),(3,0),(4,0),(5,0),(6,1),(7,0),(8,0),(9,0),(10,0),(11,0)]
def cJ:List (Nat×Nat):= [(0,0),(1,0),(2,0),(3,0),(4,0),(5,0),(6,0),(7,0),(8,1)]
theorem Nn {la:Int} (hI:bR B s) (hst:1<=st/\st<=2147483647) (hK:∀M mc,K (.tuple #[]) (cY x a (jI ⟨3,st,e,d,k,on,w,xx,c,la,n,pa,pn,pc,ps⟩ s) M mc R)):CT 122 #[PO x,.agg #[I6 3,I6 st,.bool e,.string d,I6 k,I6 on,I6 w,.bool xx,I6 c,I6 la,I6 n,.slice pa pn pc]] (cY x a s M mc R) K:=by
 have htl:=hI.tr.len
 obtain⟨rk,hrk⟩:=hI.tr.rk
 unfold jI at hK
 dsimp only at hK
 dsimp only[cY,p8]
 by_cases h0:on=st
 ·rw[if_pos ⟨rfl,h0⟩] at hK
  cases hm:bX st s.l with
  |none=>
   refine aJ Tryz.func122 ?_
   repeat' (first|refine By ?_|refine dw cK ?_|refine dw cJ ?_|refine w5 ?_ ?_|((refine bh fun h=>?_) <;> try exact w6 h)|(refine aF fun hA=>?_;subst hA)|intro _|(show aA _ 144 _ _ _;refine CA (h:=mY (l:=s.l) hI.sm hm ?_))|(show aA _ 57 _ _ _;refine CA (h:=dK (x:=x) (a:=a) (s:=s) hI (by decide) (by decide) (fun _ _=>?_))))
   all_goals(refine aC ?_;exact aB (hK _ _))
  |some m=>
   obtain⟨hi,_⟩:=aX hm
   refine aJ Tryz.func122 ?_
   repeat' (first|refine By ?_|refine dw cK ?_|refine dw cJ ?_|refine w5 ?_ ?_|((refine bh fun h=>?_) <;> try exact w6 h)|(refine aF fun hA=>?_;subst hA)|intro _|(show aA _ 144 _ _ _;refine CA (h:=gG (l:=s.l) hI.sm hm (fun _=>?_)))|(show aA _ 57 _ _ _;refine CA (h:=aA.ent (f3 (x:=x) (a:=a) (s:=s) (M:=M) (mc:=mc) (R:=R) hi) (dK hI (by decide) (by decide) (fun _ _=>?_)))))
   all_goals(refine aC ?_;exact aB (hK _ _))
 ·rw[if_neg (fun q=>h0 q.2)] at hK
  cases hm:bX st s.l with
  |none=>
   rw[hm] at hK
   refine aJ Tryz.func122 ?_
   repeat' (first|refine By ?_|refine dw cK ?_|refine dw cJ ?_|refine w5 ?_ ?_|((refine bh fun h=>?_) <;> try exact w6 h)|(refine aF fun hA=>?_;subst hA)|intro _|(show aA _ 144 _ _ _;refine CA (h:=mY (l:=s.l) hI.sm hm ?_)))
   all_goals(refine aC ?_;exact aB (hK _ _))
  |some m=>
   rw[hm] at hK
   dsimp only at hK
   obtain⟨hi,_⟩:=aX hm
   rw[if_pos rfl] at hK
   refine aJ Tryz.func122 ?_
   repeat' (first|refine By ?_|refine dw cK ?_|refine dw cJ ?_|refine w5 ?_ ?_|((refine bh fun h=>?_) <;> try exact w6 h)|(refine aF fun hA=>?_;subst hA)|intro _|(show aA _ 144 _ _ _;refine CA (h:=gG (l:=s.l) hI.sm hm (fun _=>?_)))|(show aA _ 199 _ _ _;refine CA (h:=Xj (s:=s.tr) hI.tr.kok (by omega) hrk ?_)))
   all_goals(refine aC ?_;exact aQ (aG.trans (by exact bE) ((f3 (x:=x) (a:=a) (s:= { s with tr:=k8 st on w xx s.tr }) (M:=M) (mc:=mc) (R:=R) hi))) (hK _ _))
theorem Og {la:Int} (hI:bR B s) (hst:1<=st/\st<=2147483647) (hK:∀M mc,K (.tuple #[]) (cY x a (jI ⟨4,st,e,d,k,on,w,xx,c,la,n,pa,pn,pc,ps⟩ s) M mc R)):CT 122 #[PO x,.agg #[I6 4,I6 st,.bool e,.string d,I6 k,I6 on,I6 w,.bool xx,I6 c,I6 la,I6 n,.slice pa pn pc]] (cY x a s M mc R) K:=by
 have htl:=hI.tr.len
 obtain⟨rk,hrk⟩:=hI.tr.rk
 unfold jI at hK
 dsimp only at hK
 dsimp only[cY,p8]
 rw[if_neg (fun q:(4:Int)=3/\_=>absurd q.1 (by decide))] at hK
 cases hm:bX st s.l with
 |none=>
  rw[hm] at hK
  refine aJ Tryz.func122 ?_
  repeat' (first|refine By ?_|refine dw cK ?_|refine dw cJ ?_|refine w5 ?_ ?_|((refine bh fun h=>?_) <;> try exact w6 h)|(refine aF fun hA=>?_;subst hA)|intro _|(show aA _ 144 _ _ _;refine CA (h:=mY (l:=s.l) hI.sm hm ?_)))
  all_goals(refine aC ?_;exact aB (hK _ _))
 |some m=>
  rw[hm] at hK
  dsimp only at hK
  obtain⟨hi,_⟩:=aX hm
  rw[if_neg (by decide),if_pos rfl] at hK
  refine aJ Tryz.func122 ?_
  repeat' (first|refine By ?_|refine dw cK ?_|refine dw cJ ?_|refine w5 ?_ ?_|((refine bh fun h=>?_) <;> try exact w6 h)|(refine aF fun hA=>?_;subst hA)|intro _|(show aA _ 144 _ _ _;refine CA (h:=gG (l:=s.l) hI.sm hm (fun _=>?_)))|(show aA _ 191 _ _ _;refine CA (h:=EN (x:=x) (a:=a) (s:=s) (M:=M) (mc:=mc) (m:=m) hI hm (.inr rfl) (fun _ _=>?_))))
  all_goals(refine aC ?_;exact aB (hK _ _))
theorem LD {la:Int} (hI:bR B s) (hst:1<=st/\st<=2147483647) (hK:∀M mc,K (.tuple #[]) (cY x a (jI ⟨10,st,e,d,k,on,w,xx,c,la,n,pa,pn,pc,ps⟩ s) M mc R)):CT 122 #[PO x,.agg #[I6 10,I6 st,.bool e,.string d,I6 k,I6 on,I6 w,.bool xx,I6 c,I6 la,I6 n,.slice pa pn pc]] (cY x a s M mc R) K:=by
 have htl:=hI.tr.len
 obtain⟨rk,hrk⟩:=hI.tr.rk
 unfold jI at hK
 dsimp only at hK
 dsimp only[cY,p8]
 rw[if_neg (fun q:(10:Int)=3/\_=>absurd q.1 (by decide))] at hK
 cases hm:bX st s.l with
 |none=>
  rw[hm] at hK
  refine aJ Tryz.func122 ?_
  repeat' (first|refine By ?_|refine dw cK ?_|refine dw cJ ?_|refine w5 ?_ ?_|((refine bh fun h=>?_) <;> try exact w6 h)|(refine aF fun hA=>?_;subst hA)|intro _|(show aA _ 144 _ _ _;refine CA (h:=mY (l:=s.l) hI.sm hm ?_)))
  all_goals(refine aC ?_;exact aB (hK _ _))
 |some m=>
  rw[hm] at hK
  dsimp only at hK
  obtain⟨hi,_⟩:=aX hm
  rw[if_neg (by decide),if_neg (by decide)] at hK
  refine aJ Tryz.func122 ?_
  repeat' (first|refine By ?_|refine dw cK ?_|refine dw cJ ?_|refine w5 ?_ ?_|((refine bh fun h=>?_) <;> try exact w6 h)|(refine aF fun hA=>?_;subst hA)|intro _|(show aA _ 144 _ _ _;refine CA (h:=gG (l:=s.l) hI.sm hm (fun _=>?_)))|(show aA _ 200 _ _ _;refine CA (h:=Eg (x:=x) (a:=a) (s:=s) (M:=M) (mc:=mc) (m:=m) (t:=10) (ps:=ps) hI (by decide) hst hm (fun _ _=>?_))))
  all_goals(refine aC ?_;exact aB (hK _ _))
theorem LJ {la:Int} (hI:bR B s) (hst:1<=st/\st<=2147483647) (hK:∀M mc,K (.tuple #[]) (cY x a (jI ⟨11,st,e,d,k,on,w,xx,c,la,n,pa,pn,pc,ps⟩ s) M mc R)):CT 122 #[PO x,.agg #[I6 11,I6 st,.bool e,.string d,I6 k,I6 on,I6 w,.bool xx,I6 c,I6 la,I6 n,.slice pa pn pc]] (cY x a s M mc R) K:=by
 have htl:=hI.tr.len
 obtain⟨rk,hrk⟩:=hI.tr.rk
 unfold jI at hK
 dsimp only at hK
 dsimp only[cY,p8]
 rw[if_neg (fun q:(11:Int)=3/\_=>absurd q.1 (by decide))] at hK
 cases hm:bX st s.l with
 |none=>
  rw[hm] at hK
  refine aJ Tryz.func122 ?_
  repeat' (first|refine By ?_|refine dw cK ?_|refine dw cJ ?_|refine w5 ?_ ?_|((refine bh fun h=>?_) <;> try exact w6 h)|(refine aF fun hA=>?_;subst hA)|intro _|(show aA _ 144 _ _ _;refine CA (h:=mY (l:=s.l) hI.sm hm ?_)))
  all_goals(refine aC ?_;exact aB (hK _ _))
 |some m=>
  rw[hm] at hK
  dsimp only at hK
  obtain⟨hi,_⟩:=aX hm
  rw[if_neg (by decide),if_neg (by decide)] at hK
  refine aJ Tryz.func122 ?_
  repeat' (first|refine By ?_|refine dw cK ?_|refine dw cJ ?_|refine w5 ?_ ?_|((refine bh fun h=>?_) <;> try exact w6 h)|(refine aF fun hA=>?_;subst hA)|intro _|(show aA _ 144 _ _ _;refine CA (h:=gG (l:=s.l) hI.sm hm (fun _=>?_)))|(show aA _ 200 _ _ _;refine CA (h:=Eg (x:=x) (a:=a) (s:=s) (M:=M) (mc:=mc) (m:=m) (t:=11) (ps:=ps) hI (by decide) hst hm (fun _ _=>?_))))
  all_goals(refine aC ?_;exact aB (hK _ _))
theorem f8 (h:bR B s):bR B { s with bt:=bN s.bt s.now }:=
 { h with
   bt:=by
    have h1:=h.bt
    have h2:=h.now
    show(0<=(bN s.bt s.now).no/\(bN s.bt s.now).no<=B)/\(0<=(bN s.bt s.now).he/\(bN s.bt s.now).he<=B)/\(0<=(bN s.bt s.now).si/\(bN s.bt s.now).si<=B)/\0<=(bN s.bt s.now).nn/\(bN s.bt s.now).nn<=B
    unfold bN
    dsimp only
    omega }
theorem XQ (h:bR B s):bR B { s with bt:=lB s.bt s.now d }:=
 { h with
   bt:=by
    have h1:=h.bt
    have h2:=h.now
    show(0<=(lB s.bt s.now d).no/\(lB s.bt s.now d).no<=B)/\(0<=(lB s.bt s.now d).he/\(lB s.bt s.now d).he<=B)/\(0<=(lB s.bt s.now d).si/\(lB s.bt s.now d).si<=B)/\0<=(lB s.bt s.now d).nn/\(lB s.bt s.now d).nn<=B
    unfold lB
    split
    ·dsimp only;omega
    ·omega }
theorem Aha (h:bR B s):Adb s.bt:=by
 have h1:=h.bt
 have h2:=h.bb
 unfold Adb
 omega
theorem jE (hK:K (.bool (!rI s id)) (cY x a s M mc R)):CT 120 #[PO x,I6 id] (cY x a s M mc R) K:=by
 dsimp only[cY,p8] at hK ⊢
 refine aJ Tryz.func120 ?_
 repeat' (first|refine I3 ?_|refine w5 ?_ ?_|((refine bh fun h=>?_) <;> try exact w6 h)|(refine aF fun hA=>?_;subst hA)|intro _|(show aA _ 162 _ _ _;refine CA (h:=Cu (sd:=s.sd) (nx:=s.nx) (la:=s.la) ?_)))
 all_goals(refine aC ?_;exact aB (hK))
theorem CL (h:bR B s) (hB:B+300<=250000000) (hr:bV f):bR (B+300) (bM f s):=by
 have hh:=f8 h
 have hm:=hh.mono (B':=B+300) (by omega) hB
 unfold bM eM
 split
 ·exact Zx hm
 ·split
  ·exact V5 hm
  ·split
   ·exact GT hm
   ·split
    ·exact XQ hm
    ·split
     ·exact YH hm
     ·split
      ·exact RU hh hB
      ·split
       ·exact Wp hm
       ·split
        ·exact iZ hm
        ·split
         ·rename_i ht
          exact Z1 hh hB (hr.2.2.2.2.2.2.2.2.2.2.2.2.1 (by omega))
         ·exact Wg hm
end Go.Proofs.YtffnpejdkkohcaaGreat
