/- A part of the proof: lemmas; each with the conditions that it states. -/
import Derived.Test.YtepnmcipkangkaaGreatPbb
set_option linter.unusedVariables false
set_option linter.unusedSimpArgs false
set_option maxRecDepth 100000
set_option maxHeartbeats 40000000
namespace Go.Proofs.YtepnmcipkangkaaGreat
open Go Go.Proofs Go.Sl
attribute [local irreducible] aN fJ cY bN aM aS aA dM dN aV dL pt ro fB star sep bF
attribute [local irreducible] mp CV
variable {R C:List HP} {K:KP} {x mc i b p r t pn pc:Nat} {a:Ca} {s:Cn} {M pa:Option Addr} {B B' id code k c st w o on sg kind n:Int} {gone own xx e:Bool} {m m':Sm} {f:Fm} {y:Ys} {l:List Sm} {cf:Cf} {h3:dZ} {z:Yp} {d:ByteArray} {mv:Mv} {ps:List Pr}
section
variable {la:Int}
def BV:List (Nat×Nat):= [(5,0),(6,1),(1,1),(2,1),(3,1),(4,1),(7,1),(0,2),(8,0),(9,0),(10,1)]
theorem lE {T:HP} {z:ByteArray} {b:Bool} (hb:s.mv.length<=1000000000) (hK:∀M mc,K (.tuple #[]) (rI x a (tY ⟨k,id,n,z,b⟩ s) M mc T R)):CT 194 #[PO x,.agg #[I6 k,I6 id,I6 n,.string z,.bool b]] (rI x a s M mc T R) K:=by
 dsimp only[rI,tY] at hK ⊢
 refine aH Tryz.func194 ?_
 repeat' (first|(show aN _ _ _ _ _ _ _;(refine dD (E:=mvC) (ys:= [⟨k,id,n,z,b⟩]) ?_;intro _ _))|refine v54 ?_|refine dw BV ?_|refine w5 ?_ ?_|((refine bh fun h=>?_) <;> try exact w6 h)|(refine aE fun hA=>?_;subst hA)|intro _)
 all_goals(refine aC ?_;exact aB (hK _ _))
theorem Ape (h:kL z k≠0):kL z k=9:=by
 unfold kL at *
 split at h
 ·rename_i hq;rw[if_pos hq]
 ·exact absurd rfl h
theorem Aag (h:kL z k≠0):f7 z k=z:=by unfold f7;rw[if_neg h]
theorem Cd (h:bO B s) (hk:0<=k/\k<=300) (hb:B+300<=250000000):bO (B+300) { s with rv:=f7 s.rv k }:=
 { h.mono (B':=B+300) (by omega) hb with rv:=Alh h.rv (by omega) }
theorem eO (h:m'.id=id):wV m' s= { s with l:=s.l.set (cI id s.l) m' }:=by subst h;rfl
theorem yO (h:bO B s) (hm:bY id s.l=some m) (hk:0<=k/\k<=300) (hb:B+300<=250000000) (hd:d.size<=256):bO (B+300) { tY mv { s with rv:=f7 s.rv k } with l:=s.l.set (cI id s.l) (fV m d e) }:=by
 obtain⟨hi,hmid⟩:=aX hm
 refine l7 (s:=tY mv { s with rv:=f7 s.rv k }) (m:=m) ?_ hi rfl rfl (Abf (h.st m (List.mem_of_getElem? hi)) hd (Int.le_refl _))
 exact { Cd h hk hb with
  mv:=by
   have:=h.mv
   show((s.mv++ [mv]).length:Int)+s.l.length<=B+300
   rw[List.length_append,List.length_singleton];omega }
theorem Ej (h:bO B s) (hm:bY m.id s.l=some m):bO B (kW m s):=by
 unfold kW
 split
 ·exact BY h hm
 ·exact h
theorem Adt (h:bO B s) (hB:B+300<=250000000) (hd:f.d.size<=256):bO (B+300) (rS f s):=by
 have hk:0<=(if f.t=0 then((f.d.size:Nat):Int) else 0)/\(if f.t=0 then((f.d.size:Nat):Int) else 0)<=300:=by split <;> omega
 unfold rS
 generalize (if f.t=0 then((f.d.size:Nat):Int) else 0)=kk at hk ⊢
 split
 ·exact jF (h.mono (by omega) hB)
 ·cases hm:bY f.st s.l with
  |none=>exact rG (Cd h hk hB)
  |some m=>
   dsimp only
   split
   ·exact sC (rG (Cd h hk hB))
   ·have hmid:=(aX hm).2
    rw[eO (id:=f.st) (show(fV m f.d f.e).id=f.st from hmid)]
    exact Ej (yO h hm hk hB hd) (mO hm rfl)
def dC:List (Nat×Nat):= [(0,0),(1,0),(2,0),(3,0),(4,0),(5,0),(6,1),(7,0),(8,0),(9,0),(10,0),(11,0)]
theorem U3 {la:Int} (hI:bO B s) (hB:B+300<=250000000) (hst:1<=st/\st<=2147483647) (hd:d.size<=256) (hK:∀M mc,K (.tuple #[]) (cB x a (rS ⟨0,st,e,d,k,on,w,xx,c,la,n,pa,pn,pc,ps⟩ s) M mc R)):CT 215 #[PO x,.agg #[I6 0,I6 st,.bool e,.string d,I6 k,I6 on,I6 w,.bool xx,I6 c,I6 la,I6 n,.slice pa pn pc]] (cB x a s M mc R) K:=by
 have hN:(if(0:Int)=0 then((d.size:Nat):Int) else 0)=((d.size:Nat):Int):=if_pos rfl
 have hI3:=hI.mono (B':=B+300) (by omega) hB
 have hN3:0<=(((d.size:Nat):Int):Int)/\(((d.size:Nat):Int):Int)<=300:=by omega
 have hrv:=hI.rv
 have hI1:=Cd (k:=((d.size:Nat):Int)) hI hN3 hB
 have hrv1:=hI1.rv
 have hmv:=hI.mv
 have hbb:=hI.bb
 unfold JV at hrv hrv1
 unfold rS at hK
 dsimp only at hK hrv1
 rw[hN] at hK
 dsimp only[cB,rI]
 by_cases hg:kL s.rv ((d.size:Nat):Int)=0
 ·rw[if_neg (fun hq=>hq hg)] at hK
  cases hm:bY st s.l with
  |none=>
   rw[hm] at hK
   refine aH Tryz.func215 ?_
   repeat' (first|refine HN ?_|refine dw dC ?_|refine w5 ?_ ?_|((refine bh fun h=>?_) <;> try exact w6 h)|(refine aE fun hA=>?_;subst hA)|intro _|(show aA _ 305 _ _ _;refine CA (h:=oH (z:=s.rv) (k:=((d.size:Nat):Int)) hI.rv (by omega) (by omega) ?_);rw[hg])|(show aA _ 126 _ _ _;refine CA (h:=oA (l:=s.l) hI.sm hm ?_))|(show aA _ 144 _ _ _;refine CA (h:=vF (y:=f7 s.rv ((d.size:Nat):Int)) (k:=((d.size:Nat):Int)) (by omega) (by omega) (fun _=>?_))))
   all_goals(refine aC ?_;exact aB (hK _ _))
  |some m=>
   rw[hm] at hK
   dsimp only at hK
   obtain⟨hi,hmid⟩:=aX hm
   have hIm:=hI.st m (List.mem_of_getElem? hi)
   have hgo:=hIm.got
   by_cases hw:eS m 0 d e=0
   ·rw[if_neg (fun hq=>hq hw),eO (id:=st) (show(fV m d e).id=st from hmid)] at hK
    rw[if_neg (fun hq:(0:Int)=1/\_=>absurd hq.1 (by decide))] at hK
    refine aH Tryz.func215 ?_
    repeat' (first|refine HN ?_|refine dw dC ?_|refine w5 ?_ ?_|((refine bh fun h=>?_) <;> try exact w6 h)|(refine aE fun hA=>?_;subst hA)|intro _|(show aA _ 305 _ _ _;refine CA (h:=oH (z:=s.rv) (k:=((d.size:Nat):Int)) hI.rv (by omega) (by omega) ?_);rw[hg])|(show aA _ 126 _ _ _;refine CA (h:=g9 (l:=s.l) hI.sm hm (fun bq=>?_)))|(show aA _ 306 _ _ _;refine CA (h:=Ck (m:=m) hw (by omega) (by omega) ?_))|(show aA _ 194 _ _ _;refine CA (h:=lE (x:=x) (a:=a) (s:= { s with rv:=f7 s.rv ((d.size:Nat):Int) }) (M:=M) (mc:=mc) (T:=O4 a.l s.l (cI st s.l) bq) (R:=tO bq (fV m d e)::R) (k:=2) (id:=st) (n:=((d.size:Nat):Int)) (z:=d) (b:=e) (by show s.mv.length<=1000000000;omega) (fun _ _=>?_)))|(show aA _ 146 _ _ _;refine CA (h:=lX (x:=x) (a:=a) (s:=tY ⟨2,st,((d.size:Nat):Int),d,e⟩ { s with rv:=f7 s.rv ((d.size:Nat):Int) }) (i:=cI st s.l) (m:=m) (R:=R) (m':=fV m d e) hi rfl (yO hI hm hN3 hB hd) (mO hm rfl) (fun _ _=>?_))))
    all_goals(refine aC ?_;exact aB (hK _ _))
   ·rw[if_pos hw] at hK
    refine aH Tryz.func215 ?_
    repeat' (first|refine HN ?_|refine dw dC ?_|refine w5 ?_ ?_|((refine bh fun h=>?_) <;> try exact w6 h)|(refine aE fun hA=>?_;subst hA)|intro _|(show aA _ 305 _ _ _;refine CA (h:=oH (z:=s.rv) (k:=((d.size:Nat):Int)) hI.rv (by omega) (by omega) ?_);rw[hg])|(show aA _ 126 _ _ _;refine CA (h:=g9 (l:=s.l) hI.sm hm (fun _=>?_)))|(show aA _ 306 _ _ _;refine CA (h:=Is (m:=m) hw ?_))|(show aA _ 144 _ _ _;refine CA (h:=vF (y:=f7 s.rv ((d.size:Nat):Int)) (k:=((d.size:Nat):Int)) (by omega) (by omega) (fun _=>?_)))|(show aA _ 302 _ _ _;refine CA (h:=aA.ent (eD (x:=x) (a:=a) (s:= { s with rv:=fL (f7 s.rv ((d.size:Nat):Int)) ((d.size:Nat):Int) }) (M:=M) (mc:=mc) (R:=R) hi) (j9 (rG hI1) LC hst (fun _ _=>?_)))))
    all_goals(refine aC ?_;exact aB (hK _ _))
 ·rw[if_pos hg] at hK
  have he9:=Ape hg
  have hsm:=Aag hg
  refine aH Tryz.func215 ?_
  repeat' (first|refine HN ?_|refine dw dC ?_|refine w5 ?_ ?_|((refine bh fun h=>?_) <;> try exact w6 h)|(refine aE fun hA=>?_;subst hA)|intro _|(show aA _ 305 _ _ _;refine CA (h:=oH (z:=s.rv) (k:=((d.size:Nat):Int)) hI.rv (by omega) (by omega) ?_);rw[he9,hsm])|(show aA _ 118 _ _ _;refine CA (h:=dU (x:=x) (a:=a) (s:=s) hI (by decide) (by decide) (fun _ _=>?_))))
  all_goals(refine aC ?_;exact aB (hK _ _))
theorem Un {la:Int} (hI:bO B s) (hB:B+300<=250000000) (hst:1<=st/\st<=2147483647) (hd:d.size<=256) (hK:∀M mc,K (.tuple #[]) (cB x a (rS ⟨1,st,e,d,k,on,w,xx,c,la,n,pa,pn,pc,ps⟩ s) M mc R)):CT 215 #[PO x,.agg #[I6 1,I6 st,.bool e,.string d,I6 k,I6 on,I6 w,.bool xx,I6 c,I6 la,I6 n,.slice pa pn pc]] (cB x a s M mc R) K:=by
 have hN:(if(1:Int)=0 then((d.size:Nat):Int) else 0)=0:=if_neg (by decide)
 have hI3:=hI.mono (B':=B+300) (by omega) hB
 have hN3:0<=(0:Int)/\(0:Int)<=300:=by omega
 have hrv:=hI.rv
 have hI1:=Cd (k:=0) hI hN3 hB
 have hrv1:=hI1.rv
 have hmv:=hI.mv
 have hbb:=hI.bb
 unfold JV at hrv hrv1
 unfold rS at hK
 dsimp only at hK hrv1
 rw[hN] at hK
 dsimp only[cB,rI]
 by_cases hg:kL s.rv 0=0
 ·rw[if_neg (fun hq=>hq hg)] at hK
  cases hm:bY st s.l with
  |none=>
   rw[hm] at hK
   refine aH Tryz.func215 ?_
   repeat' (first|refine HN ?_|refine dw dC ?_|refine w5 ?_ ?_|((refine bh fun h=>?_) <;> try exact w6 h)|(refine aE fun hA=>?_;subst hA)|intro _|(show aA _ 305 _ _ _;refine CA (h:=oH (z:=s.rv) (k:=0) hI.rv (by omega) (by omega) ?_);rw[hg])|(show aA _ 126 _ _ _;refine CA (h:=oA (l:=s.l) hI.sm hm ?_))|(show aA _ 144 _ _ _;refine CA (h:=vF (y:=f7 s.rv 0) (k:=0) (by omega) (by omega) (fun _=>?_))))
   all_goals(refine aC ?_;exact aB (hK _ _))
  |some m=>
   rw[hm] at hK
   dsimp only at hK
   obtain⟨hi,hmid⟩:=aX hm
   have hIm:=hI.st m (List.mem_of_getElem? hi)
   have hgo:=hIm.got
   by_cases hw:eS m 1 d e=0
   ·rw[if_neg (fun hq=>hq hw),eO (id:=st) (show(fV m d e).id=st from hmid)] at hK
    by_cases h0:d=⟨#[]⟩
    ·subst h0
     cases e
     ·rw[if_pos ⟨rfl,.inr rfl⟩] at hK
      refine aH Tryz.func215 ?_
      repeat' (first|refine HN ?_|refine dw dC ?_|refine w5 ?_ ?_|((refine bh fun h=>?_) <;> try exact w6 h)|(refine aE fun hA=>?_;subst hA)|intro _|(show aA _ 305 _ _ _;refine CA (h:=oH (z:=s.rv) (k:=0) hI.rv (by omega) (by omega) ?_);rw[hg])|(show aA _ 126 _ _ _;refine CA (h:=g9 (l:=s.l) hI.sm hm (fun bq=>?_)))|(show aA _ 306 _ _ _;refine CA (h:=Ck (m:=m) hw (by omega) (by omega) ?_))|(show aA _ 194 _ _ _;refine CA (h:=lE (x:=x) (a:=a) (s:= { s with rv:=f7 s.rv 0 }) (M:=M) (mc:=mc) (T:=O4 a.l s.l (cI st s.l) bq) (R:=tO bq (fV m ⟨#[]⟩ false)::R) (k:=2) (id:=st) (n:=1) (z:=⟨#[]⟩) (b:=false) (by show s.mv.length<=1000000000;omega) (fun _ _=>?_)))|(show aA _ 146 _ _ _;refine CA (h:=lX (x:=x) (a:=a) (s:=tY ⟨2,st,1,⟨#[]⟩,false⟩ { s with rv:=f7 s.rv 0 }) (i:=cI st s.l) (m:=m) (R:=R) (m':=fV m ⟨#[]⟩ false) hi rfl (yO hI hm hN3 hB hd) (mO hm rfl) (fun _ _=>?_))))
      all_goals(refine aC ?_;exact aB (hK _ _))
     ·rw[if_neg (fun hq=>hq.2.elim (fun h=>h rfl) (fun h=>by cases h))] at hK
      refine aH Tryz.func215 ?_
      repeat' (first|refine HN ?_|refine dw dC ?_|refine w5 ?_ ?_|((refine bh fun h=>?_) <;> try exact w6 h)|(refine aE fun hA=>?_;subst hA)|intro _|(show aA _ 305 _ _ _;refine CA (h:=oH (z:=s.rv) (k:=0) hI.rv (by omega) (by omega) ?_);rw[hg])|(show aA _ 126 _ _ _;refine CA (h:=g9 (l:=s.l) hI.sm hm (fun bq=>?_)))|(show aA _ 306 _ _ _;refine CA (h:=Ck (m:=m) hw (by omega) (by omega) ?_))|(show aA _ 194 _ _ _;refine CA (h:=lE (x:=x) (a:=a) (s:= { s with rv:=f7 s.rv 0 }) (M:=M) (mc:=mc) (T:=O4 a.l s.l (cI st s.l) bq) (R:=tO bq (fV m ⟨#[]⟩ true)::R) (k:=2) (id:=st) (n:=0) (z:=⟨#[]⟩) (b:=true) (by show s.mv.length<=1000000000;omega) (fun _ _=>?_)))|(show aA _ 146 _ _ _;refine CA (h:=lX (x:=x) (a:=a) (s:=tY ⟨2,st,0,⟨#[]⟩,true⟩ { s with rv:=f7 s.rv 0 }) (i:=cI st s.l) (m:=m) (R:=R) (m':=fV m ⟨#[]⟩ true) hi rfl (yO hI hm hN3 hB hd) (mO hm rfl) (fun _ _=>?_))))
      all_goals(refine aC ?_;exact aB (hK _ _))
    ·rw[if_pos ⟨rfl,.inl h0⟩] at hK
     have hbq:=UI h0
     refine aH Tryz.func215 ?_
     repeat' (first|(show Br _ _ _;refine Br.t hbq ?_)|(show cY _ _ _;rw[hbq])|refine HN ?_|refine dw dC ?_|refine w5 ?_ ?_|((refine bh fun h=>?_) <;> try exact w6 h)|(refine aE fun hA=>?_;subst hA)|intro _|(show aA _ 305 _ _ _;refine CA (h:=oH (z:=s.rv) (k:=0) hI.rv (by omega) (by omega) ?_);rw[hg])|(show aA _ 126 _ _ _;refine CA (h:=g9 (l:=s.l) hI.sm hm (fun bq=>?_)))|(show aA _ 306 _ _ _;refine CA (h:=Ck (m:=m) hw (by omega) (by omega) ?_))|(show aA _ 194 _ _ _;refine CA (h:=lE (x:=x) (a:=a) (s:= { s with rv:=f7 s.rv 0 }) (M:=M) (mc:=mc) (T:=O4 a.l s.l (cI st s.l) bq) (R:=tO bq (fV m d e)::R) (k:=2) (id:=st) (n:=1) (z:=d) (b:=e) (by show s.mv.length<=1000000000;omega) (fun _ _=>?_)))|(show aA _ 146 _ _ _;refine CA (h:=lX (x:=x) (a:=a) (s:=tY ⟨2,st,1,d,e⟩ { s with rv:=f7 s.rv 0 }) (i:=cI st s.l) (m:=m) (R:=R) (m':=fV m d e) hi rfl (yO hI hm hN3 hB hd) (mO hm rfl) (fun _ _=>?_))))
     all_goals(refine aC ?_;exact aB (hK _ _))
   ·rw[if_pos hw] at hK
    refine aH Tryz.func215 ?_
    repeat' (first|refine HN ?_|refine dw dC ?_|refine w5 ?_ ?_|((refine bh fun h=>?_) <;> try exact w6 h)|(refine aE fun hA=>?_;subst hA)|intro _|(show aA _ 305 _ _ _;refine CA (h:=oH (z:=s.rv) (k:=0) hI.rv (by omega) (by omega) ?_);rw[hg])|(show aA _ 126 _ _ _;refine CA (h:=g9 (l:=s.l) hI.sm hm (fun _=>?_)))|(show aA _ 306 _ _ _;refine CA (h:=Is (m:=m) hw ?_))|(show aA _ 144 _ _ _;refine CA (h:=vF (y:=f7 s.rv 0) (k:=0) (by omega) (by omega) (fun _=>?_)))|(show aA _ 302 _ _ _;refine CA (h:=aA.ent (eD (x:=x) (a:=a) (s:= { s with rv:=fL (f7 s.rv 0) 0 }) (M:=M) (mc:=mc) (R:=R) hi) (j9 (rG hI1) LC hst (fun _ _=>?_)))))
    all_goals(refine aC ?_;exact aB (hK _ _))
 ·rw[if_pos hg] at hK
  have he9:=Ape hg
  have hsm:=Aag hg
  refine aH Tryz.func215 ?_
  repeat' (first|refine HN ?_|refine dw dC ?_|refine w5 ?_ ?_|((refine bh fun h=>?_) <;> try exact w6 h)|(refine aE fun hA=>?_;subst hA)|intro _|(show aA _ 305 _ _ _;refine CA (h:=oH (z:=s.rv) (k:=0) hI.rv (by omega) (by omega) ?_);rw[he9,hsm])|(show aA _ 118 _ _ _;refine CA (h:=dU (x:=x) (a:=a) (s:=s) hI (by decide) (by decide) (fun _ _=>?_))))
  all_goals(refine aC ?_;exact aB (hK _ _))
end
theorem Nf:∀l:List Sm,l.length=(l.filter fun m=>m.own == true).length+(l.filter fun m=>m.own == false).length
 | []=>rfl
 |m::l=>by
  have:=Nf l
  rw[List.filter_cons,List.filter_cons,List.length_cons]
  cases m.own <;> simp only[beq_self_eq_true,if_true,List.length_cons,(by decide:(false == true)=false),(by decide:(true == false)=false),Bool.false_eq_true,if_false] <;> omega
theorem rY (hs:s.sd=0\/s.sd=1) (hp:nF s.sd s.la id=0):(1<=id/\id<=2147483647)/\s.la<id/\PI s.sd id=false:=by
 unfold nF at hp
 split at hp
 ·rename_i hq
  obtain⟨h1,h2⟩:=hq
  unfold PI at h1 ⊢
  simp only[Bool.and_eq_true,decide_eq_true_eq,beq_iff_eq,decide_eq_decide] at h1
  refine⟨h1.1,h2,?_⟩
  have h3:=h1.2
  rw[Bool.and_eq_false_iff]
  right
  rw[beq_eq_false_iff_ne]
  intro h4
  rw[decide_eq_decide] at h4
  omega
 ·cases hp
theorem Jr (h:bO B s) (hp:nF s.sd s.la id=0):bO B { s with la:=id }:=
 { h with
   la:=by
    have:=(rY h.sd hp).1
    show AG id
    unfold AG;omega
   ids:=fun z hz=>by
    have h1:=h.ids z hz
    have h2:=(rY h.sd hp).2.1
    show gF s.sd s.nx id z.id=true
    unfold gF at h1 ⊢
    simp only[Bool.and_eq_true,decide_eq_true_eq] at h1 ⊢
    refine⟨h1.1,?_⟩
    have h3:=h1.2
    split at h3
    ·rename_i hq;rw[if_pos hq];exact h3
    ·rename_i hq;rw[if_neg hq];simp only[decide_eq_true_eq] at h3 ⊢;omega }
theorem GD (h:bO B s) (hp:nF s.sd s.la id=0):bY id s.l=none:=by
 obtain⟨h1,h2,h3⟩:=rY h.sd hp
 cases hm:bY id s.l with
 |none=>rfl
 |some m=>
  obtain⟨hi,hid⟩:=aX hm
  have h4:=h.ids m (List.mem_of_getElem? hi)
  rw[hid] at h4
  unfold gF at h4
  rw[h3] at h4
  simp only[Bool.and_eq_true,decide_eq_true_eq,Bool.false_eq_true,if_false] at h4
  omega
theorem Yj (hs:s.sd=0\/s.sd=1) (hp:nF s.sd s.la id=0):gF s.sd s.nx id id=true:=by
 obtain⟨h1,h2,h3⟩:=rY hs hp
 unfold gF
 rw[h3]
 simp only[Bool.false_eq_true,if_false,Bool.and_eq_true,decide_eq_true_eq]
 omega
theorem Ahs (h:bO B s):s.sh.h.st<=32:=by
 have:=h.sh.2.1
 unfold tM rT at this
 simp only[decide_eq_true_eq] at this
 omega
theorem Jx (h:bO B s) (ho:¬s.sh.h.st<=(fW s false:Nat)):s.l.length<64/\fW s false<32:=by
 have h1:=Ahs h
 have h2:=h.own true
 have h3:=Nf s.l
 unfold fW at *
 omega
theorem Aom (h:bO B s) (hb:(s.mv.length:Int)+s.l.length+1<=B):bO B (tY mv s):=
 { h with
   mv:=by
    show((s.mv++ [mv]).length:Int)+s.l.length<=B
    rw[List.length_append,List.length_singleton];omega }
theorem Uq (h:bO B s) (hB:B+300<=250000000):bO (B+300) (mN f s):=by
 have hm:=h.mono (B':=B+300) (by omega) hB
 have hmv:=h.mv
 unfold mN
 by_cases hp:nF s.sd s.la f.st=0
 ·rw[if_neg (fun q=>q hp)]
  have Ex:=Jr hm hp
  split
  ·exact jF Ex
  ·split
   ·exact sC Ex
   ·split
    ·exact sC Ex
    ·rename_i ho
     obtain⟨h1,h2⟩:=Jx h ho
     have q1:=GD h hp
     have q2:=(rY h.sd hp).1
     have q3:=Yj h.sd hp
     have hl:=(We (s:= { s with la:=f.st }) (kind:=f.k) (on:=f.on) (w:=f.w) (xx:=f.x) (sg:=s.cf.sg) (own:=false) Ex q1 h1 q2 q3 h2 (by show(s.mv.length:Int)+s.l.length+1<=B+300;omega))
     refine Aom hl ?_
     have e:(lB (iC s.cf s.sh.h f.st f.k s.cf.sg false) s.l).length<=s.l.length+1:=by
      unfold lB
      rw[List.length_append,List.length_cons,List.length_take,List.length_drop]
      omega
     show(s.mv.length:Int)+((lB (iC s.cf s.sh.h f.st f.k s.cf.sg false) s.l).length:Int)+1<=B+300
     omega
 ·rw[if_pos hp];exact jF hm
def hO:List (Nat×Nat):= [(0,0),(1,0),(2,0),(3,0),(4,0),(5,0),(6,1),(7,0),(8,0)]
def iH:List (Nat×Nat):= [(0,0),(1,0),(2,0),(3,0),(4,0),(5,0),(6,1),(7,0),(8,0)]
def hM:List (Nat×Nat):= [(0,0),(1,1),(2,1),(3,1),(4,1),(5,1),(6,1),(7,0),(8,0),(9,0)]
def iF:List (Nat×Nat):= [(0,0),(1,0),(2,0),(3,0),(4,0),(5,0),(6,0),(7,0),(8,0),(9,0),(10,0),(11,0),(12,1)]
theorem RS {t:Int} {la:Int} (hI:bO B s) (hst:1<=st/\st<=2147483647) (hk:k=1\/k=2) (hb:B<=249000000) (hK:∀M mc,K (.tuple #[]) (cB x a (mN ⟨t,st,e,d,k,on,w,xx,c,la,n,pa,pn,pc,ps⟩ s) M mc R)):CT 212 #[PO x,.agg #[I6 t,I6 st,.bool e,.string d,I6 k,I6 on,I6 w,.bool xx,I6 c,I6 la,I6 n,.slice pa pn pc]] (cB x a s M mc R) K:=by
 have hmv:=hI.mv
 have hbb:=hI.bb
 unfold mN at hK
 dsimp only at hK
 dsimp only[cB,rI]
 by_cases hp:nF s.sd s.la st=0
 ·rw[if_neg (fun q=>q hp)] at hK
  have hI1:=Jr hI hp
  by_cases h1:on=st
  ·rw[if_pos h1] at hK
   refine aH Tryz.func212 ?_
   repeat' (first|(show aN _ _ _ _ _ _ _;refine iD ?_)|refine Cc ?_|refine dw hO ?_|refine dw iH ?_|refine dw hM ?_|refine dw iF ?_|refine w5 ?_ ?_|((refine bh fun h=>?_) <;> try exact w6 h)|(refine aE fun hA=>?_;subst hA)|intro _|(show aA _ 300 _ _ _;refine CA (h:=vT (sd:=s.sd) (la:=s.la) (nx:=s.nx) hI.sd ?_);rw[hp,if_pos rfl])|(show aA _ 118 _ _ _;refine CA (h:=dU (x:=x) (a:=a) (s:= { s with la:=st }) hI1 (by decide) (by decide) (fun _ _=>?_))))
   all_goals(refine aC ?_;exact aB (hK _ _))
  ·rw[if_neg h1] at hK
   cases h2:E4 s.dr st
   ·rw[h2,if_pos rfl] at hK
    refine aH Tryz.func212 ?_
    repeat' (first|(show aN _ _ _ _ _ _ _;refine iD ?_)|refine Cc ?_|refine dw hO ?_|refine dw iH ?_|refine dw hM ?_|refine dw iF ?_|refine w5 ?_ ?_|((refine bh fun h=>?_) <;> try exact w6 h)|(refine aE fun hA=>?_;subst hA)|intro _|(show aA _ 300 _ _ _;refine CA (h:=vT (sd:=s.sd) (la:=s.la) (nx:=s.nx) hI.sd ?_);rw[hp,if_pos rfl])|(show aA _ 301 _ _ _;refine CA (h:=F2 (d:=s.dr) ?_);rw[h2])|(show aA _ 302 _ _ _;refine CA (h:=j9 (x:=x) (a:=a) (s:= { s with la:=st }) hI1 (by decide) hst (fun _ _=>?_))))
    all_goals(refine aC ?_;exact aB (hK _ _))
   ·rw[h2,if_neg (by decide)] at hK
    have hown:fW { s with la:=st } false=fW s false:=rfl
    by_cases h3:s.sh.h.st<=(fW s false:Nat)
    ·rw[if_pos h3] at hK
     refine aH Tryz.func212 ?_
     repeat' (first|(show aN _ _ _ _ _ _ _;refine iD ?_)|refine Cc ?_|refine dw hO ?_|refine dw iH ?_|refine dw hM ?_|refine dw iF ?_|refine w5 ?_ ?_|((refine bh fun h=>?_) <;> try exact w6 h)|(refine aE fun hA=>?_;subst hA)|intro _|(show aA _ 300 _ _ _;refine CA (h:=vT (sd:=s.sd) (la:=s.la) (nx:=s.nx) hI.sd ?_);rw[hp,if_pos rfl])|(show aA _ 301 _ _ _;refine CA (h:=F2 (d:=s.dr) ?_);rw[h2])|(show aA _ 61 _ _ _;refine CA (h:=s9 (x:=x) (a:=a) (s:= { s with la:=st }) (M:=M) (mc:=mc) hI1 ?_);rw[hown])|(show aA _ 232 _ _ _;refine CA (h:=zJ (s:=s.sh) ?_))|(show aA _ 302 _ _ _;refine CA (h:=j9 (x:=x) (a:=a) (s:= { s with la:=st }) hI1 (by decide) hst (fun _ _=>?_))))
     all_goals(refine aC ?_;exact aB (hK _ _))
    ·rw[if_neg h3] at hK
     obtain⟨hr1,hr2⟩:=Jx hI h3
     have q1:=GD hI hp
     refine aH Tryz.func212 ?_
     repeat' (first|(show aN _ _ _ _ _ _ _;refine iD ?_)|refine Cc ?_|refine dw hO ?_|refine dw iH ?_|refine dw hM ?_|refine dw iF ?_|refine w5 ?_ ?_|((refine bh fun h=>?_) <;> try exact w6 h)|(refine aE fun hA=>?_;subst hA)|intro _|(show aA _ 300 _ _ _;refine CA (h:=vT (sd:=s.sd) (la:=s.la) (nx:=s.nx) hI.sd ?_);rw[hp,if_pos rfl])|(show aA _ 301 _ _ _;refine CA (h:=F2 (d:=s.dr) ?_);rw[h2])|(show aA _ 61 _ _ _;refine CA (h:=s9 (x:=x) (a:=a) (s:= { s with la:=st }) (M:=M) (mc:=mc) hI1 ?_);rw[hown])|(show aA _ 232 _ _ _;refine CA (h:=zJ (s:=s.sh) ?_))|(show aA _ 140 _ _ _;refine CA (h:=SA (x:=x) (a:=a) (s:= { s with la:=st }) (M:=M) (mc:=mc) hI1 hk hI.cf.2.2 q1 hr1 hst ?_))|(show aA _ 194 _ _ _;refine CA (h:=J4 (x:=x) (a:=a) (s:=GZ st k on w xx false s.cf.sg { s with la:=st }) (M:=M) (mc:=mc) (R:=R) (by show s.mv.length<=1000000000;omega) (fun _ _=>?_))))
     all_goals(refine aC ?_;exact aB (hK _ _))
 ·rw[if_pos hp] at hK
  have Ex:nF s.sd s.la st=1:=by unfold nF at hp ⊢;split <;> first|rfl|(rename_i hq;rw[if_pos hq] at hp;exact absurd rfl hp)
  refine aH Tryz.func212 ?_
  repeat' (first|(show aN _ _ _ _ _ _ _;refine iD ?_)|refine Cc ?_|refine dw hO ?_|refine dw iH ?_|refine dw hM ?_|refine dw iF ?_|refine w5 ?_ ?_|((refine bh fun h=>?_) <;> try exact w6 h)|(refine aE fun hA=>?_;subst hA)|intro _|(show aA _ 300 _ _ _;refine CA (h:=vT (sd:=s.sd) (la:=s.la) (nx:=s.nx) hI.sd ?_);rw[Ex,if_neg (by decide)])|(show aA _ 118 _ _ _;refine CA (h:=dU (x:=x) (a:=a) (s:=s) hI (by decide) (by decide) (fun _ _=>?_))))
  all_goals(refine aC ?_;exact aB (hK _ _))
theorem He {b:Int} (h:m9 n b≠0):j8 n b=n:=by
 unfold m9 at h
 unfold j8
 split at h
 ·rename_i hq
  rw[if_pos hq]
  unfold xM at h
  unfold AA
  split at h
  ·exact absurd rfl h
  ·rename_i hf;rw[if_neg hf]
 ·rename_i hq;rw[if_neg hq]
theorem GX {t b:Int} {s:Ld} (h:l9 t b s≠0):j0 t b s=s:=by
 unfold l9 at h
 unfold j0
 split at h
 ·rename_i ht
  rw[if_pos ht,He h]
 ·rename_i ht
  rw[if_neg ht]
  cases he:pL t s.l with
  |none=>rfl
  |some e=>
   rw[he] at h
   dsimp only at h ⊢
   rw[He h]
   have:=(nV he).1
   rw[k6 _ this]
theorem Dh (h:bO B s) {q:Ld} (hq:G7 B q):bO B { s with ld:=q,sl:=f5 s.sl s.now }:=
 { h with
   ld:=hq
   sl:=by
    have h1:=h.sl
    have h2:=h.now
    show(0<=(f5 s.sl s.now).nw/\(f5 s.sl s.now).nw<=B)/\0<=(f5 s.sl s.now).si/\(f5 s.sl s.now).si<=B
    unfold f5
    split
    ·exact h1
    ·dsimp only
     split <;> omega }
theorem Y7 (h:bO B s):bO B (qQ f s):=by
 unfold qQ
 split
 ·exact jF h
 ·split
  ·exact jF h
  ·exact Dh h (QH h.ld)
def nK:List (Nat×Nat):= [(0,0),(1,0),(2,0),(3,0),(4,0),(5,0),(6,1),(7,0),(8,0)]
def nM:List (Nat×Nat):= [(0,0),(1,0),(2,0),(3,0),(4,0),(5,0),(6,0),(7,0),(8,1)]
theorem IU {t:Int} {la:Int} (hI:bO B s) (hK:∀M mc,K (.tuple #[]) (cB x a (qQ ⟨t,st,e,d,k,on,w,xx,c,la,n,pa,pn,pc,ps⟩ s) M mc R)):CT 213 #[PO x,.agg #[I6 t,I6 st,.bool e,.string d,I6 k,I6 on,I6 w,.bool xx,I6 c,I6 la,I6 n,.slice pa pn pc]] (cB x a s M mc R) K:=by
 have hbb:=hI.bb
 unfold qQ at hK
 dsimp only at hK
 dsimp only[cB,rI]
 by_cases h0:n=0
 ·rw[if_pos h0] at hK
  refine aH Tryz.func213 ?_
  repeat' (first|refine v46 ?_|refine dw nK ?_|refine dw nM ?_|refine w5 ?_ ?_|((refine bh fun h=>?_) <;> try exact w6 h)|(refine aE fun hA=>?_;subst hA)|intro _|(show aA _ 118 _ _ _;refine CA (h:=dU (x:=x) (a:=a) (s:=s) hI (by decide) (by decide) (fun _ _=>?_))))
  all_goals(refine aC ?_;exact aB (hK _ _))
 ·rw[if_neg h0] at hK
  by_cases hg:l9 0 n s.ld=0
  ·rw[if_neg (fun q=>q hg)] at hK
   refine aH Tryz.func213 ?_
   repeat' (first|refine v46 ?_|refine dw nK ?_|refine dw nM ?_|refine w5 ?_ ?_|((refine bh fun h=>?_) <;> try exact w6 h)|(refine aE fun hA=>?_;subst hA)|intro _|(show aA _ 303 _ _ _;refine CA (h:=Cr (s:=s.ld) (hI.ld.ok (by omega)) ?_);rw[hg])|(show aA _ 304 _ _ _;refine CA (h:=Bv (s:=s.sl) ?_)))
   all_goals(refine aC ?_;exact aB (hK _ _))
  ·rw[if_pos hg] at hK
   have hs:=GX hg
   refine aH Tryz.func213 ?_
   repeat' (first|(show Br _ _ _;refine Br.t (by first|(simp <;> done)|simpa using hg) ?_)|refine v46 ?_|refine dw nK ?_|refine dw nM ?_|refine w5 ?_ ?_|((refine bh fun h=>?_) <;> try exact w6 h)|(refine aE fun hA=>?_;subst hA)|intro _|(show aA _ 303 _ _ _;refine CA (h:=Cr (s:=s.ld) (hI.ld.ok (by omega)) ?_);rw[hs])|(show aA _ 118 _ _ _;refine CA (h:=dU (x:=x) (a:=a) (s:=s) hI (by decide) (by decide) (fun _ _=>?_))))
   all_goals(refine aC ?_;exact aB (hK _ _))
theorem HW {q:Xs}:bA (qD q n)=bA q:=by
 cases q with
 |b z=>rfl
 |i z=>rfl
theorem Acb (h:GH B m):GH B { m with x:=qD m.x n }:=by
 obtain⟨h1,h2,h3,h4⟩:=h
 refine⟨h1,?_,h3,h4⟩
 cases hx:m.x with
 |b z=>rw[hx] at h2;exact h2
 |i z=>
  rw[hx] at h2
  by_cases hn:1<=n
  ·simp only[qD,if_pos hn];exact h2
  ·simp only[qD,if_neg hn];exact h2
theorem QN (h:bO B s) (hm:bY f.st s.l=some m):bO B (kT f m s):=by
 obtain⟨hi,hmid⟩:=aX hm
 unfold kT
 split
 ·exact sC h
 ·split
  ·exact sC h
  ·split
   ·split
    ·exact sC h
    ·exact Dh h (QH h.ld)
   ·split
    ·exact sC h
    ·rw[eO (id:=f.st) (show({ m with x:=qD m.x f.n }:Sm).id=f.st from hmid)]
     exact l7 (s:= { s with sl:=f5 s.sl s.now }) (Dh h h.ld) hi rfl rfl (Acb (h.st m (List.mem_of_getElem? hi)))
def dF:List (Nat×Nat):= [(0,0),(1,0),(2,0),(3,0),(4,0),(5,0),(6,0),(7,0),(8,1),(9,0)]
def dK:List (Nat×Nat):= [(0,0),(1,1),(2,1),(3,1),(4,1),(5,0)]
def dE:List (Nat×Nat):= [(0,0),(1,0),(2,0),(3,0),(4,0),(5,0),(6,0),(7,0),(8,1)]
theorem E3 {t:Int} {la:Int} (hI:bO B s) (ht:t=10\/t=11) (hst:1<=st/\st<=2147483647) (hm:bY st s.l=some m) (hK:∀M mc,K (.tuple #[]) (cB x a (kT ⟨t,st,e,d,k,on,w,xx,c,la,n,pa,pn,pc,ps⟩ m s) M mc R)):CT 307 #[PO x,.agg #[I6 t,I6 st,.bool e,.string d,I6 k,I6 on,I6 w,.bool xx,I6 c,I6 la,I6 n,.slice pa pn pc],PO b] (tO b m::cnH x a s M mc (cI st s.l) b R) K:=by
 have hbb:=hI.bb
 obtain⟨hi,hmid⟩:=aX hm
 unfold kT at hK
 dsimp only at hK
 refine WO fun hok=>?_
 dsimp only[cnH,rI]
 have hk2:bA m.x=1\/bA m.x=2:=by cases m.x <;> simp[bA]
 rcases hk2 with h1|h1 <;> rcases ht with rfl|rfl
 ·rw[if_neg (by rw[h1];simp)] at hK
  by_cases h0:n=0
  ·rw[if_pos h0] at hK
   refine aH Tryz.func307 ?_
   repeat' (first|refine v46 ?_|refine dw dF ?_|refine dw dK ?_|refine dw dE ?_|refine w5 ?_ ?_|((refine bh fun h=>?_) <;> try exact w6 h)|(refine aE fun hA=>?_;subst hA)|intro _|(show aA _ 70 _ _ _;refine CA (h:=lW (m:=m) ?_);rw[h1])|(show aA _ 302 _ _ _;refine CA (h:=aA.ent (eD (x:=x) (a:=a) (s:=s) (M:=M) (mc:=mc) (R:=R) hi) (j9 hI (by decide) hst (fun _ _=>?_)))))
   all_goals(refine aC ?_;exact aB (hK _ _))
  ·rw[if_neg h0,if_pos h1] at hK
   by_cases hg:l9 st n s.ld=0
   ·rw[if_neg (fun q=>q hg)] at hK
    refine aH Tryz.func307 ?_
    repeat' (first|refine v46 ?_|refine dw dF ?_|refine dw dK ?_|refine dw dE ?_|refine w5 ?_ ?_|((refine bh fun h=>?_) <;> try exact w6 h)|(refine aE fun hA=>?_;subst hA)|intro _|(show aA _ 70 _ _ _;refine CA (h:=lW (m:=m) ?_);rw[h1])|(show aA _ 303 _ _ _;refine CA (h:=Cr (s:=s.ld) (hI.ld.ok (by omega)) ?_);rw[hg])|(show aA _ 304 _ _ _;refine CA (h:=Bv (s:=s.sl) ?_)))
    all_goals(refine aC ?_;exact aK (aG.trans (by exact aZ) ((eD (x:=x) (a:=a) (s:= { s with ld:=j0 st n s.ld,sl:=f5 s.sl s.now }) (M:=M) (mc:=mc) (R:=R) (b:=b) hi))) (hK _ _))
   ·rw[if_pos hg] at hK
    have hs:=GX hg
    refine aH Tryz.func307 ?_
    repeat' (first|(show Br _ _ _;refine Br.t (by first|(simp <;> done)|simpa using hg) ?_)|refine v46 ?_|refine dw dF ?_|refine dw dK ?_|refine dw dE ?_|refine w5 ?_ ?_|((refine bh fun h=>?_) <;> try exact w6 h)|(refine aE fun hA=>?_;subst hA)|intro _|(show aA _ 70 _ _ _;refine CA (h:=lW (m:=m) ?_);rw[h1])|(show aA _ 303 _ _ _;refine CA (h:=Cr (s:=s.ld) (hI.ld.ok (by omega)) ?_);rw[hs])|(show aA _ 302 _ _ _;refine CA (h:=aA.ent (eD (x:=x) (a:=a) (s:=s) (M:=M) (mc:=mc) (R:=R) hi) (j9 hI (by decide) hst (fun _ _=>?_)))))
    all_goals(refine aC ?_;exact aB (hK _ _))
 ·rw[if_pos (by rw[h1];simp)] at hK
  refine aH Tryz.func307 ?_
  repeat' (first|refine v46 ?_|refine dw dF ?_|refine dw dK ?_|refine dw dE ?_|refine w5 ?_ ?_|((refine bh fun h=>?_) <;> try exact w6 h)|(refine aE fun hA=>?_;subst hA)|intro _|(show aA _ 70 _ _ _;refine CA (h:=lW (m:=m) ?_);rw[h1])|(show aA _ 302 _ _ _;refine CA (h:=aA.ent (eD (x:=x) (a:=a) (s:=s) (M:=M) (mc:=mc) (R:=R) hi) (j9 hI (by decide) hst (fun _ _=>?_)))))
  all_goals(refine aC ?_;exact aB (hK _ _))
 ·rw[if_pos (by rw[h1];simp)] at hK
  refine aH Tryz.func307 ?_
  repeat' (first|refine v46 ?_|refine dw dF ?_|refine dw dK ?_|refine dw dE ?_|refine w5 ?_ ?_|((refine bh fun h=>?_) <;> try exact w6 h)|(refine aE fun hA=>?_;subst hA)|intro _|(show aA _ 70 _ _ _;refine CA (h:=lW (m:=m) ?_);rw[h1])|(show aA _ 302 _ _ _;refine CA (h:=aA.ent (eD (x:=x) (a:=a) (s:=s) (M:=M) (mc:=mc) (R:=R) hi) (j9 hI (by decide) hst (fun _ _=>?_)))))
  all_goals(refine aC ?_;exact aB (hK _ _))
 ·rw[if_neg (by rw[h1];simp)] at hK
  by_cases h0:n=0
  ·rw[if_pos h0] at hK
   refine aH Tryz.func307 ?_
   repeat' (first|refine v46 ?_|refine dw dF ?_|refine dw dK ?_|refine dw dE ?_|refine w5 ?_ ?_|((refine bh fun h=>?_) <;> try exact w6 h)|(refine aE fun hA=>?_;subst hA)|intro _|(show aA _ 70 _ _ _;refine CA (h:=lW (m:=m) ?_);rw[h1])|(show aA _ 302 _ _ _;refine CA (h:=aA.ent (eD (x:=x) (a:=a) (s:=s) (M:=M) (mc:=mc) (R:=R) hi) (j9 hI (by decide) hst (fun _ _=>?_)))))
   all_goals(refine aC ?_;exact aB (hK _ _))
  ·rw[if_neg h0,if_neg (by rw[h1];decide)] at hK
   by_cases hg:Gi m.x n=0
   ·rw[if_neg (fun q=>q hg),eO (id:=st) (show({ m with x:=qD m.x n }:Sm).id=st from hmid)] at hK
    refine aH Tryz.func307 ?_
    repeat' (first|refine v46 ?_|refine dw dF ?_|refine dw dK ?_|refine dw dE ?_|refine w5 ?_ ?_|((refine bh fun h=>?_) <;> try exact w6 h)|(refine aE fun hA=>?_;subst hA)|intro _|(show aA _ 70 _ _ _;refine CA (h:=lW (m:=m) ?_);rw[h1])|(show aA _ 42 _ _ _;refine CA (h:=OX (m:=m) (fun _=>?_)))|(show aA _ 390 _ _ _;refine CA (h:=Pk (x:=m.x) ?_);rw[hg])|(show aA _ 304 _ _ _;refine CA (h:=Bv (s:=s.sl) ?_)))
    all_goals(refine aC ?_;exact aK (aG.trans (by exact aZ) ((aG.trans (I4 HW) (nA (x:=x) (a:=a) (s:= { s with sl:=f5 s.sl s.now }) (M:=M) (mc:=mc) (R:=R) (b:=b) (m':= { m with x:=qD m.x n }) hi rfl)))) (hK _ _))
   ·rw[if_pos hg] at hK
    have hsx:qD m.x n=m.x:=by
     cases hx:m.x with
     |b z=>rfl
     |i z=>
      rw[hx] at hg
      unfold Gi at hg
      unfold qD
      by_cases hn:1<=n
      ·simp only[if_pos hn] at hg;exact absurd trivial hg
      ·simp only[if_neg hn]
    refine aH Tryz.func307 ?_
    repeat' (first|(show Br _ _ _;refine Br.t (by first|(simp <;> done)|simpa using hg) ?_)|refine v46 ?_|refine dw dF ?_|refine dw dK ?_|refine dw dE ?_|refine w5 ?_ ?_|((refine bh fun h=>?_) <;> try exact w6 h)|(refine aE fun hA=>?_;subst hA)|intro _|(show aA _ 70 _ _ _;refine CA (h:=lW (m:=m) ?_);rw[h1])|(show aA _ 42 _ _ _;refine CA (h:=OX (m:=m) (fun _=>?_)))|(show aA _ 390 _ _ _;refine CA (h:=Pk (x:=m.x) ?_);rw[hsx])|(show aA _ 302 _ _ _;refine CA (h:=aA.ent (aG.trans (I4 (m:=m) (z:=m.x) rfl) (eD (x:=x) (a:=a) (s:=s) (M:=M) (mc:=mc) (R:=R) hi)) (j9 hI (by decide) hst (fun _ _=>?_)))))
    all_goals(refine aC ?_;exact aB (hK _ _))
end Go.Proofs.YtepnmcipkangkaaGreat
