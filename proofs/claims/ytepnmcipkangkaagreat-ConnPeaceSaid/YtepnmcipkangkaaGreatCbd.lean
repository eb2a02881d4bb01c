/- A part of the proof: lemmas; each with the conditions that it states. -/
import Derived.Test.YtepnmcipkangkaaGreatCbc
set_option linter.unusedVariables false
set_option linter.unusedSimpArgs false
set_option maxRecDepth 100000
set_option maxHeartbeats 40000000
namespace Go.Proofs.YtepnmcipkangkaaGreat
open Go Go.Proofs Go.Sl
attribute [local irreducible] aN fL cL bM aL aR aA dJ dK aU dI pt ro fC star sep bF
attribute [local irreducible] mp DG
variable {R C:List HP} {K:KP} {x mc i b p r t pn pc:Nat} {a:Ca} {s:Cn} {M pa:Option Addr} {B B' id code k c st w o on sg kind n:Int} {gone own xx e:Bool} {m m':Sm} {f:Fm} {y:Ys} {l:List Sm} {cf:Cf} {h3:dR} {z:Yp} {d:ByteArray} {mv:Mv} {ps:List Pr}
section
variable {la:Int}
def Ba:List (Nat×Nat):= [(5,0),(6,1),(1,1),(2,1),(3,1),(4,1),(7,1),(0,2),(8,0),(9,0),(10,1)]
theorem lP {T:HP} {z:ByteArray} {b:Bool} (hb:s.mv.length<=1000000000) (hK:∀M mc,K (.tuple #[]) (nF x a (t7 ⟨k,id,n,z,b⟩ s) M mc T R)):CT 194 #[PO x,.agg #[I6 k,I6 id,I6 n,.string z,.bool b]] (nF x a s M mc T R) K:=by
 dsimp only[nF,t7] at hK ⊢
 refine aH Tryz.func194 ?_
 repeat' (first|(show aN _ _ _ _ _ _ _;(refine dD (E:=mvC) (ys:= [⟨k,id,n,z,b⟩]) ?_;intro _ _))|refine v54 ?_|refine dw Ba ?_|refine w5 ?_ ?_|((refine bh fun h=>?_) <;> try exact w6 h)|(refine aE fun hA=>?_;subst hA)|intro _)
 all_goals(refine aC ?_;exact aB (hK _ _))
theorem Apz (h:k7 z k≠0):k7 z k=9:=by
 unfold k7 at *
 split at h
 ·rename_i hq;rw[if_pos hq]
 ·exact absurd rfl h
theorem Aej (h:k7 z k≠0):gA z k=z:=by unfold gA;rw[if_neg h]
theorem B4 (h:bO B s) (hk:0<=k/\k<=300) (hb:B+300<=250000000):bO (B+300) { s with rv:=gA s.rv k }:=
 { h.mono (B':=B+300) (by omega) hb with rv:=Aj5 h.rv (by omega) }
theorem eN (h:m'.id=id):w4 m' s= { s with l:=s.l.set (cI id s.l) m' }:=by subst h;rfl
theorem yG (h:bO B s) (hm:bX id s.l=some m) (hk:0<=k/\k<=300) (hb:B+300<=250000000) (hd:d.size<=256):bO (B+300) { t7 mv { s with rv:=gA s.rv k } with l:=s.l.set (cI id s.l) (fX m d e) }:=by
 obtain⟨hi,hmid⟩:=aS hm
 refine mN (s:=t7 mv { s with rv:=gA s.rv k }) (m:=m) ?_ hi rfl rfl (Adz (h.st m (List.mem_of_getElem? hi)) hd (Int.le_refl _))
 exact { B4 h hk hb with
  mv:=by
   have:=h.mv
   show((s.mv++ [mv]).length:Int)+s.l.length<=B+300
   rw[List.length_append,List.length_singleton];omega }
theorem Ei (h:bO B s) (hm:bX m.id s.l=some m):bO B (lJ m s):=by
 unfold lJ
 split
 ·exact Bm h hm
 ·exact h
theorem Agj (h:bO B s) (hB:B+300<=250000000) (hd:f.d.size<=256):bO (B+300) (rZ f s):=by
 have hk:0<=(if f.t=0 then((f.d.size:Nat):Int) else 0)/\(if f.t=0 then((f.d.size:Nat):Int) else 0)<=300:=by split <;> omega
 unfold rZ
 generalize (if f.t=0 then((f.d.size:Nat):Int) else 0)=kk at hk ⊢
 split
 ·exact jN (h.mono (by omega) hB)
 ·cases hm:bX f.st s.l with
  |none=>exact rN (B4 h hk hB)
  |some m=>
   dsimp only
   split
   ·exact sX (rN (B4 h hk hB))
   ·have hmid:=(aS hm).2
    rw[eN (id:=f.st) (show(fX m f.d f.e).id=f.st from hmid)]
    exact Ei (yG h hm hk hB hd) (m7 hm rfl)
def cZ:List (Nat×Nat):= [(0,0),(1,0),(2,0),(3,0),(4,0),(5,0),(6,1),(7,0),(8,0),(9,0),(10,0),(11,0)]
theorem Ut {la:Int} (hI:bO B s) (hB:B+300<=250000000) (hst:1<=st/\st<=2147483647) (hd:d.size<=256) (hK:∀M mc,K (.tuple #[]) (cA x a (rZ ⟨0,st,e,d,k,on,w,xx,c,la,n,pa,pn,pc,ps⟩ s) M mc R)):CT 215 #[PO x,.agg #[I6 0,I6 st,.bool e,.string d,I6 k,I6 on,I6 w,.bool xx,I6 c,I6 la,I6 n,.slice pa pn pc]] (cA x a s M mc R) K:=by
 have hN:(if(0:Int)=0 then((d.size:Nat):Int) else 0)=((d.size:Nat):Int):=if_pos rfl
 have hI3:=hI.mono (B':=B+300) (by omega) hB
 have hN3:0<=(((d.size:Nat):Int):Int)/\(((d.size:Nat):Int):Int)<=300:=by omega
 have hrv:=hI.rv
 have hI1:=B4 (k:=((d.size:Nat):Int)) hI hN3 hB
 have hrv1:=hI1.rv
 have hmv:=hI.mv
 have hbb:=hI.bb
 unfold JN at hrv hrv1
 unfold rZ at hK
 dsimp only at hK hrv1
 rw[hN] at hK
 dsimp only[cA,nF]
 by_cases hg:k7 s.rv ((d.size:Nat):Int)=0
 ·rw[if_neg (fun hq=>hq hg)] at hK
  cases hm:bX st s.l with
  |none=>
   rw[hm] at hK
   refine aH Tryz.func215 ?_
   repeat' (first|refine HG ?_|refine dw cZ ?_|refine w5 ?_ ?_|((refine bh fun h=>?_) <;> try exact w6 h)|(refine aE fun hA=>?_;subst hA)|intro _|(show aA _ 305 _ _ _;refine CA (h:=oJ (z:=s.rv) (k:=((d.size:Nat):Int)) hI.rv (by omega) (by omega) ?_);rw[hg])|(show aA _ 126 _ _ _;refine CA (h:=oU (l:=s.l) hI.sm hm ?_))|(show aA _ 144 _ _ _;refine CA (h:=vI (y:=gA s.rv ((d.size:Nat):Int)) (k:=((d.size:Nat):Int)) (by omega) (by omega) (fun _=>?_))))
   all_goals(refine aC ?_;exact aB (hK _ _))
  |some m=>
   rw[hm] at hK
   dsimp only at hK
   obtain⟨hi,hmid⟩:=aS hm
   have hIm:=hI.st m (List.mem_of_getElem? hi)
   have hgo:=hIm.got
   by_cases hw:eT m 0 d e=0
   ·rw[if_neg (fun hq=>hq hw),eN (id:=st) (show(fX m d e).id=st from hmid)] at hK
    rw[if_neg (fun hq:(0:Int)=1/\_=>absurd hq.1 (by decide))] at hK
    refine aH Tryz.func215 ?_
    repeat' (first|refine HG ?_|refine dw cZ ?_|refine w5 ?_ ?_|((refine bh fun h=>?_) <;> try exact w6 h)|(refine aE fun hA=>?_;subst hA)|intro _|(show aA _ 305 _ _ _;refine CA (h:=oJ (z:=s.rv) (k:=((d.size:Nat):Int)) hI.rv (by omega) (by omega) ?_);rw[hg])|(show aA _ 126 _ _ _;refine CA (h:=gR (l:=s.l) hI.sm hm (fun bq=>?_)))|(show aA _ 306 _ _ _;refine CA (h:=B1 (m:=m) hw (by omega) (by omega) ?_))|(show aA _ 194 _ _ _;refine CA (h:=lP (x:=x) (a:=a) (s:= { s with rv:=gA s.rv ((d.size:Nat):Int) }) (M:=M) (mc:=mc) (T:=OM a.l s.l (cI st s.l) bq) (R:=tH bq (fX m d e)::R) (k:=2) (id:=st) (n:=((d.size:Nat):Int)) (z:=d) (b:=e) (by show s.mv.length<=1000000000;omega) (fun _ _=>?_)))|(show aA _ 146 _ _ _;refine CA (h:=mD (x:=x) (a:=a) (s:=t7 ⟨2,st,((d.size:Nat):Int),d,e⟩ { s with rv:=gA s.rv ((d.size:Nat):Int) }) (i:=cI st s.l) (m:=m) (R:=R) (m':=fX m d e) hi rfl (yG hI hm hN3 hB hd) (m7 hm rfl) (fun _ _=>?_))))
    all_goals(refine aC ?_;exact aB (hK _ _))
   ·rw[if_pos hw] at hK
    refine aH Tryz.func215 ?_
    repeat' (first|refine HG ?_|refine dw cZ ?_|refine w5 ?_ ?_|((refine bh fun h=>?_) <;> try exact w6 h)|(refine aE fun hA=>?_;subst hA)|intro _|(show aA _ 305 _ _ _;refine CA (h:=oJ (z:=s.rv) (k:=((d.size:Nat):Int)) hI.rv (by omega) (by omega) ?_);rw[hg])|(show aA _ 126 _ _ _;refine CA (h:=gR (l:=s.l) hI.sm hm (fun _=>?_)))|(show aA _ 306 _ _ _;refine CA (h:=JC (m:=m) hw ?_))|(show aA _ 144 _ _ _;refine CA (h:=vI (y:=gA s.rv ((d.size:Nat):Int)) (k:=((d.size:Nat):Int)) (by omega) (by omega) (fun _=>?_)))|(show aA _ 302 _ _ _;refine CA (h:=aA.ent (dF (x:=x) (a:=a) (s:= { s with rv:=fO (gA s.rv ((d.size:Nat):Int)) ((d.size:Nat):Int) }) (M:=M) (mc:=mc) (R:=R) hi) (kL (rN hI1) Lo hst (fun _ _=>?_)))))
    all_goals(refine aC ?_;exact aB (hK _ _))
 ·rw[if_pos hg] at hK
  have he9:=Apz hg
  have hsm:=Aej hg
  refine aH Tryz.func215 ?_
  repeat' (first|refine HG ?_|refine dw cZ ?_|refine w5 ?_ ?_|((refine bh fun h=>?_) <;> try exact w6 h)|(refine aE fun hA=>?_;subst hA)|intro _|(show aA _ 305 _ _ _;refine CA (h:=oJ (z:=s.rv) (k:=((d.size:Nat):Int)) hI.rv (by omega) (by omega) ?_);rw[he9,hsm])|(show aA _ 118 _ _ _;refine CA (h:=dQ (x:=x) (a:=a) (s:=s) hI (by decide) (by decide) (fun _ _=>?_))))
  all_goals(refine aC ?_;exact aB (hK _ _))
theorem Tn {la:Int} (hI:bO B s) (hB:B+300<=250000000) (hst:1<=st/\st<=2147483647) (hd:d.size<=256) (hK:∀M mc,K (.tuple #[]) (cA x a (rZ ⟨1,st,e,d,k,on,w,xx,c,la,n,pa,pn,pc,ps⟩ s) M mc R)):CT 215 #[PO x,.agg #[I6 1,I6 st,.bool e,.string d,I6 k,I6 on,I6 w,.bool xx,I6 c,I6 la,I6 n,.slice pa pn pc]] (cA x a s M mc R) K:=by
 have hN:(if(1:Int)=0 then((d.size:Nat):Int) else 0)=0:=if_neg (by decide)
 have hI3:=hI.mono (B':=B+300) (by omega) hB
 have hN3:0<=(0:Int)/\(0:Int)<=300:=by omega
 have hrv:=hI.rv
 have hI1:=B4 (k:=0) hI hN3 hB
 have hrv1:=hI1.rv
 have hmv:=hI.mv
 have hbb:=hI.bb
 unfold JN at hrv hrv1
 unfold rZ at hK
 dsimp only at hK hrv1
 rw[hN] at hK
 dsimp only[cA,nF]
 by_cases hg:k7 s.rv 0=0
 ·rw[if_neg (fun hq=>hq hg)] at hK
  cases hm:bX st s.l with
  |none=>
   rw[hm] at hK
   refine aH Tryz.func215 ?_
   repeat' (first|refine HG ?_|refine dw cZ ?_|refine w5 ?_ ?_|((refine bh fun h=>?_) <;> try exact w6 h)|(refine aE fun hA=>?_;subst hA)|intro _|(show aA _ 305 _ _ _;refine CA (h:=oJ (z:=s.rv) (k:=0) hI.rv (by omega) (by omega) ?_);rw[hg])|(show aA _ 126 _ _ _;refine CA (h:=oU (l:=s.l) hI.sm hm ?_))|(show aA _ 144 _ _ _;refine CA (h:=vI (y:=gA s.rv 0) (k:=0) (by omega) (by omega) (fun _=>?_))))
   all_goals(refine aC ?_;exact aB (hK _ _))
  |some m=>
   rw[hm] at hK
   dsimp only at hK
   obtain⟨hi,hmid⟩:=aS hm
   have hIm:=hI.st m (List.mem_of_getElem? hi)
   have hgo:=hIm.got
   by_cases hw:eT m 1 d e=0
   ·rw[if_neg (fun hq=>hq hw),eN (id:=st) (show(fX m d e).id=st from hmid)] at hK
    by_cases h0:d=⟨#[]⟩
    ·subst h0
     cases e
     ·rw[if_pos ⟨rfl,.inr rfl⟩] at hK
      refine aH Tryz.func215 ?_
      repeat' (first|refine HG ?_|refine dw cZ ?_|refine w5 ?_ ?_|((refine bh fun h=>?_) <;> try exact w6 h)|(refine aE fun hA=>?_;subst hA)|intro _|(show aA _ 305 _ _ _;refine CA (h:=oJ (z:=s.rv) (k:=0) hI.rv (by omega) (by omega) ?_);rw[hg])|(show aA _ 126 _ _ _;refine CA (h:=gR (l:=s.l) hI.sm hm (fun bq=>?_)))|(show aA _ 306 _ _ _;refine CA (h:=B1 (m:=m) hw (by omega) (by omega) ?_))|(show aA _ 194 _ _ _;refine CA (h:=lP (x:=x) (a:=a) (s:= { s with rv:=gA s.rv 0 }) (M:=M) (mc:=mc) (T:=OM a.l s.l (cI st s.l) bq) (R:=tH bq (fX m ⟨#[]⟩ false)::R) (k:=2) (id:=st) (n:=1) (z:=⟨#[]⟩) (b:=false) (by show s.mv.length<=1000000000;omega) (fun _ _=>?_)))|(show aA _ 146 _ _ _;refine CA (h:=mD (x:=x) (a:=a) (s:=t7 ⟨2,st,1,⟨#[]⟩,false⟩ { s with rv:=gA s.rv 0 }) (i:=cI st s.l) (m:=m) (R:=R) (m':=fX m ⟨#[]⟩ false) hi rfl (yG hI hm hN3 hB hd) (m7 hm rfl) (fun _ _=>?_))))
      all_goals(refine aC ?_;exact aB (hK _ _))
     ·rw[if_neg (fun hq=>hq.2.elim (fun h=>h rfl) (fun h=>by cases h))] at hK
      refine aH Tryz.func215 ?_
      repeat' (first|refine HG ?_|refine dw cZ ?_|refine w5 ?_ ?_|((refine bh fun h=>?_) <;> try exact w6 h)|(refine aE fun hA=>?_;subst hA)|intro _|(show aA _ 305 _ _ _;refine CA (h:=oJ (z:=s.rv) (k:=0) hI.rv (by omega) (by omega) ?_);rw[hg])|(show aA _ 126 _ _ _;refine CA (h:=gR (l:=s.l) hI.sm hm (fun bq=>?_)))|(show aA _ 306 _ _ _;refine CA (h:=B1 (m:=m) hw (by omega) (by omega) ?_))|(show aA _ 194 _ _ _;refine CA (h:=lP (x:=x) (a:=a) (s:= { s with rv:=gA s.rv 0 }) (M:=M) (mc:=mc) (T:=OM a.l s.l (cI st s.l) bq) (R:=tH bq (fX m ⟨#[]⟩ true)::R) (k:=2) (id:=st) (n:=0) (z:=⟨#[]⟩) (b:=true) (by show s.mv.length<=1000000000;omega) (fun _ _=>?_)))|(show aA _ 146 _ _ _;refine CA (h:=mD (x:=x) (a:=a) (s:=t7 ⟨2,st,0,⟨#[]⟩,true⟩ { s with rv:=gA s.rv 0 }) (i:=cI st s.l) (m:=m) (R:=R) (m':=fX m ⟨#[]⟩ true) hi rfl (yG hI hm hN3 hB hd) (m7 hm rfl) (fun _ _=>?_))))
      all_goals(refine aC ?_;exact aB (hK _ _))
    ·rw[if_pos ⟨rfl,.inl h0⟩] at hK
     have hbq:=SN h0
     refine aH Tryz.func215 ?_
     repeat' (first|(show Br _ _ _;refine Br.t hbq ?_)|(show cL _ _ _;rw[hbq])|refine HG ?_|refine dw cZ ?_|refine w5 ?_ ?_|((refine bh fun h=>?_) <;> try exact w6 h)|(refine aE fun hA=>?_;subst hA)|intro _|(show aA _ 305 _ _ _;refine CA (h:=oJ (z:=s.rv) (k:=0) hI.rv (by omega) (by omega) ?_);rw[hg])|(show aA _ 126 _ _ _;refine CA (h:=gR (l:=s.l) hI.sm hm (fun bq=>?_)))|(show aA _ 306 _ _ _;refine CA (h:=B1 (m:=m) hw (by omega) (by omega) ?_))|(show aA _ 194 _ _ _;refine CA (h:=lP (x:=x) (a:=a) (s:= { s with rv:=gA s.rv 0 }) (M:=M) (mc:=mc) (T:=OM a.l s.l (cI st s.l) bq) (R:=tH bq (fX m d e)::R) (k:=2) (id:=st) (n:=1) (z:=d) (b:=e) (by show s.mv.length<=1000000000;omega) (fun _ _=>?_)))|(show aA _ 146 _ _ _;refine CA (h:=mD (x:=x) (a:=a) (s:=t7 ⟨2,st,1,d,e⟩ { s with rv:=gA s.rv 0 }) (i:=cI st s.l) (m:=m) (R:=R) (m':=fX m d e) hi rfl (yG hI hm hN3 hB hd) (m7 hm rfl) (fun _ _=>?_))))
     all_goals(refine aC ?_;exact aB (hK _ _))
   ·rw[if_pos hw] at hK
    refine aH Tryz.func215 ?_
    repeat' (first|refine HG ?_|refine dw cZ ?_|refine w5 ?_ ?_|((refine bh fun h=>?_) <;> try exact w6 h)|(refine aE fun hA=>?_;subst hA)|intro _|(show aA _ 305 _ _ _;refine CA (h:=oJ (z:=s.rv) (k:=0) hI.rv (by omega) (by omega) ?_);rw[hg])|(show aA _ 126 _ _ _;refine CA (h:=gR (l:=s.l) hI.sm hm (fun _=>?_)))|(show aA _ 306 _ _ _;refine CA (h:=JC (m:=m) hw ?_))|(show aA _ 144 _ _ _;refine CA (h:=vI (y:=gA s.rv 0) (k:=0) (by omega) (by omega) (fun _=>?_)))|(show aA _ 302 _ _ _;refine CA (h:=aA.ent (dF (x:=x) (a:=a) (s:= { s with rv:=fO (gA s.rv 0) 0 }) (M:=M) (mc:=mc) (R:=R) hi) (kL (rN hI1) Lo hst (fun _ _=>?_)))))
    all_goals(refine aC ?_;exact aB (hK _ _))
 ·rw[if_pos hg] at hK
  have he9:=Apz hg
  have hsm:=Aej hg
  refine aH Tryz.func215 ?_
  repeat' (first|refine HG ?_|refine dw cZ ?_|refine w5 ?_ ?_|((refine bh fun h=>?_) <;> try exact w6 h)|(refine aE fun hA=>?_;subst hA)|intro _|(show aA _ 305 _ _ _;refine CA (h:=oJ (z:=s.rv) (k:=0) hI.rv (by omega) (by omega) ?_);rw[he9,hsm])|(show aA _ 118 _ _ _;refine CA (h:=dQ (x:=x) (a:=a) (s:=s) hI (by decide) (by decide) (fun _ _=>?_))))
  all_goals(refine aC ?_;exact aB (hK _ _))
end
theorem He:∀l:List Sm,l.length=(l.filter fun m=>m.own == true).length+(l.filter fun m=>m.own == false).length
 | []=>rfl
 |m::l=>by
  have:=He l
  rw[List.filter_cons,List.filter_cons,List.length_cons]
  cases m.own <;> simp only[beq_self_eq_true,if_true,List.length_cons,(by decide:(false == true)=false),(by decide:(true == false)=false),Bool.false_eq_true,if_false] <;> omega
theorem sA (hs:s.sd=0\/s.sd=1) (hp:nQ s.sd s.la id=0):(1<=id/\id<=2147483647)/\s.la<id/\QY s.sd id=false:=by
 unfold nQ at hp
 split at hp
 ·rename_i hq
  obtain⟨h1,h2⟩:=hq
  unfold QY at h1 ⊢
  simp only[Bool.and_eq_true,decide_eq_true_eq,beq_iff_eq,decide_eq_decide] at h1
  refine⟨h1.1,h2,?_⟩
  have h3:=h1.2
  rw[Bool.and_eq_false_iff]
  right
  rw[beq_eq_false_iff_ne]
  intro h4
  rw[decide_eq_decide] at h4
  omega
 ·cases hp
theorem JG (h:bO B s) (hp:nQ s.sd s.la id=0):bO B { s with la:=id }:=
 { h with
   la:=by
    have:=(sA h.sd hp).1
    show AD id
    unfold AD;omega
   ids:=fun z hz=>by
    have h1:=h.ids z hz
    have h2:=(sA h.sd hp).2.1
    show gI s.sd s.nx id z.id=true
    unfold gI at h1 ⊢
    simp only[Bool.and_eq_true,decide_eq_true_eq] at h1 ⊢
    refine⟨h1.1,?_⟩
    have h3:=h1.2
    split at h3
    ·rename_i hq;rw[if_pos hq];exact h3
    ·rename_i hq;rw[if_neg hq];simp only[decide_eq_true_eq] at h3 ⊢;omega }
theorem Gj (h:bO B s) (hp:nQ s.sd s.la id=0):bX id s.l=none:=by
 obtain⟨h1,h2,h3⟩:=sA h.sd hp
 cases hm:bX id s.l with
 |none=>rfl
 |some m=>
  obtain⟨hi,hid⟩:=aS hm
  have h4:=h.ids m (List.mem_of_getElem? hi)
  rw[hid] at h4
  unfold gI at h4
  rw[h3] at h4
  simp only[Bool.and_eq_true,decide_eq_true_eq,Bool.false_eq_true,if_false] at h4
  omega
theorem YC (hs:s.sd=0\/s.sd=1) (hp:nQ s.sd s.la id=0):gI s.sd s.nx id id=true:=by
 obtain⟨h1,h2,h3⟩:=sA hs hp
 unfold gI
 rw[h3]
 simp only[Bool.false_eq_true,if_false,Bool.and_eq_true,decide_eq_true_eq]
 omega
theorem Ah3 (h:bO B s):s.sh.h.st<=32:=by
 have:=h.sh.2.1
 unfold tC sD at this
 simp only[decide_eq_true_eq] at this
 omega
theorem Jp (h:bO B s) (ho:¬s.sh.h.st<=(fQ s false:Nat)):s.l.length<64/\fQ s false<32:=by
 have h1:=Ah3 h
 have h2:=h.own true
 have h3:=He s.l
 unfold fQ at *
 omega
theorem Aos (h:bO B s) (hb:(s.mv.length:Int)+s.l.length+1<=B):bO B (t7 mv s):=
 { h with
   mv:=by
    show((s.mv++ [mv]).length:Int)+s.l.length<=B
    rw[List.length_append,List.length_singleton];omega }
theorem UW (h:bO B s) (hB:B+300<=250000000):bO (B+300) (mU f s):=by
 have hm:=h.mono (B':=B+300) (by omega) hB
 have hmv:=h.mv
 unfold mU
 by_cases hp:nQ s.sd s.la f.st=0
 ·rw[if_neg (fun q=>q hp)]
  have Fw:=JG hm hp
  split
  ·exact jN Fw
  ·split
   ·exact sX Fw
   ·split
    ·exact sX Fw
    ·rename_i ho
     obtain⟨h1,h2⟩:=Jp h ho
     have q1:=Gj h hp
     have q2:=(sA h.sd hp).1
     have q3:=YC h.sd hp
     have hl:=(Wb (s:= { s with la:=f.st }) (kind:=f.k) (on:=f.on) (w:=f.w) (xx:=f.x) (sg:=s.cf.sg) (own:=false) Fw q1 h1 q2 q3 h2 (by show(s.mv.length:Int)+s.l.length+1<=B+300;omega))
     refine Aos hl ?_
     have e:(lM (iI s.cf s.sh.h f.st f.k s.cf.sg false) s.l).length<=s.l.length+1:=by
      unfold lM
      rw[List.length_append,List.length_cons,List.length_take,List.length_drop]
      omega
     show(s.mv.length:Int)+((lM (iI s.cf s.sh.h f.st f.k s.cf.sg false) s.l).length:Int)+1<=B+300
     omega
 ·rw[if_pos hp];exact jN hm
def iJ:List (Nat×Nat):= [(0,0),(1,0),(2,0),(3,0),(4,0),(5,0),(6,1),(7,0),(8,0)]
def iH:List (Nat×Nat):= [(0,0),(1,0),(2,0),(3,0),(4,0),(5,0),(6,1),(7,0),(8,0)]
def iL:List (Nat×Nat):= [(0,0),(1,1),(2,1),(3,1),(4,1),(5,1),(6,1),(7,0),(8,0),(9,0)]
def iO:List (Nat×Nat):= [(0,0),(1,0),(2,0),(3,0),(4,0),(5,0),(6,0),(7,0),(8,0),(9,0),(10,0),(11,0),(12,1)]
theorem Q3 {t:Int} {la:Int} (hI:bO B s) (hst:1<=st/\st<=2147483647) (hk:k=1\/k=2) (hb:B<=249000000) (hK:∀M mc,K (.tuple #[]) (cA x a (mU ⟨t,st,e,d,k,on,w,xx,c,la,n,pa,pn,pc,ps⟩ s) M mc R)):CT 212 #[PO x,.agg #[I6 t,I6 st,.bool e,.string d,I6 k,I6 on,I6 w,.bool xx,I6 c,I6 la,I6 n,.slice pa pn pc]] (cA x a s M mc R) K:=by
 have hmv:=hI.mv
 have hbb:=hI.bb
 unfold mU at hK
 dsimp only at hK
 dsimp only[cA,nF]
 by_cases hp:nQ s.sd s.la st=0
 ·rw[if_neg (fun q=>q hp)] at hK
  have hI1:=JG hI hp
  by_cases h1:on=st
  ·rw[if_pos h1] at hK
   refine aH Tryz.func212 ?_
   repeat' (first|(show aN _ _ _ _ _ _ _;refine fU ?_)|refine B8 ?_|refine dw iJ ?_|refine dw iH ?_|refine dw iL ?_|refine dw iO ?_|refine w5 ?_ ?_|((refine bh fun h=>?_) <;> try exact w6 h)|(refine aE fun hA=>?_;subst hA)|intro _|(show aA _ 300 _ _ _;refine CA (h:=vZ (sd:=s.sd) (la:=s.la) (nx:=s.nx) hI.sd ?_);rw[hp,if_pos rfl])|(show aA _ 118 _ _ _;refine CA (h:=dQ (x:=x) (a:=a) (s:= { s with la:=st }) hI1 (by decide) (by decide) (fun _ _=>?_))))
   all_goals(refine aC ?_;exact aB (hK _ _))
  ·rw[if_neg h1] at hK
   cases h2:EB s.dr st
   ·rw[h2,if_pos rfl] at hK
    refine aH Tryz.func212 ?_
    repeat' (first|(show aN _ _ _ _ _ _ _;refine fU ?_)|refine B8 ?_|refine dw iJ ?_|refine dw iH ?_|refine dw iL ?_|refine dw iO ?_|refine w5 ?_ ?_|((refine bh fun h=>?_) <;> try exact w6 h)|(refine aE fun hA=>?_;subst hA)|intro _|(show aA _ 300 _ _ _;refine CA (h:=vZ (sd:=s.sd) (la:=s.la) (nx:=s.nx) hI.sd ?_);rw[hp,if_pos rfl])|(show aA _ 301 _ _ _;refine CA (h:=F9 (d:=s.dr) ?_);rw[h2])|(show aA _ 302 _ _ _;refine CA (h:=kL (x:=x) (a:=a) (s:= { s with la:=st }) hI1 (by decide) hst (fun _ _=>?_))))
    all_goals(refine aC ?_;exact aB (hK _ _))
   ·rw[h2,if_neg (by decide)] at hK
    have hown:fQ { s with la:=st } false=fQ s false:=rfl
    by_cases h3:s.sh.h.st<=(fQ s false:Nat)
    ·rw[if_pos h3] at hK
     refine aH Tryz.func212 ?_
     repeat' (first|(show aN _ _ _ _ _ _ _;refine fU ?_)|refine B8 ?_|refine dw iJ ?_|refine dw iH ?_|refine dw iL ?_|refine dw iO ?_|refine w5 ?_ ?_|((refine bh fun h=>?_) <;> try exact w6 h)|(refine aE fun hA=>?_;subst hA)|intro _|(show aA _ 300 _ _ _;refine CA (h:=vZ (sd:=s.sd) (la:=s.la) (nx:=s.nx) hI.sd ?_);rw[hp,if_pos rfl])|(show aA _ 301 _ _ _;refine CA (h:=F9 (d:=s.dr) ?_);rw[h2])|(show aA _ 61 _ _ _;refine CA (h:=tB (x:=x) (a:=a) (s:= { s with la:=st }) (M:=M) (mc:=mc) hI1 ?_);rw[hown])|(show aA _ 232 _ _ _;refine CA (h:=zQ (s:=s.sh) ?_))|(show aA _ 302 _ _ _;refine CA (h:=kL (x:=x) (a:=a) (s:= { s with la:=st }) hI1 (by decide) hst (fun _ _=>?_))))
     all_goals(refine aC ?_;exact aB (hK _ _))
    ·rw[if_neg h3] at hK
     obtain⟨hr1,hr2⟩:=Jp hI h3
     have q1:=Gj hI hp
     refine aH Tryz.func212 ?_
     repeat' (first|(show aN _ _ _ _ _ _ _;refine fU ?_)|refine B8 ?_|refine dw iJ ?_|refine dw iH ?_|refine dw iL ?_|refine dw iO ?_|refine w5 ?_ ?_|((refine bh fun h=>?_) <;> try exact w6 h)|(refine aE fun hA=>?_;subst hA)|intro _|(show aA _ 300 _ _ _;refine CA (h:=vZ (sd:=s.sd) (la:=s.la) (nx:=s.nx) hI.sd ?_);rw[hp,if_pos rfl])|(show aA _ 301 _ _ _;refine CA (h:=F9 (d:=s.dr) ?_);rw[h2])|(show aA _ 61 _ _ _;refine CA (h:=tB (x:=x) (a:=a) (s:= { s with la:=st }) (M:=M) (mc:=mc) hI1 ?_);rw[hown])|(show aA _ 232 _ _ _;refine CA (h:=zQ (s:=s.sh) ?_))|(show aA _ 140 _ _ _;refine CA (h:=P8 (x:=x) (a:=a) (s:= { s with la:=st }) (M:=M) (mc:=mc) hI1 hk hI.cf.2.2 q1 hr1 hst ?_))|(show aA _ 194 _ _ _;refine CA (h:=It (x:=x) (a:=a) (s:=GV st k on w xx false s.cf.sg { s with la:=st }) (M:=M) (mc:=mc) (R:=R) (by show s.mv.length<=1000000000;omega) (fun _ _=>?_))))
     all_goals(refine aC ?_;exact aB (hK _ _))
 ·rw[if_pos hp] at hK
  have Fw:nQ s.sd s.la st=1:=by unfold nQ at hp ⊢;split <;> first|rfl|(rename_i hq;rw[if_pos hq] at hp;exact absurd rfl hp)
  refine aH Tryz.func212 ?_
  repeat' (first|(show aN _ _ _ _ _ _ _;refine fU ?_)|refine B8 ?_|refine dw iJ ?_|refine dw iH ?_|refine dw iL ?_|refine dw iO ?_|refine w5 ?_ ?_|((refine bh fun h=>?_) <;> try exact w6 h)|(refine aE fun hA=>?_;subst hA)|intro _|(show aA _ 300 _ _ _;refine CA (h:=vZ (sd:=s.sd) (la:=s.la) (nx:=s.nx) hI.sd ?_);rw[Fw,if_neg (by decide)])|(show aA _ 118 _ _ _;refine CA (h:=dQ (x:=x) (a:=a) (s:=s) hI (by decide) (by decide) (fun _ _=>?_))))
  all_goals(refine aC ?_;exact aB (hK _ _))
theorem GJ {b:Int} (h:nI n b≠0):kI n b=n:=by
 unfold nI at h
 unfold kI
 split at h
 ·rename_i hq
  rw[if_pos hq]
  unfold xM at h
  unfold Am
  split at h
  ·exact absurd rfl h
  ·rename_i hf;rw[if_neg hf]
 ·rename_i hq;rw[if_neg hq]
theorem GX {t b:Int} {s:Ld} (h:mQ t b s≠0):kK t b s=s:=by
 unfold mQ at h
 unfold kK
 split at h
 ·rename_i ht
  rw[if_pos ht,GJ h]
 ·rename_i ht
  rw[if_neg ht]
  cases he:pR t s.l with
  |none=>rfl
  |some e=>
   rw[he] at h
   dsimp only at h ⊢
   rw[GJ h]
   have:=(oM he).1
   rw[lB _ this]
theorem C6 (h:bO B s) {q:Ld} (hq:GH B q):bO B { s with ld:=q,sl:=f6 s.sl s.now }:=
 { h with
   ld:=hq
   sl:=by
    have h1:=h.sl
    have h2:=h.now
    show(0<=(f6 s.sl s.now).nw/\(f6 s.sl s.now).nw<=B)/\0<=(f6 s.sl s.now).si/\(f6 s.sl s.now).si<=B
    unfold f6
    split
    ·exact h1
    ·dsimp only
     split <;> omega }
theorem Zx (h:bO B s):bO B (qZ f s):=by
 unfold qZ
 split
 ·exact jN h
 ·split
  ·exact jN h
  ·exact C6 h (QM h.ld)
def nZ:List (Nat×Nat):= [(0,0),(1,0),(2,0),(3,0),(4,0),(5,0),(6,1),(7,0),(8,0)]
def nY:List (Nat×Nat):= [(0,0),(1,0),(2,0),(3,0),(4,0),(5,0),(6,0),(7,0),(8,1)]
theorem JA {t:Int} {la:Int} (hI:bO B s) (hK:∀M mc,K (.tuple #[]) (cA x a (qZ ⟨t,st,e,d,k,on,w,xx,c,la,n,pa,pn,pc,ps⟩ s) M mc R)):CT 213 #[PO x,.agg #[I6 t,I6 st,.bool e,.string d,I6 k,I6 on,I6 w,.bool xx,I6 c,I6 la,I6 n,.slice pa pn pc]] (cA x a s M mc R) K:=by
 have hbb:=hI.bb
 unfold qZ at hK
 dsimp only at hK
 dsimp only[cA,nF]
 by_cases h0:n=0
 ·rw[if_pos h0] at hK
  refine aH Tryz.func213 ?_
  repeat' (first|refine v46 ?_|refine dw nZ ?_|refine dw nY ?_|refine w5 ?_ ?_|((refine bh fun h=>?_) <;> try exact w6 h)|(refine aE fun hA=>?_;subst hA)|intro _|(show aA _ 118 _ _ _;refine CA (h:=dQ (x:=x) (a:=a) (s:=s) hI (by decide) (by decide) (fun _ _=>?_))))
  all_goals(refine aC ?_;exact aB (hK _ _))
 ·rw[if_neg h0] at hK
  by_cases hg:mQ 0 n s.ld=0
  ·rw[if_neg (fun q=>q hg)] at hK
   refine aH Tryz.func213 ?_
   repeat' (first|refine v46 ?_|refine dw nZ ?_|refine dw nY ?_|refine w5 ?_ ?_|((refine bh fun h=>?_) <;> try exact w6 h)|(refine aE fun hA=>?_;subst hA)|intro _|(show aA _ 303 _ _ _;refine CA (h:=Ch (s:=s.ld) (hI.ld.ok (by omega)) ?_);rw[hg])|(show aA _ 304 _ _ _;refine CA (h:=AU (s:=s.sl) ?_)))
   all_goals(refine aC ?_;exact aB (hK _ _))
  ·rw[if_pos hg] at hK
   have hs:=GX hg
   refine aH Tryz.func213 ?_
   repeat' (first|(show Br _ _ _;refine Br.t (by first|(simp <;> done)|simpa using hg) ?_)|refine v46 ?_|refine dw nZ ?_|refine dw nY ?_|refine w5 ?_ ?_|((refine bh fun h=>?_) <;> try exact w6 h)|(refine aE fun hA=>?_;subst hA)|intro _|(show aA _ 303 _ _ _;refine CA (h:=Ch (s:=s.ld) (hI.ld.ok (by omega)) ?_);rw[hs])|(show aA _ 118 _ _ _;refine CA (h:=dQ (x:=x) (a:=a) (s:=s) hI (by decide) (by decide) (fun _ _=>?_))))
   all_goals(refine aC ?_;exact aB (hK _ _))
theorem Hg {q:Xs}:bA (qA q n)=bA q:=by
 cases q with
 |b z=>rfl
 |i z=>rfl
theorem Aaw (h:FI B m):FI B { m with x:=qA m.x n }:=by
 obtain⟨h1,h2,h3,h4⟩:=h
 refine⟨h1,?_,h3,h4⟩
 cases hx:m.x with
 |b z=>rw[hx] at h2;exact h2
 |i z=>
  rw[hx] at h2
  by_cases hn:1<=n
  ·simp only[qA,if_pos hn];exact h2
  ·simp only[qA,if_neg hn];exact h2
theorem O5 (h:bO B s) (hm:bX f.st s.l=some m):bO B (lE f m s):=by
 obtain⟨hi,hmid⟩:=aS hm
 unfold lE
 split
 ·exact sX h
 ·split
  ·exact sX h
  ·split
   ·split
    ·exact sX h
    ·exact C6 h (QM h.ld)
   ·split
    ·exact sX h
    ·rw[eN (id:=f.st) (show({ m with x:=qA m.x f.n }:Sm).id=f.st from hmid)]
     exact mN (s:= { s with sl:=f6 s.sl s.now }) (C6 h h.ld) hi rfl rfl (Aaw (h.st m (List.mem_of_getElem? hi)))
def dB:List (Nat×Nat):= [(0,0),(1,0),(2,0),(3,0),(4,0),(5,0),(6,0),(7,0),(8,1),(9,0)]
def dM:List (Nat×Nat):= [(0,0),(1,1),(2,1),(3,1),(4,1),(5,0)]
def dC:List (Nat×Nat):= [(0,0),(1,0),(2,0),(3,0),(4,0),(5,0),(6,0),(7,0),(8,1)]
theorem Fg {t:Int} {la:Int} (hI:bO B s) (ht:t=10\/t=11) (hst:1<=st/\st<=2147483647) (hm:bX st s.l=some m) (hK:∀M mc,K (.tuple #[]) (cA x a (lE ⟨t,st,e,d,k,on,w,xx,c,la,n,pa,pn,pc,ps⟩ m s) M mc R)):CT 307 #[PO x,.agg #[I6 t,I6 st,.bool e,.string d,I6 k,I6 on,I6 w,.bool xx,I6 c,I6 la,I6 n,.slice pa pn pc],PO b] (tH b m::cnH x a s M mc (cI st s.l) b R) K:=by
 have hbb:=hI.bb
 obtain⟨hi,hmid⟩:=aS hm
 unfold lE at hK
 dsimp only at hK
 refine Vv fun hok=>?_
 dsimp only[cnH,nF]
 have hk2:bA m.x=1\/bA m.x=2:=by cases m.x <;> simp[bA]
 rcases hk2 with h1|h1 <;> rcases ht with rfl|rfl
 ·rw[if_neg (by rw[h1];simp)] at hK
  by_cases h0:n=0
  ·rw[if_pos h0] at hK
   refine aH Tryz.func307 ?_
   repeat' (first|refine v46 ?_|refine dw dB ?_|refine dw dM ?_|refine dw dC ?_|refine w5 ?_ ?_|((refine bh fun h=>?_) <;> try exact w6 h)|(refine aE fun hA=>?_;subst hA)|intro _|(show aA _ 70 _ _ _;refine CA (h:=jX (m:=m) ?_);rw[h1])|(show aA _ 302 _ _ _;refine CA (h:=aA.ent (dF (x:=x) (a:=a) (s:=s) (M:=M) (mc:=mc) (R:=R) hi) (kL hI (by decide) hst (fun _ _=>?_)))))
   all_goals(refine aC ?_;exact aB (hK _ _))
  ·rw[if_neg h0,if_pos h1] at hK
   by_cases hg:mQ st n s.ld=0
   ·rw[if_neg (fun q=>q hg)] at hK
    refine aH Tryz.func307 ?_
    repeat' (first|refine v46 ?_|refine dw dB ?_|refine dw dM ?_|refine dw dC ?_|refine w5 ?_ ?_|((refine bh fun h=>?_) <;> try exact w6 h)|(refine aE fun hA=>?_;subst hA)|intro _|(show aA _ 70 _ _ _;refine CA (h:=jX (m:=m) ?_);rw[h1])|(show aA _ 303 _ _ _;refine CA (h:=Ch (s:=s.ld) (hI.ld.ok (by omega)) ?_);rw[hg])|(show aA _ 304 _ _ _;refine CA (h:=AU (s:=s.sl) ?_)))
    all_goals(refine aC ?_;exact aM (aG.trans (by exact aY) ((dF (x:=x) (a:=a) (s:= { s with ld:=kK st n s.ld,sl:=f6 s.sl s.now }) (M:=M) (mc:=mc) (R:=R) (b:=b) hi))) (hK _ _))
   ·rw[if_pos hg] at hK
    have hs:=GX hg
    refine aH Tryz.func307 ?_
    repeat' (first|(show Br _ _ _;refine Br.t (by first|(simp <;> done)|simpa using hg) ?_)|refine v46 ?_|refine dw dB ?_|refine dw dM ?_|refine dw dC ?_|refine w5 ?_ ?_|((refine bh fun h=>?_) <;> try exact w6 h)|(refine aE fun hA=>?_;subst hA)|intro _|(show aA _ 70 _ _ _;refine CA (h:=jX (m:=m) ?_);rw[h1])|(show aA _ 303 _ _ _;refine CA (h:=Ch (s:=s.ld) (hI.ld.ok (by omega)) ?_);rw[hs])|(show aA _ 302 _ _ _;refine CA (h:=aA.ent (dF (x:=x) (a:=a) (s:=s) (M:=M) (mc:=mc) (R:=R) hi) (kL hI (by decide) hst (fun _ _=>?_)))))
    all_goals(refine aC ?_;exact aB (hK _ _))
 ·rw[if_pos (by rw[h1];simp)] at hK
  refine aH Tryz.func307 ?_
  repeat' (first|refine v46 ?_|refine dw dB ?_|refine dw dM ?_|refine dw dC ?_|refine w5 ?_ ?_|((refine bh fun h=>?_) <;> try exact w6 h)|(refine aE fun hA=>?_;subst hA)|intro _|(show aA _ 70 _ _ _;refine CA (h:=jX (m:=m) ?_);rw[h1])|(show aA _ 302 _ _ _;refine CA (h:=aA.ent (dF (x:=x) (a:=a) (s:=s) (M:=M) (mc:=mc) (R:=R) hi) (kL hI (by decide) hst (fun _ _=>?_)))))
  all_goals(refine aC ?_;exact aB (hK _ _))
 ·rw[if_pos (by rw[h1];simp)] at hK
  refine aH Tryz.func307 ?_
  repeat' (first|refine v46 ?_|refine dw dB ?_|refine dw dM ?_|refine dw dC ?_|refine w5 ?_ ?_|((refine bh fun h=>?_) <;> try exact w6 h)|(refine aE fun hA=>?_;subst hA)|intro _|(show aA _ 70 _ _ _;refine CA (h:=jX (m:=m) ?_);rw[h1])|(show aA _ 302 _ _ _;refine CA (h:=aA.ent (dF (x:=x) (a:=a) (s:=s) (M:=M) (mc:=mc) (R:=R) hi) (kL hI (by decide) hst (fun _ _=>?_)))))
  all_goals(refine aC ?_;exact aB (hK _ _))
 ·rw[if_neg (by rw[h1];simp)] at hK
  by_cases h0:n=0
  ·rw[if_pos h0] at hK
   refine aH Tryz.func307 ?_
   repeat' (first|refine v46 ?_|refine dw dB ?_|refine dw dM ?_|refine dw dC ?_|refine w5 ?_ ?_|((refine bh fun h=>?_) <;> try exact w6 h)|(refine aE fun hA=>?_;subst hA)|intro _|(show aA _ 70 _ _ _;refine CA (h:=jX (m:=m) ?_);rw[h1])|(show aA _ 302 _ _ _;refine CA (h:=aA.ent (dF (x:=x) (a:=a) (s:=s) (M:=M) (mc:=mc) (R:=R) hi) (kL hI (by decide) hst (fun _ _=>?_)))))
   all_goals(refine aC ?_;exact aB (hK _ _))
  ·rw[if_neg h0,if_neg (by rw[h1];decide)] at hK
   by_cases hg:Fz m.x n=0
   ·rw[if_neg (fun q=>q hg),eN (id:=st) (show({ m with x:=qA m.x n }:Sm).id=st from hmid)] at hK
    refine aH Tryz.func307 ?_
    repeat' (first|refine v46 ?_|refine dw dB ?_|refine dw dM ?_|refine dw dC ?_|refine w5 ?_ ?_|((refine bh fun h=>?_) <;> try exact w6 h)|(refine aE fun hA=>?_;subst hA)|intro _|(show aA _ 70 _ _ _;refine CA (h:=jX (m:=m) ?_);rw[h1])|(show aA _ 42 _ _ _;refine CA (h:=OJ (m:=m) (fun _=>?_)))|(show aA _ 390 _ _ _;refine CA (h:=R4 (x:=m.x) ?_);rw[hg])|(show aA _ 304 _ _ _;refine CA (h:=AU (s:=s.sl) ?_)))
    all_goals(refine aC ?_;exact aM (aG.trans (by exact aY) ((aG.trans (JK Hg) (nL (x:=x) (a:=a) (s:= { s with sl:=f6 s.sl s.now }) (M:=M) (mc:=mc) (R:=R) (b:=b) (m':= { m with x:=qA m.x n }) hi rfl)))) (hK _ _))
   ·rw[if_pos hg] at hK
    have hsx:qA m.x n=m.x:=by
     cases hx:m.x with
     |b z=>rfl
     |i z=>
      rw[hx] at hg
      unfold Fz at hg
      unfold qA
      by_cases hn:1<=n
      ·simp only[if_pos hn] at hg;exact absurd trivial hg
      ·simp only[if_neg hn]
    refine aH Tryz.func307 ?_
    repeat' (first|(show Br _ _ _;refine Br.t (by first|(simp <;> done)|simpa using hg) ?_)|refine v46 ?_|refine dw dB ?_|refine dw dM ?_|refine dw dC ?_|refine w5 ?_ ?_|((refine bh fun h=>?_) <;> try exact w6 h)|(refine aE fun hA=>?_;subst hA)|intro _|(show aA _ 70 _ _ _;refine CA (h:=jX (m:=m) ?_);rw[h1])|(show aA _ 42 _ _ _;refine CA (h:=OJ (m:=m) (fun _=>?_)))|(show aA _ 390 _ _ _;refine CA (h:=R4 (x:=m.x) ?_);rw[hsx])|(show aA _ 302 _ _ _;refine CA (h:=aA.ent (aG.trans (JK (m:=m) (z:=m.x) rfl) (dF (x:=x) (a:=a) (s:=s) (M:=M) (mc:=mc) (R:=R) hi)) (kL hI (by decide) hst (fun _ _=>?_)))))
    all_goals(refine aC ?_;exact aB (hK _ _))
end Go.Proofs.YtepnmcipkangkaaGreat
