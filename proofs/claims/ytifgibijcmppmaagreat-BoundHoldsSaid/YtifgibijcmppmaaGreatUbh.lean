/- A part of the proof: lemmas; each with the conditions that it states. -/
import Derived.Test.YtifgibijcmppmaaGreatUbg
set_option linter.unusedVariables false
set_option linter.unusedSimpArgs false
set_option maxRecDepth 100000
set_option maxHeartbeats 40000000
namespace Go.Proofs.YtifgibijcmppmaaGreat
open Go Go.Proofs Go.Sl
attribute [local irreducible] aN fN cX bP aM aX aA dS dV aT dU pt ro eV star sep bH
attribute [local irreducible] mp ED
section
variable {s:Cn} {B id n k code w o st:Int} {gone:Bool} {m m':Sm} {l:List Sm} {i:Nat} {c:Cf} {f:Fm} {g:eJ} {t:eJ}
theorem Aia {z:eN} (h:Mn z) {j:Int} (hj:eU (y6 id z) j):eU z j∧j≠id:=by
 unfold y6 at hj
 split at hj
 ·rename_i hid
  have hw:=h.w id hid
  obtain⟨h1,h2,h3,h4,h5,h6⟩:=R8 (on:=(dB id z).on) (xw:=(dB id z).w) (all:=o8 z (b8 id z.1)) hw (fun k hk=>(kQ h.nd hk).1) (AW h.nd) (fun k hk=>⟨(h.w k (kQ h.nd hk).1).1,M5 h.w (fun k hk=>(kQ h.nd hk).1) k hk⟩) h.kok h.nd h.w
  have hd:=Dh (id:=id) (j:=j) h5
  unfold eU dZ at hj
  rw[hd] at hj
  by_cases he:j=id
  ·rw[if_pos he] at hj;cases hj
  ·rw[if_neg he] at hj
   exact⟨(h1 j).1 hj,he⟩
 ·rename_i hid
  refine⟨hj,fun e=>hid ?_⟩
  rw[e] at hj;exact hj
theorem Ev {z:eN} (hok:Rb z.1 z.2) (hnd:NM z) {on:Int} {x:Bool} {j:Int} (hj:eU (pJ id on w x z) j):j=id∨eU z j:=by
 unfold pJ at hj
 rw[dW] at hj
 rcases hj with hj|hj
 ·exact .inl hj
 ·split at hj
  ·exact .inr (((D6 (id:=id) (fun k hk=>(kQ hnd hk).1) hok hnd).1 j).1 hj)
  ·exact .inr hj
theorem Ur {z:eN} (h:Mn z):rG id z (z.1.length+1) 0=false:=by
 unfold rG
 rw[if_neg]
 intro hq
 have:=h.ky 0 hq
 omega
theorem Aeo {z:eN} (h:Mn z) {on:Int} {x:Bool} {j:Int} (hj:eU (kC id on w x z) j):eU z j:=by
 unfold kC at hj
 split at hj
 ·exact hj
 ·rename_i hE
  have hid:eU z id:=by
   cases hq:dZ id z.1
   ·exact absurd (by unfold pK;rw[if_pos hq];decide) hE
   ·exact hq
  have fin:∀ {y:Int},y=id∨eU z y→eU z y:=fun hy=>hy.elim (fun e=>by rw[e];exact hid) fun q=>q
  split at hj
  ·rw[Ur h,if_neg Bool.false_ne_true] at hj
   exact fin (Ev h.kok h.nd hj)
  ·rename_i hkn
   split at hj
   ·rename_i hab
    have hon:eU z on:=by
     by_cases h0:on=0
     ·subst h0;rw[Ur h] at hab;cases hab
     ·cases hq:dZ on z.1
      ·exact absurd (by unfold AV;rw[hq];simp[h0]) hkn
      ·exact hq
    rcases Ev (HM h.kok) (HL h.nd) hj with hj|hj
    ·exact fin (.inl hj)
    ·unfold iP at hj
     rw[dW] at hj
     rcases hj with hj|hj
     ·rw[hj];exact hon
     ·exact hj
   ·exact fin (Ev h.kok h.nd hj)
theorem Agj {z:eN} (h:Mn z) {on:Int} {x:Bool} {j:Int} (hj:eU (m8 id on w x 64 z) j):j=id∨eU z j:=by
 unfold m8 at hj
 split at hj
 ·exact .inr hj
 ·split at hj
  ·exact Ev h.kok h.nd hj
  ·exact Ev h.kok h.nd hj
theorem J3 {z:eN} (h:Mn z):∀ {n:Nat} {lv:List Int},(∀y∈lv,eU z y)→∀y∈yV z n lv,eU z y
 |0,_,_,_,hy=>by cases hy
 |n+1,lv,hl,y,hy=>by
  unfold yV at hy
  split at hy
  ·cases hy
  ·rcases List.mem_append.1 hy with hy|hy
   ·exact hl y hy
   ·refine J3 h (n:=n) (lv:=JB z lv) (fun q hq=>?_) y hy
    unfold JB at hq
    exact(Ad h.nd q (An.1 hq)).1
theorem TP (hs:Gl l) (hm:m∈l):bY m.id l=some m:=by
 cases hq:bY m.id l with
 |none=>exact absurd rfl (MX hs hq m hm)
 |some z=>
  obtain⟨h1,h2⟩:=bA hq
  obtain⟨j,hj⟩:=List.getElem?_of_mem hm
  have hp:=hs.2
  obtain⟨a1,a2⟩:=List.getElem?_eq_some_iff.1 h1
  obtain⟨b1,b2⟩:=List.getElem?_eq_some_iff.1 hj
  rcases Nat.lt_trichotomy (b7 m.id l) j with hlt|heq|hgt
  ·have:=List.pairwise_iff_getElem.1 hp _ _ a1 b1 hlt
   rw[a2,b2] at this;omega
  ·subst heq
   rw[a2] at b2;rw[b2]
  ·have:=List.pairwise_iff_getElem.1 hp _ _ b1 a1 hgt
   rw[a2,b2] at this;omega
theorem KM (hs:Gl l) (hm:m∈l) (hne:m.id≠id) (hat:bY id l=some m'):m∈l.eraseIdx (b7 id l):=by
 obtain⟨h1,h2⟩:=bA hat
 obtain⟨j,hj⟩:=List.getElem?_of_mem hm
 refine List.mem_eraseIdx_iff_getElem?.2 ⟨j,fun e=>?_,hj⟩
 rw[e,h1] at hj
 cases hj
 exact hne h2
theorem OQ {z:Sm} (hs:Gl l) (hat:bY id l=some m') (hz:z∈l.eraseIdx (b7 id l)):z.id≠id:=fun e=>by
 obtain⟨h1,h2⟩:=bA hat
 obtain⟨i,hi,hy⟩:=List.mem_eraseIdx_iff_getElem?.1 hz
 obtain⟨a1,a2⟩:=List.getElem?_eq_some_iff.1 h1
 obtain⟨b1,b2⟩:=List.getElem?_eq_some_iff.1 hy
 rcases Nat.lt_trichotomy (b7 id l) i with hlt|heq|hgt
 ·have:=List.pairwise_iff_getElem.1 hs.2 _ _ a1 b1 hlt
  rw[a2,b2] at this;omega
 ·exact hi heq.symm
 ·have:=List.pairwise_iff_getElem.1 hs.2 _ _ b1 a1 hgt
  rw[a2,b2] at this;omega
theorem Sd {z:Ld} (h:Gn B z) {j:Int}:(o7 j z.l).isSome=true↔j∈z.l.map g8.id:=by
 constructor
 ·intro hq
  obtain⟨e,he⟩:=Option.isSome_iff_exists.1 hq
  obtain⟨h1,h2⟩:=rZ he
  exact List.mem_map.2 ⟨e,List.mem_of_getElem? h1,h2⟩
 ·intro hj
  obtain⟨e,he,hid⟩:=List.mem_map.1 hj
  cases hq:o7 j z.l with
  |some _=>rfl
  |none=>
   exfalso
   refine SI (f:=g8.id) (t:=j) h.2.1 (fun e he hid=>?_) e he hid
   have:o7 j z.l=some e:=by
    unfold o7 nV
    rw[he]
    simp[hid]
   rw[hq] at this;cases this
theorem V3 {z:Ld} (h:Gn B z) {j:Int}:j∈(nI id z).l.map g8.id↔j∈z.l.map g8.id∧j≠id:=by
 unfold nI
 cases hq:o7 id z.l with
 |none=>
  rw[if_neg (by simp)]
  refine⟨fun hj=>⟨hj,fun e=>?_⟩,fun hj=>hj.1⟩
  rw[e] at hj
  have:=(Sd h).2 hj
  rw[hq] at this;cases this
 |some e=>
  obtain⟨h1,h2⟩:=rZ hq
  rw[if_pos (show(some e).isSome=true from rfl)]
  show j∈(z.l.eraseIdx (nV id z.l)).map g8.id↔_
  obtain⟨a1,a2⟩:=List.getElem?_eq_some_iff.1 h1
  constructor
  ·intro hj
   obtain⟨y,hy,hid⟩:=List.mem_map.1 hj
   refine⟨List.mem_map.2 ⟨y,List.mem_of_mem_eraseIdx hy,hid⟩,fun e'=>?_⟩
   obtain⟨i,hi,hy2⟩:=List.mem_eraseIdx_iff_getElem?.1 hy
   obtain⟨b1,b2⟩:=List.getElem?_eq_some_iff.1 hy2
   rcases Nat.lt_trichotomy (nV id z.l) i with hlt|heq|hgt
   ·have:=List.pairwise_iff_getElem.1 h.2.1 _ _ a1 b1 hlt
    rw[a2,b2] at this;omega
   ·exact hi heq.symm
   ·have:=List.pairwise_iff_getElem.1 h.2.1 _ _ b1 a1 hgt
    rw[a2,b2] at this;omega
  ·intro hj
   obtain⟨y,hy,hid⟩:=List.mem_map.1 hj.1
   refine List.mem_map.2 ⟨y,?_,hid⟩
   obtain⟨i,hi⟩:=List.getElem?_of_mem hy
   refine List.mem_eraseIdx_iff_getElem?.2 ⟨i,fun e'=>?_,hi⟩
   rw[e',h1] at hi
   cases hi
   exact hj.2 (by rw[← hid];exact h2)
theorem Aca {z:Ld} (h:Gn B z) (ht:1≤id∧id≤2147483647) (hn:mF n=true) (hno:id ∉ z.l.map g8.id) (hl:z.l.length<64) {j:Int}:j∈(k8 id n z).l.map g8.id↔j=id∨j∈z.l.map g8.id:=by
 have hq:¬(o7 id z.l).isSome=true:=fun q=>hno ((Sd h).1 q)
 unfold k8
 rw[if_neg (by rw[hn];simp only[Bool.true_eq_false,false_or,not_or];exact⟨by omega,by omega,hq,by omega⟩)]
 show j∈(z.l.take (nV id z.l)++⟨id,n,0⟩::z.l.drop (nV id z.l)).map g8.id↔_
 conv=>rhs;rw[← List.take_append_drop (nV id z.l) z.l]
 simp only[List.map_append,List.map_cons,List.mem_append,List.mem_cons]
 constructor
 ·rintro(hj|hj|hj)
  ·exact .inr (.inl hj)
  ·exact .inl hj
  ·exact .inr (.inr hj)
 ·rintro(hj|hj|hj)
  ·exact .inr (.inl hj)
  ·exact .inl hj
  ·exact .inr (.inr hj)
theorem T3 {l:List g8} {e e':g8} {i:Nat} (h:l[i]?=some e) (hid:e'.id=e.id):(l.set i e').map g8.id=l.map g8.id:=by
 rw[List.map_set,hid]
 exact j9 i (by rw[List.getElem?_map,h];rfl)
theorem Qx {z:Ld} {b:Int}:(o4 id b z).l.map g8.id=z.l.map g8.id:=by
 unfold o4
 split
 ·rfl
 ·split
  ·rename_i e he
   exact T3 (rZ he).1 rfl
  ·rfl
theorem Afn {z:Ld} {a b:Int}:(sV a b z).l.map g8.id=z.l.map g8.id:=by
 unfold sV
 split
 ·rfl
 ·show(z.l.map _).map g8.id=_
  rw[List.map_map];rfl
theorem W1 {z:Ld} {k:Int}:(mC id k z).l.map g8.id=z.l.map g8.id:=by
 unfold mC
 split
 ·rfl
 ·split
  ·rename_i e he
   exact T3 (rZ he).1 rfl
  ·rfl
def kb (m:Sm):Nat:=if bB m.x=1 then gF m.y else 0
def xT (l:List Sm):Nat:=(l.map kb).sum
theorem NF (hi:l[i]?=some m):xT (l.set i m')+kb m=xT l+kb m':=by
 induction l generalizing i with
 |nil=>cases hi
 |cons q r ih=>
  cases i with
  |zero=>cases hi;simp[xT];omega
  |succ i=>
   have:=ih (i:=i) (by simpa using hi)
   simp only[xT,List.set_cons_succ,List.map_cons,List.sum_cons] at this ⊢
   omega
theorem LA (hi:l[i]?=some m):xT (l.eraseIdx i)+kb m=xT l:=by
 induction l generalizing i with
 |nil=>cases hi
 |cons q r ih=>
  cases i with
  |zero=>cases hi;simp[xT];omega
  |succ i=>
   have:=ih (i:=i) (by simpa using hi)
   simp only[xT,List.eraseIdx_cons_succ,List.map_cons,List.sum_cons] at this ⊢
   omega
theorem Agb {a b:List Sm}:xT (a++b)=xT a+xT b:=by simp[xT]
theorem Afq:xT (kG m l)=kb m+xT l:=by
 have h:xT (kG m l)=xT (l.take (b7 m.id l))+(kb m+xT (l.drop (b7 m.id l))):=by simp[xT,kG]
 have h2:xT l=xT (l.take (b7 m.id l))+xT (l.drop (b7 m.id l)):=by rw[← Agb,List.take_append_drop]
 omega
theorem UC {q:Sm→Sm} (h:∀m,kb (q m)=kb m):xT (l.map q)=xT l:=by
 unfold xT
 rw[List.map_map]
 congr 1
 exact List.map_congr_left fun m _=>h m
def NK (a b:eJ):Prop:=a.w≤b.w∧a.st≤b.st∧a.it≤b.it
def Hf (g:eJ):Ys→Prop
 |.b y=>y.most≤g.w
 |.i y=>y.mr≤g.it
def ZA (c:Cf):Xs→Prop
 |.b x=>(x.cap:Int)≤c.sb
 |.i x=>(x.cap:Int)≤c.si
def xSz:Xs→Prop
 |.b _=>True
 |.i x=>∀d∈x.l,d.size≤256
structure OS (c:Cf) (g:eJ) (m:Sm):Prop where
 y:Hf g m.y
 x:ZA c m.x
 ok:bB m.x=kV m.y
 sz:xSz m.x
structure fV (c:Cf) (s:Cn):Prop where
 cfe:s.cf=c
 tn:∀id,eU s.tr id→∃m∈s.l,m.id=id
 fo:∀f∈s.out,mK f=true∧f.ps.length=f.pn∧f.t≠10∧f.t≠11
 cl:s.dr.ov=true→s.l= []
 mo:∀m∈s.l,OS c s.sh.g m
 hg:NK s.sh.h s.sh.g∧∀t∈s.sh.l,NK t s.sh.g
 nf:(fO s false:Int)≤s.sh.g.st
 kp:s.rv.us+xT s.l≤s.rv.got
 ls:s.last.size≤300
 lk:∀j,j∈s.ld.l.map g8.id↔∃m∈s.l,m.id=j∧bB m.x=1
theorem XW:((l.eraseIdx i).filter fun m=>m.own == false).length≤(l.filter fun m=>m.own == false).length:=((List.eraseIdx_sublist ..).filter _).length_le
theorem IF (hI:bU B s) (h:fV c s) (hm:bY id s.l=some m):fV c (lW id code gone s):=
 { h with
   tn:=fun j hj=>by
    obtain⟨h1,h2⟩:=Aia hI.tr hj
    obtain⟨z,hz,hzi⟩:=h.tn j h1
    exact⟨z,KM hI.sm hz (by rw[hzi];exact h2) hm,hzi⟩
   cl:=fun ho=>by
    show s.l.eraseIdx _= []
    rw[h.cl ho];rfl
   mo:=fun z hz=>h.mo z (List.mem_of_mem_eraseIdx hz)
   nf:=by
    have h1:=h.nf
    have h2:=XW (l:=s.l) (i:=b7 id s.l)
    unfold fO at h1
    show(((s.l.eraseIdx (b7 id s.l)).filter fun m=>m.own == false).length:Int)≤s.sh.g.st
    omega
   kp:=by
    have h1:=h.kp
    have h2:=LA (bA hm).1
    show s.rv.us+xT (s.l.eraseIdx (b7 id s.l))≤s.rv.got
    omega
   lk:=fun j=>by
    show j∈(nI id s.ld).l.map g8.id↔∃m∈s.l.eraseIdx (b7 id s.l),m.id=j∧bB m.x=1
    rw[V3 hI.ld,h.lk]
    constructor
    ·rintro⟨⟨z,hz,hzi,hzk⟩,hne⟩
     exact⟨z,KM hI.sm hz (by rw[hzi];exact hne) hm,hzi,hzk⟩
    ·rintro⟨z,hz,hzi,hzk⟩
     refine⟨⟨z,List.mem_of_mem_eraseIdx hz,hzi,hzk⟩,fun e=>?_⟩
     have h1:=OQ hI.sm hm hz
     rw[hzi] at h1;exact h1 e }
theorem Aez (hI:bU B s):(vE s).l= []:=(Fh (code:=s.dr.co) rfl hI).2
theorem Ij (hI:bU B s) (h:fV c s) {d:Dr} {q:ByteArray} (hq:q.size≤300):fV c (vE { s with dr:=d,last:=q }):=by
 have hI2:bU B { s with dr:=d,last:=q }:= { hI with }
 have e:=Aez hI2
 have h0:∀ {l:List Sm} {z:Cn} {e:Dr},z.l=l→bU B z→fV c { z with dr:=e }→fV c { qU d.co (l.map Sm.id) z with dr:=e }:=by
  intro l
  induction l with
  |nil=>intro z e _ _ hz;exact hz
  |cons m l ih=>
   intro z e hl hzI hz
   have hm:bY m.id z.l=some m:=by rw[hl];exact E0
   exact ih (z:=lW m.id d.co false z) (FG hl) (Ay hzI hm) (IF (s:= { z with dr:=e }) { hzI with } hz hm)
 have h1:=h0 (z:= { s with dr:=d,last:=q }) (e:=s.dr) rfl hI2 { h with ls:=hq }
 exact { h1 with
  fo:=fun f hf=>by cases hf
  cl:=fun _=>e }
theorem Uv {n w:Int} (hw:0≤w):((rB n w).size:Int)≤w:=by
 unfold rB
 split
 ·show((0:Nat):Int)≤w;exact hw
 ·have:((⟨(wB n w).toArray⟩:ByteArray).size:Int)=((wB n w).length:Nat):=by simp[ByteArray.size]
  rw[this,sC];omega
theorem Ag9 {l t f s:Int}:(B7 l t f s).size≤9:=by
 have q1:=Uv (n:=l) (w:=3) (by decide)
 have q2:=Uv (n:=t) (w:=1) (by decide)
 have q3:=Uv (n:=f) (w:=1) (by decide)
 have q4:=Uv (n:=s) (w:=4) (by decide)
 unfold B7
 rw[ByteArray.size_append,ByteArray.size_append,ByteArray.size_append]
 omega
theorem Aek {la co:Int}:(S5 (E8 la co)).size≤300:=by
 have e:(⟨(wB la 4++wB co 4).toArray⟩:ByteArray).size=8:=by
  have:(⟨(wB la 4++wB co 4).toArray⟩:ByteArray).size=(wB la 4++wB co 4).length:=by simp[ByteArray.size]
  rw[this,List.length_append,sC,sC];rfl
 refine Nat.le_trans (Nat.le_of_eq (ByteArray.size_append ..)) (Nat.le_trans (Nat.add_le_add Ag9 (Nat.le_of_eq e)) (by decide))
theorem gV (hI:bU B s) (h:fV c s):fV c (iO w o s):=Ij hI h Aek
theorem Uf {out:List Fm} (h:∀f∈out,mK f=true∧f.ps.length=f.pn∧f.t≠10∧f.t≠11) (hf:f.ps.length=f.pn∧f.t≠10∧f.t≠11):∀z∈zF f out,mK z=true∧z.ps.length=z.pn∧z.t≠10∧z.t≠11:=by
 unfold zF
 by_cases he:EF f out≠0
 ·rw[if_pos he];exact h
 ·rw[if_neg he]
  have hc:mK f=true:=by
   cases hq:mK f
   ·exact absurd (by unfold EF;rw[if_pos hq];decide) he
   ·rfl
  cases hy:out[tT f out]? with
  |none=>
   intro z hz
   rcases List.mem_append.1 hz with hz|hz
   ·exact h z hz
   ·rw[List.mem_singleton.1 hz]
    exact⟨hc,hf⟩
  |some y=>
   exfalso
   obtain⟨y2,h2,h3⟩:=Nq (List.getElem?_eq_some_iff.1 hy).1
   unfold rL at h3
   simp only[Bool.and_eq_true,Bool.or_eq_true,decide_eq_true_eq] at h3
   rcases h3.1.1.1 with h4|h4
   ·exact hf.2.1 h4
   ·exact hf.2.2 h4
theorem Bp (h:fV c s) (hf:f.ps.length=f.pn∧f.t≠10∧f.t≠11):fV c { s with out:=zF f s.out }:= { h with fo:=Uf h.fo hf }
theorem D1 (hI:bU B s) (h:fV c s) (hf:f.ps.length=f.pn∧f.t≠10∧f.t≠11):fV c (tX f s):=by
 unfold tX
 split
 ·exact Bp h hf
 ·exact gV hI h
theorem Ec (hI:bU B s) (h:fV c s) (hm:bY id s.l=some m):fV c (sH m code s):=by
 obtain⟨hi,h2⟩:=bA hm
 have h1:bY m.id s.l=some m:=by rw[h2];exact hm
 have hk:=h.kp
 have he:=LA hi
 have hr:=hI.rv
 unfold Jn at hr
 have hd:=IF (s:=s) (gone:=false) (code:=code) hI h h1
 refine { hd with kp:=?_ }
 show(fY s.rv (if bB m.x=1 then(gF m.y:Nat) else 0)).us+xT (s.l.eraseIdx (b7 m.id s.l))≤(fY s.rv (if bB m.x=1 then(gF m.y:Nat) else 0)).got
 rw[h2]
 have hkb:kb m=if bB m.x=1 then gF m.y else 0:=rfl
 unfold fY
 by_cases hx:bB m.x=1
 ·rw[if_pos hx] at hkb
  simp only[if_pos hx]
  split
  ·dsimp only;omega
  ·omega
 ·rw[if_neg hx] at hkb
  simp only[if_neg hx]
  split
  ·dsimp only;omega
  ·omega
theorem qI (hI:bU B s) (h:fV c s):fV c (kK w st s):=by
 unfold kK
 split
 ·exact gV hI h
 ·cases hm:bY st s.l with
  |none=>exact D1 hI h ⟨rfl,by show(4:Int)≠10;decide,by show(4:Int)≠11;decide⟩
  |some m=>exact D1 (rW hI hm) (Ec hI h hm) ⟨rfl,by show(4:Int)≠10;decide,by show(4:Int)≠11;decide⟩
theorem DO (hI:bU B s) (h:fV c s) (hm:bY m.id s.l=some m):fV c (k7 m s):=by
 unfold k7
 split
 ·exact IF hI h hm
 ·exact h
theorem Kr {j:Int} (hi:l[i]?=some m) (hid:m'.id=m.id) (hx:bB m'.x=bB m.x):(∃m∈l,m.id=j∧bB m.x=1)↔∃z∈l.set i m',z.id=j∧bB z.x=1:=by
 have e:(l.set i m').map (fun z=>(z.id,bB z.x))=l.map fun z=>(z.id,bB z.x):=by
  rw[List.map_set,hid,hx]
  exact j9 i (by rw[List.getElem?_map,hi];rfl)
 have q:∀l:List Sm,(∃m∈l,m.id=j∧bB m.x=1)↔(j,(1:Int))∈l.map fun z=>(z.id,bB z.x):=fun l=>by
  simp only[List.mem_map,Prod.mk.injEq]
 rw[q,q,e]
theorem yC (h:fV c s) (hi:s.l[i]?=some m) (hid:m'.id=m.id) (ho:m'.own=m.own) (hm:OS c s.sh.g m') (hk:kb m'≤kb m) (hx:bB m'.x=bB m.x):fV c { s with l:=s.l.set i m' }:=
 { h with
   tn:=fun j hj=>by
    obtain⟨z,hz,hzi⟩:=h.tn j hj
    have e:=Co (m':=m') hi hid
    have h1:j∈(s.l.set i m').map Sm.id:=by rw[e,← hzi];exact List.mem_map_of_mem hz
    obtain⟨z',hz',e'⟩:=List.mem_map.1 h1
    exact⟨z',hz',e'⟩
   cl:=fun ho=>by
    have:=h.cl ho
    rw[this] at hi;cases hi
   mo:=fun z hz=>by
    rcases List.mem_or_eq_of_mem_set hz with hz|rfl
    ·exact h.mo z hz
    ·exact hm
   nf:=by
    have h1:=h.nf
    unfold fO at h1
    show(((s.l.set i m').filter fun m=>m.own == false).length:Int)≤s.sh.g.st
    rw[MD hi ho];exact h1
   kp:=by
    have h1:=h.kp
    have h2:=NF (m':=m') hi
    show s.rv.us+xT (s.l.set i m')≤s.rv.got
    omega
   lk:=fun j=>(h.lk j).trans (Kr hi hid hx) }
theorem LZ (h:fV c s) (hk:k+s.rv.us+xT s.l≤s.rv.got) (h0:0≤k):fV c { s with rv:=fY s.rv k }:=
 { h with
   kp:=by
    show(fY s.rv k).us+xT s.l≤(fY s.rv k).got
    unfold fY
    split
    ·dsimp only;omega
    ·omega }
end
section
variable {s:Cn} {B id n k code w o st kind on sg:Int} {gone own xx:Bool} {m m':Sm} {l:List Sm} {i:Nat} {c:Cf} {f:Fm} {g:eJ} {t:eJ} {u:List UInt8}
theorem Ael {d:ByteArray} {e:Bool} {tt:Int} (hk:bB m.x=kV m.y) (hw:gI m tt d e=0):(kb (fM m d e):Int)≤kb m+(if tt=0 then(d.size:Int) else 0):=by
 have ht:tt=bB m.x - 1:=by
  by_cases h:tt=bB m.x - 1
  ·exact h
  ·unfold gI at hw
   rw[if_pos h] at hw;cases hw
 unfold kb fM
 by_cases hx:bB m.x=1
 ·simp only[if_pos hx]
  cases hy:m.y with
  |b y=>
   have:d.data.toList.length=d.size:=Array.length_toList
   simp only[Cr,gF,List.length_append]
   rw[if_pos (by omega)]
   omega
  |i y=>rw[hy,hx] at hk;cases hk
 ·simp only[if_neg hx]
  split <;> omega
theorem Zq {d:ByteArray} {e:Bool} (h:OS c g m):OS c g (fM m d e):=by
 obtain⟨h1,h2,h3,h4⟩:=h
 refine⟨?_,h2,?_,h4⟩
 ·show Hf g (Cr m.y d e)
  cases hy:m.y with
  |b y=>rw[hy] at h1;exact h1
  |i y=>
   rw[hy] at h1
   show(if d≠⟨#[]⟩∨e=false then({ y with op:=y.op - 1,l:=y.l++ [d],ac:=y.ac+1,en:=e }:YI) else { y with en:=true }).mr≤g.it
   split <;> exact h1
 ·show bB m.x=kV (Cr m.y d e)
  cases hy:m.y with
  |b y=>rw[hy] at h3;exact h3
  |i y=>rw[hy] at h3;exact h3
theorem Aai (hI:bU B s) (h:fV c s) (hB:B+300≤250000000) (hd:f.d.size≤256):fV c (uB f s):=by
 have hk:0≤(if f.t=0 then((f.d.size:Nat):Int) else 0)∧(if f.t=0 then((f.d.size:Nat):Int) else 0)≤300:=by split <;> omega
 have hkp:=h.kp
 unfold uB
 cases hm:bY f.st s.l with
 |none=>
  dsimp only
  generalize (if f.t=0 then((f.d.size:Nat):Int) else 0)=kk at hk ⊢
  by_cases hg:lB s.rv kk=0
  ·rw[if_neg (fun q=>q hg)]
   have e:f7 s.rv kk= { s.rv with got:=s.rv.got+kk }:=if_pos hg
   rw[e]
   exact LZ (s:= { s with rv:= { s.rv with got:=s.rv.got+kk } }) { h with kp:=by show s.rv.us+xT s.l≤s.rv.got+kk;omega } (by show kk+s.rv.us+xT s.l≤s.rv.got+kk;omega) hk.1
  ·rw[if_pos hg];exact gV hI h
 |some m=>
  obtain⟨hi,hmid⟩:=bA hm
  dsimp only
  by_cases hw:gI m f.t f.d f.e=0
  ·have hkc:=Ael (h.mo m (List.mem_of_getElem? hi)).ok hw
   generalize (if f.t=0 then((f.d.size:Nat):Int) else 0)=kk at hk hkc ⊢
   generalize (if f.t=1∧(f.d≠⟨#[]⟩∨f.e=false) then(1:Int) else kk)=nn
   by_cases hg:lB s.rv kk=0
   ·rw[if_neg (fun q=>q hg),if_neg (fun q=>q hw),eE (id:=f.st) (show(fM m f.d f.e).id=f.st from hmid)]
    have e:f7 s.rv kk= { s.rv with got:=s.rv.got+kk }:=if_pos hg
    have hI2:=xF (mv:=⟨2,f.st,nn,f.d,f.e⟩) (e:=f.e) hI hm hk hB hd
    have hS:fV c { s with l:=s.l.set (b7 f.st s.l) m }:=by
     rw[j9 _ hi];exact h
    refine DO hI2 ?_ (lN hm rfl)
    have hset:=NF (m':=fM m f.d f.e) hi
    have hb:fV c { s with l:=s.l.set (b7 f.st s.l) (fM m f.d f.e),rv:= { s.rv with got:=s.rv.got+kk } }:= {
     cfe:=h.cfe,fo:=h.fo,hg:=h.hg,ls:=h.ls
     tn:=fun j hj=>by
      obtain⟨z,hz,hzi⟩:=h.tn j hj
      have e:=Co (m':=fM m f.d f.e) hi rfl
      have h1:j∈(s.l.set (b7 f.st s.l) (fM m f.d f.e)).map Sm.id:=by rw[e,← hzi];exact List.mem_map_of_mem hz
      obtain⟨z',hz',e'⟩:=List.mem_map.1 h1
      exact⟨z',hz',e'⟩
     cl:=fun ho=>by
      have:=h.cl ho
      rw[this] at hi;cases hi
     mo:=fun z hz=>by
      rcases List.mem_or_eq_of_mem_set hz with hz|rfl
      ·exact h.mo z hz
      ·exact Zq (h.mo m (List.mem_of_getElem? hi))
     nf:=by
      have h1:=h.nf
      unfold fO at h1
      show(((s.l.set (b7 f.st s.l) (fM m f.d f.e)).filter fun m=>m.own == false).length:Int)≤s.sh.g.st
      rw[MD (m':=fM m f.d f.e) hi rfl];exact h1
     kp:=by
      show s.rv.us+xT (s.l.set (b7 f.st s.l) (fM m f.d f.e))≤s.rv.got+kk
      omega
     lk:=fun j=>(h.lk j).trans (Kr (m':=fM m f.d f.e) hi rfl rfl) }
    rw[e]
    exact { hb with }
   ·rw[if_pos hg];exact gV hI h
  ·generalize (if f.t=0 then((f.d.size:Nat):Int) else 0)=kk at hk ⊢
   by_cases hg:lB s.rv kk=0
   ·rw[if_neg (fun q=>q hg),if_pos hw]
    refine qI (pI (A7 hI hk hB)) ?_
    have e:f7 s.rv kk= { s.rv with got:=s.rv.got+kk }:=if_pos hg
    rw[e]
    exact LZ (s:= { s with rv:= { s.rv with got:=s.rv.got+kk } }) { h with kp:=by show s.rv.us+xT s.l≤s.rv.got+kk;omega } (by show kk+s.rv.us+xT s.l≤s.rv.got+kk;omega) hk.1
   ·rw[if_pos hg];exact gV hI h
theorem Tv {cf:Cf} {h:eJ}:(gU cf h id kind sg own).id=id:=by unfold gU;split <;> rfl
theorem Aer {cf:Cf} {h:eJ}:(gU cf h id kind sg own).own=own:=by unfold gU;split <;> rfl
theorem PY {z:Sm} (h:z∈l):z∈kG m l:=by
 unfold kG
 rw[← List.take_append_drop (b7 m.id l) l] at h
 rcases List.mem_append.1 h with h|h
 ·exact List.mem_append_left _ h
 ·exact List.mem_append_right _ (List.mem_cons_of_mem _ h)
theorem OP:m∈kG m l:=List.mem_append_right _ (List.mem_cons_self ..)
theorem P4 {cf:Cf} {h:eJ}:bB (gU cf h id kind sg own).x=1↔kind=1:=by
 unfold gU
 split
 ·rename_i hk;exact⟨fun _=>hk,fun _=>rfl⟩
 ·rename_i hk;exact⟨fun q=>absurd (show(2:Int)=1 from q) (by decide),fun q=>absurd q hk⟩
theorem Afm (hI:bU B s) (h:fV c s):s.ld.l.length≤s.l.length:=by
 have hn:(s.ld.l.map g8.id).Nodup:=by
  have:(s.ld.l.map g8.id).Pairwise (·<·):=List.pairwise_map.2 hI.ld.2.1
  exact this.imp fun hab e=>by omega
 have h1:=List.Nodup.length_le_of_subset (l₂:=s.l.map Sm.id) hn fun j hj=>by
  obtain⟨m,hm,hid,_⟩:=(h.lk j).1 hj
  exact List.mem_map.2 ⟨m,hm,hid⟩
 rwa[List.length_map,List.length_map] at h1
theorem Ve (hI:bU B s) (h:fV c s) (hat:bY id s.l=none) (hl:s.l.length<64) (hid:1≤id∧id≤2147483647) (ho:s.dr.ov=false) (hn:own=false→(fO s false:Int)<s.sh.h.st):fV c (HG id kind on w xx own sg s):=
 { h with
   tn:=fun j hj=>by
    rcases Agj hI.tr hj with hj|hj
    ·exact⟨_,OP,by rw[Tv];exact hj.symm⟩
    ·obtain⟨z,hz,hzi⟩:=h.tn j hj
     exact⟨z,PY hz,hzi⟩
   cl:=fun hq=>by
    have hq:s.dr.ov=true:=hq
    rw[ho] at hq;cases hq
   mo:=fun z hz=>by
    rcases AX hz with rfl|hz
    ·have h1:=h.hg.1
     have h2:=hI.cf
     have h3:=h.cfe
     unfold NK at h1
     unfold gU
     split
     ·refine⟨h1.1,?_,rfl,trivial⟩
      show((s.cf.sb.toNat:Nat):Int)≤c.sb
      rw[← h3];omega
     ·refine⟨h1.2.2,?_,rfl,fun d hd=>by cases hd⟩
      show((s.cf.si.toNat:Nat):Int)≤c.si
      rw[← h3];omega
    ·exact h.mo z hz
   nf:=by
    have h1:=h.nf
    have h2:=h.hg.1
    unfold NK at h2
    show(((kG (gU s.cf s.sh.h id kind sg own) s.l).filter fun m=>m.own == false).length:Int)≤s.sh.g.st
    rw[UT,Aer]
    unfold fO at h1 hn
    split
    ·rename_i hb
     have hb:own=false:=by simpa using hb
     have:=hn hb
     omega
    ·omega
   kp:=by
    have h1:=h.kp
    have h2:kb (gU s.cf s.sh.h id kind sg own)=0:=by
     unfold gU
     split
     ·rfl
     ·rfl
    show s.rv.us+xT (kG (gU s.cf s.sh.h id kind sg own) s.l)≤s.rv.got
    rw[Afq,h2];omega
   lk:=fun j=>by
    have hno:=MX hI.sm hat
    have hnl:id ∉ s.ld.l.map g8.id:=fun q=>by
     obtain⟨z,hz,hzi,_⟩:=(h.lk id).1 q
     exact hno z hz hzi
    have hlen:=Afm hI h
    have hput:(∃m∈kG (gU s.cf s.sh.h id kind sg own) s.l,m.id=j∧bB m.x=1)↔(j=id∧kind=1)∨∃m∈s.l,m.id=j∧bB m.x=1:=by
     constructor
     ·rintro⟨z,hz,hzi,hzk⟩
      rcases AX hz with rfl|hz
      ·exact .inl ⟨by rw[← hzi,Tv],P4.1 hzk⟩
      ·exact .inr ⟨z,hz,hzi,hzk⟩
     ·rintro(⟨rfl,hk⟩|⟨z,hz,hzi,hzk⟩)
      ·exact⟨_,OP,Tv,P4.2 hk⟩
      ·exact⟨z,PY hz,hzi,hzk⟩
    show j∈(if kind=1 then k8 id s.pe.w s.ld else s.ld).l.map g8.id↔∃m∈kG (gU s.cf s.sh.h id kind sg own) s.l,m.id=j∧bB m.x=1
    rw[hput,← h.lk]
    by_cases hk:kind=1
    ·rw[if_pos hk,Aca hI.ld hid (Y7 hI.pe.1) hnl (by omega)]
     simp[hk]
    ·rw[if_neg hk]
     simp[hk] }
theorem Sb (hI:bU B s) (h:fV c s) (hB:B+300≤250000000):fV c (pT f s):=by
 have hm:=hI.mono (B':=B+300) (by omega) hB
 unfold pT
 by_cases hp:pV s.sd s.la f.st=0
 ·rw[if_neg (fun q=>q hp)]
  have JE:=IG hm hp
  have h1:fV c { s with la:=f.st }:= { h with }
  split
  ·exact gV JE h1
  ·split
   ·exact qI JE h1
   ·rename_i hdt
    split
    ·exact qI JE h1
    ·rename_i ho
     have hov:s.dr.ov=false:=by
      cases hq:s.dr.ov
      ·rfl
      ·exact absurd (by unfold D3;rw[hq];rfl) hdt
     have h2:=Ve (id:=f.st) (kind:=f.k) (on:=f.on) (w:=f.w) (xx:=f.x) (sg:=s.cf.sg) (own:=false) JE h1 (show bY f.st s.l=none from Fi hI hp) (show s.l.length<64 from(H8 hI ho).1) (qH hI.sd hp).1 hov (fun _=>by show(fO s false:Int)<s.sh.h.st;omega)
     exact { h2 with }
 ·rw[if_pos hp];exact gV hm h
theorem Adx {n:Int} (h:OS c g m):OS c g { m with x:=pR m.x n }:=by
 obtain⟨h1,h2,h3,h4⟩:=h
 refine⟨h1,?_,by show bB (pR m.x n)=kV m.y;rw[GM];exact h3,?_⟩
 ·show ZA c (pR m.x n)
  cases hx:m.x with
  |b z=>rw[hx] at h2;exact h2
  |i z=>
   rw[hx] at h2
   show((if 1≤n then { z with w:=z.w+min n (2147483647 - z.w) } else z).cap:Int)≤c.si
   split <;> exact h2
 ·show xSz (pR m.x n)
  cases hx:m.x with
  |b z=>trivial
  |i z=>
   rw[hx] at h4
   show ∀d∈(if 1≤n then { z with w:=z.w+min n (2147483647 - z.w) } else z).l,d.size≤256
   split <;> exact h4
theorem PS (hI:bU B s) (h:fV c s) (hm:bY f.st s.l=some m):fV c (l8 f m s):=by
 obtain⟨hi,hmid⟩:=bA hm
 unfold l8
 split
 ·exact qI hI h
 ·split
  ·exact qI hI h
  ·split
   ·split
    ·exact qI hI h
    ·exact { h with lk:=fun j=>by show j∈(o4 f.st f.n s.ld).l.map g8.id↔_;rw[Qx];exact h.lk j }
   ·split
    ·exact qI hI h
    ·rw[eE (id:=f.st) (show({ m with x:=pR m.x f.n }:Sm).id=f.st from hmid)]
     refine yC (s:= { s with sl:=iS s.sl s.now }) { h with } hi rfl rfl (Adx (h.mo m (List.mem_of_getElem? hi))) ?_ ?_
     ·unfold kb
      show(if bB (pR m.x f.n)=1 then gF m.y else 0)≤_
      rw[GM];exact Nat.le_refl _
     ·exact GM
theorem X0 (hI:bU B s) (h:fV c s):fV c (tH f s):=by
 unfold tH
 split
 ·exact gV hI h
 ·split
  ·exact gV hI h
  ·exact { h with lk:=fun j=>by show j∈(o4 0 f.n s.ld).l.map g8.id↔_;rw[Qx];exact h.lk j }
theorem Ace (hI:bU B s) (h:fV c s):fV c (yQ f s):=by
 unfold yQ
 cases hp:Yy s.pe f.ps with
 |none=>exact gV hI h
 |some t=>
  dsimp only
  split
  ·exact gV hI h
  ·exact D1 (MG hI (Ns hI.pe hp) (MW hI.ld)) { h with lk:=fun j=>by show j∈(sV s.pe.w t.w s.ld).l.map g8.id↔_;rw[Afn];exact h.lk j } ⟨rfl,by show(6:Int)≠10;decide,by show(6:Int)≠11;decide⟩
theorem Ahu {q:eJ} (hq:NK q g) (h:OS c g m):OS c g { m with y:=DV m.y q }:=by
 obtain⟨h1,h2,h3,h4⟩:=h
 unfold NK at hq
 refine⟨?_,h2,by show bB m.x=kV (DV m.y q);rw[Abt];exact h3,h4⟩
 show Hf g (DV m.y q)
 cases hy:m.y with
 |b z=>rw[hy] at h1;show max z.most q.w≤g.w;have:z.most≤g.w:=h1;omega
 |i z=>rw[hy] at h1;show max z.mr q.it≤g.it;have:z.mr≤g.it:=h1;omega
theorem Ls {j:Int} {q:Sm→Sm} (h1:∀m,(q m).id=m.id) (h2:∀m,bB (q m).x=bB m.x):(∃m∈l,m.id=j∧bB m.x=1)↔∃z∈l.map q,z.id=j∧bB z.x=1:=by
 constructor
 ·rintro⟨z,hz,hzi,hzk⟩
  exact⟨q z,List.mem_map_of_mem hz,by rw[h1];exact hzi,by rw[h2];exact hzk⟩
 ·rintro⟨z,hz,hzi,hzk⟩
  obtain⟨y,hy,rfl⟩:=List.mem_map.1 hz
  exact⟨y,hy,by rw[← h1];exact hzi,by rw[← h2];exact hzk⟩
theorem VV (hI:bU B s) (h:fV c s):fV c (tD s):=by
 unfold tD
 split
 ·exact gV hI h
 ·rename_i hE
  obtain⟨hg1,hg2⟩:=h.hg
  have hg:NK (dD s.sh).h (dD s.sh).g∧∀t∈(dD s.sh).l,NK t (dD s.sh).g:=by
   unfold dD
   cases hl:s.sh.l with
   |nil=>exact⟨hg1,hg2⟩
   |cons q r=>
    rw[hl] at hg2
    exact⟨hg2 q (List.mem_cons_self ..),fun z hz=>hg2 z (List.mem_cons_of_mem _ hz)⟩
  have e:(dD s.sh).g=s.sh.g:=by
   unfold dD
   cases s.sh.l <;> rfl
  have hkb:∀m:Sm,kb ({ m with y:=DV m.y (dD s.sh).h }:Sm)=kb m:=fun m=>by
   unfold kb
   cases hy:m.y <;> rfl
  exact { h with
   tn:=fun j hj=>by
    obtain⟨z,hz,hzi⟩:=h.tn j hj
    exact⟨_,List.mem_map_of_mem hz,hzi⟩
   cl:=fun ho=>by
    show s.l.map _= []
    rw[h.cl ho];rfl
   mo:=fun z hz=>by
    obtain⟨m,hm,rfl⟩:=List.mem_map.1 hz
    show OS c (dD s.sh).g _
    have h1:=h.mo m hm
    rw[← e] at h1
    exact Ahu hg.1 h1
   hg:=hg
   nf:=by
    have h1:=h.nf
    unfold fO at h1
    show(((s.l.map fun m=>({ m with y:=DV m.y (dD s.sh).h }:Sm)).filter fun m=>m.own == false).length:Int)≤(dD s.sh).g.st
    rw[nL,List.map_map,e]
    rw[nL] at h1
    exact h1
   kp:=by
    have h1:=h.kp
    show s.rv.us+xT (s.l.map fun m=>({ m with y:=DV m.y (dD s.sh).h }:Sm))≤s.rv.got
    rw[UC hkb];exact h1
   lk:=fun j=>(h.lk j).trans (Ls (q:=fun m=> { m with y:=DV m.y (dD s.sh).h }) (fun _=>rfl) fun _=>rfl) }
theorem IC:∀ {l acc:List Sm} {s:Cn},s.l=acc++l→bU B s→fV c s→fV c (nY (l.map Sm.id) s)
 | [],acc,s,he,_,h=>h
 |m::l,acc,s,he,hI,h=>by
  have hlt:=Rs (by rw[← he];exact hI.sm)
  have hm:bY m.id s.l=some m:=by rw[he];exact IL hlt
  rw[List.map_cons,LF hm]
  split
  ·refine IC (l:=l) (acc:=acc) ?_ (rW hI hm) (Ec hI h hm)
   show s.l.eraseIdx (b7 m.id s.l)=acc++l
   rw[he];exact EH hlt
  ·exact IC (l:=l) (acc:=acc++ [m]) (by rw[he];simp) hI h
theorem Acd {d:Dr} {la co:Int} (h:d.ov=true):(oU d la co).ov=true:=by
 unfold oU
 split
 ·exact h
 ·split
  ·rfl
  ·exact h
theorem Ad0 (hI:bU B s) (h:fV c s):fV c (xV f s):=by
 unfold xV
 split
 ·exact Ij (q:=s.last) hI h h.ls
 ·rename_i hov
  have ho:s.dr.ov=false:=by
   cases hq:s.dr.ov
   ·rfl
   ·exact absurd (Acd hq) hov
  refine IC (acc:= []) rfl (FD hI) ?_
  exact { h with cl:=fun hq=>absurd hq hov }
theorem Vx {id on w:Int} {xx:Bool} (hI:bU B s) (h:fV c s):fV c { s with tr:=kC id on w xx s.tr }:= { h with tn:=fun j hj=>h.tn j (Aeo hI.tr hj) }
theorem XR (hI:bU B s) (h:fV c s):fV c (kL f s):=by
 unfold kL
 split
 ·exact gV hI h
 ·cases hm:bY f.st s.l with
  |none=>exact h
  |some m=>
   dsimp only
   split
   ·exact Vx hI h
   ·split
    ·exact Ec hI h hm
    ·exact PS hI h hm
theorem TL (hI:bU B s) (h:fV c s) (hB:B+300≤250000000) (hr:cZ f):fV c (bT f s):=by
 have hh:=hO hI
 have hk:fV c { s with bt:=bO s.bt s.now }:= { h with }
 have hm:=hh.mono (B':=B+300) (by omega) hB
 unfold bT fX
 split
 ·exact Ace hm hk
 ·split
  ·exact VV hm hk
  ·split
   ·exact D1 hm hk ⟨rfl,by show(8:Int)≠10;decide,by show(8:Int)≠11;decide⟩
   ·split
    ·exact { hk with }
    ·split
     ·exact Ad0 hm hk
     ·split
      ·exact Sb hh hk hB
      ·split
       ·exact X0 hm hk
       ·split
        ·exact gV hm hk
        ·split
         ·rename_i ht
          exact Aai hh hk hB (hr.2.2.2.2.2.2.2.2.2.2.2.2.1 (by omega))
         ·exact XR hm hk
theorem F4:∀ {fs:List Fm} {s:Cn} {B:Int},bU B s→fV c s→(∀f∈fs,cZ f)→B+300 * fs.length≤250000000→fV c (d9 fs s)
 | [],s,B,_,h,_,hB=>h
 |f::r,s,B,hI,h,hr,hB=>by
  have e:(f::r).length=r.length+1:=rfl
  rw[e] at hB
  have h1:=CU hI (by omega) (hr f (List.mem_cons_self ..))
  have h2:=TL hI h (by omega) (hr f (List.mem_cons_self ..))
  unfold d9
  split
  ·exact h2
  ·exact F4 h1 h2 (fun z hz=>hr z (List.mem_cons_of_mem _ hz)) (by omega)
theorem Adb {bs:List UInt8} (h:(pF bs).2.2=0):(pF bs).2.1.length≤265:=by
 have h1:=(U7 bs.length bs (Nat.le_refl _)).1
 rw[h] at h1
 rw[← pD]
 unfold DU at h1
 split at h1
 ·omega
 ·split at h1
  ·split at h1
   ·rename_i hf
    have:=(MZ hf).2
    split at h1
    ·omega
    ·split at h1
     ·cases h1
     ·rename_i hg;exact absurd (Option.some.inj h1) hg
   ·rename_i hf;exact absurd (Option.some.inj h1) hf
  ·cases h1
def o9 (s:Cn):Int×List UInt8:=(s.ine,s.inb)
theorem QD:∀ {l:List Int} {s:Cn},o9 (qU code l s)=o9 s
 | [],_=>rfl
 |a::l,s=>QD (l:=l) (s:=lW a code false s)
theorem Qp:o9 (vE s)=o9 s:=QD (code:=s.dr.co) (l:=s.l.map Sm.id) (s:=s)
theorem jP:o9 (iO w o s)=o9 s:=Qp
theorem LP:o9 (tX f s)=o9 s:=by
 unfold tX
 split
 ·rfl
 ·exact jP
theorem uS:o9 (kK w st s)=o9 s:=by
 unfold kK
 split
 ·exact jP
 ·rw[LP]
  split
  ·rfl
  ·rfl
theorem A8:o9 (k7 m s)=o9 s:=by unfold k7;split <;> rfl
theorem Agw:o9 (uB f s)=o9 s:=by
 unfold uB
 generalize (if f.t=0 then((f.d.size:Nat):Int) else 0)=kk
 generalize (if f.t=1∧(f.d≠⟨#[]⟩∨f.e=false) then(1:Int) else kk)=nn
 split
 ·exact jP
 ·split
  ·rfl
  ·split
   ·exact uS
   ·exact A8
theorem Wo:o9 (pT f s)=o9 s:=by
 unfold pT
 split
 ·exact jP
 ·split
  ·exact jP
  ·split
   ·exact uS
   ·split
    ·exact uS
    ·rfl
theorem TV:o9 (l8 f m s)=o9 s:=by
 unfold l8
 split
 ·exact uS
 ·split
  ·exact uS
  ·split
   ·split
    ·exact uS
    ·rfl
   ·split
    ·exact uS
    ·rfl
theorem ZR:o9 (tH f s)=o9 s:=by
 unfold tH
 split
 ·exact jP
 ·split
  ·exact jP
  ·rfl
theorem Ah9:o9 (yQ f s)=o9 s:=by
 unfold yQ
 split
 ·exact jP
 ·split
  ·exact jP
  ·exact LP
theorem Ad3:o9 (tD s)=o9 s:=by
 unfold tD
 split
 ·exact jP
 ·rfl
theorem Vk:∀ {l:List Int} {s:Cn},o9 (nY l s)=o9 s
 | [],_=>rfl
 |a::l,s=>by
  unfold nY
  rw[Vk (l:=l)]
  split
  ·split
   ·rfl
   ·rfl
  ·rfl
theorem Af1:o9 (xV f s)=o9 s:=by
 unfold xV
 split
 ·exact Qp
 ·exact Vk
theorem Zh:o9 (kL f s)=o9 s:=by
 unfold kL
 split
 ·exact jP
 ·split
  ·rfl
  ·split
   ·rfl
   ·split
    ·rfl
    ·exact TV
theorem Kn:o9 (bT f s)=o9 s:=by
 unfold bT fX
 split
 ·exact Ah9
 ·split
  ·exact Ad3
  ·split
   ·exact LP
   ·split
    ·rfl
    ·split
     ·exact Af1
     ·split
      ·exact Wo
      ·split
       ·exact ZR
       ·split
        ·exact jP
        ·split
         ·exact Agw
         ·exact Zh
theorem CS:∀ {l:List Fm} {s:Cn},o9 (d9 l s)=o9 s
 | [],_=>rfl
 |f::l,s=>by
  unfold d9
  split
  ·exact Kn
  ·rw[CS (l:=l)];exact Kn
theorem Pq:∀ {l:List Int} {s:Cn},(qU code l s).dr=s.dr
 | [],_=>rfl
 |a::l,s=>Pq (l:=l) (s:=lW a code false s)
theorem Et (hw:0≤w∧w≤20):(iO w o s).dr.ov=true:=by
 have h1:=KO (o:=o) hw
 have e:(iO w o s).dr=CJ s.dr (lO w o):=Pq
 rw[e]
 unfold CJ GC
 cases ho:s.dr.ov
 ·have:pL (lO w o) 1=true:=by unfold pL;simp only[Bool.and_eq_true,decide_eq_true_eq];omega
  rw[this];rfl
 ·simp[ho]
def Ch (s:Cn):Prop:=(s.dr.ov=true∨s.ine=0)∧s.inb.length≤300
theorem MO {s s':Cn} (h:Ch s) (he:o9 s'=o9 s) (ho:s.dr.ov=true→s'.dr.ov=true):Ch s':=by
 have e1:s'.ine=s.ine:=congrArg Prod.fst he
 have e2:s'.inb=s.inb:=congrArg Prod.snd he
 unfold Ch
 rw[e1,e2]
 exact⟨h.1.elim (fun q=>.inl (ho q)) .inr,h.2⟩
theorem Ac9 (h:Ch s):Ch (lQ u s):=by
 unfold lQ
 split
 ·rename_i ho
  exact⟨.inl ho,h.2⟩
 ·have h1:o9 (d9 (iQ u (aD s)).1 (iQ u (aD s)).2)=((pF (s.inb++u)).2.2,if(pF (s.inb++u)).2.2=0 then(pF (s.inb++u)).2.1 else []):=CS
  have h2:(if(pF (s.inb++u)).2.2=0 then(pF (s.inb++u)).2.1 else []).length≤300:=by
   split
   ·rename_i h0;have:=Adb h0;omega
   ·simp
  split
  ·rename_i hq
   have e1:=congrArg Prod.fst h1
   have e2:=congrArg Prod.snd h1
   refine⟨hq.elim .inl fun q=>.inr ?_,?_⟩
   ·rw[← q];exact e1
   ·show(o9 (d9 (iQ u (aD s)).1 (iQ u (aD s)).2)).2.length≤300
    rw[e2];exact h2
  ·refine⟨.inl (Et (by decide)),?_⟩
   show(o9 (iO 0 _ _)).2.length≤300
   rw[jP,h1];exact h2
theorem Adc (hI:bU B s) (h:fV c s) (hB:B+u.length+300 * (pF (s.inb++u)).1.length≤250000000):fV c (lQ u s):=by
 unfold lQ
 split
 ·exact { h with }
 ·have h1:=IR (u:=u) hI (by omega)
  have hl:((pF (s.inb++u)).1.map Lu).length=(pF (s.inb++u)).1.length:=List.length_map ..
  have hB2:B+u.length+300 * ((((pF (s.inb++u)).1.map Lu).length:Nat):Int)≤250000000:=by rw[hl];exact hB
  have h2:=AI (fs:=(iQ u (aD s)).1) h1 Cl hB2
  have h3:=F4 (c:=c) (fs:=(iQ u (aD s)).1) h1 { h with } Cl hB2
  split
  ·exact h3
  ·exact gV h2 h3
end
section
variable {s:Cn} {B id n k code w o st kind on sg:Int} {gone own xx:Bool} {m m':Sm} {l:List Sm} {i:Nat} {c:Cf} {f:Fm} {g:eJ} {t:eJ} {u:List UInt8} {d:ByteArray}
theorem cL (h:fV c s):fV c (aD s):= { h with }
theorem Ahi (h:OS c g m):OS c g (Az m d):=by
 obtain⟨h1,h2,h3,h4⟩:=h
 unfold Az
 split
 ·refine⟨h1,?_,?_,?_⟩
  ·show ZA c (Aj m.x d)
   cases hx:m.x with
   |b z=>rw[hx] at h2;exact h2
   |i z=>
    rw[hx] at h2
    show((if z.en=true∨256<d.size then z else if z.l.length<z.cap then { z with l:=z.l++ [d],ac:=z.ac+1 } else if z.st=0 then z else if z.st=1∨z.cap=0 then { z with ac:=z.ac+1,dr:=z.dr+1 } else { z with l:=z.l.tail++ [d],ac:=z.ac+1,dr:=z.dr+1 }).cap:Int)≤c.si
    repeat' split
    all_goals exact h2
  ·show bB (Aj m.x d)=kV m.y
   rw[← h3]
   cases hx:m.x <;> rfl
  ·show xSz (Aj m.x d)
   cases hx:m.x with
   |b z=>trivial
   |i z=>
    rw[hx] at h4
    show ∀y∈(if z.en=true∨256<d.size then z else if z.l.length<z.cap then { z with l:=z.l++ [d],ac:=z.ac+1 } else if z.st=0 then z else if z.st=1∨z.cap=0 then { z with ac:=z.ac+1,dr:=z.dr+1 } else { z with l:=z.l.tail++ [d],ac:=z.ac+1,dr:=z.dr+1 }).l,y.size≤256
    split
    ·exact h4
    ·rename_i hd
     have hd:d.size≤256:=by omega
     have ap:∀ {l:List ByteArray},(∀y∈l,y.size≤256)→∀y∈l++ [d],y.size≤256:=fun hl y hy=>by
      rcases List.mem_append.1 hy with hy|hy
      ·exact hl y hy
      ·rw[List.mem_singleton.1 hy];exact hd
     repeat' split
     ·exact ap h4
     ·exact h4
     ·exact h4
     ·exact ap fun y hy=>h4 y (List.mem_of_mem_tail hy)
 ·exact⟨h1,h2,h3,h4⟩
theorem Aeg (h:OS c g m):OS c g (AO m):=by
 obtain⟨h1,h2,h3,h4⟩:=h
 unfold AO
 split
 ·refine⟨h1,?_,?_,?_⟩
  ·show ZA c (JJ m.x)
   cases hx:m.x with
   |b z=>rw[hx] at h2;exact h2
   |i z=>rw[hx] at h2;exact h2
  ·show bB (JJ m.x)=kV m.y
   rw[← h3]
   cases hx:m.x <;> rfl
  ·show xSz (JJ m.x)
   cases hx:m.x with
   |b z=>trivial
   |i z=>rw[hx] at h4;exact h4
 ·exact⟨h1,h2,h3,h4⟩
theorem Vw {y:Ys} (h:OS c g m) (h1:Hf g y) (h2:kV y=kV m.y):OS c g { m with y:=y }:=⟨h1,h.x,h.ok.trans h2.symm,h.sz⟩
theorem Wm:bB (Az m d).x=bB m.x:=by
 unfold Az
 split
 ·show bB (Aj m.x d)=_
  cases m.x <;> rfl
 ·rfl
theorem Wl:bB (AO m).x=bB m.x:=by
 unfold AO
 split
 ·show bB (JJ m.x)=_
  cases m.x <;> rfl
 ·rfl
theorem Ajg:kb (Az m d)=kb m:=by
 unfold Az kb
 split
 ·show(if bB (Aj m.x d)=1 then gF m.y else 0)=_
  cases hx:m.x <;> rfl
 ·rfl
theorem Akw:kb (AO m)=kb m:=by
 unfold AO kb
 split
 ·show(if bB (JJ m.x)=1 then gF m.y else 0)=_
  cases hx:m.x <;> rfl
 ·rfl
theorem Afs {y:Ys} (h:Hf g y):Hf g (EE y n):=by cases y <;> exact h
theorem Aeu {y:Ys} (h:Hf g y):Hf g (Fw y):=by
 cases y with
 |b y=>exact h
 |i y=>unfold Fw;dsimp only;split <;> exact h
theorem Zp {y:Ys} (h:Hf g y):Hf g (Gq y n):=by
 cases y with
 |b y=>exact h
 |i y=>unfold Gq;dsimp only;split <;> exact h
theorem Wz (h:fV c s):fV c (qX id d s):=by
 unfold qX
 split
 ·exact cL h
 ·split
  ·rename_i m hm
   obtain⟨hi,hmid⟩:=bA hm
   rw[eE (id:=id) (Bo.trans hmid)]
   exact yC (s:=aD s) (cL h) hi Bo QY (Ahi (h.mo m (List.mem_of_getElem? hi))) (by rw[Ajg];exact Nat.le_refl _) Wm
  ·exact h
theorem Aex (h:fV c s):fV c (Cd id s):=by
 unfold Cd
 split
 ·exact cL h
 ·split
  ·rename_i m hm
   obtain⟨hi,hmid⟩:=bA hm
   rw[eE (id:=id) (Bb.trans hmid)]
   exact yC (s:=aD s) (cL h) hi Bb PD (Aeg (h.mo m (List.mem_of_getElem? hi))) (by rw[Akw];exact Nat.le_refl _) Wl
  ·exact h
theorem Alp (hk:bB m.x=kV m.y) (hE:Ox m.y=0):kb ({ m with y:=EE m.y n }:Sm)+(BZ m.y n).size=kb m:=by
 unfold kb
 cases hy:m.y with
 |b z=>
  rw[hy] at hk
  have hk:bB m.x=1:=hk
  have e:(BZ (.b z) n).size=min (Ny z n) z.bs.length:=by
   show((z.bs.take (Ny z n)).toArray).size=_
   simp
  simp only[if_pos hk,EE,gF,List.length_drop]
  rw[e];omega
 |i z=>rw[hy] at hE;cases hE
theorem Abr (hI:bU B s) (h:fV c s):fV c (wF id n s):=by
 unfold wF
 split
 ·exact cL h
 ·split
  ·rename_i m hm
   obtain⟨hi,hmid⟩:=bA hm
   split
   ·exact cL h
   ·rename_i hE
    have hE:Ox m.y=0:=by simpa using hE
    have hmo:=h.mo m (List.mem_of_getElem? hi)
    rw[eE (id:=id) (show({ m with y:=EE m.y n }:Sm).id=id from hmid)]
    have hI2:bU B { ({ aD s with rv:=fY s.rv ((BZ m.y n).size:Nat) }:Cn) with l:=s.l.set (b7 id s.l) { m with y:=EE m.y n } }:=lI (s:= { aD s with rv:=fY s.rv ((BZ m.y n).size:Nat) }) (pI (bG hI)) hi rfl rfl (RY (hI.st m (List.mem_of_getElem? hi)))
    have hkb:=Alp (n:=n) hmo.ok hE
    have hset:=NF (m':= { m with y:=EE m.y n }) hi
    have hkp:=h.kp
    have h1:fV c { aD s with l:=s.l.set (b7 id s.l) { m with y:=EE m.y n } }:=yC (s:=aD s) (cL h) hi rfl rfl (Vw hmo (Afs hmo.y) Aiv) (by omega) rfl
    have h2:=LZ (s:= { aD s with l:=s.l.set (b7 id s.l) { m with y:=EE m.y n } }) (k:=((BZ m.y n).size:Nat)) h1 (by show _+s.rv.us+xT (s.l.set (b7 id s.l) { m with y:=EE m.y n })≤s.rv.got;omega) (by omega)
    exact DO hI2 { h2 with } (lN (m':= { m with y:=EE m.y n }) hm rfl)
  ·exact h
theorem Adp (hI:bU B s) (h:fV c s):fV c (wE id s):=by
 unfold wE
 split
 ·exact cL h
 ·split
  ·rename_i m hm
   obtain⟨hi,hmid⟩:=bA hm
   split
   ·exact cL h
   ·have hmo:=h.mo m (List.mem_of_getElem? hi)
    rw[eE (id:=id) (show({ m with y:=Fw m.y }:Sm).id=id from hmid)]
    have hI2:bU B { aD s with l:=s.l.set (b7 id s.l) { m with y:=Fw m.y } }:=lI (s:=aD s) (bG hI) hi rfl rfl (Tl (hI.st m (List.mem_of_getElem? hi)))
    refine DO hI2 (yC (s:=aD s) (cL h) hi rfl rfl (Vw hmo (Aeu hmo.y) Ain) ?_ rfl) (lN (m':= { m with y:=Fw m.y }) hm rfl)
    unfold kb
    have hok:=hmo.ok
    cases hy:m.y with
    |b z=>exact Nat.le_refl _
    |i z=>
     rw[hy] at hok
     have hok:bB m.x=2:=hok
     simp[hok]
  ·exact h
theorem Agk (h:fV c s):fV c (Ci id n s):=by
 unfold Ci
 split
 ·exact cL h
 ·split
  ·rename_i m hm
   obtain⟨hi,hmid⟩:=bA hm
   have hmo:=h.mo m (List.mem_of_getElem? hi)
   rw[eE (id:=id) (show({ m with y:=Gq m.y n }:Sm).id=id from hmid)]
   refine yC (s:=aD s) (cL h) hi rfl rfl (Vw hmo (Zp hmo.y) Zi) ?_ rfl
   unfold kb
   have hok:=hmo.ok
   cases hy:m.y with
   |b z=>exact Nat.le_refl _
   |i z=>
    rw[hy] at hok
    have hok:bB m.x=2:=hok
    simp[hok]
  ·exact h
theorem Ad6 (hI:bU B s) (h:fV c s):fV c (wC id on w xx s):=by
 unfold wC
 split
 ·exact cL h
 ·exact Vx (s:= { aD s with out:=zF (sK id on w xx) s.out }) (q6 (bG hI)) (Bp (cL h) ⟨rfl,(by show(3:Int)≠10;decide),(by show(3:Int)≠11;decide)⟩)
theorem Yh (hI:bU B s) (h:fV c s):fV c (qZ id n s):=by
 unfold qZ
 split
 ·exact cL h
 ·split
  ·rename_i m hm
   exact Ec (s:= { aD s with out:=zF (mE id n) s.out }) (q6 (bG hI)) (Bp (cL h) ⟨rfl,(by show(4:Int)≠10;decide),(by show(4:Int)≠11;decide)⟩) hm
  ·exact h
theorem Kg {z:Dr} {la:Int}:(FA z la).ov=z.ov:=by unfold FA;split <;> rfl
theorem Aj4 (h:fV c s):fV c (JI s):=by
 unfold JI
 split
 ·exact cL h
 ·exact { Bp (f:=E8 s.la 0) (cL h) ⟨rfl,(by show(9:Int)≠10;decide),(by show(9:Int)≠11;decide)⟩ with
   cl:=fun ho=>h.cl (by rw[← ho];exact Kg.symm) }
theorem ZL (h:fV c s):fV c (Cc t s):=by
 unfold Cc
 split
 ·exact cL h
 ·obtain⟨h1,h2⟩:=h.hg
  unfold NK at h1
  have hnf:=h.nf
  have e:(eF s.sh t).h=s.sh.h:=by unfold eF;split <;> rfl
  have eg:s.sh.g.w≤(eF s.sh t).g.w∧s.sh.g.st≤(eF s.sh t).g.st∧s.sh.g.it≤(eF s.sh t).g.it:=by
   unfold eF
   split
   ·simp only[M7];omega
   ·omega
  exact { Bp (f:=J6 (NE (rU s.sh) t)) (cL h) ⟨rfl,(by show(5:Int)≠10;decide),(by show(5:Int)≠11;decide)⟩ with
   mo:=fun m hm=>by
    obtain⟨q1,q2,q3,q4⟩:=h.mo m hm
    refine⟨?_,q2,q3,q4⟩
    show Hf (eF s.sh t).g m.y
    cases hy:m.y with
    |b y=>rw[hy] at q1;have:y.most≤s.sh.g.w:=q1;show y.most≤_;omega
    |i y=>rw[hy] at q1;have:y.mr≤s.sh.g.it:=q1;show y.mr≤_;omega
   hg:=by
    refine⟨?_,fun z hz=>?_⟩
    ·show NK (eF s.sh t).h (eF s.sh t).g
     rw[e];unfold NK;omega
    ·show NK z (eF s.sh t).g
     have hz:z∈(eF s.sh t).l:=hz
     by_cases hq:iJ s.sh t=0
     ·have el:(eF s.sh t).l=s.sh.l++ [t]:=by unfold eF;rw[if_pos hq]
      have eg2:(eF s.sh t).g=M7 s.sh.g t:=by unfold eF;rw[if_pos hq]
      rw[el] at hz
      rcases List.mem_append.1 hz with hz|hz
      ·have:=h2 z hz
       unfold NK at this ⊢;omega
      ·rw[List.mem_singleton.1 hz,eg2]
       unfold NK;simp only[M7];omega
     ·have el:eF s.sh t=s.sh:=by unfold eF;rw[if_neg hq]
      rw[el] at hz ⊢;exact h2 z hz
   nf:=by
    show(fO s false:Int)≤(eF s.sh t).g.st
    omega }
theorem ZF (h:fV c s):fV c (qC s):= { h with }
theorem Adm (hI:bU B s) (h:fV c s):fV c (sD kind sg on w xx s):=by
 unfold sD
 split
 ·exact cL h
 ·rename_i hE
  have hE:nE kind sg on w xx s=0:=by simpa using hE
  obtain⟨e1,e2,e3,e4,e5,e6,e7,e8,e9⟩:=CZ hE
  have h1:=Bp (f:=qE s.nx kind on w xx) (cL h) ⟨rfl,(by show(2:Int)≠10;decide),(by show(2:Int)≠11;decide)⟩
  exact Ve (s:= { aD s with nx:=s.nx+2,out:=zF (qE s.nx kind on w xx) s.out }) (It (q6 (f:=qE s.nx kind on w xx) (bG hI)) e5) { h1 with } (EZ hI e5) (show s.l.length<64 from MV hI (by omega)) ⟨by have:=hI.nx;omega,e5⟩ e1 (fun q=>by cases q)
theorem T5:(k7 m s).dr=s.dr:=by unfold k7;split <;> rfl
theorem XL (h:Ch s):Ch (qX id d s):=by
 unfold qX
 split
 ·exact h
 ·split <;> exact h
theorem Ahy (h:Ch s):Ch (Cd id s):=by
 unfold Cd
 split
 ·exact h
 ·split <;> exact h
theorem Aee (h:Ch s):Ch (wF id n s):=by
 unfold wF
 split
 ·exact h
 ·split
  ·split
   ·exact h
   ·exact MO (s:=s) h A8 fun ho=>by rw[T5];exact ho
  ·exact h
theorem ZZ (h:Ch s):Ch (wE id s):=by
 unfold wE
 split
 ·exact h
 ·split
  ·split
   ·exact h
   ·exact MO (s:=s) h A8 fun ho=>by rw[T5];exact ho
  ·exact h
theorem Agq (h:Ch s):Ch (Ci id n s):=by
 unfold Ci
 split
 ·exact h
 ·split <;> exact h
theorem Zo (h:Ch s):Ch (wC id on w xx s):=by unfold wC;split <;> exact h
theorem WB (h:Ch s):Ch (qZ id n s):=by
 unfold qZ
 split
 ·exact h
 ·split <;> exact h
theorem Aje (h:Ch s):Ch (JI s):=by
 unfold JI
 split
 ·exact h
 ·exact MO (s:=s) h rfl fun ho=>by show(FA s.dr s.la).ov=true;rw[Kg];exact ho
theorem Adj (h:Ch s):Ch (Cc t s):=by unfold Cc;split <;> exact h
theorem Ac0 (h:Ch s):Ch (qC s):=h
theorem ZY (h:Ch s):Ch (sD kind sg on w xx s):=by unfold sD;split <;> exact h
end
end Go.Proofs.YtifgibijcmppmaaGreat
