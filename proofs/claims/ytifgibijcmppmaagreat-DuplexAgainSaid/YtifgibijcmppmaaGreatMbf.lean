/- A part of the proof: lemmas; each with the conditions that it states. -/
import Derived.Test.YtifgibijcmppmaaGreatMbe
set_option linter.unusedVariables false
set_option linter.unusedSimpArgs false
namespace Go.Proofs.YtifgibijcmppmaaGreat
open Go Go.Proofs Go.Sl
set_option maxRecDepth 100000
set_option maxHeartbeats 40000000
attribute [local irreducible] aM fG cV bP aN aW aA dP dX aV dO pt ro eW star sep bH
attribute [local irreducible] mp Ec
section
variable {s:Cn} {B id n k code w o st:Int} {gone:Bool} {m m':Sm} {l:List Sm} {i:Nat} {c:Cf} {f:Fm} {g:eE} {t:eE}
theorem Aev {z:eJ} (h:Lu z) {j:Int} (hj:eN (yQ id z) j):eN z j∧j≠id:=by
 unfold yQ at hj
 split at hj
 ·rename_i hid
  have hw:=h.w id hid
  obtain⟨h1,h2,h3,h4,h5,h6⟩:=S4 (on:=(cZ id z).on) (xw:=(cZ id z).w) (all:=oV z (bZ id z.1)) hw (fun k hk=>(kF h.nd hk).1) (AG h.nd) (fun k hk=>⟨(h.w k (kF h.nd hk).1).1,MC h.w (fun k hk=>(kF h.nd hk).1) k hk⟩) h.kok h.nd h.w
  have hd:=Da (id:=id) (j:=j) h5
  unfold eN dR at hj
  rw[hd] at hj
  by_cases he:j=id
  ·rw[if_pos he] at hj;cases hj
  ·rw[if_neg he] at hj
   exact⟨(h1 j).1 hj,he⟩
 ·rename_i hid
  refine⟨hj,fun e=>hid ?_⟩
  rw[e] at hj;exact hj
theorem D1 {z:eJ} (hok:Qp z.1 z.2) (hnd:Ni z) {on:Int} {x:Bool} {j:Int} (hj:eN (pJ id on w x z) j):j=id∨eN z j:=by
 unfold pJ at hj
 rw[dN] at hj
 rcases hj with hj|hj
 ·exact .inl hj
 ·split at hj
  ·exact .inr (((Do (id:=id) (fun k hk=>(kF hnd hk).1) hok hnd).1 j).1 hj)
  ·exact .inr hj
theorem Tz {z:eJ} (h:Lu z):rK id z (z.1.length+1) 0=false:=by
 unfold rK
 rw[if_neg]
 intro hq
 have:=h.ky 0 hq
 omega
theorem Agz {z:eJ} (h:Lu z) {on:Int} {x:Bool} {j:Int} (hj:eN (jZ id on w x z) j):eN z j:=by
 unfold jZ at hj
 split at hj
 ·exact hj
 ·rename_i hE
  have hid:eN z id:=by
   cases hq:dR id z.1
   ·exact absurd (by unfold o6;rw[if_pos hq];decide) hE
   ·exact hq
  have fin:∀ {y:Int},y=id∨eN z y→eN z y:=fun hy=>hy.elim (fun e=>by rw[e];exact hid) fun q=>q
  split at hj
  ·rw[Tz h,if_neg Bool.false_ne_true] at hj
   exact fin (D1 h.kok h.nd hj)
  ·rename_i hkn
   split at hj
   ·rename_i hab
    have hon:eN z on:=by
     by_cases h0:on=0
     ·subst h0;rw[Tz h] at hab;cases hab
     ·cases hq:dR on z.1
      ·exact absurd (by unfold z7;rw[hq];simp[h0]) hkn
      ·exact hq
    rcases D1 (IC h.kok) (H8 h.nd) hj with hj|hj
    ·exact fin (.inl hj)
    ·unfold iE at hj
     rw[dN] at hj
     rcases hj with hj|hj
     ·rw[hj];exact hon
     ·exact hj
   ·exact fin (D1 h.kok h.nd hj)
theorem Aed {z:eJ} (h:Lu z) {on:Int} {x:Bool} {j:Int} (hj:eN (mH id on w x 64 z) j):j=id∨eN z j:=by
 unfold mH at hj
 split at hj
 ·exact .inr hj
 ·split at hj
  ·exact D1 h.kok h.nd hj
  ·exact D1 h.kok h.nd hj
theorem Ku {z:eJ} (h:Lu z):∀ {n:Nat} {lv:List Int},(∀y∈lv,eN z y)→∀y∈yN z n lv,eN z y
 |0,_,_,_,hy=>by cases hy
 |n+1,lv,hl,y,hy=>by
  unfold yN at hy
  split at hy
  ·cases hy
  ·rcases List.mem_append.1 hy with hy|hy
   ·exact hl y hy
   ·refine Ku h (n:=n) (lv:=Jt z lv) (fun q hq=>?_) y hy
    unfold Jt at hq
    exact(zD h.nd q (Av.1 hq)).1
theorem Aiz (hs:FY l) (hm:m∈l):b7 m.id l=some m:=by
 cases hq:b7 m.id l with
 |none=>exact absurd rfl (MN hs hq m hm)
 |some z=>
  obtain⟨h1,h2⟩:=aZ hq
  obtain⟨j,hj⟩:=List.getElem?_of_mem hm
  have hp:=hs.2
  obtain⟨a1,a2⟩:=List.getElem?_eq_some_iff.1 h1
  obtain⟨b1,b2⟩:=List.getElem?_eq_some_iff.1 hj
  rcases Nat.lt_trichotomy (cB m.id l) j with hlt|heq|hgt
  ·have:=List.pairwise_iff_getElem.1 hp _ _ a1 b1 hlt
   rw[a2,b2] at this;omega
  ·subst heq
   rw[a2] at b2;rw[b2]
  ·have:=List.pairwise_iff_getElem.1 hp _ _ b1 a1 hgt
   rw[a2,b2] at this;omega
theorem JP (hs:FY l) (hm:m∈l) (hne:m.id≠id) (hat:b7 id l=some m'):m∈l.eraseIdx (cB id l):=by
 obtain⟨h1,h2⟩:=aZ hat
 obtain⟨j,hj⟩:=List.getElem?_of_mem hm
 refine List.mem_eraseIdx_iff_getElem?.2 ⟨j,fun e=>?_,hj⟩
 rw[e,h1] at hj
 cases hj
 exact hne h2
theorem PT {z:Sm} (hs:FY l) (hat:b7 id l=some m') (hz:z∈l.eraseIdx (cB id l)):z.id≠id:=fun e=>by
 obtain⟨h1,h2⟩:=aZ hat
 obtain⟨i,hi,hy⟩:=List.mem_eraseIdx_iff_getElem?.1 hz
 obtain⟨a1,a2⟩:=List.getElem?_eq_some_iff.1 h1
 obtain⟨b1,b2⟩:=List.getElem?_eq_some_iff.1 hy
 rcases Nat.lt_trichotomy (cB id l) i with hlt|heq|hgt
 ·have:=List.pairwise_iff_getElem.1 hs.2 _ _ a1 b1 hlt
  rw[a2,b2] at this;omega
 ·exact hi heq.symm
 ·have:=List.pairwise_iff_getElem.1 hs.2 _ _ b1 a1 hgt
  rw[a2,b2] at this;omega
theorem S6 {z:Ld} (h:F1 B z) {j:Int}:(o9 j z.l).isSome=true↔j∈z.l.map gI.id:=by
 constructor
 ·intro hq
  obtain⟨e,he⟩:=Option.isSome_iff_exists.1 hq
  obtain⟨h1,h2⟩:=qX he
  exact List.mem_map.2 ⟨e,List.mem_of_getElem? h1,h2⟩
 ·intro hj
  obtain⟨e,he,hid⟩:=List.mem_map.1 hj
  cases hq:o9 j z.l with
  |some _=>rfl
  |none=>
   exfalso
   refine Rc (f:=gI.id) (t:=j) h.2.1 (fun e he hid=>?_) e he hid
   have:o9 j z.l=some e:=by
    unfold o9 nB
    rw[he]
    simp[hid]
   rw[hq] at this;cases this
theorem VZ {z:Ld} (h:F1 B z) {j:Int}:j∈(mV id z).l.map gI.id↔j∈z.l.map gI.id∧j≠id:=by
 unfold mV
 cases hq:o9 id z.l with
 |none=>
  rw[if_neg (by simp)]
  refine⟨fun hj=>⟨hj,fun e=>?_⟩,fun hj=>hj.1⟩
  rw[e] at hj
  have:=(S6 h).2 hj
  rw[hq] at this;cases this
 |some e=>
  obtain⟨h1,h2⟩:=qX hq
  rw[if_pos (show(some e).isSome=true from rfl)]
  show j∈(z.l.eraseIdx (nB id z.l)).map gI.id↔_
  obtain⟨a1,a2⟩:=List.getElem?_eq_some_iff.1 h1
  constructor
  ·intro hj
   obtain⟨y,hy,hid⟩:=List.mem_map.1 hj
   refine⟨List.mem_map.2 ⟨y,List.mem_of_mem_eraseIdx hy,hid⟩,fun e'=>?_⟩
   obtain⟨i,hi,hy2⟩:=List.mem_eraseIdx_iff_getElem?.1 hy
   obtain⟨b1,b2⟩:=List.getElem?_eq_some_iff.1 hy2
   rcases Nat.lt_trichotomy (nB id z.l) i with hlt|heq|hgt
   ·have:=List.pairwise_iff_getElem.1 h.2.1 _ _ a1 b1 hlt
    rw[a2,b2] at this;omega
   ·exact hi heq.symm
   ·have:=List.pairwise_iff_getElem.1 h.2.1 _ _ b1 a1 hgt
    rw[a2,b2] at this;omega
  ·intro hj
   obtain⟨y,hy,hid⟩:=List.mem_map.1 hj.1
   refine List.mem_map.2 ⟨y,?_,hid⟩
   obtain⟨i,hi⟩:=List.getElem?_of_mem hy
   refine List.mem_eraseIdx_iff_getElem?.2 ⟨i,fun e'=>?_,hi⟩
   rw[e',h1] at hi
   cases hi
   exact hj.2 (by rw[← hid];exact h2)
theorem Yc {z:Ld} (h:F1 B z) (ht:1≤id∧id≤2147483647) (hn:lQ n=true) (hno:id ∉ z.l.map gI.id) (hl:z.l.length<64) {j:Int}:j∈(kQ id n z).l.map gI.id↔j=id∨j∈z.l.map gI.id:=by
 have hq:¬(o9 id z.l).isSome=true:=fun q=>hno ((S6 h).1 q)
 unfold kQ
 rw[if_neg (by rw[hn];simp only[Bool.true_eq_false,false_or,not_or];exact⟨by omega,by omega,hq,by omega⟩)]
 show j∈(z.l.take (nB id z.l)++⟨id,n,0⟩::z.l.drop (nB id z.l)).map gI.id↔_
 conv=>rhs;rw[← List.take_append_drop (nB id z.l) z.l]
 simp only[List.map_append,List.map_cons,List.mem_append,List.mem_cons]
 constructor
 ·rintro(hj|hj|hj)
  ·exact .inr (.inl hj)
  ·exact .inl hj
  ·exact .inr (.inr hj)
 ·rintro(hj|hj|hj)
  ·exact .inr (.inl hj)
  ·exact .inl hj
  ·exact .inr (.inr hj)
theorem UV {l:List gI} {e e':gI} {i:Nat} (h:l[i]?=some e) (hid:e'.id=e.id):(l.set i e').map gI.id=l.map gI.id:=by
 rw[List.map_set,hid]
 exact jT i (by rw[List.getElem?_map,h];rfl)
theorem Nx {z:Ld} {b:Int}:(pB id b z).l.map gI.id=z.l.map gI.id:=by
 unfold pB
 split
 ·rfl
 ·split
  ·rename_i e he
   exact UV (qX he).1 rfl
  ·rfl
theorem Aeg {z:Ld} {a b:Int}:(sG a b z).l.map gI.id=z.l.map gI.id:=by
 unfold sG
 split
 ·rfl
 ·show(z.l.map _).map gI.id=_
  rw[List.map_map];rfl
theorem Vx {z:Ld} {k:Int}:(lO id k z).l.map gI.id=z.l.map gI.id:=by
 unfold lO
 split
 ·rfl
 ·split
  ·rename_i e he
   exact UV (qX he).1 rfl
  ·rfl
def kb (m:Sm):Nat:=if bB m.x=1 then hO m.y else 0
def xI (l:List Sm):Nat:=(l.map kb).sum
theorem LU (hi:l[i]?=some m):xI (l.set i m')+kb m=xI l+kb m':=by
 induction l generalizing i with
 |nil=>cases hi
 |cons q r ih=>
  cases i with
  |zero=>cases hi;simp[xI];omega
  |succ i=>
   have:=ih (i:=i) (by simpa using hi)
   simp only[xI,List.set_cons_succ,List.map_cons,List.sum_cons] at this ⊢
   omega
theorem KV (hi:l[i]?=some m):xI (l.eraseIdx i)+kb m=xI l:=by
 induction l generalizing i with
 |nil=>cases hi
 |cons q r ih=>
  cases i with
  |zero=>cases hi;simp[xI];omega
  |succ i=>
   have:=ih (i:=i) (by simpa using hi)
   simp only[xI,List.eraseIdx_cons_succ,List.map_cons,List.sum_cons] at this ⊢
   omega
theorem Ads {a b:List Sm}:xI (a++b)=xI a+xI b:=by simp[xI]
theorem Adh:xI (j0 m l)=kb m+xI l:=by
 have h:xI (j0 m l)=xI (l.take (cB m.id l))+(kb m+xI (l.drop (cB m.id l))):=by simp[xI,j0]
 have h2:xI l=xI (l.take (cB m.id l))+xI (l.drop (cB m.id l)):=by rw[← Ads,List.take_append_drop]
 omega
theorem TM {q:Sm→Sm} (h:∀m,kb (q m)=kb m):xI (l.map q)=xI l:=by
 unfold xI
 rw[List.map_map]
 congr 1
 exact List.map_congr_left fun m _=>h m
def Nj (a b:eE):Prop:=a.w≤b.w∧a.st≤b.st∧a.it≤b.it
def Hj (g:eE):Ys→Prop
 |.b y=>y.most≤g.w
 |.i y=>y.mr≤g.it
def ZN (c:Cf):Xs→Prop
 |.b x=>(x.cap:Int)≤c.sb
 |.i x=>(x.cap:Int)≤c.si
def xSz:Xs→Prop
 |.b _=>True
 |.i x=>∀d∈x.l,d.size≤256
structure P8 (c:Cf) (g:eE) (m:Sm):Prop where
 y:Hj g m.y
 x:ZN c m.x
 ok:bB m.x=kG m.y
 sz:xSz m.x
structure fR (c:Cf) (s:Cn):Prop where
 cfe:s.cf=c
 tn:∀id,eN s.tr id→∃m∈s.l,m.id=id
 fo:∀f∈s.out,l8 f=true∧f.ps.length=f.pn∧f.t≠10∧f.t≠11
 cl:s.dr.ov=true→s.l= []
 mo:∀m∈s.l,P8 c s.sh.g m
 hg:Nj s.sh.h s.sh.g∧∀t∈s.sh.l,Nj t s.sh.g
 nf:(fH s false:Int)≤s.sh.g.st
 kp:s.rv.us+xI s.l≤s.rv.got
 ls:s.last.size≤300
 lk:∀j,j∈s.ld.l.map gI.id↔∃m∈s.l,m.id=j∧bB m.x=1
theorem VE:((l.eraseIdx i).filter fun m=>m.own == false).length≤(l.filter fun m=>m.own == false).length:=((List.eraseIdx_sublist ..).filter _).length_le
theorem H4 (hI:bS B s) (h:fR c s) (hm:b7 id s.l=some m):fR c (lE id code gone s):=
 { h with
   tn:=fun j hj=>by
    obtain⟨h1,h2⟩:=Aev hI.tr hj
    obtain⟨z,hz,hzi⟩:=h.tn j h1
    exact⟨z,JP hI.sm hz (by rw[hzi];exact h2) hm,hzi⟩
   cl:=fun ho=>by
    show s.l.eraseIdx _= []
    rw[h.cl ho];rfl
   mo:=fun z hz=>h.mo z (List.mem_of_mem_eraseIdx hz)
   nf:=by
    have h1:=h.nf
    have h2:=VE (l:=s.l) (i:=cB id s.l)
    unfold fH at h1
    show(((s.l.eraseIdx (cB id s.l)).filter fun m=>m.own == false).length:Int)≤s.sh.g.st
    omega
   kp:=by
    have h1:=h.kp
    have h2:=KV (aZ hm).1
    show s.rv.us+xI (s.l.eraseIdx (cB id s.l))≤s.rv.got
    omega
   lk:=fun j=>by
    show j∈(mV id s.ld).l.map gI.id↔∃m∈s.l.eraseIdx (cB id s.l),m.id=j∧bB m.x=1
    rw[VZ hI.ld,h.lk]
    constructor
    ·rintro⟨⟨z,hz,hzi,hzk⟩,hne⟩
     exact⟨z,JP hI.sm hz (by rw[hzi];exact hne) hm,hzi,hzk⟩
    ·rintro⟨z,hz,hzi,hzk⟩
     refine⟨⟨z,List.mem_of_mem_eraseIdx hz,hzi,hzk⟩,fun e=>?_⟩
     have h1:=PT hI.sm hm hz
     rw[hzi] at h1;exact h1 e }
theorem Aft (hI:bS B s):(vE s).l= []:=(Ew (code:=s.dr.co) rfl hI).2
theorem G0 (hI:bS B s) (h:fR c s) {d:Dr} {q:ByteArray} (hq:q.size≤300):fR c (vE { s with dr:=d,last:=q }):=by
 have hI2:bS B { s with dr:=d,last:=q }:= { hI with }
 have e:=Aft hI2
 have h0:∀ {l:List Sm} {z:Cn} {e:Dr},z.l=l→bS B z→fR c { z with dr:=e }→fR c { qR d.co (l.map Sm.id) z with dr:=e }:=by
  intro l
  induction l with
  |nil=>intro z e _ _ hz;exact hz
  |cons m l ih=>
   intro z e hl hzI hz
   have hm:b7 m.id z.l=some m:=by rw[hl];exact EC
   exact ih (z:=lE m.id d.co false z) (En hl) (zE hzI hm) (H4 (s:= { z with dr:=e }) { hzI with } hz hm)
 have h1:=h0 (z:= { s with dr:=d,last:=q }) (e:=s.dr) rfl hI2 { h with ls:=hq }
 exact { h1 with
  fo:=fun f hf=>by cases hf
  cl:=fun _=>e }
theorem UT {n w:Int} (hw:0≤w):((rB n w).size:Int)≤w:=by
 unfold rB
 split
 ·show((0:Nat):Int)≤w;exact hw
 ·have:((⟨(wB n w).toArray⟩:ByteArray).size:Int)=((wB n w).length:Nat):=by simp[ByteArray.size]
  rw[this,sD];omega
theorem Af6 {l t f s:Int}:(BO l t f s).size≤9:=by
 have q1:=UT (n:=l) (w:=3) (by decide)
 have q2:=UT (n:=t) (w:=1) (by decide)
 have q3:=UT (n:=f) (w:=1) (by decide)
 have q4:=UT (n:=s) (w:=4) (by decide)
 unfold BO
 rw[ByteArray.size_append,ByteArray.size_append,ByteArray.size_append]
 omega
theorem Afy {la co:Int}:(Rn (EF la co)).size≤300:=by
 have e:(⟨(wB la 4++wB co 4).toArray⟩:ByteArray).size=8:=by
  have:(⟨(wB la 4++wB co 4).toArray⟩:ByteArray).size=(wB la 4++wB co 4).length:=by simp[ByteArray.size]
  rw[this,List.length_append,sD,sD];rfl
 refine Nat.le_trans (Nat.le_of_eq (ByteArray.size_append ..)) (Nat.le_trans (Nat.add_le_add Af6 (Nat.le_of_eq e)) (by decide))
theorem gQ (hI:bS B s) (h:fR c s):fR c (iJ w o s):=G0 hI h Afy
theorem UC {out:List Fm} (h:∀f∈out,l8 f=true∧f.ps.length=f.pn∧f.t≠10∧f.t≠11) (hf:f.ps.length=f.pn∧f.t≠10∧f.t≠11):∀z∈yZ f out,l8 z=true∧z.ps.length=z.pn∧z.t≠10∧z.t≠11:=by
 unfold yZ
 by_cases he:Ei f out≠0
 ·rw[if_pos he];exact h
 ·rw[if_neg he]
  have hc:l8 f=true:=by
   cases hq:l8 f
   ·exact absurd (by unfold Ei;rw[if_pos hq];decide) he
   ·rfl
  cases hy:out[uA f out]? with
  |none=>
   intro z hz
   rcases List.mem_append.1 hz with hz|hz
   ·exact h z hz
   ·rw[List.mem_singleton.1 hz]
    exact⟨hc,hf⟩
  |some y=>
   exfalso
   obtain⟨y2,h2,h3⟩:=M5 (List.getElem?_eq_some_iff.1 hy).1
   unfold qU at h3
   simp only[Bool.and_eq_true,Bool.or_eq_true,decide_eq_true_eq] at h3
   rcases h3.1.1.1 with h4|h4
   ·exact hf.2.1 h4
   ·exact hf.2.2 h4
theorem A7 (h:fR c s) (hf:f.ps.length=f.pn∧f.t≠10∧f.t≠11):fR c { s with out:=yZ f s.out }:= { h with fo:=UC h.fo hf }
theorem Dp (hI:bS B s) (h:fR c s) (hf:f.ps.length=f.pn∧f.t≠10∧f.t≠11):fR c (tO f s):=by
 unfold tO
 split
 ·exact A7 h hf
 ·exact gQ hI h
theorem Dm (hI:bS B s) (h:fR c s) (hm:b7 id s.l=some m):fR c (sB m code s):=by
 obtain⟨hi,h2⟩:=aZ hm
 have h1:b7 m.id s.l=some m:=by rw[h2];exact hm
 have hk:=h.kp
 have he:=KV hi
 have hr:=hI.rv
 unfold I3 at hr
 have hd:=H4 (s:=s) (gone:=false) (code:=code) hI h h1
 refine { hd with kp:=?_ }
 show(fT s.rv (if bB m.x=1 then(hO m.y:Nat) else 0)).us+xI (s.l.eraseIdx (cB m.id s.l))≤(fT s.rv (if bB m.x=1 then(hO m.y:Nat) else 0)).got
 rw[h2]
 have hkb:kb m=if bB m.x=1 then hO m.y else 0:=rfl
 unfold fT
 by_cases hx:bB m.x=1
 ·rw[if_pos hx] at hkb
  simp only[if_pos hx]
  split
  ·dsimp only;omega
  ·omega
 ·rw[if_neg hx] at hkb
  simp only[if_neg hx]
  split
  ·dsimp only;omega
  ·omega
theorem p6 (hI:bS B s) (h:fR c s):fR c (kA w st s):=by
 unfold kA
 split
 ·exact gQ hI h
 ·cases hm:b7 st s.l with
  |none=>exact Dp hI h ⟨rfl,by show(4:Int)≠10;decide,by show(4:Int)≠11;decide⟩
  |some m=>exact Dp (rS hI hm) (Dm hI h hm) ⟨rfl,by show(4:Int)≠10;decide,by show(4:Int)≠11;decide⟩
theorem D7 (hI:bS B s) (h:fR c s) (hm:b7 m.id s.l=some m):fR c (kP m s):=by
 unfold kP
 split
 ·exact H4 hI h hm
 ·exact h
theorem KB {j:Int} (hi:l[i]?=some m) (hid:m'.id=m.id) (hx:bB m'.x=bB m.x):(∃m∈l,m.id=j∧bB m.x=1)↔∃z∈l.set i m',z.id=j∧bB z.x=1:=by
 have e:(l.set i m').map (fun z=>(z.id,bB z.x))=l.map fun z=>(z.id,bB z.x):=by
  rw[List.map_set,hid,hx]
  exact jT i (by rw[List.getElem?_map,hi];rfl)
 have q:∀l:List Sm,(∃m∈l,m.id=j∧bB m.x=1)↔(j,(1:Int))∈l.map fun z=>(z.id,bB z.x):=fun l=>by
  simp only[List.mem_map,Prod.mk.injEq]
 rw[q,q,e]
theorem xJ (h:fR c s) (hi:s.l[i]?=some m) (hid:m'.id=m.id) (ho:m'.own=m.own) (hm:P8 c s.sh.g m') (hk:kb m'≤kb m) (hx:bB m'.x=bB m.x):fR c { s with l:=s.l.set i m' }:=
 { h with
   tn:=fun j hj=>by
    obtain⟨z,hz,hzi⟩:=h.tn j hj
    have e:=Cz (m':=m') hi hid
    have h1:j∈(s.l.set i m').map Sm.id:=by rw[e,← hzi];exact List.mem_map_of_mem hz
    obtain⟨z',hz',e'⟩:=List.mem_map.1 h1
    exact⟨z',hz',e'⟩
   cl:=fun ho=>by
    have:=h.cl ho
    rw[this] at hi;cases hi
   mo:=fun z hz=>by
    rcases List.mem_or_eq_of_mem_set hz with hz|rfl
    ·exact h.mo z hz
    ·exact hm
   nf:=by
    have h1:=h.nf
    unfold fH at h1
    show(((s.l.set i m').filter fun m=>m.own == false).length:Int)≤s.sh.g.st
    rw[M8 hi ho];exact h1
   kp:=by
    have h1:=h.kp
    have h2:=LU (m':=m') hi
    show s.rv.us+xI (s.l.set i m')≤s.rv.got
    omega
   lk:=fun j=>(h.lk j).trans (KB hi hid hx) }
theorem Mw (h:fR c s) (hk:k+s.rv.us+xI s.l≤s.rv.got) (h0:0≤k):fR c { s with rv:=fT s.rv k }:=
 { h with
   kp:=by
    show(fT s.rv k).us+xI s.l≤(fT s.rv k).got
    unfold fT
    split
    ·dsimp only;omega
    ·omega }
end
section
variable {s:Cn} {B id n k code w o st kind on sg:Int} {gone own xx:Bool} {m m':Sm} {l:List Sm} {i:Nat} {c:Cf} {f:Fm} {g:eE} {t:eE} {u:List UInt8}
theorem Aeq {d:ByteArray} {e:Bool} {tt:Int} (hk:bB m.x=kG m.y) (hw:f3 m tt d e=0):(kb (fE m d e):Int)≤kb m+(if tt=0 then(d.size:Int) else 0):=by
 have ht:tt=bB m.x - 1:=by
  by_cases h:tt=bB m.x - 1
  ·exact h
  ·unfold f3 at hw
   rw[if_pos h] at hw;cases hw
 unfold kb fE
 by_cases hx:bB m.x=1
 ·simp only[if_pos hx]
  cases hy:m.y with
  |b y=>
   have:d.data.toList.length=d.size:=Array.length_toList
   simp only[BZ,hO,List.length_append]
   rw[if_pos (by omega)]
   omega
  |i y=>rw[hy,hx] at hk;cases hk
 ·simp only[if_neg hx]
  split <;> omega
theorem Aax {d:ByteArray} {e:Bool} (h:P8 c g m):P8 c g (fE m d e):=by
 obtain⟨h1,h2,h3,h4⟩:=h
 refine⟨?_,h2,?_,h4⟩
 ·show Hj g (BZ m.y d e)
  cases hy:m.y with
  |b y=>rw[hy] at h1;exact h1
  |i y=>
   rw[hy] at h1
   show(if d≠⟨#[]⟩∨e=false then({ y with op:=y.op - 1,l:=y.l++ [d],ac:=y.ac+1,en:=e }:YI) else { y with en:=true }).mr≤g.it
   split <;> exact h1
 ·show bB m.x=kG (BZ m.y d e)
  cases hy:m.y with
  |b y=>rw[hy] at h3;exact h3
  |i y=>rw[hy] at h3;exact h3
theorem Acm (hI:bS B s) (h:fR c s) (hB:B+300≤250000000) (hd:f.d.size≤256):fR c (uC f s):=by
 have hk:0≤(if f.t=0 then((f.d.size:Nat):Int) else 0)∧(if f.t=0 then((f.d.size:Nat):Int) else 0)≤300:=by split <;> omega
 have hkp:=h.kp
 unfold uC
 cases hm:b7 f.st s.l with
 |none=>
  dsimp only
  generalize (if f.t=0 then((f.d.size:Nat):Int) else 0)=kk at hk ⊢
  by_cases hg:kS s.rv kk=0
  ·rw[if_neg (fun q=>q hg)]
   have e:fX s.rv kk= { s.rv with got:=s.rv.got+kk }:=if_pos hg
   rw[e]
   exact Mw (s:= { s with rv:= { s.rv with got:=s.rv.got+kk } }) { h with kp:=by show s.rv.us+xI s.l≤s.rv.got+kk;omega } (by show kk+s.rv.us+xI s.l≤s.rv.got+kk;omega) hk.1
  ·rw[if_pos hg];exact gQ hI h
 |some m=>
  obtain⟨hi,hmid⟩:=aZ hm
  dsimp only
  by_cases hw:f3 m f.t f.d f.e=0
  ·have hkc:=Aeq (h.mo m (List.mem_of_getElem? hi)).ok hw
   generalize (if f.t=0 then((f.d.size:Nat):Int) else 0)=kk at hk hkc ⊢
   generalize (if f.t=1∧(f.d≠⟨#[]⟩∨f.e=false) then(1:Int) else kk)=nn
   by_cases hg:kS s.rv kk=0
   ·rw[if_neg (fun q=>q hg),if_neg (fun q=>q hw),eB (id:=f.st) (show(fE m f.d f.e).id=f.st from hmid)]
    have e:fX s.rv kk= { s.rv with got:=s.rv.got+kk }:=if_pos hg
    have hI2:=wN (mv:=⟨2,f.st,nn,f.d,f.e⟩) (e:=f.e) hI hm hk hB hd
    have hS:fR c { s with l:=s.l.set (cB f.st s.l) m }:=by
     rw[jT _ hi];exact h
    refine D7 hI2 ?_ (lN hm rfl)
    have hset:=LU (m':=fE m f.d f.e) hi
    have hb:fR c { s with l:=s.l.set (cB f.st s.l) (fE m f.d f.e),rv:= { s.rv with got:=s.rv.got+kk } }:= {
     cfe:=h.cfe,fo:=h.fo,hg:=h.hg,ls:=h.ls
     tn:=fun j hj=>by
      obtain⟨z,hz,hzi⟩:=h.tn j hj
      have e:=Cz (m':=fE m f.d f.e) hi rfl
      have h1:j∈(s.l.set (cB f.st s.l) (fE m f.d f.e)).map Sm.id:=by rw[e,← hzi];exact List.mem_map_of_mem hz
      obtain⟨z',hz',e'⟩:=List.mem_map.1 h1
      exact⟨z',hz',e'⟩
     cl:=fun ho=>by
      have:=h.cl ho
      rw[this] at hi;cases hi
     mo:=fun z hz=>by
      rcases List.mem_or_eq_of_mem_set hz with hz|rfl
      ·exact h.mo z hz
      ·exact Aax (h.mo m (List.mem_of_getElem? hi))
     nf:=by
      have h1:=h.nf
      unfold fH at h1
      show(((s.l.set (cB f.st s.l) (fE m f.d f.e)).filter fun m=>m.own == false).length:Int)≤s.sh.g.st
      rw[M8 (m':=fE m f.d f.e) hi rfl];exact h1
     kp:=by
      show s.rv.us+xI (s.l.set (cB f.st s.l) (fE m f.d f.e))≤s.rv.got+kk
      omega
     lk:=fun j=>(h.lk j).trans (KB (m':=fE m f.d f.e) hi rfl rfl) }
    rw[e]
    exact { hb with }
   ·rw[if_pos hg];exact gQ hI h
  ·generalize (if f.t=0 then((f.d.size:Nat):Int) else 0)=kk at hk ⊢
   by_cases hg:kS s.rv kk=0
   ·rw[if_neg (fun q=>q hg),if_pos hw]
    refine p6 (oM (Bo hI hk hB)) ?_
    have e:fX s.rv kk= { s.rv with got:=s.rv.got+kk }:=if_pos hg
    rw[e]
    exact Mw (s:= { s with rv:= { s.rv with got:=s.rv.got+kk } }) { h with kp:=by show s.rv.us+xI s.l≤s.rv.got+kk;omega } (by show kk+s.rv.us+xI s.l≤s.rv.got+kk;omega) hk.1
   ·rw[if_pos hg];exact gQ hI h
theorem SF {cf:Cf} {h:eE}:(gJ cf h id kind sg own).id=id:=by unfold gJ;split <;> rfl
theorem Adg {cf:Cf} {h:eE}:(gJ cf h id kind sg own).own=own:=by unfold gJ;split <;> rfl
theorem Pn {z:Sm} (h:z∈l):z∈j0 m l:=by
 unfold j0
 rw[← List.take_append_drop (cB m.id l) l] at h
 rcases List.mem_append.1 h with h|h
 ·exact List.mem_append_left _ h
 ·exact List.mem_append_right _ (List.mem_cons_of_mem _ h)
theorem Oj:m∈j0 m l:=List.mem_append_right _ (List.mem_cons_self ..)
theorem OS {cf:Cf} {h:eE}:bB (gJ cf h id kind sg own).x=1↔kind=1:=by
 unfold gJ
 split
 ·rename_i hk;exact⟨fun _=>hk,fun _=>rfl⟩
 ·rename_i hk;exact⟨fun q=>absurd (show(2:Int)=1 from q) (by decide),fun q=>absurd q hk⟩
theorem Aff (hI:bS B s) (h:fR c s):s.ld.l.length≤s.l.length:=by
 have hn:(s.ld.l.map gI.id).Nodup:=by
  have:(s.ld.l.map gI.id).Pairwise (·<·):=List.pairwise_map.2 hI.ld.2.1
  exact this.imp fun hab e=>by omega
 have h1:=List.Nodup.length_le_of_subset (l₂:=s.l.map Sm.id) hn fun j hj=>by
  obtain⟨m,hm,hid,_⟩:=(h.lk j).1 hj
  exact List.mem_map.2 ⟨m,hm,hid⟩
 rwa[List.length_map,List.length_map] at h1
theorem UP (hI:bS B s) (h:fR c s) (hat:b7 id s.l=none) (hl:s.l.length<64) (hid:1≤id∧id≤2147483647) (ho:s.dr.ov=false) (hn:own=false→(fH s false:Int)<s.sh.h.st):fR c (Hl id kind on w xx own sg s):=
 { h with
   tn:=fun j hj=>by
    rcases Aed hI.tr hj with hj|hj
    ·exact⟨_,Oj,by rw[SF];exact hj.symm⟩
    ·obtain⟨z,hz,hzi⟩:=h.tn j hj
     exact⟨z,Pn hz,hzi⟩
   cl:=fun hq=>by
    have hq:s.dr.ov=true:=hq
    rw[ho] at hq;cases hq
   mo:=fun z hz=>by
    rcases AW hz with rfl|hz
    ·have h1:=h.hg.1
     have h2:=hI.cf
     have h3:=h.cfe
     unfold Nj at h1
     unfold gJ
     split
     ·refine⟨h1.1,?_,rfl,trivial⟩
      show((s.cf.sb.toNat:Nat):Int)≤c.sb
      rw[← h3];omega
     ·refine⟨h1.2.2,?_,rfl,fun d hd=>by cases hd⟩
      show((s.cf.si.toNat:Nat):Int)≤c.si
      rw[← h3];omega
    ·exact h.mo z hz
   nf:=by
    have h1:=h.nf
    have h2:=h.hg.1
    unfold Nj at h2
    show(((j0 (gJ s.cf s.sh.h id kind sg own) s.l).filter fun m=>m.own == false).length:Int)≤s.sh.g.st
    rw[UY,Adg]
    unfold fH at h1 hn
    split
    ·rename_i hb
     have hb:own=false:=by simpa using hb
     have:=hn hb
     omega
    ·omega
   kp:=by
    have h1:=h.kp
    have h2:kb (gJ s.cf s.sh.h id kind sg own)=0:=by
     unfold gJ
     split
     ·rfl
     ·rfl
    show s.rv.us+xI (j0 (gJ s.cf s.sh.h id kind sg own) s.l)≤s.rv.got
    rw[Adh,h2];omega
   lk:=fun j=>by
    have hno:=MN hI.sm hat
    have hnl:id ∉ s.ld.l.map gI.id:=fun q=>by
     obtain⟨z,hz,hzi,_⟩:=(h.lk id).1 q
     exact hno z hz hzi
    have hlen:=Aff hI h
    have hput:(∃m∈j0 (gJ s.cf s.sh.h id kind sg own) s.l,m.id=j∧bB m.x=1)↔(j=id∧kind=1)∨∃m∈s.l,m.id=j∧bB m.x=1:=by
     constructor
     ·rintro⟨z,hz,hzi,hzk⟩
      rcases AW hz with rfl|hz
      ·exact .inl ⟨by rw[← hzi,SF],OS.1 hzk⟩
      ·exact .inr ⟨z,hz,hzi,hzk⟩
     ·rintro(⟨rfl,hk⟩|⟨z,hz,hzi,hzk⟩)
      ·exact⟨_,Oj,SF,OS.2 hk⟩
      ·exact⟨z,Pn hz,hzi,hzk⟩
    show j∈(if kind=1 then kQ id s.pe.w s.ld else s.ld).l.map gI.id↔∃m∈j0 (gJ s.cf s.sh.h id kind sg own) s.l,m.id=j∧bB m.x=1
    rw[hput,← h.lk]
    by_cases hk:kind=1
    ·rw[if_pos hk,Yc hI.ld hid (Acd hI.pe.1) hnl (by omega)]
     simp[hk]
    ·rw[if_neg hk]
     simp[hk] }
theorem S1 (hI:bS B s) (h:fR c s) (hB:B+300≤250000000):fR c (o7 f s):=by
 have hm:=hI.mono (B':=B+300) (by omega) hB
 unfold o7
 by_cases hp:oJ s.sd s.la f.st=0
 ·rw[if_neg (fun q=>q hp)]
  have Jd:=Iq hm hp
  have h1:fR c { s with la:=f.st }:= { h with }
  split
  ·exact gQ Jd h1
  ·split
   ·exact p6 Jd h1
   ·rename_i hdt
    split
    ·exact p6 Jd h1
    ·rename_i ho
     have hov:s.dr.ov=false:=by
      cases hq:s.dr.ov
      ·rfl
      ·exact absurd (by unfold DY;rw[hq];rfl) hdt
     have h2:=UP (id:=f.st) (kind:=f.k) (on:=f.on) (w:=f.w) (xx:=f.x) (sg:=s.cf.sg) (own:=false) Jd h1 (show b7 f.st s.l=none from Ex hI hp) (show s.l.length<64 from(IG hI ho).1) (pZ hI.sd hp).1 hov (fun _=>by show(fH s false:Int)<s.sh.h.st;omega)
     exact { h2 with }
 ·rw[if_pos hp];exact gQ hm h
theorem Aaz {n:Int} (h:P8 c g m):P8 c g { m with x:=oT m.x n }:=by
 obtain⟨h1,h2,h3,h4⟩:=h
 refine⟨h1,?_,by show bB (oT m.x n)=kG m.y;rw[Gc];exact h3,?_⟩
 ·show ZN c (oT m.x n)
  cases hx:m.x with
  |b z=>rw[hx] at h2;exact h2
  |i z=>
   rw[hx] at h2
   show((if 1≤n then { z with w:=z.w+min n (2147483647 - z.w) } else z).cap:Int)≤c.si
   split <;> exact h2
 ·show xSz (oT m.x n)
  cases hx:m.x with
  |b z=>trivial
  |i z=>
   rw[hx] at h4
   show ∀d∈(if 1≤n then { z with w:=z.w+min n (2147483647 - z.w) } else z).l,d.size≤256
   split <;> exact h4
theorem Qa (hI:bS B s) (h:fR c s) (hm:b7 f.st s.l=some m):fR c (lV f m s):=by
 obtain⟨hi,hmid⟩:=aZ hm
 unfold lV
 split
 ·exact p6 hI h
 ·split
  ·exact p6 hI h
  ·split
   ·split
    ·exact p6 hI h
    ·exact { h with lk:=fun j=>by show j∈(pB f.st f.n s.ld).l.map gI.id↔_;rw[Nx];exact h.lk j }
   ·split
    ·exact p6 hI h
    ·rw[eB (id:=f.st) (show({ m with x:=oT m.x f.n }:Sm).id=f.st from hmid)]
     refine xJ (s:= { s with sl:=iF s.sl s.now }) { h with } hi rfl rfl (Aaz (h.mo m (List.mem_of_getElem? hi))) ?_ ?_
     ·unfold kb
      show(if bB (oT m.x f.n)=1 then hO m.y else 0)≤_
      rw[Gc];exact Nat.le_refl _
     ·exact Gc
theorem W0 (hI:bS B s) (h:fR c s):fR c (s4 f s):=by
 unfold s4
 split
 ·exact gQ hI h
 ·split
  ·exact gQ hI h
  ·exact { h with lk:=fun j=>by show j∈(pB 0 f.n s.ld).l.map gI.id↔_;rw[Nx];exact h.lk j }
theorem YU (hI:bS B s) (h:fR c s):fR c (x6 f s):=by
 unfold x6
 cases hp:XC s.pe f.ps with
 |none=>exact gQ hI h
 |some t=>
  dsimp only
  split
  ·exact gQ hI h
  ·exact Dp (MO hI (LD hI.pe hp) (Mg hI.ld)) { h with lk:=fun j=>by show j∈(sG s.pe.w t.w s.ld).l.map gI.id↔_;rw[Aeg];exact h.lk j } ⟨rfl,by show(6:Int)≠10;decide,by show(6:Int)≠11;decide⟩
theorem Adu {q:eE} (hq:Nj q g) (h:P8 c g m):P8 c g { m with y:=C9 m.y q }:=by
 obtain⟨h1,h2,h3,h4⟩:=h
 unfold Nj at hq
 refine⟨?_,h2,by show bB m.x=kG (C9 m.y q);rw[Zj];exact h3,h4⟩
 show Hj g (C9 m.y q)
 cases hy:m.y with
 |b z=>rw[hy] at h1;show max z.most q.w≤g.w;have:z.most≤g.w:=h1;omega
 |i z=>rw[hy] at h1;show max z.mr q.it≤g.it;have:z.mr≤g.it:=h1;omega
theorem Kw {j:Int} {q:Sm→Sm} (h1:∀m,(q m).id=m.id) (h2:∀m,bB (q m).x=bB m.x):(∃m∈l,m.id=j∧bB m.x=1)↔∃z∈l.map q,z.id=j∧bB z.x=1:=by
 constructor
 ·rintro⟨z,hz,hzi,hzk⟩
  exact⟨q z,List.mem_map_of_mem hz,by rw[h1];exact hzi,by rw[h2];exact hzk⟩
 ·rintro⟨z,hz,hzi,hzk⟩
  obtain⟨y,hy,rfl⟩:=List.mem_map.1 hz
  exact⟨y,hy,by rw[← h1];exact hzi,by rw[← h2];exact hzk⟩
theorem V8 (hI:bS B s) (h:fR c s):fR c (sV s):=by
 unfold sV
 split
 ·exact gQ hI h
 ·rename_i hE
  obtain⟨hg1,hg2⟩:=h.hg
  have hg:Nj (dA s.sh).h (dA s.sh).g∧∀t∈(dA s.sh).l,Nj t (dA s.sh).g:=by
   unfold dA
   cases hl:s.sh.l with
   |nil=>exact⟨hg1,hg2⟩
   |cons q r=>
    rw[hl] at hg2
    exact⟨hg2 q (List.mem_cons_self ..),fun z hz=>hg2 z (List.mem_cons_of_mem _ hz)⟩
  have e:(dA s.sh).g=s.sh.g:=by
   unfold dA
   cases s.sh.l <;> rfl
  have hkb:∀m:Sm,kb ({ m with y:=C9 m.y (dA s.sh).h }:Sm)=kb m:=fun m=>by
   unfold kb
   cases hy:m.y <;> rfl
  exact { h with
   tn:=fun j hj=>by
    obtain⟨z,hz,hzi⟩:=h.tn j hj
    exact⟨_,List.mem_map_of_mem hz,hzi⟩
   cl:=fun ho=>by
    show s.l.map _= []
    rw[h.cl ho];rfl
   mo:=fun z hz=>by
    obtain⟨m,hm,rfl⟩:=List.mem_map.1 hz
    show P8 c (dA s.sh).g _
    have h1:=h.mo m hm
    rw[← e] at h1
    exact Adu hg.1 h1
   hg:=hg
   nf:=by
    have h1:=h.nf
    unfold fH at h1
    show(((s.l.map fun m=>({ m with y:=C9 m.y (dA s.sh).h }:Sm)).filter fun m=>m.own == false).length:Int)≤(dA s.sh).g.st
    rw[m7,List.map_map,e]
    rw[m7] at h1
    exact h1
   kp:=by
    have h1:=h.kp
    show s.rv.us+xI (s.l.map fun m=>({ m with y:=C9 m.y (dA s.sh).h }:Sm))≤s.rv.got
    rw[TM hkb];exact h1
   lk:=fun j=>(h.lk j).trans (Kw (q:=fun m=> { m with y:=C9 m.y (dA s.sh).h }) (fun _=>rfl) fun _=>rfl) }
theorem Hq:∀ {l acc:List Sm} {s:Cn},s.l=acc++l→bS B s→fR c s→fR c (nL (l.map Sm.id) s)
 | [],acc,s,he,_,h=>h
 |m::l,acc,s,he,hI,h=>by
  have hlt:=Q6 (by rw[← he];exact hI.sm)
  have hm:b7 m.id s.l=some m:=by rw[he];exact Hw hlt
  rw[List.map_cons,Kc hm]
  split
  ·refine Hq (l:=l) (acc:=acc) ?_ (rS hI hm) (Dm hI h hm)
   show s.l.eraseIdx (cB m.id s.l)=acc++l
   rw[he];exact EU hlt
  ·exact Hq (l:=l) (acc:=acc++ [m]) (by rw[he];simp) hI h
theorem Abg {d:Dr} {la co:Int} (h:d.ov=true):(o4 d la co).ov=true:=by
 unfold o4
 split
 ·exact h
 ·split
  ·rfl
  ·exact h
theorem Aah (hI:bS B s) (h:fR c s):fR c (yA f s):=by
 unfold yA
 split
 ·exact G0 (q:=s.last) hI h h.ls
 ·rename_i hov
  have ho:s.dr.ov=false:=by
   cases hq:s.dr.ov
   ·rfl
   ·exact absurd (Abg hq) hov
  refine Hq (acc:= []) rfl (Eu hI) ?_
  exact { h with cl:=fun hq=>absurd hq hov }
theorem Ts {id on w:Int} {xx:Bool} (hI:bS B s) (h:fR c s):fR c { s with tr:=jZ id on w xx s.tr }:= { h with tn:=fun j hj=>h.tn j (Agz hI.tr hj) }
theorem WO (hI:bS B s) (h:fR c s):fR c (j7 f s):=by
 unfold j7
 split
 ·exact gQ hI h
 ·cases hm:b7 f.st s.l with
  |none=>exact h
  |some m=>
   dsimp only
   split
   ·exact Ts hI h
   ·split
    ·exact Dm hI h hm
    ·exact Qa hI h hm
theorem SO (hI:bS B s) (h:fR c s) (hB:B+300≤250000000) (hr:cX f):fR c (bQ f s):=by
 have hh:=gT hI
 have hk:fR c { s with bt:=bN s.bt s.now }:= { h with }
 have hm:=hh.mono (B':=B+300) (by omega) hB
 unfold bQ fP
 split
 ·exact YU hm hk
 ·split
  ·exact V8 hm hk
  ·split
   ·exact Dp hm hk ⟨rfl,by show(8:Int)≠10;decide,by show(8:Int)≠11;decide⟩
   ·split
    ·exact { hk with }
    ·split
     ·exact Aah hm hk
     ·split
      ·exact S1 hh hk hB
      ·split
       ·exact W0 hm hk
       ·split
        ·exact gQ hm hk
        ·split
         ·rename_i ht
          exact Acm hh hk hB (hr.2.2.2.2.2.2.2.2.2.2.2.2.1 (by omega))
         ·exact WO hm hk
theorem Fs:∀ {fs:List Fm} {s:Cn} {B:Int},bS B s→fR c s→(∀f∈fs,cX f)→B+300 * fs.length≤250000000→fR c (d4 fs s)
 | [],s,B,_,h,_,hB=>h
 |f::r,s,B,hI,h,hr,hB=>by
  have e:(f::r).length=r.length+1:=rfl
  rw[e] at hB
  have h1:=Cx hI (by omega) (hr f (List.mem_cons_self ..))
  have h2:=SO hI h (by omega) (hr f (List.mem_cons_self ..))
  unfold d4
  split
  ·exact h2
  ·exact Fs h1 h2 (fun z hz=>hr z (List.mem_cons_of_mem _ hz)) (by omega)
theorem Aaw {bs:List UInt8} (h:(pF bs).2.2=0):(pF bs).2.1.length≤265:=by
 have h1:=(T3 bs.length bs (Nat.le_refl _)).1
 rw[h] at h1
 rw[← pI]
 unfold Dk at h1
 split at h1
 ·omega
 ·split at h1
  ·split at h1
   ·rename_i hf
    have:=(LH hf).2
    split at h1
    ·omega
    ·split at h1
     ·cases h1
     ·rename_i hg;exact absurd (Option.some.inj h1) hg
   ·rename_i hf;exact absurd (Option.some.inj h1) hf
  ·cases h1
def pE (s:Cn):Int×List UInt8:=(s.ine,s.inb)
theorem PP:∀ {l:List Int} {s:Cn},pE (qR code l s)=pE s
 | [],_=>rfl
 |a::l,s=>PP (l:=l) (s:=lE a code false s)
theorem OR:pE (vE s)=pE s:=PP (code:=s.dr.co) (l:=s.l.map Sm.id) (s:=s)
theorem jF:pE (iJ w o s)=pE s:=OR
theorem My:pE (tO f s)=pE s:=by
 unfold tO
 split
 ·rfl
 ·exact jF
theorem tZ:pE (kA w st s)=pE s:=by
 unfold kA
 split
 ·exact jF
 ·rw[My]
  split
  ·rfl
  ·rfl
theorem AM:pE (kP m s)=pE s:=by unfold kP;split <;> rfl
theorem Agf:pE (uC f s)=pE s:=by
 unfold uC
 generalize (if f.t=0 then((f.d.size:Nat):Int) else 0)=kk
 generalize (if f.t=1∧(f.d≠⟨#[]⟩∨f.e=false) then(1:Int) else kk)=nn
 split
 ·exact jF
 ·split
  ·rfl
  ·split
   ·exact tZ
   ·exact AM
theorem WX:pE (o7 f s)=pE s:=by
 unfold o7
 split
 ·exact jF
 ·split
  ·exact jF
  ·split
   ·exact tZ
   ·split
    ·exact tZ
    ·rfl
theorem S9:pE (lV f m s)=pE s:=by
 unfold lV
 split
 ·exact tZ
 ·split
  ·exact tZ
  ·split
   ·split
    ·exact tZ
    ·rfl
   ·split
    ·exact tZ
    ·rfl
theorem X8:pE (s4 f s)=pE s:=by
 unfold s4
 split
 ·exact jF
 ·split
  ·exact jF
  ·rfl
theorem Afg:pE (x6 f s)=pE s:=by
 unfold x6
 split
 ·exact jF
 ·split
  ·exact jF
  ·exact My
theorem Aae:pE (sV s)=pE s:=by
 unfold sV
 split
 ·exact jF
 ·rfl
theorem Tp:∀ {l:List Int} {s:Cn},pE (nL l s)=pE s
 | [],_=>rfl
 |a::l,s=>by
  unfold nL
  rw[Tp (l:=l)]
  split
  ·split
   ·rfl
   ·rfl
  ·rfl
theorem Agx:pE (yA f s)=pE s:=by
 unfold yA
 split
 ·exact OR
 ·exact Tp
theorem Zh:pE (j7 f s)=pE s:=by
 unfold j7
 split
 ·exact jF
 ·split
  ·rfl
  ·split
   ·rfl
   ·split
    ·rfl
    ·exact S9
theorem JM:pE (bQ f s)=pE s:=by
 unfold bQ fP
 split
 ·exact Afg
 ·split
  ·exact Aae
  ·split
   ·exact My
   ·split
    ·rfl
    ·split
     ·exact Agx
     ·split
      ·exact WX
      ·split
       ·exact X8
       ·split
        ·exact jF
        ·split
         ·exact Agf
         ·exact Zh
theorem Cu:∀ {l:List Fm} {s:Cn},pE (d4 l s)=pE s
 | [],_=>rfl
 |f::l,s=>by
  unfold d4
  split
  ·exact JM
  ·rw[Cu (l:=l)];exact JM
theorem N6:∀ {l:List Int} {s:Cn},(qR code l s).dr=s.dr
 | [],_=>rfl
 |a::l,s=>N6 (l:=l) (s:=lE a code false s)
theorem Dt (hw:0≤w∧w≤20):(iJ w o s).dr.ov=true:=by
 have h1:=K9 (o:=o) hw
 have e:(iJ w o s).dr=CC s.dr (lH w o):=N6
 rw[e]
 unfold CC Ge
 cases ho:s.dr.ov
 ·have:pA (lH w o) 1=true:=by unfold pA;simp only[Bool.and_eq_true,decide_eq_true_eq];omega
  rw[this];rfl
 ·simp[ho]
def BP (s:Cn):Prop:=(s.dr.ov=true∨s.ine=0)∧s.inb.length≤300
theorem MY {s s':Cn} (h:BP s) (he:pE s'=pE s) (ho:s.dr.ov=true→s'.dr.ov=true):BP s':=by
 have e1:s'.ine=s.ine:=congrArg Prod.fst he
 have e2:s'.inb=s.inb:=congrArg Prod.snd he
 unfold BP
 rw[e1,e2]
 exact⟨h.1.elim (fun q=>.inl (ho q)) .inr,h.2⟩
theorem YP (h:BP s):BP (lB u s):=by
 unfold lB
 split
 ·rename_i ho
  exact⟨.inl ho,h.2⟩
 ·have h1:pE (d4 (iQ u (aD s)).1 (iQ u (aD s)).2)=((pF (s.inb++u)).2.2,if(pF (s.inb++u)).2.2=0 then(pF (s.inb++u)).2.1 else []):=Cu
  have h2:(if(pF (s.inb++u)).2.2=0 then(pF (s.inb++u)).2.1 else []).length≤300:=by
   split
   ·rename_i h0;have:=Aaw h0;omega
   ·simp
  split
  ·rename_i hq
   have e1:=congrArg Prod.fst h1
   have e2:=congrArg Prod.snd h1
   refine⟨hq.elim .inl fun q=>.inr ?_,?_⟩
   ·rw[← q];exact e1
   ·show(pE (d4 (iQ u (aD s)).1 (iQ u (aD s)).2)).2.length≤300
    rw[e2];exact h2
  ·refine⟨.inl (Dt (by decide)),?_⟩
   show(pE (iJ 0 _ _)).2.length≤300
   rw[jF,h1];exact h2
theorem Z0 (hI:bS B s) (h:fR c s) (hB:B+u.length+300 * (pF (s.inb++u)).1.length≤250000000):fR c (lB u s):=by
 unfold lB
 split
 ·exact { h with }
 ·have h1:=HZ (u:=u) hI (by omega)
  have hl:((pF (s.inb++u)).1.map Ke).length=(pF (s.inb++u)).1.length:=List.length_map ..
  have hB2:B+u.length+300 * ((((pF (s.inb++u)).1.map Ke).length:Nat):Int)≤250000000:=by rw[hl];exact hB
  have h2:=Ar (fs:=(iQ u (aD s)).1) h1 Cd hB2
  have h3:=Fs (c:=c) (fs:=(iQ u (aD s)).1) h1 { h with } Cd hB2
  split
  ·exact h3
  ·exact gQ h2 h3
end
section
variable {s:Cn} {B id n k code w o st kind on sg:Int} {gone own xx:Bool} {m m':Sm} {l:List Sm} {i:Nat} {c:Cf} {f:Fm} {g:eE} {t:eE} {u:List UInt8} {d:ByteArray}
theorem cI (h:fR c s):fR c (aD s):= { h with }
theorem Af1 (h:P8 c g m):P8 c g (Al m d):=by
 obtain⟨h1,h2,h3,h4⟩:=h
 unfold Al
 split
 ·refine⟨h1,?_,?_,?_⟩
  ·show ZN c (zO m.x d)
   cases hx:m.x with
   |b z=>rw[hx] at h2;exact h2
   |i z=>
    rw[hx] at h2
    show((if z.en=true∨256<d.size then z else if z.l.length<z.cap then { z with l:=z.l++ [d],ac:=z.ac+1 } else if z.st=0 then z else if z.st=1∨z.cap=0 then { z with ac:=z.ac+1,dr:=z.dr+1 } else { z with l:=z.l.tail++ [d],ac:=z.ac+1,dr:=z.dr+1 }).cap:Int)≤c.si
    repeat' split
    all_goals exact h2
  ·show bB (zO m.x d)=kG m.y
   rw[← h3]
   cases hx:m.x <;> rfl
  ·show xSz (zO m.x d)
   cases hx:m.x with
   |b z=>trivial
   |i z=>
    rw[hx] at h4
    show ∀y∈(if z.en=true∨256<d.size then z else if z.l.length<z.cap then { z with l:=z.l++ [d],ac:=z.ac+1 } else if z.st=0 then z else if z.st=1∨z.cap=0 then { z with ac:=z.ac+1,dr:=z.dr+1 } else { z with l:=z.l.tail++ [d],ac:=z.ac+1,dr:=z.dr+1 }).l,y.size≤256
    split
    ·exact h4
    ·rename_i hd
     have hd:d.size≤256:=by omega
     have ap:∀ {l:List ByteArray},(∀y∈l,y.size≤256)→∀y∈l++ [d],y.size≤256:=fun hl y hy=>by
      rcases List.mem_append.1 hy with hy|hy
      ·exact hl y hy
      ·rw[List.mem_singleton.1 hy];exact hd
     repeat' split
     ·exact ap h4
     ·exact h4
     ·exact h4
     ·exact ap fun y hy=>h4 y (List.mem_of_mem_tail hy)
 ·exact⟨h1,h2,h3,h4⟩
theorem Afx (h:P8 c g m):P8 c g (Au m):=by
 obtain⟨h1,h2,h3,h4⟩:=h
 unfold Au
 split
 ·refine⟨h1,?_,?_,?_⟩
  ·show ZN c (Ja m.x)
   cases hx:m.x with
   |b z=>rw[hx] at h2;exact h2
   |i z=>rw[hx] at h2;exact h2
  ·show bB (Ja m.x)=kG m.y
   rw[← h3]
   cases hx:m.x <;> rfl
  ·show xSz (Ja m.x)
   cases hx:m.x with
   |b z=>trivial
   |i z=>rw[hx] at h4;exact h4
 ·exact⟨h1,h2,h3,h4⟩
theorem Tm {y:Ys} (h:P8 c g m) (h1:Hj g y) (h2:kG y=kG m.y):P8 c g { m with y:=y }:=⟨h1,h.x,h.ok.trans h2.symm,h.sz⟩
theorem V2:bB (Al m d).x=bB m.x:=by
 unfold Al
 split
 ·show bB (zO m.x d)=_
  cases m.x <;> rfl
 ·rfl
theorem Xr:bB (Au m).x=bB m.x:=by
 unfold Au
 split
 ·show bB (Ja m.x)=_
  cases m.x <;> rfl
 ·rfl
theorem Ai4:kb (Al m d)=kb m:=by
 unfold Al kb
 split
 ·show(if bB (zO m.x d)=1 then hO m.y else 0)=_
  cases hx:m.x <;> rfl
 ·rfl
theorem Ahr:kb (Au m)=kb m:=by
 unfold Au kb
 split
 ·show(if bB (Ja m.x)=1 then hO m.y else 0)=_
  cases hx:m.x <;> rfl
 ·rfl
theorem Afv {y:Ys} (h:Hj g y):Hj g (Ej y n):=by cases y <;> exact h
theorem Adc {y:Ys} (h:Hj g y):Hj g (Ek y):=by
 cases y with
 |b y=>exact h
 |i y=>unfold Ek;dsimp only;split <;> exact h
theorem Acw {y:Ys} (h:Hj g y):Hj g (FX y n):=by
 cases y with
 |b y=>exact h
 |i y=>unfold FX;dsimp only;split <;> exact h
theorem Wb (h:fR c s):fR c (qK id d s):=by
 unfold qK
 split
 ·exact cI h
 ·split
  ·rename_i m hm
   obtain⟨hi,hmid⟩:=aZ hm
   rw[eB (id:=id) (A8.trans hmid)]
   exact xJ (s:=aD s) (cI h) hi A8 NH (Af1 (h.mo m (List.mem_of_getElem? hi))) (by rw[Ai4];exact Nat.le_refl _) V2
  ·exact h
theorem Ad0 (h:fR c s):fR c (BQ id s):=by
 unfold BQ
 split
 ·exact cI h
 ·split
  ·rename_i m hm
   obtain⟨hi,hmid⟩:=aZ hm
   rw[eB (id:=id) (AF.trans hmid)]
   exact xJ (s:=aD s) (cI h) hi AF Oe (Afx (h.mo m (List.mem_of_getElem? hi))) (by rw[Ahr];exact Nat.le_refl _) Xr
  ·exact h
theorem Akp (hk:bB m.x=kG m.y) (hE:OF m.y=0):kb ({ m with y:=Ej m.y n }:Sm)+(BC m.y n).size=kb m:=by
 unfold kb
 cases hy:m.y with
 |b z=>
  rw[hy] at hk
  have hk:bB m.x=1:=hk
  have e:(BC (.b z) n).size=min (LI z n) z.bs.length:=by
   show((z.bs.take (LI z n)).toArray).size=_
   simp
  simp only[if_pos hk,Ej,hO,List.length_drop]
  rw[e];omega
 |i z=>rw[hy] at hE;cases hE
theorem Yo (hI:bS B s) (h:fR c s):fR c (vQ id n s):=by
 unfold vQ
 split
 ·exact cI h
 ·split
  ·rename_i m hm
   obtain⟨hi,hmid⟩:=aZ hm
   split
   ·exact cI h
   ·rename_i hE
    have hE:OF m.y=0:=by simpa using hE
    have hmo:=h.mo m (List.mem_of_getElem? hi)
    rw[eB (id:=id) (show({ m with y:=Ej m.y n }:Sm).id=id from hmid)]
    have hI2:bS B { ({ aD s with rv:=fT s.rv ((BC m.y n).size:Nat) }:Cn) with l:=s.l.set (cB id s.l) { m with y:=Ej m.y n } }:=kZ (s:= { aD s with rv:=fT s.rv ((BC m.y n).size:Nat) }) (oM (bF hI)) hi rfl rfl (Rw (hI.st m (List.mem_of_getElem? hi)))
    have hkb:=Akp (n:=n) hmo.ok hE
    have hset:=LU (m':= { m with y:=Ej m.y n }) hi
    have hkp:=h.kp
    have h1:fR c { aD s with l:=s.l.set (cB id s.l) { m with y:=Ej m.y n } }:=xJ (s:=aD s) (cI h) hi rfl rfl (Tm hmo (Afv hmo.y) Ag9) (by omega) rfl
    have h2:=Mw (s:= { aD s with l:=s.l.set (cB id s.l) { m with y:=Ej m.y n } }) (k:=((BC m.y n).size:Nat)) h1 (by show _+s.rv.us+xI (s.l.set (cB id s.l) { m with y:=Ej m.y n })≤s.rv.got;omega) (by omega)
    exact D7 hI2 { h2 with } (lN (m':= { m with y:=Ej m.y n }) hm rfl)
  ·exact h
theorem Yd (hI:bS B s) (h:fR c s):fR c (vO id s):=by
 unfold vO
 split
 ·exact cI h
 ·split
  ·rename_i m hm
   obtain⟨hi,hmid⟩:=aZ hm
   split
   ·exact cI h
   ·have hmo:=h.mo m (List.mem_of_getElem? hi)
    rw[eB (id:=id) (show({ m with y:=Ek m.y }:Sm).id=id from hmid)]
    have hI2:bS B { aD s with l:=s.l.set (cB id s.l) { m with y:=Ek m.y } }:=kZ (s:=aD s) (bF hI) hi rfl rfl (QY (hI.st m (List.mem_of_getElem? hi)))
    refine D7 hI2 (xJ (s:=aD s) (cI h) hi rfl rfl (Tm hmo (Adc hmo.y) Ahg) ?_ rfl) (lN (m':= { m with y:=Ek m.y }) hm rfl)
    unfold kb
    have hok:=hmo.ok
    cases hy:m.y with
    |b z=>exact Nat.le_refl _
    |i z=>
     rw[hy] at hok
     have hok:bB m.x=2:=hok
     simp[hok]
  ·exact h
theorem Ag1 (h:fR c s):fR c (BJ id n s):=by
 unfold BJ
 split
 ·exact cI h
 ·split
  ·rename_i m hm
   obtain⟨hi,hmid⟩:=aZ hm
   have hmo:=h.mo m (List.mem_of_getElem? hi)
   rw[eB (id:=id) (show({ m with y:=FX m.y n }:Sm).id=id from hmid)]
   refine xJ (s:=aD s) (cI h) hi rfl rfl (Tm hmo (Acw hmo.y) Acz) ?_ rfl
   unfold kb
   have hok:=hmo.ok
   cases hy:m.y with
   |b z=>exact Nat.le_refl _
   |i z=>
    rw[hy] at hok
    have hok:bB m.x=2:=hok
    simp[hok]
  ·exact h
theorem Ab3 (hI:bS B s) (h:fR c s):fR c (vR id on w xx s):=by
 unfold vR
 split
 ·exact cI h
 ·exact Ts (s:= { aD s with out:=yZ (rZ id on w xx) s.out }) (qN (bF hI)) (A7 (cI h) ⟨rfl,(by show(3:Int)≠10;decide),(by show(3:Int)≠11;decide)⟩)
theorem W2 (hI:bS B s) (h:fR c s):fR c (qQ id n s):=by
 unfold qQ
 split
 ·exact cI h
 ·split
  ·rename_i m hm
   exact Dm (s:= { aD s with out:=yZ (lX id n) s.out }) (qN (bF hI)) (A7 (cI h) ⟨rfl,(by show(4:Int)≠10;decide),(by show(4:Int)≠11;decide)⟩) hm
  ·exact h
theorem K3 {z:Dr} {la:Int}:(Er z la).ov=z.ov:=by unfold Er;split <;> rfl
theorem Ajc (h:fR c s):fR c (Jp s):=by
 unfold Jp
 split
 ·exact cI h
 ·exact { A7 (f:=EF s.la 0) (cI h) ⟨rfl,(by show(9:Int)≠10;decide),(by show(9:Int)≠11;decide)⟩ with
   cl:=fun ho=>h.cl (by rw[← ho];exact K3.symm) }
theorem YQ (h:fR c s):fR c (BW t s):=by
 unfold BW
 split
 ·exact cI h
 ·obtain⟨h1,h2⟩:=h.hg
  unfold Nj at h1
  have hnf:=h.nf
  have e:(d8 s.sh t).h=s.sh.h:=by unfold d8;split <;> rfl
  have eg:s.sh.g.w≤(d8 s.sh t).g.w∧s.sh.g.st≤(d8 s.sh t).g.st∧s.sh.g.it≤(d8 s.sh t).g.it:=by
   unfold d8
   split
   ·simp only[LL];omega
   ·omega
  exact { A7 (f:=KM (LG (rD s.sh) t)) (cI h) ⟨rfl,(by show(5:Int)≠10;decide),(by show(5:Int)≠11;decide)⟩ with
   mo:=fun m hm=>by
    obtain⟨q1,q2,q3,q4⟩:=h.mo m hm
    refine⟨?_,q2,q3,q4⟩
    show Hj (d8 s.sh t).g m.y
    cases hy:m.y with
    |b y=>rw[hy] at q1;have:y.most≤s.sh.g.w:=q1;show y.most≤_;omega
    |i y=>rw[hy] at q1;have:y.mr≤s.sh.g.it:=q1;show y.mr≤_;omega
   hg:=by
    refine⟨?_,fun z hz=>?_⟩
    ·show Nj (d8 s.sh t).h (d8 s.sh t).g
     rw[e];unfold Nj;omega
    ·show Nj z (d8 s.sh t).g
     have hz:z∈(d8 s.sh t).l:=hz
     by_cases hq:iA s.sh t=0
     ·have el:(d8 s.sh t).l=s.sh.l++ [t]:=by unfold d8;rw[if_pos hq]
      have eg2:(d8 s.sh t).g=LL s.sh.g t:=by unfold d8;rw[if_pos hq]
      rw[el] at hz
      rcases List.mem_append.1 hz with hz|hz
      ·have:=h2 z hz
       unfold Nj at this ⊢;omega
      ·rw[List.mem_singleton.1 hz,eg2]
       unfold Nj;simp only[LL];omega
     ·have el:d8 s.sh t=s.sh:=by unfold d8;rw[if_neg hq]
      rw[el] at hz ⊢;exact h2 z hz
   nf:=by
    show(fH s false:Int)≤(d8 s.sh t).g.st
    omega }
theorem Aa6 (h:fR c s):fR c (qH s):= { h with }
theorem XX (hI:bS B s) (h:fR c s):fR c (rU kind sg on w xx s):=by
 unfold rU
 split
 ·exact cI h
 ·rename_i hE
  have hE:mY kind sg on w xx s=0:=by simpa using hE
  obtain⟨e1,e2,e3,e4,e5,e6,e7,e8,e9⟩:=BX hE
  have h1:=A7 (f:=qE s.nx kind on w xx) (cI h) ⟨rfl,(by show(2:Int)≠10;decide),(by show(2:Int)≠11;decide)⟩
  exact UP (s:= { aD s with nx:=s.nx+2,out:=yZ (qE s.nx kind on w xx) s.out }) (II (qN (f:=qE s.nx kind on w xx) (bF hI)) e5) { h1 with } (Fl hI e5) (show s.l.length<64 from Mp hI (by omega)) ⟨by have:=hI.nx;omega,e5⟩ e1 (fun q=>by cases q)
theorem UA:(kP m s).dr=s.dr:=by unfold kP;split <;> rfl
theorem VN (h:BP s):BP (qK id d s):=by
 unfold qK
 split
 ·exact h
 ·split <;> exact h
theorem Agj (h:BP s):BP (BQ id s):=by
 unfold BQ
 split
 ·exact h
 ·split <;> exact h
theorem XV (h:BP s):BP (vQ id n s):=by
 unfold vQ
 split
 ·exact h
 ·split
  ·split
   ·exact h
   ·exact MY (s:=s) h AM fun ho=>by rw[UA];exact ho
  ·exact h
theorem Aau (h:BP s):BP (vO id s):=by
 unfold vO
 split
 ·exact h
 ·split
  ·split
   ·exact h
   ·exact MY (s:=s) h AM fun ho=>by rw[UA];exact ho
  ·exact h
theorem Agv (h:BP s):BP (BJ id n s):=by
 unfold BJ
 split
 ·exact h
 ·split <;> exact h
theorem Aa2 (h:BP s):BP (vR id on w xx s):=by unfold vR;split <;> exact h
theorem Xf (h:BP s):BP (qQ id n s):=by
 unfold qQ
 split
 ·exact h
 ·split <;> exact h
theorem Ai5 (h:BP s):BP (Jp s):=by
 unfold Jp
 split
 ·exact h
 ·exact MY (s:=s) h rfl fun ho=>by show(Er s.dr s.la).ov=true;rw[K3];exact ho
theorem Y4 (h:BP s):BP (BW t s):=by unfold BW;split <;> exact h
theorem X3 (h:BP s):BP (qH s):=h
theorem Zp (h:BP s):BP (rU kind sg on w xx s):=by unfold rU;split <;> exact h
end
end Go.Proofs.YtifgibijcmppmaaGreat
