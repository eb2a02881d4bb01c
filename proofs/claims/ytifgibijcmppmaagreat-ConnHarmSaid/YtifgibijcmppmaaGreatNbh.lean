/- A part of the proof: lemmas; each with the conditions that it states. -/
import Derived.Test.YtifgibijcmppmaaGreatNbg
set_option linter.unusedVariables false
set_option linter.unusedSimpArgs false
namespace Go.Proofs.YtifgibijcmppmaaGreat
open Go Go.Proofs Go.Sl
set_option maxRecDepth 100000
set_option maxHeartbeats 40000000
attribute [local irreducible] aN fB cJ bO aM aY aA dM dQ aW dK pt ro fF star sep bI
attribute [local irreducible] mp El
section
variable {s:Cn} {B id n k code w o st:Int} {gone:Bool} {m m':Sm} {l:List Sm} {i:Nat} {c:Cf} {f:Fm} {g:eJ} {t:eJ}
theorem Agb {z:eT} (h:Ly z) {j:Int} (hj:eZ (yY id z) j):eZ z j∧j≠id:=by
 unfold yY at hj
 split at hj
 ·rename_i hid
  have hw:=h.w id hid
  obtain⟨h1,h2,h3,h4,h5,h6⟩:=S1 (on:=(dF id z).on) (xw:=(dF id z).w) (all:=pW z (cA id z.1)) hw (fun k hk=>(lC h.nd hk).1) (AH h.nd) (fun k hk=>⟨(h.w k (lC h.nd hk).1).1,Lm h.w (fun k hk=>(lC h.nd hk).1) k hk⟩) h.kok h.nd h.w
  have hd:=D8 (id:=id) (j:=j) h5
  unfold eZ d4 at hj
  rw[hd] at hj
  by_cases he:j=id
  ·rw[if_pos he] at hj;cases hj
  ·rw[if_neg he] at hj
   exact⟨(h1 j).1 hj,he⟩
 ·rename_i hid
  refine⟨hj,fun e=>hid ?_⟩
  rw[e] at hj;exact hj
theorem Dj {z:eT} (hok:QA z.1 z.2) (hnd:Ni z) {on:Int} {x:Bool} {j:Int} (hj:eZ (pP id on w x z) j):j=id∨eZ z j:=by
 unfold pP at hj
 rw[dT] at hj
 rcases hj with hj|hj
 ·exact .inl hj
 ·split at hj
  ·exact .inr (((DZ (id:=id) (fun k hk=>(lC hnd hk).1) hok hnd).1 j).1 hj)
  ·exact .inr hj
theorem Uz {z:eT} (h:Ly z):rZ id z (z.1.length+1) 0=false:=by
 unfold rZ
 rw[if_neg]
 intro hq
 have:=h.ky 0 hq
 omega
theorem Ae0 {z:eT} (h:Ly z) {on:Int} {x:Bool} {j:Int} (hj:eZ (kT id on w x z) j):eZ z j:=by
 unfold kT at hj
 split at hj
 ·exact hj
 ·rename_i hE
  have hid:eZ z id:=by
   cases hq:d4 id z.1
   ·exact absurd (by unfold pZ;rw[if_pos hq];decide) hE
   ·exact hq
  have fin:∀ {y:Int},y=id∨eZ z y→eZ z y:=fun hy=>hy.elim (fun e=>by rw[e];exact hid) fun q=>q
  split at hj
  ·rw[Uz h,if_neg Bool.false_ne_true] at hj
   exact fin (Dj h.kok h.nd hj)
  ·rename_i hkn
   split at hj
   ·rename_i hab
    have hon:eZ z on:=by
     by_cases h0:on=0
     ·subst h0;rw[Uz h] at hab;cases hab
     ·cases hq:d4 on z.1
      ·exact absurd (by unfold zI;rw[hq];simp[h0]) hkn
      ·exact hq
    rcases Dj (If h.kok) (Hw h.nd) hj with hj|hj
    ·exact fin (.inl hj)
    ·unfold i5 at hj
     rw[dT] at hj
     rcases hj with hj|hj
     ·rw[hj];exact hon
     ·exact hj
   ·exact fin (Dj h.kok h.nd hj)
theorem Agx {z:eT} (h:Ly z) {on:Int} {x:Bool} {j:Int} (hj:eZ (nK id on w x 64 z) j):j=id∨eZ z j:=by
 unfold nK at hj
 split at hj
 ·exact .inr hj
 ·split at hj
  ·exact Dj h.kok h.nd hj
  ·exact Dj h.kok h.nd hj
theorem KM {z:eT} (h:Ly z):∀ {n:Nat} {lv:List Int},(∀y∈lv,eZ z y)→∀y∈yX z n lv,eZ z y
 |0,_,_,_,hy=>by cases hy
 |n+1,lv,hl,y,hy=>by
  unfold yX at hy
  split at hy
  ·cases hy
  ·rcases List.mem_append.1 hy with hy|hy
   ·exact hl y hy
   ·refine KM h (n:=n) (lv:=Jt z lv) (fun q hq=>?_) y hy
    unfold Jt at hq
    exact(zV h.nd q (zE.1 hq)).1
theorem Sr (hs:F4 l) (hm:m∈l):cB m.id l=some m:=by
 cases hq:cB m.id l with
 |none=>exact absurd rfl (Na hs hq m hm)
 |some z=>
  obtain⟨h1,h2⟩:=aU hq
  obtain⟨j,hj⟩:=List.getElem?_of_mem hm
  have hp:=hs.2
  obtain⟨a1,a2⟩:=List.getElem?_eq_some_iff.1 h1
  obtain⟨b1,b2⟩:=List.getElem?_eq_some_iff.1 hj
  rcases Nat.lt_trichotomy (cE m.id l) j with hlt|heq|hgt
  ·have:=List.pairwise_iff_getElem.1 hp _ _ a1 b1 hlt
   rw[a2,b2] at this;omega
  ·subst heq
   rw[a2] at b2;rw[b2]
  ·have:=List.pairwise_iff_getElem.1 hp _ _ b1 a1 hgt
   rw[a2,b2] at this;omega
theorem J0 (hs:F4 l) (hm:m∈l) (hne:m.id≠id) (hat:cB id l=some m'):m∈l.eraseIdx (cE id l):=by
 obtain⟨h1,h2⟩:=aU hat
 obtain⟨j,hj⟩:=List.getElem?_of_mem hm
 refine List.mem_eraseIdx_iff_getElem?.2 ⟨j,fun e=>?_,hj⟩
 rw[e,h1] at hj
 cases hj
 exact hne h2
theorem PS {z:Sm} (hs:F4 l) (hat:cB id l=some m') (hz:z∈l.eraseIdx (cE id l)):z.id≠id:=fun e=>by
 obtain⟨h1,h2⟩:=aU hat
 obtain⟨i,hi,hy⟩:=List.mem_eraseIdx_iff_getElem?.1 hz
 obtain⟨a1,a2⟩:=List.getElem?_eq_some_iff.1 h1
 obtain⟨b1,b2⟩:=List.getElem?_eq_some_iff.1 hy
 rcases Nat.lt_trichotomy (cE id l) i with hlt|heq|hgt
 ·have:=List.pairwise_iff_getElem.1 hs.2 _ _ a1 b1 hlt
  rw[a2,b2] at this;omega
 ·exact hi heq.symm
 ·have:=List.pairwise_iff_getElem.1 hs.2 _ _ b1 a1 hgt
  rw[a2,b2] at this;omega
theorem Sw {z:Ld} (h:FY B z) {j:Int}:(pH j z.l).isSome=true↔j∈z.l.map hZ.id:=by
 constructor
 ·intro hq
  obtain⟨e,he⟩:=Option.isSome_iff_exists.1 hq
  obtain⟨h1,h2⟩:=rW he
  exact List.mem_map.2 ⟨e,List.mem_of_getElem? h1,h2⟩
 ·intro hj
  obtain⟨e,he,hid⟩:=List.mem_map.1 hj
  cases hq:pH j z.l with
  |some _=>rfl
  |none=>
   exfalso
   refine Sk (f:=hZ.id) (t:=j) h.2.1 (fun e he hid=>?_) e he hid
   have:pH j z.l=some e:=by
    unfold pH oR
    rw[he]
    simp[hid]
   rw[hq] at this;cases this
theorem Vf {z:Ld} (h:FY B z) {j:Int}:j∈(nU id z).l.map hZ.id↔j∈z.l.map hZ.id∧j≠id:=by
 unfold nU
 cases hq:pH id z.l with
 |none=>
  rw[if_neg (by simp)]
  refine⟨fun hj=>⟨hj,fun e=>?_⟩,fun hj=>hj.1⟩
  rw[e] at hj
  have:=(Sw h).2 hj
  rw[hq] at this;cases this
 |some e=>
  obtain⟨h1,h2⟩:=rW hq
  rw[if_pos (show(some e).isSome=true from rfl)]
  show j∈(z.l.eraseIdx (oR id z.l)).map hZ.id↔_
  obtain⟨a1,a2⟩:=List.getElem?_eq_some_iff.1 h1
  constructor
  ·intro hj
   obtain⟨y,hy,hid⟩:=List.mem_map.1 hj
   refine⟨List.mem_map.2 ⟨y,List.mem_of_mem_eraseIdx hy,hid⟩,fun e'=>?_⟩
   obtain⟨i,hi,hy2⟩:=List.mem_eraseIdx_iff_getElem?.1 hy
   obtain⟨b1,b2⟩:=List.getElem?_eq_some_iff.1 hy2
   rcases Nat.lt_trichotomy (oR id z.l) i with hlt|heq|hgt
   ·have:=List.pairwise_iff_getElem.1 h.2.1 _ _ a1 b1 hlt
    rw[a2,b2] at this;omega
   ·exact hi heq.symm
   ·have:=List.pairwise_iff_getElem.1 h.2.1 _ _ b1 a1 hgt
    rw[a2,b2] at this;omega
  ·intro hj
   obtain⟨y,hy,hid⟩:=List.mem_map.1 hj.1
   refine List.mem_map.2 ⟨y,?_,hid⟩
   obtain⟨i,hi⟩:=List.getElem?_of_mem hy
   refine List.mem_eraseIdx_iff_getElem?.2 ⟨i,fun e'=>?_,hi⟩
   rw[e',h1] at hi
   cases hi
   exact hj.2 (by rw[← hid];exact h2)
theorem Abk {z:Ld} (h:FY B z) (ht:1≤id∧id≤2147483647) (hn:mM n=true) (hno:id ∉ z.l.map hZ.id) (hl:z.l.length<64) {j:Int}:j∈(lN id n z).l.map hZ.id↔j=id∨j∈z.l.map hZ.id:=by
 have hq:¬(pH id z.l).isSome=true:=fun q=>hno ((Sw h).1 q)
 unfold lN
 rw[if_neg (by rw[hn];simp only[Bool.true_eq_false,false_or,not_or];exact⟨by omega,by omega,hq,by omega⟩)]
 show j∈(z.l.take (oR id z.l)++⟨id,n,0⟩::z.l.drop (oR id z.l)).map hZ.id↔_
 conv=>rhs;rw[← List.take_append_drop (oR id z.l) z.l]
 simp only[List.map_append,List.map_cons,List.mem_append,List.mem_cons]
 constructor
 ·rintro(hj|hj|hj)
  ·exact .inr (.inl hj)
  ·exact .inl hj
  ·exact .inr (.inr hj)
 ·rintro(hj|hj|hj)
  ·exact .inr (.inl hj)
  ·exact .inl hj
  ·exact .inr (.inr hj)
theorem UD {l:List hZ} {e e':hZ} {i:Nat} (h:l[i]?=some e) (hid:e'.id=e.id):(l.set i e').map hZ.id=l.map hZ.id:=by
 rw[List.map_set,hid]
 exact kE i (by rw[List.getElem?_map,h];rfl)
theorem P2 {z:Ld} {b:Int}:(qC id b z).l.map hZ.id=z.l.map hZ.id:=by
 unfold qC
 split
 ·rfl
 ·split
  ·rename_i e he
   exact UD (rW he).1 rfl
  ·rfl
theorem Ad7 {z:Ld} {a b:Int}:(tH a b z).l.map hZ.id=z.l.map hZ.id:=by
 unfold tH
 split
 ·rfl
 ·show(z.l.map _).map hZ.id=_
  rw[List.map_map];rfl
theorem Xj {z:Ld} {k:Int}:(mR id k z).l.map hZ.id=z.l.map hZ.id:=by
 unfold mR
 split
 ·rfl
 ·split
  ·rename_i e he
   exact UD (rW he).1 rfl
  ·rfl
def kb (m:Sm):Nat:=if bD m.x=1 then gT m.y else 0
def tE (l:List Sm):Nat:=(l.map kb).sum
theorem LL (hi:l[i]?=some m):tE (l.set i m')+kb m=tE l+kb m':=by
 induction l generalizing i with
 |nil=>cases hi
 |cons q r ih=>
  cases i with
  |zero=>cases hi;simp[tE];omega
  |succ i=>
   have:=ih (i:=i) (by simpa using hi)
   simp only[tE,List.set_cons_succ,List.map_cons,List.sum_cons] at this ⊢
   omega
theorem K7 (hi:l[i]?=some m):tE (l.eraseIdx i)+kb m=tE l:=by
 induction l generalizing i with
 |nil=>cases hi
 |cons q r ih=>
  cases i with
  |zero=>cases hi;simp[tE];omega
  |succ i=>
   have:=ih (i:=i) (by simpa using hi)
   simp only[tE,List.eraseIdx_cons_succ,List.map_cons,List.sum_cons] at this ⊢
   omega
theorem UO {a b:List Sm}:tE (a++b)=tE a+tE b:=by simp[tE]
theorem Ae9:tE (kS m l)=kb m+tE l:=by
 have h:tE (kS m l)=tE (l.take (cE m.id l))+(kb m+tE (l.drop (cE m.id l))):=by simp[tE,kS]
 have h2:tE l=tE (l.take (cE m.id l))+tE (l.drop (cE m.id l)):=by rw[← UO,List.take_append_drop]
 omega
theorem T4 {q:Sm→Sm} (h:∀m,kb (q m)=kb m):tE (l.map q)=tE l:=by
 unfold tE
 rw[List.map_map]
 congr 1
 exact List.map_congr_left fun m _=>h m
def Nj (a b:eJ):Prop:=a.w≤b.w∧a.st≤b.st∧a.it≤b.it
def Hm (g:eJ):Ys→Prop
 |.b y=>y.most≤g.w
 |.i y=>y.mr≤g.it
def Ab6 (c:Cf):Xs→Prop
 |.b x=>(x.cap:Int)≤c.sb
 |.i x=>(x.cap:Int)≤c.si
def xSz:Xs→Prop
 |.b _=>True
 |.i x=>∀d∈x.l,d.size≤256
structure Pv (c:Cf) (g:eJ) (m:Sm):Prop where
 y:Hm g m.y
 x:Ab6 c m.x
 ok:bD m.x=jI m.y
 sz:xSz m.x
structure fX (c:Cf) (s:Cn):Prop where
 cfe:s.cf=c
 tn:∀id,eZ s.tr id→∃m∈s.l,m.id=id
 fo:∀f∈s.out,mQ f=true∧f.ps.length=f.pn∧f.t≠10∧f.t≠11
 cl:s.dr.ov=true→s.l= []
 mo:∀m∈s.l,Pv c s.sh.g m
 hg:Nj s.sh.h s.sh.g∧∀t∈s.sh.l,Nj t s.sh.g
 nf:(fG s false:Int)≤s.sh.g.st
 kp:s.rv.us+tE s.l≤s.rv.got
 ls:s.last.size≤300
 lk:∀j,j∈s.ld.l.map hZ.id↔∃m∈s.l,m.id=j∧bD m.x=1
theorem Wc:((l.eraseIdx i).filter fun m=>m.own == false).length≤(l.filter fun m=>m.own == false).length:=((List.eraseIdx_sublist ..).filter _).length_le
theorem Hn (hI:bU B s) (h:fX c s) (hm:cB id s.l=some m):fX c (mE id code gone s):=
 { h with
   tn:=fun j hj=>by
    obtain⟨h1,h2⟩:=Agb hI.tr hj
    obtain⟨z,hz,hzi⟩:=h.tn j h1
    exact⟨z,J0 hI.sm hz (by rw[hzi];exact h2) hm,hzi⟩
   cl:=fun ho=>by
    show s.l.eraseIdx _= []
    rw[h.cl ho];rfl
   mo:=fun z hz=>h.mo z (List.mem_of_mem_eraseIdx hz)
   nf:=by
    have h1:=h.nf
    have h2:=Wc (l:=s.l) (i:=cE id s.l)
    unfold fG at h1
    show(((s.l.eraseIdx (cE id s.l)).filter fun m=>m.own == false).length:Int)≤s.sh.g.st
    omega
   kp:=by
    have h1:=h.kp
    have h2:=K7 (aU hm).1
    show s.rv.us+tE (s.l.eraseIdx (cE id s.l))≤s.rv.got
    omega
   lk:=fun j=>by
    show j∈(nU id s.ld).l.map hZ.id↔∃m∈s.l.eraseIdx (cE id s.l),m.id=j∧bD m.x=1
    rw[Vf hI.ld,h.lk]
    constructor
    ·rintro⟨⟨z,hz,hzi,hzk⟩,hne⟩
     exact⟨z,J0 hI.sm hz (by rw[hzi];exact hne) hm,hzi,hzk⟩
    ·rintro⟨z,hz,hzi,hzk⟩
     refine⟨⟨z,List.mem_of_mem_eraseIdx hz,hzi,hzk⟩,fun e=>?_⟩
     have h1:=PS hI.sm hm hz
     rw[hzi] at h1;exact h1 e }
theorem Aea (hI:bU B s):(vV s).l= []:=(E5 (code:=s.dr.co) rfl hI).2
theorem HM (hI:bU B s) (h:fX c s) {d:Dr} {q:ByteArray} (hq:q.size≤300):fX c (vV { s with dr:=d,last:=q }):=by
 have hI2:bU B { s with dr:=d,last:=q }:= { hI with }
 have e:=Aea hI2
 have h0:∀ {l:List Sm} {z:Cn} {e:Dr},z.l=l→bU B z→fX c { z with dr:=e }→fX c { rJ d.co (l.map Sm.id) z with dr:=e }:=by
  intro l
  induction l with
  |nil=>intro z e _ _ hz;exact hz
  |cons m l ih=>
   intro z e hl hzI hz
   have hm:cB m.id z.l=some m:=by rw[hl];exact EJ
   exact ih (z:=mE m.id d.co false z) (E4 hl) (An hzI hm) (Hn (s:= { z with dr:=e }) { hzI with } hz hm)
 have h1:=h0 (z:= { s with dr:=d,last:=q }) (e:=s.dr) rfl hI2 { h with ls:=hq }
 exact { h1 with
  fo:=fun f hf=>by cases hf
  cl:=fun _=>e }
theorem Uv {n w:Int} (hw:0≤w):((rB n w).size:Int)≤w:=by
 unfold rB
 split
 ·show((0:Nat):Int)≤w;exact hw
 ·have:((⟨(wB n w).toArray⟩:ByteArray).size:Int)=((wB n w).length:Nat):=by simp[ByteArray.size]
  rw[this,nZ];omega
theorem Adm {l t f s:Int}:(z7 l t f s).size≤9:=by
 have q1:=Uv (n:=l) (w:=3) (by decide)
 have q2:=Uv (n:=t) (w:=1) (by decide)
 have q3:=Uv (n:=f) (w:=1) (by decide)
 have q4:=Uv (n:=s) (w:=4) (by decide)
 unfold z7
 rw[ByteArray.size_append,ByteArray.size_append,ByteArray.size_append]
 omega
theorem Ahd {la co:Int}:(Pf (Eu la co)).size≤300:=by
 have e:(⟨(wB la 4++wB co 4).toArray⟩:ByteArray).size=8:=by
  have:(⟨(wB la 4++wB co 4).toArray⟩:ByteArray).size=(wB la 4++wB co 4).length:=by simp[ByteArray.size]
  rw[this,List.length_append,nZ,nZ];rfl
 refine Nat.le_trans (Nat.le_of_eq (ByteArray.size_append ..)) (Nat.le_trans (Nat.add_le_add Adm (Nat.le_of_eq e)) (by decide))
theorem hQ (hI:bU B s) (h:fX c s):fX c (i3 w o s):=HM hI h Ahd
theorem UY {out:List Fm} (h:∀f∈out,mQ f=true∧f.ps.length=f.pn∧f.t≠10∧f.t≠11) (hf:f.ps.length=f.pn∧f.t≠10∧f.t≠11):∀z∈zA f out,mQ z=true∧z.ps.length=z.pn∧z.t≠10∧z.t≠11:=by
 unfold zA
 by_cases he:Em f out≠0
 ·rw[if_pos he];exact h
 ·rw[if_neg he]
  have hc:mQ f=true:=by
   cases hq:mQ f
   ·exact absurd (by unfold Em;rw[if_pos hq];decide) he
   ·rfl
  cases hy:out[u3 f out]? with
  |none=>
   intro z hz
   rcases List.mem_append.1 hz with hz|hz
   ·exact h z hz
   ·rw[List.mem_singleton.1 hz]
    exact⟨hc,hf⟩
  |some y=>
   exfalso
   obtain⟨y2,h2,h3⟩:=LS (List.getElem?_eq_some_iff.1 hy).1
   unfold sM at h3
   simp only[Bool.and_eq_true,Bool.or_eq_true,decide_eq_true_eq] at h3
   rcases h3.1.1.1 with h4|h4
   ·exact hf.2.1 h4
   ·exact hf.2.2 h4
theorem AW (h:fX c s) (hf:f.ps.length=f.pn∧f.t≠10∧f.t≠11):fX c { s with out:=zA f s.out }:= { h with fo:=UY h.fo hf }
theorem DR (hI:bU B s) (h:fX c s) (hf:f.ps.length=f.pn∧f.t≠10∧f.t≠11):fX c (uG f s):=by
 unfold uG
 split
 ·exact AW h hf
 ·exact hQ hI h
theorem DD (hI:bU B s) (h:fX c s) (hm:cB id s.l=some m):fX c (s6 m code s):=by
 obtain⟨hi,h2⟩:=aU hm
 have h1:cB m.id s.l=some m:=by rw[h2];exact hm
 have hk:=h.kp
 have he:=K7 hi
 have hr:=hI.rv
 unfold I8 at hr
 have hd:=Hn (s:=s) (gone:=false) (code:=code) hI h h1
 refine { hd with kp:=?_ }
 show(gA s.rv (if bD m.x=1 then(gT m.y:Nat) else 0)).us+tE (s.l.eraseIdx (cE m.id s.l))≤(gA s.rv (if bD m.x=1 then(gT m.y:Nat) else 0)).got
 rw[h2]
 have hkb:kb m=if bD m.x=1 then gT m.y else 0:=rfl
 unfold gA
 by_cases hx:bD m.x=1
 ·rw[if_pos hx] at hkb
  simp only[if_pos hx]
  split
  ·dsimp only;omega
  ·omega
 ·rw[if_neg hx] at hkb
  simp only[if_neg hx]
  split
  ·dsimp only;omega
  ·omega
theorem qO (hI:bU B s) (h:fX c s):fX c (kZ w st s):=by
 unfold kZ
 split
 ·exact hQ hI h
 ·cases hm:cB st s.l with
  |none=>exact DR hI h ⟨rfl,by show(4:Int)≠10;decide,by show(4:Int)≠11;decide⟩
  |some m=>exact DR (sE hI hm) (DD hI h hm) ⟨rfl,by show(4:Int)≠10;decide,by show(4:Int)≠11;decide⟩
theorem Dt (hI:bU B s) (h:fX c s) (hm:cB m.id s.l=some m):fX c (lK m s):=by
 unfold lK
 split
 ·exact Hn hI h hm
 ·exact h
theorem K4 {j:Int} (hi:l[i]?=some m) (hid:m'.id=m.id) (hx:bD m'.x=bD m.x):(∃m∈l,m.id=j∧bD m.x=1)↔∃z∈l.set i m',z.id=j∧bD z.x=1:=by
 have e:(l.set i m').map (fun z=>(z.id,bD z.x))=l.map fun z=>(z.id,bD z.x):=by
  rw[List.map_set,hid,hx]
  exact kE i (by rw[List.getElem?_map,hi];rfl)
 have q:∀l:List Sm,(∃m∈l,m.id=j∧bD m.x=1)↔(j,(1:Int))∈l.map fun z=>(z.id,bD z.x):=fun l=>by
  simp only[List.mem_map,Prod.mk.injEq]
 rw[q,q,e]
theorem yK (h:fX c s) (hi:s.l[i]?=some m) (hid:m'.id=m.id) (ho:m'.own=m.own) (hm:Pv c s.sh.g m') (hk:kb m'≤kb m) (hx:bD m'.x=bD m.x):fX c { s with l:=s.l.set i m' }:=
 { h with
   tn:=fun j hj=>by
    obtain⟨z,hz,hzi⟩:=h.tn j hj
    have e:=CB (m':=m') hi hid
    have h1:j∈(s.l.set i m').map Sm.id:=by rw[e,← hzi];exact List.mem_map_of_mem hz
    obtain⟨z',hz',e'⟩:=List.mem_map.1 h1
    exact⟨z',hz',e'⟩
   cl:=fun ho=>by
    have:=h.cl ho
    rw[this] at hi;cases hi
   mo:=fun z hz=>by
    rcases List.mem_or_eq_of_mem_set hz with hz|rfl
    ·exact h.mo z hz
    ·exact hm
   nf:=by
    have h1:=h.nf
    unfold fG at h1
    show(((s.l.set i m').filter fun m=>m.own == false).length:Int)≤s.sh.g.st
    rw[Mb hi ho];exact h1
   kp:=by
    have h1:=h.kp
    have h2:=LL (m':=m') hi
    show s.rv.us+tE (s.l.set i m')≤s.rv.got
    omega
   lk:=fun j=>(h.lk j).trans (K4 hi hid hx) }
theorem L0 (h:fX c s) (hk:k+s.rv.us+tE s.l≤s.rv.got) (h0:0≤k):fX c { s with rv:=gA s.rv k }:=
 { h with
   kp:=by
    show(gA s.rv k).us+tE s.l≤(gA s.rv k).got
    unfold gA
    split
    ·dsimp only;omega
    ·omega }
end
section
variable {s:Cn} {B id n k code w o st kind on sg:Int} {gone own xx:Bool} {m m':Sm} {l:List Sm} {i:Nat} {c:Cf} {f:Fm} {g:eJ} {t:eJ} {u:List UInt8}
theorem Ag4 {d:ByteArray} {e:Bool} {tt:Int} (hk:bD m.x=jI m.y) (hw:gZ m tt d e=0):(kb (fT m d e):Int)≤kb m+(if tt=0 then(d.size:Int) else 0):=by
 have ht:tt=bD m.x - 1:=by
  by_cases h:tt=bD m.x - 1
  ·exact h
  ·unfold gZ at hw
   rw[if_pos h] at hw;cases hw
 unfold kb fT
 by_cases hx:bD m.x=1
 ·simp only[if_pos hx]
  cases hy:m.y with
  |b y=>
   have:d.data.toList.length=d.size:=Array.length_toList
   simp only[B9,gT,List.length_append]
   rw[if_pos (by omega)]
   omega
  |i y=>rw[hy,hx] at hk;cases hk
 ·simp only[if_neg hx]
  split <;> omega
theorem Yd {d:ByteArray} {e:Bool} (h:Pv c g m):Pv c g (fT m d e):=by
 obtain⟨h1,h2,h3,h4⟩:=h
 refine⟨?_,h2,?_,h4⟩
 ·show Hm g (B9 m.y d e)
  cases hy:m.y with
  |b y=>rw[hy] at h1;exact h1
  |i y=>
   rw[hy] at h1
   show(if d≠⟨#[]⟩∨e=false then({ y with op:=y.op - 1,l:=y.l++ [d],ac:=y.ac+1,en:=e }:YI) else { y with en:=true }).mr≤g.it
   split <;> exact h1
 ·show bD m.x=jI (B9 m.y d e)
  cases hy:m.y with
  |b y=>rw[hy] at h3;exact h3
  |i y=>rw[hy] at h3;exact h3
theorem Yq (hI:bU B s) (h:fX c s) (hB:B+300≤250000000) (hd:f.d.size≤256):fX c (uE f s):=by
 have hk:0≤(if f.t=0 then((f.d.size:Nat):Int) else 0)∧(if f.t=0 then((f.d.size:Nat):Int) else 0)≤300:=by split <;> omega
 have hkp:=h.kp
 unfold uE
 cases hm:cB f.st s.l with
 |none=>
  dsimp only
  generalize (if f.t=0 then((f.d.size:Nat):Int) else 0)=kk at hk ⊢
  by_cases hg:lJ s.rv kk=0
  ·rw[if_neg (fun q=>q hg)]
   have e:gJ s.rv kk= { s.rv with got:=s.rv.got+kk }:=if_pos hg
   rw[e]
   exact L0 (s:= { s with rv:= { s.rv with got:=s.rv.got+kk } }) { h with kp:=by show s.rv.us+tE s.l≤s.rv.got+kk;omega } (by show kk+s.rv.us+tE s.l≤s.rv.got+kk;omega) hk.1
  ·rw[if_pos hg];exact hQ hI h
 |some m=>
  obtain⟨hi,hmid⟩:=aU hm
  dsimp only
  by_cases hw:gZ m f.t f.d f.e=0
  ·have hkc:=Ag4 (h.mo m (List.mem_of_getElem? hi)).ok hw
   generalize (if f.t=0 then((f.d.size:Nat):Int) else 0)=kk at hk hkc ⊢
   generalize (if f.t=1∧(f.d≠⟨#[]⟩∨f.e=false) then(1:Int) else kk)=nn
   by_cases hg:lJ s.rv kk=0
   ·rw[if_neg (fun q=>q hg),if_neg (fun q=>q hw),eL (id:=f.st) (show(fT m f.d f.e).id=f.st from hmid)]
    have e:gJ s.rv kk= { s.rv with got:=s.rv.got+kk }:=if_pos hg
    have hI2:=xO (mv:=⟨2,f.st,nn,f.d,f.e⟩) (e:=f.e) hI hm hk hB hd
    have hS:fX c { s with l:=s.l.set (cE f.st s.l) m }:=by
     rw[kE _ hi];exact h
    refine Dt hI2 ?_ (mB hm rfl)
    have hset:=LL (m':=fT m f.d f.e) hi
    have hb:fX c { s with l:=s.l.set (cE f.st s.l) (fT m f.d f.e),rv:= { s.rv with got:=s.rv.got+kk } }:= {
     cfe:=h.cfe,fo:=h.fo,hg:=h.hg,ls:=h.ls
     tn:=fun j hj=>by
      obtain⟨z,hz,hzi⟩:=h.tn j hj
      have e:=CB (m':=fT m f.d f.e) hi rfl
      have h1:j∈(s.l.set (cE f.st s.l) (fT m f.d f.e)).map Sm.id:=by rw[e,← hzi];exact List.mem_map_of_mem hz
      obtain⟨z',hz',e'⟩:=List.mem_map.1 h1
      exact⟨z',hz',e'⟩
     cl:=fun ho=>by
      have:=h.cl ho
      rw[this] at hi;cases hi
     mo:=fun z hz=>by
      rcases List.mem_or_eq_of_mem_set hz with hz|rfl
      ·exact h.mo z hz
      ·exact Yd (h.mo m (List.mem_of_getElem? hi))
     nf:=by
      have h1:=h.nf
      unfold fG at h1
      show(((s.l.set (cE f.st s.l) (fT m f.d f.e)).filter fun m=>m.own == false).length:Int)≤s.sh.g.st
      rw[Mb (m':=fT m f.d f.e) hi rfl];exact h1
     kp:=by
      show s.rv.us+tE (s.l.set (cE f.st s.l) (fT m f.d f.e))≤s.rv.got+kk
      omega
     lk:=fun j=>(h.lk j).trans (K4 (m':=fT m f.d f.e) hi rfl rfl) }
    rw[e]
    exact { hb with }
   ·rw[if_pos hg];exact hQ hI h
  ·generalize (if f.t=0 then((f.d.size:Nat):Int) else 0)=kk at hk ⊢
   by_cases hg:lJ s.rv kk=0
   ·rw[if_neg (fun q=>q hg),if_pos hw]
    refine qO (pU (Bj hI hk hB)) ?_
    have e:gJ s.rv kk= { s.rv with got:=s.rv.got+kk }:=if_pos hg
    rw[e]
    exact L0 (s:= { s with rv:= { s.rv with got:=s.rv.got+kk } }) { h with kp:=by show s.rv.us+tE s.l≤s.rv.got+kk;omega } (by show kk+s.rv.us+tE s.l≤s.rv.got+kk;omega) hk.1
   ·rw[if_pos hg];exact hQ hI h
theorem Sp {cf:Cf} {h:eJ}:(iB cf h id kind sg own).id=id:=by unfold iB;split <;> rfl
theorem Aeq {cf:Cf} {h:eJ}:(iB cf h id kind sg own).own=own:=by unfold iB;split <;> rfl
theorem Qc {z:Sm} (h:z∈l):z∈kS m l:=by
 unfold kS
 rw[← List.take_append_drop (cE m.id l) l] at h
 rcases List.mem_append.1 h with h|h
 ·exact List.mem_append_left _ h
 ·exact List.mem_append_right _ (List.mem_cons_of_mem _ h)
theorem Qs:m∈kS m l:=List.mem_append_right _ (List.mem_cons_self ..)
theorem N8 {cf:Cf} {h:eJ}:bD (iB cf h id kind sg own).x=1↔kind=1:=by
 unfold iB
 split
 ·rename_i hk;exact⟨fun _=>hk,fun _=>rfl⟩
 ·rename_i hk;exact⟨fun q=>absurd (show(2:Int)=1 from q) (by decide),fun q=>absurd q hk⟩
theorem Afl (hI:bU B s) (h:fX c s):s.ld.l.length≤s.l.length:=by
 have hn:(s.ld.l.map hZ.id).Nodup:=by
  have:(s.ld.l.map hZ.id).Pairwise (·<·):=List.pairwise_map.2 hI.ld.2.1
  exact this.imp fun hab e=>by omega
 have h1:=List.Nodup.length_le_of_subset (l₂:=s.l.map Sm.id) hn fun j hj=>by
  obtain⟨m,hm,hid,_⟩:=(h.lk j).1 hj
  exact List.mem_map.2 ⟨m,hm,hid⟩
 rwa[List.length_map,List.length_map] at h1
theorem TG (hI:bU B s) (h:fX c s) (hat:cB id s.l=none) (hl:s.l.length<64) (hid:1≤id∧id≤2147483647) (ho:s.dr.ov=false) (hn:own=false→(fG s false:Int)<s.sh.h.st):fX c (G5 id kind on w xx own sg s):=
 { h with
   tn:=fun j hj=>by
    rcases Agx hI.tr hj with hj|hj
    ·exact⟨_,Qs,by rw[Sp];exact hj.symm⟩
    ·obtain⟨z,hz,hzi⟩:=h.tn j hj
     exact⟨z,Qc hz,hzi⟩
   cl:=fun hq=>by
    have hq:s.dr.ov=true:=hq
    rw[ho] at hq;cases hq
   mo:=fun z hz=>by
    rcases AO hz with rfl|hz
    ·have h1:=h.hg.1
     have h2:=hI.cf
     have h3:=h.cfe
     unfold Nj at h1
     unfold iB
     split
     ·refine⟨h1.1,?_,rfl,trivial⟩
      show((s.cf.sb.toNat:Nat):Int)≤c.sb
      rw[← h3];omega
     ·refine⟨h1.2.2,?_,rfl,fun d hd=>by cases hd⟩
      show((s.cf.si.toNat:Nat):Int)≤c.si
      rw[← h3];omega
    ·exact h.mo z hz
   nf:=by
    have h1:=h.nf
    have h2:=h.hg.1
    unfold Nj at h2
    show(((kS (iB s.cf s.sh.h id kind sg own) s.l).filter fun m=>m.own == false).length:Int)≤s.sh.g.st
    rw[TK,Aeq]
    unfold fG at h1 hn
    split
    ·rename_i hb
     have hb:own=false:=by simpa using hb
     have:=hn hb
     omega
    ·omega
   kp:=by
    have h1:=h.kp
    have h2:kb (iB s.cf s.sh.h id kind sg own)=0:=by
     unfold iB
     split
     ·rfl
     ·rfl
    show s.rv.us+tE (kS (iB s.cf s.sh.h id kind sg own) s.l)≤s.rv.got
    rw[Ae9,h2];omega
   lk:=fun j=>by
    have hno:=Na hI.sm hat
    have hnl:id ∉ s.ld.l.map hZ.id:=fun q=>by
     obtain⟨z,hz,hzi,_⟩:=(h.lk id).1 q
     exact hno z hz hzi
    have hlen:=Afl hI h
    have hput:(∃m∈kS (iB s.cf s.sh.h id kind sg own) s.l,m.id=j∧bD m.x=1)↔(j=id∧kind=1)∨∃m∈s.l,m.id=j∧bD m.x=1:=by
     constructor
     ·rintro⟨z,hz,hzi,hzk⟩
      rcases AO hz with rfl|hz
      ·exact .inl ⟨by rw[← hzi,Sp],N8.1 hzk⟩
      ·exact .inr ⟨z,hz,hzi,hzk⟩
     ·rintro(⟨rfl,hk⟩|⟨z,hz,hzi,hzk⟩)
      ·exact⟨_,Qs,Sp,N8.2 hk⟩
      ·exact⟨z,Qc hz,hzi,hzk⟩
    show j∈(if kind=1 then lN id s.pe.w s.ld else s.ld).l.map hZ.id↔∃m∈kS (iB s.cf s.sh.h id kind sg own) s.l,m.id=j∧bD m.x=1
    rw[hput,← h.lk]
    by_cases hk:kind=1
    ·rw[if_pos hk,Abk hI.ld hid (Z2 hI.pe.1) hnl (by omega)]
     simp[hk]
    ·rw[if_neg hk]
     simp[hk] }
theorem QQ (hI:bU B s) (h:fX c s) (hB:B+300≤250000000):fX c (pY f s):=by
 have hm:=hI.mono (B':=B+300) (by omega) hB
 unfold pY
 by_cases hp:p8 s.sd s.la f.st=0
 ·rw[if_neg (fun q=>q hp)]
  have L2:=IL hm hp
  have h1:fX c { s with la:=f.st }:= { h with }
  split
  ·exact hQ L2 h1
  ·split
   ·exact qO L2 h1
   ·rename_i hdt
    split
    ·exact qO L2 h1
    ·rename_i ho
     have hov:s.dr.ov=false:=by
      cases hq:s.dr.ov
      ·rfl
      ·exact absurd (by unfold CV;rw[hq];rfl) hdt
     have h2:=TG (id:=f.st) (kind:=f.k) (on:=f.on) (w:=f.w) (xx:=f.x) (sg:=s.cf.sg) (own:=false) L2 h1 (show cB f.st s.l=none from EQ hI hp) (show s.l.length<64 from(IX hI ho).1) (qL hI.sd hp).1 hov (fun _=>by show(fG s false:Int)<s.sh.h.st;omega)
     exact { h2 with }
 ·rw[if_pos hp];exact hQ hm h
theorem Zm {n:Int} (h:Pv c g m):Pv c g { m with x:=qA m.x n }:=by
 obtain⟨h1,h2,h3,h4⟩:=h
 refine⟨h1,?_,by show bD (qA m.x n)=jI m.y;rw[Gl];exact h3,?_⟩
 ·show Ab6 c (qA m.x n)
  cases hx:m.x with
  |b z=>rw[hx] at h2;exact h2
  |i z=>
   rw[hx] at h2
   show((if 1≤n then { z with w:=z.w+min n (2147483647 - z.w) } else z).cap:Int)≤c.si
   split <;> exact h2
 ·show xSz (qA m.x n)
  cases hx:m.x with
  |b z=>trivial
  |i z=>
   rw[hx] at h4
   show ∀d∈(if 1≤n then { z with w:=z.w+min n (2147483647 - z.w) } else z).l,d.size≤256
   split <;> exact h4
theorem OJ (hI:bU B s) (h:fX c s) (hm:cB f.st s.l=some m):fX c (mK f m s):=by
 obtain⟨hi,hmid⟩:=aU hm
 unfold mK
 split
 ·exact qO hI h
 ·split
  ·exact qO hI h
  ·split
   ·split
    ·exact qO hI h
    ·exact { h with lk:=fun j=>by show j∈(qC f.st f.n s.ld).l.map hZ.id↔_;rw[P2];exact h.lk j }
   ·split
    ·exact qO hI h
    ·rw[eL (id:=f.st) (show({ m with x:=qA m.x f.n }:Sm).id=f.st from hmid)]
     refine yK (s:= { s with sl:=iZ s.sl s.now }) { h with } hi rfl rfl (Zm (h.mo m (List.mem_of_getElem? hi))) ?_ ?_
     ·unfold kb
      show(if bD (qA m.x f.n)=1 then gT m.y else 0)≤_
      rw[Gl];exact Nat.le_refl _
     ·exact Gl
theorem VV (hI:bU B s) (h:fX c s):fX c (tP f s):=by
 unfold tP
 split
 ·exact hQ hI h
 ·split
  ·exact hQ hI h
  ·exact { h with lk:=fun j=>by show j∈(qC 0 f.n s.ld).l.map hZ.id↔_;rw[P2];exact h.lk j }
theorem Ace (hI:bU B s) (h:fX c s):fX c (yE f s):=by
 unfold yE
 cases hp:XK s.pe f.ps with
 |none=>exact hQ hI h
 |some t=>
  dsimp only
  split
  ·exact hQ hI h
  ·exact DR (Mg hI (Mj hI.pe hp) (M5 hI.ld)) { h with lk:=fun j=>by show j∈(tH s.pe.w t.w s.ld).l.map hZ.id↔_;rw[Ad7];exact h.lk j } ⟨rfl,by show(6:Int)≠10;decide,by show(6:Int)≠11;decide⟩
theorem Aez {q:eJ} (hq:Nj q g) (h:Pv c g m):Pv c g { m with y:=Do m.y q }:=by
 obtain⟨h1,h2,h3,h4⟩:=h
 unfold Nj at hq
 refine⟨?_,h2,by show bD m.x=jI (Do m.y q);rw[X2];exact h3,h4⟩
 show Hm g (Do m.y q)
 cases hy:m.y with
 |b z=>rw[hy] at h1;show max z.most q.w≤g.w;have:z.most≤g.w:=h1;omega
 |i z=>rw[hy] at h1;show max z.mr q.it≤g.it;have:z.mr≤g.it:=h1;omega
theorem JY {j:Int} {q:Sm→Sm} (h1:∀m,(q m).id=m.id) (h2:∀m,bD (q m).x=bD m.x):(∃m∈l,m.id=j∧bD m.x=1)↔∃z∈l.map q,z.id=j∧bD z.x=1:=by
 constructor
 ·rintro⟨z,hz,hzi,hzk⟩
  exact⟨q z,List.mem_map_of_mem hz,by rw[h1];exact hzi,by rw[h2];exact hzk⟩
 ·rintro⟨z,hz,hzi,hzk⟩
  obtain⟨y,hy,rfl⟩:=List.mem_map.1 hz
  exact⟨y,hy,by rw[← h1];exact hzi,by rw[← h2];exact hzk⟩
theorem V8 (hI:bU B s) (h:fX c s):fX c (tJ s):=by
 unfold tJ
 split
 ·exact hQ hI h
 ·rename_i hE
  obtain⟨hg1,hg2⟩:=h.hg
  have hg:Nj (dG s.sh).h (dG s.sh).g∧∀t∈(dG s.sh).l,Nj t (dG s.sh).g:=by
   unfold dG
   cases hl:s.sh.l with
   |nil=>exact⟨hg1,hg2⟩
   |cons q r=>
    rw[hl] at hg2
    exact⟨hg2 q (List.mem_cons_self ..),fun z hz=>hg2 z (List.mem_cons_of_mem _ hz)⟩
  have e:(dG s.sh).g=s.sh.g:=by
   unfold dG
   cases s.sh.l <;> rfl
  have hkb:∀m:Sm,kb ({ m with y:=Do m.y (dG s.sh).h }:Sm)=kb m:=fun m=>by
   unfold kb
   cases hy:m.y <;> rfl
  exact { h with
   tn:=fun j hj=>by
    obtain⟨z,hz,hzi⟩:=h.tn j hj
    exact⟨_,List.mem_map_of_mem hz,hzi⟩
   cl:=fun ho=>by
    show s.l.map _= []
    rw[h.cl ho];rfl
   mo:=fun z hz=>by
    obtain⟨m,hm,rfl⟩:=List.mem_map.1 hz
    show Pv c (dG s.sh).g _
    have h1:=h.mo m hm
    rw[← e] at h1
    exact Aez hg.1 h1
   hg:=hg
   nf:=by
    have h1:=h.nf
    unfold fG at h1
    show(((s.l.map fun m=>({ m with y:=Do m.y (dG s.sh).h }:Sm)).filter fun m=>m.own == false).length:Int)≤(dG s.sh).g.st
    rw[nP,List.map_map,e]
    rw[nP] at h1
    exact h1
   kp:=by
    have h1:=h.kp
    show s.rv.us+tE (s.l.map fun m=>({ m with y:=Do m.y (dG s.sh).h }:Sm))≤s.rv.got
    rw[T4 hkb];exact h1
   lk:=fun j=>(h.lk j).trans (JY (q:=fun m=> { m with y:=Do m.y (dG s.sh).h }) (fun _=>rfl) fun _=>rfl) }
theorem GP:∀ {l acc:List Sm} {s:Cn},s.l=acc++l→bU B s→fX c s→fX c (oH (l.map Sm.id) s)
 | [],acc,s,he,_,h=>h
 |m::l,acc,s,he,hI,h=>by
  have hlt:=S5 (by rw[← he];exact hI.sm)
  have hm:cB m.id s.l=some m:=by rw[he];exact GL hlt
  rw[List.map_cons,JC hm]
  split
  ·refine GP (l:=l) (acc:=acc) ?_ (sE hI hm) (DD hI h hm)
   show s.l.eraseIdx (cE m.id s.l)=acc++l
   rw[he];exact Ew hlt
  ·exact GP (l:=l) (acc:=acc++ [m]) (by rw[he];simp) hI h
theorem Z8 {d:Dr} {la co:Int} (h:d.ov=true):(p9 d la co).ov=true:=by
 unfold p9
 split
 ·exact h
 ·split
  ·rfl
  ·exact h
theorem Acd (hI:bU B s) (h:fX c s):fX c (yJ f s):=by
 unfold yJ
 split
 ·exact HM (q:=s.last) hI h h.ls
 ·rename_i hov
  have ho:s.dr.ov=false:=by
   cases hq:s.dr.ov
   ·rfl
   ·exact absurd (Z8 hq) hov
  refine GP (acc:= []) rfl (Fi hI) ?_
  exact { h with cl:=fun hq=>absurd hq hov }
theorem Ug {id on w:Int} {xx:Bool} (hI:bU B s) (h:fX c s):fX c { s with tr:=kT id on w xx s.tr }:= { h with tn:=fun j hj=>h.tn j (Ae0 hI.tr hj) }
theorem Vn (hI:bU B s) (h:fX c s):fX c (kY f s):=by
 unfold kY
 split
 ·exact hQ hI h
 ·cases hm:cB f.st s.l with
  |none=>exact h
  |some m=>
   dsimp only
   split
   ·exact Ug hI h
   ·split
    ·exact DD hI h hm
    ·exact OJ hI h hm
theorem SX (hI:bU B s) (h:fX c s) (hB:B+300≤250000000) (hr:dB f):fX c (bS f s):=by
 have hh:=iI hI
 have hk:fX c { s with bt:=bQ s.bt s.now }:= { h with }
 have hm:=hh.mono (B':=B+300) (by omega) hB
 unfold bS f7
 split
 ·exact Ace hm hk
 ·split
  ·exact V8 hm hk
  ·split
   ·exact DR hm hk ⟨rfl,by show(8:Int)≠10;decide,by show(8:Int)≠11;decide⟩
   ·split
    ·exact { hk with }
    ·split
     ·exact Acd hm hk
     ·split
      ·exact QQ hh hk hB
      ·split
       ·exact VV hm hk
       ·split
        ·exact hQ hm hk
        ·split
         ·rename_i ht
          exact Yq hh hk hB (hr.2.2.2.2.2.2.2.2.2.2.2.2.1 (by omega))
         ·exact Vn hm hk
theorem FG:∀ {fs:List Fm} {s:Cn} {B:Int},bU B s→fX c s→(∀f∈fs,dB f)→B+300 * fs.length≤250000000→fX c (eD fs s)
 | [],s,B,_,h,_,hB=>h
 |f::r,s,B,hI,h,hr,hB=>by
  have e:(f::r).length=r.length+1:=rfl
  rw[e] at hB
  have h1:=Cg hI (by omega) (hr f (List.mem_cons_self ..))
  have h2:=SX hI h (by omega) (hr f (List.mem_cons_self ..))
  unfold eD
  split
  ·exact h2
  ·exact FG h1 h2 (fun z hz=>hr z (List.mem_cons_of_mem _ hz)) (by omega)
theorem Zs {bs:List UInt8} (h:(pF bs).2.2=0):(pF bs).2.1.length≤265:=by
 have h1:=(Uh bs.length bs (Nat.le_refl _)).1
 rw[h] at h1
 rw[← pI]
 unfold Dh at h1
 split at h1
 ·omega
 ·split at h1
  ·split at h1
   ·rename_i hf
    have:=(Lq hf).2
    split at h1
    ·omega
    ·split at h1
     ·cases h1
     ·rename_i hg;exact absurd (Option.some.inj h1) hg
   ·rename_i hf;exact absurd (Option.some.inj h1) hf
  ·cases h1
def pK (s:Cn):Int×List UInt8:=(s.ine,s.inb)
theorem Qm:∀ {l:List Int} {s:Cn},pK (rJ code l s)=pK s
 | [],_=>rfl
 |a::l,s=>Qm (l:=l) (s:=mE a code false s)
theorem PY:pK (vV s)=pK s:=Qm (code:=s.dr.co) (l:=s.l.map Sm.id) (s:=s)
theorem jZ:pK (i3 w o s)=pK s:=PY
theorem MM:pK (uG f s)=pK s:=by
 unfold uG
 split
 ·rfl
 ·exact jZ
theorem uC:pK (kZ w st s)=pK s:=by
 unfold kZ
 split
 ·exact jZ
 ·rw[MM]
  split
  ·rfl
  ·rfl
theorem By:pK (lK m s)=pK s:=by unfold lK;split <;> rfl
theorem Afk:pK (uE f s)=pK s:=by
 unfold uE
 generalize (if f.t=0 then((f.d.size:Nat):Int) else 0)=kk
 generalize (if f.t=1∧(f.d≠⟨#[]⟩∨f.e=false) then(1:Int) else kk)=nn
 split
 ·exact jZ
 ·split
  ·rfl
  ·split
   ·exact uC
   ·exact By
theorem U9:pK (pY f s)=pK s:=by
 unfold pY
 split
 ·exact jZ
 ·split
  ·exact jZ
  ·split
   ·exact uC
   ·split
    ·exact uC
    ·rfl
theorem Rr:pK (mK f m s)=pK s:=by
 unfold mK
 split
 ·exact uC
 ·split
  ·exact uC
  ·split
   ·split
    ·exact uC
    ·rfl
   ·split
    ·exact uC
    ·rfl
theorem ZX:pK (tP f s)=pK s:=by
 unfold tP
 split
 ·exact jZ
 ·split
  ·exact jZ
  ·rfl
theorem Af9:pK (yE f s)=pK s:=by
 unfold yE
 split
 ·exact jZ
 ·split
  ·exact jZ
  ·exact MM
theorem YT:pK (tJ s)=pK s:=by
 unfold tJ
 split
 ·exact jZ
 ·rfl
theorem UW:∀ {l:List Int} {s:Cn},pK (oH l s)=pK s
 | [],_=>rfl
 |a::l,s=>by
  unfold oH
  rw[UW (l:=l)]
  split
  ·split
   ·rfl
   ·rfl
  ·rfl
theorem Ahl:pK (yJ f s)=pK s:=by
 unfold yJ
 split
 ·exact PY
 ·exact UW
theorem Acs:pK (kY f s)=pK s:=by
 unfold kY
 split
 ·exact jZ
 ·split
  ·rfl
  ·split
   ·rfl
   ·split
    ·rfl
    ·exact Rr
theorem Ks:pK (bS f s)=pK s:=by
 unfold bS f7
 split
 ·exact Af9
 ·split
  ·exact YT
  ·split
   ·exact MM
   ·split
    ·rfl
    ·split
     ·exact Ahl
     ·split
      ·exact U9
      ·split
       ·exact ZX
       ·split
        ·exact jZ
        ·split
         ·exact Afk
         ·exact Acs
theorem Cm:∀ {l:List Fm} {s:Cn},pK (eD l s)=pK s
 | [],_=>rfl
 |f::l,s=>by
  unfold eD
  split
  ·exact Ks
  ·rw[Cm (l:=l)];exact Ks
theorem On:∀ {l:List Int} {s:Cn},(rJ code l s).dr=s.dr
 | [],_=>rfl
 |a::l,s=>On (l:=l) (s:=mE a code false s)
theorem Ec (hw:0≤w∧w≤20):(i3 w o s).dr.ov=true:=by
 have h1:=Ku (o:=o) hw
 have e:(i3 w o s).dr=B4 s.dr (l9 w o):=On
 rw[e]
 unfold B4 Gt
 cases ho:s.dr.ov
 ·have:p6 (l9 w o) 1=true:=by unfold p6;simp only[Bool.and_eq_true,decide_eq_true_eq];omega
  rw[this];rfl
 ·simp[ho]
def BX (s:Cn):Prop:=(s.dr.ov=true∨s.ine=0)∧s.inb.length≤300
theorem L1 {s s':Cn} (h:BX s) (he:pK s'=pK s) (ho:s.dr.ov=true→s'.dr.ov=true):BX s':=by
 have e1:s'.ine=s.ine:=congrArg Prod.fst he
 have e2:s'.inb=s.inb:=congrArg Prod.snd he
 unfold BX
 rw[e1,e2]
 exact⟨h.1.elim (fun q=>.inl (ho q)) .inr,h.2⟩
theorem Yx (h:BX s):BX (eB u s):=by
 unfold eB
 split
 ·rename_i ho
  exact⟨.inl ho,h.2⟩
 ·have h1:pK (eD (i9 u (aD s)).1 (i9 u (aD s)).2)=((pF (s.inb++u)).2.2,if(pF (s.inb++u)).2.2=0 then(pF (s.inb++u)).2.1 else []):=Cm
  have h2:(if(pF (s.inb++u)).2.2=0 then(pF (s.inb++u)).2.1 else []).length≤300:=by
   split
   ·rename_i h0;have:=Zs h0;omega
   ·simp
  split
  ·rename_i hq
   have e1:=congrArg Prod.fst h1
   have e2:=congrArg Prod.snd h1
   refine⟨hq.elim .inl fun q=>.inr ?_,?_⟩
   ·rw[← q];exact e1
   ·show(pK (eD (i9 u (aD s)).1 (i9 u (aD s)).2)).2.length≤300
    rw[e2];exact h2
  ·refine⟨.inl (Ec (by decide)),?_⟩
   show(pK (i3 0 _ _)).2.length≤300
   rw[jZ,h1];exact h2
theorem Aa6 (hI:bU B s) (h:fX c s) (hB:B+u.length+300 * (pF (s.inb++u)).1.length≤250000000):fX c (eB u s):=by
 unfold eB
 split
 ·exact { h with }
 ·have h1:=IV (u:=u) hI (by omega)
  have hl:((pF (s.inb++u)).1.map KF).length=(pF (s.inb++u)).1.length:=List.length_map ..
  have hB2:B+u.length+300 * ((((pF (s.inb++u)).1.map KF).length:Nat):Int)≤250000000:=by rw[hl];exact hB
  have h2:=As (fs:=(i9 u (aD s)).1) h1 CF hB2
  have h3:=FG (c:=c) (fs:=(i9 u (aD s)).1) h1 { h with } CF hB2
  split
  ·exact h3
  ·exact hQ h2 h3
end
section
variable {s:Cn} {B id n k code w o st kind on sg:Int} {gone own xx:Bool} {m m':Sm} {l:List Sm} {i:Nat} {c:Cf} {f:Fm} {g:eJ} {t:eJ} {u:List UInt8} {d:ByteArray}
theorem cM (h:fX c s):fX c (aD s):= { h with }
theorem Af5 (h:Pv c g m):Pv c g (zG m d):=by
 obtain⟨h1,h2,h3,h4⟩:=h
 unfold zG
 split
 ·refine⟨h1,?_,?_,?_⟩
  ·show Ab6 c (AG m.x d)
   cases hx:m.x with
   |b z=>rw[hx] at h2;exact h2
   |i z=>
    rw[hx] at h2
    show((if z.en=true∨256<d.size then z else if z.l.length<z.cap then { z with l:=z.l++ [d],ac:=z.ac+1 } else if z.st=0 then z else if z.st=1∨z.cap=0 then { z with ac:=z.ac+1,dr:=z.dr+1 } else { z with l:=z.l.tail++ [d],ac:=z.ac+1,dr:=z.dr+1 }).cap:Int)≤c.si
    repeat' split
    all_goals exact h2
  ·show bD (AG m.x d)=jI m.y
   rw[← h3]
   cases hx:m.x <;> rfl
  ·show xSz (AG m.x d)
   cases hx:m.x with
   |b z=>trivial
   |i z=>
    rw[hx] at h4
    show ∀y∈(if z.en=true∨256<d.size then z else if z.l.length<z.cap then { z with l:=z.l++ [d],ac:=z.ac+1 } else if z.st=0 then z else if z.st=1∨z.cap=0 then { z with ac:=z.ac+1,dr:=z.dr+1 } else { z with l:=z.l.tail++ [d],ac:=z.ac+1,dr:=z.dr+1 }).l,y.size≤256
    split
    ·exact h4
    ·rename_i hd
     have hd:d.size≤256:=by omega
     have ap:∀ {l:List ByteArray},(∀y∈l,y.size≤256)→∀y∈l++ [d],y.size≤256:=fun hl y hy=>by
      rcases List.mem_append.1 hy with hy|hy
      ·exact hl y hy
      ·rw[List.mem_singleton.1 hy];exact hd
     repeat' split
     ·exact ap h4
     ·exact h4
     ·exact h4
     ·exact ap fun y hy=>h4 y (List.mem_of_mem_tail hy)
 ·exact⟨h1,h2,h3,h4⟩
theorem Afu (h:Pv c g m):Pv c g (z1 m):=by
 obtain⟨h1,h2,h3,h4⟩:=h
 unfold z1
 split
 ·refine⟨h1,?_,?_,?_⟩
  ·show Ab6 c (Jj m.x)
   cases hx:m.x with
   |b z=>rw[hx] at h2;exact h2
   |i z=>rw[hx] at h2;exact h2
  ·show bD (Jj m.x)=jI m.y
   rw[← h3]
   cases hx:m.x <;> rfl
  ·show xSz (Jj m.x)
   cases hx:m.x with
   |b z=>trivial
   |i z=>rw[hx] at h4;exact h4
 ·exact⟨h1,h2,h3,h4⟩
theorem TF {y:Ys} (h:Pv c g m) (h1:Hm g y) (h2:jI y=jI m.y):Pv c g { m with y:=y }:=⟨h1,h.x,h.ok.trans h2.symm,h.sz⟩
theorem W0:bD (zG m d).x=bD m.x:=by
 unfold zG
 split
 ·show bD (AG m.x d)=_
  cases m.x <;> rfl
 ·rfl
theorem VP:bD (z1 m).x=bD m.x:=by
 unfold z1
 split
 ·show bD (Jj m.x)=_
  cases m.x <;> rfl
 ·rfl
theorem Aiz:kb (zG m d)=kb m:=by
 unfold zG kb
 split
 ·show(if bD (AG m.x d)=1 then gT m.y else 0)=_
  cases hx:m.x <;> rfl
 ·rfl
theorem Ajl:kb (z1 m)=kb m:=by
 unfold z1 kb
 split
 ·show(if bD (Jj m.x)=1 then gT m.y else 0)=_
  cases hx:m.x <;> rfl
 ·rfl
theorem Afj {y:Ys} (h:Hm g y):Hm g (Ek y n):=by cases y <;> exact h
theorem Ags {y:Ys} (h:Hm g y):Hm g (EP y):=by
 cases y with
 |b y=>exact h
 |i y=>unfold EP;dsimp only;split <;> exact h
theorem Aci {y:Ys} (h:Hm g y):Hm g (F1 y n):=by
 cases y with
 |b y=>exact h
 |i y=>unfold F1;dsimp only;split <;> exact h
theorem Wi (h:fX c s):fX c (lW id d s):=by
 unfold lW
 split
 ·exact cM h
 ·split
  ·rename_i m hm
   obtain⟨hi,hmid⟩:=aU hm
   rw[eL (id:=id) (Bl.trans hmid)]
   exact yK (s:=aD s) (cM h) hi Bl Nn (Af5 (h.mo m (List.mem_of_getElem? hi))) (by rw[Aiz];exact Nat.le_refl _) W0
  ·exact h
theorem Aek (h:fX c s):fX c (y5 id s):=by
 unfold y5
 split
 ·exact cM h
 ·split
  ·rename_i m hm
   obtain⟨hi,hmid⟩:=aU hm
   rw[eL (id:=id) (AJ.trans hmid)]
   exact yK (s:=aD s) (cM h) hi AJ Oj (Afu (h.mo m (List.mem_of_getElem? hi))) (by rw[Ajl];exact Nat.le_refl _) VP
  ·exact h
theorem Ala (hk:bD m.x=jI m.y) (hE:NJ m.y=0):kb ({ m with y:=Ek m.y n }:Sm)+(BO m.y n).size=kb m:=by
 unfold kb
 cases hy:m.y with
 |b z=>
  rw[hy] at hk
  have hk:bD m.x=1:=hk
  have e:(BO (.b z) n).size=min (Mo z n) z.bs.length:=by
   show((z.bs.take (Mo z n)).toArray).size=_
   simp
  simp only[if_pos hk,Ek,gT,List.length_drop]
  rw[e];omega
 |i z=>rw[hy] at hE;cases hE
theorem Aaj (hI:bU B s) (h:fX c s):fX c (mG id n s):=by
 unfold mG
 split
 ·exact cM h
 ·split
  ·rename_i m hm
   obtain⟨hi,hmid⟩:=aU hm
   split
   ·exact cM h
   ·rename_i hE
    have hE:NJ m.y=0:=by simpa using hE
    have hmo:=h.mo m (List.mem_of_getElem? hi)
    rw[eL (id:=id) (show({ m with y:=Ek m.y n }:Sm).id=id from hmid)]
    have hI2:bU B { ({ aD s with rv:=gA s.rv ((BO m.y n).size:Nat) }:Cn) with l:=s.l.set (cE id s.l) { m with y:=Ek m.y n } }:=lP (s:= { aD s with rv:=gA s.rv ((BO m.y n).size:Nat) }) (pU (bH hI)) hi rfl rfl (Sn (hI.st m (List.mem_of_getElem? hi)))
    have hkb:=Ala (n:=n) hmo.ok hE
    have hset:=LL (m':= { m with y:=Ek m.y n }) hi
    have hkp:=h.kp
    have h1:fX c { aD s with l:=s.l.set (cE id s.l) { m with y:=Ek m.y n } }:=yK (s:=aD s) (cM h) hi rfl rfl (TF hmo (Afj hmo.y) Ahz) (by omega) rfl
    have h2:=L0 (s:= { aD s with l:=s.l.set (cE id s.l) { m with y:=Ek m.y n } }) (k:=((BO m.y n).size:Nat)) h1 (by show _+s.rv.us+tE (s.l.set (cE id s.l) { m with y:=Ek m.y n })≤s.rv.got;omega) (by omega)
    exact Dt hI2 { h2 with } (mB (m':= { m with y:=Ek m.y n }) hm rfl)
  ·exact h
theorem Abq (hI:bU B s) (h:fX c s):fX c (pR id s):=by
 unfold pR
 split
 ·exact cM h
 ·split
  ·rename_i m hm
   obtain⟨hi,hmid⟩:=aU hm
   split
   ·exact cM h
   ·have hmo:=h.mo m (List.mem_of_getElem? hi)
    rw[eL (id:=id) (show({ m with y:=EP m.y }:Sm).id=id from hmid)]
    have hI2:bU B { aD s with l:=s.l.set (cE id s.l) { m with y:=EP m.y } }:=lP (s:=aD s) (bH hI) hi rfl rfl (RQ (hI.st m (List.mem_of_getElem? hi)))
    refine Dt hI2 (yK (s:=aD s) (cM h) hi rfl rfl (TF hmo (Ags hmo.y) Ahw) ?_ rfl) (mB (m':= { m with y:=EP m.y }) hm rfl)
    unfold kb
    have hok:=hmo.ok
    cases hy:m.y with
    |b z=>exact Nat.le_refl _
    |i z=>
     rw[hy] at hok
     have hok:bD m.x=2:=hok
     simp[hok]
  ·exact h
theorem Ahf (h:fX c s):fX c (yZ id n s):=by
 unfold yZ
 split
 ·exact cM h
 ·split
  ·rename_i m hm
   obtain⟨hi,hmid⟩:=aU hm
   have hmo:=h.mo m (List.mem_of_getElem? hi)
   rw[eL (id:=id) (show({ m with y:=F1 m.y n }:Sm).id=id from hmid)]
   refine yK (s:=aD s) (cM h) hi rfl rfl (TF hmo (Aci hmo.y) Aby) ?_ rfl
   unfold kb
   have hok:=hmo.ok
   cases hy:m.y with
   |b z=>exact Nat.le_refl _
   |i z=>
    rw[hy] at hok
    have hok:bD m.x=2:=hok
    simp[hok]
  ·exact h
theorem ZM (hI:bU B s) (h:fX c s):fX c (sU id on w xx s):=by
 unfold sU
 split
 ·exact cM h
 ·exact Ug (s:= { aD s with out:=zA (s5 id on w xx) s.out }) (rI (bH hI)) (AW (cM h) ⟨rfl,(by show(3:Int)≠10;decide),(by show(3:Int)≠11;decide)⟩)
theorem Wm (hI:bU B s) (h:fX c s):fX c (nN id n s):=by
 unfold nN
 split
 ·exact cM h
 ·split
  ·rename_i m hm
   exact DD (s:= { aD s with out:=zA (mN id n) s.out }) (rI (bH hI)) (AW (cM h) ⟨rfl,(by show(4:Int)≠10;decide),(by show(4:Int)≠11;decide)⟩) hm
  ·exact h
theorem JJ {z:Dr} {la:Int}:(EY z la).ov=z.ov:=by unfold EY;split <;> rfl
theorem Aja (h:fX c s):fX c (Ey s):=by
 unfold Ey
 split
 ·exact cM h
 ·exact { AW (f:=Eu s.la 0) (cM h) ⟨rfl,(by show(9:Int)≠10;decide),(by show(9:Int)≠11;decide)⟩ with
   cl:=fun ho=>h.cl (by rw[← ho];exact JJ.symm) }
theorem Aat (h:fX c s):fX c (wV t s):=by
 unfold wV
 split
 ·exact cM h
 ·obtain⟨h1,h2⟩:=h.hg
  unfold Nj at h1
  have hnf:=h.nf
  have e:(eK s.sh t).h=s.sh.h:=by unfold eK;split <;> rfl
  have eg:s.sh.g.w≤(eK s.sh t).g.w∧s.sh.g.st≤(eK s.sh t).g.st∧s.sh.g.it≤(eK s.sh t).g.it:=by
   unfold eK
   split
   ·simp only[MK];omega
   ·omega
  exact { AW (f:=JV (MA (rM s.sh) t)) (cM h) ⟨rfl,(by show(5:Int)≠10;decide),(by show(5:Int)≠11;decide)⟩ with
   mo:=fun m hm=>by
    obtain⟨q1,q2,q3,q4⟩:=h.mo m hm
    refine⟨?_,q2,q3,q4⟩
    show Hm (eK s.sh t).g m.y
    cases hy:m.y with
    |b y=>rw[hy] at q1;have:y.most≤s.sh.g.w:=q1;show y.most≤_;omega
    |i y=>rw[hy] at q1;have:y.mr≤s.sh.g.it:=q1;show y.mr≤_;omega
   hg:=by
    refine⟨?_,fun z hz=>?_⟩
    ·show Nj (eK s.sh t).h (eK s.sh t).g
     rw[e];unfold Nj;omega
    ·show Nj z (eK s.sh t).g
     have hz:z∈(eK s.sh t).l:=hz
     by_cases hq:iU s.sh t=0
     ·have el:(eK s.sh t).l=s.sh.l++ [t]:=by unfold eK;rw[if_pos hq]
      have eg2:(eK s.sh t).g=MK s.sh.g t:=by unfold eK;rw[if_pos hq]
      rw[el] at hz
      rcases List.mem_append.1 hz with hz|hz
      ·have:=h2 z hz
       unfold Nj at this ⊢;omega
      ·rw[List.mem_singleton.1 hz,eg2]
       unfold Nj;simp only[MK];omega
     ·have el:eK s.sh t=s.sh:=by unfold eK;rw[if_neg hq]
      rw[el] at hz ⊢;exact h2 z hz
   nf:=by
    show(fG s false:Int)≤(eK s.sh t).g.st
    omega }
theorem Zl (h:fX c s):fX c (sV s):= { h with }
theorem X4 (hI:bU B s) (h:fX c s):fX c (l5 kind sg on w xx s):=by
 unfold l5
 split
 ·exact cM h
 ·rename_i hE
  have hE:iV kind sg on w xx s=0:=by simpa using hE
  obtain⟨e1,e2,e3,e4,e5,e6,e7,e8,e9⟩:=Cc hE
  have h1:=AW (f:=rA s.nx kind on w xx) (cM h) ⟨rfl,(by show(2:Int)≠10;decide),(by show(2:Int)≠11;decide)⟩
  exact TG (s:= { aD s with nx:=s.nx+2,out:=zA (rA s.nx kind on w xx) s.out }) (GY (rI (f:=rA s.nx kind on w xx) (bH hI)) e5) { h1 with } (Ep hI e5) (show s.l.length<64 from Lb hI (by omega)) ⟨by have:=hI.nx;omega,e5⟩ e1 (fun q=>by cases q)
theorem UX:(lK m s).dr=s.dr:=by unfold lK;split <;> rfl
theorem Wn (h:BX s):BX (lW id d s):=by
 unfold lW
 split
 ·exact h
 ·split <;> exact h
theorem Adb (h:BX s):BX (y5 id s):=by
 unfold y5
 split
 ·exact h
 ·split <;> exact h
theorem YS (h:BX s):BX (mG id n s):=by
 unfold mG
 split
 ·exact h
 ·split
  ·split
   ·exact h
   ·exact L1 (s:=s) h By fun ho=>by rw[UX];exact ho
  ·exact h
theorem Aad (h:BX s):BX (pR id s):=by
 unfold pR
 split
 ·exact h
 ·split
  ·split
   ·exact h
   ·exact L1 (s:=s) h By fun ho=>by rw[UX];exact ho
  ·exact h
theorem Ahc (h:BX s):BX (yZ id n s):=by
 unfold yZ
 split
 ·exact h
 ·split <;> exact h
theorem ZZ (h:BX s):BX (sU id on w xx s):=by unfold sU;split <;> exact h
theorem Vo (h:BX s):BX (nN id n s):=by
 unfold nN
 split
 ·exact h
 ·split <;> exact h
theorem Aiq (h:BX s):BX (Ey s):=by
 unfold Ey
 split
 ·exact h
 ·exact L1 (s:=s) h rfl fun ho=>by show(EY s.dr s.la).ov=true;rw[JJ];exact ho
theorem Zp (h:BX s):BX (wV t s):=by unfold wV;split <;> exact h
theorem Z7 (h:BX s):BX (sV s):=h
theorem Ab1 (h:BX s):BX (l5 kind sg on w xx s):=by unfold l5;split <;> exact h
end
end Go.Proofs.YtifgibijcmppmaaGreat
