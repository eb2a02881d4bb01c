/- A part of the proof: lemmas; each with the conditions that it states. -/
import Derived.Test.YtepnmcipkangkaaGreatCbg
set_option linter.unusedVariables false
set_option linter.unusedSimpArgs false
set_option maxRecDepth 100000
set_option maxHeartbeats 40000000
namespace Go.Proofs.YtepnmcipkangkaaGreat
open Go Go.Proofs Go.Sl
attribute [local irreducible] aN fL cL bM aL aR aA dJ dK aU dI pt ro fC star sep bF
attribute [local irreducible] mp DG
variable {s:Cn} {B id n k code w o st j on b la co kind sg:Int} {gone own xx e:Bool} {m m':Sm} {l:List Sm} {i:Nat} {c cf:Cf} {f:Fm} {g t h:dR} {z:Ld} {q:Sm->Sm} {u:List UInt8} {d:ByteArray}
theorem Aid {z:eX} (h:NJ z) (hj:fE (Ar id z) j):fE z j/\j≠id:=by
 unfold Ar at hj
 split at hj
 ·rename_i hid
  have hw:=h.w id hid
  obtain⟨h1,h2,h3,h4,h5,h6⟩:=T3 (on:=(dG id z).on) (xw:=(dG id z).w) (all:=rK z (cD id z.1)) hw (fun k hk=>(lW h.nd hk).1) (Cd h.nd) (fun k hk=>⟨(h.w k (lW h.nd hk).1).1,OD h.w (fun k hk=>(lW h.nd hk).1) k hk⟩) h.kok h.nd h.w
  have hd:=EV (id:=id) (j:=j) h5
  unfold fE d6 at hj
  rw[hd] at hj
  by_cases he:j=id
  ·rw[if_pos he] at hj;cases hj
  ·rw[if_neg he] at hj
   exact⟨(h1 j).1 hj,he⟩
 ·rename_i hid
  refine⟨hj,fun e=>hid ?_⟩
  rw[e] at hj;exact hj
theorem E5 {z:eX} (hok:Si z.1 z.2) (hnd:OL z) {x:Bool} (hj:fE (qT id on w x z) j):j=id\/fE z j:=by
 unfold qT at hj
 rw[dX] at hj
 rcases hj with hj|hj
 ·exact .inl hj
 ·split at hj
  ·exact .inr (((Eb (id:=id) (fun k hk=>(lW hnd hk).1) hok hnd).1 j).1 hj)
  ·exact .inr hj
theorem Wg {z:eX} (h:NJ z):tN id z (z.1.length+1) 0=false:=by
 unfold tN
 rw[if_neg]
 intro hq
 have:=h.ky 0 hq
 omega
theorem Ah7 {z:eX} (h:NJ z) {x:Bool} (hj:fE (lO id on w x z) j):fE z j:=by
 unfold lO at hj
 split at hj
 ·exact hj
 ·rename_i hE
  have hid:fE z id:=by
   cases hq:d6 id z.1
   ·exact absurd (by unfold rC;rw[if_pos hq];decide) hE
   ·exact hq
  have fin:∀ {y:Int},y=id\/fE z y->fE z y:=fun hy=>hy.elim (fun e=>by rw[e];exact hid) fun q=>q
  split at hj
  ·rw[Wg h,if_neg Bool.false_ne_true] at hj
   exact fin (E5 h.kok h.nd hj)
  ·rename_i hkn
   split at hj
   ·rename_i hab
    have hon:fE z on:=by
     by_cases h0:on=0
     ·subst h0;rw[Wg h] at hab;cases hab
     ·cases hq:d6 on z.1
      ·exact absurd (by unfold Bf;rw[hq];simp[h0]) hkn
      ·exact hq
    rcases E5 (J3 h.kok) (Jz h.nd) hj with hj|hj
    ·exact fin (.inl hj)
    ·unfold jJ at hj
     rw[dX] at hj
     rcases hj with hj|hj
     ·rw[hj];exact hon
     ·exact hj
   ·exact fin (E5 h.kok h.nd hj)
theorem Ah8 {z:eX} (h:NJ z) {x:Bool} (hj:fE (oI id on w x 64 z) j):j=id\/fE z j:=by
 unfold oI at hj
 split at hj
 ·exact .inr hj
 ·split at hj
  ·exact E5 h.kok h.nd hj
  ·exact E5 h.kok h.nd hj
theorem Lc {z:eX} (h:NJ z):∀ {n:Nat} {lv:List Int},(∀y∈lv,fE z y)->∀y∈Av z n lv,fE z y
 |0,_,_,_,hy=>by cases hy
 |n+1,lv,hl,y,hy=>by
  unfold Av at hy
  split at hy
  ·cases hy
  ·rcases List.mem_append.1 hy with hy|hy
   ·exact hl y hy
   ·refine Lc h (n:=n) (lv:=Kn z lv) (fun q hq=>?_) y hy
    unfold Kn at hq
    exact(BN h.nd q (Bz.1 hq)).1
theorem S8 (hs:G6 l) (hm:m∈l):bX m.id l=some m:=by
 cases hq:bX m.id l with
 |none=>exact absurd rfl (Mz hs hq m hm)
 |some z=>
  obtain⟨h1,h2⟩:=aS hq
  obtain⟨j,hj⟩:=List.getElem?_of_mem hm
  have hp:=hs.2
  obtain⟨a1,a2⟩:=List.getElem?_eq_some_iff.1 h1
  obtain⟨b1,b2⟩:=List.getElem?_eq_some_iff.1 hj
  rcases Nat.lt_trichotomy (cI m.id l) j with hlt|heq|hgt
  ·have:=List.pairwise_iff_getElem.1 hp _ _ a1 b1 hlt
   rw[a2,b2] at this;omega
  ·subst heq
   rw[a2] at b2;rw[b2]
  ·have:=List.pairwise_iff_getElem.1 hp _ _ b1 a1 hgt
   rw[a2,b2] at this;omega
theorem KT (hs:G6 l) (hm:m∈l) (hne:m.id≠id) (hat:bX id l=some m'):m∈l.eraseIdx (cI id l):=by
 obtain⟨h1,h2⟩:=aS hat
 obtain⟨j,hj⟩:=List.getElem?_of_mem hm
 refine List.mem_eraseIdx_iff_getElem?.2 ⟨j,fun e=>?_,hj⟩
 rw[e,h1] at hj
 cases hj
 exact hne h2
theorem QW {z:Sm} (hs:G6 l) (hat:bX id l=some m') (hz:z∈l.eraseIdx (cI id l)):z.id≠id:=fun e=>by
 obtain⟨h1,h2⟩:=aS hat
 obtain⟨i,hi,hy⟩:=List.mem_eraseIdx_iff_getElem?.1 hz
 obtain⟨a1,a2⟩:=List.getElem?_eq_some_iff.1 h1
 obtain⟨b1,b2⟩:=List.getElem?_eq_some_iff.1 hy
 rcases Nat.lt_trichotomy (cI id l) i with hlt|heq|hgt
 ·have:=List.pairwise_iff_getElem.1 hs.2 _ _ a1 b1 hlt
  rw[a2,b2] at this;omega
 ·exact hi heq.symm
 ·have:=List.pairwise_iff_getElem.1 hs.2 _ _ b1 a1 hgt
  rw[a2,b2] at this;omega
theorem SR (h:GH B z):(pR j z.l).isSome=true↔j∈z.l.map gZ.id:=by
 constructor
 ·intro hq
  obtain⟨e,he⟩:=Option.isSome_iff_exists.1 hq
  obtain⟨h1,h2⟩:=oM he
  exact List.mem_map.2 ⟨e,List.mem_of_getElem? h1,h2⟩
 ·intro hj
  obtain⟨e,he,hid⟩:=List.mem_map.1 hj
  cases hq:pR j z.l with
  |some _=>rfl
  |none=>
   exfalso
   refine T8 (f:=gZ.id) (t:=j) h.2.1 (fun e he hid=>?_) e he hid
   have:pR j z.l=some e:=by
    unfold pR oB
    rw[he]
    simp[hid]
   rw[hq] at this;cases this
theorem Yr (h:GH B z):j∈(kU id z).l.map gZ.id↔j∈z.l.map gZ.id/\j≠id:=by
 unfold kU
 cases hq:pR id z.l with
 |none=>
  rw[if_neg (by simp)]
  refine⟨fun hj=>⟨hj,fun e=>?_⟩,fun hj=>hj.1⟩
  rw[e] at hj
  have:=(SR h).2 hj
  rw[hq] at this;cases this
 |some e=>
  obtain⟨h1,h2⟩:=oM hq
  rw[if_pos (show(some e).isSome=true from rfl)]
  show j∈(z.l.eraseIdx (oB id z.l)).map gZ.id↔_
  obtain⟨a1,a2⟩:=List.getElem?_eq_some_iff.1 h1
  constructor
  ·intro hj
   obtain⟨y,hy,hid⟩:=List.mem_map.1 hj
   refine⟨List.mem_map.2 ⟨y,List.mem_of_mem_eraseIdx hy,hid⟩,fun e'=>?_⟩
   obtain⟨i,hi,hy2⟩:=List.mem_eraseIdx_iff_getElem?.1 hy
   obtain⟨b1,b2⟩:=List.getElem?_eq_some_iff.1 hy2
   rcases Nat.lt_trichotomy (oB id z.l) i with hlt|heq|hgt
   ·have:=List.pairwise_iff_getElem.1 h.2.1 _ _ a1 b1 hlt
    rw[a2,b2] at this;omega
   ·exact hi heq.symm
   ·have:=List.pairwise_iff_getElem.1 h.2.1 _ _ b1 a1 hgt
    rw[a2,b2] at this;omega
  ·intro hj
   obtain⟨y,hy,hid⟩:=List.mem_map.1 hj.1
   refine List.mem_map.2 ⟨y,?_,hid⟩
   obtain⟨i,hi⟩:=List.getElem?_of_mem hy
   refine List.mem_eraseIdx_iff_getElem?.2 ⟨i,fun e'=>?_,hi⟩
   rw[e',h1] at hi
   cases hi
   exact hj.2 (by rw[<- hid];exact h2)
theorem Agp (h:GH B z) (ht:1<=id/\id<=2147483647) (hn:mG n=true) (hno:id ∉ z.l.map gZ.id) (hl:z.l.length<64):j∈(gM id n z).l.map gZ.id↔j=id\/j∈z.l.map gZ.id:=by
 have hq:¬(pR id z.l).isSome=true:=fun q=>hno ((SR h).1 q)
 unfold gM
 rw[if_neg (by rw[hn];simp only[Bool.true_eq_false,false_or,not_or];exact⟨by omega,by omega,hq,by omega⟩)]
 show j∈(z.l.take (oB id z.l)++⟨id,n,0⟩::z.l.drop (oB id z.l)).map gZ.id↔_
 conv=>rhs;rw[<- List.take_append_drop (oB id z.l) z.l]
 simp only[List.map_append,List.map_cons,List.mem_append,List.mem_cons]
 constructor
 ·rintro(hj|hj|hj)
  ·exact .inr (.inl hj)
  ·exact .inl hj
  ·exact .inr (.inr hj)
 ·rintro(hj|hj|hj)
  ·exact .inr (.inl hj)
  ·exact .inl hj
  ·exact .inr (.inr hj)
theorem WX {l:List gZ} {e e':gZ} (h:l[i]?=some e) (hid:e'.id=e.id):(l.set i e').map gZ.id=l.map gZ.id:=by
 rw[List.map_set,hid]
 exact lB i (by rw[List.getElem?_map,h];rfl)
theorem P7:(kK id b z).l.map gZ.id=z.l.map gZ.id:=by
 unfold kK
 split
 ·rfl
 ·split
  ·rename_i e he
   exact WX (oM he).1 rfl
  ·rfl
theorem Aif {a:Int}:(mO a b z).l.map gZ.id=z.l.map gZ.id:=by
 unfold mO
 split
 ·rfl
 ·show(z.l.map _).map gZ.id=_
  rw[List.map_map];rfl
theorem YY:(jQ id k z).l.map gZ.id=z.l.map gZ.id:=by
 unfold jQ
 split
 ·rfl
 ·split
  ·rename_i e he
   exact WX (oM he).1 rfl
  ·rfl
def kb (m:Sm):Nat:=if bA m.x=1 then iD m.y else 0
def uJ (l:List Sm):Nat:=(l.map kb).sum
theorem OG (hi:l[i]?=some m):uJ (l.set i m')+kb m=uJ l+kb m':=by
 induction l generalizing i with
 |nil=>cases hi
 |cons q r ih=>
  cases i with
  |zero=>cases hi;simp[uJ];omega
  |succ i=>
   have:=ih (i:=i) (by simpa using hi)
   simp only[uJ,List.set_cons_succ,List.map_cons,List.sum_cons] at this ⊢
   omega
theorem Ly (hi:l[i]?=some m):uJ (l.eraseIdx i)+kb m=uJ l:=by
 induction l generalizing i with
 |nil=>cases hi
 |cons q r ih=>
  cases i with
  |zero=>cases hi;simp[uJ];omega
  |succ i=>
   have:=ih (i:=i) (by simpa using hi)
   simp only[uJ,List.eraseIdx_cons_succ,List.map_cons,List.sum_cons] at this ⊢
   omega
theorem VS {a b:List Sm}:uJ (a++b)=uJ a+uJ b:=by simp[uJ]
theorem Ahv:uJ (lM m l)=kb m+uJ l:=by
 have h:uJ (lM m l)=uJ (l.take (cI m.id l))+(kb m+uJ (l.drop (cI m.id l))):=by simp[uJ,lM]
 have h2:uJ l=uJ (l.take (cI m.id l))+uJ (l.drop (cI m.id l)):=by rw[<- VS,List.take_append_drop]
 omega
theorem Vz (h:∀m,kb (q m)=kb m):uJ (l.map q)=uJ l:=by
 unfold uJ
 rw[List.map_map]
 congr 1
 exact List.map_congr_left fun m _=>h m
def OK (a b:dR):Prop:=a.w<=b.w/\a.st<=b.st/\a.it<=b.it
def HU (g:dR):Ys->Prop
 |.b y=>y.most<=g.w
 |.i y=>y.mr<=g.it
def Age (c:Cf):Xs->Prop
 |.b x=>(x.cap:Int)<=c.sb
 |.i x=>(x.cap:Int)<=c.si
def xSz:Xs->Prop
 |.b _=>True
 |.i x=>∀d∈x.l,d.size<=256
structure Rq (c:Cf) (g:dR) (m:Sm):Prop where
 y:HU g m.y
 x:Age c m.x
 ok:bA m.x=jZ m.y
 sz:xSz m.x
structure f4 (c:Cf) (s:Cn):Prop where
 cfe:s.cf=c
 tn:∀id,fE s.tr id->∃m∈s.l,m.id=id
 fo:∀f∈s.out,lZ f=true/\f.ps.length=f.pn/\f.t≠10/\f.t≠11
 cl:s.dr.ov=true->s.l= []
 mo:∀m∈s.l,Rq c s.sh.g m
 hg:OK s.sh.h s.sh.g/\∀t∈s.sh.l,OK t s.sh.g
 nf:(fQ s false:Int)<=s.sh.g.st
 kp:s.rv.us+uJ s.l<=s.rv.got
 ls:s.last.size<=300
 lk:∀j,j∈s.ld.l.map gZ.id↔∃m∈s.l,m.id=j/\bA m.x=1
theorem X5:((l.eraseIdx i).filter fun m=>m.own == false).length<=(l.filter fun m=>m.own == false).length:=((List.eraseIdx_sublist ..).filter _).length_le
theorem Iq (hI:bO B s) (h:f4 c s) (hm:bX id s.l=some m):f4 c (lR id code gone s):=
 { h with
   tn:=fun j hj=>by
    obtain⟨h1,h2⟩:=Aid hI.tr hj
    obtain⟨z,hz,hzi⟩:=h.tn j h1
    exact⟨z,KT hI.sm hz (by rw[hzi];exact h2) hm,hzi⟩
   cl:=fun ho=>by
    show s.l.eraseIdx _= []
    rw[h.cl ho];rfl
   mo:=fun z hz=>h.mo z (List.mem_of_mem_eraseIdx hz)
   nf:=by
    have h1:=h.nf
    have h2:=X5 (l:=s.l) (i:=cI id s.l)
    unfold fQ at h1
    show(((s.l.eraseIdx (cI id s.l)).filter fun m=>m.own == false).length:Int)<=s.sh.g.st
    omega
   kp:=by
    have h1:=h.kp
    have h2:=Ly (aS hm).1
    show s.rv.us+uJ (s.l.eraseIdx (cI id s.l))<=s.rv.got
    omega
   lk:=fun j=>by
    show j∈(kU id s.ld).l.map gZ.id↔∃m∈s.l.eraseIdx (cI id s.l),m.id=j/\bA m.x=1
    rw[Yr hI.ld,h.lk]
    constructor
    ·rintro⟨⟨z,hz,hzi,hzk⟩,hne⟩
     exact⟨z,KT hI.sm hz (by rw[hzi];exact hne) hm,hzi,hzk⟩
    ·rintro⟨z,hz,hzi,hzk⟩
     refine⟨⟨z,List.mem_of_mem_eraseIdx hz,hzi,hzk⟩,fun e=>?_⟩
     have h1:=QW hI.sm hm hz
     rw[hzi] at h1;exact h1 e }
theorem Akn (hI:bO B s):(uZ s).l= []:=(F4 (code:=s.dr.co) rfl hI).2
theorem Ir (hI:bO B s) (h:f4 c s) {d:Dr} {q:ByteArray} (hq:q.size<=300):f4 c (uZ { s with dr:=d,last:=q }):=by
 have hI2:bO B { s with dr:=d,last:=q }:= { hI with }
 have e:=Akn hI2
 have h0:∀ {l:List Sm} {z:Cn} {e:Dr},z.l=l->bO B z->f4 c { z with dr:=e }->f4 c { qN d.co (l.map Sm.id) z with dr:=e }:=by
  intro l
  induction l with
  |nil=>intro z e _ _ hz;exact hz
  |cons m l ih=>
   intro z e hl hzI hz
   have hm:bX m.id z.l=some m:=by rw[hl];exact FU
   exact ih (z:=lR m.id d.co false z) (Fy hl) (Bm hzI hm) (Iq (s:= { z with dr:=e }) { hzI with } hz hm)
 have h1:=h0 (z:= { s with dr:=d,last:=q }) (e:=s.dr) rfl hI2 { h with ls:=hq }
 exact { h1 with
  fo:=fun f hf=>by cases hf
  cl:=fun _=>e }
theorem WF (hw:0<=w):((rB n w).size:Int)<=w:=by
 unfold rB
 split
 ·show((0:Nat):Int)<=w;exact hw
 ·have:((⟨(wB n w).toArray⟩:ByteArray).size:Int)=((wB n w).length:Nat):=by simp[ByteArray.size]
  rw[this,lG];omega
theorem Ajl {l t f s:Int}:(jS l t f s).size<=9:=by
 have q1:=WF (n:=l) (w:=3) (by decide)
 have q2:=WF (n:=t) (w:=1) (by decide)
 have q3:=WF (n:=f) (w:=1) (by decide)
 have q4:=WF (n:=s) (w:=4) (by decide)
 unfold jS
 rw[ByteArray.size_append,ByteArray.size_append,ByteArray.size_append]
 omega
theorem Ak2:(xK (zZ la co)).size<=300:=by
 have e:(⟨(wB la 4++wB co 4).toArray⟩:ByteArray).size=8:=by
  have:(⟨(wB la 4++wB co 4).toArray⟩:ByteArray).size=(wB la 4++wB co 4).length:=by simp[ByteArray.size]
  rw[this,List.length_append,lG,lG];rfl
 refine Nat.le_trans (Nat.le_of_eq (ByteArray.size_append ..)) (Nat.le_trans (Nat.add_le_add Ajl (Nat.le_of_eq e)) (by decide))
theorem iK (hI:bO B s) (h:f4 c s):f4 c (iM w o s):=Ir hI h Ak2
theorem Vb {out:List Fm} (h:∀f∈out,lZ f=true/\f.ps.length=f.pn/\f.t≠10/\f.t≠11) (hf:f.ps.length=f.pn/\f.t≠10/\f.t≠11):∀z∈wL f out,lZ z=true/\z.ps.length=z.pn/\z.t≠10/\z.t≠11:=by
 unfold wL
 by_cases he:zA f out≠0
 ·rw[if_pos he];exact h
 ·rw[if_neg he]
  have hc:lZ f=true:=by
   cases hq:lZ f
   ·exact absurd (by unfold zA;rw[if_pos hq];decide) he
   ·rfl
  cases hy:out[t8 f out]? with
  |none=>
   intro z hz
   rcases List.mem_append.1 hz with hz|hz
   ·exact h z hz
   ·rw[List.mem_singleton.1 hz]
    exact⟨hc,hf⟩
  |some y=>
   exfalso
   obtain⟨y2,h2,h3⟩:=Oo (List.getElem?_eq_some_iff.1 hy).1
   unfold rI at h3
   simp only[Bool.and_eq_true,Bool.or_eq_true,decide_eq_true_eq] at h3
   rcases h3.1.1.1 with h4|h4
   ·exact hf.2.1 h4
   ·exact hf.2.2 h4
theorem Ci (h:f4 c s) (hf:f.ps.length=f.pn/\f.t≠10/\f.t≠11):f4 c { s with out:=wL f s.out }:= { h with fo:=Vb h.fo hf }
theorem Eh (hI:bO B s) (h:f4 c s) (hf:f.ps.length=f.pn/\f.t≠10/\f.t≠11):f4 c (nC f s):=by
 unfold nC
 split
 ·exact Ci h hf
 ·exact iK hI h
theorem Ff (hI:bO B s) (h:f4 c s) (hm:bX id s.l=some m):f4 c (qF m code s):=by
 obtain⟨hi,h2⟩:=aS hm
 have h1:bX m.id s.l=some m:=by rw[h2];exact hm
 have hk:=h.kp
 have he:=Ly hi
 have hr:=hI.rv
 unfold JN at hr
 have hd:=Iq (s:=s) (gone:=false) (code:=code) hI h h1
 refine { hd with kp:=?_ }
 show(fO s.rv (if bA m.x=1 then(iD m.y:Nat) else 0)).us+uJ (s.l.eraseIdx (cI m.id s.l))<=(fO s.rv (if bA m.x=1 then(iD m.y:Nat) else 0)).got
 rw[h2]
 have hkb:kb m=if bA m.x=1 then iD m.y else 0:=rfl
 unfold fO
 by_cases hx:bA m.x=1
 ·rw[if_pos hx] at hkb
  simp only[if_pos hx]
  split
  ·dsimp only;omega
  ·omega
 ·rw[if_neg hx] at hkb
  simp only[if_neg hx]
  split
  ·dsimp only;omega
  ·omega
theorem sI (hI:bO B s) (h:f4 c s):f4 c (i8 w st s):=by
 unfold i8
 split
 ·exact iK hI h
 ·cases hm:bX st s.l with
  |none=>exact Eh hI h ⟨rfl,by show(4:Int)≠10;decide,by show(4:Int)≠11;decide⟩
  |some m=>exact Eh (tJ hI hm) (Ff hI h hm) ⟨rfl,by show(4:Int)≠10;decide,by show(4:Int)≠11;decide⟩
theorem Ep (hI:bO B s) (h:f4 c s) (hm:bX m.id s.l=some m):f4 c (lJ m s):=by
 unfold lJ
 split
 ·exact Iq hI h hm
 ·exact h
theorem Lx (hi:l[i]?=some m) (hid:m'.id=m.id) (hx:bA m'.x=bA m.x):(∃m∈l,m.id=j/\bA m.x=1)↔∃z∈l.set i m',z.id=j/\bA z.x=1:=by
 have e:(l.set i m').map (fun z=>(z.id,bA z.x))=l.map fun z=>(z.id,bA z.x):=by
  rw[List.map_set,hid,hx]
  exact lB i (by rw[List.getElem?_map,hi];rfl)
 have q:∀l:List Sm,(∃m∈l,m.id=j/\bA m.x=1)↔(j,(1:Int))∈l.map fun z=>(z.id,bA z.x):=fun l=>by
  simp only[List.mem_map,Prod.mk.injEq]
 rw[q,q,e]
theorem zM (h:f4 c s) (hi:s.l[i]?=some m) (hid:m'.id=m.id) (ho:m'.own=m.own) (hm:Rq c s.sh.g m') (hk:kb m'<=kb m) (hx:bA m'.x=bA m.x):f4 c { s with l:=s.l.set i m' }:=
 { h with
   tn:=fun j hj=>by
    obtain⟨z,hz,hzi⟩:=h.tn j hj
    have e:=Dk (m':=m') hi hid
    have h1:j∈(s.l.set i m').map Sm.id:=by rw[e,<- hzi];exact List.mem_map_of_mem hz
    obtain⟨z',hz',e'⟩:=List.mem_map.1 h1
    exact⟨z',hz',e'⟩
   cl:=fun ho=>by
    have:=h.cl ho
    rw[this] at hi;cases hi
   mo:=fun z hz=>by
    rcases List.mem_or_eq_of_mem_set hz with hz|rfl
    ·exact h.mo z hz
    ·exact hm
   nf:=by
    have h1:=h.nf
    unfold fQ at h1
    show(((s.l.set i m').filter fun m=>m.own == false).length:Int)<=s.sh.g.st
    rw[Ns hi ho];exact h1
   kp:=by
    have h1:=h.kp
    have h2:=OG (m':=m') hi
    show s.rv.us+uJ (s.l.set i m')<=s.rv.got
    omega
   lk:=fun j=>(h.lk j).trans (Lx hi hid hx) }
theorem M9 (h:f4 c s) (hk:k+s.rv.us+uJ s.l<=s.rv.got) (h0:0<=k):f4 c { s with rv:=fO s.rv k }:=
 { h with
   kp:=by
    show(fO s.rv k).us+uJ s.l<=(fO s.rv k).got
    unfold fO
    split
    ·dsimp only;omega
    ·omega }
theorem Ahu {tt:Int} (hk:bA m.x=jZ m.y) (hw:eT m tt d e=0):(kb (fX m d e):Int)<=kb m+(if tt=0 then(d.size:Int) else 0):=by
 have ht:tt=bA m.x - 1:=by
  by_cases h:tt=bA m.x - 1
  ·exact h
  ·unfold eT at hw
   rw[if_pos h] at hw;cases hw
 unfold kb fX
 by_cases hx:bA m.x=1
 ·simp only[if_pos hx]
  cases hy:m.y with
  |b y=>
   have:d.data.toList.length=d.size:=Array.length_toList
   simp only[Dv,iD,List.length_append]
   rw[if_pos (by omega)]
   omega
  |i y=>rw[hy,hx] at hk;cases hk
 ·simp only[if_neg hx]
  split <;> omega
theorem Abm (h:Rq c g m):Rq c g (fX m d e):=by
 obtain⟨h1,h2,h3,h4⟩:=h
 refine⟨?_,h2,?_,h4⟩
 ·show HU g (Dv m.y d e)
  cases hy:m.y with
  |b y=>rw[hy] at h1;exact h1
  |i y=>
   rw[hy] at h1
   show(if d≠⟨#[]⟩\/e=false then({ y with op:=y.op - 1,l:=y.l++ [d],ac:=y.ac+1,en:=e }:YI) else { y with en:=true }).mr<=g.it
   split <;> exact h1
 ·show bA m.x=jZ (Dv m.y d e)
  cases hy:m.y with
  |b y=>rw[hy] at h3;exact h3
  |i y=>rw[hy] at h3;exact h3
theorem Agd (hI:bO B s) (h:f4 c s) (hB:B+300<=250000000) (hd:f.d.size<=256):f4 c (rZ f s):=by
 have hk:0<=(if f.t=0 then((f.d.size:Nat):Int) else 0)/\(if f.t=0 then((f.d.size:Nat):Int) else 0)<=300:=by split <;> omega
 have hkp:=h.kp
 unfold rZ
 cases hm:bX f.st s.l with
 |none=>
  dsimp only
  generalize (if f.t=0 then((f.d.size:Nat):Int) else 0)=kk at hk ⊢
  by_cases hg:k7 s.rv kk=0
  ·rw[if_neg (fun q=>q hg)]
   have e:gA s.rv kk= { s.rv with got:=s.rv.got+kk }:=if_pos hg
   rw[e]
   exact M9 (s:= { s with rv:= { s.rv with got:=s.rv.got+kk } }) { h with kp:=by show s.rv.us+uJ s.l<=s.rv.got+kk;omega } (by show kk+s.rv.us+uJ s.l<=s.rv.got+kk;omega) hk.1
  ·rw[if_pos hg];exact iK hI h
 |some m=>
  obtain⟨hi,hmid⟩:=aS hm
  dsimp only
  by_cases hw:eT m f.t f.d f.e=0
  ·have hkc:=Ahu (h.mo m (List.mem_of_getElem? hi)).ok hw
   generalize (if f.t=0 then((f.d.size:Nat):Int) else 0)=kk at hk hkc ⊢
   generalize (if f.t=1/\(f.d≠⟨#[]⟩\/f.e=false) then(1:Int) else kk)=nn
   by_cases hg:k7 s.rv kk=0
   ·rw[if_neg (fun q=>q hg),if_neg (fun q=>q hw),eN (id:=f.st) (show(fX m f.d f.e).id=f.st from hmid)]
    have e:gA s.rv kk= { s.rv with got:=s.rv.got+kk }:=if_pos hg
    have hI2:=yG (mv:=⟨2,f.st,nn,f.d,f.e⟩) (e:=f.e) hI hm hk hB hd
    have hS:f4 c { s with l:=s.l.set (cI f.st s.l) m }:=by
     rw[lB _ hi];exact h
    refine Ep hI2 ?_ (m7 hm rfl)
    have hset:=OG (m':=fX m f.d f.e) hi
    have hb:f4 c { s with l:=s.l.set (cI f.st s.l) (fX m f.d f.e),rv:= { s.rv with got:=s.rv.got+kk } }:= {
     cfe:=h.cfe,fo:=h.fo,hg:=h.hg,ls:=h.ls
     tn:=fun j hj=>by
      obtain⟨z,hz,hzi⟩:=h.tn j hj
      have e:=Dk (m':=fX m f.d f.e) hi rfl
      have h1:j∈(s.l.set (cI f.st s.l) (fX m f.d f.e)).map Sm.id:=by rw[e,<- hzi];exact List.mem_map_of_mem hz
      obtain⟨z',hz',e'⟩:=List.mem_map.1 h1
      exact⟨z',hz',e'⟩
     cl:=fun ho=>by
      have:=h.cl ho
      rw[this] at hi;cases hi
     mo:=fun z hz=>by
      rcases List.mem_or_eq_of_mem_set hz with hz|rfl
      ·exact h.mo z hz
      ·exact Abm (h.mo m (List.mem_of_getElem? hi))
     nf:=by
      have h1:=h.nf
      unfold fQ at h1
      show(((s.l.set (cI f.st s.l) (fX m f.d f.e)).filter fun m=>m.own == false).length:Int)<=s.sh.g.st
      rw[Ns (m':=fX m f.d f.e) hi rfl];exact h1
     kp:=by
      show s.rv.us+uJ (s.l.set (cI f.st s.l) (fX m f.d f.e))<=s.rv.got+kk
      omega
     lk:=fun j=>(h.lk j).trans (Lx (m':=fX m f.d f.e) hi rfl rfl) }
    rw[e]
    exact { hb with }
   ·rw[if_pos hg];exact iK hI h
  ·generalize (if f.t=0 then((f.d.size:Nat):Int) else 0)=kk at hk ⊢
   by_cases hg:k7 s.rv kk=0
   ·rw[if_neg (fun q=>q hg),if_pos hw]
    refine sI (rN (B4 hI hk hB)) ?_
    have e:gA s.rv kk= { s.rv with got:=s.rv.got+kk }:=if_pos hg
    rw[e]
    exact M9 (s:= { s with rv:= { s.rv with got:=s.rv.got+kk } }) { h with kp:=by show s.rv.us+uJ s.l<=s.rv.got+kk;omega } (by show kk+s.rv.us+uJ s.l<=s.rv.got+kk;omega) hk.1
   ·rw[if_pos hg];exact iK hI h
theorem SY:(iI cf h id kind sg own).id=id:=by unfold iI;split <;> rfl
theorem Aja:(iI cf h id kind sg own).own=own:=by unfold iI;split <;> rfl
theorem R5 {z:Sm} (h:z∈l):z∈lM m l:=by
 unfold lM
 rw[<- List.take_append_drop (cI m.id l) l] at h
 rcases List.mem_append.1 h with h|h
 ·exact List.mem_append_left _ h
 ·exact List.mem_append_right _ (List.mem_cons_of_mem _ h)
theorem Ra:m∈lM m l:=List.mem_append_right _ (List.mem_cons_self ..)
theorem Qx:bA (iI cf h id kind sg own).x=1↔kind=1:=by
 unfold iI
 split
 ·rename_i hk;exact⟨fun _=>hk,fun _=>rfl⟩
 ·rename_i hk;exact⟨fun q=>absurd (show(2:Int)=1 from q) (by decide),fun q=>absurd q hk⟩
theorem Aj3 (hI:bO B s) (h:f4 c s):s.ld.l.length<=s.l.length:=by
 have hn:(s.ld.l.map gZ.id).Nodup:=by
  have:(s.ld.l.map gZ.id).Pairwise (·<·):=List.pairwise_map.2 hI.ld.2.1
  exact this.imp fun hab e=>by omega
 have h1:=List.Nodup.length_le_of_subset (l₂:=s.l.map Sm.id) hn fun j hj=>by
  obtain⟨m,hm,hid,_⟩:=(h.lk j).1 hj
  exact List.mem_map.2 ⟨m,hm,hid⟩
 rwa[List.length_map,List.length_map] at h1
theorem W0 (hI:bO B s) (h:f4 c s) (hat:bX id s.l=none) (hl:s.l.length<64) (hid:1<=id/\id<=2147483647) (ho:s.dr.ov=false) (hn:own=false->(fQ s false:Int)<s.sh.h.st):f4 c (GV id kind on w xx own sg s):=
 { h with
   tn:=fun j hj=>by
    rcases Ah8 hI.tr hj with hj|hj
    ·exact⟨_,Ra,by rw[SY];exact hj.symm⟩
    ·obtain⟨z,hz,hzi⟩:=h.tn j hj
     exact⟨z,R5 hz,hzi⟩
   cl:=fun hq=>by
    have hq:s.dr.ov=true:=hq
    rw[ho] at hq;cases hq
   mo:=fun z hz=>by
    rcases BW hz with rfl|hz
    ·have h1:=h.hg.1
     have h2:=hI.cf
     have h3:=h.cfe
     unfold OK at h1
     unfold iI
     split
     ·refine⟨h1.1,?_,rfl,trivial⟩
      show((s.cf.sb.toNat:Nat):Int)<=c.sb
      rw[<- h3];omega
     ·refine⟨h1.2.2,?_,rfl,fun d hd=>by cases hd⟩
      show((s.cf.si.toNat:Nat):Int)<=c.si
      rw[<- h3];omega
    ·exact h.mo z hz
   nf:=by
    have h1:=h.nf
    have h2:=h.hg.1
    unfold OK at h2
    show(((lM (iI s.cf s.sh.h id kind sg own) s.l).filter fun m=>m.own == false).length:Int)<=s.sh.g.st
    rw[VC,Aja]
    unfold fQ at h1 hn
    split
    ·rename_i hb
     have hb:own=false:=by simpa using hb
     have:=hn hb
     omega
    ·omega
   kp:=by
    have h1:=h.kp
    have h2:kb (iI s.cf s.sh.h id kind sg own)=0:=by
     unfold iI
     split
     ·rfl
     ·rfl
    show s.rv.us+uJ (lM (iI s.cf s.sh.h id kind sg own) s.l)<=s.rv.got
    rw[Ahv,h2];omega
   lk:=fun j=>by
    have hno:=Mz hI.sm hat
    have hnl:id ∉ s.ld.l.map gZ.id:=fun q=>by
     obtain⟨z,hz,hzi,_⟩:=(h.lk id).1 q
     exact hno z hz hzi
    have hlen:=Aj3 hI h
    have hput:(∃m∈lM (iI s.cf s.sh.h id kind sg own) s.l,m.id=j/\bA m.x=1)↔(j=id/\kind=1)\/∃m∈s.l,m.id=j/\bA m.x=1:=by
     constructor
     ·rintro⟨z,hz,hzi,hzk⟩
      rcases BW hz with rfl|hz
      ·exact .inl ⟨by rw[<- hzi,SY],Qx.1 hzk⟩
      ·exact .inr ⟨z,hz,hzi,hzk⟩
     ·rintro(⟨rfl,hk⟩|⟨z,hz,hzi,hzk⟩)
      ·exact⟨_,Ra,SY,Qx.2 hk⟩
      ·exact⟨z,R5 hz,hzi,hzk⟩
    show j∈(if kind=1 then gM id s.pe.w s.ld else s.ld).l.map gZ.id↔∃m∈lM (iI s.cf s.sh.h id kind sg own) s.l,m.id=j/\bA m.x=1
    rw[hput,<- h.lk]
    by_cases hk:kind=1
    ·rw[if_pos hk,Agp hI.ld hid (Afu hI.pe.1) hnl (by omega)]
     simp[hk]
    ·rw[if_neg hk]
     simp[hk] }
theorem Tp (hI:bO B s) (h:f4 c s) (hB:B+300<=250000000):f4 c (mU f s):=by
 have hm:=hI.mono (B':=B+300) (by omega) hB
 unfold mU
 by_cases hp:nQ s.sd s.la f.st=0
 ·rw[if_neg (fun q=>q hp)]
  have Fw:=JG hm hp
  have h1:f4 c { s with la:=f.st }:= { h with }
  split
  ·exact iK Fw h1
  ·split
   ·exact sI Fw h1
   ·rename_i hdt
    split
    ·exact sI Fw h1
    ·rename_i ho
     have hov:s.dr.ov=false:=by
      cases hq:s.dr.ov
      ·rfl
      ·exact absurd (by unfold EB;rw[hq];rfl) hdt
     have h2:=W0 (id:=f.st) (kind:=f.k) (on:=f.on) (w:=f.w) (xx:=f.x) (sg:=s.cf.sg) (own:=false) Fw h1 (show bX f.st s.l=none from Gj hI hp) (show s.l.length<64 from(Jp hI ho).1) (sA hI.sd hp).1 hov (fun _=>by show(fQ s false:Int)<s.sh.h.st;omega)
     exact { h2 with }
 ·rw[if_pos hp];exact iK hm h
theorem Adw (h:Rq c g m):Rq c g { m with x:=qA m.x n }:=by
 obtain⟨h1,h2,h3,h4⟩:=h
 refine⟨h1,?_,by show bA (qA m.x n)=jZ m.y;rw[Hg];exact h3,?_⟩
 ·show Age c (qA m.x n)
  cases hx:m.x with
  |b z=>rw[hx] at h2;exact h2
  |i z=>
   rw[hx] at h2
   show((if 1<=n then { z with w:=z.w+min n (2147483647 - z.w) } else z).cap:Int)<=c.si
   split <;> exact h2
 ·show xSz (qA m.x n)
  cases hx:m.x with
  |b z=>trivial
  |i z=>
   rw[hx] at h4
   show ∀d∈(if 1<=n then { z with w:=z.w+min n (2147483647 - z.w) } else z).l,d.size<=256
   split <;> exact h4
theorem OS (hI:bO B s) (h:f4 c s) (hm:bX f.st s.l=some m):f4 c (lE f m s):=by
 obtain⟨hi,hmid⟩:=aS hm
 unfold lE
 split
 ·exact sI hI h
 ·split
  ·exact sI hI h
  ·split
   ·split
    ·exact sI hI h
    ·exact { h with lk:=fun j=>by show j∈(kK f.st f.n s.ld).l.map gZ.id↔_;rw[P7];exact h.lk j }
   ·split
    ·exact sI hI h
    ·rw[eN (id:=f.st) (show({ m with x:=qA m.x f.n }:Sm).id=f.st from hmid)]
     refine zM (s:= { s with sl:=f6 s.sl s.now }) { h with } hi rfl rfl (Adw (h.mo m (List.mem_of_getElem? hi))) ?_ ?_
     ·unfold kb
      show(if bA (qA m.x f.n)=1 then iD m.y else 0)<=_
      rw[Hg];exact Nat.le_refl _
     ·exact Hg
theorem XJ (hI:bO B s) (h:f4 c s):f4 c (qZ f s):=by
 unfold qZ
 split
 ·exact iK hI h
 ·split
  ·exact iK hI h
  ·exact { h with lk:=fun j=>by show j∈(kK 0 f.n s.ld).l.map gZ.id↔_;rw[P7];exact h.lk j }
theorem Z5 (hI:bO B s) (h:f4 c s):f4 c (wJ f s):=by
 unfold wJ
 cases hp:Vg s.pe f.ps with
 |none=>exact iK hI h
 |some t=>
  dsimp only
  split
  ·exact iK hI h
  ·exact Eh (NT hI (MU hI.pe hp) (MW hI.ld)) { h with lk:=fun j=>by show j∈(mO s.pe.w t.w s.ld).l.map gZ.id↔_;rw[Aif];exact h.lk j } ⟨rfl,by show(6:Int)≠10;decide,by show(6:Int)≠11;decide⟩
theorem Ai5 {q:dR} (hq:OK q g) (h:Rq c g m):Rq c g { m with y:=Ex m.y q }:=by
 obtain⟨h1,h2,h3,h4⟩:=h
 unfold OK at hq
 refine⟨?_,h2,by show bA m.x=jZ (Ex m.y q);rw[Acg];exact h3,h4⟩
 show HU g (Ex m.y q)
 cases hy:m.y with
 |b z=>rw[hy] at h1;show max z.most q.w<=g.w;have:z.most<=g.w:=h1;omega
 |i z=>rw[hy] at h1;show max z.mr q.it<=g.it;have:z.mr<=g.it:=h1;omega
theorem La (h1:∀m,(q m).id=m.id) (h2:∀m,bA (q m).x=bA m.x):(∃m∈l,m.id=j/\bA m.x=1)↔∃z∈l.map q,z.id=j/\bA z.x=1:=by
 constructor
 ·rintro⟨z,hz,hzi,hzk⟩
  exact⟨q z,List.mem_map_of_mem hz,by rw[h1];exact hzi,by rw[h2];exact hzk⟩
 ·rintro⟨z,hz,hzi,hzk⟩
  obtain⟨y,hy,rfl⟩:=List.mem_map.1 hz
  exact⟨y,hy,by rw[<- h1];exact hzi,by rw[<- h2];exact hzk⟩
theorem XY (hI:bO B s) (h:f4 c s):f4 c (rD s):=by
 unfold rD
 split
 ·exact iK hI h
 ·rename_i hE
  obtain⟨hg1,hg2⟩:=h.hg
  have hg:OK (dE s.sh).h (dE s.sh).g/\∀t∈(dE s.sh).l,OK t (dE s.sh).g:=by
   unfold dE
   cases hl:s.sh.l with
   |nil=>exact⟨hg1,hg2⟩
   |cons q r=>
    rw[hl] at hg2
    exact⟨hg2 q (List.mem_cons_self ..),fun z hz=>hg2 z (List.mem_cons_of_mem _ hz)⟩
  have e:(dE s.sh).g=s.sh.g:=by
   unfold dE
   cases s.sh.l <;> rfl
  have hkb:∀m:Sm,kb ({ m with y:=Ex m.y (dE s.sh).h }:Sm)=kb m:=fun m=>by
   unfold kb
   cases hy:m.y <;> rfl
  exact { h with
   tn:=fun j hj=>by
    obtain⟨z,hz,hzi⟩:=h.tn j hj
    exact⟨_,List.mem_map_of_mem hz,hzi⟩
   cl:=fun ho=>by
    show s.l.map _= []
    rw[h.cl ho];rfl
   mo:=fun z hz=>by
    obtain⟨m,hm,rfl⟩:=List.mem_map.1 hz
    show Rq c (dE s.sh).g _
    have h1:=h.mo m hm
    rw[<- e] at h1
    exact Ai5 hg.1 h1
   hg:=hg
   nf:=by
    have h1:=h.nf
    unfold fQ at h1
    show(((s.l.map fun m=>({ m with y:=Ex m.y (dE s.sh).h }:Sm)).filter fun m=>m.own == false).length:Int)<=(dE s.sh).g.st
    rw[pA,List.map_map,e]
    rw[pA] at h1
    exact h1
   kp:=by
    have h1:=h.kp
    show s.rv.us+uJ (s.l.map fun m=>({ m with y:=Ex m.y (dE s.sh).h }:Sm))<=s.rv.got
    rw[Vz hkb];exact h1
   lk:=fun j=>(h.lk j).trans (La (q:=fun m=> { m with y:=Ex m.y (dE s.sh).h }) (fun _=>rfl) fun _=>rfl) }
theorem I3:∀ {l acc:List Sm} {s:Cn},s.l=acc++l->bO B s->f4 c s->f4 c (nB (l.map Sm.id) s)
 | [],acc,s,he,_,h=>h
 |m::l,acc,s,he,hI,h=>by
  have hlt:=SB (by rw[<- he];exact hI.sm)
  have hm:bX m.id s.l=some m:=by rw[he];exact Iv hlt
  rw[List.map_cons,LB hm]
  split
  ·refine I3 (l:=l) (acc:=acc) ?_ (tJ hI hm) (Ff hI h hm)
   show s.l.eraseIdx (cI m.id s.l)=acc++l
   rw[he];exact Gq hlt
  ·exact I3 (l:=l) (acc:=acc++ [m]) (by rw[he];simp) hI h
theorem Agx {d:Dr} (h:d.ov=true):(mI d la co).ov=true:=by
 unfold mI
 split
 ·exact h
 ·split
  ·rfl
  ·exact h
theorem Acn (hI:bO B s) (h:f4 c s):f4 c (vK f s):=by
 unfold vK
 split
 ·exact Ir (q:=s.last) hI h h.ls
 ·rename_i hov
  have ho:s.dr.ov=false:=by
   cases hq:s.dr.ov
   ·rfl
   ·exact absurd (Agx hq) hov
  refine I3 (acc:= []) rfl (FN hI) ?_
  exact { h with cl:=fun hq=>absurd hq hov }
theorem Vu (hI:bO B s) (h:f4 c s):f4 c { s with tr:=lO id on w xx s.tr }:= { h with tn:=fun j hj=>h.tn j (Ah7 hI.tr hj) }
theorem Xq (hI:bO B s) (h:f4 c s):f4 c (kE f s):=by
 unfold kE
 split
 ·exact iK hI h
 ·cases hm:bX f.st s.l with
  |none=>exact h
  |some m=>
   dsimp only
   split
   ·exact Vu hI h
   ·split
    ·exact Ff hI h hm
    ·exact OS hI h hm
theorem Uc (hI:bO B s) (h:f4 c s) (hB:B+300<=250000000) (hr:bR f):f4 c (bC f s):=by
 have hh:=iS hI
 have hk:f4 c { s with bt:=bQ s.bt s.now }:= { h with }
 have hm:=hh.mono (B':=B+300) (by omega) hB
 unfold bC fG
 split
 ·exact Z5 hm hk
 ·split
  ·exact XY hm hk
  ·split
   ·exact Eh hm hk ⟨rfl,by show(8:Int)≠10;decide,by show(8:Int)≠11;decide⟩
   ·split
    ·exact { hk with }
    ·split
     ·exact Acn hm hk
     ·split
      ·exact Tp hh hk hB
      ·split
       ·exact XJ hm hk
       ·split
        ·exact iK hm hk
        ·split
         ·rename_i ht
          exact Agd hh hk hB (hr.2.2.2.2.2.2.2.2.2.2.2.2.1 (by omega))
         ·exact Xq hm hk
theorem GK:∀ {fs:List Fm} {s:Cn} {B:Int},bO B s->f4 c s->(∀f∈fs,bR f)->B+300 * fs.length<=250000000->f4 c (cC fs s)
 | [],s,B,_,h,_,hB=>h
 |f::r,s,B,hI,h,hr,hB=>by
  have e:(f::r).length=r.length+1:=rfl
  rw[e] at hB
  have h1:=zS hI (by omega) (hr f (List.mem_cons_self ..))
  have h2:=Uc hI h (by omega) (hr f (List.mem_cons_self ..))
  unfold cC
  split
  ·exact h2
  ·exact GK h1 h2 (fun z hz=>hr z (List.mem_cons_of_mem _ hz)) (by omega)
theorem Ae2 {bs:List UInt8} (h:(pF bs).2.2=0):(pF bs).2.1.length<=265:=by
 have h1:=(VV bs.length bs (Nat.le_refl _)).1
 rw[h] at h1
 rw[<- jF]
 unfold uR at h1
 split at h1
 ·omega
 ·split at h1
  ·split at h1
   ·rename_i hf
    have:=(IF hf).2
    split at h1
    ·omega
    ·split at h1
     ·cases h1
     ·rename_i hg;exact absurd (Option.some.inj h1) hg
   ·rename_i hf;exact absurd (Option.some.inj h1) hf
  ·cases h1
def nS (s:Cn):Int×List UInt8:=(s.ine,s.inb)
theorem QN:∀ {l:List Int} {s:Cn},nS (qN code l s)=nS s
 | [],_=>rfl
 |a::l,s=>QN (l:=l) (s:=lR a code false s)
theorem Qh:nS (uZ s)=nS s:=QN (code:=s.dr.co) (l:=s.l.map Sm.id) (s:=s)
theorem kR:nS (iM w o s)=nS s:=Qh
theorem Ox:nS (nC f s)=nS s:=by
 unfold nC
 split
 ·rfl
 ·exact kR
theorem wH:nS (i8 w st s)=nS s:=by
 unfold i8
 split
 ·exact kR
 ·rw[Ox]
  split
  ·rfl
  ·rfl
theorem Cq:nS (lJ m s)=nS s:=by unfold lJ;split <;> rfl
theorem Alm:nS (rZ f s)=nS s:=by
 unfold rZ
 generalize (if f.t=0 then((f.d.size:Nat):Int) else 0)=kk
 generalize (if f.t=1/\(f.d≠⟨#[]⟩\/f.e=false) then(1:Int) else kk)=nn
 split
 ·exact kR
 ·split
  ·rfl
  ·split
   ·exact wH
   ·exact Cq
theorem Y2:nS (mU f s)=nS s:=by
 unfold mU
 split
 ·exact kR
 ·split
  ·exact kR
  ·split
   ·exact wH
   ·split
    ·exact wH
    ·rfl
theorem UP:nS (lE f m s)=nS s:=by
 unfold lE
 split
 ·exact wH
 ·split
  ·exact wH
  ·split
   ·split
    ·exact wH
    ·rfl
   ·split
    ·exact wH
    ·rfl
theorem Aen:nS (qZ f s)=nS s:=by
 unfold qZ
 split
 ·exact kR
 ·split
  ·exact kR
  ·rfl
theorem Ai8:nS (wJ f s)=nS s:=by
 unfold wJ
 split
 ·exact kR
 ·split
  ·exact kR
  ·exact Ox
theorem ZX:nS (rD s)=nS s:=by
 unfold rD
 split
 ·exact kR
 ·rfl
theorem VH:∀ {l:List Int} {s:Cn},nS (nB l s)=nS s
 | [],_=>rfl
 |a::l,s=>by
  unfold nB
  rw[VH (l:=l)]
  split
  ·split
   ·rfl
   ·rfl
  ·rfl
theorem Ajk:nS (vK f s)=nS s:=by
 unfold vK
 split
 ·exact Qh
 ·exact VH
theorem Abd:nS (kE f s)=nS s:=by
 unfold kE
 split
 ·exact kR
 ·split
  ·rfl
  ·split
   ·rfl
   ·split
    ·rfl
    ·exact UP
theorem LI:nS (bC f s)=nS s:=by
 unfold bC fG
 split
 ·exact Ai8
 ·split
  ·exact ZX
  ·split
   ·exact Ox
   ·split
    ·rfl
    ·split
     ·exact Ajk
     ·split
      ·exact Y2
      ·split
       ·exact Aen
       ·split
        ·exact kR
        ·split
         ·exact Alm
         ·exact Abd
theorem Ac:∀ {l:List Fm} {s:Cn},nS (cC l s)=nS s
 | [],_=>rfl
 |f::l,s=>by
  unfold cC
  split
  ·exact LI
  ·rw[Ac (l:=l)];exact LI
theorem Qz:∀ {l:List Int} {s:Cn},(qN code l s).dr=s.dr
 | [],_=>rfl
 |a::l,s=>Qz (l:=l) (s:=lR a code false s)
theorem D2 (hw:0<=w/\w<=20):(iM w o s).dr.ov=true:=by
 have h1:=KY (o:=o) hw
 have e:(iM w o s).dr=vY s.dr (i0 w o):=Qz
 rw[e]
 unfold vY EH
 cases ho:s.dr.ov
 ·have:pO (i0 w o) 1=true:=by unfold pO;simp only[Bool.and_eq_true,decide_eq_true_eq];omega
  rw[this];rfl
 ·simp[ho]
def CN (s:Cn):Prop:=(s.dr.ov=true\/s.ine=0)/\s.inb.length<=300
theorem Ms {s':Cn} (h:CN s) (he:nS s'=nS s) (ho:s.dr.ov=true->s'.dr.ov=true):CN s':=by
 have e1:s'.ine=s.ine:=congrArg Prod.fst he
 have e2:s'.inb=s.inb:=congrArg Prod.snd he
 unfold CN
 rw[e1,e2]
 exact⟨h.1.elim (fun q=>.inl (ho q)) .inr,h.2⟩
theorem Ac5 (h:CN s):CN (fJ u s):=by
 unfold fJ
 split
 ·rename_i ho
  exact⟨.inl ho,h.2⟩
 ·have h1:nS (cC (eB u (aD s)).1 (eB u (aD s)).2)=((pF (s.inb++u)).2.2,if(pF (s.inb++u)).2.2=0 then(pF (s.inb++u)).2.1 else []):=Ac
  have h2:(if(pF (s.inb++u)).2.2=0 then(pF (s.inb++u)).2.1 else []).length<=300:=by
   split
   ·rename_i h0;have:=Ae2 h0;omega
   ·simp
  split
  ·rename_i hq
   have e1:=congrArg Prod.fst h1
   have e2:=congrArg Prod.snd h1
   refine⟨hq.elim .inl fun q=>.inr ?_,?_⟩
   ·rw[<- q];exact e1
   ·show(nS (cC (eB u (aD s)).1 (eB u (aD s)).2)).2.length<=300
    rw[e2];exact h2
  ·refine⟨.inl (D2 (by decide)),?_⟩
   show(nS (iM 0 _ _)).2.length<=300
   rw[kR,h1];exact h2
theorem ZV (hI:bO B s) (h:f4 c s) (hB:B+u.length+300 * (pF (s.inb++u)).1.length<=250000000):f4 c (fJ u s):=by
 unfold fJ
 split
 ·exact { h with }
 ·have h1:=Fa (u:=u) hI (by omega)
  have hl:((pF (s.inb++u)).1.map GG).length=(pF (s.inb++u)).1.length:=List.length_map ..
  have hB2:B+u.length+300 * ((((pF (s.inb++u)).1.map GG).length:Nat):Int)<=250000000:=by rw[hl];exact hB
  have h2:=BD (fs:=(eB u (aD s)).1) h1 C4 hB2
  have h3:=GK (c:=c) (fs:=(eB u (aD s)).1) h1 { h with } C4 hB2
  split
  ·exact h3
  ·exact iK h2 h3
theorem cP (h:f4 c s):f4 c (aD s):= { h with }
theorem Ak6 (h:Rq c g m):Rq c g (Bw m d):=by
 obtain⟨h1,h2,h3,h4⟩:=h
 unfold Bw
 split
 ·refine⟨h1,?_,?_,?_⟩
  ·show Age c (AR m.x d)
   cases hx:m.x with
   |b z=>rw[hx] at h2;exact h2
   |i z=>
    rw[hx] at h2
    show((if z.en=true\/256<d.size then z else if z.l.length<z.cap then { z with l:=z.l++ [d],ac:=z.ac+1 } else if z.st=0 then z else if z.st=1\/z.cap=0 then { z with ac:=z.ac+1,dr:=z.dr+1 } else { z with l:=z.l.tail++ [d],ac:=z.ac+1,dr:=z.dr+1 }).cap:Int)<=c.si
    repeat' split
    all_goals exact h2
  ·show bA (AR m.x d)=jZ m.y
   rw[<- h3]
   cases hx:m.x <;> rfl
  ·show xSz (AR m.x d)
   cases hx:m.x with
   |b z=>trivial
   |i z=>
    rw[hx] at h4
    show ∀y∈(if z.en=true\/256<d.size then z else if z.l.length<z.cap then { z with l:=z.l++ [d],ac:=z.ac+1 } else if z.st=0 then z else if z.st=1\/z.cap=0 then { z with ac:=z.ac+1,dr:=z.dr+1 } else { z with l:=z.l.tail++ [d],ac:=z.ac+1,dr:=z.dr+1 }).l,y.size<=256
    split
    ·exact h4
    ·rename_i hd
     have hd:d.size<=256:=by omega
     have ap:∀ {l:List ByteArray},(∀y∈l,y.size<=256)->∀y∈l++ [d],y.size<=256:=fun hl y hy=>by
      rcases List.mem_append.1 hy with hy|hy
      ·exact hl y hy
      ·rw[List.mem_singleton.1 hy];exact hd
     repeat' split
     ·exact ap h4
     ·exact h4
     ·exact h4
     ·exact ap fun y hy=>h4 y (List.mem_of_mem_tail hy)
 ·exact⟨h1,h2,h3,h4⟩
theorem Aj8 (h:Rq c g m):Rq c g (Bl m):=by
 obtain⟨h1,h2,h3,h4⟩:=h
 unfold Bl
 split
 ·refine⟨h1,?_,?_,?_⟩
  ·show Age c (Ko m.x)
   cases hx:m.x with
   |b z=>rw[hx] at h2;exact h2
   |i z=>rw[hx] at h2;exact h2
  ·show bA (Ko m.x)=jZ m.y
   rw[<- h3]
   cases hx:m.x <;> rfl
  ·show xSz (Ko m.x)
   cases hx:m.x with
   |b z=>trivial
   |i z=>rw[hx] at h4;exact h4
 ·exact⟨h1,h2,h3,h4⟩
theorem U9 {y:Ys} (h:Rq c g m) (h1:HU g y) (h2:jZ y=jZ m.y):Rq c g { m with y:=y }:=⟨h1,h.x,h.ok.trans h2.symm,h.sz⟩
theorem YV:bA (Bw m d).x=bA m.x:=by
 unfold Bw
 split
 ·show bA (AR m.x d)=_
  cases m.x <;> rfl
 ·rfl
theorem Zw:bA (Bl m).x=bA m.x:=by
 unfold Bl
 split
 ·show bA (Ko m.x)=_
  cases m.x <;> rfl
 ·rfl
theorem Am9:kb (Bw m d)=kb m:=by
 unfold Bw kb
 split
 ·show(if bA (AR m.x d)=1 then iD m.y else 0)=_
  cases hx:m.x <;> rfl
 ·rfl
theorem Aml:kb (Bl m)=kb m:=by
 unfold Bl kb
 split
 ·show(if bA (Ko m.x)=1 then iD m.y else 0)=_
  cases hx:m.x <;> rfl
 ·rfl
theorem Akk {y:Ys} (h:HU g y):HU g (Fi y n):=by cases y <;> exact h
theorem Ain {y:Ys} (h:HU g y):HU g (FC y):=by
 cases y with
 |b y=>exact h
 |i y=>unfold FC;dsimp only;split <;> exact h
theorem Aei {y:Ys} (h:HU g y):HU g (G7 y n):=by
 cases y with
 |b y=>exact h
 |i y=>unfold G7;dsimp only;split <;> exact h
theorem Yh (h:f4 c s):f4 c (kY id d s):=by
 unfold kY
 split
 ·exact cP h
 ·split
  ·rename_i m hm
   obtain⟨hi,hmid⟩:=aS hm
   rw[eN (id:=id) (Cc.trans hmid)]
   exact zM (s:=aD s) (cP h) hi Cc PN (Ak6 (h.mo m (List.mem_of_getElem? hi))) (by rw[Am9];exact Nat.le_refl _) YV
  ·exact h
theorem Akj (h:f4 c s):f4 c (xF id s):=by
 unfold xF
 split
 ·exact cP h
 ·split
  ·rename_i m hm
   obtain⟨hi,hmid⟩:=aS hm
   rw[eN (id:=id) (Cb.trans hmid)]
   exact zM (s:=aD s) (cP h) hi Cb QB (Aj8 (h.mo m (List.mem_of_getElem? hi))) (by rw[Aml];exact Nat.le_refl _) Zw
  ·exact h
theorem Apc (hk:bA m.x=jZ m.y) (hE:Pb m.y=0):kb ({ m with y:=Fi m.y n }:Sm)+(CI m.y n).size=kb m:=by
 unfold kb
 cases hy:m.y with
 |b z=>
  rw[hy] at hk
  have hk:bA m.x=1:=hk
  have e:(CI (.b z) n).size=min (MD z n) z.bs.length:=by
   show((z.bs.take (MD z n)).toArray).size=_
   simp
  simp only[if_pos hk,Fi,iD,List.length_drop]
  rw[e];omega
 |i z=>rw[hy] at hE;cases hE
theorem Agg (hI:bO B s) (h:f4 c s):f4 c (mY id n s):=by
 unfold mY
 split
 ·exact cP h
 ·split
  ·rename_i m hm
   obtain⟨hi,hmid⟩:=aS hm
   split
   ·exact cP h
   ·rename_i hE
    have hE:Pb m.y=0:=by simpa using hE
    have hmo:=h.mo m (List.mem_of_getElem? hi)
    rw[eN (id:=id) (show({ m with y:=Fi m.y n }:Sm).id=id from hmid)]
    have hI2:bO B { ({ aD s with rv:=fO s.rv ((CI m.y n).size:Nat) }:Cn) with l:=s.l.set (cI id s.l) { m with y:=Fi m.y n } }:=mN (s:= { aD s with rv:=fO s.rv ((CI m.y n).size:Nat) }) (rN (bH hI)) hi rfl rfl (Tq (hI.st m (List.mem_of_getElem? hi)))
    have hkb:=Apc (n:=n) hmo.ok hE
    have hset:=OG (m':= { m with y:=Fi m.y n }) hi
    have hkp:=h.kp
    have h1:f4 c { aD s with l:=s.l.set (cI id s.l) { m with y:=Fi m.y n } }:=zM (s:=aD s) (cP h) hi rfl rfl (U9 hmo (Akk hmo.y) Alu) (by omega) rfl
    have h2:=M9 (s:= { aD s with l:=s.l.set (cI id s.l) { m with y:=Fi m.y n } }) (k:=((CI m.y n).size:Nat)) h1 (by show _+s.rv.us+uJ (s.l.set (cI id s.l) { m with y:=Fi m.y n })<=s.rv.got;omega) (by omega)
    exact Ep hI2 { h2 with } (m7 (m':= { m with y:=Fi m.y n }) hm rfl)
  ·exact h
theorem Acv (hI:bO B s) (h:f4 c s):f4 c (rJ id s):=by
 unfold rJ
 split
 ·exact cP h
 ·split
  ·rename_i m hm
   obtain⟨hi,hmid⟩:=aS hm
   split
   ·exact cP h
   ·have hmo:=h.mo m (List.mem_of_getElem? hi)
    rw[eN (id:=id) (show({ m with y:=FC m.y }:Sm).id=id from hmid)]
    have hI2:bO B { aD s with l:=s.l.set (cI id s.l) { m with y:=FC m.y } }:=mN (s:=aD s) (bH hI) hi rfl rfl (Tt (hI.st m (List.mem_of_getElem? hi)))
    refine Ep hI2 (zM (s:=aD s) (cP h) hi rfl rfl (U9 hmo (Ain hmo.y) Al2) ?_ rfl) (m7 (m':= { m with y:=FC m.y }) hm rfl)
    unfold kb
    have hok:=hmo.ok
    cases hy:m.y with
    |b z=>exact Nat.le_refl _
    |i z=>
     rw[hy] at hok
     have hok:bA m.x=2:=hok
     simp[hok]
  ·exact h
theorem Aji (h:f4 c s):f4 c (wR id n s):=by
 unfold wR
 split
 ·exact cP h
 ·split
  ·rename_i m hm
   obtain⟨hi,hmid⟩:=aS hm
   have hmo:=h.mo m (List.mem_of_getElem? hi)
   rw[eN (id:=id) (show({ m with y:=G7 m.y n }:Sm).id=id from hmid)]
   refine zM (s:=aD s) (cP h) hi rfl rfl (U9 hmo (Aei hmo.y) Ae7) ?_ rfl
   unfold kb
   have hok:=hmo.ok
   cases hy:m.y with
   |b z=>exact Nat.le_refl _
   |i z=>
    rw[hy] at hok
    have hok:bA m.x=2:=hok
    simp[hok]
  ·exact h
theorem Aa8 (hI:bO B s) (h:f4 c s):f4 c (pJ id on w xx s):=by
 unfold pJ
 split
 ·exact cP h
 ·exact Vu (s:= { aD s with out:=wL (mX id on w xx) s.out }) (s8 (bH hI)) (Ci (cP h) ⟨rfl,(by show(3:Int)≠10;decide),(by show(3:Int)≠11;decide)⟩)
theorem Yn (hI:bO B s) (h:f4 c s):f4 c (lU id n s):=by
 unfold lU
 split
 ·exact cP h
 ·split
  ·rename_i m hm
   exact Ff (s:= { aD s with out:=wL (fM id n) s.out }) (s8 (bH hI)) (Ci (cP h) ⟨rfl,(by show(4:Int)≠10;decide),(by show(4:Int)≠11;decide)⟩) hm
  ·exact h
theorem FQ {z:Dr}:(BI z la).ov=z.ov:=by unfold BI;split <;> rfl
theorem An9 (h:f4 c s):f4 c (AT s):=by
 unfold AT
 split
 ·exact cP h
 ·exact { Ci (f:=zZ s.la 0) (cP h) ⟨rfl,(by show(9:Int)≠10;decide),(by show(9:Int)≠11;decide)⟩ with
   cl:=fun ho=>h.cl (by rw[<- ho];exact FQ.symm) }
theorem Afk (h:f4 c s):f4 c (tD t s):=by
 unfold tD
 split
 ·exact cP h
 ·obtain⟨h1,h2⟩:=h.hg
  unfold OK at h1
  have hnf:=h.nf
  have e:(eC s.sh t).h=s.sh.h:=by unfold eC;split <;> rfl
  have eg:s.sh.g.w<=(eC s.sh t).g.w/\s.sh.g.st<=(eC s.sh t).g.st/\s.sh.g.it<=(eC s.sh t).g.it:=by
   unfold eC
   split
   ·simp only[Ou];omega
   ·omega
  exact { Ci (f:=vS (CX (nD s.sh) t)) (cP h) ⟨rfl,(by show(5:Int)≠10;decide),(by show(5:Int)≠11;decide)⟩ with
   mo:=fun m hm=>by
    obtain⟨q1,q2,q3,q4⟩:=h.mo m hm
    refine⟨?_,q2,q3,q4⟩
    show HU (eC s.sh t).g m.y
    cases hy:m.y with
    |b y=>rw[hy] at q1;have:y.most<=s.sh.g.w:=q1;show y.most<=_;omega
    |i y=>rw[hy] at q1;have:y.mr<=s.sh.g.it:=q1;show y.mr<=_;omega
   hg:=by
    refine⟨?_,fun z hz=>?_⟩
    ·show OK (eC s.sh t).h (eC s.sh t).g
     rw[e];unfold OK;omega
    ·show OK z (eC s.sh t).g
     have hz:z∈(eC s.sh t).l:=hz
     by_cases hq:iE s.sh t=0
     ·have el:(eC s.sh t).l=s.sh.l++ [t]:=by unfold eC;rw[if_pos hq]
      have eg2:(eC s.sh t).g=Ou s.sh.g t:=by unfold eC;rw[if_pos hq]
      rw[el] at hz
      rcases List.mem_append.1 hz with hz|hz
      ·have:=h2 z hz
       unfold OK at this ⊢;omega
      ·rw[List.mem_singleton.1 hz,eg2]
       unfold OK;simp only[Ou];omega
     ·have el:eC s.sh t=s.sh:=by unfold eC;rw[if_neg hq]
      rw[el] at hz ⊢;exact h2 z hz
   nf:=by
    show(fQ s false:Int)<=(eC s.sh t).g.st
    omega }
theorem Aff (h:f4 c s):f4 c (s4 s):= { h with }
theorem Afx (hI:bO B s) (h:f4 c s):f4 c (lF kind sg on w xx s):=by
 unfold lF
 split
 ·exact cP h
 ·rename_i hE
  have hE:jP kind sg on w xx s=0:=by simpa using hE
  obtain⟨e1,e2,e3,e4,e5,e6,e7,e8,e9⟩:=DK hE
  have h1:=Ci (f:=lV s.nx kind on w xx) (cP h) ⟨rfl,(by show(2:Int)≠10;decide),(by show(2:Int)≠11;decide)⟩
  exact W0 (s:= { aD s with nx:=s.nx+2,out:=wL (lV s.nx kind on w xx) s.out }) (Jc (s8 (f:=lV s.nx kind on w xx) (bH hI)) e5) { h1 with } (Fx hI e5) (show s.l.length<64 from Nm hI (by omega)) ⟨by have:=hI.nx;omega,e5⟩ e1 (fun q=>by cases q)
theorem Vq:(lJ m s).dr=s.dr:=by unfold lJ;split <;> rfl
theorem YO (h:CN s):CN (kY id d s):=by
 unfold kY
 split
 ·exact h
 ·split <;> exact h
theorem Ak1 (h:CN s):CN (xF id s):=by
 unfold xF
 split
 ·exact h
 ·split <;> exact h
theorem Aeg (h:CN s):CN (mY id n s):=by
 unfold mY
 split
 ·exact h
 ·split
  ·split
   ·exact h
   ·exact Ms (s:=s) h Cq fun ho=>by rw[Vq];exact ho
  ·exact h
theorem Agn (h:CN s):CN (rJ id s):=by
 unfold rJ
 split
 ·exact h
 ·split
  ·split
   ·exact h
   ·exact Ms (s:=s) h Cq fun ho=>by rw[Vq];exact ho
  ·exact h
theorem Alc (h:CN s):CN (wR id n s):=by
 unfold wR
 split
 ·exact h
 ·split <;> exact h
theorem Afw (h:CN s):CN (pJ id on w xx s):=by unfold pJ;split <;> exact h
theorem ZL (h:CN s):CN (lU id n s):=by
 unfold lU
 split
 ·exact h
 ·split <;> exact h
theorem Aog (h:CN s):CN (AT s):=by
 unfold AT
 split
 ·exact h
 ·exact Ms (s:=s) h rfl fun ho=>by show(BI s.dr s.la).ov=true;rw[FQ];exact ho
theorem Aa9 (h:CN s):CN (tD t s):=by unfold tD;split <;> exact h
theorem Aa4 (h:CN s):CN (s4 s):=h
theorem Aar (h:CN s):CN (lF kind sg on w xx s):=by unfold lF;split <;> exact h
end Go.Proofs.YtepnmcipkangkaaGreat
