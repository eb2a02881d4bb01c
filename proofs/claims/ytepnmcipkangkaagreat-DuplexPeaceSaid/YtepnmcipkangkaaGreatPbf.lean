/- A part of the proof: lemmas; each with the conditions that it states. -/
import Derived.Test.YtepnmcipkangkaaGreatPbe
set_option linter.unusedVariables false
set_option linter.unusedSimpArgs false
set_option maxRecDepth 100000
set_option maxHeartbeats 40000000
namespace Go.Proofs.YtepnmcipkangkaaGreat
open Go Go.Proofs Go.Sl
attribute [local irreducible] aN fJ cY bN aM aS aA dM dN aV dL pt ro fB star sep bF
attribute [local irreducible] mp CV
variable {s:Cn} {B id n k code w o st j on b la co kind sg:Int} {gone own xx e:Bool} {m m':Sm} {l:List Sm} {i:Nat} {c cf:Cf} {f:Fm} {g t h:dZ} {z:Ld} {q:Sm->Sm} {u:List UInt8} {d:ByteArray}
theorem Akd {z:eW} (h:N3 z) (hj:fC (Az id z) j):fC z j/\j≠id:=by
 unfold Az at hj
 split at hj
 ·rename_i hid
  have hw:=h.w id hid
  obtain⟨h1,h2,h3,h4,h5,h6⟩:=TY (on:=(dH id z).on) (xw:=(dH id z).w) (all:=qU z (cC id z.1)) hw (fun k hk=>(lV h.nd hk).1) (B9 h.nd) (fun k hk=>⟨(h.w k (lV h.nd hk).1).1,Nt h.w (fun k hk=>(lV h.nd hk).1) k hk⟩) h.kok h.nd h.w
  have hd:=E0 (id:=id) (j:=j) h5
  unfold fC eA at hj
  rw[hd] at hj
  by_cases he:j=id
  ·rw[if_pos he] at hj;cases hj
  ·rw[if_neg he] at hj
   exact⟨(h1 j).1 hj,he⟩
 ·rename_i hid
  refine⟨hj,fun e=>hid ?_⟩
  rw[e] at hj;exact hj
theorem Fi {z:eW} (hok:SJ z.1 z.2) (hnd:O2 z) {x:Bool} (hj:fC (qT id on w x z) j):j=id\/fC z j:=by
 unfold qT at hj
 rw[d5] at hj
 rcases hj with hj|hj
 ·exact .inl hj
 ·split at hj
  ·exact .inr (((Ft (id:=id) (fun k hk=>(lV hnd hk).1) hok hnd).1 j).1 hj)
  ·exact .inr hj
theorem WM {z:eW} (h:N3 z):sY id z (z.1.length+1) 0=false:=by
 unfold sY
 rw[if_neg]
 intro hq
 have:=h.ky 0 hq
 omega
theorem Aiv {z:eW} (h:N3 z) {x:Bool} (hj:fC (lC id on w x z) j):fC z j:=by
 unfold lC at hj
 split at hj
 ·exact hj
 ·rename_i hE
  have hid:fC z id:=by
   cases hq:eA id z.1
   ·exact absurd (by unfold qJ;rw[if_pos hq];decide) hE
   ·exact hq
  have fin:∀ {y:Int},y=id\/fC z y->fC z y:=fun hy=>hy.elim (fun e=>by rw[e];exact hid) fun q=>q
  split at hj
  ·rw[WM h,if_neg Bool.false_ne_true] at hj
   exact fin (Fi h.kok h.nd hj)
  ·rename_i hkn
   split at hj
   ·rename_i hab
    have hon:fC z on:=by
     by_cases h0:on=0
     ·subst h0;rw[WM h] at hab;cases hab
     ·cases hq:eA on z.1
      ·exact absurd (by unfold BL;rw[hq];simp[h0]) hkn
      ·exact hq
    rcases Fi (IQ h.kok) (Kp h.nd) hj with hj|hj
    ·exact fin (.inl hj)
    ·unfold jC at hj
     rw[d5] at hj
     rcases hj with hj|hj
     ·rw[hj];exact hon
     ·exact hj
   ·exact fin (Fi h.kok h.nd hj)
theorem Aiy {z:eW} (h:N3 z) {x:Bool} (hj:fC (nY id on w x 64 z) j):j=id\/fC z j:=by
 unfold nY at hj
 split at hj
 ·exact .inr hj
 ·split at hj
  ·exact Fi h.kok h.nd hj
  ·exact Fi h.kok h.nd hj
theorem Lg {z:eW} (h:N3 z):∀ {n:Nat} {lv:List Int},(∀y∈lv,fC z y)->∀y∈Av z n lv,fC z y
 |0,_,_,_,hy=>by cases hy
 |n+1,lv,hl,y,hy=>by
  unfold Av at hy
  split at hy
  ·cases hy
  ·rcases List.mem_append.1 hy with hy|hy
   ·exact hl y hy
   ·refine Lg h (n:=n) (lv:=KG z lv) (fun q hq=>?_) y hy
    unfold KG at hq
    exact(AV h.nd q (BJ.1 hq)).1
theorem Am9 (hs:Hq l) (hm:m∈l):bY m.id l=some m:=by
 cases hq:bY m.id l with
 |none=>exact absurd rfl (ML hs hq m hm)
 |some z=>
  obtain⟨h1,h2⟩:=aX hq
  obtain⟨j,hj⟩:=List.getElem?_of_mem hm
  have hp:=hs.2
  obtain⟨a1,a2⟩:=List.getElem?_eq_some_iff.1 h1
  obtain⟨b1,b2⟩:=List.getElem?_eq_some_iff.1 hj
  rcases Nat.lt_trichotomy (cI m.id l) j with hlt|heq|hgt
  ·have:=List.pairwise_iff_getElem.1 hp _ _ a1 b1 hlt
   rw[a2,b2] at this;omega
  ·subst heq
   rw[a2] at b2;rw[b2]
  ·have:=List.pairwise_iff_getElem.1 hp _ _ b1 a1 hgt
   rw[a2,b2] at this;omega
theorem Mt (hs:Hq l) (hm:m∈l) (hne:m.id≠id) (hat:bY id l=some m'):m∈l.eraseIdx (cI id l):=by
 obtain⟨h1,h2⟩:=aX hat
 obtain⟨j,hj⟩:=List.getElem?_of_mem hm
 refine List.mem_eraseIdx_iff_getElem?.2 ⟨j,fun e=>?_,hj⟩
 rw[e,h1] at hj
 cases hj
 exact hne h2
theorem Rz {z:Sm} (hs:Hq l) (hat:bY id l=some m') (hz:z∈l.eraseIdx (cI id l)):z.id≠id:=fun e=>by
 obtain⟨h1,h2⟩:=aX hat
 obtain⟨i,hi,hy⟩:=List.mem_eraseIdx_iff_getElem?.1 hz
 obtain⟨a1,a2⟩:=List.getElem?_eq_some_iff.1 h1
 obtain⟨b1,b2⟩:=List.getElem?_eq_some_iff.1 hy
 rcases Nat.lt_trichotomy (cI id l) i with hlt|heq|hgt
 ·have:=List.pairwise_iff_getElem.1 hs.2 _ _ a1 b1 hlt
  rw[a2,b2] at this;omega
 ·exact hi heq.symm
 ·have:=List.pairwise_iff_getElem.1 hs.2 _ _ b1 a1 hgt
  rw[a2,b2] at this;omega
theorem Uf (h:G7 B z):(pL j z.l).isSome=true↔j∈z.l.map gQ.id:=by
 constructor
 ·intro hq
  obtain⟨e,he⟩:=Option.isSome_iff_exists.1 hq
  obtain⟨h1,h2⟩:=nV he
  exact List.mem_map.2 ⟨e,List.mem_of_getElem? h1,h2⟩
 ·intro hj
  obtain⟨e,he,hid⟩:=List.mem_map.1 hj
  cases hq:pL j z.l with
  |some _=>rfl
  |none=>
   exfalso
   refine Ug (f:=gQ.id) (t:=j) h.2.1 (fun e he hid=>?_) e he hid
   have:pL j z.l=some e:=by
    unfold pL nI
    rw[he]
    simp[hid]
   rw[hq] at this;cases this
theorem Xi (h:G7 B z):j∈(kJ id z).l.map gQ.id↔j∈z.l.map gQ.id/\j≠id:=by
 unfold kJ
 cases hq:pL id z.l with
 |none=>
  rw[if_neg (by simp)]
  refine⟨fun hj=>⟨hj,fun e=>?_⟩,fun hj=>hj.1⟩
  rw[e] at hj
  have:=(Uf h).2 hj
  rw[hq] at this;cases this
 |some e=>
  obtain⟨h1,h2⟩:=nV hq
  rw[if_pos (show(some e).isSome=true from rfl)]
  show j∈(z.l.eraseIdx (nI id z.l)).map gQ.id↔_
  obtain⟨a1,a2⟩:=List.getElem?_eq_some_iff.1 h1
  constructor
  ·intro hj
   obtain⟨y,hy,hid⟩:=List.mem_map.1 hj
   refine⟨List.mem_map.2 ⟨y,List.mem_of_mem_eraseIdx hy,hid⟩,fun e'=>?_⟩
   obtain⟨i,hi,hy2⟩:=List.mem_eraseIdx_iff_getElem?.1 hy
   obtain⟨b1,b2⟩:=List.getElem?_eq_some_iff.1 hy2
   rcases Nat.lt_trichotomy (nI id z.l) i with hlt|heq|hgt
   ·have:=List.pairwise_iff_getElem.1 h.2.1 _ _ a1 b1 hlt
    rw[a2,b2] at this;omega
   ·exact hi heq.symm
   ·have:=List.pairwise_iff_getElem.1 h.2.1 _ _ b1 a1 hgt
    rw[a2,b2] at this;omega
  ·intro hj
   obtain⟨y,hy,hid⟩:=List.mem_map.1 hj.1
   refine List.mem_map.2 ⟨y,?_,hid⟩
   obtain⟨i,hi⟩:=List.getElem?_of_mem hy
   refine List.mem_eraseIdx_iff_getElem?.2 ⟨i,fun e'=>?_,hi⟩
   rw[e',h1] at hi
   cases hi
   exact hj.2 (by rw[<- hid];exact h2)
theorem Aau (h:G7 B z) (ht:1<=id/\id<=2147483647) (hn:lZ n=true) (hno:id ∉ z.l.map gQ.id) (hl:z.l.length<64):j∈(gG id n z).l.map gQ.id↔j=id\/j∈z.l.map gQ.id:=by
 have hq:¬(pL id z.l).isSome=true:=fun q=>hno ((Uf h).1 q)
 unfold gG
 rw[if_neg (by rw[hn];simp only[Bool.true_eq_false,false_or,not_or];exact⟨by omega,by omega,hq,by omega⟩)]
 show j∈(z.l.take (nI id z.l)++⟨id,n,0⟩::z.l.drop (nI id z.l)).map gQ.id↔_
 conv=>rhs;rw[<- List.take_append_drop (nI id z.l) z.l]
 simp only[List.map_append,List.map_cons,List.mem_append,List.mem_cons]
 constructor
 ·rintro(hj|hj|hj)
  ·exact .inr (.inl hj)
  ·exact .inl hj
  ·exact .inr (.inr hj)
 ·rintro(hj|hj|hj)
  ·exact .inr (.inl hj)
  ·exact .inl hj
  ·exact .inr (.inr hj)
theorem V0 {l:List gQ} {e e':gQ} (h:l[i]?=some e) (hid:e'.id=e.id):(l.set i e').map gQ.id=l.map gQ.id:=by
 rw[List.map_set,hid]
 exact k6 i (by rw[List.getElem?_map,h];rfl)
theorem Rh:(j0 id b z).l.map gQ.id=z.l.map gQ.id:=by
 unfold j0
 split
 ·rfl
 ·split
  ·rename_i e he
   exact V0 (nV he).1 rfl
  ·rfl
theorem Ajl {a:Int}:(mA a b z).l.map gQ.id=z.l.map gQ.id:=by
 unfold mA
 split
 ·rfl
 ·show(z.l.map _).map gQ.id=_
  rw[List.map_map];rfl
theorem Yy:(jI id k z).l.map gQ.id=z.l.map gQ.id:=by
 unfold jI
 split
 ·rfl
 ·split
  ·rename_i e he
   exact V0 (nV he).1 rfl
  ·rfl
def kb (m:Sm):Nat:=if bA m.x=1 then iQ m.y else 0
def zA (l:List Sm):Nat:=(l.map kb).sum
theorem OW (hi:l[i]?=some m):zA (l.set i m')+kb m=zA l+kb m':=by
 induction l generalizing i with
 |nil=>cases hi
 |cons q r ih=>
  cases i with
  |zero=>cases hi;simp[zA];omega
  |succ i=>
   have:=ih (i:=i) (by simpa using hi)
   simp only[zA,List.set_cons_succ,List.map_cons,List.sum_cons] at this ⊢
   omega
theorem Mh (hi:l[i]?=some m):zA (l.eraseIdx i)+kb m=zA l:=by
 induction l generalizing i with
 |nil=>cases hi
 |cons q r ih=>
  cases i with
  |zero=>cases hi;simp[zA];omega
  |succ i=>
   have:=ih (i:=i) (by simpa using hi)
   simp only[zA,List.eraseIdx_cons_succ,List.map_cons,List.sum_cons] at this ⊢
   omega
theorem Akc {a b:List Sm}:zA (a++b)=zA a+zA b:=by simp[zA]
theorem Aii:zA (lB m l)=kb m+zA l:=by
 have h:zA (lB m l)=zA (l.take (cI m.id l))+(kb m+zA (l.drop (cI m.id l))):=by simp[zA,lB]
 have h2:zA l=zA (l.take (cI m.id l))+zA (l.drop (cI m.id l)):=by rw[<- Akc,List.take_append_drop]
 omega
theorem Vo (h:∀m,kb (q m)=kb m):zA (l.map q)=zA l:=by
 unfold zA
 rw[List.map_map]
 congr 1
 exact List.map_congr_left fun m _=>h m
def O0 (a b:dZ):Prop:=a.w<=b.w/\a.st<=b.st/\a.it<=b.it
def If (g:dZ):Ys->Prop
 |.b y=>y.most<=g.w
 |.i y=>y.mr<=g.it
def Adv (c:Cf):Xs->Prop
 |.b x=>(x.cap:Int)<=c.sb
 |.i x=>(x.cap:Int)<=c.si
def xSz:Xs->Prop
 |.b _=>True
 |.i x=>∀d∈x.l,d.size<=256
structure RZ (c:Cf) (g:dZ) (m:Sm):Prop where
 y:If g m.y
 x:Adv c m.x
 ok:bA m.x=lO m.y
 sz:xSz m.x
structure fY (c:Cf) (s:Cn):Prop where
 cfe:s.cf=c
 tn:∀id,fC s.tr id->∃m∈s.l,m.id=id
 fo:∀f∈s.out,lM f=true/\f.ps.length=f.pn/\f.t≠10/\f.t≠11
 cl:s.dr.ov=true->s.l= []
 mo:∀m∈s.l,RZ c s.sh.g m
 hg:O0 s.sh.h s.sh.g/\∀t∈s.sh.l,O0 t s.sh.g
 nf:(fW s false:Int)<=s.sh.g.st
 kp:s.rv.us+zA s.l<=s.rv.got
 ls:s.last.size<=300
 lk:∀j,j∈s.ld.l.map gQ.id↔∃m∈s.l,m.id=j/\bA m.x=1
theorem Yw:((l.eraseIdx i).filter fun m=>m.own == false).length<=(l.filter fun m=>m.own == false).length:=((List.eraseIdx_sublist ..).filter _).length_le
theorem Iu (hI:bO B s) (h:fY c s) (hm:bY id s.l=some m):fY c (lI id code gone s):=
 { h with
   tn:=fun j hj=>by
    obtain⟨h1,h2⟩:=Akd hI.tr hj
    obtain⟨z,hz,hzi⟩:=h.tn j h1
    exact⟨z,Mt hI.sm hz (by rw[hzi];exact h2) hm,hzi⟩
   cl:=fun ho=>by
    show s.l.eraseIdx _= []
    rw[h.cl ho];rfl
   mo:=fun z hz=>h.mo z (List.mem_of_mem_eraseIdx hz)
   nf:=by
    have h1:=h.nf
    have h2:=Yw (l:=s.l) (i:=cI id s.l)
    unfold fW at h1
    show(((s.l.eraseIdx (cI id s.l)).filter fun m=>m.own == false).length:Int)<=s.sh.g.st
    omega
   kp:=by
    have h1:=h.kp
    have h2:=Mh (aX hm).1
    show s.rv.us+zA (s.l.eraseIdx (cI id s.l))<=s.rv.got
    omega
   lk:=fun j=>by
    show j∈(kJ id s.ld).l.map gQ.id↔∃m∈s.l.eraseIdx (cI id s.l),m.id=j/\bA m.x=1
    rw[Xi hI.ld,h.lk]
    constructor
    ·rintro⟨⟨z,hz,hzi,hzk⟩,hne⟩
     exact⟨z,Mt hI.sm hz (by rw[hzi];exact hne) hm,hzi,hzk⟩
    ·rintro⟨z,hz,hzi,hzk⟩
     refine⟨⟨z,List.mem_of_mem_eraseIdx hz,hzi,hzk⟩,fun e=>?_⟩
     have h1:=Rz hI.sm hm hz
     rw[hzi] at h1;exact h1 e }
theorem Ajd (hI:bO B s):(uS s).l= []:=(F3 (code:=s.dr.co) rfl hI).2
theorem Il (hI:bO B s) (h:fY c s) {d:Dr} {q:ByteArray} (hq:q.size<=300):fY c (uS { s with dr:=d,last:=q }):=by
 have hI2:bO B { s with dr:=d,last:=q }:= { hI with }
 have e:=Ajd hI2
 have h0:∀ {l:List Sm} {z:Cn} {e:Dr},z.l=l->bO B z->fY c { z with dr:=e }->fY c { qK d.co (l.map Sm.id) z with dr:=e }:=by
  intro l
  induction l with
  |nil=>intro z e _ _ hz;exact hz
  |cons m l ih=>
   intro z e hl hzI hz
   have hm:bY m.id z.l=some m:=by rw[hl];exact Gn
   exact ih (z:=lI m.id d.co false z) (Gx hl) (BY hzI hm) (Iu (s:= { z with dr:=e }) { hzI with } hz hm)
 have h1:=h0 (z:= { s with dr:=d,last:=q }) (e:=s.dr) rfl hI2 { h with ls:=hq }
 exact { h1 with
  fo:=fun f hf=>by cases hf
  cl:=fun _=>e }
theorem VA (hw:0<=w):((rB n w).size:Int)<=w:=by
 unfold rB
 split
 ·show((0:Nat):Int)<=w;exact hw
 ·have:((⟨(wB n w).toArray⟩:ByteArray).size:Int)=((wB n w).length:Nat):=by simp[ByteArray.size]
  rw[this,kR];omega
theorem Aky {l t f s:Int}:(jK l t f s).size<=9:=by
 have q1:=VA (n:=l) (w:=3) (by decide)
 have q2:=VA (n:=t) (w:=1) (by decide)
 have q3:=VA (n:=f) (w:=1) (by decide)
 have q4:=VA (n:=s) (w:=4) (by decide)
 unfold jK
 rw[ByteArray.size_append,ByteArray.size_append,ByteArray.size_append]
 omega
theorem Aj5:(xP (zM la co)).size<=300:=by
 have e:(⟨(wB la 4++wB co 4).toArray⟩:ByteArray).size=8:=by
  have:(⟨(wB la 4++wB co 4).toArray⟩:ByteArray).size=(wB la 4++wB co 4).length:=by simp[ByteArray.size]
  rw[this,List.length_append,kR,kR];rfl
 refine Nat.le_trans (Nat.le_of_eq (ByteArray.size_append ..)) (Nat.le_trans (Nat.add_le_add Aky (Nat.le_of_eq e)) (by decide))
theorem iG (hI:bO B s) (h:fY c s):fY c (iA w o s):=Il hI h Aj5
theorem VS {out:List Fm} (h:∀f∈out,lM f=true/\f.ps.length=f.pn/\f.t≠10/\f.t≠11) (hf:f.ps.length=f.pn/\f.t≠10/\f.t≠11):∀z∈wK f out,lM z=true/\z.ps.length=z.pn/\z.t≠10/\z.t≠11:=by
 unfold wK
 by_cases he:zB f out≠0
 ·rw[if_pos he];exact h
 ·rw[if_neg he]
  have hc:lM f=true:=by
   cases hq:lM f
   ·exact absurd (by unfold zB;rw[if_pos hq];decide) he
   ·rfl
  cases hy:out[tU f out]? with
  |none=>
   intro z hz
   rcases List.mem_append.1 hz with hz|hz
   ·exact h z hz
   ·rw[List.mem_singleton.1 hz]
    exact⟨hc,hf⟩
  |some y=>
   exfalso
   obtain⟨y2,h2,h3⟩:=Oh (List.getElem?_eq_some_iff.1 hy).1
   unfold qS at h3
   simp only[Bool.and_eq_true,Bool.or_eq_true,decide_eq_true_eq] at h3
   rcases h3.1.1.1 with h4|h4
   ·exact hf.2.1 h4
   ·exact hf.2.2 h4
theorem CI (h:fY c s) (hf:f.ps.length=f.pn/\f.t≠10/\f.t≠11):fY c { s with out:=wK f s.out }:= { h with fo:=VS h.fo hf }
theorem Em (hI:bO B s) (h:fY c s) (hf:f.ps.length=f.pn/\f.t≠10/\f.t≠11):fY c (mQ f s):=by
 unfold mQ
 split
 ·exact CI h hf
 ·exact iG hI h
theorem FH (hI:bO B s) (h:fY c s) (hm:bY id s.l=some m):fY c (qI m code s):=by
 obtain⟨hi,h2⟩:=aX hm
 have h1:bY m.id s.l=some m:=by rw[h2];exact hm
 have hk:=h.kp
 have he:=Mh hi
 have hr:=hI.rv
 unfold JV at hr
 have hd:=Iu (s:=s) (gone:=false) (code:=code) hI h h1
 refine { hd with kp:=?_ }
 show(fL s.rv (if bA m.x=1 then(iQ m.y:Nat) else 0)).us+zA (s.l.eraseIdx (cI m.id s.l))<=(fL s.rv (if bA m.x=1 then(iQ m.y:Nat) else 0)).got
 rw[h2]
 have hkb:kb m=if bA m.x=1 then iQ m.y else 0:=rfl
 unfold fL
 by_cases hx:bA m.x=1
 ·rw[if_pos hx] at hkb
  simp only[if_pos hx]
  split
  ·dsimp only;omega
  ·omega
 ·rw[if_neg hx] at hkb
  simp only[if_neg hx]
  split
  ·dsimp only;omega
  ·omega
theorem sE (hI:bO B s) (h:fY c s):fY c (i3 w st s):=by
 unfold i3
 split
 ·exact iG hI h
 ·cases hm:bY st s.l with
  |none=>exact Em hI h ⟨rfl,by show(4:Int)≠10;decide,by show(4:Int)≠11;decide⟩
  |some m=>exact Em (tN hI hm) (FH hI h hm) ⟨rfl,by show(4:Int)≠10;decide,by show(4:Int)≠11;decide⟩
theorem ED (hI:bO B s) (h:fY c s) (hm:bY m.id s.l=some m):fY c (kW m s):=by
 unfold kW
 split
 ·exact Iu hI h hm
 ·exact h
theorem L9 (hi:l[i]?=some m) (hid:m'.id=m.id) (hx:bA m'.x=bA m.x):(∃m∈l,m.id=j/\bA m.x=1)↔∃z∈l.set i m',z.id=j/\bA z.x=1:=by
 have e:(l.set i m').map (fun z=>(z.id,bA z.x))=l.map fun z=>(z.id,bA z.x):=by
  rw[List.map_set,hid,hx]
  exact k6 i (by rw[List.getElem?_map,hi];rfl)
 have q:∀l:List Sm,(∃m∈l,m.id=j/\bA m.x=1)↔(j,(1:Int))∈l.map fun z=>(z.id,bA z.x):=fun l=>by
  simp only[List.mem_map,Prod.mk.injEq]
 rw[q,q,e]
theorem zF (h:fY c s) (hi:s.l[i]?=some m) (hid:m'.id=m.id) (ho:m'.own=m.own) (hm:RZ c s.sh.g m') (hk:kb m'<=kb m) (hx:bA m'.x=bA m.x):fY c { s with l:=s.l.set i m' }:=
 { h with
   tn:=fun j hj=>by
    obtain⟨z,hz,hzi⟩:=h.tn j hj
    have e:=Dt (m':=m') hi hid
    have h1:j∈(s.l.set i m').map Sm.id:=by rw[e,<- hzi];exact List.mem_map_of_mem hz
    obtain⟨z',hz',e'⟩:=List.mem_map.1 h1
    exact⟨z',hz',e'⟩
   cl:=fun ho=>by
    have:=h.cl ho
    rw[this] at hi;cases hi
   mo:=fun z hz=>by
    rcases List.mem_or_eq_of_mem_set hz with hz|rfl
    ·exact h.mo z hz
    ·exact hm
   nf:=by
    have h1:=h.nf
    unfold fW at h1
    show(((s.l.set i m').filter fun m=>m.own == false).length:Int)<=s.sh.g.st
    rw[N4 hi ho];exact h1
   kp:=by
    have h1:=h.kp
    have h2:=OW (m':=m') hi
    show s.rv.us+zA (s.l.set i m')<=s.rv.got
    omega
   lk:=fun j=>(h.lk j).trans (L9 hi hid hx) }
theorem No (h:fY c s) (hk:k+s.rv.us+zA s.l<=s.rv.got) (h0:0<=k):fY c { s with rv:=fL s.rv k }:=
 { h with
   kp:=by
    show(fL s.rv k).us+zA s.l<=(fL s.rv k).got
    unfold fL
    split
    ·dsimp only;omega
    ·omega }
theorem Ahq {tt:Int} (hk:bA m.x=lO m.y) (hw:eS m tt d e=0):(kb (fV m d e):Int)<=kb m+(if tt=0 then(d.size:Int) else 0):=by
 have ht:tt=bA m.x - 1:=by
  by_cases h:tt=bA m.x - 1
  ·exact h
  ·unfold eS at hw
   rw[if_pos h] at hw;cases hw
 unfold kb fV
 by_cases hx:bA m.x=1
 ·simp only[if_pos hx]
  cases hy:m.y with
  |b y=>
   have:d.data.toList.length=d.size:=Array.length_toList
   simp only[D3,iQ,List.length_append]
   rw[if_pos (by omega)]
   omega
  |i y=>rw[hy,hx] at hk;cases hk
 ·simp only[if_neg hx]
  split <;> omega
theorem Abz (h:RZ c g m):RZ c g (fV m d e):=by
 obtain⟨h1,h2,h3,h4⟩:=h
 refine⟨?_,h2,?_,h4⟩
 ·show If g (D3 m.y d e)
  cases hy:m.y with
  |b y=>rw[hy] at h1;exact h1
  |i y=>
   rw[hy] at h1
   show(if d≠⟨#[]⟩\/e=false then({ y with op:=y.op - 1,l:=y.l++ [d],ac:=y.ac+1,en:=e }:YI) else { y with en:=true }).mr<=g.it
   split <;> exact h1
 ·show bA m.x=lO (D3 m.y d e)
  cases hy:m.y with
  |b y=>rw[hy] at h3;exact h3
  |i y=>rw[hy] at h3;exact h3
theorem Abd (hI:bO B s) (h:fY c s) (hB:B+300<=250000000) (hd:f.d.size<=256):fY c (rS f s):=by
 have hk:0<=(if f.t=0 then((f.d.size:Nat):Int) else 0)/\(if f.t=0 then((f.d.size:Nat):Int) else 0)<=300:=by split <;> omega
 have hkp:=h.kp
 unfold rS
 cases hm:bY f.st s.l with
 |none=>
  dsimp only
  generalize (if f.t=0 then((f.d.size:Nat):Int) else 0)=kk at hk ⊢
  by_cases hg:kL s.rv kk=0
  ·rw[if_neg (fun q=>q hg)]
   have e:f7 s.rv kk= { s.rv with got:=s.rv.got+kk }:=if_pos hg
   rw[e]
   exact No (s:= { s with rv:= { s.rv with got:=s.rv.got+kk } }) { h with kp:=by show s.rv.us+zA s.l<=s.rv.got+kk;omega } (by show kk+s.rv.us+zA s.l<=s.rv.got+kk;omega) hk.1
  ·rw[if_pos hg];exact iG hI h
 |some m=>
  obtain⟨hi,hmid⟩:=aX hm
  dsimp only
  by_cases hw:eS m f.t f.d f.e=0
  ·have hkc:=Ahq (h.mo m (List.mem_of_getElem? hi)).ok hw
   generalize (if f.t=0 then((f.d.size:Nat):Int) else 0)=kk at hk hkc ⊢
   generalize (if f.t=1/\(f.d≠⟨#[]⟩\/f.e=false) then(1:Int) else kk)=nn
   by_cases hg:kL s.rv kk=0
   ·rw[if_neg (fun q=>q hg),if_neg (fun q=>q hw),eO (id:=f.st) (show(fV m f.d f.e).id=f.st from hmid)]
    have e:f7 s.rv kk= { s.rv with got:=s.rv.got+kk }:=if_pos hg
    have hI2:=yO (mv:=⟨2,f.st,nn,f.d,f.e⟩) (e:=f.e) hI hm hk hB hd
    have hS:fY c { s with l:=s.l.set (cI f.st s.l) m }:=by
     rw[k6 _ hi];exact h
    refine ED hI2 ?_ (mO hm rfl)
    have hset:=OW (m':=fV m f.d f.e) hi
    have hb:fY c { s with l:=s.l.set (cI f.st s.l) (fV m f.d f.e),rv:= { s.rv with got:=s.rv.got+kk } }:= {
     cfe:=h.cfe,fo:=h.fo,hg:=h.hg,ls:=h.ls
     tn:=fun j hj=>by
      obtain⟨z,hz,hzi⟩:=h.tn j hj
      have e:=Dt (m':=fV m f.d f.e) hi rfl
      have h1:j∈(s.l.set (cI f.st s.l) (fV m f.d f.e)).map Sm.id:=by rw[e,<- hzi];exact List.mem_map_of_mem hz
      obtain⟨z',hz',e'⟩:=List.mem_map.1 h1
      exact⟨z',hz',e'⟩
     cl:=fun ho=>by
      have:=h.cl ho
      rw[this] at hi;cases hi
     mo:=fun z hz=>by
      rcases List.mem_or_eq_of_mem_set hz with hz|rfl
      ·exact h.mo z hz
      ·exact Abz (h.mo m (List.mem_of_getElem? hi))
     nf:=by
      have h1:=h.nf
      unfold fW at h1
      show(((s.l.set (cI f.st s.l) (fV m f.d f.e)).filter fun m=>m.own == false).length:Int)<=s.sh.g.st
      rw[N4 (m':=fV m f.d f.e) hi rfl];exact h1
     kp:=by
      show s.rv.us+zA (s.l.set (cI f.st s.l) (fV m f.d f.e))<=s.rv.got+kk
      omega
     lk:=fun j=>(h.lk j).trans (L9 (m':=fV m f.d f.e) hi rfl rfl) }
    rw[e]
    exact { hb with }
   ·rw[if_pos hg];exact iG hI h
  ·generalize (if f.t=0 then((f.d.size:Nat):Int) else 0)=kk at hk ⊢
   by_cases hg:kL s.rv kk=0
   ·rw[if_neg (fun q=>q hg),if_pos hw]
    refine sE (rG (Cd hI hk hB)) ?_
    have e:f7 s.rv kk= { s.rv with got:=s.rv.got+kk }:=if_pos hg
    rw[e]
    exact No (s:= { s with rv:= { s.rv with got:=s.rv.got+kk } }) { h with kp:=by show s.rv.us+zA s.l<=s.rv.got+kk;omega } (by show kk+s.rv.us+zA s.l<=s.rv.got+kk;omega) hk.1
   ·rw[if_pos hg];exact iG hI h
theorem Tz:(iC cf h id kind sg own).id=id:=by unfold iC;split <;> rfl
theorem Aim:(iC cf h id kind sg own).own=own:=by unfold iC;split <;> rfl
theorem P6 {z:Sm} (h:z∈l):z∈lB m l:=by
 unfold lB
 rw[<- List.take_append_drop (cI m.id l) l] at h
 rcases List.mem_append.1 h with h|h
 ·exact List.mem_append_left _ h
 ·exact List.mem_append_right _ (List.mem_cons_of_mem _ h)
theorem Qv:m∈lB m l:=List.mem_append_right _ (List.mem_cons_self ..)
theorem Qa:bA (iC cf h id kind sg own).x=1↔kind=1:=by
 unfold iC
 split
 ·rename_i hk;exact⟨fun _=>hk,fun _=>rfl⟩
 ·rename_i hk;exact⟨fun q=>absurd (show(2:Int)=1 from q) (by decide),fun q=>absurd q hk⟩
theorem Ajy (hI:bO B s) (h:fY c s):s.ld.l.length<=s.l.length:=by
 have hn:(s.ld.l.map gQ.id).Nodup:=by
  have:(s.ld.l.map gQ.id).Pairwise (·<·):=List.pairwise_map.2 hI.ld.2.1
  exact this.imp fun hab e=>by omega
 have h1:=List.Nodup.length_le_of_subset (l₂:=s.l.map Sm.id) hn fun j hj=>by
  obtain⟨m,hm,hid,_⟩:=(h.lk j).1 hj
  exact List.mem_map.2 ⟨m,hm,hid⟩
 rwa[List.length_map,List.length_map] at h1
theorem Wa (hI:bO B s) (h:fY c s) (hat:bY id s.l=none) (hl:s.l.length<64) (hid:1<=id/\id<=2147483647) (ho:s.dr.ov=false) (hn:own=false->(fW s false:Int)<s.sh.h.st):fY c (GZ id kind on w xx own sg s):=
 { h with
   tn:=fun j hj=>by
    rcases Aiy hI.tr hj with hj|hj
    ·exact⟨_,Qv,by rw[Tz];exact hj.symm⟩
    ·obtain⟨z,hz,hzi⟩:=h.tn j hj
     exact⟨z,P6 hz,hzi⟩
   cl:=fun hq=>by
    have hq:s.dr.ov=true:=hq
    rw[ho] at hq;cases hq
   mo:=fun z hz=>by
    rcases CH hz with rfl|hz
    ·have h1:=h.hg.1
     have h2:=hI.cf
     have h3:=h.cfe
     unfold O0 at h1
     unfold iC
     split
     ·refine⟨h1.1,?_,rfl,trivial⟩
      show((s.cf.sb.toNat:Nat):Int)<=c.sb
      rw[<- h3];omega
     ·refine⟨h1.2.2,?_,rfl,fun d hd=>by cases hd⟩
      show((s.cf.si.toNat:Nat):Int)<=c.si
      rw[<- h3];omega
    ·exact h.mo z hz
   nf:=by
    have h1:=h.nf
    have h2:=h.hg.1
    unfold O0 at h2
    show(((lB (iC s.cf s.sh.h id kind sg own) s.l).filter fun m=>m.own == false).length:Int)<=s.sh.g.st
    rw[W1,Aim]
    unfold fW at h1 hn
    split
    ·rename_i hb
     have hb:own=false:=by simpa using hb
     have:=hn hb
     omega
    ·omega
   kp:=by
    have h1:=h.kp
    have h2:kb (iC s.cf s.sh.h id kind sg own)=0:=by
     unfold iC
     split
     ·rfl
     ·rfl
    show s.rv.us+zA (lB (iC s.cf s.sh.h id kind sg own) s.l)<=s.rv.got
    rw[Aii,h2];omega
   lk:=fun j=>by
    have hno:=ML hI.sm hat
    have hnl:id ∉ s.ld.l.map gQ.id:=fun q=>by
     obtain⟨z,hz,hzi,_⟩:=(h.lk id).1 q
     exact hno z hz hzi
    have hlen:=Ajy hI h
    have hput:(∃m∈lB (iC s.cf s.sh.h id kind sg own) s.l,m.id=j/\bA m.x=1)↔(j=id/\kind=1)\/∃m∈s.l,m.id=j/\bA m.x=1:=by
     constructor
     ·rintro⟨z,hz,hzi,hzk⟩
      rcases CH hz with rfl|hz
      ·exact .inl ⟨by rw[<- hzi,Tz],Qa.1 hzk⟩
      ·exact .inr ⟨z,hz,hzi,hzk⟩
     ·rintro(⟨rfl,hk⟩|⟨z,hz,hzi,hzk⟩)
      ·exact⟨_,Qv,Tz,Qa.2 hk⟩
      ·exact⟨z,P6 hz,hzi,hzk⟩
    show j∈(if kind=1 then gG id s.pe.w s.ld else s.ld).l.map gQ.id↔∃m∈lB (iC s.cf s.sh.h id kind sg own) s.l,m.id=j/\bA m.x=1
    rw[hput,<- h.lk]
    by_cases hk:kind=1
    ·rw[if_pos hk,Aau hI.ld hid (Aga hI.pe.1) hnl (by omega)]
     simp[hk]
    ·rw[if_neg hk]
     simp[hk] }
theorem Uy (hI:bO B s) (h:fY c s) (hB:B+300<=250000000):fY c (mN f s):=by
 have hm:=hI.mono (B':=B+300) (by omega) hB
 unfold mN
 by_cases hp:nF s.sd s.la f.st=0
 ·rw[if_neg (fun q=>q hp)]
  have Ex:=Jr hm hp
  have h1:fY c { s with la:=f.st }:= { h with }
  split
  ·exact iG Ex h1
  ·split
   ·exact sE Ex h1
   ·rename_i hdt
    split
    ·exact sE Ex h1
    ·rename_i ho
     have hov:s.dr.ov=false:=by
      cases hq:s.dr.ov
      ·rfl
      ·exact absurd (by unfold E4;rw[hq];rfl) hdt
     have h2:=Wa (id:=f.st) (kind:=f.k) (on:=f.on) (w:=f.w) (xx:=f.x) (sg:=s.cf.sg) (own:=false) Ex h1 (show bY f.st s.l=none from GD hI hp) (show s.l.length<64 from(Jx hI ho).1) (rY hI.sd hp).1 hov (fun _=>by show(fW s false:Int)<s.sh.h.st;omega)
     exact { h2 with }
 ·rw[if_pos hp];exact iG hm h
theorem Abe (h:RZ c g m):RZ c g { m with x:=qD m.x n }:=by
 obtain⟨h1,h2,h3,h4⟩:=h
 refine⟨h1,?_,by show bA (qD m.x n)=lO m.y;rw[HW];exact h3,?_⟩
 ·show Adv c (qD m.x n)
  cases hx:m.x with
  |b z=>rw[hx] at h2;exact h2
  |i z=>
   rw[hx] at h2
   show((if 1<=n then { z with w:=z.w+min n (2147483647 - z.w) } else z).cap:Int)<=c.si
   split <;> exact h2
 ·show xSz (qD m.x n)
  cases hx:m.x with
  |b z=>trivial
  |i z=>
   rw[hx] at h4
   show ∀d∈(if 1<=n then { z with w:=z.w+min n (2147483647 - z.w) } else z).l,d.size<=256
   split <;> exact h4
theorem Pm (hI:bO B s) (h:fY c s) (hm:bY f.st s.l=some m):fY c (kT f m s):=by
 obtain⟨hi,hmid⟩:=aX hm
 unfold kT
 split
 ·exact sE hI h
 ·split
  ·exact sE hI h
  ·split
   ·split
    ·exact sE hI h
    ·exact { h with lk:=fun j=>by show j∈(j0 f.st f.n s.ld).l.map gQ.id↔_;rw[Rh];exact h.lk j }
   ·split
    ·exact sE hI h
    ·rw[eO (id:=f.st) (show({ m with x:=qD m.x f.n }:Sm).id=f.st from hmid)]
     refine zF (s:= { s with sl:=f5 s.sl s.now }) { h with } hi rfl rfl (Abe (h.mo m (List.mem_of_getElem? hi))) ?_ ?_
     ·unfold kb
      show(if bA (qD m.x f.n)=1 then iQ m.y else 0)<=_
      rw[HW];exact Nat.le_refl _
     ·exact HW
theorem Zg (hI:bO B s) (h:fY c s):fY c (qQ f s):=by
 unfold qQ
 split
 ·exact iG hI h
 ·split
  ·exact iG hI h
  ·exact { h with lk:=fun j=>by show j∈(j0 0 f.n s.ld).l.map gQ.id↔_;rw[Rh];exact h.lk j }
theorem Acf (hI:bO B s) (h:fY c s):fY c (vV f s):=by
 unfold vV
 cases hp:WG s.pe f.ps with
 |none=>exact iG hI h
 |some t=>
  dsimp only
  split
  ·exact iG hI h
  ·exact Em (Ob hI (OF hI.pe hp) (NA hI.ld)) { h with lk:=fun j=>by show j∈(mA s.pe.w t.w s.ld).l.map gQ.id↔_;rw[Ajl];exact h.lk j } ⟨rfl,by show(6:Int)≠10;decide,by show(6:Int)≠11;decide⟩
theorem Aih {q:dZ} (hq:O0 q g) (h:RZ c g m):RZ c g { m with y:=Fv m.y q }:=by
 obtain⟨h1,h2,h3,h4⟩:=h
 unfold O0 at hq
 refine⟨?_,h2,by show bA m.x=lO (Fv m.y q);rw[Ag7];exact h3,h4⟩
 show If g (Fv m.y q)
 cases hy:m.y with
 |b z=>rw[hy] at h1;show max z.most q.w<=g.w;have:z.most<=g.w:=h1;omega
 |i z=>rw[hy] at h1;show max z.mr q.it<=g.it;have:z.mr<=g.it:=h1;omega
theorem Lh (h1:∀m,(q m).id=m.id) (h2:∀m,bA (q m).x=bA m.x):(∃m∈l,m.id=j/\bA m.x=1)↔∃z∈l.map q,z.id=j/\bA z.x=1:=by
 constructor
 ·rintro⟨z,hz,hzi,hzk⟩
  exact⟨q z,List.mem_map_of_mem hz,by rw[h1];exact hzi,by rw[h2];exact hzk⟩
 ·rintro⟨z,hz,hzi,hzk⟩
  obtain⟨y,hy,rfl⟩:=List.mem_map.1 hz
  exact⟨y,hy,by rw[<- h1];exact hzi,by rw[<- h2];exact hzk⟩
theorem Y3 (hI:bO B s) (h:fY c s):fY c (qM s):=by
 unfold qM
 split
 ·exact iG hI h
 ·rename_i hE
  obtain⟨hg1,hg2⟩:=h.hg
  have hg:O0 (dG s.sh).h (dG s.sh).g/\∀t∈(dG s.sh).l,O0 t (dG s.sh).g:=by
   unfold dG
   cases hl:s.sh.l with
   |nil=>exact⟨hg1,hg2⟩
   |cons q r=>
    rw[hl] at hg2
    exact⟨hg2 q (List.mem_cons_self ..),fun z hz=>hg2 z (List.mem_cons_of_mem _ hz)⟩
  have e:(dG s.sh).g=s.sh.g:=by
   unfold dG
   cases s.sh.l <;> rfl
  have hkb:∀m:Sm,kb ({ m with y:=Fv m.y (dG s.sh).h }:Sm)=kb m:=fun m=>by
   unfold kb
   cases hy:m.y <;> rfl
  exact { h with
   tn:=fun j hj=>by
    obtain⟨z,hz,hzi⟩:=h.tn j hj
    exact⟨_,List.mem_map_of_mem hz,hzi⟩
   cl:=fun ho=>by
    show s.l.map _= []
    rw[h.cl ho];rfl
   mo:=fun z hz=>by
    obtain⟨m,hm,rfl⟩:=List.mem_map.1 hz
    show RZ c (dG s.sh).g _
    have h1:=h.mo m hm
    rw[<- e] at h1
    exact Aih hg.1 h1
   hg:=hg
   nf:=by
    have h1:=h.nf
    unfold fW at h1
    show(((s.l.map fun m=>({ m with y:=Fv m.y (dG s.sh).h }:Sm)).filter fun m=>m.own == false).length:Int)<=(dG s.sh).g.st
    rw[oZ,List.map_map,e]
    rw[oZ] at h1
    exact h1
   kp:=by
    have h1:=h.kp
    show s.rv.us+zA (s.l.map fun m=>({ m with y:=Fv m.y (dG s.sh).h }:Sm))<=s.rv.got
    rw[Vo hkb];exact h1
   lk:=fun j=>(h.lk j).trans (Lh (q:=fun m=> { m with y:=Fv m.y (dG s.sh).h }) (fun _=>rfl) fun _=>rfl) }
theorem Ia:∀ {l acc:List Sm} {s:Cn},s.l=acc++l->bO B s->fY c s->fY c (mS (l.map Sm.id) s)
 | [],acc,s,he,_,h=>h
 |m::l,acc,s,he,hI,h=>by
  have hlt:=S8 (by rw[<- he];exact hI.sm)
  have hm:bY m.id s.l=some m:=by rw[he];exact Ir hlt
  rw[List.map_cons,L8 hm]
  split
  ·refine Ia (l:=l) (acc:=acc) ?_ (tN hI hm) (FH hI h hm)
   show s.l.eraseIdx (cI m.id s.l)=acc++l
   rw[he];exact GG hlt
  ·exact Ia (l:=l) (acc:=acc++ [m]) (by rw[he];simp) hI h
theorem Ab5 {d:Dr} (h:d.ov=true):(mC d la co).ov=true:=by
 unfold mC
 split
 ·exact h
 ·split
  ·rfl
  ·exact h
theorem Agz (hI:bO B s) (h:fY c s):fY c (vP f s):=by
 unfold vP
 split
 ·exact Il (q:=s.last) hI h h.ls
 ·rename_i hov
  have ho:s.dr.ov=false:=by
   cases hq:s.dr.ov
   ·rfl
   ·exact absurd (Ab5 hq) hov
  refine Ia (acc:= []) rfl (Gg hI) ?_
  exact { h with cl:=fun hq=>absurd hq hov }
theorem VG (hI:bO B s) (h:fY c s):fY c { s with tr:=lC id on w xx s.tr }:= { h with tn:=fun j hj=>h.tn j (Aiv hI.tr hj) }
theorem Z2 (hI:bO B s) (h:fY c s):fY c (jU f s):=by
 unfold jU
 split
 ·exact iG hI h
 ·cases hm:bY f.st s.l with
  |none=>exact h
  |some m=>
   dsimp only
   split
   ·exact VG hI h
   ·split
    ·exact FH hI h hm
    ·exact Pm hI h hm
theorem SR (hI:bO B s) (h:fY c s) (hB:B+300<=250000000) (hr:bR f):fY c (bD f s):=by
 have hh:=iL hI
 have hk:fY c { s with bt:=bQ s.bt s.now }:= { h with }
 have hm:=hh.mono (B':=B+300) (by omega) hB
 unfold bD fG
 split
 ·exact Acf hm hk
 ·split
  ·exact Y3 hm hk
  ·split
   ·exact Em hm hk ⟨rfl,by show(8:Int)≠10;decide,by show(8:Int)≠11;decide⟩
   ·split
    ·exact { hk with }
    ·split
     ·exact Agz hm hk
     ·split
      ·exact Uy hh hk hB
      ·split
       ·exact Zg hm hk
       ·split
        ·exact iG hm hk
        ·split
         ·rename_i ht
          exact Abd hh hk hB (hr.2.2.2.2.2.2.2.2.2.2.2.2.1 (by omega))
         ·exact Z2 hm hk
theorem GT:∀ {fs:List Fm} {s:Cn} {B:Int},bO B s->fY c s->(∀f∈fs,bR f)->B+300 * fs.length<=250000000->fY c (cA fs s)
 | [],s,B,_,h,_,hB=>h
 |f::r,s,B,hI,h,hr,hB=>by
  have e:(f::r).length=r.length+1:=rfl
  rw[e] at hB
  have h1:=Aa hI (by omega) (hr f (List.mem_cons_self ..))
  have h2:=SR hI h (by omega) (hr f (List.mem_cons_self ..))
  unfold cA
  split
  ·exact h2
  ·exact GT h1 h2 (fun z hz=>hr z (List.mem_cons_of_mem _ hz)) (by omega)
theorem Af2 {bs:List UInt8} (h:(pF bs).2.2=0):(pF bs).2.1.length<=265:=by
 have h1:=(Xe bs.length bs (Nat.le_refl _)).1
 rw[h] at h1
 rw[<- i8]
 unfold uV at h1
 split at h1
 ·omega
 ·split at h1
  ·split at h1
   ·rename_i hf
    have:=(I1 hf).2
    split at h1
    ·omega
    ·split at h1
     ·cases h1
     ·rename_i hg;exact absurd (Option.some.inj h1) hg
   ·rename_i hf;exact absurd (Option.some.inj h1) hf
  ·cases h1
def nN (s:Cn):Int×List UInt8:=(s.ine,s.inb)
theorem RH:∀ {l:List Int} {s:Cn},nN (qK code l s)=nN s
 | [],_=>rfl
 |a::l,s=>RH (l:=l) (s:=lI a code false s)
theorem Qj:nN (uS s)=nN s:=RH (code:=s.dr.co) (l:=s.l.map Sm.id) (s:=s)
theorem kD:nN (iA w o s)=nN s:=Qj
theorem MV:nN (mQ f s)=nN s:=by
 unfold mQ
 split
 ·rfl
 ·exact kD
theorem vQ:nN (i3 w st s)=nN s:=by
 unfold i3
 split
 ·exact kD
 ·rw[MV]
  split
  ·rfl
  ·rfl
theorem CF:nN (kW m s)=nN s:=by unfold kW;split <;> rfl
theorem Ak8:nN (rS f s)=nN s:=by
 unfold rS
 generalize (if f.t=0 then((f.d.size:Nat):Int) else 0)=kk
 generalize (if f.t=1/\(f.d≠⟨#[]⟩\/f.e=false) then(1:Int) else kk)=nn
 split
 ·exact kD
 ·split
  ·rfl
  ·split
   ·exact vQ
   ·exact CF
theorem XN:nN (mN f s)=nN s:=by
 unfold mN
 split
 ·exact kD
 ·split
  ·exact kD
  ·split
   ·exact vQ
   ·split
    ·exact vQ
    ·rfl
theorem Tv:nN (kT f m s)=nN s:=by
 unfold kT
 split
 ·exact vQ
 ·split
  ·exact vQ
  ·split
   ·split
    ·exact vQ
    ·rfl
   ·split
    ·exact vQ
    ·rfl
theorem Aeh:nN (qQ f s)=nN s:=by
 unfold qQ
 split
 ·exact kD
 ·split
  ·exact kD
  ·rfl
theorem Ak4:nN (vV f s)=nN s:=by
 unfold vV
 split
 ·exact kD
 ·split
  ·exact kD
  ·exact MV
theorem Afy:nN (qM s)=nN s:=by
 unfold qM
 split
 ·exact kD
 ·rfl
theorem WV:∀ {l:List Int} {s:Cn},nN (mS l s)=nN s
 | [],_=>rfl
 |a::l,s=>by
  unfold mS
  rw[WV (l:=l)]
  split
  ·split
   ·rfl
   ·rfl
  ·rfl
theorem Aje:nN (vP f s)=nN s:=by
 unfold vP
 split
 ·exact Qj
 ·exact WV
theorem Afd:nN (jU f s)=nN s:=by
 unfold jU
 split
 ·exact kD
 ·split
  ·rfl
  ·split
   ·rfl
   ·split
    ·rfl
    ·exact Tv
theorem LB:nN (bD f s)=nN s:=by
 unfold bD fG
 split
 ·exact Ak4
 ·split
  ·exact Afy
  ·split
   ·exact MV
   ·split
    ·rfl
    ·split
     ·exact Aje
     ·split
      ·exact XN
      ·split
       ·exact Aeh
       ·split
        ·exact kD
        ·split
         ·exact Ak8
         ·exact Afd
theorem zH:∀ {l:List Fm} {s:Cn},nN (cA l s)=nN s
 | [],_=>rfl
 |f::l,s=>by
  unfold cA
  split
  ·exact LB
  ·rw[zH (l:=l)];exact LB
theorem QR:∀ {l:List Int} {s:Cn},(qK code l s).dr=s.dr
 | [],_=>rfl
 |a::l,s=>QR (l:=l) (s:=lI a code false s)
theorem EQ (hw:0<=w/\w<=20):(iA w o s).dr.ov=true:=by
 have h1:=Mp (o:=o) hw
 have e:(iA w o s).dr=wJ s.dr (iY w o):=QR
 rw[e]
 unfold wJ Eo
 cases ho:s.dr.ov
 ·have:pH (iY w o) 1=true:=by unfold pH;simp only[Bool.and_eq_true,decide_eq_true_eq];omega
  rw[this];rfl
 ·simp[ho]
def C5 (s:Cn):Prop:=(s.dr.ov=true\/s.ine=0)/\s.inb.length<=300
theorem Ox {s':Cn} (h:C5 s) (he:nN s'=nN s) (ho:s.dr.ov=true->s'.dr.ov=true):C5 s':=by
 have e1:s'.ine=s.ine:=congrArg Prod.fst he
 have e2:s'.inb=s.inb:=congrArg Prod.snd he
 unfold C5
 rw[e1,e2]
 exact⟨h.1.elim (fun q=>.inl (ho q)) .inr,h.2⟩
theorem Agp (h:C5 s):C5 (fS u s):=by
 unfold fS
 split
 ·rename_i ho
  exact⟨.inl ho,h.2⟩
 ·have h1:nN (cA (eC u (aD s)).1 (eC u (aD s)).2)=((pF (s.inb++u)).2.2,if(pF (s.inb++u)).2.2=0 then(pF (s.inb++u)).2.1 else []):=zH
  have h2:(if(pF (s.inb++u)).2.2=0 then(pF (s.inb++u)).2.1 else []).length<=300:=by
   split
   ·rename_i h0;have:=Af2 h0;omega
   ·simp
  split
  ·rename_i hq
   have e1:=congrArg Prod.fst h1
   have e2:=congrArg Prod.snd h1
   refine⟨hq.elim .inl fun q=>.inr ?_,?_⟩
   ·rw[<- q];exact e1
   ·show(nN (cA (eC u (aD s)).1 (eC u (aD s)).2)).2.length<=300
    rw[e2];exact h2
  ·refine⟨.inl (EQ (by decide)),?_⟩
   show(nN (iA 0 _ _)).2.length<=300
   rw[kD,h1];exact h2
theorem Ahc (hI:bO B s) (h:fY c s) (hB:B+u.length+300 * (pF (s.inb++u)).1.length<=250000000):fY c (fS u s):=by
 unfold fS
 split
 ·exact { h with }
 ·have h1:=EF (u:=u) hI (by omega)
  have hl:((pF (s.inb++u)).1.map G8).length=(pF (s.inb++u)).1.length:=List.length_map ..
  have hB2:B+u.length+300 * ((((pF (s.inb++u)).1.map G8).length:Nat):Int)<=250000000:=by rw[hl];exact hB
  have h2:=BD (fs:=(eC u (aD s)).1) h1 Dv hB2
  have h3:=GT (c:=c) (fs:=(eC u (aD s)).1) h1 { h with } Dv hB2
  split
  ·exact h3
  ·exact iG h2 h3
theorem cQ (h:fY c s):fY c (aD s):= { h with }
theorem Ali (h:RZ c g m):RZ c g (Bz m d):=by
 obtain⟨h1,h2,h3,h4⟩:=h
 unfold Bz
 split
 ·refine⟨h1,?_,?_,?_⟩
  ·show Adv c (BI m.x d)
   cases hx:m.x with
   |b z=>rw[hx] at h2;exact h2
   |i z=>
    rw[hx] at h2
    show((if z.en=true\/256<d.size then z else if z.l.length<z.cap then { z with l:=z.l++ [d],ac:=z.ac+1 } else if z.st=0 then z else if z.st=1\/z.cap=0 then { z with ac:=z.ac+1,dr:=z.dr+1 } else { z with l:=z.l.tail++ [d],ac:=z.ac+1,dr:=z.dr+1 }).cap:Int)<=c.si
    repeat' split
    all_goals exact h2
  ·show bA (BI m.x d)=lO m.y
   rw[<- h3]
   cases hx:m.x <;> rfl
  ·show xSz (BI m.x d)
   cases hx:m.x with
   |b z=>trivial
   |i z=>
    rw[hx] at h4
    show ∀y∈(if z.en=true\/256<d.size then z else if z.l.length<z.cap then { z with l:=z.l++ [d],ac:=z.ac+1 } else if z.st=0 then z else if z.st=1\/z.cap=0 then { z with ac:=z.ac+1,dr:=z.dr+1 } else { z with l:=z.l.tail++ [d],ac:=z.ac+1,dr:=z.dr+1 }).l,y.size<=256
    split
    ·exact h4
    ·rename_i hd
     have hd:d.size<=256:=by omega
     have ap:∀ {l:List ByteArray},(∀y∈l,y.size<=256)->∀y∈l++ [d],y.size<=256:=fun hl y hy=>by
      rcases List.mem_append.1 hy with hy|hy
      ·exact hl y hy
      ·rw[List.mem_singleton.1 hy];exact hd
     repeat' split
     ·exact ap h4
     ·exact h4
     ·exact h4
     ·exact ap fun y hy=>h4 y (List.mem_of_mem_tail hy)
 ·exact⟨h1,h2,h3,h4⟩
theorem Ah2 (h:RZ c g m):RZ c g (Bm m):=by
 obtain⟨h1,h2,h3,h4⟩:=h
 unfold Bm
 split
 ·refine⟨h1,?_,?_,?_⟩
  ·show Adv c (KV m.x)
   cases hx:m.x with
   |b z=>rw[hx] at h2;exact h2
   |i z=>rw[hx] at h2;exact h2
  ·show bA (KV m.x)=lO m.y
   rw[<- h3]
   cases hx:m.x <;> rfl
  ·show xSz (KV m.x)
   cases hx:m.x with
   |b z=>trivial
   |i z=>rw[hx] at h4;exact h4
 ·exact⟨h1,h2,h3,h4⟩
theorem V7 {y:Ys} (h:RZ c g m) (h1:If g y) (h2:lO y=lO m.y):RZ c g { m with y:=y }:=⟨h1,h.x,h.ok.trans h2.symm,h.sz⟩
theorem Zc:bA (Bz m d).x=bA m.x:=by
 unfold Bz
 split
 ·show bA (BI m.x d)=_
  cases m.x <;> rfl
 ·rfl
theorem Yg:bA (Bm m).x=bA m.x:=by
 unfold Bm
 split
 ·show bA (KV m.x)=_
  cases m.x <;> rfl
 ·rfl
theorem Ant:kb (Bz m d)=kb m:=by
 unfold Bz kb
 split
 ·show(if bA (BI m.x d)=1 then iQ m.y else 0)=_
  cases hx:m.x <;> rfl
 ·rfl
theorem An0:kb (Bm m)=kb m:=by
 unfold Bm kb
 split
 ·show(if bA (KV m.x)=1 then iQ m.y else 0)=_
  cases hx:m.x <;> rfl
 ·rfl
theorem Aig {y:Ys} (h:If g y):If g (FL y n):=by cases y <;> exact h
theorem Alf {y:Ys} (h:If g y):If g (Ga y):=by
 cases y with
 |b y=>exact h
 |i y=>unfold Ga;dsimp only;split <;> exact h
theorem Ab2 {y:Ys} (h:If g y):If g (Hy y n):=by
 cases y with
 |b y=>exact h
 |i y=>unfold Hy;dsimp only;split <;> exact h
theorem YR (h:fY c s):fY c (oW id d s):=by
 unfold oW
 split
 ·exact cQ h
 ·split
  ·rename_i m hm
   obtain⟨hi,hmid⟩:=aX hm
   rw[eO (id:=id) (Cu.trans hmid)]
   exact zF (s:=aD s) (cQ h) hi Cu QV (Ali (h.mo m (List.mem_of_getElem? hi))) (by rw[Ant];exact Nat.le_refl _) Zc
  ·exact h
theorem Aji (h:fY c s):fY c (Ax id s):=by
 unfold Ax
 split
 ·exact cQ h
 ·split
  ·rename_i m hm
   obtain⟨hi,hmid⟩:=aX hm
   rw[eO (id:=id) (CJ.trans hmid)]
   exact zF (s:=aD s) (cQ h) hi CJ Qs (Ah2 (h.mo m (List.mem_of_getElem? hi))) (by rw[An0];exact Nat.le_refl _) Yg
  ·exact h
theorem Apu (hk:bA m.x=lO m.y) (hE:P8 m.y=0):kb ({ m with y:=FL m.y n }:Sm)+(CX m.y n).size=kb m:=by
 unfold kb
 cases hy:m.y with
 |b z=>
  rw[hy] at hk
  have hk:bA m.x=1:=hk
  have e:(CX (.b z) n).size=min (MH z n) z.bs.length:=by
   show((z.bs.take (MH z n)).toArray).size=_
   simp
  simp only[if_pos hk,FL,iQ,List.length_drop]
  rw[e];omega
 |i z=>rw[hy] at hE;cases hE
theorem Ae6 (hI:bO B s) (h:fY c s):fY c (tV id n s):=by
 unfold tV
 split
 ·exact cQ h
 ·split
  ·rename_i m hm
   obtain⟨hi,hmid⟩:=aX hm
   split
   ·exact cQ h
   ·rename_i hE
    have hE:P8 m.y=0:=by simpa using hE
    have hmo:=h.mo m (List.mem_of_getElem? hi)
    rw[eO (id:=id) (show({ m with y:=FL m.y n }:Sm).id=id from hmid)]
    have hI2:bO B { ({ aD s with rv:=fL s.rv ((CX m.y n).size:Nat) }:Cn) with l:=s.l.set (cI id s.l) { m with y:=FL m.y n } }:=l7 (s:= { aD s with rv:=fL s.rv ((CX m.y n).size:Nat) }) (rG (bI hI)) hi rfl rfl (SU (hI.st m (List.mem_of_getElem? hi)))
    have hkb:=Apu (n:=n) hmo.ok hE
    have hset:=OW (m':= { m with y:=FL m.y n }) hi
    have hkp:=h.kp
    have h1:fY c { aD s with l:=s.l.set (cI id s.l) { m with y:=FL m.y n } }:=zF (s:=aD s) (cQ h) hi rfl rfl (V7 hmo (Aig hmo.y) Amc) (by omega) rfl
    have h2:=No (s:= { aD s with l:=s.l.set (cI id s.l) { m with y:=FL m.y n } }) (k:=((CX m.y n).size:Nat)) h1 (by show _+s.rv.us+zA (s.l.set (cI id s.l) { m with y:=FL m.y n })<=s.rv.got;omega) (by omega)
    exact ED hI2 { h2 with } (mO (m':= { m with y:=FL m.y n }) hm rfl)
  ·exact h
theorem Agw (hI:bO B s) (h:fY c s):fY c (tZ id s):=by
 unfold tZ
 split
 ·exact cQ h
 ·split
  ·rename_i m hm
   obtain⟨hi,hmid⟩:=aX hm
   split
   ·exact cQ h
   ·have hmo:=h.mo m (List.mem_of_getElem? hi)
    rw[eO (id:=id) (show({ m with y:=Ga m.y }:Sm).id=id from hmid)]
    have hI2:bO B { aD s with l:=s.l.set (cI id s.l) { m with y:=Ga m.y } }:=l7 (s:=aD s) (bI hI) hi rfl rfl (UW (hI.st m (List.mem_of_getElem? hi)))
    refine ED hI2 (zF (s:=aD s) (cQ h) hi rfl rfl (V7 hmo (Alf hmo.y) Al3) ?_ rfl) (mO (m':= { m with y:=Ga m.y }) hm rfl)
    unfold kb
    have hok:=hmo.ok
    cases hy:m.y with
    |b z=>exact Nat.le_refl _
    |i z=>
     rw[hy] at hok
     have hok:bA m.x=2:=hok
     simp[hok]
  ·exact h
theorem Ajg (h:fY c s):fY c (Ar id n s):=by
 unfold Ar
 split
 ·exact cQ h
 ·split
  ·rename_i m hm
   obtain⟨hi,hmid⟩:=aX hm
   have hmo:=h.mo m (List.mem_of_getElem? hi)
   rw[eO (id:=id) (show({ m with y:=Hy m.y n }:Sm).id=id from hmid)]
   refine zF (s:=aD s) (cQ h) hi rfl rfl (V7 hmo (Ab2 hmo.y) Acn) ?_ rfl
   unfold kb
   have hok:=hmo.ok
   cases hy:m.y with
   |b z=>exact Nat.le_refl _
   |i z=>
    rw[hy] at hok
    have hok:bA m.x=2:=hok
    simp[hok]
  ·exact h
theorem Aco (hI:bO B s) (h:fY c s):fY c (sI id on w xx s):=by
 unfold sI
 split
 ·exact cQ h
 ·exact VG (s:= { aD s with out:=wK (mP id on w xx) s.out }) (sX (bI hI)) (CI (cQ h) ⟨rfl,(by show(3:Int)≠10;decide),(by show(3:Int)≠11;decide)⟩)
theorem Xk (hI:bO B s) (h:fY c s):fY c (nC id n s):=by
 unfold nC
 split
 ·exact cQ h
 ·split
  ·rename_i m hm
   exact FH (s:= { aD s with out:=wK (fK id n) s.out }) (sX (bI hI)) (CI (cQ h) ⟨rfl,(by show(4:Int)≠10;decide),(by show(4:Int)≠11;decide)⟩) hm
  ·exact h
theorem FY {z:Dr}:(AQ z la).ov=z.ov:=by unfold AQ;split <;> rfl
theorem Anp (h:fY c s):fY c (EK s):=by
 unfold EK
 split
 ·exact cQ h
 ·exact { CI (f:=zM s.la 0) (cQ h) ⟨rfl,(by show(9:Int)≠10;decide),(by show(9:Int)≠11;decide)⟩ with
   cl:=fun ho=>h.cl (by rw[<- ho];exact FY.symm) }
theorem Aba (h:fY c s):fY c (wO t s):=by
 unfold wO
 split
 ·exact cQ h
 ·obtain⟨h1,h2⟩:=h.hg
  unfold O0 at h1
  have hnf:=h.nf
  have e:(eB s.sh t).h=s.sh.h:=by unfold eB;split <;> rfl
  have eg:s.sh.g.w<=(eB s.sh t).g.w/\s.sh.g.st<=(eB s.sh t).g.st/\s.sh.g.it<=(eB s.sh t).g.it:=by
   unfold eB
   split
   ·simp only[MZ];omega
   ·omega
  exact { CI (f:=vK (Ds (mK s.sh) t)) (cQ h) ⟨rfl,(by show(5:Int)≠10;decide),(by show(5:Int)≠11;decide)⟩ with
   mo:=fun m hm=>by
    obtain⟨q1,q2,q3,q4⟩:=h.mo m hm
    refine⟨?_,q2,q3,q4⟩
    show If (eB s.sh t).g m.y
    cases hy:m.y with
    |b y=>rw[hy] at q1;have:y.most<=s.sh.g.w:=q1;show y.most<=_;omega
    |i y=>rw[hy] at q1;have:y.mr<=s.sh.g.it:=q1;show y.mr<=_;omega
   hg:=by
    refine⟨?_,fun z hz=>?_⟩
    ·show O0 (eB s.sh t).h (eB s.sh t).g
     rw[e];unfold O0;omega
    ·show O0 z (eB s.sh t).g
     have hz:z∈(eB s.sh t).l:=hz
     by_cases hq:g8 s.sh t=0
     ·have el:(eB s.sh t).l=s.sh.l++ [t]:=by unfold eB;rw[if_pos hq]
      have eg2:(eB s.sh t).g=MZ s.sh.g t:=by unfold eB;rw[if_pos hq]
      rw[el] at hz
      rcases List.mem_append.1 hz with hz|hz
      ·have:=h2 z hz
       unfold O0 at this ⊢;omega
      ·rw[List.mem_singleton.1 hz,eg2]
       unfold O0;simp only[MZ];omega
     ·have el:eB s.sh t=s.sh:=by unfold eB;rw[if_neg hq]
      rw[el] at hz ⊢;exact h2 z hz
   nf:=by
    show(fW s false:Int)<=(eB s.sh t).g.st
    omega }
theorem Ahd (h:fY c s):fY c (pI s):= { h with }
theorem Aaz (hI:bO B s) (h:fY c s):fY c (mM kind sg on w xx s):=by
 unfold mM
 split
 ·exact cQ h
 ·rename_i hE
  have hE:mE kind sg on w xx s=0:=by simpa using hE
  obtain⟨e1,e2,e3,e4,e5,e6,e7,e8,e9⟩:=Ea hE
  have h1:=CI (f:=lK s.nx kind on w xx) (cQ h) ⟨rfl,(by show(2:Int)≠10;decide),(by show(2:Int)≠11;decide)⟩
  exact Wa (s:= { aD s with nx:=s.nx+2,out:=wK (lK s.nx kind on w xx) s.out }) (IS (sX (f:=lK s.nx kind on w xx) (bI hI)) e5) { h1 with } (GN hI e5) (show s.l.length<64 from NR hI (by omega)) ⟨by have:=hI.nx;omega,e5⟩ e1 (fun q=>by cases q)
theorem Wu:(kW m s).dr=s.dr:=by unfold kW;split <;> rfl
theorem XO (h:C5 s):C5 (oW id d s):=by
 unfold oW
 split
 ·exact h
 ·split <;> exact h
theorem Ah7 (h:C5 s):C5 (Ax id s):=by
 unfold Ax
 split
 ·exact h
 ·split <;> exact h
theorem Agm (h:C5 s):C5 (tV id n s):=by
 unfold tV
 split
 ·exact h
 ·split
  ·split
   ·exact h
   ·exact Ox (s:=s) h CF fun ho=>by rw[Wu];exact ho
  ·exact h
theorem Ae2 (h:C5 s):C5 (tZ id s):=by
 unfold tZ
 split
 ·exact h
 ·split
  ·split
   ·exact h
   ·exact Ox (s:=s) h CF fun ho=>by rw[Wu];exact ho
  ·exact h
theorem Aja (h:C5 s):C5 (Ar id n s):=by
 unfold Ar
 split
 ·exact h
 ·split <;> exact h
theorem Acg (h:C5 s):C5 (sI id on w xx s):=by unfold sI;split <;> exact h
theorem Zz (h:C5 s):C5 (nC id n s):=by
 unfold nC
 split
 ·exact h
 ·split <;> exact h
theorem Amw (h:C5 s):C5 (EK s):=by
 unfold EK
 split
 ·exact h
 ·exact Ox (s:=s) h rfl fun ho=>by show(AQ s.dr s.la).ov=true;rw[FY];exact ho
theorem Abj (h:C5 s):C5 (wO t s):=by unfold wO;split <;> exact h
theorem Aat (h:C5 s):C5 (pI s):=h
theorem Agg (h:C5 s):C5 (mM kind sg on w xx s):=by unfold mM;split <;> exact h
end Go.Proofs.YtepnmcipkangkaaGreat
