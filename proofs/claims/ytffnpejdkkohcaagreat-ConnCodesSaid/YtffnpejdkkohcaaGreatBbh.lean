/- A part of the proof: lemmas; each with the conditions that it states. -/
import Derived.Test.YtffnpejdkkohcaaGreatBbg
set_option linter.unusedVariables false
set_option linter.unusedSimpArgs false
set_option maxRecDepth 100000
set_option maxHeartbeats 40000000
namespace Go.Proofs.YtffnpejdkkohcaaGreat
open Go Go.Proofs Go.Sl
attribute [local irreducible] aM eY cU bQ aL aW aA dS dT aZ dR pt ro fN star sep bH
attribute [local irreducible] mp FV
variable {s:Cn} {B id n k code w o st j on b la co kind sg:Int} {gone own xx e:Bool} {m m':Sm} {l:List Sm} {i:Nat} {c cf:Cf} {f:Fm} {g t h:dI} {z:Ld} {q:Sm->Sm} {u:List UInt8} {d:ByteArray}
theorem Agc {z:eS} (h:Mt z) (hj:eX (yO id z) j):eX z j/\j≠id:=by
 unfold yO at hj
 split at hj
 ·rename_i hid
  have hw:=h.w id hid
  obtain⟨h1,h2,h3,h4,h5,h6⟩:=RQ (on:=(dD id z).on) (xw:=(dD id z).w) (all:=p7 z (cC id z.1)) hw (fun k hk=>(kZ h.nd hk).1) (Bp h.nd) (fun k hk=>⟨(h.w k (kZ h.nd hk).1).1,Mw h.w (fun k hk=>(kZ h.nd hk).1) k hk⟩) h.kok h.nd h.w
  have hd:=C3 (id:=id) (j:=j) h5
  unfold eX dZ at hj
  rw[hd] at hj
  by_cases he:j=id
  ·rw[if_pos he] at hj;cases hj
  ·rw[if_neg he] at hj
   exact⟨(h1 j).1 hj,he⟩
 ·rename_i hid
  refine⟨hj,fun e=>hid ?_⟩
  rw[e] at hj;exact hj
theorem Dm {z:eS} (hok:Qe z.1 z.2) (hnd:Nh z) {x:Bool} (hj:eX (qB id on w x z) j):j=id\/eX z j:=by
 unfold qB at hj
 rw[dU] at hj
 rcases hj with hj|hj
 ·exact .inl hj
 ·split at hj
  ·exact .inr (((DX (id:=id) (fun k hk=>(kZ hnd hk).1) hok hnd).1 j).1 hj)
  ·exact .inr hj
theorem Ty {z:eS} (h:Mt z):sI id z (z.1.length+1) 0=false:=by
 unfold sI
 rw[if_neg]
 intro hq
 have:=h.ky 0 hq
 omega
theorem Aex {z:eS} (h:Mt z) {x:Bool} (hj:eX (k8 id on w x z) j):eX z j:=by
 unfold k8 at hj
 split at hj
 ·exact hj
 ·rename_i hE
  have hid:eX z id:=by
   cases hq:dZ id z.1
   ·exact absurd (by unfold qA;rw[if_pos hq];decide) hE
   ·exact hq
  have fin:∀ {y:Int},y=id\/eX z y->eX z y:=fun hy=>hy.elim (fun e=>by rw[e];exact hid) fun q=>q
  split at hj
  ·rw[Ty h,if_neg Bool.false_ne_true] at hj
   exact fin (Dm h.kok h.nd hj)
  ·rename_i hkn
   split at hj
   ·rename_i hab
    have hon:eX z on:=by
     by_cases h0:on=0
     ·subst h0;rw[Ty h] at hab;cases hab
     ·cases hq:dZ on z.1
      ·exact absurd (by unfold Ai;rw[hq];simp[h0]) hkn
      ·exact hq
    rcases Dm (HI h.kok) (G3 h.nd) hj with hj|hj
    ·exact fin (.inl hj)
    ·unfold iX at hj
     rw[dU] at hj
     rcases hj with hj|hj
     ·rw[hj];exact hon
     ·exact hj
   ·exact fin (Dm h.kok h.nd hj)
theorem Ac9 {z:eS} (h:Mt z) {x:Bool} (hj:eX (nB id on w x 64 z) j):j=id\/eX z j:=by
 unfold nB at hj
 split at hj
 ·exact .inr hj
 ·split at hj
  ·exact Dm h.kok h.nd hj
  ·exact Dm h.kok h.nd hj
theorem JL {z:eS} (h:Mt z):∀ {n:Nat} {lv:List Int},(∀y∈lv,eX z y)->∀y∈yN z n lv,eX z y
 |0,_,_,_,hy=>by cases hy
 |n+1,lv,hl,y,hy=>by
  unfold yN at hy
  split at hy
  ·cases hy
  ·rcases List.mem_append.1 hy with hy|hy
   ·exact hl y hy
   ·refine JL h (n:=n) (lv:=Jv z lv) (fun q hq=>?_) y hy
    unfold Jv at hq
    exact(Aj h.nd q (Au.1 hq)).1
theorem EO (hs:Ga l) (hm:m∈l):bX m.id l=some m:=by
 cases hq:bX m.id l with
 |none=>exact absurd rfl (Mf hs hq m hm)
 |some z=>
  obtain⟨h1,h2⟩:=aX hq
  obtain⟨j,hj⟩:=List.getElem?_of_mem hm
  have hp:=hs.2
  obtain⟨a1,a2⟩:=List.getElem?_eq_some_iff.1 h1
  obtain⟨b1,b2⟩:=List.getElem?_eq_some_iff.1 hj
  rcases Nat.lt_trichotomy (cB m.id l) j with hlt|heq|hgt
  ·have:=List.pairwise_iff_getElem.1 hp _ _ a1 b1 hlt
   rw[a2,b2] at this;omega
  ·subst heq
   rw[a2] at b2;rw[b2]
  ·have:=List.pairwise_iff_getElem.1 hp _ _ b1 a1 hgt
   rw[a2,b2] at this;omega
theorem JH (hs:Ga l) (hm:m∈l) (hne:m.id≠id) (hat:bX id l=some m'):m∈l.eraseIdx (cB id l):=by
 obtain⟨h1,h2⟩:=aX hat
 obtain⟨j,hj⟩:=List.getElem?_of_mem hm
 refine List.mem_eraseIdx_iff_getElem?.2 ⟨j,fun e=>?_,hj⟩
 rw[e,h1] at hj
 cases hj
 exact hne h2
theorem Od {z:Sm} (hs:Ga l) (hat:bX id l=some m') (hz:z∈l.eraseIdx (cB id l)):z.id≠id:=fun e=>by
 obtain⟨h1,h2⟩:=aX hat
 obtain⟨i,hi,hy⟩:=List.mem_eraseIdx_iff_getElem?.1 hz
 obtain⟨a1,a2⟩:=List.getElem?_eq_some_iff.1 h1
 obtain⟨b1,b2⟩:=List.getElem?_eq_some_iff.1 hy
 rcases Nat.lt_trichotomy (cB id l) i with hlt|heq|hgt
 ·have:=List.pairwise_iff_getElem.1 hs.2 _ _ a1 b1 hlt
  rw[a2,b2] at this;omega
 ·exact hi heq.symm
 ·have:=List.pairwise_iff_getElem.1 hs.2 _ _ b1 a1 hgt
  rw[a2,b2] at this;omega
theorem IY (h:F4 B z):(lS j z.l).isSome=true↔j∈z.l.map fD.id:=by
 constructor
 ·intro hq
  obtain⟨e,he⟩:=Option.isSome_iff_exists.1 hq
  obtain⟨h1,h2⟩:=mW he
  exact List.mem_map.2 ⟨e,List.mem_of_getElem? h1,h2⟩
 ·intro hj
  obtain⟨e,he,hid⟩:=List.mem_map.1 hj
  cases hq:lS j z.l with
  |some _=>rfl
  |none=>
   exfalso
   refine QF (f:=fD.id) (t:=j) h.2.1 (fun e he hid=>?_) e he hid
   have:lS j z.l=some e:=by
    unfold lS lE
    rw[he]
    simp[hid]
   rw[hq] at this;cases this
theorem Ww (h:F4 B z):j∈(iK id z).l.map fD.id↔j∈z.l.map fD.id/\j≠id:=by
 unfold iK
 cases hq:lS id z.l with
 |none=>
  rw[if_neg (by simp)]
  refine⟨fun hj=>⟨hj,fun e=>?_⟩,fun hj=>hj.1⟩
  rw[e] at hj
  have:=(IY h).2 hj
  rw[hq] at this;cases this
 |some e=>
  obtain⟨h1,h2⟩:=mW hq
  rw[if_pos (show(some e).isSome=true from rfl)]
  show j∈(z.l.eraseIdx (lE id z.l)).map fD.id↔_
  obtain⟨a1,a2⟩:=List.getElem?_eq_some_iff.1 h1
  constructor
  ·intro hj
   obtain⟨y,hy,hid⟩:=List.mem_map.1 hj
   refine⟨List.mem_map.2 ⟨y,List.mem_of_mem_eraseIdx hy,hid⟩,fun e'=>?_⟩
   obtain⟨i,hi,hy2⟩:=List.mem_eraseIdx_iff_getElem?.1 hy
   obtain⟨b1,b2⟩:=List.getElem?_eq_some_iff.1 hy2
   rcases Nat.lt_trichotomy (lE id z.l) i with hlt|heq|hgt
   ·have:=List.pairwise_iff_getElem.1 h.2.1 _ _ a1 b1 hlt
    rw[a2,b2] at this;omega
   ·exact hi heq.symm
   ·have:=List.pairwise_iff_getElem.1 h.2.1 _ _ b1 a1 hgt
    rw[a2,b2] at this;omega
  ·intro hj
   obtain⟨y,hy,hid⟩:=List.mem_map.1 hj.1
   refine List.mem_map.2 ⟨y,?_,hid⟩
   obtain⟨i,hi⟩:=List.getElem?_of_mem hy
   refine List.mem_eraseIdx_iff_getElem?.2 ⟨i,fun e'=>?_,hi⟩
   rw[e',h1] at hi
   cases hi
   exact hj.2 (by rw[<- hid];exact h2)
theorem Acp (h:F4 B z) (ht:1<=id/\id<=2147483647) (hn:lL n=true) (hno:id ∉ z.l.map fD.id) (hl:z.l.length<64):j∈(iB id n z).l.map fD.id↔j=id\/j∈z.l.map fD.id:=by
 have hq:¬(lS id z.l).isSome=true:=fun q=>hno ((IY h).1 q)
 unfold iB
 rw[if_neg (by rw[hn];simp only[Bool.true_eq_false,false_or,not_or];exact⟨by omega,by omega,hq,by omega⟩)]
 show j∈(z.l.take (lE id z.l)++⟨id,n,0⟩::z.l.drop (lE id z.l)).map fD.id↔_
 conv=>rhs;rw[<- List.take_append_drop (lE id z.l) z.l]
 simp only[List.map_append,List.map_cons,List.mem_append,List.mem_cons]
 constructor
 ·rintro(hj|hj|hj)
  ·exact .inr (.inl hj)
  ·exact .inl hj
  ·exact .inr (.inr hj)
 ·rintro(hj|hj|hj)
  ·exact .inr (.inl hj)
  ·exact .inl hj
  ·exact .inr (.inr hj)
theorem Tc {l:List fD} {e e':fD} (h:l[i]?=some e) (hid:e'.id=e.id):(l.set i e').map fD.id=l.map fD.id:=by
 rw[List.map_set,hid]
 exact kB i (by rw[List.getElem?_map,h];rfl)
theorem Oe:(j8 id b z).l.map fD.id=z.l.map fD.id:=by
 unfold j8
 split
 ·rfl
 ·split
  ·rename_i e he
   exact Tc (mW he).1 rfl
  ·rfl
theorem Afj {a:Int}:(mG a b z).l.map fD.id=z.l.map fD.id:=by
 unfold mG
 split
 ·rfl
 ·show(z.l.map _).map fD.id=_
  rw[List.map_map];rfl
theorem V0:(mB id k z).l.map fD.id=z.l.map fD.id:=by
 unfold mB
 split
 ·rfl
 ·split
  ·rename_i e he
   exact Tc (mW he).1 rfl
  ·rfl
def kb (m:Sm):Nat:=if bA m.x=1 then gH m.y else 0
def xA (l:List Sm):Nat:=(l.map kb).sum
theorem Lg (hi:l[i]?=some m):xA (l.set i m')+kb m=xA l+kb m':=by
 induction l generalizing i with
 |nil=>cases hi
 |cons q r ih=>
  cases i with
  |zero=>cases hi;simp[xA];omega
  |succ i=>
   have:=ih (i:=i) (by simpa using hi)
   simp only[xA,List.set_cons_succ,List.map_cons,List.sum_cons] at this ⊢
   omega
theorem Fc (hi:l[i]?=some m):xA (l.eraseIdx i)+kb m=xA l:=by
 induction l generalizing i with
 |nil=>cases hi
 |cons q r ih=>
  cases i with
  |zero=>cases hi;simp[xA];omega
  |succ i=>
   have:=ih (i:=i) (by simpa using hi)
   simp only[xA,List.eraseIdx_cons_succ,List.map_cons,List.sum_cons] at this ⊢
   omega
theorem Ae9 {a b:List Sm}:xA (a++b)=xA a+xA b:=by simp[xA]
theorem Ag7:xA (jT m l)=kb m+xA l:=by
 have h:xA (jT m l)=xA (l.take (cB m.id l))+(kb m+xA (l.drop (cB m.id l))):=by simp[xA,jT]
 have h2:xA l=xA (l.take (cB m.id l))+xA (l.drop (cB m.id l)):=by rw[<- Ae9,List.take_append_drop]
 omega
theorem UE (h:∀m,kb (q m)=kb m):xA (l.map q)=xA l:=by
 unfold xA
 rw[List.map_map]
 congr 1
 exact List.map_congr_left fun m _=>h m
def Nf (a b:dI):Prop:=a.w<=b.w/\a.st<=b.st/\a.it<=b.it
def Im (g:dI):Ys->Prop
 |.b y=>y.most<=g.w
 |.i y=>y.mr<=g.it
def Zb (c:Cf):Xs->Prop
 |.b x=>(x.cap:Int)<=c.sb
 |.i x=>(x.cap:Int)<=c.si
def xSz:Xs->Prop
 |.b _=>True
 |.i x=>∀d∈x.l,d.size<=256
structure OZ (c:Cf) (g:dI) (m:Sm):Prop where
 y:Im g m.y
 x:Zb c m.x
 ok:bA m.x=jH m.y
 sz:xSz m.x
structure fM (c:Cf) (s:Cn):Prop where
 cfe:s.cf=c
 tn:∀id,eX s.tr id->∃m∈s.l,m.id=id
 fo:∀f∈s.out,l7 f=true/\f.ps.length=f.pn/\f.t≠10/\f.t≠11
 cl:s.dr.ov=true->s.l= []
 mo:∀m∈s.l,OZ c s.sh.g m
 hg:Nf s.sh.h s.sh.g/\∀t∈s.sh.l,Nf t s.sh.g
 nf:(fJ s false:Int)<=s.sh.g.st
 kp:s.rv.us+xA s.l<=s.rv.got
 ls:s.last.size<=300
 lk:∀j,j∈s.ld.l.map fD.id↔∃m∈s.l,m.id=j/\bA m.x=1
theorem UT:((l.eraseIdx i).filter fun m=>m.own == false).length<=(l.filter fun m=>m.own == false).length:=((List.eraseIdx_sublist ..).filter _).length_le
theorem I1 (hI:bR B s) (h:fM c s) (hm:bX id s.l=some m):fM c (kA id code gone s):=
 { h with
   tn:=fun j hj=>by
    obtain⟨h1,h2⟩:=Agc hI.tr hj
    obtain⟨z,hz,hzi⟩:=h.tn j h1
    exact⟨z,JH hI.sm hz (by rw[hzi];exact h2) hm,hzi⟩
   cl:=fun ho=>by
    show s.l.eraseIdx _= []
    rw[h.cl ho];rfl
   mo:=fun z hz=>h.mo z (List.mem_of_mem_eraseIdx hz)
   nf:=by
    have h1:=h.nf
    have h2:=UT (l:=s.l) (i:=cB id s.l)
    unfold fJ at h1
    show(((s.l.eraseIdx (cB id s.l)).filter fun m=>m.own == false).length:Int)<=s.sh.g.st
    omega
   kp:=by
    have h1:=h.kp
    have h2:=Fc (aX hm).1
    show s.rv.us+xA (s.l.eraseIdx (cB id s.l))<=s.rv.got
    omega
   lk:=fun j=>by
    show j∈(iK id s.ld).l.map fD.id↔∃m∈s.l.eraseIdx (cB id s.l),m.id=j/\bA m.x=1
    rw[Ww hI.ld,h.lk]
    constructor
    ·rintro⟨⟨z,hz,hzi,hzk⟩,hne⟩
     exact⟨z,JH hI.sm hz (by rw[hzi];exact hne) hm,hzi,hzk⟩
    ·rintro⟨z,hz,hzi,hzk⟩
     refine⟨⟨z,List.mem_of_mem_eraseIdx hz,hzi,hzk⟩,fun e=>?_⟩
     have h1:=Od hI.sm hm hz
     rw[hzi] at h1;exact h1 e }
theorem K8 (hI:bR B s):(o4 s).l= []:=(Fg (code:=s.dr.co) rfl hI).2
theorem Iv (hI:bR B s) (h:fM c s) {d:Dr} {q:ByteArray} (hq:q.size<=300):fM c (o4 { s with dr:=d,last:=q }):=by
 have hI2:bR B { s with dr:=d,last:=q }:= { hI with }
 have e:=K8 hI2
 have h0:∀ {l:List Sm} {z:Cn} {e:Dr},z.l=l->bR B z->fM c { z with dr:=e }->fM c { pO d.co (l.map Sm.id) z with dr:=e }:=by
  intro l
  induction l with
  |nil=>intro z e _ _ hz;exact hz
  |cons m l ih=>
   intro z e hl hzI hz
   have hm:bX m.id z.l=some m:=by rw[hl];exact Fo
   exact ih (z:=kA m.id d.co false z) (EU hl) (zW hzI hm) (I1 (s:= { z with dr:=e }) { hzI with } hz hm)
 have h1:=h0 (z:= { s with dr:=d,last:=q }) (e:=s.dr) rfl hI2 { h with ls:=hq }
 exact { h1 with
  fo:=fun f hf=>by cases hf
  cl:=fun _=>e }
theorem Uz (hw:0<=w):((rB n w).size:Int)<=w:=by
 unfold rB
 split
 ·show((0:Nat):Int)<=w;exact hw
 ·have:((⟨(wB n w).toArray⟩:ByteArray).size:Int)=((wB n w).length:Nat):=by simp[ByteArray.size]
  rw[this,iT];omega
theorem Aes {l t f s:Int}:(i9 l t f s).size<=9:=by
 have q1:=Uz (n:=l) (w:=3) (by decide)
 have q2:=Uz (n:=t) (w:=1) (by decide)
 have q3:=Uz (n:=f) (w:=1) (by decide)
 have q4:=Uz (n:=s) (w:=4) (by decide)
 unfold i9
 rw[ByteArray.size_append,ByteArray.size_append,ByteArray.size_append]
 omega
theorem Adv:(oU (Ci la co)).size<=300:=by
 have e:(⟨(wB la 4++wB co 4).toArray⟩:ByteArray).size=8:=by
  have:(⟨(wB la 4++wB co 4).toArray⟩:ByteArray).size=(wB la 4++wB co 4).length:=by simp[ByteArray.size]
  rw[this,List.length_append,iT,iT];rfl
 refine Nat.le_trans (Nat.le_of_eq (ByteArray.size_append ..)) (Nat.le_trans (Nat.add_le_add Aes (Nat.le_of_eq e)) (by decide))
theorem gT (hI:bR B s) (h:fM c s):fM c (iD w o s):=Iv hI h Adv
theorem TP {out:List Fm} (h:∀f∈out,l7 f=true/\f.ps.length=f.pn/\f.t≠10/\f.t≠11) (hf:f.ps.length=f.pn/\f.t≠10/\f.t≠11):∀z∈z8 f out,l7 z=true/\z.ps.length=z.pn/\z.t≠10/\z.t≠11:=by
 unfold z8
 by_cases he:CN f out≠0
 ·rw[if_pos he];exact h
 ·rw[if_neg he]
  have hc:l7 f=true:=by
   cases hq:l7 f
   ·exact absurd (by unfold CN;rw[if_pos hq];decide) he
   ·rfl
  cases hy:out[qZ f out]? with
  |none=>
   intro z hz
   rcases List.mem_append.1 hz with hz|hz
   ·exact h z hz
   ·rw[List.mem_singleton.1 hz]
    exact⟨hc,hf⟩
  |some y=>
   exfalso
   obtain⟨y2,h2,h3⟩:=LI (List.getElem?_eq_some_iff.1 hy).1
   unfold m6 at h3
   simp only[Bool.and_eq_true,Bool.or_eq_true,decide_eq_true_eq] at h3
   rcases h3.1.1.1 with h4|h4
   ·exact hf.2.1 h4
   ·exact hf.2.2 h4
theorem AP (h:fM c s) (hf:f.ps.length=f.pn/\f.t≠10/\f.t≠11):fM c { s with out:=z8 f s.out }:= { h with fo:=TP h.fo hf }
theorem C6 (hI:bR B s) (h:fM c s) (hf:f.ps.length=f.pn/\f.t≠10/\f.t≠11):fM c (pA f s):=by
 unfold pA
 split
 ·exact AP h hf
 ·exact gT hI h
theorem DR (hI:bR B s) (h:fM c s) (hm:bX id s.l=some m):fM c (lY m code s):=by
 obtain⟨hi,h2⟩:=aX hm
 have h1:bX m.id s.l=some m:=by rw[h2];exact hm
 have hk:=h.kp
 have he:=Fc hi
 have hr:=hI.rv
 unfold Ha at hr
 have hd:=I1 (s:=s) (gone:=false) (code:=code) hI h h1
 refine { hd with kp:=?_ }
 show(d8 s.rv (if bA m.x=1 then(gH m.y:Nat) else 0)).us+xA (s.l.eraseIdx (cB m.id s.l))<=(d8 s.rv (if bA m.x=1 then(gH m.y:Nat) else 0)).got
 rw[h2]
 have hkb:kb m=if bA m.x=1 then gH m.y else 0:=rfl
 unfold d8
 by_cases hx:bA m.x=1
 ·rw[if_pos hx] at hkb
  simp only[if_pos hx]
  split
  ·dsimp only;omega
  ·omega
 ·rw[if_neg hx] at hkb
  simp only[if_neg hx]
  split
  ·dsimp only;omega
  ·omega
theorem qO (hI:bR B s) (h:fM c s):fM c (iM w st s):=by
 unfold iM
 split
 ·exact gT hI h
 ·cases hm:bX st s.l with
  |none=>exact C6 hI h ⟨rfl,by show(4:Int)≠10;decide,by show(4:Int)≠11;decide⟩
  |some m=>exact C6 (o5 hI hm) (DR hI h hm) ⟨rfl,by show(4:Int)≠10;decide,by show(4:Int)≠11;decide⟩
theorem DG (hI:bR B s) (h:fM c s) (hm:bX m.id s.l=some m):fM c (kT m s):=by
 unfold kT
 split
 ·exact I1 hI h hm
 ·exact h
theorem KJ (hi:l[i]?=some m) (hid:m'.id=m.id) (hx:bA m'.x=bA m.x):(∃m∈l,m.id=j/\bA m.x=1)↔∃z∈l.set i m',z.id=j/\bA z.x=1:=by
 have e:(l.set i m').map (fun z=>(z.id,bA z.x))=l.map fun z=>(z.id,bA z.x):=by
  rw[List.map_set,hid,hx]
  exact kB i (by rw[List.getElem?_map,hi];rfl)
 have q:∀l:List Sm,(∃m∈l,m.id=j/\bA m.x=1)↔(j,(1:Int))∈l.map fun z=>(z.id,bA z.x):=fun l=>by
  simp only[List.mem_map,Prod.mk.injEq]
 rw[q,q,e]
theorem x5 (h:fM c s) (hi:s.l[i]?=some m) (hid:m'.id=m.id) (ho:m'.own=m.own) (hm:OZ c s.sh.g m') (hk:kb m'<=kb m) (hx:bA m'.x=bA m.x):fM c { s with l:=s.l.set i m' }:=
 { h with
   tn:=fun j hj=>by
    obtain⟨z,hz,hzi⟩:=h.tn j hj
    have e:=CW (m':=m') hi hid
    have h1:j∈(s.l.set i m').map Sm.id:=by rw[e,<- hzi];exact List.mem_map_of_mem hz
    obtain⟨z',hz',e'⟩:=List.mem_map.1 h1
    exact⟨z',hz',e'⟩
   cl:=fun ho=>by
    have:=h.cl ho
    rw[this] at hi;cases hi
   mo:=fun z hz=>by
    rcases List.mem_or_eq_of_mem_set hz with hz|rfl
    ·exact h.mo z hz
    ·exact hm
   nf:=by
    have h1:=h.nf
    unfold fJ at h1
    show(((s.l.set i m').filter fun m=>m.own == false).length:Int)<=s.sh.g.st
    rw[LF hi ho];exact h1
   kp:=by
    have h1:=h.kp
    have h2:=Lg (m':=m') hi
    show s.rv.us+xA (s.l.set i m')<=s.rv.got
    omega
   lk:=fun j=>(h.lk j).trans (KJ hi hid hx) }
theorem My (h:fM c s) (hk:k+s.rv.us+xA s.l<=s.rv.got) (h0:0<=k):fM c { s with rv:=d8 s.rv k }:=
 { h with
   kp:=by
    show(d8 s.rv k).us+xA s.l<=(d8 s.rv k).got
    unfold d8
    split
    ·dsimp only;omega
    ·omega }
theorem Ac2 {tt:Int} (hk:bA m.x=jH m.y) (hw:dO m tt d e=0):(kb (eB m d e):Int)<=kb m+(if tt=0 then(d.size:Int) else 0):=by
 have ht:tt=bA m.x - 1:=by
  by_cases h:tt=bA m.x - 1
  ·exact h
  ·unfold dO at hw
   rw[if_pos h] at hw;cases hw
 unfold kb eB
 by_cases hx:bA m.x=1
 ·simp only[if_pos hx]
  cases hy:m.y with
  |b y=>
   have:d.data.toList.length=d.size:=Array.length_toList
   simp only[xH,gH,List.length_append]
   rw[if_pos (by omega)]
   omega
  |i y=>rw[hy,hx] at hk;cases hk
 ·simp only[if_neg hx]
  split <;> omega
theorem Z3 (h:OZ c g m):OZ c g (eB m d e):=by
 obtain⟨h1,h2,h3,h4⟩:=h
 refine⟨?_,h2,?_,h4⟩
 ·show Im g (xH m.y d e)
  cases hy:m.y with
  |b y=>rw[hy] at h1;exact h1
  |i y=>
   rw[hy] at h1
   show(if d≠⟨#[]⟩\/e=false then({ y with op:=y.op - 1,l:=y.l++ [d],ac:=y.ac+1,en:=e }:YI) else { y with en:=true }).mr<=g.it
   split <;> exact h1
 ·show bA m.x=jH (xH m.y d e)
  cases hy:m.y with
  |b y=>rw[hy] at h3;exact h3
  |i y=>rw[hy] at h3;exact h3
theorem ZD (hI:bR B s) (h:fM c s) (hB:B+300<=250000000) (hd:f.d.size<=256):fM c (qM f s):=by
 have hk:0<=(if f.t=0 then((f.d.size:Nat):Int) else 0)/\(if f.t=0 then((f.d.size:Nat):Int) else 0)<=300:=by split <;> omega
 have hkp:=h.kp
 unfold qM
 cases hm:bX f.st s.l with
 |none=>
  dsimp only
  generalize (if f.t=0 then((f.d.size:Nat):Int) else 0)=kk at hk ⊢
  by_cases hg:jD s.rv kk=0
  ·rw[if_neg (fun q=>q hg)]
   have e:fG s.rv kk= { s.rv with got:=s.rv.got+kk }:=if_pos hg
   rw[e]
   exact My (s:= { s with rv:= { s.rv with got:=s.rv.got+kk } }) { h with kp:=by show s.rv.us+xA s.l<=s.rv.got+kk;omega } (by show kk+s.rv.us+xA s.l<=s.rv.got+kk;omega) hk.1
  ·rw[if_pos hg];exact gT hI h
 |some m=>
  obtain⟨hi,hmid⟩:=aX hm
  dsimp only
  by_cases hw:dO m f.t f.d f.e=0
  ·have hkc:=Ac2 (h.mo m (List.mem_of_getElem? hi)).ok hw
   generalize (if f.t=0 then((f.d.size:Nat):Int) else 0)=kk at hk hkc ⊢
   generalize (if f.t=1/\(f.d≠⟨#[]⟩\/f.e=false) then(1:Int) else kk)=nn
   by_cases hg:jD s.rv kk=0
   ·rw[if_neg (fun q=>q hg),if_neg (fun q=>q hw),fS (id:=f.st) (show(eB m f.d f.e).id=f.st from hmid)]
    have e:fG s.rv kk= { s.rv with got:=s.rv.got+kk }:=if_pos hg
    have hI2:=xM (mv:=⟨2,f.st,nn,f.d,f.e⟩) (e:=f.e) hI hm hk hB hd
    have hS:fM c { s with l:=s.l.set (cB f.st s.l) m }:=by
     rw[kB _ hi];exact h
    refine DG hI2 ?_ (mM hm rfl)
    have hset:=Lg (m':=eB m f.d f.e) hi
    have hb:fM c { s with l:=s.l.set (cB f.st s.l) (eB m f.d f.e),rv:= { s.rv with got:=s.rv.got+kk } }:= {
     cfe:=h.cfe,fo:=h.fo,hg:=h.hg,ls:=h.ls
     tn:=fun j hj=>by
      obtain⟨z,hz,hzi⟩:=h.tn j hj
      have e:=CW (m':=eB m f.d f.e) hi rfl
      have h1:j∈(s.l.set (cB f.st s.l) (eB m f.d f.e)).map Sm.id:=by rw[e,<- hzi];exact List.mem_map_of_mem hz
      obtain⟨z',hz',e'⟩:=List.mem_map.1 h1
      exact⟨z',hz',e'⟩
     cl:=fun ho=>by
      have:=h.cl ho
      rw[this] at hi;cases hi
     mo:=fun z hz=>by
      rcases List.mem_or_eq_of_mem_set hz with hz|rfl
      ·exact h.mo z hz
      ·exact Z3 (h.mo m (List.mem_of_getElem? hi))
     nf:=by
      have h1:=h.nf
      unfold fJ at h1
      show(((s.l.set (cB f.st s.l) (eB m f.d f.e)).filter fun m=>m.own == false).length:Int)<=s.sh.g.st
      rw[LF (m':=eB m f.d f.e) hi rfl];exact h1
     kp:=by
      show s.rv.us+xA (s.l.set (cB f.st s.l) (eB m f.d f.e))<=s.rv.got+kk
      omega
     lk:=fun j=>(h.lk j).trans (KJ (m':=eB m f.d f.e) hi rfl rfl) }
    rw[e]
    exact { hb with }
   ·rw[if_pos hg];exact gT hI h
  ·generalize (if f.t=0 then((f.d.size:Nat):Int) else 0)=kk at hk ⊢
   by_cases hg:jD s.rv kk=0
   ·rw[if_neg (fun q=>q hg),if_pos hw]
    refine qO (nE (yJ hI hk hB)) ?_
    have e:fG s.rv kk= { s.rv with got:=s.rv.got+kk }:=if_pos hg
    rw[e]
    exact My (s:= { s with rv:= { s.rv with got:=s.rv.got+kk } }) { h with kp:=by show s.rv.us+xA s.l<=s.rv.got+kk;omega } (by show kk+s.rv.us+xA s.l<=s.rv.got+kk;omega) hk.1
   ·rw[if_pos hg];exact gT hI h
theorem K9:(fQ cf h id kind sg own).id=id:=by unfold fQ;split <;> rfl
theorem Aep:(fQ cf h id kind sg own).own=own:=by unfold fQ;split <;> rfl
theorem NM {z:Sm} (h:z∈l):z∈jT m l:=by
 unfold jT
 rw[<- List.take_append_drop (cB m.id l) l] at h
 rcases List.mem_append.1 h with h|h
 ·exact List.mem_append_left _ h
 ·exact List.mem_append_right _ (List.mem_cons_of_mem _ h)
theorem NA:m∈jT m l:=List.mem_append_right _ (List.mem_cons_self ..)
theorem Pt:bA (fQ cf h id kind sg own).x=1↔kind=1:=by
 unfold fQ
 split
 ·rename_i hk;exact⟨fun _=>hk,fun _=>rfl⟩
 ·rename_i hk;exact⟨fun q=>absurd (show(2:Int)=1 from q) (by decide),fun q=>absurd q hk⟩
theorem UJ (hI:bR B s) (h:fM c s):s.ld.l.length<=s.l.length:=by
 have hn:(s.ld.l.map fD.id).Nodup:=by
  have:(s.ld.l.map fD.id).Pairwise (·<·):=List.pairwise_map.2 hI.ld.2.1
  exact this.imp fun hab e=>by omega
 have h1:=List.Nodup.length_le_of_subset (l₂:=s.l.map Sm.id) hn fun j hj=>by
  obtain⟨m,hm,hid,_⟩:=(h.lk j).1 hj
  exact List.mem_map.2 ⟨m,hm,hid⟩
 rwa[List.length_map,List.length_map] at h1
theorem UO (hI:bR B s) (h:fM c s) (hat:bX id s.l=none) (hl:s.l.length<64) (hid:1<=id/\id<=2147483647) (ho:s.dr.ov=false) (hn:own=false->(fJ s false:Int)<s.sh.h.st):fM c (Iy id kind on w xx own sg s):=
 { h with
   tn:=fun j hj=>by
    rcases Ac9 hI.tr hj with hj|hj
    ·exact⟨_,NA,by rw[K9];exact hj.symm⟩
    ·obtain⟨z,hz,hzi⟩:=h.tn j hj
     exact⟨z,NM hz,hzi⟩
   cl:=fun hq=>by
    have hq:s.dr.ov=true:=hq
    rw[ho] at hq;cases hq
   mo:=fun z hz=>by
    rcases A8 hz with rfl|hz
    ·have h1:=h.hg.1
     have h2:=hI.cf
     have h3:=h.cfe
     unfold Nf at h1
     unfold fQ
     split
     ·refine⟨h1.1,?_,rfl,trivial⟩
      show((s.cf.sb.toNat:Nat):Int)<=c.sb
      rw[<- h3];omega
     ·refine⟨h1.2.2,?_,rfl,fun d hd=>by cases hd⟩
      show((s.cf.si.toNat:Nat):Int)<=c.si
      rw[<- h3];omega
    ·exact h.mo z hz
   nf:=by
    have h1:=h.nf
    have h2:=h.hg.1
    unfold Nf at h2
    show(((jT (fQ s.cf s.sh.h id kind sg own) s.l).filter fun m=>m.own == false).length:Int)<=s.sh.g.st
    rw[S9,Aep]
    unfold fJ at h1 hn
    split
    ·rename_i hb
     have hb:own=false:=by simpa using hb
     have:=hn hb
     omega
    ·omega
   kp:=by
    have h1:=h.kp
    have h2:kb (fQ s.cf s.sh.h id kind sg own)=0:=by
     unfold fQ
     split
     ·rfl
     ·rfl
    show s.rv.us+xA (jT (fQ s.cf s.sh.h id kind sg own) s.l)<=s.rv.got
    rw[Ag7,h2];omega
   lk:=fun j=>by
    have hno:=Mf hI.sm hat
    have hnl:id ∉ s.ld.l.map fD.id:=fun q=>by
     obtain⟨z,hz,hzi,_⟩:=(h.lk id).1 q
     exact hno z hz hzi
    have hlen:=UJ hI h
    have hput:(∃m∈jT (fQ s.cf s.sh.h id kind sg own) s.l,m.id=j/\bA m.x=1)↔(j=id/\kind=1)\/∃m∈s.l,m.id=j/\bA m.x=1:=by
     constructor
     ·rintro⟨z,hz,hzi,hzk⟩
      rcases A8 hz with rfl|hz
      ·exact .inl ⟨by rw[<- hzi,K9],Pt.1 hzk⟩
      ·exact .inr ⟨z,hz,hzi,hzk⟩
     ·rintro(⟨rfl,hk⟩|⟨z,hz,hzi,hzk⟩)
      ·exact⟨_,NA,K9,Pt.2 hk⟩
      ·exact⟨z,NM hz,hzi,hzk⟩
    show j∈(if kind=1 then iB id s.pe.w s.ld else s.ld).l.map fD.id↔∃m∈jT (fQ s.cf s.sh.h id kind sg own) s.l,m.id=j/\bA m.x=1
    rw[hput,<- h.lk]
    by_cases hk:kind=1
    ·rw[if_pos hk,Acp hI.ld hid (TD hI.pe.1) hnl (by omega)]
     simp[hk]
    ·rw[if_neg hk]
     simp[hk] }
theorem QH (hI:bR B s) (h:fM c s) (hB:B+300<=250000000):fM c (kY f s):=by
 have hm:=hI.mono (B':=B+300) (by omega) hB
 unfold kY
 by_cases hp:lH s.sd s.la f.st=0
 ·rw[if_neg (fun q=>q hp)]
  have I8:=Ee hm hp
  have h1:fM c { s with la:=f.st }:= { h with }
  split
  ·exact gT I8 h1
  ·split
   ·exact qO I8 h1
   ·rename_i hdt
    split
    ·exact qO I8 h1
    ·rename_i ho
     have hov:s.dr.ov=false:=by
      cases hq:s.dr.ov
      ·rfl
      ·exact absurd (by unfold x4;rw[hq];rfl) hdt
     have h2:=UO (id:=f.st) (kind:=f.k) (on:=f.on) (w:=f.w) (xx:=f.x) (sg:=s.cf.sg) (own:=false) I8 h1 (show bX f.st s.l=none from Bi hI hp) (show s.l.length<64 from(Hc hI ho).1) (nQ hI.sd hp).1 hov (fun _=>by show(fJ s false:Int)<s.sh.h.st;omega)
     exact { h2 with }
 ·rw[if_pos hp];exact gT hm h
theorem Aal (h:OZ c g m):OZ c g { m with x:=mF m.x n }:=by
 obtain⟨h1,h2,h3,h4⟩:=h
 refine⟨h1,?_,by show bA (mF m.x n)=jH m.y;rw[Gn];exact h3,?_⟩
 ·show Zb c (mF m.x n)
  cases hx:m.x with
  |b z=>rw[hx] at h2;exact h2
  |i z=>
   rw[hx] at h2
   show((if 1<=n then { z with w:=z.w+min n (2147483647 - z.w) } else z).cap:Int)<=c.si
   split <;> exact h2
 ·show xSz (mF m.x n)
  cases hx:m.x with
  |b z=>trivial
  |i z=>
   rw[hx] at h4
   show ∀d∈(if 1<=n then { z with w:=z.w+min n (2147483647 - z.w) } else z).l,d.size<=256
   split <;> exact h4
theorem NQ (hI:bR B s) (h:fM c s) (hm:bX f.st s.l=some m):fM c (kG f m s):=by
 obtain⟨hi,hmid⟩:=aX hm
 unfold kG
 split
 ·exact qO hI h
 ·split
  ·exact qO hI h
  ·split
   ·split
    ·exact qO hI h
    ·exact { h with lk:=fun j=>by show j∈(j8 f.st f.n s.ld).l.map fD.id↔_;rw[Oe];exact h.lk j }
   ·split
    ·exact qO hI h
    ·rw[fS (id:=f.st) (show({ m with x:=mF m.x f.n }:Sm).id=f.st from hmid)]
     refine x5 (s:= { s with sl:=iO s.sl s.now }) { h with } hi rfl rfl (Aal (h.mo m (List.mem_of_getElem? hi))) ?_ ?_
     ·unfold kb
      show(if bA (mF m.x f.n)=1 then gH m.y else 0)<=_
      rw[Gn];exact Nat.le_refl _
     ·exact Gn
theorem Vi (hI:bR B s) (h:fM c s):fM c (pW f s):=by
 unfold pW
 split
 ·exact gT hI h
 ·split
  ·exact gT hI h
  ·exact { h with lk:=fun j=>by show j∈(j8 0 f.n s.ld).l.map fD.id↔_;rw[Oe];exact h.lk j }
theorem X3 (hI:bR B s) (h:fM c s):fM c (uH f s):=by
 unfold uH
 cases hp:Qg s.pe f.ps with
 |none=>exact gT hI h
 |some t=>
  dsimp only
  split
  ·exact gT hI h
  ·exact C6 (Gq hI (Hd hI.pe hp) (Gs hI.ld)) { h with lk:=fun j=>by show j∈(mG s.pe.w t.w s.ld).l.map fD.id↔_;rw[Afj];exact h.lk j } ⟨rfl,by show(6:Int)≠10;decide,by show(6:Int)≠11;decide⟩
theorem Aey {q:dI} (hq:Nf q g) (h:OZ c g m):OZ c g { m with y:=tY m.y q }:=by
 obtain⟨h1,h2,h3,h4⟩:=h
 unfold Nf at hq
 refine⟨?_,h2,by show bA m.x=jH (tY m.y q);rw[Aaw];exact h3,h4⟩
 show Im g (tY m.y q)
 cases hy:m.y with
 |b z=>rw[hy] at h1;show max z.most q.w<=g.w;have:z.most<=g.w:=h1;omega
 |i z=>rw[hy] at h1;show max z.mr q.it<=g.it;have:z.mr<=g.it:=h1;omega
theorem Kc (h1:∀m,(q m).id=m.id) (h2:∀m,bA (q m).x=bA m.x):(∃m∈l,m.id=j/\bA m.x=1)↔∃z∈l.map q,z.id=j/\bA z.x=1:=by
 constructor
 ·rintro⟨z,hz,hzi,hzk⟩
  exact⟨q z,List.mem_map_of_mem hz,by rw[h1];exact hzi,by rw[h2];exact hzk⟩
 ·rintro⟨z,hz,hzi,hzk⟩
  obtain⟨y,hy,rfl⟩:=List.mem_map.1 hz
  exact⟨y,hy,by rw[<- h1];exact hzi,by rw[<- h2];exact hzk⟩
theorem Wl (hI:bR B s) (h:fM c s):fM c (pK s):=by
 unfold pK
 split
 ·exact gT hI h
 ·rename_i hE
  obtain⟨hg1,hg2⟩:=h.hg
  have hg:Nf (dC s.sh).h (dC s.sh).g/\∀t∈(dC s.sh).l,Nf t (dC s.sh).g:=by
   unfold dC
   cases hl:s.sh.l with
   |nil=>exact⟨hg1,hg2⟩
   |cons q r=>
    rw[hl] at hg2
    exact⟨hg2 q (List.mem_cons_self ..),fun z hz=>hg2 z (List.mem_cons_of_mem _ hz)⟩
  have e:(dC s.sh).g=s.sh.g:=by
   unfold dC
   cases s.sh.l <;> rfl
  have hkb:∀m:Sm,kb ({ m with y:=tY m.y (dC s.sh).h }:Sm)=kb m:=fun m=>by
   unfold kb
   cases hy:m.y <;> rfl
  exact { h with
   tn:=fun j hj=>by
    obtain⟨z,hz,hzi⟩:=h.tn j hj
    exact⟨_,List.mem_map_of_mem hz,hzi⟩
   cl:=fun ho=>by
    show s.l.map _= []
    rw[h.cl ho];rfl
   mo:=fun z hz=>by
    obtain⟨m,hm,rfl⟩:=List.mem_map.1 hz
    show OZ c (dC s.sh).g _
    have h1:=h.mo m hm
    rw[<- e] at h1
    exact Aey hg.1 h1
   hg:=hg
   nf:=by
    have h1:=h.nf
    unfold fJ at h1
    show(((s.l.map fun m=>({ m with y:=tY m.y (dC s.sh).h }:Sm)).filter fun m=>m.own == false).length:Int)<=(dC s.sh).g.st
    rw[nF,List.map_map,e]
    rw[nF] at h1
    exact h1
   kp:=by
    have h1:=h.kp
    show s.rv.us+xA (s.l.map fun m=>({ m with y:=tY m.y (dC s.sh).h }:Sm))<=s.rv.got
    rw[UE hkb];exact h1
   lk:=fun j=>(h.lk j).trans (Kc (q:=fun m=> { m with y:=tY m.y (dC s.sh).h }) (fun _=>rfl) fun _=>rfl) }
theorem GU:∀ {l acc:List Sm} {s:Cn},s.l=acc++l->bR B s->fM c s->fM c (lU (l.map Sm.id) s)
 | [],acc,s,he,_,h=>h
 |m::l,acc,s,he,hI,h=>by
  have hlt:=QA (by rw[<- he];exact hI.sm)
  have hm:bX m.id s.l=some m:=by rw[he];exact HH hlt
  rw[List.map_cons,Kp hm]
  split
  ·refine GU (l:=l) (acc:=acc) ?_ (o5 hI hm) (DR hI h hm)
   show s.l.eraseIdx (cB m.id s.l)=acc++l
   rw[he];exact E1 hlt
  ·exact GU (l:=l) (acc:=acc++ [m]) (by rw[he];simp) hI h
theorem Aat {d:Dr} (h:d.ov=true):(iP d la co).ov=true:=by
 unfold iP
 split
 ·exact h
 ·split
  ·rfl
  ·exact h
theorem Ab9 (hI:bR B s) (h:fM c s):fM c (uE f s):=by
 unfold uE
 split
 ·exact Iv (q:=s.last) hI h h.ls
 ·rename_i hov
  have ho:s.dr.ov=false:=by
   cases hq:s.dr.ov
   ·rfl
   ·exact absurd (Aat hq) hov
  refine GU (acc:= []) rfl (EX hI) ?_
  exact { h with cl:=fun hq=>absurd hq hov }
theorem UH (hI:bR B s) (h:fM c s):fM c { s with tr:=k8 id on w xx s.tr }:= { h with tn:=fun j hj=>h.tn j (Aex hI.tr hj) }
theorem WG (hI:bR B s) (h:fM c s):fM c (jI f s):=by
 unfold jI
 split
 ·exact gT hI h
 ·cases hm:bX f.st s.l with
  |none=>exact h
  |some m=>
   dsimp only
   split
   ·exact UH hI h
   ·split
    ·exact DR hI h hm
    ·exact NQ hI h hm
theorem RZ (hI:bR B s) (h:fM c s) (hB:B+300<=250000000) (hr:bV f):fM c (bM f s):=by
 have hh:=f8 hI
 have hk:fM c { s with bt:=bN s.bt s.now }:= { h with }
 have hm:=hh.mono (B':=B+300) (by omega) hB
 unfold bM eM
 split
 ·exact X3 hm hk
 ·split
  ·exact Wl hm hk
  ·split
   ·exact C6 hm hk ⟨rfl,by show(8:Int)≠10;decide,by show(8:Int)≠11;decide⟩
   ·split
    ·exact { hk with }
    ·split
     ·exact Ab9 hm hk
     ·split
      ·exact QH hh hk hB
      ·split
       ·exact Vi hm hk
       ·split
        ·exact gT hm hk
        ·split
         ·rename_i ht
          exact ZD hh hk hB (hr.2.2.2.2.2.2.2.2.2.2.2.2.1 (by omega))
         ·exact WG hm hk
theorem Fy:∀ {fs:List Fm} {s:Cn} {B:Int},bR B s->fM c s->(∀f∈fs,bV f)->B+300 * fs.length<=250000000->fM c (eD fs s)
 | [],s,B,_,h,_,hB=>h
 |f::r,s,B,hI,h,hr,hB=>by
  have e:(f::r).length=r.length+1:=rfl
  rw[e] at hB
  have h1:=CL hI (by omega) (hr f (List.mem_cons_self ..))
  have h2:=RZ hI h (by omega) (hr f (List.mem_cons_self ..))
  unfold eD
  split
  ·exact h2
  ·exact Fy h1 h2 (fun z hz=>hr z (List.mem_cons_of_mem _ hz)) (by omega)
theorem Zf {bs:List UInt8} (h:(pF bs).2.2=0):(pF bs).2.1.length<=265:=by
 have h1:=(Ux bs.length bs (Nat.le_refl _)).1
 rw[h] at h1
 rw[<- m7]
 unfold Bn at h1
 split at h1
 ·omega
 ·split at h1
  ·split at h1
   ·rename_i hf
    have:=(MA hf).2
    split at h1
    ·omega
    ·split at h1
     ·cases h1
     ·rename_i hg;exact absurd (Option.some.inj h1) hg
   ·rename_i hf;exact absurd (Option.some.inj h1) hf
  ·cases h1
def oV (s:Cn):Int×List UInt8:=(s.ine,s.inb)
theorem NB:∀ {l:List Int} {s:Cn},oV (pO code l s)=oV s
 | [],_=>rfl
 |a::l,s=>NB (l:=l) (s:=kA a code false s)
theorem Pe:oV (o4 s)=oV s:=NB (code:=s.dr.co) (l:=s.l.map Sm.id) (s:=s)
theorem j7:oV (iD w o s)=oV s:=Pe
theorem Lm:oV (pA f s)=oV s:=by
 unfold pA
 split
 ·rfl
 ·exact j7
theorem uC:oV (iM w st s)=oV s:=by
 unfold iM
 split
 ·exact j7
 ·rw[Lm]
  split
  ·rfl
  ·rfl
theorem AW:oV (kT m s)=oV s:=by unfold kT;split <;> rfl
theorem Ac4:oV (qM f s)=oV s:=by
 unfold qM
 generalize (if f.t=0 then((f.d.size:Nat):Int) else 0)=kk
 generalize (if f.t=1/\(f.d≠⟨#[]⟩\/f.e=false) then(1:Int) else kk)=nn
 split
 ·exact j7
 ·split
  ·rfl
  ·split
   ·exact uC
   ·exact AW
theorem Vm:oV (kY f s)=oV s:=by
 unfold kY
 split
 ·exact j7
 ·split
  ·exact j7
  ·split
   ·exact uC
   ·split
    ·exact uC
    ·rfl
theorem Re:oV (kG f m s)=oV s:=by
 unfold kG
 split
 ·exact uC
 ·split
  ·exact uC
  ·split
   ·split
    ·exact uC
    ·rfl
   ·split
    ·exact uC
    ·rfl
theorem Yg:oV (pW f s)=oV s:=by
 unfold pW
 split
 ·exact j7
 ·split
  ·exact j7
  ·rfl
theorem Agt:oV (uH f s)=oV s:=by
 unfold uH
 split
 ·exact j7
 ·split
  ·exact j7
  ·exact Lm
theorem Yf:oV (pK s)=oV s:=by
 unfold pK
 split
 ·exact j7
 ·rfl
theorem Uf:∀ {l:List Int} {s:Cn},oV (lU l s)=oV s
 | [],_=>rfl
 |a::l,s=>by
  unfold lU
  rw[Uf (l:=l)]
  split
  ·split
   ·rfl
   ·rfl
  ·rfl
theorem Agn:oV (uE f s)=oV s:=by
 unfold uE
 split
 ·exact Pe
 ·exact Uf
theorem X0:oV (jI f s)=oV s:=by
 unfold jI
 split
 ·exact j7
 ·split
  ·rfl
  ·split
   ·rfl
   ·split
    ·rfl
    ·exact Re
theorem Ex:oV (bM f s)=oV s:=by
 unfold bM eM
 split
 ·exact Agt
 ·split
  ·exact Yf
  ·split
   ·exact Lm
   ·split
    ·rfl
    ·split
     ·exact Agn
     ·split
      ·exact Vm
      ·split
       ·exact Yg
       ·split
        ·exact j7
        ·split
         ·exact Ac4
         ·exact X0
theorem Ct:∀ {l:List Fm} {s:Cn},oV (eD l s)=oV s
 | [],_=>rfl
 |f::l,s=>by
  unfold eD
  split
  ·exact Ex
  ·rw[Ct (l:=l)];exact Ex
theorem Oi:∀ {l:List Int} {s:Cn},(pO code l s).dr=s.dr
 | [],_=>rfl
 |a::l,s=>Oi (l:=l) (s:=kA a code false s)
theorem Df (hw:0<=w/\w<=20):(iD w o s).dr.ov=true:=by
 have h1:=Kh (o:=o) hw
 have e:(iD w o s).dr=p9 s.dr (hQ w o):=Oi
 rw[e]
 unfold p9 DN
 cases ho:s.dr.ov
 ·have:lM (hQ w o) 1=true:=by unfold lM;simp only[Bool.and_eq_true,decide_eq_true_eq];omega
  rw[this];rfl
 ·simp[ho]
def CZ (s:Cn):Prop:=(s.dr.ov=true\/s.ine=0)/\s.inb.length<=300
theorem Mx {s':Cn} (h:CZ s) (he:oV s'=oV s) (ho:s.dr.ov=true->s'.dr.ov=true):CZ s':=by
 have e1:s'.ine=s.ine:=congrArg Prod.fst he
 have e2:s'.inb=s.inb:=congrArg Prod.snd he
 unfold CZ
 rw[e1,e2]
 exact⟨h.1.elim (fun q=>.inl (ho q)) .inr,h.2⟩
theorem Y4 (h:CZ s):CZ (kC u s):=by
 unfold kC
 split
 ·rename_i ho
  exact⟨.inl ho,h.2⟩
 ·have h1:oV (eD (iC u (aD s)).1 (iC u (aD s)).2)=((pF (s.inb++u)).2.2,if(pF (s.inb++u)).2.2=0 then(pF (s.inb++u)).2.1 else []):=Ct
  have h2:(if(pF (s.inb++u)).2.2=0 then(pF (s.inb++u)).2.1 else []).length<=300:=by
   split
   ·rename_i h0;have:=Zf h0;omega
   ·simp
  split
  ·rename_i hq
   have e1:=congrArg Prod.fst h1
   have e2:=congrArg Prod.snd h1
   refine⟨hq.elim .inl fun q=>.inr ?_,?_⟩
   ·rw[<- q];exact e1
   ·show(oV (eD (iC u (aD s)).1 (iC u (aD s)).2)).2.length<=300
    rw[e2];exact h2
  ·refine⟨.inl (Df (by decide)),?_⟩
   show(oV (iD 0 _ _)).2.length<=300
   rw[j7,h1];exact h2
theorem Yy (hI:bR B s) (h:fM c s) (hB:B+u.length+300 * (pF (s.inb++u)).1.length<=250000000):fM c (kC u s):=by
 unfold kC
 split
 ·exact { h with }
 ·have h1:=Db (u:=u) hI (by omega)
  have hl:((pF (s.inb++u)).1.map F5).length=(pF (s.inb++u)).1.length:=List.length_map ..
  have hB2:B+u.length+300 * ((((pF (s.inb++u)).1.map F5).length:Nat):Int)<=250000000:=by rw[hl];exact hB
  have h2:=AJ (fs:=(iC u (aD s)).1) h1 Ce hB2
  have h3:=Fy (c:=c) (fs:=(iC u (aD s)).1) h1 { h with } Ce hB2
  split
  ·exact h3
  ·exact gT h2 h3
theorem cI (h:fM c s):fM c (aD s):= { h with }
theorem Af8 (h:OZ c g m):OZ c g (zN m d):=by
 obtain⟨h1,h2,h3,h4⟩:=h
 unfold zN
 split
 ·refine⟨h1,?_,?_,?_⟩
  ·show Zb c (zI m.x d)
   cases hx:m.x with
   |b z=>rw[hx] at h2;exact h2
   |i z=>
    rw[hx] at h2
    show((if z.en=true\/256<d.size then z else if z.l.length<z.cap then { z with l:=z.l++ [d],ac:=z.ac+1 } else if z.st=0 then z else if z.st=1\/z.cap=0 then { z with ac:=z.ac+1,dr:=z.dr+1 } else { z with l:=z.l.tail++ [d],ac:=z.ac+1,dr:=z.dr+1 }).cap:Int)<=c.si
    repeat' split
    all_goals exact h2
  ·show bA (zI m.x d)=jH m.y
   rw[<- h3]
   cases hx:m.x <;> rfl
  ·show xSz (zI m.x d)
   cases hx:m.x with
   |b z=>trivial
   |i z=>
    rw[hx] at h4
    show ∀y∈(if z.en=true\/256<d.size then z else if z.l.length<z.cap then { z with l:=z.l++ [d],ac:=z.ac+1 } else if z.st=0 then z else if z.st=1\/z.cap=0 then { z with ac:=z.ac+1,dr:=z.dr+1 } else { z with l:=z.l.tail++ [d],ac:=z.ac+1,dr:=z.dr+1 }).l,y.size<=256
    split
    ·exact h4
    ·rename_i hd
     have hd:d.size<=256:=by omega
     have ap:∀ {l:List ByteArray},(∀y∈l,y.size<=256)->∀y∈l++ [d],y.size<=256:=fun hl y hy=>by
      rcases List.mem_append.1 hy with hy|hy
      ·exact hl y hy
      ·rw[List.mem_singleton.1 hy];exact hd
     repeat' split
     ·exact ap h4
     ·exact h4
     ·exact h4
     ·exact ap fun y hy=>h4 y (List.mem_of_mem_tail hy)
 ·exact⟨h1,h2,h3,h4⟩
theorem Agu (h:OZ c g m):OZ c g (E7 m):=by
 obtain⟨h1,h2,h3,h4⟩:=h
 unfold E7
 split
 ·refine⟨h1,?_,?_,?_⟩
  ·show Zb c (R6 m.x)
   cases hx:m.x with
   |b z=>rw[hx] at h2;exact h2
   |i z=>rw[hx] at h2;exact h2
  ·show bA (R6 m.x)=jH m.y
   rw[<- h3]
   cases hx:m.x <;> rfl
  ·show xSz (R6 m.x)
   cases hx:m.x with
   |b z=>trivial
   |i z=>rw[hx] at h4;exact h4
 ·exact⟨h1,h2,h3,h4⟩
theorem Uj {y:Ys} (h:OZ c g m) (h1:Im g y) (h2:jH y=jH m.y):OZ c g { m with y:=y }:=⟨h1,h.x,h.ok.trans h2.symm,h.sz⟩
theorem VW:bA (zN m d).x=bA m.x:=by
 unfold zN
 split
 ·show bA (zI m.x d)=_
  cases m.x <;> rfl
 ·rfl
theorem W9:bA (E7 m).x=bA m.x:=by
 unfold E7
 split
 ·show bA (R6 m.x)=_
  cases m.x <;> rfl
 ·rfl
theorem Aj6:kb (zN m d)=kb m:=by
 unfold zN kb
 split
 ·show(if bA (zI m.x d)=1 then gH m.y else 0)=_
  cases hx:m.x <;> rfl
 ·rfl
theorem Ajo:kb (E7 m)=kb m:=by
 unfold E7 kb
 split
 ·show(if bA (R6 m.x)=1 then gH m.y else 0)=_
  cases hx:m.x <;> rfl
 ·rfl
theorem Afx {y:Ys} (h:Im g y):Im g (Es y n):=by cases y <;> exact h
theorem Aft {y:Ys} (h:Im g y):Im g (Ng y):=by
 cases y with
 |b y=>exact h
 |i y=>unfold Ng;dsimp only;split <;> exact h
theorem Aby {y:Ys} (h:Im g y):Im g (SI y n):=by
 cases y with
 |b y=>exact h
 |i y=>unfold SI;dsimp only;split <;> exact h
theorem WY (h:fM c s):fM c (nH id d s):=by
 unfold nH
 split
 ·exact cI h
 ·split
  ·rename_i m hm
   obtain⟨hi,hmid⟩:=aX hm
   rw[fS (id:=id) (AZ.trans hmid)]
   exact x5 (s:=aD s) (cI h) hi AZ NP (Af8 (h.mo m (List.mem_of_getElem? hi))) (by rw[Aj6];exact Nat.le_refl _) VW
  ·exact h
theorem Ad9 (h:fM c s):fM c (FE id s):=by
 unfold FE
 split
 ·exact cI h
 ·split
  ·rename_i m hm
   obtain⟨hi,hmid⟩:=aX hm
   rw[fS (id:=id) (Gm.trans hmid)]
   exact x5 (s:=aD s) (cI h) hi Gm OU (Agu (h.mo m (List.mem_of_getElem? hi))) (by rw[Ajo];exact Nat.le_refl _) W9
  ·exact h
theorem Amd (hk:bA m.x=jH m.y) (hE:OV m.y=0):kb ({ m with y:=Es m.y n }:Sm)+(BN m.y n).size=kb m:=by
 unfold kb
 cases hy:m.y with
 |b z=>
  rw[hy] at hk
  have hk:bA m.x=1:=hk
  have e:(BN (.b z) n).size=min (L3 z n) z.bs.length:=by
   show((z.bs.take (L3 z n)).toArray).size=_
   simp
  simp only[if_pos hk,Es,gH,List.length_drop]
  rw[e];omega
 |i z=>rw[hy] at hE;cases hE
theorem Z7 (hI:bR B s) (h:fM c s):fM c (pU id n s):=by
 unfold pU
 split
 ·exact cI h
 ·split
  ·rename_i m hm
   obtain⟨hi,hmid⟩:=aX hm
   split
   ·exact cI h
   ·rename_i hE
    have hE:OV m.y=0:=by simpa using hE
    have hmo:=h.mo m (List.mem_of_getElem? hi)
    rw[fS (id:=id) (show({ m with y:=Es m.y n }:Sm).id=id from hmid)]
    have hI2:bR B { ({ aD s with rv:=d8 s.rv ((BN m.y n).size:Nat) }:Cn) with l:=s.l.set (cB id s.l) { m with y:=Es m.y n } }:=mA (s:= { aD s with rv:=d8 s.rv ((BN m.y n).size:Nat) }) (nE (bK hI)) hi rfl rfl (Sx (hI.st m (List.mem_of_getElem? hi)))
    have hkb:=Amd (n:=n) hmo.ok hE
    have hset:=Lg (m':= { m with y:=Es m.y n }) hi
    have hkp:=h.kp
    have h1:fM c { aD s with l:=s.l.set (cB id s.l) { m with y:=Es m.y n } }:=x5 (s:=aD s) (cI h) hi rfl rfl (Uj hmo (Afx hmo.y) Ahq) (by omega) rfl
    have h2:=My (s:= { aD s with l:=s.l.set (cB id s.l) { m with y:=Es m.y n } }) (k:=((BN m.y n).size:Nat)) h1 (by show _+s.rv.us+xA (s.l.set (cB id s.l) { m with y:=Es m.y n })<=s.rv.got;omega) (by omega)
    exact DG hI2 { h2 with } (mM (m':= { m with y:=Es m.y n }) hm rfl)
  ·exact h
theorem Ab2 (hI:bR B s) (h:fM c s):fM c (zK id s):=by
 unfold zK
 split
 ·exact cI h
 ·split
  ·rename_i m hm
   obtain⟨hi,hmid⟩:=aX hm
   split
   ·exact cI h
   ·have hmo:=h.mo m (List.mem_of_getElem? hi)
    rw[fS (id:=id) (show({ m with y:=Ng m.y }:Sm).id=id from hmid)]
    have hI2:bR B { aD s with l:=s.l.set (cB id s.l) { m with y:=Ng m.y } }:=mA (s:=aD s) (bK hI) hi rfl rfl (Aci (hI.st m (List.mem_of_getElem? hi)))
    refine DG hI2 (x5 (s:=aD s) (cI h) hi rfl rfl (Uj hmo (Aft hmo.y) All) ?_ rfl) (mM (m':= { m with y:=Ng m.y }) hm rfl)
    unfold kb
    have hok:=hmo.ok
    cases hy:m.y with
    |b z=>exact Nat.le_refl _
    |i z=>
     rw[hy] at hok
     have hok:bA m.x=2:=hok
     simp[hok]
  ·exact h
theorem Aek (h:fM c s):fM c (Fv id n s):=by
 unfold Fv
 split
 ·exact cI h
 ·split
  ·rename_i m hm
   obtain⟨hi,hmid⟩:=aX hm
   have hmo:=h.mo m (List.mem_of_getElem? hi)
   rw[fS (id:=id) (show({ m with y:=SI m.y n }:Sm).id=id from hmid)]
   refine x5 (s:=aD s) (cI h) hi rfl rfl (Uj hmo (Aby hmo.y) Ajd) ?_ rfl
   unfold kb
   have hok:=hmo.ok
   cases hy:m.y with
   |b z=>exact Nat.le_refl _
   |i z=>
    rw[hy] at hok
    have hok:bA m.x=2:=hok
    simp[hok]
  ·exact h
theorem Aav (hI:bR B s) (h:fM c s):fM c (Ad id on w xx s):=by
 unfold Ad
 split
 ·exact cI h
 ·exact UH (s:= { aD s with out:=z8 (Fb id on w xx) s.out }) (tM (bK hI)) (AP (cI h) ⟨rfl,(by show(3:Int)≠10;decide),(by show(3:Int)≠11;decide)⟩)
theorem Xb (hI:bR B s) (h:fM c s):fM c (vM id n s):=by
 unfold vM
 split
 ·exact cI h
 ·split
  ·rename_i m hm
   exact DR (s:= { aD s with out:=z8 (nJ id n) s.out }) (tM (bK hI)) (AP (cI h) ⟨rfl,(by show(4:Int)≠10;decide),(by show(4:Int)≠11;decide)⟩) hm
  ·exact h
theorem JN {z:Dr}:(Lu z la).ov=z.ov:=by unfold Lu;split <;> rfl
theorem Ajf (h:fM c s):fM c (Of s):=by
 unfold Of
 split
 ·exact cI h
 ·exact { AP (f:=Ci s.la 0) (cI h) ⟨rfl,(by show(9:Int)≠10;decide),(by show(9:Int)≠11;decide)⟩ with
   cl:=fun ho=>h.cl (by rw[<- ho];exact JN.symm) }
theorem Yx (h:fM c s):fM c (FP t s):=by
 unfold FP
 split
 ·exact cI h
 ·obtain⟨h1,h2⟩:=h.hg
  unfold Nf at h1
  have hnf:=h.nf
  have e:(eR s.sh t).h=s.sh.h:=by unfold eR;split <;> rfl
  have eg:s.sh.g.w<=(eR s.sh t).g.w/\s.sh.g.st<=(eR s.sh t).g.st/\s.sh.g.it<=(eR s.sh t).g.it:=by
   unfold eR
   split
   ·simp only[M6];omega
   ·omega
  exact { AP (f:=B4 (Ix (wK s.sh) t)) (cI h) ⟨rfl,(by show(5:Int)≠10;decide),(by show(5:Int)≠11;decide)⟩ with
   mo:=fun m hm=>by
    obtain⟨q1,q2,q3,q4⟩:=h.mo m hm
    refine⟨?_,q2,q3,q4⟩
    show Im (eR s.sh t).g m.y
    cases hy:m.y with
    |b y=>rw[hy] at q1;have:y.most<=s.sh.g.w:=q1;show y.most<=_;omega
    |i y=>rw[hy] at q1;have:y.mr<=s.sh.g.it:=q1;show y.mr<=_;omega
   hg:=by
    refine⟨?_,fun z hz=>?_⟩
    ·show Nf (eR s.sh t).h (eR s.sh t).g
     rw[e];unfold Nf;omega
    ·show Nf z (eR s.sh t).g
     have hz:z∈(eR s.sh t).l:=hz
     by_cases hq:i8 s.sh t=0
     ·have el:(eR s.sh t).l=s.sh.l++ [t]:=by unfold eR;rw[if_pos hq]
      have eg2:(eR s.sh t).g=M6 s.sh.g t:=by unfold eR;rw[if_pos hq]
      rw[el] at hz
      rcases List.mem_append.1 hz with hz|hz
      ·have:=h2 z hz
       unfold Nf at this ⊢;omega
      ·rw[List.mem_singleton.1 hz,eg2]
       unfold Nf;simp only[M6];omega
     ·have el:eR s.sh t=s.sh:=by unfold eR;rw[if_neg hq]
      rw[el] at hz ⊢;exact h2 z hz
   nf:=by
    show(fJ s false:Int)<=(eR s.sh t).g.st
    omega }
theorem Yu (hI:bR B s) (h:fM c s):fM c (pT kind sg on w xx s):=by
 unfold pT
 split
 ·exact cI h
 ·rename_i hE
  have hE:j2 kind sg on w xx s=0:=by simpa using hE
  obtain⟨e1,e2,e3,e4,e5,e6,e7,e8,e9⟩:=CV hE
  have h1:=AP (f:=q6 s.nx kind on w xx) (cI h) ⟨rfl,(by show(2:Int)≠10;decide),(by show(2:Int)≠11;decide)⟩
  exact UO (s:= { aD s with nx:=s.nx+2,out:=z8 (q6 s.nx kind on w xx) s.out }) (IP (tM (f:=q6 s.nx kind on w xx) (bK hI)) e5) { h1 with } (Et hI e5) (show s.l.length<64 from Mi hI (by omega)) ⟨by have:=hI.nx;omega,e5⟩ e1 (fun q=>by cases q)
theorem SU:(kT m s).dr=s.dr:=by unfold kT;split <;> rfl
theorem Vz (h:CZ s):CZ (nH id d s):=by
 unfold nH
 split
 ·exact h
 ·split <;> exact h
theorem Age (h:CZ s):CZ (FE id s):=by
 unfold FE
 split
 ·exact h
 ·split <;> exact h
theorem Aa9 (h:CZ s):CZ (pU id n s):=by
 unfold pU
 split
 ·exact h
 ·split
  ·split
   ·exact h
   ·exact Mx (s:=s) h AW fun ho=>by rw[SU];exact ho
  ·exact h
theorem Zg (h:CZ s):CZ (zK id s):=by
 unfold zK
 split
 ·exact h
 ·split
  ·split
   ·exact h
   ·exact Mx (s:=s) h AW fun ho=>by rw[SU];exact ho
  ·exact h
theorem Afu (h:CZ s):CZ (Fv id n s):=by
 unfold Fv
 split
 ·exact h
 ·split <;> exact h
theorem Abd (h:CZ s):CZ (Ad id on w xx s):=by unfold Ad;split <;> exact h
theorem Wk (h:CZ s):CZ (vM id n s):=by
 unfold vM
 split
 ·exact h
 ·split <;> exact h
theorem Ajq (h:CZ s):CZ (Of s):=by
 unfold Of
 split
 ·exact h
 ·exact Mx (s:=s) h rfl fun ho=>by show(Lu s.dr s.la).ov=true;rw[JN];exact ho
theorem Yh (h:CZ s):CZ (FP t s):=by unfold FP;split <;> exact h
theorem Ab3 (h:CZ s):CZ (pT kind sg on w xx s):=by unfold pT;split <;> exact h
end Go.Proofs.YtffnpejdkkohcaaGreat
