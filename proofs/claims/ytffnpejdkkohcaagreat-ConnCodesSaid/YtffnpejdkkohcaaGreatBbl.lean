/- A part of the proof: lemmas; each with the conditions that it states. -/
import Derived.Test.YtffnpejdkkohcaaGreatBbm
import Derived.Test.YtffnpejdkkohcaaGreatBbk
set_option linter.unusedVariables false
set_option linter.unusedSimpArgs false
set_option maxRecDepth 100000
set_option maxHeartbeats 40000000
namespace Go.Proofs.YtffnpejdkkohcaaGreat
open Go Go.Proofs Go.Sl
variable {c' s0 s2 b b' s1 a a':Cn} {x':Rc} {m m':Sm} {id k w o B co code st nx nx' la on Q P:Int} {f g:Fm} {l:List Sm} {L':List fD} {cf:Cf} {i:Nat} {z:Ld} {gone:Bool} {xs T S Ta Tb gl:List Fm} {t:dI} {d:ByteArray}
section
variable {c:Cn} {x:Rc} {s s':Rs} {r:List Rs} {L:List fD}
theorem Amh (hm:RS L m s) (hid:m.id=s'.id) (hn:s'=s):RS L m s':=by rw[hn];exact hm
theorem Akn {l:List Rs} (hp:l.Pairwise fun a b=>a.id<b.id) {e e':Rs} (h1:e∈l) (h2:e'∈l) (h:e.id=e'.id):e=e':=by
 obtain⟨i,hi⟩:=List.getElem?_of_mem h1
 obtain⟨j,hj⟩:=List.getElem?_of_mem h2
 obtain⟨i1,rfl⟩:=List.getElem?_eq_some_iff.1 hi
 obtain⟨j1,rfl⟩:=List.getElem?_eq_some_iff.1 hj
 have hq:=List.pairwise_iff_getElem.1 hp
 rcases Nat.lt_trichotomy i j with q|q|q
 ·have:=hq i j i1 j1 q;omega
 ·subst q;rfl
 ·have:=hq j i j1 i1 q;omega
theorem VP (hI:bR B c) (hk:fM cf c) (h:CR c x) (ht:f.t=10\/f.t=11) (hn0:0<=f.n/\f.n<=2147483647) (hst:1<=f.st/\f.st<=2147483647) (hm:bX f.st c.l=some m) (hs:zR f.st x.l=some s) (hR:RS c.ld.l m s) (hsm0:s∈x.l) (hid:s.id=f.st):SM (kG f m c) (LE f s x):=by
 obtain⟨hi,hmid⟩:=aX hm
 have wr:∀ {w:Int},Js w=false->0<=hQ w 0/\hQ w 0<=2147483647->SM (iM w f.st c) (tA f.st x):=fun h1 h2=>IQ hI hk h h1 hst h2
 unfold kG LE
 rw[hR.k]
 by_cases hq:(s.k=1)≠(f.t=10)
 ·rw[if_pos hq,if_pos (.inr hq)]
  exact wr (by decide) (by decide)
 rw[if_neg hq]
 by_cases hn:f.n=0
 ·rw[if_pos hn,if_pos (.inl hn)]
  exact wr (by decide) (by decide)
 rw[if_neg hn,if_neg (show ¬(f.n=0\/((s.k=1)≠(f.t=10))) from fun q=>q.elim hn hq)]
 have hks:s.k=1\/s.k=2:=by
  rw[<- hR.k]
  cases m.x
  ·exact .inl rfl
  ·exact .inr rfl
 rcases hks with h1|h1
 ·rw[if_pos h1,if_neg (show ¬s.k=2 by omega)]
  obtain⟨e,p1,p2,p3⟩:=hR.n h1
  have hst0:f.st≠0:=by omega
  have hat:∃e2,lS f.st c.ld.l=some e2:=by
   have h2:=(IY hI.ld (j:=f.st)).2 (by rw[<- hid,<- p2];exact List.mem_map_of_mem p1)
   cases ha:lS f.st c.ld.l with
   |none=>rw[ha] at h2;cases h2
   |some e2=>exact⟨e2,rfl⟩
  obtain⟨e2,ha⟩:=hat
  obtain⟨g1,g2⟩:=mW (s:=c.ld) ha
  have he:e2=e:=Ul hI.ld.2.1 (List.mem_of_getElem? g1) p1 (by rw[g2,p2,hid])
  subst he
  have hE:l6 f.st f.n c.ld=j5 s.n f.n:=by
   unfold l6
   rw[if_neg hst0,ha]
   dsimp only
   rw[p3]
  rw[hE]
  by_cases hg:j5 s.n f.n≠0
  ·rw[if_pos hg,if_pos hg]
   exact wr (by decide) (by decide)
  ·rw[if_neg hg,if_neg hg]
   left
   have hld:j8 f.st f.n c.ld= { c.ld with l:=c.ld.l.set (lE f.st c.ld.l) ⟨e2.id,gA e2.n f.n,e2.sp⟩ }:=by
    unfold j8
    rw[if_neg hst0,ha]
   have hlt:=(List.getElem?_eq_some_iff.1 g1).1
   have hRS:RS (c.ld.l.set (lE f.st c.ld.l) ⟨e2.id,gA e2.n f.n,e2.sp⟩) m { s with n:=gA s.n f.n }:= {
    id:=hR.id
    own:=hR.own
    k:=hR.k
    ok:=hR.ok
    sta:=hR.sta
    yb:=hR.yb
    yi:=hR.yi
    n:=fun _=>⟨_,List.mem_iff_getElem?.2 ⟨lE f.st c.ld.l,List.getElem?_set_self hlt⟩,p2,by rw[p3]⟩
    nb:=fun q=>absurd h1 q }
   have hsub:∀e∈c.ld.l,e.id≠f.st->e∈c.ld.l.set (lE f.st c.ld.l) ⟨e2.id,gA e2.n f.n,e2.sp⟩:=fun e he hne=>by
    obtain⟨j,hj⟩:=List.getElem?_of_mem he
    have hij:lE f.st c.ld.l≠j:=fun q=>by
     rw[<- q,g1] at hj
     exact hne (by rw[<- Option.some.inj hj];exact g2)
    exact List.mem_iff_getElem?.2 ⟨j,by rw[List.getElem?_set_ne hij];exact hj⟩
   have hset:=Rf (L:=c.ld.l) (x:=x) hI hm h.l hRS hmid hsub
   have hid2:c.l.set (cB f.st c.l) m=c.l:=by
    have:=(List.getElem?_eq_some_iff.1 hi)
    obtain⟨q1,q2⟩:=this
    rw[<- q2]
    exact List.set_getElem_self q1
   rw[hid2] at hset
   exact { h with
    l:=by
     show RL (j8 f.st f.n c.ld).l c.l _
     rw[hld]
     exact hset
    n0:=by
     show(j8 f.st f.n c.ld).n0=x.sd
     rw[hld];exact h.n0 }
 ·rw[if_neg (show ¬s.k=1 by omega),if_pos h1]
  obtain⟨y,hy⟩:∃y,m.x=.i y:=by
   cases hh:m.x with
   |b y=>have:=hR.k;rw[hh,h1] at this;cases this
   |i y=>exact⟨y,rfl⟩
  have hw:Cv m.x f.n=0:=by rw[hy];show(if 1<=f.n then(0:Int) else 2)=0;rw[if_pos (by omega)]
  rw[if_neg (by rw[hw];decide)]
  left
  have hkw:bA (mF m.x f.n)=bA m.x:=by rw[hy];rfl
  have hRS:RS c.ld.l { m with x:=mF m.x f.n } s:= {
   id:=hR.id
   own:=hR.own
   k:=hkw.trans hR.k
   ok:=hkw.trans hR.ok
   sta:=hR.sta
   yb:=hR.yb
   yi:=hR.yi
   n:=hR.n
   nb:=hR.nb }
  have hset:=Rf (L:=c.ld.l) (x:=x) hI hm h.l hRS hmid fun e he _=>he
  have hsm:(x.l.map fun z=>if z.id=s.id then s else z)=x.l:=by
   have hids:=h.l.ids
   have hp:(x.l.map Rs.id).Pairwise fun a b=>a<b:=by
    rw[<- hids]
    exact List.pairwise_map.2 hI.sm.2
   have hp:=List.pairwise_map.1 hp
   have:x.l.map (fun z=>z)=x.l:=List.map_id' _
   refine(List.map_congr_left fun z hz=>?_).trans this
   by_cases hzi:z.id=s.id
   ·rw[if_pos hzi]
    exact(Akn hp hz hsm0 hzi).symm
   ·rw[if_neg hzi]
  rw[hsm] at hset
  exact { h with
   l:=by
    show RL c.ld.l (c.l.set (cB m.id c.l) { m with x:=mF m.x f.n }) x.l
    rw[show cB m.id c.l=cB f.st c.l by rw[hmid]]
    exact hset }
theorem W7 (hI:bR B c) (hk:fM cf c) (h:CR c x) (hr:bV f) (ht:f.t=3\/f.t=4\/f.t=10\/f.t=11) (h0:f.st≠0):SM (jI f c) (QQ f x):=by
 obtain⟨r1,r2,r3,r4,r5,r6,r7,r8,r9,r10,r11,r12,r13,r14,r15,r16,r17,r18,r19,r20,r21⟩:=hr
 have hst:1<=f.st/\f.st<=2147483647:=by omega
 unfold jI QQ
 by_cases h3:f.t=3/\f.on=f.st
 ·rw[if_pos h3,if_pos h3]
  exact .inr (rS hI h.ov (by decide) (by decide) h.la)
 rw[if_neg h3,if_neg h3]
 cases hm:bX f.st c.l with
 |none=>
  rw[CR.none hI h hm]
  exact .inl h
 |some m=>
  obtain⟨s,s1,s2,s3,s4⟩:=CR.some hI h hm
  rw[s1]
  dsimp only
  by_cases ht3:f.t=3
  ·rw[if_pos ht3,if_pos ht3]
   exact .inl { h with }
  rw[if_neg ht3,if_neg ht3]
  by_cases ht4:f.t=4
  ·rw[if_pos ht4,if_pos ht4]
   exact .inl (T3 hI hk h hm)
  rw[if_neg ht4,if_neg ht4]
  exact VP hI hk h (by omega) ((gI _).1 r20) hst hm s1 s2 s3 s4
theorem Ac7 (hI:bR B c) (hB:B+300<=250000000) (hk:fM cf c) (h:CR c x) (hr:bV f):SM (bM f c) (SE f i x):=by
 have hr':=hr
 obtain⟨r1,r2,r3,r4,r5,r6,r7,r8,r9,r10,r11,r12,r13,r14,r15,r16,r17,r18,r19,r20,r21⟩:=hr
 have hr:=hr'
 unfold bM
 have hI1:=f8 hI
 have hk1:fM cf { c with bt:=bN c.bt c.now }:= { hk with }
 have h1:CR { c with bt:=bN c.bt c.now } x:= { h with }
 generalize ({ c with bt:=bN c.bt c.now }:Cn)=b at hI1 hk1 h1
 unfold SE
 by_cases t2:f.t=2
 ·rw[if_pos t2]
  have e:eM f b=kY f b:=by
   unfold eM
   rw[if_neg (by omega),if_neg (by omega),if_neg (by omega),if_neg (by omega),if_neg (by omega),if_pos t2]
  exact e▸Zc hI1 hk1 h1 hr t2
 rw[if_neg t2]
 unfold eM
 by_cases t5:f.t=5
 ·rw[if_pos t5,if_pos t5]
  exact ZH hI1 hk1 h1 hr
 rw[if_neg t5,if_neg t5]
 by_cases t6:f.t=6
 ·rw[if_pos t6,if_pos t6]
  exact Agy hI1 h1
 rw[if_neg t6,if_neg t6]
 by_cases t7:f.t=7
 ·rw[if_pos t7,if_pos t7]
  have hf:l7 (qQ 8 0 f.d false)=true:=by
   refine(lT _).2 ?_
   have h3:y8 0=true:=by decide
   have h4:BF []=true:=Rb rfl
   have h5:=r14 (.inl t7)
   unfold bV jB qQ
   simp[h3,h4,u5,h5]
  exact Gl (f:=qQ 8 0 f.d false) hI1 h1 hf (by show(2:Int)<=8/\(8:Int)≠10/\(8:Int)≠11;decide)
 rw[if_neg t7,if_neg t7]
 by_cases t8:f.t=8
 ·rw[if_pos t8,if_pos t8]
  exact .inl { h1 with }
 rw[if_neg t8,if_neg t8]
 by_cases t9:f.t=9
 ·rw[if_pos t9,if_pos t9]
  exact Abw hI1 h1 hr
 rw[if_neg t9,if_neg t9,if_neg t2]
 by_cases h0:f.st=0
 ·rw[if_pos h0,if_pos h0]
  exact UR hI1 h1
 rw[if_neg h0,if_neg h0]
 have hp:rI b f.st=false↔f.st % 2≠1\/x.la<f.st:=by
  unfold rI
  rw[h1.sd.1,h1.sd.2,h1.la]
  constructor
  ·intro q
   apply Classical.byContradiction
   intro hc
   have:=Acl.2 (show 1<=f.st/\f.st<=2147483647/\f.st % 2=1/\f.st<=x.la by omega)
   rw[q] at this;cases this
  ·intro q
   cases hb:jV 1 2 x.la f.st
   ·rfl
   ·have:=Acl.1 hb;omega
 by_cases hq:rI b f.st=false
 ·rw[if_pos hq,if_pos (hp.1 hq)]
  exact .inr (rS hI1 h1.ov (by decide) (by decide) h1.la)
 rw[if_neg hq,if_neg (fun q=>hq (hp.2 q))]
 by_cases t01:f.t=0\/f.t=1
 ·rw[if_pos t01,if_pos (by omega)]
  exact Zl hI1 hB hk1 h1 hr t01
 ·rw[if_neg t01,if_neg (by omega)]
  exact W7 hI1 hk1 h1 hr (by omega) h0
end
section
variable {s s':Cn} {sd n:Int}
def psI (ps:List Pr):Prop:=∀p∈ps,0<=p.v/\p.v<=4096
structure FO (sd nx la:Int) (f:Fm):Prop where
 r:bV f
 c:Afa f
 op:f.t=2->lH sd la f.st=0/\f.on≠f.st
 pr:f.t=3->f.on≠f.st
 se:f.t=5->psI f.ps
 go:f.t=9->f.c=0
 wh:f.t=10->1<=f.n
 pa:f.st≠0->f.t≠2->jV sd nx la f.st=true
theorem Xd (h:jV sd nx la st=true) (hn:nx<=nx'):jV sd nx' la st=true:=by
 unfold jV at *
 simp only[Bool.and_eq_true,decide_eq_true_eq] at *
 refine⟨h.1,?_⟩
 have h2:=h.2
 split at h2
 ·rename_i hq;rw[if_pos hq];simp only[decide_eq_true_eq] at *;omega
 ·rename_i hq;rw[if_neg hq];exact h2
theorem FO.mono (h:FO sd nx la f) (hn:nx<=nx'):FO sd nx' la f:= { h with pa:=fun h1 h2=>Xd (h.pa h1 h2) hn }
structure An (b:Cn) (la:Int) (f g:Fm):Prop where
 r:bV g
 c:Afa g
 t:g.t=4/\jV b.sd b.nx la g.st=true\/(g.t=6/\f.t=5\/g.t=8)/\g.st=0
end
section
variable {s s':Cn} {n c L sd:Int} {x:Bool}
theorem XR (hc:l7 f=true) (ht:¬f.t<2) (hl:¬64<=xs.length):CN f xs=0:=by
 unfold CN
 rw[if_neg (by rw[hc];decide),if_neg ht]
 split
 ·rfl
 ·first|rfl|exact if_neg hl
theorem Li {P:Pr->Prop} {i u v:Int} {l:List Pr} (h:∀p∈l,P p) (hv:P ⟨i,v⟩):∀p∈I2 i u v l,P p:=by
 unfold I2
 split
 ·exact h
 ·intro p hp
  rcases List.mem_append.1 hp with hp|hp
  ·exact h p hp
  ·rw[List.mem_singleton.1 hp];exact hv
theorem Vj {u:dI} (h:qF t):bV (B4 (Ix u t))/\psI (Ix u t):=by
 unfold qF pP at h
 rw[decide_eq_true_eq] at h
 have key:∀p∈Ix u t,(0<=p.i/\p.i<=65535)/\0<=p.v/\p.v<=4096:=by
  unfold Ix
  refine Li (Li (Li (fun p hp=>by cases hp) ?_) ?_) ?_ <;> (dsimp only;omega)
 have hps:BF (Ix u t)=true:=by
  unfold BF
  rw[List.all_eq_true]
  intro p hp
  have:=key p hp
  have h2:=(gI p.v).2 ⟨this.2.1,by omega⟩
  simp only[Bool.and_eq_true,decide_eq_true_eq]
  exact⟨this.1,h2⟩
 have hl:=UL (u:=u) (v:=t)
 refine⟨?_,fun p hp=>(key p hp).2⟩
 have h3:y8 0=true:=by decide
 have h5:(⟨#[]⟩:ByteArray)=ByteArray.empty:=rfl
 unfold bV jB B4
 simp[h3,h5,hps,u5]
 omega
end
section
variable {c:Cn} {x:Rc} {s s':Rs} {r:List Rs} {L:List fD}
theorem Aif (hR:bV f) (hC:Afa f):(pF (oU f).data.toList).1.map F5= [f]/\(pF (oU f).data.toList).2=([],0):=by
 obtain⟨s1,s2,s3⟩:=YL hR hC
 have hk:NN ((l9 f).size:Nat) f.t (qX f.e) f.st=true:=uG hR
 have hz:(oU f).size=9+(l9 f).size:=by rw[Lw,ByteArray.size_append,wA hk]
 have hfl:(oU f).data.toList.length=(oU f).size:=Array.length_toList
 have hbs:kO (oU f).data.toList=oU f:=Ak1 _
 have hn:Bn (kO (oU f).data.toList)=none:=by rw[hbs];exact s1
 have hdr:((oU f).data.toList).drop (9+sL (kO ((oU f).data.toList))).toNat= []:=by
  rw[hbs,s2]
  exact List.drop_eq_nil_of_le (by omega)
 rw[Dk hn,hdr,Ago,hbs]
 exact⟨by show [F5 (oU f)]= [f];rw[s3],rfl⟩
structure SV (cf:Cf) (k:Int) (c:Cn) (x:Rc):Prop where
 p:Gv cf (9300 * k) c
 inb:c.inb= []/\c.ine=0
 s:SM c x
theorem SV.start (h:Nu cf):SV cf 0 (mT 1 cf) (Alg ⟨cf.w,cf.st,cf.it⟩):=by
 refine⟨⟨0,Ip (.inr rfl) h,by show(0:Int)+34 * (0:Nat)<=_;omega⟩,⟨rfl,rfl⟩,.inl ?_⟩
 have hc:qF ⟨cf.w,cf.st,cf.it⟩:=h.s
 obtain⟨hr,hp⟩:=Vj (u:=nV) hc
 have h4:CN (B4 (Ix nV ⟨cf.w,cf.st,cf.it⟩)) []=0:=XR ((lT _).2 hr) (by show ¬(5:Int)<2;decide) (by decide)
 exact {
  ov:=rfl
  dr:=⟨rfl,rfl⟩
  cl:=⟨rfl,rfl⟩
  l:=trivial
  rv:=⟨rfl,rfl,rfl⟩
  n0:=rfl
  h:=rfl
  pe:=rfl
  w:=rfl
  la:=rfl
  o:=by
   show(z8 (B4 (Ix nV ⟨cf.w,cf.st,cf.it⟩)) []).map Fm.t= [5]
   rw[YD ⟨by show(5:Int)≠10;decide,by show(5:Int)≠11;decide⟩ h4];rfl
  sd:=⟨rfl,rfl⟩
  lst:=rfl }
theorem SV.recv (h:SV cf k c x) (hk:0<=k/\k<=200) (hx:x.cl=false) (hR:bV f):vL c=0/\SV cf (k+1) (kC (oU f).data.toList c) (SE f i x):=by
 have hC:CR c x:=h.s.resolve_right fun q=>by have:=q.cl;rw[hx] at this;cases this
 obtain⟨B,hG,hP⟩:=h.p
 obtain⟨hi,hine⟩:=h.inb
 have ho:=hC.ov
 have hl:=ZU hR
 have hul:(oU f).data.toList.length=(oU f).size:=Array.length_toList
 obtain⟨p1,p2⟩:=Aif (f:= { f with pa:=none,pc:=0,pn:=f.ps.length }) hR ⟨rfl,rfl,rfl⟩
 have p1:(pF (oU f).data.toList).1.map F5= [{ f with pa:=none,pc:=0,pn:=f.ps.length }]:=p1
 have p2:(pF (oU f).data.toList).2=([],0):=p2
 have hpr:=Abo (u:=(oU f).data.toList) h.p (by rw[hul];omega)
 rw[hul] at hpr
 refine⟨by unfold vL;rw[if_neg (by rw[ho];decide)],?_⟩
 have e0:c.inb++(oU f).data.toList=(oU f).data.toList:=by rw[hi];rfl
 have e1:iC (oU f).data.toList (aD c)=([{ f with pa:=none,pc:=0,pn:=f.ps.length }],{ aD c with inb:= [],ine:=0 }):=by
  have e0:(aD c).inb++(oU f).data.toList=(oU f).data.toList:=e0
  unfold iC
  rw[e0,p1,p2];rfl
 have hIs:=Db (u:=(oU f).data.toList) hG.I (by rw[hul];omega)
 rw[e1] at hIs
 have hIs:bR (B+(oU f).data.toList.length) { aD c with inb:= [],ine:=0 }:=hIs
 have hKs:fM cf { aD c with inb:= [],ine:=0 }:= { cI hG.K with }
 have hCs:CR { aD c with inb:= [],ine:=0 } x:= { hC with }
 have hsim:=Ac7 (i:=i) (f:= { f with pa:=none,pc:=0,pn:=f.ps.length }) hIs (by rw[hul];omega) hKs hCs hR
 have e2:kC (oU f).data.toList c=bM { f with pa:=none,pc:=0,pn:=f.ps.length } { aD c with inb:= [],ine:=0 }:=by
  unfold kC
  rw[if_neg (by rw[ho];decide),e0,e1,p2,if_pos (.inr rfl)]
  show(if(bM _ _).dr.ov=true then _ else _)=_
  split <;> rfl
 have hpr:=hpr.mono (P':=9300 * (k+1)) (by omega)
 rw[e2] at hpr ⊢
 have h3:oV (bM { f with pa:=none,pc:=0,pn:=f.ps.length } { aD c with inb:= [],ine:=0 })=oV { aD c with inb:= [],ine:=0 }:=Ex
 exact⟨hpr,⟨congrArg Prod.snd h3,congrArg Prod.fst h3⟩,hsim⟩
theorem SV.tell (h:SV cf k c x):c.dr.ov=x.cl/\c.dr.co=x.co/\c.l.map Sm.id=x.l.map Rs.id/\c.out.map Fm.t=x.o:=by
 rcases h.s with q|q
 ·exact⟨q.ov.trans q.cl.1.symm,q.dr.2.trans q.cl.2.symm,q.l.ids,q.o⟩
 ·exact⟨q.ov.trans q.cl.symm,q.co,by rw[q.l.1,q.l.2];rfl,by rw[q.o.1,q.o.2];rfl⟩
theorem SV.last (h:SV cf k c x) (hx:x.cl=true):(eN c).1= []\/(eN c).1=(oU (Ci x.la x.co)).data.toList:=by
 have hC:CC c x:=h.s.resolve_left fun q=>by have:=q.cl.1;rw[hx] at this;cases this
 have e:(eN c).1=c.last.data.toList:=by unfold eN;rw[if_pos hC.ov]
 rw[e]
 rcases hC.lst with q|q
 ·rw[q];exact .inl rfl
 ·rw[q];exact .inr rfl
structure RcB (x:Rc):Prop where
 cl:x.cl=false
 l:x.l.Pairwise fun a b=>a.id<b.id
 len:x.l.length<=64
 o:x.o.length<=64
 w:∀t∈x.w,0<=t.w/\t.w<=4096
 h:0<=x.h.w/\x.h.w<=4096
 pe:0<=x.pe.w/\x.pe.w<=2147483647
 rv:(0<=x.gr/\x.gr<=900000000)/\(0<=x.got/\x.got<=900000000)/\0<=x.us/\x.us<=900000000
 sd:-2147483647<=x.sd/\x.sd<=2147483647
 b:∀s∈x.l,s.k=1->(0<=s.cap/\s.cap<=4096)/\(0<=s.gr/\s.gr<=900000000)/\0<=s.got/\s.got<=900000000
 n:∀s∈x.l,-2147483647<=s.n/\s.n<=2147483647
 k:∀s∈x.l,s.k=1\/s.k=2
theorem SV.bound (h:SV cf k c x) (hx:x.cl=false) (hF:∀m∈c.l,smF m):RcB x:=by
 have hC:CR c x:=h.s.resolve_right fun q=>by have:=q.cl;rw[hx] at this;cases this
 obtain⟨B,hG,hP⟩:=h.p
 have hI:=hG.I
 have hch:∀ {t:dI},qF t->0<=t.w/\t.w<=4096:=fun {t} q=>by
  unfold qF pP at q
  rw[decide_eq_true_eq] at q
  omega
 have hp:(x.l.map Rs.id).Pairwise fun a b=>a<b:=by
  rw[<- hC.l.ids]
  exact List.pairwise_map.2 hI.sm.2
 have hr:=hI.rv
 have hbb:=hI.bb
 unfold Ha at hr
 obtain⟨v1,v2,v3⟩:=hC.rv
 exact {
  cl:=hx
  l:=List.pairwise_map.1 hp
  len:=by rw[<- hC.l.len];exact hI.sm.1
  o:=by
   have h1:=hI.ou.1
   rw[<- hC.o,List.length_map];exact h1
  w:=fun t ht=>hch (hI.sh.2.2.2 t (by rw[hC.w];exact ht))
  h:=by rw[<- hC.h];exact hch hI.sh.2.1
  pe:=by rw[<- hC.pe];exact hI.pe.1
  rv:=by omega
  sd:=by rw[<- hC.n0];exact hI.ld.2.2.2.1
  b:=fun s hs hk=>by
   obtain⟨m,m1,m2⟩:=hC.l.m1.2 s hs
   have h1:=(hF m m1).2.1
   have hok:=m2.ok
   rw[m2.k,hk] at hok
   cases hy:m.y with
   |i y=>rw[hy] at hok;cases hok
   |b y=>
    obtain⟨b1,b2,b3,b4,b5,b6,b7⟩:=m2.yb y hy
    rw[hy] at h1
    have h1:RB y.cap y.most y.gr y.got y.us y.bs:=h1
    unfold RB at h1
    omega
  n:=fun s hs=>by
   obtain⟨m,m1,m2⟩:=hC.l.m1.2 s hs
   by_cases hk:s.k=1
   ·obtain⟨e,e1,e2,e3⟩:=m2.n hk
    rw[<- e3]
    exact(hI.ld.2.2.1 e e1).1
   ·have:=m2.nb hk;omega
  k:=fun s hs=>by
   obtain⟨m,m1,m2⟩:=hC.l.m1.2 s hs
   rw[<- m2.k]
   cases m.x
   ·exact .inl rfl
   ·exact .inr rfl }
end
end Go.Proofs.YtffnpejdkkohcaaGreat
