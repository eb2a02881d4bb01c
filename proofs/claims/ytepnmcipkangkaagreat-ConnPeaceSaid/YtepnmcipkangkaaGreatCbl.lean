/- A part of the proof: lemmas; each with the conditions that it states. -/
import Derived.Test.YtepnmcipkangkaaGreatCbn
set_option linter.unusedVariables false
set_option linter.unusedSimpArgs false
set_option maxRecDepth 100000
set_option maxHeartbeats 40000000
namespace Go.Proofs.YtepnmcipkangkaaGreat
open Go Go.Proofs Go.Sl
variable {s s1 s2 s' a' b b' z x' y:Cn} {id k n on la L st sd B Q k2 D G P P2:Int} {f g:Fm} {Ta Tb S T gl xs E bl bl2:List Fm} {t:dR} {d:ByteArray} {m:Sm} {Wx Wy u:List UInt8} {cf cf2:Cf}
section
variable {a:Cn} {c w:Int} {x:Bool}
structure Og (s:Cn) (g:Fm):Prop where
 r:bR g
 c:Ay g
 t:g.t=2/\g.st=s.nx/\s.nx<=2147483647/\g.on≠g.st\/g.t=3/\g.on≠g.st/\gI s.sd s.nx s.la g.st=true\/g.t=4/\gI s.sd s.nx s.la g.st=true\/g.t=5/\psI g.ps/\g.st=0\/g.t=9/\g.c=0/\g.st=0
structure Ow (s s':Cn) (g:Fm):Prop where
 og:Og s g
 sd:s'.sd=s.sd
 la:s'.la=s.la
 got:s'.rv.got=s.rv.got
 gr:s'.rv.gr=s.rv.gr
 sp:s'.ld.sp=s.ld.sp
 n0:s'.ld.n0=s.ld.n0
 pe:s'.pe=s.pe
 last:s'.last=s.last
 ti:s'.bt.ev=s.bt.ev/\s'.sl.li=s.sl.li
 nx:s'.nx=s.nx+(if g.t=2 then 2 else 0)
 sh:s'.sh.l.length=s.sh.l.length+(if g.t=5 then 1 else 0)
 out:s'.out=s.out++ [g]
 ov:s.dr.ov=false
 ov2:s'.dr.ov=false
 co:s'.dr.co=s.dr.co
 ln:∀e∈s'.ld.l,e∈s.ld.l\/e.n=s.pe.w/\e.id=s.nx/\g.t=2
theorem Ow.sb (h:Ow s s1 g) (h2:Sb s1 s2):Ow s s2 g:=
 { og:=h.og
   sd:=(congrArg Jn.sd h2.j).trans h.sd
   la:=(congrArg Jn.la h2.j).trans h.la
   got:=(congrArg Jn.got h2.j).trans h.got
   gr:=(congrArg Jn.gr h2.j).trans h.gr
   sp:=(congrArg Jn.sp h2.j).trans h.sp
   n0:=(congrArg Jn.n0 h2.j).trans h.n0
   pe:=(congrArg Jn.pe h2.j).trans h.pe
   last:=(congrArg Jn.last h2.j).trans h.last
   ti:=⟨(congrArg Jn.ev h2.j).trans h.ti.1,(congrArg Jn.li h2.j).trans h.ti.2⟩
   nx:=(congrArg Jn.nx h2.j).trans h.nx
   sh:=(congrArg (fun j=>j.sh.l.length) h2.j).trans h.sh
   out:=(congrArg Jn.out h2.j).trans h.out
   ov:=h.ov
   ov2:=h2.ov.trans h.ov2
   co:=(congrArg (fun j=>j.dr.co) h2.j).trans h.co
   ln:=fun e he=>h.ln e (h2.l e he) }
theorem mA:Sb s (aD s):=⟨rfl,fun _ h=>h⟩
theorem JB:Sb s (w4 m (aD s)):=⟨rfl,fun _ h=>h⟩
theorem Afc:Sb s (kY id d s):=by
 unfold kY
 split
 ·exact mA
 ·split
  ·exact JB
  ·exact Sb.rfl'
theorem Aoh:Sb s (xF id s):=by
 unfold xF
 split
 ·exact mA
 ·split
  ·exact JB
  ·exact Sb.rfl'
theorem Amb:Sb s (wR id n s):=by
 unfold wR
 split
 ·exact mA
 ·split
  ·exact JB
  ·exact Sb.rfl'
theorem Aj6:Sb s (mY id n s):=by
 unfold mY
 split
 ·exact mA
 ·split
  ·split
   ·exact mA
   ·exact Sb.trans (JB.trans Mf) Hm
  ·exact Sb.rfl'
theorem Ajj:Sb s (rJ id s):=by
 unfold rJ
 split
 ·exact mA
 ·split
  ·split
   ·exact mA
   ·exact JB.trans Hm
  ·exact Sb.rfl'
theorem Ahj:Sb s (s4 s):=⟨rfl,fun _ h=>h⟩
theorem Vs (h:cH s id=0):s.dr.ov=false/\∃m,bX id s.l=some m:=by
 unfold cH at h
 split at h
 ·exact absurd h (by decide)
 ·rename_i ho
  refine⟨by simpa using ho,?_⟩
  split at h
  ·rename_i m hm;exact⟨m,hm⟩
  ·split at h <;> exact absurd h (by decide)
theorem Ga (hI:bO B s) (h:bX id s.l=some m):gI s.sd s.nx s.la id=true:=by
 obtain⟨hi,hm⟩:=aS h
 rw[<- hm]
 exact hI.ids m (List.mem_of_getElem? hi)
theorem Mx (h:zA f xs=0):lZ f=true:=by
 cases hq:lZ f
 ·exact absurd h (by unfold zA;rw[if_pos hq];decide)
 ·rfl
theorem Jy (hc:lZ f=true) (ht:¬f.t<2) (hl:¬64<=xs.length):zA f xs=0:=by
 unfold zA
 rw[if_neg (by rw[hc];decide),if_neg ht]
 split
 ·rfl
 ·first|rfl|exact if_neg hl
theorem Aj0 (hI:bO B s):Sb s (pJ id on w x s)\/∃g,Ow s (pJ id on w x s) g:=by
 unfold pJ
 split
 ·exact .inl mA
 ·rename_i hq
  right
  have h1:cH s id=0:=Classical.byContradiction fun h=>hq (.inl h)
  have h3:on≠id:=fun h=>hq (.inr (.inr (.inl h)))
  have h4:zA (mX id on w x) s.out=0:=Classical.byContradiction fun h=>hq (.inr (.inr (.inr h)))
  have h2:=Mx h4
  obtain⟨ho,m,hm⟩:=Vs h1
  have hcr:Ay (mX id on w x):=⟨rfl,rfl,rfl⟩
  have e:wL (mX id on w x) s.out=s.out++ [mX id on w x]:=by
   rw[C7 ⟨by show(3:Int)≠10;decide,by show(3:Int)≠11;decide⟩ h4,z6 hcr]
  exact⟨mX id on w x,{
   og:=⟨(iX _).1 h2,hcr,.inr (.inl ⟨rfl,h3,Ga hI hm⟩)⟩
   sd:=rfl
   la:=rfl
   got:=rfl
   gr:=rfl
   sp:=rfl
   n0:=rfl
   pe:=rfl
   last:=rfl
   ti:=⟨rfl,rfl⟩
   nx:=(Int.add_zero _).symm
   sh:=rfl
   out:=e
   ov:=ho
   ov2:=ho
   co:=rfl
   ln:=fun e he=>.inl he }⟩
theorem Ad8 (hI:bO B s):Sb s (lU id c s)\/∃g,Ow s (lU id c s) g:=by
 unfold lU
 split
 ·exact .inl mA
 ·rename_i hq
  right
  have hq:kB id c s=0:=Classical.byContradiction hq
  have h1:cH s id=0/\zA (fM id c) s.out=0:=by
   unfold kB at hq
   split at hq
   ·rename_i h;exact absurd hq h
   ·rename_i h
    split at hq
    ·exact absurd hq (by decide)
    ·split at hq
     ·exact absurd hq (by decide)
     ·rename_i h4;exact⟨Classical.byContradiction h,Classical.byContradiction h4⟩
  obtain⟨ho,m,hm⟩:=Vs h1.1
  have h2:=Mx h1.2
  rw[hm]
  dsimp only
  have hcr:Ay (fM id c):=⟨rfl,rfl,rfl⟩
  have e:wL (fM id c) s.out=s.out++ [fM id c]:=by
   rw[C7 ⟨by show(4:Int)≠10;decide,by show(4:Int)≠11;decide⟩ h1.2,z6 hcr]
  refine⟨fM id c,Ow.sb (s1:= { aD s with out:=wL (fM id c) s.out }) {
   og:=⟨(iX _).1 h2,hcr,.inr (.inr (.inl ⟨rfl,Ga hI hm⟩))⟩
   sd:=rfl
   la:=rfl
   got:=rfl
   gr:=rfl
   sp:=rfl
   n0:=rfl
   pe:=rfl
   last:=rfl
   ti:=⟨rfl,rfl⟩
   nx:=(Int.add_zero _).symm
   sh:=rfl
   out:=e
   ov:=ho
   ov2:=ho
   co:=rfl
   ln:=fun e he=>.inl he } Hh⟩
theorem Ap2:Sb s (AT s)\/∃g,Ow s (AT s) g:=by
 unfold AT
 split
 ·exact .inl mA
 ·rename_i hq
  right
  have ho:s.dr.ov=false:=by
   cases h:s.dr.ov
   ·rfl
   ·exact absurd (.inl h) hq
  have h4:zA (zZ s.la 0) s.out=0:=Classical.byContradiction fun h=>hq (.inr (.inr h))
  have h2:=Mx h4
  have hcr:Ay (zZ s.la 0):=⟨rfl,rfl,rfl⟩
  have e:wL (zZ s.la 0) s.out=s.out++ [zZ s.la 0]:=by
   rw[C7 ⟨by show(9:Int)≠10;decide,by show(9:Int)≠11;decide⟩ h4,z6 hcr]
  exact⟨zZ s.la 0,{
   og:=⟨(iX _).1 h2,hcr,.inr (.inr (.inr (.inr ⟨rfl,rfl,rfl⟩)))⟩
   sd:=rfl
   la:=rfl
   got:=rfl
   gr:=rfl
   sp:=rfl
   n0:=rfl
   pe:=rfl
   last:=rfl
   ti:=⟨rfl,rfl⟩
   nx:=(Int.add_zero _).symm
   sh:=rfl
   out:=e
   ov:=ho
   ov2:=FQ.trans ho
   co:=by show(BI s.dr s.la).co=_;unfold BI;split <;> rfl
   ln:=fun e he=>.inl he }⟩
theorem N3 {P:Pr->Prop} {i u v:Int} {l:List Pr} (h:∀p∈l,P p) (hv:P ⟨i,v⟩):∀p∈J6 i u v l,P p:=by
 unfold J6
 split
 ·exact h
 ·intro p hp
  rcases List.mem_append.1 hp with hp|hp
  ·exact h p hp
  ·rw[List.mem_singleton.1 hp];exact hv
theorem KF {u:dR} (h:tC t):bR (vS (CX u t))/\psI (CX u t):=by
 unfold tC sD at h
 rw[decide_eq_true_eq] at h
 have key:∀p∈CX u t,(0<=p.i/\p.i<=65535)/\0<=p.v/\p.v<=4096:=by
  unfold CX
  refine N3 (N3 (N3 (fun p hp=>by cases hp) ?_) ?_) ?_ <;> (dsimp only;omega)
 have hps:Kh (CX u t)=true:=by
  unfold Kh
  rw[List.all_eq_true]
  intro p hp
  have:=key p hp
  have h2:=(oW p.v).2 ⟨this.2.1,by omega⟩
  simp only[Bool.and_eq_true,decide_eq_true_eq]
  exact⟨this.1,h2⟩
 have hl:=Nz (u:=u) (v:=t)
 refine⟨?_,fun p hp=>(key p hp).2⟩
 have h3:G5 0=true:=by decide
 have h5:(⟨#[]⟩:ByteArray)=ByteArray.empty:=rfl
 unfold bR sK vS
 simp[h3,h5,hps,CU]
 omega
theorem Akr (hI:bO B s):Sb s (tD t s)\/∃g,Ow s (tD t s) g:=by
 unfold tD
 split
 ·exact .inl mA
 ·rename_i hq
  right
  have ho:s.dr.ov=false:=by
   cases h:s.dr.ov
   ·rfl
   ·exact absurd (.inl h) hq
  have h6:¬64<=s.out.length:=fun h=>hq (.inr (.inl h))
  have h7:iE s.sh t=0:=Classical.byContradiction fun h=>hq (.inr (.inr h))
  have ht:tC t:=by
   unfold tC
   unfold iE at h7
   cases hc:sD t.w t.st t.it
   ·rw[if_pos hc] at h7;exact absurd h7 (by decide)
   ·rfl
  obtain⟨hr,hp⟩:=KF (u:=nD s.sh) ht
  have h2:=(iX _).2 hr
  have h4:zA (vS (CX (nD s.sh) t)) s.out=0:=Jy h2 (by show ¬(5:Int)<2;decide) h6
  have hcr:Ay (vS (CX (nD s.sh) t)):=⟨rfl,rfl,rfl⟩
  have e:wL (vS (CX (nD s.sh) t)) s.out=s.out++ [vS (CX (nD s.sh) t)]:=by
   rw[C7 ⟨by show(5:Int)≠10;decide,by show(5:Int)≠11;decide⟩ h4,z6 hcr]
  exact⟨vS (CX (nD s.sh) t),{
   og:=⟨hr,hcr,.inr (.inr (.inr (.inl ⟨rfl,hp,rfl⟩)))⟩
   sd:=rfl
   la:=rfl
   got:=rfl
   gr:=rfl
   sp:=rfl
   n0:=rfl
   pe:=rfl
   last:=rfl
   ti:=⟨rfl,rfl⟩
   nx:=(Int.add_zero _).symm
   sh:=by
    show(eC s.sh t).l.length=s.sh.l.length+1
    unfold eC
    rw[if_pos h7,List.length_append];rfl
   out:=e
   ov:=ho
   ov2:=ho
   co:=rfl
   ln:=fun e he=>.inl he }⟩
theorem Akw:Sb s (lF k n on w x s)\/∃g,Ow s (lF k n on w x s) g:=by
 by_cases hE:jP k n on w x s=0
 ·right
  have h:=hE
  unfold jP at h
  split at h
  ·exact absurd h (by decide)
  rename_i c1
  split at h
  ·exact absurd h (by decide)
  split at h
  ·exact absurd h (by decide)
  split at h
  ·exact absurd h (by decide)
  split at h
  ·exact absurd h (by decide)
  rename_i c5
  split at h
  ·exact absurd h (by decide)
  rename_i c6
  split at h
  ·exact absurd h (by decide)
  rename_i c7
  split at h
  ·exact absurd h (by decide)
  rename_i c8
  have hck:lZ (lV s.nx k on w x)=true:=by simpa using c6
  have ho:s.dr.ov=false:=by simpa using c1
  have h4:=Jy hck (by show ¬(2:Int)<2;decide) c8
  have hcr:Ay (lV s.nx k on w x):=⟨rfl,rfl,rfl⟩
  have e:wL (lV s.nx k on w x) s.out=s.out++ [lV s.nx k on w x]:=by
   rw[C7 ⟨by show(2:Int)≠10;decide,by show(2:Int)≠11;decide⟩ h4,z6 hcr]
  have e0:lF k n on w x s=GV s.nx k on w x true n { aD s with nx:=s.nx+2,out:=wL (lV s.nx k on w x) s.out }:=by
   unfold lF
   rw[if_neg (by rw[hE];decide)]
  obtain⟨o1,o2,o3⟩:=IU (id:=s.nx) (z:=s.ld) (n:=s.pe.w)
  rw[e0]
  exact⟨lV s.nx k on w x,{
   og:=⟨(iX _).1 hck,hcr,.inl ⟨rfl,rfl,by omega,c7⟩⟩
   sd:=rfl
   la:=rfl
   got:=rfl
   gr:=rfl
   sp:=by
    show(if k=1 then gM s.nx s.pe.w s.ld else s.ld).sp=_
    split
    ·exact o1
    ·rfl
   n0:=by
    show(if k=1 then gM s.nx s.pe.w s.ld else s.ld).n0=_
    split
    ·exact o2
    ·rfl
   pe:=rfl
   last:=rfl
   ti:=⟨rfl,rfl⟩
   nx:=rfl
   sh:=rfl
   out:=e
   ov:=ho
   ov2:=ho
   co:=rfl
   ln:=fun e he=>by
    have he:e∈(if k=1 then gM s.nx s.pe.w s.ld else s.ld).l:=he
    split at he
    ·rcases o3 e he with h|h
     ·exact .inl h
     ·exact .inr ⟨by rw[h],by rw[h],rfl⟩
    ·exact .inl he }⟩
 ·left
  unfold lF
  rw[if_pos hE]
  exact mA
theorem OT {N:Int}:∀ {S:List Fm} {la:Int},la<N->(∀f∈S,f.t=2->f.st<N)->w3 la S<N
 | [],_,h,_=>h
 |f::S,la,h,h2=>by
  show w3 (Az la f) S<N
  refine OT ?_ fun z hz=>h2 z (List.mem_cons_of_mem _ hz)
  unfold Az
  split
  ·rename_i ht;exact h2 f (List.mem_cons_self ..) ht
  ·exact h
theorem Og.fo (h:Og a g) (hI:bO B a) (hL:L<a.nx) (hn:a.nx<=L+2) (hla:a.la<b.nx) (hs:a.sd=1 - b.sd):FO b.sd b.nx L g:=by
 obtain⟨x1,x2,x3⟩:=hI.nx
 have hp:∀ {st:Int},gI a.sd a.nx a.la st=true->gI b.sd b.nx L st=true:=fun hq=>Gk hq hla hn hs hI.sd x3
 have ht:=h.t
 exact {
  r:=h.r
  c:=h.c
  op:=fun h2=>by
   rcases ht with⟨_,q2,q3,q4⟩|⟨q1,_⟩|⟨q1,_⟩|⟨q1,_⟩|⟨q1,_⟩
   ·refine⟨?_,q4⟩
    unfold nQ
    rw[if_pos]
    refine⟨?_,by omega⟩
    rw[<- hs,q2]
    unfold QY
    simp only[Bool.and_eq_true,decide_eq_true_eq,beq_iff_eq]
    exact⟨⟨x1,q3⟩,decide_eq_decide.2 x3⟩
   all_goals omega
  pr:=fun h3=>by
   rcases ht with⟨q1,_⟩|⟨_,q2,_⟩|⟨q1,_⟩|⟨q1,_⟩|⟨q1,_⟩
   ·omega
   ·exact q2
   all_goals omega
  se:=fun h5=>by
   rcases ht with⟨q1,_⟩|⟨q1,_⟩|⟨q1,_⟩|⟨_,q2,_⟩|⟨q1,_⟩
   ·omega
   ·omega
   ·omega
   ·exact q2
   ·omega
  go:=fun h9=>by
   rcases ht with⟨q1,_⟩|⟨q1,_⟩|⟨q1,_⟩|⟨q1,_⟩|⟨_,q2,_⟩
   all_goals omega
  wh:=fun h10=>by
   rcases ht with⟨q1,_⟩|⟨q1,_⟩|⟨q1,_⟩|⟨q1,_⟩|⟨q1,_⟩
   all_goals omega
  pa:=fun h0 h2=>by
   rcases ht with⟨q1,_⟩|⟨_,_,q2⟩|⟨_,q2⟩|⟨_,_,q2⟩|⟨_,_,q2⟩
   ·exact absurd q1 h2
   ·exact hp q2
   ·exact hp q2
   ·exact absurd q2 h0
   ·exact absurd q2 h0 }
theorem Og.rng (h:Og a g):2<=g.t/\g.t<=9/\g.t≠6:=by
 rcases h.t with⟨q1,_⟩|⟨q1,_⟩|⟨q1,_⟩|⟨q1,_⟩|⟨q1,_⟩ <;> omega
theorem VO:nT n (S++ [g])=nT n S+(if g.t=n then 1 else 0):=by rw[JV,fZ]
theorem HX.ownL (hI:bO B a) (h:HX k a b Ta Tb) (h2:HX k b a Tb Ta) (ho:Ow a a' g):HX k a' b Ta Tb:=by
 have hg:=ho.og.rng
 have hL:b.dr.ov=false->w3 b.la (Tb++a.out)<a.nx:=fun hb=>OT h2.la (h.hi hb)
 have hnx:=ho.nx
 exact {
  sq:=fun hb=>by
   rw[ho.out,<- List.append_assoc]
   exact u4.2 ⟨h.sq hb,ho.og.fo hI (hL hb) (h.nx hb) h.la h.sd,trivial⟩
  hi:=fun hb z hz hz2=>by
   rw[ho.out,<- List.append_assoc] at hz
   rcases List.mem_append.1 hz with hz|hz
   ·have:=h.hi hb z hz hz2
    rw[hnx];split <;> omega
   ·rw[List.mem_singleton.1 hz] at hz2 ⊢
    rw[hnx,if_pos hz2]
    rcases ho.og.t with⟨_,q2,_⟩|⟨q1,_⟩|⟨q1,_⟩|⟨q1,_⟩|⟨q1,_⟩ <;> omega
  nx:=fun hb=>by
   have h3:=h.nx hb
   rw[ho.out,<- List.append_assoc,FP,hnx]
   show _<=Az (w3 b.la (Tb++a.out)) g+2
   unfold Az
   split
   ·rename_i ht
    rcases ho.og.t with⟨_,q2,_⟩|⟨q1,_⟩|⟨q1,_⟩|⟨q1,_⟩|⟨q1,_⟩ <;> omega
   ·rename_i ht
    omega
  dt:=fun hb=>by rw[ho.sp];exact h.dt hb
  ak:=fun hb=>by
   have h3:=h.ak hb
   rw[ho.ov,if_neg Bool.false_ne_true] at h3
   rw[ho.ov2,if_neg Bool.false_ne_true,ho.out,<- List.append_assoc,VO,if_neg hg.2.2]
   exact h3
  la:=by rw[ho.la];exact h.la
  gr:=by
   have h3:=h.gr
   rw[ho.ov,if_neg Bool.false_ne_true] at h3
   rw[ho.ov2,if_neg Bool.false_ne_true,ho.sp,ho.n0]
   exact h3
  n0:=by rw[ho.n0];exact h.n0
  gs:=fun _=>h.gs ho.ov
  ln:=fun _ e he=>by
   rw[ho.pe]
   rcases ho.ln e he with h3|h3
   ·exact h.ln ho.ov e h3
   ·have:=h.gs ho.ov e.id
    have:=h3.1
    omega
  pe:=by rw[ho.pe];exact h.pe
  co:=ho.co.trans h.co
  lst:=ho.last.trans h.lst
  ti:=⟨ho.ti.1.trans h.ti.1,ho.ti.2.trans h.ti.2⟩
  oo:=fun hq=>by rw[ho.ov2] at hq;cases hq
  sd:=by rw[ho.sd];exact h.sd
  ot:=fun z hz=>by
   rw[ho.out] at hz
   rcases List.mem_append.1 hz with hz|hz
   ·exact h.ot z hz
   ·rw[List.mem_singleton.1 hz];omega }
theorem HX.ownR (h:HX k a b Ta Tb) (ho:Ow b b' g):HX k a b' Ta Tb:=by
 have hnx:=ho.nx
 have hnx2:b.nx<=b'.nx:=by rw[hnx];split <;> omega
 exact {
  sq:=fun _=>by rw[ho.sd,ho.la];exact RS hnx2 (h.sq ho.ov)
  hi:=fun _=>h.hi ho.ov
  nx:=fun _=>by rw[ho.la];exact h.nx ho.ov
  dt:=fun _=>by rw[ho.got];exact h.dt ho.ov
  ak:=fun _=>by
   have h3:=h.ak ho.ov
   have h4:=ho.sh
   rw[ho.out,<- List.append_assoc,VO]
   revert h3 h4
   cases a.dr.ov
   ·rw[if_neg Bool.false_ne_true,if_neg Bool.false_ne_true]
    intro h3 h4;omega
   ·rw[if_pos rfl,if_pos rfl]
    intro h3 h4
    split at h4 <;> omega
  la:=by have:=h.la;omega
  gr:=by rw[ho.gr];exact h.gr
  n0:=h.n0
  gs:=h.gs
  ln:=h.ln
  pe:=h.pe
  co:=h.co
  lst:=h.lst
  ti:=h.ti
  oo:=h.oo
  sd:=by rw[ho.sd];exact h.sd
  ot:=h.ot }
theorem HX.mono (hk:k<=k2) (h:HX k a b Ta Tb):HX k2 a b Ta Tb:=
 { h with
   gs:=fun ho id=>by have:=h.gs ho id;omega
   ln:=fun ho e he=>by have:=h.ln ho e he;omega }
end
section
variable {a:Cn} {w:Int} {x:Bool} {c:Cf} {q:xP} {l:List Sm}
theorem MF:∀ {S:List Fm},(∀g∈S,g.t≠0)->dS S=0
 | [],_=>rfl
 |g::S,h=>by
  rw[NI,if_neg (h g (List.mem_cons_self ..)),MF fun z hz=>h z (List.mem_cons_of_mem _ hz)];rfl
theorem Hc:∀ {S:List Fm},(∀g∈S,g.t≠10)->gS id S=0
 | [],_=>rfl
 |g::S,h=>by
  rw[wZ,if_neg (fun hq=>h g (List.mem_cons_self ..) hq.1),Hc fun z hz=>h z (List.mem_cons_of_mem _ hz)];rfl
def Xf (a:Cn) (g:Fm):Prop:=bR g/\Ay g/\(g.t=0\/g.t=1\/g.t=10\/g.t=11)/\(10<=g.t->1<=g.n)/\(g.st≠0->gI a.sd a.nx a.la g.st=true)
theorem Xf.fo (h:Xf a g) (hI:bO B a) (hn:a.nx<=L+2) (hla:a.la<b.nx) (hs:a.sd=1 - b.sd):g.t≠2/\FO b.sd b.nx L g:=by
 obtain⟨x1,x2,x3⟩:=hI.nx
 obtain⟨h1,h2,h3,h4,h5⟩:=h
 exact⟨by omega,h1,h2,by omega,by omega,by omega,by omega,fun h10=>h4 (by omega),fun h0 _=>Gk (h5 h0) hla hn hs hI.sd x3⟩
theorem WW {p q r:Int}:0<=rQ p q r/\(rQ p q r=0\/rQ p q r=p - (q - r)):=by
 unfold rQ
 split
 ·rename_i h;exact⟨by omega,.inr rfl⟩
 ·exact⟨Int.le_refl _,.inl rfl⟩
theorem Qj (h:JN B s.rv):0<=nP s.rv/\nP s.rv<=4096:=by
 obtain⟨h1,h2,h3,h4,h5,h6⟩:=h
 unfold nP
 obtain⟨p1,p2⟩:=WW (p:=s.rv.cap) (q:=s.rv.gr) (r:=s.rv.us)
 omega
theorem Aes {y:Ys} (h:QK y):G3 y<=4096:=by
 cases y with
 |b y=>
  obtain⟨h1,h2,h3,h4,h5,h6,h7,h8,h9,h10⟩:=h
  show rQ y.cap y.gr y.us<=4096
  obtain⟨p1,p2⟩:=WW (p:=y.cap) (q:=y.gr) (r:=y.us)
  omega
 |i y=>
  obtain⟨h1,h2,h3,h4,h5,h6,h7,h8,h9,h10,h11⟩:=h
  show xO y.room y.op y.ask y.l<=4096
  unfold xO
  omega
theorem Ap6 (hI:bO B s) (hF:∀m∈s.l,J8 m):∀f∈iZ s,Xf s f:=fun f hf=>by
 have h1:=(ID hI hF f hf)
 unfold iZ at hf
 rcases List.mem_append.1 hf with hf|hf
 ·unfold DX at hf
  split at hf
  ·rename_i hn
   rw[List.mem_singleton.1 hf] at h1 ⊢
   exact⟨h1.1,⟨rfl,rfl,rfl⟩,.inr (.inr (.inl rfl)),fun _=>hn,fun h=>absurd rfl h⟩
  ·cases hf
 ·obtain⟨m,hm,hf⟩:=List.mem_flatMap.1 hf
  unfold mL at hf
  split at hf
  ·unfold DX at hf
   split at hf
   ·rename_i hn
    rw[List.mem_singleton.1 hf] at h1 ⊢
    refine⟨h1.1,⟨rfl,rfl,rfl⟩,.inr (.inr ?_),fun _=>hn,fun _=>hI.ids m hm⟩
    show(if bA m.x=2 then(11:Int) else 10)=10\/(if bA m.x=2 then(11:Int) else 10)=11
    split
    ·exact .inr rfl
    ·exact .inl rfl
   ·cases hf
  ·cases hf
theorem Aaj {t:Int}:(gS id (DX t st n)=0\/st=id)/\(n<=4096->gS id (DX t st n)<=4096):=by
 unfold DX
 by_cases hn:0<n
 ·rw[if_pos hn,iU]
  by_cases hq:(Ab t st n).t=10/\(Ab t st n).st=id
  ·rw[if_pos hq];exact⟨.inr hq.2,fun h=>h⟩
  ·rw[if_neg hq];exact⟨.inl rfl,fun _=>by decide⟩
 ·rw[if_neg hn];exact⟨.inl rfl,fun _=>by show(0:Int)<=4096;decide⟩
theorem Aem:(gS id (mL m)=0\/m.id=id)/\(J8 m->gS id (mL m)<=4096):=by
 unfold mL
 by_cases hr:YG m=true
 ·rw[if_pos hr];exact⟨Aaj.1,fun hF=>Aaj.2 (Aes hF.2.1)⟩
 ·rw[if_neg hr];exact⟨.inl rfl,fun _=>by show(0:Int)<=4096;decide⟩
theorem MA:∀ {l:List Sm},(∀m∈l,m.id≠id)->gS id (l.flatMap mL)=0
 | [],_=>rfl
 |m::l,h=>by
  rw[List.flatMap_cons,uA,MA fun z hz=>h z (List.mem_cons_of_mem _ hz)]
  rcases(Aem (id:=id) (m:=m)).1 with h1|h1
  ·rw[h1];rfl
  ·exact absurd h1 (h m (List.mem_cons_self ..))
theorem Ac7:∀ {l:List Sm},(l.Pairwise fun a b=>a.id<b.id)->(∀m∈l,J8 m)->gS id (l.flatMap mL)<=4096
 | [],_,_=>by show(0:Int)<=4096;decide
 |m::l,h,hF=>by
  obtain⟨p1,p2⟩:=List.pairwise_cons.1 h
  rw[List.flatMap_cons,uA]
  rcases(Aem (id:=id) (m:=m)).1 with h1|h1
  ·rw[h1]
   have:=Ac7 p2 fun z hz=>hF z (List.mem_cons_of_mem _ hz)
   omega
  ·have h2:=(Aem (id:=id) (m:=m)).2 (hF m (List.mem_cons_self ..))
   rw[MA fun z hz=>by have:=p1 z hz;omega]
   omega
theorem VI (hI:bO B s):gS 0 (iZ s)=nP s.rv:=by
 have h1:=Qj hI.rv
 unfold iZ
 rw[uA,MA fun m hm=>by have:=(hI.st m hm).id;omega,Int.add_zero]
 unfold DX
 split
 ·rw[iU,if_pos ⟨rfl,rfl⟩];rfl
 ·show(0:Int)=_;omega
theorem Apa (hI:bO B s) (hF:∀m∈s.l,J8 m):gS id (iZ s)<=4096:=by
 by_cases h0:id=0
 ·rw[h0,VI hI];exact(Qj hI.rv).2
 ·unfold iZ
  rw[uA]
  have h2:=Ac7 (id:=id) hI.sm.2 hF
  have h3:gS id (DX 10 0 (nP s.rv))=0:=by
   unfold DX
   split
   ·rw[iU,if_neg (fun hq=>h0 hq.2.symm)]
   ·rfl
  omega
structure Bu (s z:Cn) (bl:List Fm):Prop where
 j:jn z= { jn s with sp:=s.ld.sp+dS bl,n0:=s.ld.n0 - dS bl }
 n1:0<=s.ld.n0->0<=z.ld.n0
 ln:∀e'∈z.ld.l,∃e∈s.ld.l,e'.id=e.id/\e'.n<=e.n/\(e'.n=e.n\/0<=e'.n)
 fl:∀f∈bl,Xf s f/\f.t<=1
theorem Adk (h:Sb s z):Bu s z []:=by
 refine⟨?_,fun h0=>?_,fun e he=>⟨e,h.l e he,rfl,Int.le_refl _,.inl rfl⟩,fun f hf=>by cases hf⟩
 ·rw[h.j]
  show jn s= { jn s with sp:=s.ld.sp+0,n0:=s.ld.n0 - 0 }
  rw[Int.add_zero,Int.sub_zero];rfl
 ·have:z.ld.n0=s.ld.n0:=congrArg Jn.n0 h.j
  omega
theorem Bu.trans (h:Bu s s1 bl) (h2:Bu s1 z bl2):Bu s z (bl++bl2):=by
 have e1:s1.ld.sp=s.ld.sp+dS bl:=congrArg Jn.sp h.j
 have e2:s1.ld.n0=s.ld.n0 - dS bl:=congrArg Jn.n0 h.j
 have e3:s1.sd=s.sd:=congrArg Jn.sd h.j
 have e4:s1.nx=s.nx:=congrArg Jn.nx h.j
 have e5:s1.la=s.la:=congrArg Jn.la h.j
 refine⟨?_,fun h0=>h2.n1 (h.n1 h0),fun e he=>?_,fun f hf=>?_⟩
 ·rw[h2.j,h.j,e1,e2,Md,show s.ld.sp+dS bl+dS bl2=s.ld.sp+(dS bl+dS bl2) by omega,show s.ld.n0 - dS bl - dS bl2=s.ld.n0 - (dS bl+dS bl2) by omega]
 ·obtain⟨e1,m1,q1,q2,q3⟩:=h2.ln e he
  obtain⟨e0,m0,r1,r2,r3⟩:=h.ln e1 m1
  exact⟨e0,m0,q1.trans r1,by omega,by omega⟩
 ·rcases List.mem_append.1 hf with hf|hf
  ·exact h.fl f hf
  ·obtain⟨⟨x1,x2,x3,x4,x5⟩,x6⟩:=h2.fl f hf
   rw[e3,e4,e5] at x5
   exact⟨⟨x1,x2,x3,x4,x5⟩,x6⟩
theorem Anj {l:List gZ} {i j:Nat} {e e':gZ} (h:l.Pairwise fun a b=>a.id<b.id) (h1:l[i]?=some e) (h2:l[j]?=some e') (hij:i≠j):e.id≠e'.id:=by
 obtain⟨i1,rfl⟩:=List.getElem?_eq_some_iff.1 h1
 obtain⟨j1,rfl⟩:=List.getElem?_eq_some_iff.1 h2
 have hp:=List.pairwise_iff_getElem.1 h
 rcases Nat.lt_or_ge i j with q|q
 ·have:=hp i j i1 j1 q;omega
 ·have:=hp j i j1 i1 (by omega);omega
theorem Af2 {z:Ld} {kk:Int} (hg:GH B z) (h:oR id kk z=0):(jQ id kk z).sp=z.sp+kk/\(jQ id kk z).n0=z.n0 - kk/\(0<=z.n0->0<=z.n0 - kk)/\∀e'∈(jQ id kk z).l,∃e∈z.l,e'.id=e.id/\e'.n=e.n - (if e.id=id then kk else 0)/\0<=kk/\(e.id=id->kk=0\/kk<=e.n):=by
 have h':=h
 unfold oR at h'
 split at h'
 ·exact absurd h' (by decide)
 rename_i c1
 split at h'
 ·exact absurd h' (by decide)
 rename_i c2
 split at h'
 ·exact absurd h' (by decide)
 rename_i c3
 unfold jQ
 rw[if_neg (by rw[h];decide)]
 unfold bB at c3
 cases hl:pR id z.l with
 |none=>rw[hl] at c1;exact absurd rfl c1
 |some e=>
  rw[hl] at c3
  dsimp only at c3 ⊢
  refine⟨rfl,rfl,by omega,fun e' he=>?_⟩
  obtain⟨hg1,hid⟩:=oM (s:=z) hl
  have hm:=List.mem_of_getElem? hg1
  obtain⟨j,hj⟩:=List.getElem?_of_mem he
  by_cases hij:oB id z.l=j
  ·subst hij
   rw[List.getElem?_set_self (List.getElem?_eq_some_iff.1 hg1).1] at hj
   have e2:=(Option.some.inj hj).symm
   refine⟨e,hm,by rw[e2],?_,by omega,fun _=>by omega⟩
   rw[e2,if_pos hid]
  ·rw[List.getElem?_set_ne hij] at hj
   have hne:=Anj hg.2.1 hg1 hj hij
   exact⟨e',List.mem_of_getElem? hj,rfl,by rw[if_neg (by omega)];omega,by omega,fun q=>absurd (hid.trans q.symm) hne⟩
theorem Ahn (hI:bO B s) (hk:f4 c s) (hm:bX id s.l=some m):Bu s (wI id m q s) [Ak id m s]:=by
 obtain⟨hi,hmid⟩:=aS hm
 have hmm:=List.mem_of_getElem? hi
 have hid:=(hI.st m hmm).id
 have hp:=Ga hI hm
 have hsb:Sb (rH id m q s) (wI id m q s):=by
  unfold wI
  exact Sb.trans (s':=t7 ⟨1,id,CP id m s,iP m.x (bB id s.ld),Be m.x (bB id s.ld)⟩ (w4 (DL m (bB id s.ld)) (rH id m q s))) ⟨rfl,fun _ h=>h⟩ Hm
 have key:Bu s (rH id m q s) [Ak id m s]:=by
  by_cases hx:bA m.x=1
  ·obtain⟨p1,p2,p3,p4⟩:=Af2 hI.ld (Vh hI hk hm hx)
   have hd:dS [Ak id m s]=((iP m.x (bB id s.ld)).size:Nat):=by
    rw[wF]
    unfold Ak
    rw[if_pos (by show bA m.x - 1=0;rw[hx];rfl)]
    rfl
   have hl:(rH id m q s).ld=jQ id ((iP m.x (bB id s.ld)).size:Nat) s.ld:=by
    show(if bA m.x=1 then _ else _)=_
    rw[if_pos hx]
   refine⟨?_,?_,?_,fun f hf=>?_⟩
   ·rw[hd,<- p1,<- p2,<- hl];rfl
   ·rw[hl,p2];exact p3
   ·rw[hl]
    intro e' he
    obtain⟨e,q1,q2,q3,q4,q5⟩:=p4 e' he
    refine⟨e,q1,q2,?_⟩
    by_cases hi:e.id=id
    ·have:=q5 hi
     rw[if_pos hi] at q3
     omega
    ·rw[if_neg hi] at q3
     omega
   ·rw[List.mem_singleton.1 hf]
    unfold Ak
    rw[hx]
    exact⟨⟨Dw (.inl rfl) (by rw[<- hmid];exact hid) (EC (hk.mo m hmm).sz),⟨rfl,rfl,rfl⟩,.inl rfl,fun h=>by have h:(10:Int)<=1 - 1:=h;omega,fun _=>hp⟩,by show(1:Int) - 1<=1;decide⟩
  ·have hx2:bA m.x=2:=by
    cases hh:m.x with
    |b y=>rw[hh] at hx;exact absurd rfl hx
    |i y=>rfl
   have hd:dS [Ak id m s]=0:=by
    rw[wF]
    unfold Ak
    rw[if_neg (by show ¬bA m.x - 1=0;rw[hx2];decide)]
   have hl:(rH id m q s).ld=s.ld:=by
    show(if bA m.x=1 then _ else _)=_
    rw[if_neg hx]
   refine⟨?_,?_,?_,fun f hf=>?_⟩
   ·rw[hd,Int.add_zero,Int.sub_zero,<- hl];rfl
   ·rw[hl];exact fun h=>h
   ·rw[hl];exact fun e he=>⟨e,he,rfl,Int.le_refl _,.inl rfl⟩
   ·rw[List.mem_singleton.1 hf]
    unfold Ak
    rw[hx2]
    exact⟨⟨Dw (.inr rfl) (by rw[<- hmid];exact hid) (EC (hk.mo m hmm).sz),⟨rfl,rfl,rfl⟩,.inr (.inl rfl),fun h=>by have h:(10:Int)<=2 - 1:=h;omega,fun _=>hp⟩,by show(2:Int) - 1<=1;decide⟩
 have:=key.trans (Adk hsb)
 rwa[List.append_nil] at this
theorem Pw:∀ {k:Nat} {s:Cn} {B:Int},bO B s->f4 c s->B+300 * k<=250000000->Bu s (eJ k s).2 (eJ k s).1
 |0,s,B,hI,hk,hB=>Adk Sb.rfl'
 |k+1,s,B,hI,hk,hB=>by
  obtain⟨h1,h2⟩:=UT hI hk (by omega)
  cases hp:Ax (s.pk,s.pc) (eK s) with
  |mk o q=>
   cases o with
   |none=>
    rw[yA,Ha hp]
    exact Adk ⟨rfl,fun _ h=>h⟩
   |some id=>
    obtain⟨m,hm,hr⟩:=BR hI hk hp
    have hs:=ED hp hm hr
    rw[hs] at h1 h2
    rw[yA,hs]
    exact(Ahn (q:=q) hI hk hm).trans (Pw h1 h2 (by omega))
theorem S1 (h1:s.bt.ev=0) (h2:s.sl.li=0):bI s=s/\fD s= []:=by
 have e1:QI s.bt s.now=0:=if_pos h1
 have e2:Ae s.sl s.now (rW s)=false:=if_pos h2
 have e3:iA s.bt s.now=s.bt:=if_pos h1
 have e4:nW s.sl s.now (rW s)=s.sl:=if_pos h2
 constructor
 ·unfold bI
  rw[e1,e2,e3,e4,if_neg (by decide),if_neg (by decide)]
 ·unfold fD
  rw[e1,e2,if_pos (.inr (.inr (by decide)))]
theorem HX.sendL (hI:bO B a) (h:HX k a b Ta Tb) (hov:a.dr.ov=false) (hz:jn z= { jn a with gr:=G,sp:=a.ld.sp+D,n0:=a.ld.n0 - D,out:= [] }) (hn:0<=a.ld.n0->0<=z.ld.n0) (hl:∀e'∈z.ld.l,∃e∈a.ld.l,e'.id=e.id/\e'.n<=e.n/\(e'.n=e.n\/0<=e'.n)) (hE:∀g∈E,Xf a g) (hD:dS E=D):HX k z b Ta (Tb++(a.out++E)):=by
 have e1:z.sd=a.sd:=congrArg Jn.sd hz
 have e2:z.nx=a.nx:=congrArg Jn.nx hz
 have e3:z.la=a.la:=congrArg Jn.la hz
 have e4:z.ld.sp=a.ld.sp+D:=congrArg Jn.sp hz
 have e5:z.ld.n0=a.ld.n0 - D:=congrArg Jn.n0 hz
 have e6:z.pe=a.pe:=congrArg Jn.pe hz
 have e7:z.out= []:=congrArg Jn.out hz
 have e8:z.dr=a.dr:=congrArg Jn.dr hz
 have e9:z.last=a.last:=congrArg Jn.last hz
 have e10:z.bt.ev=a.bt.ev:=congrArg Jn.ev hz
 have e11:z.sl.li=a.sl.li:=congrArg Jn.li hz
 have hfo:∀ {L:Int},a.nx<=L+2->∀g∈E,g.t≠2/\FO b.sd b.nx L g:=fun hL g hg=>(hE g hg).fo hI hL h.la h.sd
 have ht:∀g∈E,g.t≠2/\g.t≠5/\g.t≠6:=fun g hg=>by
  have:=(hE g hg).2.2.1
  omega
 have ha:Tb++(a.out++E)++ []=(Tb++a.out)++E:=by rw[List.append_nil,List.append_assoc]
 have hd0:dS a.out=0:=MF fun g hg=>by have:=h.ot g hg;omega
 exact {
  sq:=fun hb=>by
   rw[e7,ha]
   exact u4.2 ⟨h.sq hb,OE fun g hg=>hfo (h.nx hb) g hg⟩
  hi:=fun hb f hf h2=>by
   rw[e7,ha] at hf
   rw[e2]
   rcases List.mem_append.1 hf with hf|hf
   ·exact h.hi hb f hf h2
   ·exact absurd h2 (ht f hf).1
  nx:=fun hb=>by
   rw[e7,ha,FP,DN fun g hg=>(ht g hg).1,e2]
   exact h.nx hb
  dt:=fun hb=>by
   have:=h.dt hb
   rw[Md,Md,hd0,hD,e4]
   omega
  ak:=fun hb=>by
   rw[e7,ha,JV,Ol (n:=6) fun g hg=>(ht g hg).2.2,e8]
   exact h.ak hb
  la:=by rw[e3];exact h.la
  gr:=by
   have:=h.gr
   rw[e4,e5,e8]
   omega
  n0:=hn h.n0
  gs:=by rw[e8];exact h.gs
  ln:=by
   rw[e8,e6]
   intro ho e' he'
   obtain⟨e,hm,q1,q2,q3⟩:=hl e' he'
   have:=h.ln ho e hm
   have:=h.pe
   rw[q1]
   omega
  pe:=by rw[e6];exact h.pe
  co:=by rw[e8];exact h.co
  lst:=by rw[e9];exact h.lst
  ti:=by rw[e10,e11];exact h.ti
  oo:=fun _=>e7
  sd:=by rw[e1];exact h.sd
  ot:=by rw[e7];exact fun f hf=>by cases hf }
theorem HX.sendR (h:HX k b a Tb Ta) (ho:∀f∈a.out,2<=f.t/\f.t<=9) (hov:a.dr.ov=false) (hz:jn z= { jn a with gr:=a.rv.gr+G,sp:=a.ld.sp+D,n0:=a.ld.n0 - D,out:= [] }) (hE:∀g∈E,Xf a g) (hG:gS 0 E=G) (h4:∀id,gS id E<=4096):HX (k+1) b z (Tb++(a.out++E)) Ta:=by
 have e1:z.sd=a.sd:=congrArg Jn.sd hz
 have e2:z.nx=a.nx:=congrArg Jn.nx hz
 have e3:z.la=a.la:=congrArg Jn.la hz
 have e4:z.rv.got=a.rv.got:=congrArg Jn.got hz
 have e5:z.rv.gr=a.rv.gr+G:=congrArg Jn.gr hz
 have e6:z.sh=a.sh:=congrArg Jn.sh hz
 have e7:z.out= []:=congrArg Jn.out hz
 have e8:z.dr=a.dr:=congrArg Jn.dr hz
 have hg0:∀ {id:Int},gS id a.out=0:=Hc fun g hg=>by have:=ho g hg;omega
 have ht:∀g∈E,g.t≠5:=fun g hg=>by
  have:=(hE g hg).2.2.1
  omega
 exact {
  sq:=by rw[e8,e1,e2,e3];exact h.sq
  hi:=by rw[e8];exact h.hi
  nx:=by rw[e8,e3];exact h.nx
  dt:=by rw[e8,e4];exact h.dt
  ak:=fun hb=>by
   have h1:=h.ak (by rw[e8] at hb;exact hb)
   have ha:Tb++(a.out++E)++ []=(Tb++a.out)++E:=by rw[List.append_nil,List.append_assoc]
   rw[e7,ha,JV (n:=5),Ol (n:=5) (gl:=E) ht,e6]
   exact h1
  la:=by rw[e2];exact h.la
  gr:=by
   have h1:=h.gr
   rw[e5]
   revert h1
   cases b.dr.ov
   ·rw[if_neg Bool.false_ne_true,if_neg Bool.false_ne_true,uA,uA,hg0,hG]
    intro h1;omega
   ·rw[if_pos rfl,if_pos rfl]
    intro h1
    have:0<=G:=by
     rw[<- hG]
     clear h1 hG h4 e5 hz
     induction E with
     |nil=>exact Int.le_refl _
     |cons g E ih=>
      have h2:=ih (fun z hz=>hE z (List.mem_cons_of_mem _ hz)) fun z hz=>ht z (List.mem_cons_of_mem _ hz)
      have h3:=vD (hE g (List.mem_cons_self ..)).1
      rw[wZ]
      split <;> omega
    omega
  n0:=h.n0
  gs:=fun hb id=>by
   have h1:=h.gs hb id
   have h2:=h4 id
   rw[uA,uA,hg0]
   omega
  ln:=fun hb e he=>by
   have h1:=h.ln hb e he
   have h2:=h4 e.id
   rw[uA,uA,hg0]
   omega
  pe:=h.pe
  co:=h.co
  lst:=h.lst
  ti:=h.ti
  oo:=h.oo
  sd:=by rw[e1];exact h.sd
  ot:=h.ot }
theorem HX.drL (h:HX k a b Ta Tb) (h2:HX k b a Tb Ta) (ho:a.dr.ov=false) (hou:a.out= []):HX k { a with dr:=uF a.dr n } b Ta Tb:=by
 unfold uF
 split
 ·have hg:=PH (id:=0) (u4.1 (h2.sq ho)).1
  exact {
   sq:=h.sq
   hi:=h.hi
   nx:=h.nx
   dt:=h.dt
   ak:=fun hb=>by
    have h1:=h.ak hb
    show nT 6 (Tb++a.out)+0<=_
    omega
   la:=h.la
   gr:=by
    have h1:=h.gr
    rw[ho,if_neg Bool.false_ne_true] at h1
    show a.ld.sp+a.ld.n0+0<=_
    omega
   n0:=h.n0
   gs:=fun hq=>by cases hq
   ln:=fun hq=>by cases hq
   pe:=h.pe
   co:=rfl
   lst:=h.lst
   ti:=h.ti
   oo:=fun _=>hou
   sd:=h.sd
   ot:=h.ot }
 ·exact h
theorem HX.drR (h:HX k b a Tb Ta):HX k b { a with dr:=uF a.dr n } Tb Ta:=by
 unfold uF
 split
 ·exact {
   sq:=fun hq=>by cases hq
   hi:=fun hq=>by cases hq
   nx:=fun hq=>by cases hq
   dt:=fun hq=>by cases hq
   ak:=fun hq=>by cases hq
   la:=h.la
   gr:=h.gr
   n0:=h.n0
   gs:=h.gs
   ln:=h.ln
   pe:=h.pe
   co:=h.co
   lst:=h.lst
   ti:=h.ti
   oo:=h.oo
   sd:=h.sd
   ot:=h.ot }
 ·exact h
theorem Ago (h:bR f) (ht:2<=f.t):(xK f).size<=57:=by
 obtain⟨p1,p2,p3,p4,p5⟩:=QR h
 have h9:=yS (wG h)
 have hz:(xK f).size=9+(mR f).size:=by
  have e:(jS ((mR f).size:Nat) f.t (tL f.e) f.st).size=9:=h9
  rw[Il,ByteArray.size_append,e]
 obtain⟨r1,r2,r3,r4,r5,r6,r7,r8,r9,r10,r11,r12,r13,r14,r15,r16,r17,r18,r19,r20,r21⟩:=h
 have h8:f.t=2\/f.t=3\/f.t=4\/f.t=5\/f.t=6\/f.t=7\/f.t=8\/f.t=9\/f.t=10\/f.t=11:=by omega
 rcases h8 with h|h|h|h|h|h|h|h|h|h
 ·have:=p3 (by omega);omega
 ·have:=p3 (by omega);omega
 ·have:=p4 (by omega);omega
 ·have:=p2 h;omega
 ·have:=p5 h;omega
 ·have:=p3 (by omega);omega
 ·have:=p3 (by omega);omega
 ·have:=p3 (by omega);omega
 ·have:=p4 (by omega);omega
 ·have:=p4 (by omega);omega
theorem Dt:∀ {l:List Fm},(∀f∈l,bR f/\2<=f.t)->(kP l).length<=57 * l.length
 | [],_=>by simp[kP]
 |y::l,h=>by
  have h1:=h y (List.mem_cons_self ..)
  have h2:=Ago h1.1 h1.2
  have h3:=Dt fun z hz=>h z (List.mem_cons_of_mem _ hz)
  have e:kP (y::l)=(xK y).data.toList++kP l:=by simp[kP]
  have e2:(xK y).data.toList.length=(xK y).size:=Array.length_toList
  rw[e,List.length_append,List.length_cons]
  omega
theorem Ahq (hI:bO B a) (hk:f4 c a) (hF:∀m∈a.l,J8 m) (hB:B+1301<=250000000) (h:HX k a b Ta Tb) (h2:HX k b a Tb Ta) (hov:a.dr.ov=false):∃E,HX (k+1) (bW a).2 b Ta (Tb++E)/\HX (k+1) b (bW a).2 (Tb++E) Ta/\(bW a).1=kP E/\(bW a).1.length<=8500:=by
 have hbb:=hI.bb
 obtain⟨t1,t2⟩:=S1 (s:=aD a) h.ti.1 h.ti.2
 have hov1:(bI (aD a)).dr.ov=false:=by rw[t1];exact hov
 have hr:=(Iz hI hk hF hB hov hov1).1
 have hI1:=Em (bH hI)
 have hk1:=Ez (cP hk)
 have hI2:=Ma hI1
 have hk2:=My hk1
 have hb:=Pw (k:=4) hI2 hk2 (by omega)
 have hs:=NQ hov hov1 hr
 have eL:uO a=a.out++(iZ a++(eJ 4 (Ag { aD a with out:= [] })).1):=by
  unfold uO
  rw[t1,t2,List.nil_append,List.append_assoc];rfl
 rw[t1] at hs
 rw[hs,eL]
 have hbl:=Fj (k:=4) (s:=Ag { aD a with out:= [] })
 generalize hz:eJ 4 (Ag { aD a with out:= [] })=bz at hb hbl
 obtain⟨bl,z⟩:=bz
 dsimp only at hb hbl ⊢
 have hE:∀g∈iZ a++bl,Xf a g:=fun g hg=>by
  rcases List.mem_append.1 hg with hg|hg
  ·exact Ap6 hI hF g hg
  ·exact(hb.fl g hg).1
 have hbt:∀g∈bl,g.t≠10:=fun g hg=>by have:=(hb.fl g hg).2;omega
 have hgt2:∀g∈iZ a,10<=g.t:=fun g hg=>by
  unfold iZ at hg
  rcases List.mem_append.1 hg with hg|hg
  ·unfold DX at hg
   split at hg
   ·rw[List.mem_singleton.1 hg];show(10:Int)<=10;decide
   ·cases hg
  ·obtain⟨m,hm,hg⟩:=List.mem_flatMap.1 hg
   unfold mL at hg
   split at hg
   ·unfold DX at hg
    split at hg
    ·rw[List.mem_singleton.1 hg]
     show 10<=(if bA m.x=2 then(11:Int) else 10)
     split <;> decide
    ·cases hg
   ·cases hg
 have hgt:∀g∈iZ a,g.t≠0:=fun g hg=>by have:=hgt2 g hg;omega
 have hD:dS (iZ a++bl)=dS bl:=by rw[Md,MF hgt,Int.zero_add]
 have hG:gS 0 (iZ a++bl)=nP a.rv:=by rw[uA,VI hI,Hc hbt,Int.add_zero]
 have h4:∀id,gS id (iZ a++bl)<=4096:=fun id=>by
  rw[uA,Hc hbt,Int.add_zero];exact Apa hI hF
 have hj:jn z= { jn a with gr:=a.rv.gr+nP a.rv,sp:=a.ld.sp+dS bl,n0:=a.ld.n0 - dS bl,out:= [] }:=hb.j
 have q1:=(HX.sendL hI h hov hj hb.n1 hb.ln hE hD).mono (show k<=k+1 by omega)
 have q2:=HX.sendR h2 h.ot hov hj hE hG h4
 have hzo:z.dr.ov=false:=by
  have:z.dr=a.dr:=congrArg Jn.dr hj
  rw[this];exact hov
 have hzu:z.out= []:=congrArg Jn.out hj
 have hlen:(kP (a.out++(iZ a++bl))).length<=8500:=by
  have l1:=Dt (l:=a.out) fun f hf=>⟨(iX f).1 (hk.fo f hf).1,(h.ot f hf).1⟩
  have l2:=Dt (l:=iZ a) fun f hf=>⟨(Ap6 hI hF f hf).1,by have:=hgt2 f hf;omega⟩
  have l3:=Hu (l:=bl) fun f hf=>(hb.fl f hf).1.1
  have n1:=hI.ou.1
  have n2:(iZ a).length<=65:=by
   have h1:=flat_len (l:=a.l)
   have h2:=hI.sm.1
   have h3:=D4 (t:=10) (st:=0) (n:=nP a.rv)
   unfold iZ
   rw[List.length_append];omega
  rw[qQ,qQ,List.length_append,List.length_append]
  omega
 exact⟨_,HX.drL q1 q2 hzo hzu,HX.drR q2,rfl,hlen⟩
end
section
variable {x:Cn} {w:List UInt8} {a:AC} {q:A6} {l:Lk}
def PX (k:Int) (x y:Cn) (Wx Wy:List UInt8):Prop:=∃Tx Ty,HX k x y Tx Ty/\HX k y x Ty Tx/\(x.dr.ov=false->kP Tx=x.inb++Wx)/\(y.dr.ov=false->kP Ty=y.inb++Wy)
theorem PX.symm (h:PX k x y Wx Wy):PX k y x Wy Wx:=by
 obtain⟨Tx,Ty,h1,h2,h3,h4⟩:=h
 exact⟨Ty,Tx,h2,h1,h4,h3⟩
theorem PX.mono (h:PX k x y Wx Wy) (hk:k<=k2):PX k2 x y Wx Wy:=by
 obtain⟨Tx,Ty,h1,h2,h3,h4⟩:=h
 exact⟨Tx,Ty,h1.mono hk,h2.mono hk,h3,h4⟩
theorem PX.sb (h:PX k x y Wx Wy) (hs:Sb x x') (hi:nS x'=nS x):PX k x' y Wx Wy:=by
 obtain⟨Tx,Ty,h1,h2,h3,h4⟩:=h
 exact⟨Tx,Ty,h1.left hs.j hs.l,h2.right hs.j,fun ho=>by rw[MH hi];exact h3 (by rw[<- hs.ov];exact ho),h4⟩
theorem PX.ow (h:PX k x y Wx Wy) (hI:bO B x) (ho:Ow x x' g) (hi:nS x'=nS x):PX k x' y Wx Wy:=by
 obtain⟨Tx,Ty,h1,h2,h3,h4⟩:=h
 exact⟨Tx,Ty,h1.ownL hI h2 ho,h2.ownR ho,fun _=>by rw[MH hi];exact h3 ho.ov,h4⟩
theorem PX.step (h:PX k x y Wx Wy) (hP:sC cf P x) (hB:P+1301<=250000000) (hF:∀m∈x.l,J8 m):PX (k+1) (bW x).2 y Wx (Wy++(bW x).1)/\(bW x).1.length<=8500:=by
 obtain⟨B,hG,hBP⟩:=hP
 have hi:(bW x).2.inb=x.inb:=MH E0
 cases ho:x.dr.ov
 ·obtain⟨Tx,Ty,h1,h2,h3,h4⟩:=h
  obtain⟨E,q1,q2,q3,q4⟩:=Ahq hG.I hG.K hF (by omega) h1 h2 ho
  refine⟨⟨Tx,Ty++E,q1,q2,fun _=>by rw[hi];exact h3 ho,fun hy=>?_⟩,q4⟩
  rw[qQ,h4 hy,q3,List.append_assoc]
 ·have hl:x.last=⟨#[]⟩:=by
   obtain⟨Tx,Ty,h1,h2,h3,h4⟩:=h
   exact h1.lst
  have e:bW x=([],{ aD x with last:=⟨#[]⟩ }):=by
   unfold bW
   rw[if_pos ho,hl]
  have hi2:=E0 (c:=x)
  rw[e] at hi2 ⊢
  rw[List.append_nil]
  refine⟨(h.mono (show k<=k+1 by omega)).sb ⟨?_,fun _ h=>h⟩ hi2,Nat.zero_le _⟩
  unfold jn
  dsimp only[aD]
  rw[hl]
theorem Alh (hI:bO B x) (h11:a.kd≠11) (h12:a.kd≠12):Sb x (p9 a x l)\/∃g,Ow x (p9 a x l) g:=by
 unfold p9
 split
 ·exact Ap2
 ·split
  ·exact Akr hI
  ·split
   ·exact .inl Sb.rfl'
   ·unfold NH
    split
    ·exact Akw
    ·split
     ·exact .inl Afc
     ·split
      ·exact .inl Aoh
      ·split
       ·exact .inl Aj6
       ·split
        ·exact .inl Ajj
        ·split
         ·exact .inl Amb
         ·split
          ·exact Aj0 hI
          ·exact Ad8 hI
theorem Ab3 (h12:a.kd≠12):nS (p9 a x l)=nS x:=by
 unfold p9
 split
 ·unfold AT;split <;> rfl
 ·split
  ·unfold tD;split <;> rfl
  ·split
   ·exact E0
   ·split
    ·rfl
    ·exact Agt
theorem PX.one (h:PX k x y Wx Wy) (hP:sC cf P x) (h11:a.kd≠11) (h12:a.kd≠12):PX k (p9 a x l) y Wx Wy:=by
 obtain⟨B,hG,hBP⟩:=hP
 rcases Alh (l:=l) hG.I h11 h12 with hs|⟨g,ho⟩
 ·exact h.sb hs (Ab3 h12)
 ·exact h.ow hG.I ho (Ab3 h12)
theorem PX.recv (h:PX k x y (u++w) Wy) (hk:0<=k/\k<=1000) (hP:sC cf P x) (hP2:sC cf2 P2 y) (hB:P+35 * u.length<=240000000):PX k (fJ u x) y w Wy\/Fl x (fJ u x):=by
 obtain⟨B,hG,hBP⟩:=hP
 obtain⟨B2,hG2,_⟩:=hP2
 cases ho:x.dr.ov
 ·obtain⟨Tx,Ty,h1,h2,h3,h4⟩:=h
  have h9:=G9 (x.inb++u).length (x.inb++u) (Nat.le_refl _)
  rw[List.length_append] at h9
  rcases Aiu (q:=fun _ _=>True) (fun _ _ _ _ _ _=>trivial) (w:=w) hk hG2.I hG.I (by omega) ho h2 h1 (h3 ho) trivial with⟨T2,q1,q2,q3,q4,_⟩|hF
  ·exact .inl ⟨T2,Ty,q2,q1,fun _=>q4,h4⟩
  ·exact .inr hF
 ·left
  obtain⟨Tx,Ty,h1,h2,h3,h4⟩:=h
  have e:fJ u x=aD x:=by unfold fJ;rw[if_pos ho]
  rw[e]
  exact⟨Tx,Ty,h1.left rfl fun _ h=>h,h2.right rfl,fun hq=>(by rw[show(aD x).dr.ov=x.dr.ov from rfl,ho] at hq;cases hq),h4⟩
theorem PX.says (h:PX k x y Wx Wy):x.dr.co=0/\x.ld.sp<=y.rv.gr:=by
 obtain⟨Tx,Ty,h1,h2,h3,h4⟩:=h
 refine⟨h1.co,?_⟩
 have hg:=h1.gr
 have hn:=h1.n0
 revert hg
 cases ho:x.dr.ov
 ·rw[if_neg Bool.false_ne_true]
  have:=PH (id:=0) (u4.1 (h2.sq ho)).1
  intro hg;omega
 ·rw[if_pos rfl]
  intro hg;omega
def w26 (q:A6) (x:Cn):List UInt8:=if 11<=q.kd/\q.kd<=13 then(bW x).1 else []
theorem ZW {o:ByteArray}:(RX q x o).data.toList=o.data.toList++w26 q x:=by
 unfold RX w26
 split
 ·simp
 ·rw[List.append_nil]
theorem PX.act (h:PX k x y Wx Wy) (hP:sC cf P x) (hB:P+1301<=250000000) (hF:∀m∈x.l,J8 m) (hk:¬(14<=q.kd/\q.kd<=16)):PX (k+1) (qR q x) y Wx (Wy++w26 q x)/\(w26 q x).length<=8500:=by
 unfold qR w26
 by_cases h17:q.kd=17
 ·rw[if_pos h17,if_neg (by omega),List.append_nil]
  exact⟨(h.mono (by omega)).sb Ahj rfl,by decide⟩
 ·rw[if_neg h17]
  by_cases h14:0<=q.kd/\q.kd<14
  ·rw[if_pos h14]
   by_cases h11:11<=q.kd/\q.kd<=13
   ·rw[if_pos h11]
    have ek:p9 (sP q x) x ⟨[],0,0⟩=(bW x).2:=by
     have e:(sP q x).kd=11:=by unfold sP;dsimp only;rw[if_neg (by omega),if_neg (by omega),if_neg (by omega)]
     unfold p9;rw[if_neg (by omega),if_neg (by omega),if_pos e]
    rw[ek]
    exact h.step hP hB hF
   ·rw[if_neg h11,List.append_nil]
    have e:(sP q x).kd≠11/\(sP q x).kd≠12:=by
     unfold sP;dsimp only
     repeat' split
     all_goals omega
    exact⟨(h.mono (by omega)).one hP e.1 e.2,by decide⟩
  ·rw[if_neg h14,if_neg (by omega),List.append_nil]
   exact⟨h.mono (by omega),by decide⟩
theorem PX.init {f0 f1:Cf} (h0:E6 f0) (h1:E6 f1) (e0:f0.ev=0/\f0.sl=0) (e1:f1.ev=0/\f1.sl=0):PX 1 (jV 0 f0) (jV 1 f1) [] []:=by
 have key:∀ {f:Cf} {sd:Int},E6 f->(∃g,(jV sd f).out= [g]/\bR g/\Ay g/\g.t=5/\psI g.ps/\g.st=0):=fun {f sd} h=>by
  have hc:tC ⟨f.w,f.st,f.it⟩:=h.s
  obtain⟨hr,hp⟩:=KF (u:=rO) hc
  have h4:zA (vS (CX rO ⟨f.w,f.st,f.it⟩)) []=0:=Jy ((iX _).2 hr) (by show ¬(5:Int)<2;decide) (by decide)
  have hcr:Ay (vS (CX rO ⟨f.w,f.st,f.it⟩)):=⟨rfl,rfl,rfl⟩
  refine⟨_,?_,hr,hcr,rfl,hp,rfl⟩
  show wL _ []=_
  rw[C7 ⟨by show(5:Int)≠10;decide,by show(5:Int)≠11;decide⟩ h4,z6 hcr];rfl
 have one:∀ {f f':Cf} {sd:Int},E6 f->E6 f'->f.ev=0/\f.sl=0->(sd=0\/sd=1)->HX 1 (jV sd f) (jV (1 - sd) f') [] []:=fun {f f' sd} h h' e hs=>by
  obtain⟨g,o1,o2,o3,o4,o5,o6⟩:=key (sd:=sd) h
  obtain⟨g',o1',o2',o3',o4',o5',o6'⟩:=key (sd:=1 - sd) h'
  exact {
   sq:=fun _=>by
    rw[o1]
    exact⟨⟨o2,o3,by omega,by omega,fun _=>o5,by omega,by omega,fun h0=>absurd o6 h0⟩,trivial⟩
   hi:=fun _ z hz h2=>by
    rw[o1] at hz
    rw[List.mem_singleton.1 hz] at h2
    omega
   nx:=fun _=>by
    rw[o1]
    show sd+1<=Az 0 g+2
    unfold Az
    rw[if_neg (by omega)];omega
   dt:=fun _=>rfl
   ak:=fun _=>by
    rw[o1,o1']
    show nT 6 [g]+(if false=true then 0 else nT 5 [g'])<=1
    rw[fZ,fZ,if_neg (by omega),if_neg Bool.false_ne_true,if_pos o4']
    decide
   la:=by show(0:Int)<1 - sd+1;omega
   gr:=by show(0:Int)+512+(if false=true then 0 else 0)<=512;decide
   n0:=by show(0:Int)<=512;decide
   gs:=fun _ id=>by show(0:Int)<=4096 * 1;decide
   ln:=fun _ e he=>by cases he
   pe:=by show(0:Int)<=64/\(64:Int)<=4096;decide
   co:=rfl
   lst:=rfl
   ti:=e
   oo:=fun hq=>by cases hq
   sd:=by show sd=1 - (1 - sd);omega
   ot:=fun z hz=>by
    rw[o1] at hz
    rw[List.mem_singleton.1 hz];omega }
 exact⟨[],[],one h0 h1 e0 (.inl rfl),one (sd:=1) h1 h0 e1 (.inr rfl),fun _=>rfl,fun _=>rfl⟩
end
end Go.Proofs.YtepnmcipkangkaaGreat
namespace Go.Proofs.YtepnmcipkangkaaGreat
open Go Go.Proofs Go.Sl
attribute [local irreducible] aN fL cL bM aL aR aA dJ dK aU dI pt ro fC star sep bF
attribute [local irreducible] mp DG
variable {R C:List HP} {K:KP} {x p x0 x1 j:Nat} {ad a0 a1:Ca} {c c0 c1 c0' c1':Cn} {P N side gr got us cap most w st it sb si sg ev wa stl w0 st0 it0 sb0 si0 sg0 ev0 wa0 stl0 w1 st1 it1 sb1 si1 sg1 ev1 wa1 stl1:Int} {cf f0 f1:Cf} {a:A6} {u o u0 u1 u0' u1' d:ByteArray} {A1:Option Addr} {ls:List A6}
theorem Al6 {A X:HP} {v:Value} {f:FuncId} {args:Array Value} {R':List HP} (hp:aW A C R') (hf:aG C (X::R)) (h:∀ {K':KP},K' v (A::R')->CT f args (A::R') K') (hK:K v (X::R)):CT f args C K:=
 aA.ent (aG.pick hp (aG.refl _)) (aA.entK (h ⟨_,aG.trans (fun _ hs=>hs.perm hp.perm.symm) hf,hK⟩))
theorem Ni (hK:K (PO ad.fr) (jO x ad c::R)):CT 14 #[PO x] (jO x ad c::R) K:=eU fun M mc=>aA.entK (Pq ⟨_,eF,hK⟩)
theorem Nf (hK:K (PO ad.rc) (jO x ad c::R)):CT 17 #[PO x] (jO x ad c::R) K:=eU fun M mc=>aA.entK (VE ⟨_,eF,hK⟩)
theorem Ml (hK:K (I6 gr) (y9 p cap most gr got us::R)):CT 18 #[PO p] (y9 p cap most gr got us::R) K:=by
 unfold y9 at *
 refine aH Tryz.func18 ?_
 repeat' (first|refine v4 ?_|refine w5 ?_ ?_|((refine bh fun h=>?_) <;> try exact w6 h)|(refine aE fun hA=>?_;subst hA)|intro _)
 (refine aC ?_;exact aB (hK))
theorem Mg (hK:K (.tuple #[I6 c.ld.sp,I6 0]) (jO x ad c::R)):CT 15 #[PO ad.fr,I6 0] (jO x ad c::R) K:=by
 refine eU fun M mc=>?_
 obtain⟨_,hp⟩:∃R',aW (Mo ad.fr c.ld) (cA x ad c M mc R) R':=by
  dsimp only[cA,nF]
  apply Exists.intro
  (repeat (first|exact aW.here|apply aW.there))
 exact Al6 hp eF (fun h=>Ug h) hK
theorem Ov (hK:K (I6 c.rv.gr) (jO x ad c::R)):CT 18 #[PO ad.rc] (jO x ad c::R) K:=by
 refine eU fun M mc=>?_
 obtain⟨_,hp⟩:∃R',aW (y9 ad.rc c.rv.cap c.rv.most c.rv.gr c.rv.got c.rv.us) (cA x ad c M mc R) R':=by
  dsimp only[cA,nF]
  apply Exists.intro
  (repeat (first|exact aW.here|apply aW.there))
 exact Al6 hp eF (fun h=>Ml h) hK
theorem Agr (hP:sC cf P c) (hd:d.size<=3900000) (hB:P+35 * d.size<=200000000) (hK:K (I6 (zP c)) (jO x ad (fJ d.data.toList c)::R)):CT 29 #[PO x,.string d] (jO x ad c::R) K:=by
 obtain⟨B,hG,hBP⟩:=hP
 have hIb:=hG.E.2
 have e2:d.data.toList.length=d.size:=Array.length_toList
 have h9:=G9 (c.inb++d.data.toList).length (c.inb++d.data.toList) (Nat.le_refl _)
 rw[List.length_append] at h9
 exact eU fun M mc=>aA.entK (LG hG.I hG.E.1 (by omega) (by omega) fun _ _=>⟨_,eF,hK⟩)
def Q0 (a:A6) (u:ByteArray):Int:=min (max a.n 0) (u.size:Nat)
theorem Ll {m:Nat} (hm:m<=u.size):u.data.toList=(u.extract 0 m).data.toList++(u.extract m u.size).data.toList/\(u.extract 0 m).data.toList.length=m/\(u.extract m u.size).size=u.size - m:=by
 have e:u.data.toList.length=u.size:=Array.length_toList
 have e1:(u.extract 0 m).data.toList=u.data.toList.take m:=by
  simp only[ByteArray.data_extract,Array.toList_extract,List.extract,List.drop_zero,Nat.sub_zero]
 have e2:(u.extract m u.size).data.toList=u.data.toList.drop m:=by
  simp only[ByteArray.data_extract,Array.toList_extract,List.extract]
  exact List.take_of_length_le (by rw[List.length_drop];omega)
 refine⟨by rw[e1,e2,List.take_append_drop],by rw[e1,List.length_take];omega,?_⟩
 have e3:(u.extract m u.size).data.toList.length=(u.extract m u.size).size:=Array.length_toList
 rw[<- e3,e2,List.length_drop];omega
def yH:List (Nat×Nat):= [(10,0),(11,1),(0,1),(1,1),(2,1),(3,1),(4,1),(5,1),(6,1),(7,1),(8,1),(9,1),(12,0),(13,1),(14,1),(15,0),(16,1)]
def yW:List (Nat×Nat):= [(0,0),(1,0),(2,0),(3,0),(4,0),(5,0),(6,0),(7,0),(8,0),(9,0),(10,0),(11,0)]
def yM:List (Nat×Nat):= [(0,0),(1,0),(2,0),(3,0),(4,0),(5,0),(6,0),(7,0),(8,0),(9,0),(10,0),(11,0),(12,0),(13,1)]
theorem Wz (hs:a.sd % 18446744073709551616 % 2=side) (hx:(if side=0 then x0 else x1)=x) (hk:14<=a.kd/\a.kd<=16) (hP:sC cf P c) (hB:P+35 * u.size<=200000000) (hu:u.size<=3900000) (hK:K (.tuple #[]) (pt p (Ss side x0 x1 (u.extract (Q0 a u).toNat u.size) o) 42::jO x ad (fJ (u.extract 0 (Q0 a u).toNat).data.toList c)::R)):CT 12 #[PO p,.agg #[I6 a.sd,I6 a.kd,I6 a.id,I6 a.n,.string a.s,I6 a.on,I6 a.ww,.bool a.xx,I6 a.xw,I6 a.xs,I6 a.xi]] (pt p (Ss side x0 x1 u o) 42::jO x ad c::R) K:=by
 have h01:side=0\/side=1:=by omega
 have hn:0<=Q0 a u/\Q0 a u<=u.size:=by unfold Q0;omega
 have hz:(u.extract 0 (Q0 a u).toNat).size<=u.size:=by
  have h1:=(Ll (u:=u) (m:=(Q0 a u).toNat) (by omega)).2.1
  have h2:(u.extract 0 (Q0 a u).toNat).data.toList.length=(u.extract 0 (Q0 a u).toNat).size:=Array.length_toList
  omega
 have hkk:a.kd=14\/a.kd=15\/a.kd=16:=by omega
 have hmm:min (max a.n 0) (u.size:Int)=Q0 a u:=rfl
 rcases h01 with rfl|rfl
 ·obtain rfl:x0=x:=by simpa using hx
  simp only[Ss,Int.reduceEq,if_true,if_false] at hK ⊢
  refine aH Tryz.func12 ?_
  repeat' (first|(show cL _ _ _;first|rw[hs]|rw[hmm])|refine V5 ?_|refine dw yH ?_|refine dw yW ?_|refine dw yM ?_|refine w5 ?_ ?_|((refine bh fun h=>?_) <;> try exact w6 h)|(refine aE fun hA=>?_;subst hA)|intro _|(show aA _ 29 _ _ _;refine CA (h:=Agr hP (by omega) (by omega) ?_)))
  all_goals(refine aC ?_;exact aB (hK))
 ·obtain rfl:x1=x:=by simpa using hx
  simp only[Ss,Int.reduceEq,if_true,if_false] at hK ⊢
  refine aH Tryz.func12 ?_
  repeat' (first|(show cL _ _ _;first|rw[hs]|rw[hmm])|refine V5 ?_|refine dw yH ?_|refine dw yW ?_|refine dw yM ?_|refine w5 ?_ ?_|((refine bh fun h=>?_) <;> try exact w6 h)|(refine aE fun hA=>?_;subst hA)|intro _|(show aA _ 29 _ _ _;refine CA (h:=Agr hP (by omega) (by omega) ?_)))
  all_goals(refine aC ?_;exact aB (hK))
structure PJ (f0 f1:Cf) (j:Nat) (c0 c1:Cn) (u0 u1:ByteArray):Prop where
 p0:∃P:Int,sC f0 P c0/\P+35 * u0.size<=800000 * j
 p1:∃P:Int,sC f1 P c1/\P+35 * u1.size<=800000 * j
 z0:u0.size<=8500 * j
 z1:u1.size<=8500 * j
 px:PX (j+1) c0 c1 u0.data.toList u1.data.toList
theorem PJ.mono {j2:Nat} (h:PJ f0 f1 j c0 c1 u0 u1) (hj:j<=j2):PJ f0 f1 j2 c0 c1 u0 u1:=by
 obtain⟨⟨P,q1,q2⟩,⟨P2,q3,q4⟩,q5,q6,q7⟩:=h
 exact⟨⟨P,q1,by omega⟩,⟨P2,q3,by omega⟩,by omega,by omega,q7.mono (by omega)⟩
structure PQ (f0 f1:Cf) (j:Nat) (c0 c1:Cn) (u0 u1:ByteArray):Prop where
 p0:∃P:Int,sC f0 P c0
 p1:∃P:Int,sC f1 P c1
 o:c0.dr.co=11\/c0.dr.co=0/\c0.ld.sp<=c1.rv.gr/\(c1.dr.co=11\/c1.dr.co=0/\c1.ld.sp<=c0.rv.gr/\PJ f0 f1 j c0 c1 u0 u1)
theorem PJ.q (h:PJ f0 f1 j c0 c1 u0 u1):PQ f0 f1 j c0 c1 u0 u1:=by
 obtain⟨q1,q2⟩:=h.px.says
 obtain⟨q3,q4⟩:=h.px.symm.says
 obtain⟨P,q5,_⟩:=h.p0
 obtain⟨P2,q6,_⟩:=h.p1
 exact⟨⟨P,q5⟩,⟨P2,q6⟩,.inr ⟨q1,q2,.inr ⟨q3,q4,h⟩⟩⟩
theorem Ant {s t:ByteArray}:(s++t).size=s.size+t.size:=ByteArray.size_append
theorem Amm {l:List UInt8}:(ByteArray.mk l.toArray).size=l.length:=by simp[ByteArray.size]
theorem Agi:(RX a c o).size=o.size+(w26 a c).length:=by
 unfold RX w26
 split
 ·rw[Ant,show(ByteArray.mk (bW c).1.toArray).size=(bW c).1.length from Amm]
 ·rfl
theorem Ak0 (h:PX (j+1) c c1 u.data.toList o.data.toList) (hk:¬(14<=a.kd/\a.kd<=16)) (hj:j<150) (hF:∀m∈c.l,J8 m) (hP:sC cf P c) (hb:P+35 * u.size<=800000 * j) (hd:a.s.size<=599):PX ((j+1:Nat)+1) (qR a c) c1 u.data.toList (RX a c o).data.toList/\(RX a c o).size<=o.size+8500/\sC cf (P+2000) (qR a c):=by
 have h1:=PX.act (q:=a) h hP (by omega) hF hk
 rw[ZW,show(((j+1:Nat):Int))=(j:Int)+1 from rfl]
 refine⟨h1.1,?_,Aqi hP (by omega) hd⟩
 rw[Agi];omega
structure PS (f g:Cf) (j:Nat) (c d:Cn) (u o:ByteArray) (c':Cn) (u' o':ByteArray):Prop where
 p:∃P:Int,sC f P c'/\(PX ((j:Int)+1+1) c' d u'.data.toList o'.data.toList/\P+35 * u'.size<=800000 * ((j:Int)+1)/\u'.size<=8500 * (j+1)/\o'.size<=o.size+8500\/Fl c c')
theorem Alw (hk:¬(14<=a.kd/\a.kd<=16)) (h:PX ((j:Int)+1) c c1 u.data.toList o.data.toList) (hj:j<150) (hF:∀m∈c.l,J8 m) (hP:sC cf P c) (hb:P+35 * u.size<=800000 * j) (hz:u.size<=8500 * j) (hd:a.s.size<=599):PS cf f1 j c c1 u o (qR a c) u (RX a c o):=by
 obtain⟨q1,q2,q3⟩:=Ak0 h hk hj hF hP hb hd
 exact⟨_,q3,.inl ⟨q1,by omega,by omega,q2⟩⟩
theorem Alp {P2:Int} (h:PX ((j:Int)+1) c c1 u.data.toList o.data.toList) (hj:j<150) (hP:sC cf P c) (hP2:sC f1 P2 c1) (hb:P+35 * u.size<=800000 * j) (hz:u.size<=8500 * j):PS cf f1 j c c1 u o (fJ (u.extract 0 (Q0 a u).toNat).data.toList c) (u.extract (Q0 a u).toNat u.size) o:=by
 have hn:0<=Q0 a u/\Q0 a u<=u.size:=by unfold Q0;omega
 obtain⟨e1,e2,e3⟩:=Ll (u:=u) (m:=(Q0 a u).toNat) (by omega)
 rw[e1] at h
 have hp:=Afd (u:=(u.extract 0 (Q0 a u).toNat).data.toList) hP (by omega)
 refine⟨_,hp,?_⟩
 rcases h.recv (by omega) hP hP2 (by omega) with h1|h1
 ·exact .inl ⟨h1.mono (by omega),by omega,by omega,by omega⟩
 ·exact .inr h1
theorem PS.q0 (h:PS f0 f1 j c0 c1 u0 u1 c0' u0' u1') (hJ:PJ f0 f1 j c0 c1 u0 u1):PQ f0 f1 (j+1) c0' c1 u0' u1':=by
 obtain⟨P,h1,h2⟩:=h.p
 obtain⟨P2,h3,h4⟩:=hJ.p1
 have h5:=hJ.z1
 rcases h2 with⟨h2,h6,h7,h8⟩|h2
 ·refine PJ.q ⟨⟨P,h1,by omega⟩,⟨P2,h3,by omega⟩,by omega,by omega,?_⟩
  rw[show(((j+1:Nat):Int))=(j:Int)+1 from rfl];exact h2
 ·exact⟨⟨P,h1⟩,⟨P2,h3⟩,.inl h2.1.2⟩
theorem PS.q1 (h:PS f1 f0 j c1 c0 u1 u0 c1' u1' u0') (hJ:PJ f0 f1 j c0 c1 u0 u1):PQ f0 f1 (j+1) c0 c1' u0' u1':=by
 obtain⟨P,h1,h2⟩:=h.p
 obtain⟨P2,h3,h4⟩:=hJ.p0
 have h5:=hJ.z0
 rcases h2 with⟨h2,h6,h7,h8⟩|h2
 ·refine PJ.q ⟨⟨P2,h3,by omega⟩,⟨P,h1,by omega⟩,by omega,by omega,?_⟩
  rw[show(((j+1:Nat):Int))=(j:Int)+1 from rfl];exact h2.symm
 ·obtain⟨q1,q2⟩:=hJ.px.says
  exact⟨⟨P2,h3⟩,⟨P,h1⟩,.inr ⟨q1,by rw[h2.2];exact q2,.inl h2.1.2⟩⟩
theorem Ag5 (hJ:PJ f0 f1 j c0 c1 u0 u1) (hj:j<150) (hd:a.s.size<=599) (hK:∀c0' c1' u0' u1',PQ f0 f1 (j+1) c0' c1' u0' u1'->K (.tuple #[]) (pt p [PO x0,PO x1,.string u0',.string u1'] 42::jO x0 a0 c0'::jO x1 a1 c1'::R)):CT 12 #[PO p,.agg #[I6 a.sd,I6 a.kd,I6 a.id,I6 a.n,.string a.s,I6 a.on,I6 a.ww,.bool a.xx,I6 a.xw,I6 a.xs,I6 a.xi]] (pt p [PO x0,PO x1,.string u0,.string u1] 42::jO x0 a0 c0::jO x1 a1 c1::R) K:=by
 have h01:a.sd % 18446744073709551616 % 2=0\/a.sd % 18446744073709551616 % 2=1:=by omega
 obtain⟨P,hP,hb⟩:=hJ.p0
 obtain⟨P2,hP2,hb2⟩:=hJ.p1
 have hz0:=hJ.z0
 have hz1:=hJ.z1
 have sw:∀ {X Y:HP} {Z:List HP},(X::Y::Z).Perm (Y::X::Z):=fun {X Y Z}=>List.Perm.swap Y X Z
 rcases h01 with hs|hs
 ·refine yP sw (K6 fun hF=>yP sw ?_)
  by_cases hk:14<=a.kd/\a.kd<=16
  ·have:=Wz (p:=p) (x0:=x0) (x1:=x1) (x:=x0) (ad:=a0) (c:=c0) (u:=u0) (o:=u1) (R:=jO x1 a1 c1::R) (K:=K) hs (by simp) hk hP (by omega) (by omega) (by
    simp only[Ss,Int.reduceEq,if_true,if_false]
    exact hK _ _ _ _ ((Alp hJ.px hj hP hP2 hb hz0).q0 hJ))
   simpa only[Ss,Int.reduceEq,if_true,if_false] using this
  ·have:=Wa (p:=p) (x0:=x0) (x1:=x1) (x:=x0) (ad:=a0) (c:=c0) (u:=u0) (o:=u1) (R:=jO x1 a1 c1::R) (K:=K) hs (by simp) hk hP (by omega) hd (by omega) (fun _=>by
    simp only[Ss,Int.reduceEq,if_true,if_false]
    exact hK _ _ _ _ ((Alw (f1:=f1) hk hJ.px hj hF hP hb hz0 hd).q0 hJ))
   simpa only[Ss,Int.reduceEq,if_true,if_false] using this
 ·have sw2:∀ {X Y W:HP} {Z:List HP},(X::Y::W::Z).Perm (X::W::Y::Z):=fun {X Y W Z}=>List.Perm.cons X sw
  refine yP sw2 (aA.entK ?_)
  refine yP sw (K6 fun hF=>yP sw ?_)
  by_cases hk:14<=a.kd/\a.kd<=16
  ·have:=Wz (p:=p) (x0:=x0) (x1:=x1) (x:=x1) (ad:=a1) (c:=c1) (u:=u1) (o:=u0) (R:=jO x0 a0 c0::R) (K:=fun v C=>∃C',aG C C'/\K v C') hs (by simp) hk hP2 (by omega) (by omega) (by
    simp only[Ss,Int.reduceEq,if_true,if_false]
    exact⟨_,(fun _ hs=>hs.perm sw2),hK _ _ _ _ ((Alp hJ.px.symm hj hP2 hP hb2 hz1).q1 hJ)⟩)
   simpa only[Ss,Int.reduceEq,if_true,if_false] using this
  ·have:=Wa (p:=p) (x0:=x0) (x1:=x1) (x:=x1) (ad:=a1) (c:=c1) (u:=u1) (o:=u0) (R:=jO x0 a0 c0::R) (K:=fun v C=>∃C',aG C C'/\K v C') hs (by simp) hk hP2 (by omega) hd (by omega) (fun _=>by
    simp only[Ss,Int.reduceEq,if_true,if_false]
    exact⟨_,(fun _ hs=>hs.perm sw2),hK _ _ _ _ ((Alw (f1:=f0) hk hJ.px.symm hj hF hP2 hb2 hz1 hd).q1 hJ)⟩)
   simpa only[Ss,Int.reduceEq,if_true,if_false] using this
def cfP (w it sb si sg:Int):Cf:=⟨w % 18446744073709551616 % 100,8,it % 18446744073709551616 % 20,sb % 18446744073709551616 % 200,si % 18446744073709551616 % 20,sg % 18446744073709551616 % 3,0,0,0⟩
theorem Aom:E6 (cfP w it sb si sg):=by
 refine⟨?_,?_,?_,?_,?_,?_,?_⟩
 ·unfold sD cfP;simp only[Bool.and_eq_true,decide_eq_true_eq];omega
 all_goals(unfold cfP;dsimp only;omega)
theorem Y5 (hK:∀f0,E6 f0/\f0.ev=0/\f0.sl=0->K (.agg #[I6 f0.w,I6 f0.st,I6 f0.it,I6 f0.sb,I6 f0.si,I6 f0.sg,I6 f0.ev,I6 f0.wa,I6 f0.sl]) R):CT 10 #[.agg #[I6 w,I6 st,I6 it,I6 sb,I6 si,I6 sg,I6 ev,I6 wa,I6 stl]] R K:=by
 have hK:=hK (cfP w it sb si sg) ⟨Aom,rfl,rfl⟩
 unfold cfP at hK
 dsimp only at hK
 refine aH Tryz.func10 ?_
 repeat' (first|refine v31 ?_|refine w5 ?_ ?_|((refine bh fun h=>?_) <;> try exact w6 h)|(refine aE fun hA=>?_;subst hA)|intro _|(show aA _ 32 _ _ _;refine CA (h:=TV ?_)))
 all_goals(refine aC ?_;exact aB (hK))
def a6D:List Value->Option A6
 | [.int .i64 sd,.int .i64 kd,.int .i64 id,.int .i64 n,.string z,.int .i64 on,.int .i64 ww,.bool xx,.int .i64 xw,.int .i64 xs,.int .i64 xi]=>some ⟨sd,kd,id,n,z,on,ww,xx,xw,xs,xi⟩
 |_=>none
theorem Anp (cs:List Value) (y:A6) (h:a6D cs=some y): [I6 y.sd,I6 y.kd,I6 y.id,I6 y.n,.string y.s,I6 y.on,I6 y.ww,.bool y.xx,I6 y.xw,I6 y.xs,I6 y.xi]=cs:=by
 unfold a6D at h
 split at h
 ·cases h;rfl
 ·cases h
def a6C:u6 A6:= { enc:=fun y=> [I6 y.sd,I6 y.kd,I6 y.id,I6 y.n,.string y.s,I6 y.on,I6 y.ww,.bool y.xx,I6 y.xw,I6 y.xs,I6 y.xi],sz:=11,dec:=a6D,len:=fun _=>rfl,one:=fun _=>rfl,ok:=Anp }
section
variable {z1:Nat}
def dA:List (Nat×Nat):= [(0,0),(1,1),(2,1),(3,1),(4,1),(5,0)]
theorem NZ (hv:dW R A1 a6C ls) (hz1:ls.length<1000000000000000) (hK:K (.bool true) R):CT 3 #[.agg #[I6 w0,I6 st0,I6 it0,I6 sb0,I6 si0,I6 sg0,I6 ev0,I6 wa0,I6 stl0],.agg #[I6 w1,I6 st1,I6 it1,I6 sb1,I6 si1,I6 sg1,I6 ev1,I6 wa1,I6 stl1],.slice A1 ls.length z1] R K:=by
 have k1:∀v:Bool,v=true->K (.bool v) R:=fun v hv=>hv▸hK
 refine aH Tryz.func3 ?_
 repeat' (first|refine Hk ?_|refine dw dA ?_|refine w5 ?_ ?_|((refine bh fun h=>?_) <;> try exact w6 h)|(refine aE fun hA=>?_;subst hA)|intro _|(show aA _ 10 _ _ _;refine CA (h:=Y5 (fun fa hca=>?_)))|(show aA _ 9 _ _ _;refine CA (h:=Rc (And.left (by assumption)) (And.left (by assumption)) (fun p x0 x1 a0 a1=>?_)))|(show aA _ 11 _ _ _;refine CA (h:=O1 ?_)))
 rename_i f0 h0
 refine jA (fun m a C'=>∃(j:Nat) (c0 c1:Cn) (u0 u1:ByteArray),j+m=ls.length/\j<=150/\PJ f0 fa j c0 c1 u0 u1/\dH a [(2,.slice A1 ls.length z1),(6,.bool false),(7,PO p),(8,I6 j)]/\C'=pt p [PO x0,PO x1,.string u0,.string u1] 42::jO x0 a0 c0::jO x1 a1 c1::R) ls.length (cJ ls.length ⟨0,jV 0 f0,jV 1 fa,⟨#[]⟩,⟨#[]⟩,by omega,by omega,⟨⟨0,⟨0,Eo (.inl rfl) h0.1,by show(0:Int)+34 * (0:Nat)<=0;omega⟩,by decide⟩,⟨0,⟨0,Eo (.inr rfl) hca.1,by show(0:Int)+34 * (0:Nat)<=0;omega⟩,by decide⟩,by decide,by decide,PX.init h0.1 hca.1 h0.2 hca.2⟩,⟨rfl,rfl,rfl,rfl,trivial⟩,rfl⟩ (by omega)) ?_
 rintro m a C' ⟨j,c0,c1,u0,u1,hj,hj150,hJ,ha,rfl⟩
 refine i6 _ ha ?_
 simp only[gJ]
 by_cases hlt:j<ls.length
 ·obtain⟨q,hq⟩:∃q,ls[j]?=some q:=⟨_,List.getElem?_eq_getElem hlt⟩
  by_cases h150:j<150
  ·by_cases hsk:300<q.s.size
   ·repeat' (first|refine Hk ?_|refine dw dA ?_|refine w5 ?_ ?_|((refine bh fun h=>?_) <;> try exact w6 h)|(refine aE fun hA=>?_;subst hA)|intro _)
    all_goals(show aU _ _ _ _;exact cJ (m - 1) ⟨j+1,c0,c1,u0,u1,by omega,by omega,hJ.mono (by omega),⟨rfl,rfl,rfl,rfl,trivial⟩,rfl⟩)
   ·repeat' (first|(show aN _ _ _ _ _ _ _;refine fU ?_)|refine Hk ?_|refine dw dA ?_|refine w5 ?_ ?_|((refine bh fun h=>?_) <;> try exact w6 h)|(refine aE fun hA=>?_;subst hA)|intro _|(show aA _ 12 _ _ _;refine CA (h:=Ag5 (a:=q) hJ h150 (by omega) (fun d0 d1 v0 v1 hQ=>?_))))
    obtain⟨⟨P0,hP0⟩,⟨P1,hP1⟩,hO⟩:=hQ
    refine jA (fun m2 a C'=>∃k:Nat,k+m2=2/\(1<=k->d1.dr.co=11\/d1.dr.co=0/\d1.ld.sp<=d0.rv.gr/\PJ f0 fa (j+1) d0 d1 v0 v1)/\(2<=k->PJ f0 fa (j+1) d0 d1 v0 v1)/\dH a [(2,.slice _ ls.length z1),(6,.bool false),(7,PO p),(8,I6 j),(9,I6 k)]/\C'=pt p [PO x0,PO x1,.string v0,.string v1] 42::jO x0 a0 d0::jO x1 a1 d1::R) 2 (cJ 2 ⟨0,rfl,fun h=>absurd h (by decide),fun h=>absurd h (by decide),⟨rfl,rfl,rfl,rfl,rfl,trivial⟩,rfl⟩ (by omega)) ?_
    rintro m2 a C' ⟨k,hk,hk1,hk2,ha,rfl⟩
    refine i6 _ ha ?_
    simp only[gJ]
    obtain rfl|rfl|rfl:k=0\/k=1\/k=2:=by omega
    ·rcases hO with h11|⟨h00,hs0,hr⟩
     ·repeat' (first|(show aN _ _ _ _ _ _ _;refine fU ?_)|refine Hk ?_|refine dw dA ?_|refine w5 ?_ ?_|((refine bh fun h=>?_) <;> try exact w6 h)|(refine aE fun hA=>?_;subst hA)|intro _|(show aA _ 13 _ _ _;refine CA (h:=Bg (x:=x0) (ad:=a0) (c:=d0) hP0 ?_);unfold zN;rw[h11])|(show aA _ 14 _ _ _;refine CA (h:=Ni (x:=x0) (ad:=a0) (c:=d0) ?_))|(show aA _ 15 _ _ _;refine CA (h:=Mg (x:=x0) (ad:=a0) (c:=d0) ?_))|(show aA _ 16 _ _ _;refine CA (h:=N8 (x:=x0) (ad:=a0) (c:=d0) hP0 ?_))|(show aA _ 17 _ _ _;refine CA (h:=Nf (x:=x1) (ad:=a1) (c:=d1) ?_))|(show aA _ 18 _ _ _;refine CA (h:=Ov (x:=x1) (ad:=a1) (c:=d1) ?_)))
      all_goals(refine aC ?_;exact aB (k1 _ rfl))
     ·repeat' (first|(show aN _ _ _ _ _ _ _;refine fU ?_)|refine Hk ?_|refine dw dA ?_|refine w5 ?_ ?_|((refine bh fun h=>?_) <;> try exact w6 h)|(refine aE fun hA=>?_;subst hA)|intro _|(show aA _ 13 _ _ _;refine CA (h:=Bg (x:=x0) (ad:=a0) (c:=d0) hP0 ?_);unfold zN;rw[h00])|(show aA _ 14 _ _ _;refine CA (h:=Ni (x:=x0) (ad:=a0) (c:=d0) ?_))|(show aA _ 15 _ _ _;refine CA (h:=Mg (x:=x0) (ad:=a0) (c:=d0) ?_))|(show aA _ 16 _ _ _;refine CA (h:=N8 (x:=x0) (ad:=a0) (c:=d0) hP0 ?_))|(show aA _ 17 _ _ _;refine CA (h:=Nf (x:=x1) (ad:=a1) (c:=d1) ?_))|(show aA _ 18 _ _ _;refine CA (h:=Ov (x:=x1) (ad:=a1) (c:=d1) ?_)))
      all_goals(show aU _ _ _ _;exact cJ (m2 - 1) ⟨1,by omega,fun _=>hr,fun h=>absurd h (by decide),⟨rfl,rfl,rfl,rfl,rfl,trivial⟩,rfl⟩)
    ·rcases hk1 (by decide) with h11|⟨h00,hs0,hr⟩
     ·repeat' (first|(show aN _ _ _ _ _ _ _;refine fU ?_)|refine Hk ?_|refine dw dA ?_|refine w5 ?_ ?_|((refine bh fun h=>?_) <;> try exact w6 h)|(refine aE fun hA=>?_;subst hA)|intro _|(show aA _ 13 _ _ _;refine CA (h:=Bg (x:=x1) (ad:=a1) (c:=d1) hP1 ?_);unfold zN;rw[h11])|(show aA _ 14 _ _ _;refine CA (h:=Ni (x:=x1) (ad:=a1) (c:=d1) ?_))|(show aA _ 15 _ _ _;refine CA (h:=Mg (x:=x1) (ad:=a1) (c:=d1) ?_))|(show aA _ 16 _ _ _;refine CA (h:=N8 (x:=x1) (ad:=a1) (c:=d1) hP1 ?_))|(show aA _ 17 _ _ _;refine CA (h:=Nf (x:=x0) (ad:=a0) (c:=d0) ?_))|(show aA _ 18 _ _ _;refine CA (h:=Ov (x:=x0) (ad:=a0) (c:=d0) ?_)))
      all_goals(refine aC ?_;exact aB (k1 _ rfl))
     ·repeat' (first|(show aN _ _ _ _ _ _ _;refine fU ?_)|refine Hk ?_|refine dw dA ?_|refine w5 ?_ ?_|((refine bh fun h=>?_) <;> try exact w6 h)|(refine aE fun hA=>?_;subst hA)|intro _|(show aA _ 13 _ _ _;refine CA (h:=Bg (x:=x1) (ad:=a1) (c:=d1) hP1 ?_);unfold zN;rw[h00])|(show aA _ 14 _ _ _;refine CA (h:=Ni (x:=x1) (ad:=a1) (c:=d1) ?_))|(show aA _ 15 _ _ _;refine CA (h:=Mg (x:=x1) (ad:=a1) (c:=d1) ?_))|(show aA _ 16 _ _ _;refine CA (h:=N8 (x:=x1) (ad:=a1) (c:=d1) hP1 ?_))|(show aA _ 17 _ _ _;refine CA (h:=Nf (x:=x0) (ad:=a0) (c:=d0) ?_))|(show aA _ 18 _ _ _;refine CA (h:=Ov (x:=x0) (ad:=a0) (c:=d0) ?_)))
      all_goals(show aU _ _ _ _;exact cJ (m2 - 1) ⟨2,by omega,fun _=>.inr ⟨by first|exact h00|rfl,hs0,hr⟩,fun _=>hr,⟨rfl,rfl,rfl,rfl,rfl,trivial⟩,rfl⟩)
    ·have hJ2:=hk2 (by decide)
     repeat' (first|refine Hk ?_|refine dw dA ?_|refine w5 ?_ ?_|((refine bh fun h=>?_) <;> try exact w6 h)|(refine aE fun hA=>?_;subst hA)|intro _)
     all_goals(show aU _ _ _ _;exact cJ (m - 1) ⟨j+1,d0,d1,v0,v1,by omega,by omega,hJ2,⟨rfl,rfl,rfl,rfl,trivial⟩,rfl⟩)
  ·repeat' (first|refine Hk ?_|refine dw dA ?_|refine w5 ?_ ?_|((refine bh fun h=>?_) <;> try exact w6 h)|(refine aE fun hA=>?_;subst hA)|intro _)
   all_goals(refine aC ?_;exact aB (k1 _ rfl))
 ·repeat' (first|refine Hk ?_|refine dw dA ?_|refine w5 ?_ ?_|((refine bh fun h=>?_) <;> try exact w6 h)|(refine aE fun hA=>?_;subst hA)|intro _)
  all_goals(refine aC ?_;exact aB (k1 _ rfl))
end
end Go.Proofs.YtepnmcipkangkaaGreat
