/- A part of the proof: lemmas; each with the conditions that it states. -/
import Derived.Test.YtepnmcipkangkaaGreatPbl
import Derived.Test.YtepnmcipkangkaaGreatPbj
set_option linter.unusedVariables false
set_option linter.unusedSimpArgs false
set_option maxRecDepth 100000
set_option maxHeartbeats 40000000
namespace Go.Proofs.YtepnmcipkangkaaGreat
open Go Go.Proofs Go.Sl
variable {s s1 s2 s' a a' b b' z:Cn} {id k n on w la L st sd B Q D G:Int} {x:Bool} {f g:Fm} {Ta Tb S T gl xs E bl bl2:List Fm} {t:dZ} {d:ByteArray} {m:Sm} {q:xN} {l:List Sm}
section
variable {c:Int}
structure Og (s:Cn) (g:Fm):Prop where
 r:bR g
 c:AI g
 t:g.t=2/\g.st=s.nx/\s.nx<=2147483647/\g.on≠g.st\/g.t=3/\g.on≠g.st/\gF s.sd s.nx s.la g.st=true\/g.t=4/\gF s.sd s.nx s.la g.st=true\/g.t=5/\psI g.ps/\g.st=0\/g.t=9/\g.c=0/\g.st=0
structure Ow (s s':Cn) (g:Fm):Prop where
 og:Og s g
 sd:s'.sd=s.sd
 la:s'.la=s.la
 got:s'.rv.got=s.rv.got
 gr:s'.rv.gr=s.rv.gr
 sp:s'.ld.sp=s.ld.sp
 n0:s'.ld.n0=s.ld.n0
 pe:s'.pe=s.pe
 last:s'.last=s.last
 ti:s'.bt.ev=s.bt.ev/\s'.sl.li=s.sl.li
 nx:s'.nx=s.nx+(if g.t=2 then 2 else 0)
 sh:s'.sh.l.length=s.sh.l.length+(if g.t=5 then 1 else 0)
 out:s'.out=s.out++ [g]
 ov:s.dr.ov=false
 ov2:s'.dr.ov=false
 co:s'.dr.co=s.dr.co
 ln:∀e∈s'.ld.l,e∈s.ld.l\/e.n=s.pe.w/\e.id=s.nx/\g.t=2
theorem Ow.sb (h:Ow s s1 g) (h2:Sb s1 s2):Ow s s2 g:=
 { og:=h.og
   sd:=(congrArg Jn.sd h2.j).trans h.sd
   la:=(congrArg Jn.la h2.j).trans h.la
   got:=(congrArg Jn.got h2.j).trans h.got
   gr:=(congrArg Jn.gr h2.j).trans h.gr
   sp:=(congrArg Jn.sp h2.j).trans h.sp
   n0:=(congrArg Jn.n0 h2.j).trans h.n0
   pe:=(congrArg Jn.pe h2.j).trans h.pe
   last:=(congrArg Jn.last h2.j).trans h.last
   ti:=⟨(congrArg Jn.ev h2.j).trans h.ti.1,(congrArg Jn.li h2.j).trans h.ti.2⟩
   nx:=(congrArg Jn.nx h2.j).trans h.nx
   sh:=(congrArg (fun j=>j.sh.l.length) h2.j).trans h.sh
   out:=(congrArg Jn.out h2.j).trans h.out
   ov:=h.ov
   ov2:=h2.ov.trans h.ov2
   co:=(congrArg (fun j=>j.dr.co) h2.j).trans h.co
   ln:=fun e he=>h.ln e (h2.l e he) }
theorem lT:Sb s (aD s):=⟨rfl,fun _ h=>h⟩
theorem IE:Sb s (wV m (aD s)):=⟨rfl,fun _ h=>h⟩
theorem Aem:Sb s (oW id d s):=by
 unfold oW
 split
 ·exact lT
 ·split
  ·exact IE
  ·exact Sb.rfl'
theorem Aoh:Sb s (Ax id s):=by
 unfold Ax
 split
 ·exact lT
 ·split
  ·exact IE
  ·exact Sb.rfl'
theorem Anu:Sb s (Ar id n s):=by
 unfold Ar
 split
 ·exact lT
 ·split
  ·exact IE
  ·exact Sb.rfl'
theorem Ai2:Sb s (tV id n s):=by
 unfold tV
 split
 ·exact lT
 ·split
  ·split
   ·exact lT
   ·exact Sb.trans (IE.trans Nr) HG
  ·exact Sb.rfl'
theorem Alv:Sb s (tZ id s):=by
 unfold tZ
 split
 ·exact lT
 ·split
  ·split
   ·exact lT
   ·exact IE.trans HG
  ·exact Sb.rfl'
theorem MM:Sb s (pI s):=⟨rfl,fun _ h=>h⟩
theorem V8 (h:cG s id=0):s.dr.ov=false/\∃m,bY id s.l=some m:=by
 unfold cG at h
 split at h
 ·exact absurd h (by decide)
 ·rename_i ho
  refine⟨by simpa using ho,?_⟩
  split at h
  ·rename_i m hm;exact⟨m,hm⟩
  ·split at h <;> exact absurd h (by decide)
theorem F7 (hI:bO B s) (h:bY id s.l=some m):gF s.sd s.nx s.la id=true:=by
 obtain⟨hi,hm⟩:=aX h
 rw[<- hm]
 exact hI.ids m (List.mem_of_getElem? hi)
theorem M4 (h:zB f xs=0):lM f=true:=by
 cases hq:lM f
 ·exact absurd h (by unfold zB;rw[if_pos hq];decide)
 ·rfl
theorem Kl (hc:lM f=true) (ht:¬f.t<2) (hl:¬64<=xs.length):zB f xs=0:=by
 unfold zB
 rw[if_neg (by rw[hc];decide),if_neg ht]
 split
 ·rfl
 ·first|rfl|exact if_neg hl
theorem Akx (hI:bO B s):Sb s (sI id on w x s)\/∃g,Ow s (sI id on w x s) g:=by
 unfold sI
 split
 ·exact .inl lT
 ·rename_i hq
  right
  have h1:cG s id=0:=Classical.byContradiction fun h=>hq (.inl h)
  have h3:on≠id:=fun h=>hq (.inr (.inr (.inl h)))
  have h4:zB (mP id on w x) s.out=0:=Classical.byContradiction fun h=>hq (.inr (.inr (.inr h)))
  have h2:=M4 h4
  obtain⟨ho,m,hm⟩:=V8 h1
  have hcr:AI (mP id on w x):=⟨rfl,rfl,rfl⟩
  have e:wK (mP id on w x) s.out=s.out++ [mP id on w x]:=by
   rw[DK ⟨by show(3:Int)≠10;decide,by show(3:Int)≠11;decide⟩ h4,z7 hcr]
  exact⟨mP id on w x,{
   og:=⟨(iX _).1 h2,hcr,.inr (.inl ⟨rfl,h3,F7 hI hm⟩)⟩
   sd:=rfl
   la:=rfl
   got:=rfl
   gr:=rfl
   sp:=rfl
   n0:=rfl
   pe:=rfl
   last:=rfl
   ti:=⟨rfl,rfl⟩
   nx:=(Int.add_zero _).symm
   sh:=rfl
   out:=e
   ov:=ho
   ov2:=ho
   co:=rfl
   ln:=fun e he=>.inl he }⟩
theorem Adc (hI:bO B s):Sb s (nC id c s)\/∃g,Ow s (nC id c s) g:=by
 unfold nC
 split
 ·exact .inl lT
 ·rename_i hq
  right
  have hq:kQ id c s=0:=Classical.byContradiction hq
  have h1:cG s id=0/\zB (fK id c) s.out=0:=by
   unfold kQ at hq
   split at hq
   ·rename_i h;exact absurd hq h
   ·rename_i h
    split at hq
    ·exact absurd hq (by decide)
    ·split at hq
     ·exact absurd hq (by decide)
     ·rename_i h4;exact⟨Classical.byContradiction h,Classical.byContradiction h4⟩
  obtain⟨ho,m,hm⟩:=V8 h1.1
  have h2:=M4 h1.2
  rw[hm]
  dsimp only
  have hcr:AI (fK id c):=⟨rfl,rfl,rfl⟩
  have e:wK (fK id c) s.out=s.out++ [fK id c]:=by
   rw[DK ⟨by show(4:Int)≠10;decide,by show(4:Int)≠11;decide⟩ h1.2,z7 hcr]
  refine⟨fK id c,Ow.sb (s1:= { aD s with out:=wK (fK id c) s.out }) {
   og:=⟨(iX _).1 h2,hcr,.inr (.inr (.inl ⟨rfl,F7 hI hm⟩))⟩
   sd:=rfl
   la:=rfl
   got:=rfl
   gr:=rfl
   sp:=rfl
   n0:=rfl
   pe:=rfl
   last:=rfl
   ti:=⟨rfl,rfl⟩
   nx:=(Int.add_zero _).symm
   sh:=rfl
   out:=e
   ov:=ho
   ov2:=ho
   co:=rfl
   ln:=fun e he=>.inl he } HV⟩
theorem Apt:Sb s (EK s)\/∃g,Ow s (EK s) g:=by
 unfold EK
 split
 ·exact .inl lT
 ·rename_i hq
  right
  have ho:s.dr.ov=false:=by
   cases h:s.dr.ov
   ·rfl
   ·exact absurd (.inl h) hq
  have h4:zB (zM s.la 0) s.out=0:=Classical.byContradiction fun h=>hq (.inr (.inr h))
  have h2:=M4 h4
  have hcr:AI (zM s.la 0):=⟨rfl,rfl,rfl⟩
  have e:wK (zM s.la 0) s.out=s.out++ [zM s.la 0]:=by
   rw[DK ⟨by show(9:Int)≠10;decide,by show(9:Int)≠11;decide⟩ h4,z7 hcr]
  exact⟨zM s.la 0,{
   og:=⟨(iX _).1 h2,hcr,.inr (.inr (.inr (.inr ⟨rfl,rfl,rfl⟩)))⟩
   sd:=rfl
   la:=rfl
   got:=rfl
   gr:=rfl
   sp:=rfl
   n0:=rfl
   pe:=rfl
   last:=rfl
   ti:=⟨rfl,rfl⟩
   nx:=(Int.add_zero _).symm
   sh:=rfl
   out:=e
   ov:=ho
   ov2:=FY.trans ho
   co:=by show(AQ s.dr s.la).co=_;unfold AQ;split <;> rfl
   ln:=fun e he=>.inl he }⟩
theorem NZ {P:Pr->Prop} {i u v:Int} {l:List Pr} (h:∀p∈l,P p) (hv:P ⟨i,v⟩):∀p∈Kw i u v l,P p:=by
 unfold Kw
 split
 ·exact h
 ·intro p hp
  rcases List.mem_append.1 hp with hp|hp
  ·exact h p hp
  ·rw[List.mem_singleton.1 hp];exact hv
theorem Mk {u:dZ} (h:tM t):bR (vK (Ds u t))/\psI (Ds u t):=by
 unfold tM rT at h
 rw[decide_eq_true_eq] at h
 have key:∀p∈Ds u t,(0<=p.i/\p.i<=65535)/\0<=p.v/\p.v<=4096:=by
  unfold Ds
  refine NZ (NZ (NZ (fun p hp=>by cases hp) ?_) ?_) ?_ <;> (dsimp only;omega)
 have hps:KY (Ds u t)=true:=by
  unfold KY
  rw[List.all_eq_true]
  intro p hp
  have:=key p hp
  have h2:=(oV p.v).2 ⟨this.2.1,by omega⟩
  simp only[Bool.and_eq_true,decide_eq_true_eq]
  exact⟨this.1,h2⟩
 have hl:=OU (u:=u) (v:=t)
 refine⟨?_,fun p hp=>(key p hp).2⟩
 have h3:Hu 0=true:=by decide
 have h5:(⟨#[]⟩:ByteArray)=ByteArray.empty:=rfl
 unfold bR sJ vK
 simp[h3,h5,hps,C9]
 omega
theorem Ai5 (hI:bO B s):Sb s (wO t s)\/∃g,Ow s (wO t s) g:=by
 unfold wO
 split
 ·exact .inl lT
 ·rename_i hq
  right
  have ho:s.dr.ov=false:=by
   cases h:s.dr.ov
   ·rfl
   ·exact absurd (.inl h) hq
  have h6:¬64<=s.out.length:=fun h=>hq (.inr (.inl h))
  have h7:g8 s.sh t=0:=Classical.byContradiction fun h=>hq (.inr (.inr h))
  have ht:tM t:=by
   unfold tM
   unfold g8 at h7
   cases hc:rT t.w t.st t.it
   ·rw[if_pos hc] at h7;exact absurd h7 (by decide)
   ·rfl
  obtain⟨hr,hp⟩:=Mk (u:=mK s.sh) ht
  have h2:=(iX _).2 hr
  have h4:zB (vK (Ds (mK s.sh) t)) s.out=0:=Kl h2 (by show ¬(5:Int)<2;decide) h6
  have hcr:AI (vK (Ds (mK s.sh) t)):=⟨rfl,rfl,rfl⟩
  have e:wK (vK (Ds (mK s.sh) t)) s.out=s.out++ [vK (Ds (mK s.sh) t)]:=by
   rw[DK ⟨by show(5:Int)≠10;decide,by show(5:Int)≠11;decide⟩ h4,z7 hcr]
  exact⟨vK (Ds (mK s.sh) t),{
   og:=⟨hr,hcr,.inr (.inr (.inr (.inl ⟨rfl,hp,rfl⟩)))⟩
   sd:=rfl
   la:=rfl
   got:=rfl
   gr:=rfl
   sp:=rfl
   n0:=rfl
   pe:=rfl
   last:=rfl
   ti:=⟨rfl,rfl⟩
   nx:=(Int.add_zero _).symm
   sh:=by
    show(eB s.sh t).l.length=s.sh.l.length+1
    unfold eB
    rw[if_pos h7,List.length_append];rfl
   out:=e
   ov:=ho
   ov2:=ho
   co:=rfl
   ln:=fun e he=>.inl he }⟩
theorem Aib:Sb s (mM k n on w x s)\/∃g,Ow s (mM k n on w x s) g:=by
 by_cases hE:mE k n on w x s=0
 ·right
  have h:=hE
  unfold mE at h
  split at h
  ·exact absurd h (by decide)
  rename_i c1
  split at h
  ·exact absurd h (by decide)
  split at h
  ·exact absurd h (by decide)
  split at h
  ·exact absurd h (by decide)
  split at h
  ·exact absurd h (by decide)
  rename_i c5
  split at h
  ·exact absurd h (by decide)
  rename_i c6
  split at h
  ·exact absurd h (by decide)
  rename_i c7
  split at h
  ·exact absurd h (by decide)
  rename_i c8
  have hck:lM (lK s.nx k on w x)=true:=by simpa using c6
  have ho:s.dr.ov=false:=by simpa using c1
  have h4:=Kl hck (by show ¬(2:Int)<2;decide) c8
  have hcr:AI (lK s.nx k on w x):=⟨rfl,rfl,rfl⟩
  have e:wK (lK s.nx k on w x) s.out=s.out++ [lK s.nx k on w x]:=by
   rw[DK ⟨by show(2:Int)≠10;decide,by show(2:Int)≠11;decide⟩ h4,z7 hcr]
  have e0:mM k n on w x s=GZ s.nx k on w x true n { aD s with nx:=s.nx+2,out:=wK (lK s.nx k on w x) s.out }:=by
   unfold mM
   rw[if_neg (by rw[hE];decide)]
  obtain⟨o1,o2,o3⟩:=Ic (id:=s.nx) (z:=s.ld) (n:=s.pe.w)
  rw[e0]
  exact⟨lK s.nx k on w x,{
   og:=⟨(iX _).1 hck,hcr,.inl ⟨rfl,rfl,by omega,c7⟩⟩
   sd:=rfl
   la:=rfl
   got:=rfl
   gr:=rfl
   sp:=by
    show(if k=1 then gG s.nx s.pe.w s.ld else s.ld).sp=_
    split
    ·exact o1
    ·rfl
   n0:=by
    show(if k=1 then gG s.nx s.pe.w s.ld else s.ld).n0=_
    split
    ·exact o2
    ·rfl
   pe:=rfl
   last:=rfl
   ti:=⟨rfl,rfl⟩
   nx:=rfl
   sh:=rfl
   out:=e
   ov:=ho
   ov2:=ho
   co:=rfl
   ln:=fun e he=>by
    have he:e∈(if k=1 then gG s.nx s.pe.w s.ld else s.ld).l:=he
    split at he
    ·rcases o3 e he with h|h
     ·exact .inl h
     ·exact .inr ⟨by rw[h],by rw[h],rfl⟩
    ·exact .inl he }⟩
 ·left
  unfold mM
  rw[if_pos hE]
  exact lT
theorem Rk {N:Int}:∀ {S:List Fm} {la:Int},la<N->(∀f∈S,f.t=2->f.st<N)->w9 la S<N
 | [],_,h,_=>h
 |f::S,la,h,h2=>by
  show w9 (AJ la f) S<N
  refine Rk ?_ fun z hz=>h2 z (List.mem_cons_of_mem _ hz)
  unfold AJ
  split
  ·rename_i ht;exact h2 f (List.mem_cons_self ..) ht
  ·exact h
theorem Og.fo (h:Og a g) (hI:bO B a) (hL:L<a.nx) (hn:a.nx<=L+2) (hla:a.la<b.nx) (hs:a.sd=1 - b.sd):FO b.sd b.nx L g:=by
 obtain⟨x1,x2,x3⟩:=hI.nx
 have hp:∀ {st:Int},gF a.sd a.nx a.la st=true->gF b.sd b.nx L st=true:=fun hq=>Gb hq hla hn hs hI.sd x3
 have ht:=h.t
 exact {
  r:=h.r
  c:=h.c
  op:=fun h2=>by
   rcases ht with⟨_,q2,q3,q4⟩|⟨q1,_⟩|⟨q1,_⟩|⟨q1,_⟩|⟨q1,_⟩
   ·refine⟨?_,q4⟩
    unfold nF
    rw[if_pos]
    refine⟨?_,by omega⟩
    rw[<- hs,q2]
    unfold PI
    simp only[Bool.and_eq_true,decide_eq_true_eq,beq_iff_eq]
    exact⟨⟨x1,q3⟩,decide_eq_decide.2 x3⟩
   all_goals omega
  pr:=fun h3=>by
   rcases ht with⟨q1,_⟩|⟨_,q2,_⟩|⟨q1,_⟩|⟨q1,_⟩|⟨q1,_⟩
   ·omega
   ·exact q2
   all_goals omega
  se:=fun h5=>by
   rcases ht with⟨q1,_⟩|⟨q1,_⟩|⟨q1,_⟩|⟨_,q2,_⟩|⟨q1,_⟩
   ·omega
   ·omega
   ·omega
   ·exact q2
   ·omega
  go:=fun h9=>by
   rcases ht with⟨q1,_⟩|⟨q1,_⟩|⟨q1,_⟩|⟨q1,_⟩|⟨_,q2,_⟩
   all_goals omega
  wh:=fun h10=>by
   rcases ht with⟨q1,_⟩|⟨q1,_⟩|⟨q1,_⟩|⟨q1,_⟩|⟨q1,_⟩
   all_goals omega
  pa:=fun h0 h2=>by
   rcases ht with⟨q1,_⟩|⟨_,_,q2⟩|⟨_,q2⟩|⟨_,_,q2⟩|⟨_,_,q2⟩
   ·exact absurd q1 h2
   ·exact hp q2
   ·exact hp q2
   ·exact absurd q2 h0
   ·exact absurd q2 h0 }
theorem Og.rng (h:Og a g):2<=g.t/\g.t<=9/\g.t≠6:=by
 rcases h.t with⟨q1,_⟩|⟨q1,_⟩|⟨q1,_⟩|⟨q1,_⟩|⟨q1,_⟩ <;> omega
theorem Vu:nT n (S++ [g])=nT n S+(if g.t=n then 1 else 0):=by rw[Jt,fT]
theorem HX.ownL (hI:bO B a) (h:HX k a b Ta Tb) (h2:HX k b a Tb Ta) (ho:Ow a a' g):HX k a' b Ta Tb:=by
 have hg:=ho.og.rng
 have hL:b.dr.ov=false->w9 b.la (Tb++a.out)<a.nx:=fun hb=>Rk h2.la (h.hi hb)
 have hnx:=ho.nx
 exact {
  sq:=fun hb=>by
   rw[ho.out,<- List.append_assoc]
   exact uI.2 ⟨h.sq hb,ho.og.fo hI (hL hb) (h.nx hb) h.la h.sd,trivial⟩
  hi:=fun hb z hz hz2=>by
   rw[ho.out,<- List.append_assoc] at hz
   rcases List.mem_append.1 hz with hz|hz
   ·have:=h.hi hb z hz hz2
    rw[hnx];split <;> omega
   ·rw[List.mem_singleton.1 hz] at hz2 ⊢
    rw[hnx,if_pos hz2]
    rcases ho.og.t with⟨_,q2,_⟩|⟨q1,_⟩|⟨q1,_⟩|⟨q1,_⟩|⟨q1,_⟩ <;> omega
  nx:=fun hb=>by
   have h3:=h.nx hb
   rw[ho.out,<- List.append_assoc,Gc,hnx]
   show _<=AJ (w9 b.la (Tb++a.out)) g+2
   unfold AJ
   split
   ·rename_i ht
    rcases ho.og.t with⟨_,q2,_⟩|⟨q1,_⟩|⟨q1,_⟩|⟨q1,_⟩|⟨q1,_⟩ <;> omega
   ·rename_i ht
    omega
  dt:=fun hb=>by rw[ho.sp];exact h.dt hb
  ak:=fun hb=>by
   have h3:=h.ak hb
   rw[ho.ov,if_neg Bool.false_ne_true] at h3
   rw[ho.ov2,if_neg Bool.false_ne_true,ho.out,<- List.append_assoc,Vu,if_neg hg.2.2]
   exact h3
  la:=by rw[ho.la];exact h.la
  gr:=by
   have h3:=h.gr
   rw[ho.ov,if_neg Bool.false_ne_true] at h3
   rw[ho.ov2,if_neg Bool.false_ne_true,ho.sp,ho.n0]
   exact h3
  n0:=by rw[ho.n0];exact h.n0
  gs:=fun _=>h.gs ho.ov
  ln:=fun _ e he=>by
   rw[ho.pe]
   rcases ho.ln e he with h3|h3
   ·exact h.ln ho.ov e h3
   ·have:=h.gs ho.ov e.id
    have:=h3.1
    omega
  pe:=by rw[ho.pe];exact h.pe
  co:=ho.co.trans h.co
  lst:=ho.last.trans h.lst
  ti:=⟨ho.ti.1.trans h.ti.1,ho.ti.2.trans h.ti.2⟩
  oo:=fun hq=>by rw[ho.ov2] at hq;cases hq
  sd:=by rw[ho.sd];exact h.sd
  ot:=fun z hz=>by
   rw[ho.out] at hz
   rcases List.mem_append.1 hz with hz|hz
   ·exact h.ot z hz
   ·rw[List.mem_singleton.1 hz];omega }
theorem HX.ownR (h:HX k a b Ta Tb) (ho:Ow b b' g):HX k a b' Ta Tb:=by
 have hnx:=ho.nx
 have hnx2:b.nx<=b'.nx:=by rw[hnx];split <;> omega
 exact {
  sq:=fun _=>by rw[ho.sd,ho.la];exact Qq hnx2 (h.sq ho.ov)
  hi:=fun _=>h.hi ho.ov
  nx:=fun _=>by rw[ho.la];exact h.nx ho.ov
  dt:=fun _=>by rw[ho.got];exact h.dt ho.ov
  ak:=fun _=>by
   have h3:=h.ak ho.ov
   have h4:=ho.sh
   rw[ho.out,<- List.append_assoc,Vu]
   revert h3 h4
   cases a.dr.ov
   ·rw[if_neg Bool.false_ne_true,if_neg Bool.false_ne_true]
    intro h3 h4;omega
   ·rw[if_pos rfl,if_pos rfl]
    intro h3 h4
    split at h4 <;> omega
  la:=by have:=h.la;omega
  gr:=by rw[ho.gr];exact h.gr
  n0:=h.n0
  gs:=h.gs
  ln:=h.ln
  pe:=h.pe
  co:=h.co
  lst:=h.lst
  ti:=h.ti
  oo:=h.oo
  sd:=by rw[ho.sd];exact h.sd
  ot:=h.ot }
theorem HX.mono {k2:Int} (hk:k<=k2) (h:HX k a b Ta Tb):HX k2 a b Ta Tb:=
 { h with
   gs:=fun ho id=>by have:=h.gs ho id;omega
   ln:=fun ho e he=>by have:=h.ln ho e he;omega }
end
section
variable {c:Cf}
theorem NO:∀ {S:List Fm},(∀g∈S,g.t≠0)->dS S=0
 | [],_=>rfl
 |g::S,h=>by
  rw[M5,if_neg (h g (List.mem_cons_self ..)),NO fun z hz=>h z (List.mem_cons_of_mem _ hz)];rfl
theorem H4:∀ {S:List Fm},(∀g∈S,g.t≠10)->gS id S=0
 | [],_=>rfl
 |g::S,h=>by
  rw[wU,if_neg (fun hq=>h g (List.mem_cons_self ..) hq.1),H4 fun z hz=>h z (List.mem_cons_of_mem _ hz)];rfl
def Xf (a:Cn) (g:Fm):Prop:=bR g/\AI g/\(g.t=0\/g.t=1\/g.t=10\/g.t=11)/\(10<=g.t->1<=g.n)/\(g.st≠0->gF a.sd a.nx a.la g.st=true)
theorem Xf.fo (h:Xf a g) (hI:bO B a) (hn:a.nx<=L+2) (hla:a.la<b.nx) (hs:a.sd=1 - b.sd):g.t≠2/\FO b.sd b.nx L g:=by
 obtain⟨x1,x2,x3⟩:=hI.nx
 obtain⟨h1,h2,h3,h4,h5⟩:=h
 exact⟨by omega,h1,h2,by omega,by omega,by omega,by omega,fun h10=>h4 (by omega),fun h0 _=>Gb (h5 h0) hla hn hs hI.sd x3⟩
theorem VR {p q r:Int}:0<=rJ p q r/\(rJ p q r=0\/rJ p q r=p - (q - r)):=by
 unfold rJ
 split
 ·rename_i h;exact⟨by omega,.inr rfl⟩
 ·exact⟨Int.le_refl _,.inl rfl⟩
theorem R8 (h:JV B s.rv):0<=nH s.rv/\nH s.rv<=4096:=by
 obtain⟨h1,h2,h3,h4,h5,h6⟩:=h
 unfold nH
 obtain⟨p1,p2⟩:=VR (p:=s.rv.cap) (q:=s.rv.gr) (r:=s.rv.us)
 omega
theorem Adr {y:Ys} (h:QB y):Hz y<=4096:=by
 cases y with
 |b y=>
  obtain⟨h1,h2,h3,h4,h5,h6,h7,h8,h9,h10⟩:=h
  show rJ y.cap y.gr y.us<=4096
  obtain⟨p1,p2⟩:=VR (p:=y.cap) (q:=y.gr) (r:=y.us)
  omega
 |i y=>
  obtain⟨h1,h2,h3,h4,h5,h6,h7,h8,h9,h10,h11⟩:=h
  show xO y.room y.op y.ask y.l<=4096
  unfold xO
  omega
theorem Ao9 (hI:bO B s) (hF:∀m∈s.l,FK m):∀f∈iR s,Xf s f:=fun f hf=>by
 have h1:=(J5 hI hF f hf)
 unfold iR at hf
 rcases List.mem_append.1 hf with hf|hf
 ·unfold Eg at hf
  split at hf
  ·rename_i hn
   rw[List.mem_singleton.1 hf] at h1 ⊢
   exact⟨h1.1,⟨rfl,rfl,rfl⟩,.inr (.inr (.inl rfl)),fun _=>hn,fun h=>absurd rfl h⟩
  ·cases hf
 ·obtain⟨m,hm,hf⟩:=List.mem_flatMap.1 hf
  unfold mD at hf
  split at hf
  ·unfold Eg at hf
   split at hf
   ·rename_i hn
    rw[List.mem_singleton.1 hf] at h1 ⊢
    refine⟨h1.1,⟨rfl,rfl,rfl⟩,.inr (.inr ?_),fun _=>hn,fun _=>hI.ids m hm⟩
    show(if bA m.x=2 then(11:Int) else 10)=10\/(if bA m.x=2 then(11:Int) else 10)=11
    split
    ·exact .inr rfl
    ·exact .inl rfl
   ·cases hf
  ·cases hf
theorem Afv {t:Int}:(gS id (Eg t st n)=0\/st=id)/\(n<=4096->gS id (Eg t st n)<=4096):=by
 unfold Eg
 by_cases hn:0<n
 ·rw[if_pos hn,iN]
  by_cases hq:(zD t st n).t=10/\(zD t st n).st=id
  ·rw[if_pos hq];exact⟨.inr hq.2,fun h=>h⟩
  ·rw[if_neg hq];exact⟨.inl rfl,fun _=>by decide⟩
 ·rw[if_neg hn];exact⟨.inl rfl,fun _=>by show(0:Int)<=4096;decide⟩
theorem Abp:(gS id (mD m)=0\/m.id=id)/\(FK m->gS id (mD m)<=4096):=by
 unfold mD
 by_cases hr:XZ m=true
 ·rw[if_pos hr];exact⟨Afv.1,fun hF=>Afv.2 (Adr hF.2.1)⟩
 ·rw[if_neg hr];exact⟨.inl rfl,fun _=>by show(0:Int)<=4096;decide⟩
theorem Nw:∀ {l:List Sm},(∀m∈l,m.id≠id)->gS id (l.flatMap mD)=0
 | [],_=>rfl
 |m::l,h=>by
  rw[List.flatMap_cons,t6,Nw fun z hz=>h z (List.mem_cons_of_mem _ hz)]
  rcases(Abp (id:=id) (m:=m)).1 with h1|h1
  ·rw[h1];rfl
  ·exact absurd h1 (h m (List.mem_cons_self ..))
theorem Adl:∀ {l:List Sm},(l.Pairwise fun a b=>a.id<b.id)->(∀m∈l,FK m)->gS id (l.flatMap mD)<=4096
 | [],_,_=>by show(0:Int)<=4096;decide
 |m::l,h,hF=>by
  obtain⟨p1,p2⟩:=List.pairwise_cons.1 h
  rw[List.flatMap_cons,t6]
  rcases(Abp (id:=id) (m:=m)).1 with h1|h1
  ·rw[h1]
   have:=Adl p2 fun z hz=>hF z (List.mem_cons_of_mem _ hz)
   omega
  ·have h2:=(Abp (id:=id) (m:=m)).2 (hF m (List.mem_cons_self ..))
   rw[Nw fun z hz=>by have:=p1 z hz;omega]
   omega
theorem VB (hI:bO B s):gS 0 (iR s)=nH s.rv:=by
 have h1:=R8 hI.rv
 unfold iR
 rw[t6,Nw fun m hm=>by have:=(hI.st m hm).id;omega,Int.add_zero]
 unfold Eg
 split
 ·rw[iN,if_pos ⟨rfl,rfl⟩];rfl
 ·show(0:Int)=_;omega
theorem Apa (hI:bO B s) (hF:∀m∈s.l,FK m):gS id (iR s)<=4096:=by
 by_cases h0:id=0
 ·rw[h0,VB hI];exact(R8 hI.rv).2
 ·unfold iR
  rw[t6]
  have h2:=Adl (id:=id) hI.sm.2 hF
  have h3:gS id (Eg 10 0 (nH s.rv))=0:=by
   unfold Eg
   split
   ·rw[iN,if_neg (fun hq=>h0 hq.2.symm)]
   ·rfl
  omega
structure Bu (s z:Cn) (bl:List Fm):Prop where
 j:jn z= { jn s with sp:=s.ld.sp+dS bl,n0:=s.ld.n0 - dS bl }
 n1:0<=s.ld.n0->0<=z.ld.n0
 ln:∀e'∈z.ld.l,∃e∈s.ld.l,e'.id=e.id/\e'.n<=e.n/\(e'.n=e.n\/0<=e'.n)
 fl:∀f∈bl,Xf s f/\f.t<=1
theorem Aei (h:Sb s z):Bu s z []:=by
 refine⟨?_,fun h0=>?_,fun e he=>⟨e,h.l e he,rfl,Int.le_refl _,.inl rfl⟩,fun f hf=>by cases hf⟩
 ·rw[h.j]
  show jn s= { jn s with sp:=s.ld.sp+0,n0:=s.ld.n0 - 0 }
  rw[Int.add_zero,Int.sub_zero];rfl
 ·have:z.ld.n0=s.ld.n0:=congrArg Jn.n0 h.j
  omega
theorem Bu.trans (h:Bu s s1 bl) (h2:Bu s1 z bl2):Bu s z (bl++bl2):=by
 have e1:s1.ld.sp=s.ld.sp+dS bl:=congrArg Jn.sp h.j
 have e2:s1.ld.n0=s.ld.n0 - dS bl:=congrArg Jn.n0 h.j
 have e3:s1.sd=s.sd:=congrArg Jn.sd h.j
 have e4:s1.nx=s.nx:=congrArg Jn.nx h.j
 have e5:s1.la=s.la:=congrArg Jn.la h.j
 refine⟨?_,fun h0=>h2.n1 (h.n1 h0),fun e he=>?_,fun f hf=>?_⟩
 ·rw[h2.j,h.j,e1,e2,NL,show s.ld.sp+dS bl+dS bl2=s.ld.sp+(dS bl+dS bl2) by omega,show s.ld.n0 - dS bl - dS bl2=s.ld.n0 - (dS bl+dS bl2) by omega]
 ·obtain⟨e1,m1,q1,q2,q3⟩:=h2.ln e he
  obtain⟨e0,m0,r1,r2,r3⟩:=h.ln e1 m1
  exact⟨e0,m0,q1.trans r1,by omega,by omega⟩
 ·rcases List.mem_append.1 hf with hf|hf
  ·exact h.fl f hf
  ·obtain⟨⟨x1,x2,x3,x4,x5⟩,x6⟩:=h2.fl f hf
   rw[e3,e4,e5] at x5
   exact⟨⟨x1,x2,x3,x4,x5⟩,x6⟩
theorem Ann {l:List gQ} {i j:Nat} {e e':gQ} (h:l.Pairwise fun a b=>a.id<b.id) (h1:l[i]?=some e) (h2:l[j]?=some e') (hij:i≠j):e.id≠e'.id:=by
 obtain⟨i1,rfl⟩:=List.getElem?_eq_some_iff.1 h1
 obtain⟨j1,rfl⟩:=List.getElem?_eq_some_iff.1 h2
 have hp:=List.pairwise_iff_getElem.1 h
 rcases Nat.lt_or_ge i j with q|q
 ·have:=hp i j i1 j1 q;omega
 ·have:=hp j i j1 i1 (by omega);omega
theorem Aa0 {z:Ld} {kk:Int} (hg:G7 B z) (h:nS id kk z=0):(jI id kk z).sp=z.sp+kk/\(jI id kk z).n0=z.n0 - kk/\(0<=z.n0->0<=z.n0 - kk)/\∀e'∈(jI id kk z).l,∃e∈z.l,e'.id=e.id/\e'.n=e.n - (if e.id=id then kk else 0)/\0<=kk/\(e.id=id->kk=0\/kk<=e.n):=by
 have h':=h
 unfold nS at h'
 split at h'
 ·exact absurd h' (by decide)
 rename_i c1
 split at h'
 ·exact absurd h' (by decide)
 rename_i c2
 split at h'
 ·exact absurd h' (by decide)
 rename_i c3
 unfold jI
 rw[if_neg (by rw[h];decide)]
 unfold bB at c3
 cases hl:pL id z.l with
 |none=>rw[hl] at c1;exact absurd rfl c1
 |some e=>
  rw[hl] at c3
  dsimp only at c3 ⊢
  refine⟨rfl,rfl,by omega,fun e' he=>?_⟩
  obtain⟨hg1,hid⟩:=nV (s:=z) hl
  have hm:=List.mem_of_getElem? hg1
  obtain⟨j,hj⟩:=List.getElem?_of_mem he
  by_cases hij:nI id z.l=j
  ·subst hij
   rw[List.getElem?_set_self (List.getElem?_eq_some_iff.1 hg1).1] at hj
   have e2:=(Option.some.inj hj).symm
   refine⟨e,hm,by rw[e2],?_,by omega,fun _=>by omega⟩
   rw[e2,if_pos hid]
  ·rw[List.getElem?_set_ne hij] at hj
   have hne:=Ann hg.2.1 hg1 hj hij
   exact⟨e',List.mem_of_getElem? hj,rfl,by rw[if_neg (by omega)];omega,by omega,fun q=>absurd (hid.trans q.symm) hne⟩
theorem Aiw (hI:bO B s) (hk:fY c s) (hm:bY id s.l=some m):Bu s (vR id m q s) [Am id m s]:=by
 obtain⟨hi,hmid⟩:=aX hm
 have hmm:=List.mem_of_getElem? hi
 have hid:=(hI.st m hmm).id
 have hp:=F7 hI hm
 have hsb:Sb (qB id m q s) (vR id m q s):=by
  unfold vR
  exact Sb.trans (s':=tY ⟨1,id,C6 id m s,iJ m.x (bB id s.ld),By m.x (bB id s.ld)⟩ (wV (D7 m (bB id s.ld)) (qB id m q s))) ⟨rfl,fun _ h=>h⟩ HG
 have key:Bu s (qB id m q s) [Am id m s]:=by
  by_cases hx:bA m.x=1
  ·obtain⟨p1,p2,p3,p4⟩:=Aa0 hI.ld (VQ hI hk hm hx)
   have hd:dS [Am id m s]=((iJ m.x (bB id s.ld)).size:Nat):=by
    rw[vA]
    unfold Am
    rw[if_pos (by show bA m.x - 1=0;rw[hx];rfl)]
    rfl
   have hl:(qB id m q s).ld=jI id ((iJ m.x (bB id s.ld)).size:Nat) s.ld:=by
    show(if bA m.x=1 then _ else _)=_
    rw[if_pos hx]
   refine⟨?_,?_,?_,fun f hf=>?_⟩
   ·rw[hd,<- p1,<- p2,<- hl];rfl
   ·rw[hl,p2];exact p3
   ·rw[hl]
    intro e' he
    obtain⟨e,q1,q2,q3,q4,q5⟩:=p4 e' he
    refine⟨e,q1,q2,?_⟩
    by_cases hi:e.id=id
    ·have:=q5 hi
     rw[if_pos hi] at q3
     omega
    ·rw[if_neg hi] at q3
     omega
   ·rw[List.mem_singleton.1 hf]
    unfold Am
    rw[hx]
    exact⟨⟨Dn (.inl rfl) (by rw[<- hmid];exact hid) (E5 (hk.mo m hmm).sz),⟨rfl,rfl,rfl⟩,.inl rfl,fun h=>by have h:(10:Int)<=1 - 1:=h;omega,fun _=>hp⟩,by show(1:Int) - 1<=1;decide⟩
  ·have hx2:bA m.x=2:=by
    cases hh:m.x with
    |b y=>rw[hh] at hx;exact absurd rfl hx
    |i y=>rfl
   have hd:dS [Am id m s]=0:=by
    rw[vA]
    unfold Am
    rw[if_neg (by show ¬bA m.x - 1=0;rw[hx2];decide)]
   have hl:(qB id m q s).ld=s.ld:=by
    show(if bA m.x=1 then _ else _)=_
    rw[if_neg hx]
   refine⟨?_,?_,?_,fun f hf=>?_⟩
   ·rw[hd,Int.add_zero,Int.sub_zero,<- hl];rfl
   ·rw[hl];exact fun h=>h
   ·rw[hl];exact fun e he=>⟨e,he,rfl,Int.le_refl _,.inl rfl⟩
   ·rw[List.mem_singleton.1 hf]
    unfold Am
    rw[hx2]
    exact⟨⟨Dn (.inr rfl) (by rw[<- hmid];exact hid) (E5 (hk.mo m hmm).sz),⟨rfl,rfl,rfl⟩,.inr (.inl rfl),fun h=>by have h:(10:Int)<=2 - 1:=h;omega,fun _=>hp⟩,by show(2:Int) - 1<=1;decide⟩
 have:=key.trans (Aei hsb)
 rwa[List.append_nil] at this
theorem Sp:∀ {k:Nat} {s:Cn} {B:Int},bO B s->fY c s->B+300 * k<=250000000->Bu s (eH k s).2 (eH k s).1
 |0,s,B,hI,hk,hB=>Aei Sb.rfl'
 |k+1,s,B,hI,hk,hB=>by
  obtain⟨h1,h2⟩:=Vi hI hk (by omega)
  cases hp:AD (s.pk,s.pc) (eI s) with
  |mk o q=>
   cases o with
   |none=>
    rw[yV,HT hp]
    exact Aei ⟨rfl,fun _ h=>h⟩
   |some id=>
    obtain⟨m,hm,hr⟩:=CC hI hk hp
    have hs:=Ep hp hm hr
    rw[hs] at h1 h2
    rw[yV,hs]
    exact(Aiw (q:=q) hI hk hm).trans (Sp h1 h2 (by omega))
theorem Vk (h1:s.bt.ev=0) (h2:s.sl.li=0):bH s=s/\fA s= []:=by
 have e1:PL s.bt s.now=0:=if_pos h1
 have e2:Ah s.sl s.now (rL s)=false:=if_pos h2
 have e3:gT s.bt s.now=s.bt:=if_pos h1
 have e4:nL s.sl s.now (rL s)=s.sl:=if_pos h2
 constructor
 ·unfold bH
  rw[e1,e2,e3,e4,if_neg (by decide),if_neg (by decide)]
 ·unfold fA
  rw[e1,e2,if_pos (.inr (.inr (by decide)))]
theorem HX.sendL (hI:bO B a) (h:HX k a b Ta Tb) (hov:a.dr.ov=false) (hz:jn z= { jn a with gr:=G,sp:=a.ld.sp+D,n0:=a.ld.n0 - D,out:= [] }) (hn:0<=a.ld.n0->0<=z.ld.n0) (hl:∀e'∈z.ld.l,∃e∈a.ld.l,e'.id=e.id/\e'.n<=e.n/\(e'.n=e.n\/0<=e'.n)) (hE:∀g∈E,Xf a g) (hD:dS E=D):HX k z b Ta (Tb++(a.out++E)):=by
 have e1:z.sd=a.sd:=congrArg Jn.sd hz
 have e2:z.nx=a.nx:=congrArg Jn.nx hz
 have e3:z.la=a.la:=congrArg Jn.la hz
 have e4:z.ld.sp=a.ld.sp+D:=congrArg Jn.sp hz
 have e5:z.ld.n0=a.ld.n0 - D:=congrArg Jn.n0 hz
 have e6:z.pe=a.pe:=congrArg Jn.pe hz
 have e7:z.out= []:=congrArg Jn.out hz
 have e8:z.dr=a.dr:=congrArg Jn.dr hz
 have e9:z.last=a.last:=congrArg Jn.last hz
 have e10:z.bt.ev=a.bt.ev:=congrArg Jn.ev hz
 have e11:z.sl.li=a.sl.li:=congrArg Jn.li hz
 have hfo:∀ {L:Int},a.nx<=L+2->∀g∈E,g.t≠2/\FO b.sd b.nx L g:=fun hL g hg=>(hE g hg).fo hI hL h.la h.sd
 have ht:∀g∈E,g.t≠2/\g.t≠5/\g.t≠6:=fun g hg=>by
  have:=(hE g hg).2.2.1
  omega
 have ha:Tb++(a.out++E)++ []=(Tb++a.out)++E:=by rw[List.append_nil,List.append_assoc]
 have hd0:dS a.out=0:=NO fun g hg=>by have:=h.ot g hg;omega
 exact {
  sq:=fun hb=>by
   rw[e7,ha]
   exact uI.2 ⟨h.sq hb,MW fun g hg=>hfo (h.nx hb) g hg⟩
  hi:=fun hb f hf h2=>by
   rw[e7,ha] at hf
   rw[e2]
   rcases List.mem_append.1 hf with hf|hf
   ·exact h.hi hb f hf h2
   ·exact absurd h2 (ht f hf).1
  nx:=fun hb=>by
   rw[e7,ha,Gc,DD fun g hg=>(ht g hg).1,e2]
   exact h.nx hb
  dt:=fun hb=>by
   have:=h.dt hb
   rw[NL,NL,hd0,hD,e4]
   omega
  ak:=fun hb=>by
   rw[e7,ha,Jt,MJ (n:=6) fun g hg=>(ht g hg).2.2,e8]
   exact h.ak hb
  la:=by rw[e3];exact h.la
  gr:=by
   have:=h.gr
   rw[e4,e5,e8]
   omega
  n0:=hn h.n0
  gs:=by rw[e8];exact h.gs
  ln:=by
   rw[e8,e6]
   intro ho e' he'
   obtain⟨e,hm,q1,q2,q3⟩:=hl e' he'
   have:=h.ln ho e hm
   have:=h.pe
   rw[q1]
   omega
  pe:=by rw[e6];exact h.pe
  co:=by rw[e8];exact h.co
  lst:=by rw[e9];exact h.lst
  ti:=by rw[e10,e11];exact h.ti
  oo:=fun _=>e7
  sd:=by rw[e1];exact h.sd
  ot:=by rw[e7];exact fun f hf=>by cases hf }
theorem HX.sendR (h:HX k b a Tb Ta) (ho:∀f∈a.out,2<=f.t/\f.t<=9) (hov:a.dr.ov=false) (hz:jn z= { jn a with gr:=a.rv.gr+G,sp:=a.ld.sp+D,n0:=a.ld.n0 - D,out:= [] }) (hE:∀g∈E,Xf a g) (hG:gS 0 E=G) (h4:∀id,gS id E<=4096):HX (k+1) b z (Tb++(a.out++E)) Ta:=by
 have e1:z.sd=a.sd:=congrArg Jn.sd hz
 have e2:z.nx=a.nx:=congrArg Jn.nx hz
 have e3:z.la=a.la:=congrArg Jn.la hz
 have e4:z.rv.got=a.rv.got:=congrArg Jn.got hz
 have e5:z.rv.gr=a.rv.gr+G:=congrArg Jn.gr hz
 have e6:z.sh=a.sh:=congrArg Jn.sh hz
 have e7:z.out= []:=congrArg Jn.out hz
 have e8:z.dr=a.dr:=congrArg Jn.dr hz
 have hg0:∀ {id:Int},gS id a.out=0:=H4 fun g hg=>by have:=ho g hg;omega
 have ht:∀g∈E,g.t≠5:=fun g hg=>by
  have:=(hE g hg).2.2.1
  omega
 exact {
  sq:=by rw[e8,e1,e2,e3];exact h.sq
  hi:=by rw[e8];exact h.hi
  nx:=by rw[e8,e3];exact h.nx
  dt:=by rw[e8,e4];exact h.dt
  ak:=fun hb=>by
   have h1:=h.ak (by rw[e8] at hb;exact hb)
   have ha:Tb++(a.out++E)++ []=(Tb++a.out)++E:=by rw[List.append_nil,List.append_assoc]
   rw[e7,ha,Jt (n:=5),MJ (n:=5) (gl:=E) ht,e6]
   exact h1
  la:=by rw[e2];exact h.la
  gr:=by
   have h1:=h.gr
   rw[e5]
   revert h1
   cases b.dr.ov
   ·rw[if_neg Bool.false_ne_true,if_neg Bool.false_ne_true,t6,t6,hg0,hG]
    intro h1;omega
   ·rw[if_pos rfl,if_pos rfl]
    intro h1
    have:0<=G:=by
     rw[<- hG]
     clear h1 hG h4 e5 hz
     induction E with
     |nil=>exact Int.le_refl _
     |cons g E ih=>
      have h2:=ih (fun z hz=>hE z (List.mem_cons_of_mem _ hz)) fun z hz=>ht z (List.mem_cons_of_mem _ hz)
      have h3:=vL (hE g (List.mem_cons_self ..)).1
      rw[wU]
      split <;> omega
    omega
  n0:=h.n0
  gs:=fun hb id=>by
   have h1:=h.gs hb id
   have h2:=h4 id
   rw[t6,t6,hg0]
   omega
  ln:=fun hb e he=>by
   have h1:=h.ln hb e he
   have h2:=h4 e.id
   rw[t6,t6,hg0]
   omega
  pe:=h.pe
  co:=h.co
  lst:=h.lst
  ti:=h.ti
  oo:=h.oo
  sd:=by rw[e1];exact h.sd
  ot:=h.ot }
theorem HX.drL (h:HX k a b Ta Tb) (h2:HX k b a Tb Ta) (ho:a.dr.ov=false) (hou:a.out= []):HX k { a with dr:=tP a.dr n } b Ta Tb:=by
 unfold tP
 split
 ·have hg:=Qd (id:=0) (uI.1 (h2.sq ho)).1
  exact {
   sq:=h.sq
   hi:=h.hi
   nx:=h.nx
   dt:=h.dt
   ak:=fun hb=>by
    have h1:=h.ak hb
    show nT 6 (Tb++a.out)+0<=_
    omega
   la:=h.la
   gr:=by
    have h1:=h.gr
    rw[ho,if_neg Bool.false_ne_true] at h1
    show a.ld.sp+a.ld.n0+0<=_
    omega
   n0:=h.n0
   gs:=fun hq=>by cases hq
   ln:=fun hq=>by cases hq
   pe:=h.pe
   co:=rfl
   lst:=h.lst
   ti:=h.ti
   oo:=fun _=>hou
   sd:=h.sd
   ot:=h.ot }
 ·exact h
theorem HX.drR (h:HX k b a Tb Ta):HX k b { a with dr:=tP a.dr n } Tb Ta:=by
 unfold tP
 split
 ·exact {
   sq:=fun hq=>by cases hq
   hi:=fun hq=>by cases hq
   nx:=fun hq=>by cases hq
   dt:=fun hq=>by cases hq
   ak:=fun hq=>by cases hq
   la:=h.la
   gr:=h.gr
   n0:=h.n0
   gs:=h.gs
   ln:=h.ln
   pe:=h.pe
   co:=h.co
   lst:=h.lst
   ti:=h.ti
   oo:=h.oo
   sd:=h.sd
   ot:=h.ot }
 ·exact h
theorem Ac9 (h:bR f) (ht:2<=f.t):(xP f).size<=57:=by
 obtain⟨p1,p2,p3,p4,p5⟩:=Q7 h
 have h9:=yW (vH h)
 have hz:(xP f).size=9+(mH f).size:=by
  have e:(jK ((mH f).size:Nat) f.t (tH f.e) f.st).size=9:=h9
  rw[J1,ByteArray.size_append,e]
 obtain⟨r1,r2,r3,r4,r5,r6,r7,r8,r9,r10,r11,r12,r13,r14,r15,r16,r17,r18,r19,r20,r21⟩:=h
 have h8:f.t=2\/f.t=3\/f.t=4\/f.t=5\/f.t=6\/f.t=7\/f.t=8\/f.t=9\/f.t=10\/f.t=11:=by omega
 rcases h8 with h|h|h|h|h|h|h|h|h|h
 ·have:=p3 (by omega);omega
 ·have:=p3 (by omega);omega
 ·have:=p4 (by omega);omega
 ·have:=p2 h;omega
 ·have:=p5 h;omega
 ·have:=p3 (by omega);omega
 ·have:=p3 (by omega);omega
 ·have:=p3 (by omega);omega
 ·have:=p4 (by omega);omega
 ·have:=p4 (by omega);omega
theorem Df:∀ {l:List Fm},(∀f∈l,bR f/\2<=f.t)->(kC l).length<=57 * l.length
 | [],_=>by simp[kC]
 |y::l,h=>by
  have h1:=h y (List.mem_cons_self ..)
  have h2:=Ac9 h1.1 h1.2
  have h3:=Df fun z hz=>h z (List.mem_cons_of_mem _ hz)
  have e:kC (y::l)=(xP y).data.toList++kC l:=by simp[kC]
  have e2:(xP y).data.toList.length=(xP y).size:=Array.length_toList
  rw[e,List.length_append,List.length_cons]
  omega
theorem Ahn (hI:bO B a) (hk:fY c a) (hF:∀m∈a.l,FK m) (hB:B+1301<=250000000) (h:HX k a b Ta Tb) (h2:HX k b a Tb Ta) (hov:a.dr.ov=false):∃E,HX (k+1) (cR a).2 b Ta (Tb++E)/\HX (k+1) b (cR a).2 (Tb++E) Ta/\(cR a).1=kC E/\(cR a).1.length<=8500:=by
 have hbb:=hI.bb
 obtain⟨t1,t2⟩:=Vk (s:=aD a) h.ti.1 h.ti.2
 have hov1:(bH (aD a)).dr.ov=false:=by rw[t1];exact hov
 have hr:=(Jj hI hk hF hB hov hov1).1
 have hI1:=E8 (bI hI)
 have hk1:=Ew (cQ hk)
 have hI2:=M6 hI1
 have hk2:=Oe hk1
 have hb:=Sp (k:=4) hI2 hk2 (by omega)
 have hs:=OR hov hov1 hr
 have eL:t7 a=a.out++(iR a++(eH 4 (zY { aD a with out:= [] })).1):=by
  unfold t7
  rw[t1,t2,List.nil_append,List.append_assoc];rfl
 rw[t1] at hs
 rw[hs,eL]
 have hbl:=F0 (k:=4) (s:=zY { aD a with out:= [] })
 generalize hz:eH 4 (zY { aD a with out:= [] })=bz at hb hbl
 obtain⟨bl,z⟩:=bz
 dsimp only at hb hbl ⊢
 have hE:∀g∈iR a++bl,Xf a g:=fun g hg=>by
  rcases List.mem_append.1 hg with hg|hg
  ·exact Ao9 hI hF g hg
  ·exact(hb.fl g hg).1
 have hbt:∀g∈bl,g.t≠10:=fun g hg=>by have:=(hb.fl g hg).2;omega
 have hgt2:∀g∈iR a,10<=g.t:=fun g hg=>by
  unfold iR at hg
  rcases List.mem_append.1 hg with hg|hg
  ·unfold Eg at hg
   split at hg
   ·rw[List.mem_singleton.1 hg];show(10:Int)<=10;decide
   ·cases hg
  ·obtain⟨m,hm,hg⟩:=List.mem_flatMap.1 hg
   unfold mD at hg
   split at hg
   ·unfold Eg at hg
    split at hg
    ·rw[List.mem_singleton.1 hg]
     show 10<=(if bA m.x=2 then(11:Int) else 10)
     split <;> decide
    ·cases hg
   ·cases hg
 have hgt:∀g∈iR a,g.t≠0:=fun g hg=>by have:=hgt2 g hg;omega
 have hD:dS (iR a++bl)=dS bl:=by rw[NL,NO hgt,Int.zero_add]
 have hG:gS 0 (iR a++bl)=nH a.rv:=by rw[t6,VB hI,H4 hbt,Int.add_zero]
 have h4:∀id,gS id (iR a++bl)<=4096:=fun id=>by
  rw[t6,H4 hbt,Int.add_zero];exact Apa hI hF
 have hj:jn z= { jn a with gr:=a.rv.gr+nH a.rv,sp:=a.ld.sp+dS bl,n0:=a.ld.n0 - dS bl,out:= [] }:=hb.j
 have q1:=(HX.sendL hI h hov hj hb.n1 hb.ln hE hD).mono (show k<=k+1 by omega)
 have q2:=HX.sendR h2 h.ot hov hj hE hG h4
 have hzo:z.dr.ov=false:=by
  have:z.dr=a.dr:=congrArg Jn.dr hj
  rw[this];exact hov
 have hzu:z.out= []:=congrArg Jn.out hj
 have hlen:(kC (a.out++(iR a++bl))).length<=8500:=by
  have l1:=Df (l:=a.out) fun f hf=>⟨(iX f).1 (hk.fo f hf).1,(h.ot f hf).1⟩
  have l2:=Df (l:=iR a) fun f hf=>⟨(Ao9 hI hF f hf).1,by have:=hgt2 f hf;omega⟩
  have l3:=HI (l:=bl) fun f hf=>(hb.fl f hf).1.1
  have n1:=hI.ou.1
  have n2:(iR a).length<=65:=by
   have h1:=flat_len (l:=a.l)
   have h2:=hI.sm.1
   have h3:=En (t:=10) (st:=0) (n:=nH a.rv)
   unfold iR
   rw[List.length_append];omega
  rw[rA,rA,List.length_append,List.length_append]
  omega
 exact⟨_,HX.drL q1 q2 hzo hzu,HX.drR q2,rfl,hlen⟩
end
end Go.Proofs.YtepnmcipkangkaaGreat
namespace Go.Proofs.YtepnmcipkangkaaGreat
open Go Go.Proofs Go.Sl
attribute [local irreducible] aN fJ cY bN aM aS aA dM dN aV dL pt ro fB star sep bF
attribute [local irreducible] mp CV
variable {R C:List HP} {K:KP} {x p x0 x1 mc:Nat} {ad:Ca} {c:Cn} {B P id n kind sg on w side:Int} {xx:Bool} {d:ByteArray} {t:dZ} {cf:Cf} {M:Option Addr}
section
structure A6 where
 sd:Int
 kd:Int
 id:Int
 n:Int
 s:ByteArray
 on:Int
 ww:Int
 xx:Bool
 xw:Int
 xs:Int
 xi:Int
def Aqb (n:Int) (c:Cn):Int:=((c.l.map Sm.id)[(n % 18446744073709551616 % c.l.length).toNat]?).getD n
def Tn (a:A6) (c:Cn):AC:=⟨if a.kd=0 then 1 else if a.kd=1\/a.kd=2 then 2 else if a.kd<11 then a.kd else 11,a.sd,Aqb a.id c,if a.kd=0 then a.n % 18446744073709551616 % 2+1 else a.n,if a.kd=0 then a.id % 18446744073709551616 % 3 else a.n % 18446744073709551616 % 13,a.s,a.on,a.ww,a.xx,a.xw,a.xs,a.xi⟩
def Ao1 (a:A6) (c:Cn):Cn:=if a.kd=17 then pI c else if 0<=a.kd/\a.kd<14 then lG (Tn a c) c ⟨[],0,0⟩ else c
variable {a:A6}
end
end Go.Proofs.YtepnmcipkangkaaGreat
namespace Go.Proofs.YtepnmcipkangkaaGreat
open Go Go.Proofs Go.Sl
variable {x x' y:Cn} {k k2 n B P P2:Int} {g:Fm} {Wx Wy u w:List UInt8} {cf cf2:Cf} {a:AC} {q:A6} {l:Lk}
def PX (k:Int) (x y:Cn) (Wx Wy:List UInt8):Prop:=∃Tx Ty,HX k x y Tx Ty/\HX k y x Ty Tx/\(x.dr.ov=false->kC Tx=x.inb++Wx)/\(y.dr.ov=false->kC Ty=y.inb++Wy)
theorem PX.symm (h:PX k x y Wx Wy):PX k y x Wy Wx:=by
 obtain⟨Tx,Ty,h1,h2,h3,h4⟩:=h
 exact⟨Ty,Tx,h2,h1,h4,h3⟩
theorem PX.mono (h:PX k x y Wx Wy) (hk:k<=k2):PX k2 x y Wx Wy:=by
 obtain⟨Tx,Ty,h1,h2,h3,h4⟩:=h
 exact⟨Tx,Ty,h1.mono hk,h2.mono hk,h3,h4⟩
theorem PX.sb (h:PX k x y Wx Wy) (hs:Sb x x') (hi:nN x'=nN x):PX k x' y Wx Wy:=by
 obtain⟨Tx,Ty,h1,h2,h3,h4⟩:=h
 exact⟨Tx,Ty,h1.left hs.j hs.l,h2.right hs.j,fun ho=>by rw[MR hi];exact h3 (by rw[<- hs.ov];exact ho),h4⟩
theorem PX.ow (h:PX k x y Wx Wy) (hI:bO B x) (ho:Ow x x' g) (hi:nN x'=nN x):PX k x' y Wx Wy:=by
 obtain⟨Tx,Ty,h1,h2,h3,h4⟩:=h
 exact⟨Tx,Ty,h1.ownL hI h2 ho,h2.ownR ho,fun _=>by rw[MR hi];exact h3 ho.ov,h4⟩
theorem PX.step (h:PX k x y Wx Wy) (hP:AH cf P x) (hB:P+1301<=250000000) (hF:∀m∈x.l,FK m):PX (k+1) (cR x).2 y Wx (Wy++(cR x).1)/\(cR x).1.length<=8500:=by
 obtain⟨B,hG,hBP⟩:=hP
 have hi:(cR x).2.inb=x.inb:=MR EW
 cases ho:x.dr.ov
 ·obtain⟨Tx,Ty,h1,h2,h3,h4⟩:=h
  obtain⟨E,q1,q2,q3,q4⟩:=Ahn hG.I hG.K hF (by omega) h1 h2 ho
  refine⟨⟨Tx,Ty++E,q1,q2,fun _=>by rw[hi];exact h3 ho,fun hy=>?_⟩,q4⟩
  rw[rA,h4 hy,q3,List.append_assoc]
 ·have hl:x.last=⟨#[]⟩:=by
   obtain⟨Tx,Ty,h1,h2,h3,h4⟩:=h
   exact h1.lst
  have e:cR x=([],{ aD x with last:=⟨#[]⟩ }):=by
   unfold cR
   rw[if_pos ho,hl]
  have hi2:=EW (c:=x)
  rw[e] at hi2 ⊢
  rw[List.append_nil]
  refine⟨(h.mono (show k<=k+1 by omega)).sb ⟨?_,fun _ h=>h⟩ hi2,Nat.zero_le _⟩
  unfold jn
  dsimp only[aD]
  rw[hl]
theorem Aic (hI:bO B x) (h11:a.kd≠11) (h12:a.kd≠12):Sb x (lG a x l)\/∃g,Ow x (lG a x l) g:=by
 unfold lG
 split
 ·exact Apt
 ·split
  ·exact Ai5 hI
  ·split
   ·exact .inl Sb.rfl'
   ·unfold Y2
    split
    ·exact Aib
    ·split
     ·exact .inl Aem
     ·split
      ·exact .inl Aoh
      ·split
       ·exact .inl Ai2
       ·split
        ·exact .inl Alv
        ·split
         ·exact .inl Anu
         ·split
          ·exact Akx hI
          ·exact Adc hI
theorem Abc (h12:a.kd≠12):nN (lG a x l)=nN x:=by
 unfold lG
 split
 ·unfold EK;split <;> rfl
 ·split
  ·unfold wO;split <;> rfl
  ·split
   ·exact EW
   ·split
    ·rfl
    ·exact Aa6
theorem PX.one (h:PX k x y Wx Wy) (hP:AH cf P x) (h11:a.kd≠11) (h12:a.kd≠12):PX k (lG a x l) y Wx Wy:=by
 obtain⟨B,hG,hBP⟩:=hP
 rcases Aic (l:=l) hG.I h11 h12 with hs|⟨g,ho⟩
 ·exact h.sb hs (Abc h12)
 ·exact h.ow hG.I ho (Abc h12)
theorem PX.recv (h:PX k x y (u++w) Wy) (hk:0<=k/\k<=1000) (hP:AH cf P x) (hP2:AH cf2 P2 y) (hB:P+35 * u.length<=240000000):PX k (fS u x) y w Wy\/Fl x (fS u x):=by
 obtain⟨B,hG,hBP⟩:=hP
 obtain⟨B2,hG2,_⟩:=hP2
 cases ho:x.dr.ov
 ·obtain⟨Tx,Ty,h1,h2,h3,h4⟩:=h
  have h9:=Nb (x.inb++u).length (x.inb++u) (Nat.le_refl _)
  rw[List.length_append] at h9
  rcases Ai9 (q:=fun _ _=>True) (fun _ _ _ _ _ _=>trivial) (w:=w) hk hG2.I hG.I (by omega) ho h2 h1 (h3 ho) trivial with⟨T2,q1,q2,q3,q4,_⟩|hF
  ·exact .inl ⟨T2,Ty,q2,q1,fun _=>q4,h4⟩
  ·exact .inr hF
 ·left
  obtain⟨Tx,Ty,h1,h2,h3,h4⟩:=h
  have e:fS u x=aD x:=by unfold fS;rw[if_pos ho]
  rw[e]
  exact⟨Tx,Ty,h1.left rfl fun _ h=>h,h2.right rfl,fun hq=>(by rw[show(aD x).dr.ov=x.dr.ov from rfl,ho] at hq;cases hq),h4⟩
theorem PX.says (h:PX k x y Wx Wy):x.dr.co=0/\x.ld.sp<=y.rv.gr:=by
 obtain⟨Tx,Ty,h1,h2,h3,h4⟩:=h
 refine⟨h1.co,?_⟩
 have hg:=h1.gr
 have hn:=h1.n0
 revert hg
 cases ho:x.dr.ov
 ·rw[if_neg Bool.false_ne_true]
  have:=Qd (id:=0) (uI.1 (h2.sq ho)).1
  intro hg;omega
 ·rw[if_pos rfl]
  intro hg;omega
def w26 (q:A6) (x:Cn):List UInt8:=if 11<=q.kd/\q.kd<=13 then(cR x).1 else []
theorem PX.act (h:PX k x y Wx Wy) (hP:AH cf P x) (hB:P+1301<=250000000) (hF:∀m∈x.l,FK m) (hk:¬(14<=q.kd/\q.kd<=16)):PX (k+1) (Ao1 q x) y Wx (Wy++w26 q x)/\(w26 q x).length<=8500:=by
 unfold Ao1 w26
 by_cases h17:q.kd=17
 ·rw[if_pos h17,if_neg (by omega),List.append_nil]
  exact⟨(h.mono (by omega)).sb MM rfl,by decide⟩
 ·rw[if_neg h17]
  by_cases h14:0<=q.kd/\q.kd<14
  ·rw[if_pos h14]
   by_cases h11:11<=q.kd/\q.kd<=13
   ·rw[if_pos h11]
    have ek:lG (Tn q x) x ⟨[],0,0⟩=(cR x).2:=by
     have e:(Tn q x).kd=11:=by unfold Tn;dsimp only;rw[if_neg (by omega),if_neg (by omega),if_neg (by omega)]
     unfold lG;rw[if_neg (by omega),if_neg (by omega),if_pos e]
    rw[ek]
    exact h.step hP hB hF
   ·rw[if_neg h11,List.append_nil]
    have e:(Tn q x).kd≠11/\(Tn q x).kd≠12:=by
     unfold Tn;dsimp only
     repeat' split
     all_goals omega
    exact⟨(h.mono (by omega)).one hP e.1 e.2,by decide⟩
  ·rw[if_neg h14,if_neg (by omega),List.append_nil]
   exact⟨h.mono (by omega),by decide⟩
theorem PX.init {f0 f1:Cf} (h0:Dq f0) (h1:Dq f1) (e0:f0.ev=0/\f0.sl=0) (e1:f1.ev=0/\f1.sl=0):PX 1 (iB 0 f0) (iB 1 f1) [] []:=by
 have key:∀ {f:Cf} {sd:Int},Dq f->(∃g,(iB sd f).out= [g]/\bR g/\AI g/\g.t=5/\psI g.ps/\g.st=0):=fun {f sd} h=>by
  have hc:tM ⟨f.w,f.st,f.it⟩:=h.s
  obtain⟨hr,hp⟩:=Mk (u:=rH) hc
  have h4:zB (vK (Ds rH ⟨f.w,f.st,f.it⟩)) []=0:=Kl ((iX _).2 hr) (by show ¬(5:Int)<2;decide) (by decide)
  have hcr:AI (vK (Ds rH ⟨f.w,f.st,f.it⟩)):=⟨rfl,rfl,rfl⟩
  refine⟨_,?_,hr,hcr,rfl,hp,rfl⟩
  show wK _ []=_
  rw[DK ⟨by show(5:Int)≠10;decide,by show(5:Int)≠11;decide⟩ h4,z7 hcr];rfl
 have one:∀ {f f':Cf} {sd:Int},Dq f->Dq f'->f.ev=0/\f.sl=0->(sd=0\/sd=1)->HX 1 (iB sd f) (iB (1 - sd) f') [] []:=fun {f f' sd} h h' e hs=>by
  obtain⟨g,o1,o2,o3,o4,o5,o6⟩:=key (sd:=sd) h
  obtain⟨g',o1',o2',o3',o4',o5',o6'⟩:=key (sd:=1 - sd) h'
  exact {
   sq:=fun _=>by
    rw[o1]
    exact⟨⟨o2,o3,by omega,by omega,fun _=>o5,by omega,by omega,fun h0=>absurd o6 h0⟩,trivial⟩
   hi:=fun _ z hz h2=>by
    rw[o1] at hz
    rw[List.mem_singleton.1 hz] at h2
    omega
   nx:=fun _=>by
    rw[o1]
    show sd+1<=AJ 0 g+2
    unfold AJ
    rw[if_neg (by omega)];omega
   dt:=fun _=>rfl
   ak:=fun _=>by
    rw[o1,o1']
    show nT 6 [g]+(if false=true then 0 else nT 5 [g'])<=1
    rw[fT,fT,if_neg (by omega),if_neg Bool.false_ne_true,if_pos o4']
    decide
   la:=by show(0:Int)<1 - sd+1;omega
   gr:=by show(0:Int)+512+(if false=true then 0 else 0)<=512;decide
   n0:=by show(0:Int)<=512;decide
   gs:=fun _ id=>by show(0:Int)<=4096 * 1;decide
   ln:=fun _ e he=>by cases he
   pe:=by show(0:Int)<=64/\(64:Int)<=4096;decide
   co:=rfl
   lst:=rfl
   ti:=e
   oo:=fun hq=>by cases hq
   sd:=by show sd=1 - (1 - sd);omega
   ot:=fun z hz=>by
    rw[o1] at hz
    rw[List.mem_singleton.1 hz];omega }
 exact⟨[],[],one h0 h1 e0 (.inl rfl),one (sd:=1) h1 h0 e1 (.inr rfl),fun _=>rfl,fun _=>rfl⟩
end Go.Proofs.YtepnmcipkangkaaGreat
namespace Go.Proofs.YtepnmcipkangkaaGreat
open Go Go.Proofs Go.Sl
attribute [local irreducible] aN fJ cY bN aM aS aA dM dN aV dL pt ro fB star sep bF
attribute [local irreducible] mp CV
variable {R C:List HP} {c d:Cn} {l o:Lk} {z:Du} {k P P2:Int} {j x p:Nat} {a:AC} {cf cf2 f0 f1:Cf} {ad:Ca} {A:Dd} {H:Hp}
theorem Ws (h:bW (ME x ad c::R) H):∀m∈c.l,FK m:=by
 obtain⟨M,h⟩:=h.ex
 obtain⟨mc,h⟩:=h.ex
 exact JW h.star.tail.tail
theorem An8 (h:bW (Af p A z R) H):(∀m∈z.c0.l,FK m)/\∀m∈z.c1.l,FK m:=⟨Ws h.tail.tail.tail,Ws h.tail.tail.tail.tail⟩
theorem PP (h:PX k c d l.b o.b) (hk:0<=k/\k<=1000) (hP:AH cf P c) (hP2:AH cf2 P2 d) (hB:P+35 * l.b.length<=240000000) (hF:∀m∈c.l,FK m) (ho:o.b.length+8500<=1048576) (h14:a.kd≠14):(PX (k+1) (lG a c l) d (k9 a l).b (mG a c o).b/\(k9 a l).b.length<=l.b.length/\(mG a c o).b.length<=o.b.length+8500)\/(lG a c l).dr.co=11:=by
 by_cases h11:a.kd=11
 ·left
  obtain⟨q1,q2⟩:=h.step hP (by omega) hF
  have e1:lG a c l=(cR c).2:=by unfold lG;rw[if_neg (by omega),if_neg (by omega),if_pos h11]
  have e2:k9 a l=l:=by unfold k9;rw[if_neg (by omega),if_neg h14]
  have ez:(ByteArray.mk (cR c).1.toArray).size=(cR c).1.length:=by simp[ByteArray.size]
  have e3:(mG a c o).b=o.b++(cR c).1:=by
   have hE:WU ⟨(cR c).1.toArray⟩ o=0:=if_neg (by rw[ez];omega)
   unfold mG zE
   rw[if_pos h11,if_pos hE]
  rw[e1,e2,e3]
  exact⟨q1,Nat.le_refl _,by rw[List.length_append];omega⟩
 ·have e3:mG a c o=o:=by unfold mG;rw[if_neg h11]
  rw[e3]
  by_cases h12:a.kd=12
  ·have e1:lG a c l=fS (l.b.take (AU a.n l)) c:=by unfold lG;rw[if_neg (by omega),if_neg (by omega),if_neg h11,if_pos h12]
   have e2:(k9 a l).b=l.b.drop (AU a.n l):=by unfold k9;rw[if_pos h12];rfl
   rw[e1,e2]
   have hs:l.b.take (AU a.n l)++l.b.drop (AU a.n l)=l.b:=List.take_append_drop ..
   rw[<- hs] at h
   have hl:(l.b.take (AU a.n l)).length<=l.b.length:=by rw[List.length_take];omega
   rcases h.recv hk hP hP2 (by omega) with q|q
   ·exact .inl ⟨q.mono (by omega),by rw[List.length_drop];omega,by omega⟩
   ·exact .inr q.1.2
  ·have e2:k9 a l=l:=by unfold k9;rw[if_neg h12,if_neg h14]
   rw[e2]
   exact .inl ⟨(h.mono (by omega)).one hP h11 h12,Nat.le_refl _,by omega⟩
structure DJ (f0 f1:Cf) (j:Nat) (z:Du):Prop where
 g:DuG f0 f1 j z
 px:PX ((j:Int)+1) z.c0 z.c1 z.l0.b z.l1.b
 n0:z.l0.b.length<=8500 * j
 n1:z.l1.b.length<=8500 * j
theorem Ap8 (h:DuG f0 f1 k z):1000+2000 * k+35 * z.l0.we+35 * z.l0.b.length<=240000000/\1000+2000 * k+35 * z.l1.we+35 * z.l1.b.length<=240000000:=by
 obtain⟨h1,h2,h3,⟨q1,q2,q3,q4⟩,r1,r2,r3,r4⟩:=h
 omega
theorem Ahu (h:DJ f0 f1 j z) (hj:j<120) (hF:(∀m∈z.c0.l,FK m)/\∀m∈z.c1.l,FK m) (h14:a.kd≠14) (hg:DuG f0 f1 ((j:Int)+1) (Ee a z)):DJ f0 f1 (j+1) (Ee a z)\/(Ee a z).c0.dr.co=11\/(Ee a z).c1.dr.co=11:=by
 have hb:=Ap8 h.g
 have hn0:=h.n0
 have hn1:=h.n1
 have key:∀ {w:Du},DuG f0 f1 ((j:Int)+1) w->PX ((j:Int)+1+1) w.c0 w.c1 w.l0.b w.l1.b->w.l0.b.length<=8500 * j+8500->w.l1.b.length<=8500 * j+8500->DJ f0 f1 (j+1) w:=fun {w} g1 g2 g3 g4=>by
  refine⟨?_,?_,by omega,by omega⟩
  ·rw[show(((j+1:Nat):Int))=(j:Int)+1 from rfl];exact g1
  ·rw[show(((j+1:Nat):Int))=(j:Int)+1 from rfl];exact g2
 revert hg
 unfold Ee
 split
 ·intro hg;exact .inl (key hg (h.px.mono (by omega)) (by omega) (by omega))
 ·split
  ·intro hg
   exact .inl (key hg (((h.px.mono (by omega)).sb MM rfl).symm.sb MM rfl).symm (by dsimp only;omega) (by dsimp only;omega))
  ·split
   ·intro hg
    rcases PP (a:=a) h.px (by omega) h.g.c0 h.g.c1 (by omega) hF.1 (by omega) h14 with⟨q1,q2,q3⟩|q
    ·exact .inl (key hg q1 (by dsimp only;omega) (by dsimp only;omega))
    ·exact .inr (.inl q)
   ·split
    ·intro hg
     rcases PP (a:=a) h.px.symm (by omega) h.g.c1 h.g.c0 (by omega) hF.2 (by omega) h14 with⟨q1,q2,q3⟩|q
     ·exact .inl (key hg q1.symm (by dsimp only;omega) (by dsimp only;omega))
     ·exact .inr (.inr q)
    ·intro hg;exact .inl (key hg (h.px.mono (by omega)) (by dsimp only;omega) (by dsimp only;omega))
theorem DJ.mono {j2:Nat} (h:DJ f0 f1 j z) (hj:j<=j2) (h2:j2<=120):DJ f0 f1 j2 z:=by
 obtain⟨g,q1,q2,q3⟩:=h
 obtain⟨g1,g2,g3,g4,g5⟩:=g
 exact⟨⟨by omega,g2.mono (by omega),g3.mono (by omega),g4.mono (by omega),g5.mono (by omega)⟩,q1.mono (by omega),by omega,by omega⟩
end Go.Proofs.YtepnmcipkangkaaGreat
