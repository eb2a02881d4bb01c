/- A part of the proof: lemmas; each with the conditions that it states. -/
import Derived.Test.YtepnmcipkangkaaGreatCbj
set_option linter.unusedVariables false
set_option linter.unusedSimpArgs false
set_option maxRecDepth 100000
set_option maxHeartbeats 40000000
namespace Go.Proofs.YtepnmcipkangkaaGreat
open Go Go.Proofs Go.Sl
attribute [local irreducible] ByteArray.extract rP
variable {f:Fm}
theorem Aov (p:ByteArray):iG p.data.toList=p:=by unfold iG;simp
theorem An5 {p:ByteArray} (h:uR p=none):9+sL p<=p.size:=by
 unfold uR at h
 split at h
 ·cases h
 ·split at h
  ·split at h
   ·split at h
    ·cases h
    ·omega
   ·cases h
  ·cases h
theorem Ahm:pF []=([],[],0):=uV (by unfold uR;rw[if_pos (by rw[jF];decide)])
theorem LF (f:Fm) (T:List Fm):kP (f::T)=(xK f).data.toList++kP T:=by unfold kP;simp
theorem Agb:∀ {T:List Fm} {a b:List UInt8},(∀f∈T,bR f/\Ay f)->kP T=a++b->∃T1 T2 r,T=T1++T2/\(pF a).1.map GG=T1/\(pF a).2=(r,0)/\kP T2=r++b
 | [],a,b,_,h=>by
  have h:a++b= []:=h.symm
  obtain⟨ha,hb⟩:=List.append_eq_nil_iff.1 h
  subst ha hb
  rw[Ahm]
  exact⟨[],[],[],rfl,rfl,rfl,rfl⟩
 |f::T,a,b,hT,h=>by
  obtain⟨hR,hC⟩:=hT f (List.mem_cons_self ..)
  have hT2:∀g∈T,bR g/\Ay g:=fun g hg=>hT g (List.mem_cons_of_mem _ hg)
  obtain⟨s1,s2,s3⟩:=Adb hR hC
  have hk:WY ((mR f).size:Nat) f.t (tL f.e) f.st=true:=wG hR
  have hz:(xK f).size=9+(mR f).size:=by rw[Il,ByteArray.size_append,yS hk]
  have hfl:(xK f).data.toList.length=(xK f).size:=Array.length_toList
  rw[LF] at h
  generalize hfb:(xK f).data.toList=fb at h hfl
  have hbs:iG fb=xK f:=by rw[<- hfb,Aov]
  by_cases hlt:a.length<fb.length
  ·have e1:a=fb.take a.length:=by
    have:=congrArg (List.take a.length) h
    rw[List.take_append_of_le_length (by omega),List.take_left] at this
    exact this.symm
   have e2:fb=a++fb.drop a.length:=by
    conv=>lhs;rw[<- List.take_append_drop a.length fb]
    rw[<- e1]
   cases hs:uR (iG a) with
   |none=>
    exfalso
    have hkp:=(WH (b:=fb.drop a.length) hs).2.1
    rw[<- e2,hbs,s2] at hkp
    have:=An5 hs
    rw[jF,<- hkp] at this
    omega
   |some e=>
    by_cases he:e=0
    ·subst he
     rw[uV hs]
     exact⟨[],f::T,a,rfl,rfl,rfl,by rw[LF,hfb];exact h⟩
    ·exfalso
     have:=Aiy (b:=fb.drop a.length) hs he
     rw[<- e2,hbs,s1] at this
     cases this
  ·have e1:fb=a.take fb.length:=by
    have:=congrArg (List.take fb.length) h
    rw[List.take_left,List.take_append_of_le_length (by omega)] at this
    exact this
   have e2:a=fb++a.drop fb.length:=by
    conv=>lhs;rw[<- List.take_append_drop fb.length a]
    rw[<- e1]
   generalize a.drop fb.length=a' at e2
   subst e2
   rw[List.append_assoc] at h
   have h2:kP T=a'++b:=List.append_cancel_left h
   obtain⟨T1,T2,r,q1,q2,q3,q4⟩:=Agb (T:=T) (a:=a') (b:=b) hT2 h2
   have hn:uR (iG fb)=none:=by rw[hbs];exact s1
   obtain⟨k1,k2,k3⟩:=WH (b:=a') hn
   rw[hbs,s2] at k2
   rw[hbs,s3] at k3
   have hdr:(fb++a').drop (9+sL (iG (fb++a'))).toNat=a':=by
    rw[k2]
    exact List.drop_left' (by omega)
   rw[EO k1,hdr]
   refine⟨f::T1,T2,r,by rw[q1];rfl,?_,q3,q4⟩
   rw[List.map_cons,k3,q2]
end Go.Proofs.YtepnmcipkangkaaGreat
namespace Go.Proofs.YtepnmcipkangkaaGreat
open Go Go.Proofs Go.Sl
variable {s s' s2 b b' a a':Cn} {id k code w o st nx' n B L Q sa na:Int} {gone:Bool} {m:Sm} {f g:Fm} {xs T S gl Ta Tb T2:List Fm} {z:Ld} {t:dR} {d:ByteArray} {q:Cn->List Fm->Prop}
structure Jn where
 sd:Int
 nx:Int
 la:Int
 got:Int
 gr:Int
 sp:Int
 n0:Int
 pe:dR
 sh:FA
 out:List Fm
 dr:Dr
 last:ByteArray
 ev:Int
 li:Int
def jn (s:Cn):Jn:=⟨s.sd,s.nx,s.la,s.rv.got,s.rv.gr,s.ld.sp,s.ld.n0,s.pe,s.sh,s.out,s.dr,s.last,s.bt.ev,s.sl.li⟩
structure Sb (s s':Cn):Prop where
 j:jn s'=jn s
 l:∀e∈s'.ld.l,e∈s.ld.l
theorem Sb.rfl':Sb s s:=⟨rfl,fun _ h=>h⟩
theorem Sb.trans (h:Sb s s') (h2:Sb s' s2):Sb s s2:=⟨h2.j.trans h.j,fun e he=>h.l e (h2.l e he)⟩
theorem Ud:(kU id z).sp=z.sp/\(kU id z).n0=z.n0/\∀e∈(kU id z).l,e∈z.l:=by
 unfold kU
 split
 ·exact⟨rfl,rfl,fun e he=>List.mem_of_mem_eraseIdx he⟩
 ·exact⟨rfl,rfl,fun _ h=>h⟩
theorem MS:Sb s (lR id code gone s):=by
 obtain⟨h1,h2,h3⟩:=Ud (id:=id) (z:=s.ld)
 refine⟨?_,h3⟩
 unfold jn lR
 dsimp only
 rw[h1,h2]
theorem Io:∀ {l:List Int} {s:Cn},Sb s (qN code l s)
 | [],_=>Sb.rfl'
 |id::l,s=>(MS (s:=s)).trans (Io (l:=l))
theorem Hm:Sb s (lJ m s):=by
 unfold lJ
 split
 ·exact MS
 ·exact Sb.rfl'
theorem Ae0 {y:Yp}:(fO y k).got=y.got/\(fO y k).gr=y.gr:=by
 unfold fO
 split <;> exact⟨rfl,rfl⟩
theorem Mf:Sb s { s with rv:=fO s.rv k }:=by
 obtain⟨h1,h2⟩:=Ae0 (y:=s.rv) (k:=k)
 refine⟨?_,fun _ h=>h⟩
 unfold jn
 dsimp only
 rw[h1,h2]
theorem Hh:Sb s (qF m code s):=Mf.trans MS
theorem VM:∀ {l:List Int} {s:Cn},Sb s (nB l s)
 | [],_=>Sb.rfl'
 |id::l,s=>by
  show Sb s (nB l (match bX id s.l with
   |some m=>if m.own=true/\Ih s.dr id=true then qF m 7 s else s
   |none=>s))
  refine Sb.trans ?_ (VM (l:=l))
  split
  ·split
   ·exact Hh
   ·exact Sb.rfl'
  ·exact Sb.rfl'
theorem Ae8:(uZ s).dr=s.dr:=congrArg Jn.dr (Io (s:=s) (code:=s.dr.co) (l:=s.l.map Sm.id)).j
def Fl (s0 s:Cn):Prop:=(s.dr.ov=true/\s.dr.co=11)/\s.rv.gr=s0.rv.gr
theorem Fl.of {s0:Cn} (h:Fl s s') (he:s.rv.gr=s0.rv.gr):Fl s0 s':=⟨h.1,h.2.trans he⟩
theorem Ajv (h:s.dr.ov=false):Fl s (iM 18 0 s):=by
 refine⟨?_,congrArg Jn.gr (Io (s:= { s with dr:=vY s.dr (i0 18 0),last:=xK (zZ s.la (i0 18 0)) }) (code:=(vY s.dr (i0 18 0)).co) (l:=s.l.map Sm.id)).j⟩
 have e:(iM 18 0 s).dr=vY s.dr (i0 18 0):=by
  unfold iM
  exact Ae8
 have e2:i0 18 0=11:=by decide
 rw[e,e2]
 unfold vY EH pO
 rw[h]
 exact⟨rfl,rfl⟩
theorem C7 (h:f.t≠10/\f.t≠11) (hE:zA f xs=0):wL f xs=xs++ [jD f]:=by
 have hl:∀x:Fm,rI f x=false:=fun x=>by
  unfold rI
  simp[h.1,h.2]
 have hx:∀l:List Fm,t8 f l=l.length:=fun l=>by
  induction l with
  |nil=>rfl
  |cons x l ih=>
   unfold t8 at ih ⊢
   rw[List.takeWhile_cons_of_pos (by rw[hl];rfl),List.length_cons,List.length_cons,ih]
 unfold wL
 rw[if_neg (by rw[hE];decide),hx,List.getElem?_eq_none (Nat.le_refl _)]
structure Pu1 (s s':Cn) (g:Fm):Prop where
 r:bR g
 j:jn s'= { jn s with out:=s.out++ [g] }
 l:∀e∈s'.ld.l,e∈s.ld.l
theorem NM (h:f.t≠10/\f.t≠11) (hc:Ay f) (ho:s.dr.ov=false):Pu1 s (nC f s) f\/Fl s (nC f s):=by
 unfold nC
 by_cases hE:zA f s.out=0
 ·rw[if_pos hE]
  left
  have hr:bR f:=(iX f).1 (by
   cases hq:lZ f
   ·exact absurd hE (by unfold zA;rw[if_pos hq];decide)
   ·rfl)
  refine⟨hr,?_,fun _ h=>h⟩
  unfold jn
  dsimp only
  rw[C7 h hE,z6 hc]
 ·rw[if_neg hE];exact .inr (Ajv ho)
theorem Sb.ov (h:Sb s s'):s'.dr.ov=s.dr.ov:=congrArg (fun j=>j.dr.ov) h.j
theorem Pu1.of (h:Sb s s') (h2:Pu1 s' s2 g):Pu1 s s2 g:=⟨h2.r,by rw[h2.j,h.j,show s'.out=s.out from congrArg Jn.out h.j],fun e he=>h.l e (h2.l e he)⟩
theorem IS {c:Int}:Ay (fM st c):=⟨rfl,rfl,rfl⟩
theorem Ad2 (hw:Kv w=false) (ho:s.dr.ov=false):Pu1 s (i8 w st s) (fM st (i0 w 0))\/Fl s (i8 w st s):=by
 unfold i8
 rw[if_neg (by rw[hw];decide)]
 have key:∀z,Sb s z->Pu1 s (nC (fM st (i0 w 0)) z) (fM st (i0 w 0))\/Fl s (nC (fM st (i0 w 0)) z):=fun z hs=>by
  rcases NM (f:=fM st (i0 w 0)) (s:=z) ⟨by show(4:Int)≠10;decide,by show(4:Int)≠11;decide⟩ IS (by rw[hs.ov];exact ho) with h|h
  ·exact .inl (h.of hs)
  ·exact .inr (h.of (congrArg Jn.gr hs.j))
 cases bX st s.l with
 |none=>exact key s Sb.rfl'
 |some m=>exact key _ Hh
section
variable {sd nx la:Int}
def Az (la:Int) (f:Fm):Int:=if f.t=2 then f.st else la
def w3 (la:Int) (l:List Fm):Int:=l.foldl Az la
def psI (ps:List Pr):Prop:=∀p∈ps,0<=p.v/\p.v<=4096
structure FO (sd nx la:Int) (f:Fm):Prop where
 r:bR f
 c:Ay f
 op:f.t=2->nQ sd la f.st=0/\f.on≠f.st
 pr:f.t=3->f.on≠f.st
 se:f.t=5->psI f.ps
 go:f.t=9->f.c=0
 wh:f.t=10->1<=f.n
 pa:f.st≠0->f.t≠2->gI sd nx la f.st=true
def Yu (sd nx:Int):Int->List Fm->Prop
 |_,[]=>True
 |la,f::r=>FO sd nx la f/\Yu sd nx (Az la f) r
theorem u4:∀ {S:List Fm} {la:Int},Yu sd nx la (S++T)↔Yu sd nx la S/\Yu sd nx (w3 la S) T
 | [],la=>⟨fun h=>⟨trivial,h⟩,fun h=>h.2⟩
 |f::S,la=>by
  show FO sd nx la f/\Yu sd nx (Az la f) (S++T)↔(FO sd nx la f/\Yu sd nx (Az la f) S)/\Yu sd nx (w3 (Az la f) S) T
  rw[u4 (S:=S),and_assoc]
theorem FP:w3 la (S++T)=w3 (w3 la S) T:=by unfold w3;rw[List.foldl_append]
theorem Zn (h:gI sd nx la st=true) (hn:nx<=nx'):gI sd nx' la st=true:=by
 unfold gI at *
 simp only[Bool.and_eq_true,decide_eq_true_eq] at *
 refine⟨h.1,?_⟩
 have h2:=h.2
 split at h2
 ·rename_i hq;rw[if_pos hq];simp only[decide_eq_true_eq] at *;omega
 ·rename_i hq;rw[if_neg hq];exact h2
theorem FO.mono (h:FO sd nx la f) (hn:nx<=nx'):FO sd nx' la f:= { h with pa:=fun h1 h2=>Zn (h.pa h1 h2) hn }
theorem RS (hn:nx<=nx'):∀ {S:List Fm} {la:Int},Yu sd nx la S->Yu sd nx' la S
 | [],_,_=>trivial
 |f::S,la,h=>⟨h.1.mono hn,RS hn h.2⟩
def dS (T:List Fm):Int:=(T.map fun f=>if f.t=0 then(f.d.size:Int) else 0).sum
def gS (id:Int) (T:List Fm):Int:=(T.map fun f=>if f.t=10/\f.st=id then f.n else 0).sum
def nT (t:Int) (T:List Fm):Nat:=(T.filter fun f=>f.t == t).length
theorem NI:dS (f::T)=(if f.t=0 then(f.d.size:Int) else 0)+dS T:=by simp[dS]
theorem wZ:gS id (f::T)=(if f.t=10/\f.st=id then f.n else 0)+gS id T:=by simp[gS]
theorem Md:dS (S++T)=dS S+dS T:=by simp[dS]
theorem uA:gS id (S++T)=gS id S+gS id T:=by simp[gS]
theorem JV:nT n (S++T)=nT n S+nT n T:=by simp[nT]
theorem Hw:nT n (f::T)=(if f.t=n then 1 else 0)+nT n T:=by
 unfold nT
 by_cases h:f.t=n
 ·rw[if_pos h,List.filter_cons_of_pos (by simpa using h),List.length_cons];omega
 ·rw[if_neg h,List.filter_cons_of_neg (by simpa using h)];omega
theorem Apt:0<=dS T:=by
 induction T with
 |nil=>exact Int.le_refl _
 |cons f T ih=>rw[NI];split <;> omega
theorem vD (h:bR f):0<=f.n/\f.n<=2147483647:=by
 obtain⟨r1,r2,r3,r4,r5,r6,r7,r8,r9,r10,r11,r12,r13,r14,r15,r16,r17,r18,r19,r20,r21⟩:=h
 exact(oW _).1 r20
theorem PH:∀ {T:List Fm} {la:Int},Yu sd nx la T->0<=gS id T
 | [],_,_=>Int.le_refl _
 |f::T,la,h=>by
  have:=PH h.2
  have:=vD h.1.r
  rw[wZ];split <;> omega
structure An (b:Cn) (la:Int) (f g:Fm):Prop where
 r:bR g
 c:Ay g
 t:g.t=4/\gI b.sd b.nx la g.st=true\/(g.t=6/\f.t=5\/g.t=8)/\g.st=0
def pww:Int->List Pr->Int
 |w,[]=>w
 |w,p::r=>pww (if p.i=1 then p.v else w) r
structure Ef (b b':Cn) (f:Fm) (gl:List Fm):Prop where
 sd:b'.sd=b.sd
 nx:b'.nx=b.nx
 la:b'.la=Az b.la f
 got:b'.rv.got=b.rv.got+dS [f]
 gr:b'.rv.gr=b.rv.gr
 sp:b'.ld.sp=b.ld.sp
 n0:b'.ld.n0=b.ld.n0+gS 0 [f]
 out:b'.out=b.out++gl
 ov:b'.dr.ov=false
 co:b'.dr.co=b.dr.co
 last:b'.last=b.last
 ti:b'.bt.ev=b.bt.ev/\b'.sl.li=b.sl.li
 sh:b'.sh.l.length+nT 6 [f]=b.sh.l.length
 pe:0<=b'.pe.w/\b'.pe.w<=4096
 pwn:b'.pe.w=if f.t=5 then pww b.pe.w f.ps else b.pe.w
 ln:∀e'∈b'.ld.l,(∃e∈b.ld.l,e'.id=e.id/\e'.n - b'.pe.w<=e.n - b.pe.w+gS e.id [f]/\b'.pe.w - 4096<=e'.n)\/e'.n=b'.pe.w/\e'.id=f.st/\f.t=2
 gl:∀g∈gl,An b (Az b.la f) f g
structure Hb (b:Cn) (f:Fm):Prop where
 ov:b.dr.ov=false
 fo:FO b.sd b.nx b.la f
 got:b.rv.got+dS [f]<=b.rv.gr
 ak:nT 6 [f]<=b.sh.l.length
 n0:b.ld.n0+gS 0 [f]<=2147483647/\0<=b.ld.n0
 pe:0<=b.pe.w/\b.pe.w<=4096
 ln:∀e∈b.ld.l,b.pe.w - 4096<=e.n/\e.n - b.pe.w<=1000000000
 la:0<=b.la
 sd:b.sd=0\/b.sd=1
theorem wF:dS [f]=(if f.t=0 then(f.d.size:Int) else 0):=by simp[dS]
theorem iU:gS id [f]=(if f.t=10/\f.st=id then f.n else 0):=by simp[gS]
theorem fZ:nT n [f]=(if f.t=n then 1 else 0):=by rw[Hw];simp[nT]
theorem z8 (h:Hb b f) (hj:jn b'= { jn b with dr:=b'.dr }) (hov:b'.dr.ov=false/\b'.dr.co=b.dr.co) (hl:∀e∈b'.ld.l,e∈b.ld.l) (h2:f.t≠2) (h0:f.t≠0) (h10:f.t=10->f.st≠0) (h6:f.t≠6) (h5:f.t≠5):Ef b b' f []:=by
 have e1:dS [f]=0:=by rw[wF,if_neg h0]
 have e2:gS 0 [f]=0:=by rw[iU,if_neg (fun hq=>h10 hq.1 hq.2)]
 have e3:nT 6 [f]=0:=by rw[fZ,if_neg h6]
 have hw:b'.pe=b.pe:=congrArg Jn.pe hj
 exact {
  sd:=congrArg Jn.sd hj
  nx:=congrArg Jn.nx hj
  la:=by unfold Az;rw[if_neg h2];exact congrArg Jn.la hj
  got:=by rw[e1,Int.add_zero];exact congrArg Jn.got hj
  gr:=congrArg Jn.gr hj
  sp:=congrArg Jn.sp hj
  n0:=by rw[e2,Int.add_zero];exact congrArg Jn.n0 hj
  out:=by rw[List.append_nil];exact congrArg Jn.out hj
  ov:=hov.1
  co:=hov.2
  last:=congrArg Jn.last hj
  ti:=⟨congrArg Jn.ev hj,congrArg Jn.li hj⟩
  sh:=by rw[e3];exact congrArg (fun j=>j.sh.l.length) hj
  pe:=by rw[hw];exact h.pe
  pwn:=by rw[hw,if_neg h5]
  ln:=fun e' he=>.inl ⟨e',hl e' he,rfl,by
   have:=vD h.fo.r
   rw[hw,iU]
   split <;> omega,by rw[hw];exact(h.ln e' (hl e' he)).1⟩
  gl:=fun g hg=>by cases hg }
theorem Aa3 (h:Ef b s f gl) (hs:Sb s s'):Ef b s' f gl:=
 { sd:=(congrArg Jn.sd hs.j).trans h.sd
   nx:=(congrArg Jn.nx hs.j).trans h.nx
   la:=(congrArg Jn.la hs.j).trans h.la
   got:=(congrArg Jn.got hs.j).trans h.got
   gr:=(congrArg Jn.gr hs.j).trans h.gr
   sp:=(congrArg Jn.sp hs.j).trans h.sp
   n0:=(congrArg Jn.n0 hs.j).trans h.n0
   out:=(congrArg Jn.out hs.j).trans h.out
   ov:=hs.ov.trans h.ov
   co:=(congrArg (fun j=>j.dr.co) hs.j).trans h.co
   last:=(congrArg Jn.last hs.j).trans h.last
   ti:=⟨(congrArg Jn.ev hs.j).trans h.ti.1,(congrArg Jn.li hs.j).trans h.ti.2⟩
   sh:=by rw[<- h.sh];exact congrArg (fun j=>j.sh.l.length+nT 6 [f]) hs.j
   pe:=by rw[show s'.pe=s.pe from congrArg Jn.pe hs.j];exact h.pe
   pwn:=by rw[show s'.pe=s.pe from congrArg Jn.pe hs.j];exact h.pwn
   ln:=fun e he=>by
    rw[show s'.pe=s.pe from congrArg Jn.pe hs.j]
    exact h.ln e (hs.l e he)
   gl:=h.gl }
theorem Aap (h:Ef b s f []) (hs:Pu1 s s' g) (hg:An b (Az b.la f) f g):Ef b s' f [g]:=
 { sd:=(congrArg Jn.sd hs.j).trans h.sd
   nx:=(congrArg Jn.nx hs.j).trans h.nx
   la:=(congrArg Jn.la hs.j).trans h.la
   got:=(congrArg Jn.got hs.j).trans h.got
   gr:=(congrArg Jn.gr hs.j).trans h.gr
   sp:=(congrArg Jn.sp hs.j).trans h.sp
   n0:=(congrArg Jn.n0 hs.j).trans h.n0
   out:=(congrArg Jn.out hs.j).trans (by show s.out++ [g]=_;rw[h.out,List.append_nil])
   ov:=(congrArg (fun j=>j.dr.ov) hs.j).trans h.ov
   co:=(congrArg (fun j=>j.dr.co) hs.j).trans h.co
   last:=(congrArg Jn.last hs.j).trans h.last
   ti:=⟨(congrArg Jn.ev hs.j).trans h.ti.1,(congrArg Jn.li hs.j).trans h.ti.2⟩
   sh:=by rw[<- h.sh];exact congrArg (fun j=>j.sh.l.length+nT 6 [f]) hs.j
   pe:=by rw[show s'.pe=s.pe from congrArg Jn.pe hs.j];exact h.pe
   pwn:=by rw[show s'.pe=s.pe from congrArg Jn.pe hs.j];exact h.pwn
   ln:=fun e he=>by
    rw[show s'.pe=s.pe from congrArg Jn.pe hs.j]
    exact h.ln e (hs.l e he)
   gl:=fun z hz=>by rw[List.mem_singleton.1 hz];exact hg }
def WU (b b':Cn) (f:Fm):Prop:=(∃gl,Ef b b' f gl/\nT 6 gl=nT 5 [f])\/Fl b b'
end
section
variable {sd nx la:Int} {c:Cf}
theorem WB:∀ {ps:List Pr} {s:dR},psI ps->(0<=s.w/\s.w<=4096)->∃t,Vg s ps=some t/\(0<=t.w/\t.w<=4096)/\t.w=pww s.w ps
 | [],s,_,h=>⟨s,rfl,h,rfl⟩
 |p::ps,s,hp,h=>by
  have h1:=hp p (List.mem_cons_self ..)
  show ∃t,(if 0<=p.v/\p.v<=2147483647 then Vg (Mp s p) ps else none)=some t/\_
  rw[if_pos (by omega)]
  have ew:(Mp s p).w=if p.i=1 then p.v else s.w:=by
   unfold Mp
   split
   ·rfl
   ·split
    ·rfl
    ·split <;> rfl
  have:=WB (s:=Mp s p) (fun q hq=>hp q (List.mem_cons_of_mem _ hq)) (by rw[ew];split <;> omega)
  rw[ew] at this
  exact this
theorem Tv {tt:Int} {e:Bool}:eT m tt d e=0\/eT m tt d e=6\/eT m tt d e=7\/eT m tt d e=8\/eT m tt d e=10:=by
 unfold eT
 split
 ·exact .inr (.inl rfl)
 ·split
  ·exact .inr (.inr (.inl rfl))
  ·unfold xW
   cases m.y with
   |b y=>dsimp only;repeat' split
         all_goals simp
   |i y=>dsimp only;repeat' split
         all_goals simp
theorem Aic (h:w=3\/w=4\/w=6\/w=7\/w=8\/w=10\/w=11\/w=13):Kv w=false:=by
 rcases h with rfl|rfl|rfl|rfl|rfl|rfl|rfl|rfl <;> decide
theorem Hb.at (h:Hb b f) (hj:jn b'=jn b) (hl:b'.ld=b.ld):Hb b' f:=by
 have e1:b'.sd=b.sd:=congrArg Jn.sd hj
 have e2:b'.nx=b.nx:=congrArg Jn.nx hj
 have e3:b'.la=b.la:=congrArg Jn.la hj
 have e4:b'.pe=b.pe:=congrArg Jn.pe hj
 have e5:b'.rv.got=b.rv.got:=congrArg Jn.got hj
 have e6:b'.rv.gr=b.rv.gr:=congrArg Jn.gr hj
 have e7:b'.sh=b.sh:=congrArg Jn.sh hj
 have e8:b'.dr=b.dr:=congrArg Jn.dr hj
 exact⟨by rw[e8];exact h.ov,by rw[e1,e2,e3];exact h.fo,by rw[e5,e6];exact h.got,by rw[e7];exact h.ak,by rw[hl];exact h.n0,by rw[e4];exact h.pe,by rw[hl,e4];exact h.ln,by rw[e3];exact h.la,by rw[e1];exact h.sd⟩
theorem sH (he:Ef b s f []) (hw:Kv w=false) (hp:gI b.sd b.nx (Az b.la f) f.st=true) (h5:f.t≠5):WU b (i8 w f.st s) f:=by
 rcases Ad2 (w:=w) (st:=f.st) (s:=s) hw he.ov with h|h
 ·exact .inl ⟨_,Aap he h ⟨h.r,IS,.inl ⟨rfl,hp⟩⟩,by rw[fZ,fZ,if_neg (by show ¬(4:Int)=6;decide),if_neg h5]⟩
 ·exact .inr (h.of he.gr)
theorem NL (he:Ef b s f []) (hs:Sb s s') (h5:f.t≠5):WU b s' f:=.inl ⟨[],Aa3 he hs,by rw[fZ,if_neg h5];rfl⟩
theorem Ae4 (h:Hb b f) (ht:f.t=0\/f.t=1) (hst:f.st≠0):WU b (rZ f b) f:=by
 have hp:=h.fo.pa hst (by omega)
 have h5:f.t≠5:=by omega
 have hl1:Az b.la f=b.la:=if_neg (by omega)
 have hd:dS [f]=(if f.t=0 then((f.d.size:Nat):Int) else 0):=wF
 have hg:=h.got
 have hE:k7 b.rv (if f.t=0 then((f.d.size:Nat):Int) else 0)=0:=by
  unfold k7
  rw[<- hd,if_neg (by omega)]
 have hrv:gA b.rv (if f.t=0 then((f.d.size:Nat):Int) else 0)= { b.rv with got:=b.rv.got+dS [f] }:=by
  unfold gA
  rw[if_pos hE,hd]
 have he:Ef b { b with rv:= { b.rv with got:=b.rv.got+dS [f] } } f []:= {
  sd:=rfl
  nx:=rfl
  la:=hl1.symm
  got:=rfl
  gr:=rfl
  sp:=rfl
  n0:=by show b.ld.n0=b.ld.n0+_;rw[iU,if_neg (by omega),Int.add_zero]
  out:=(List.append_nil _).symm
  ov:=h.ov
  co:=rfl
  last:=rfl
  ti:=⟨rfl,rfl⟩
  sh:=by show b.sh.l.length+_=_;rw[fZ,if_neg (by omega)];rfl
  pe:=h.pe
  pwn:=(if_neg (by omega)).symm
  ln:=fun e' he=>.inl ⟨e',he,rfl,by
   have:=vD h.fo.r
   rw[iU]
   dsimp only
   split <;> omega,(h.ln e' he).1⟩
  gl:=fun g hg=>by cases hg }
 unfold rZ
 rw[if_neg (by rw[hE];decide),hrv]
 cases bX f.st b.l with
 |none=>exact NL he Mf h5
 |some m=>
  dsimp only
  by_cases hw:eT m f.t f.d f.e=0
  ·rw[if_neg (by rw[hw];decide)]
   refine NL (Aa3 he ?_) Hm h5
   exact⟨rfl,fun _ h=>h⟩
  ·rw[if_pos hw]
   refine sH (Aa3 he Mf) (Aic ?_) (by rw[hl1];exact hp) h5
   have:=Tv (m:=m) (tt:=f.t) (d:=f.d) (e:=f.e)
   omega
theorem IU:(gM id n z).sp=z.sp/\(gM id n z).n0=z.n0/\∀e∈(gM id n z).l,e∈z.l\/e=⟨id,n,0⟩:=by
 unfold gM
 split
 ·exact⟨rfl,rfl,fun e he=>.inl he⟩
 ·refine⟨rfl,rfl,fun e he=>?_⟩
  rcases List.mem_append.1 he with he|he
  ·exact .inl (List.mem_of_mem_take he)
  ·rcases List.mem_cons.1 he with he|he
   ·exact .inr he
   ·exact .inl (List.mem_of_mem_drop he)
theorem Afp (h:Hb b f) (ht:f.t=2):WU b (mU f b) f:=by
 obtain⟨hv,hon⟩:=h.fo.op ht
 have h5:f.t≠5:=by omega
 have hl1:Az b.la f=f.st:=if_pos ht
 have hov:=h.ov
 have hsd:QY (1 - b.sd) f.st=true/\b.la<f.st:=by
  unfold nQ at hv
  split at hv
  ·rename_i hq;exact hq
  ·cases hv
 have hps:gI b.sd b.nx f.st f.st=true:=by
  have h1:=hsd.1
  unfold QY at h1
  unfold gI QY
  simp only[Bool.and_eq_true,decide_eq_true_eq,beq_iff_eq] at h1 ⊢
  obtain⟨⟨a1,a2⟩,a3⟩:=h1
  refine⟨⟨a1,a2⟩,?_⟩
  rw[if_neg]
  ·exact decide_eq_true (Int.le_refl _)
  ·rintro⟨_,hq⟩
   have e1:(decide (1 - b.sd=0):Bool)=decide (b.sd=0):=by rw[<- a3,hq]
   have hsd2:=h.sd
   rcases hsd2 with hz|hz <;> rw[hz] at e1 <;> exact absurd e1 (by decide)
 have he:Ef b { b with la:=f.st } f []:= {
  sd:=rfl
  nx:=rfl
  la:=hl1.symm
  got:=by show b.rv.got=b.rv.got+_;rw[wF,if_neg (by omega),Int.add_zero]
  gr:=rfl
  sp:=rfl
  n0:=by show b.ld.n0=b.ld.n0+_;rw[iU,if_neg (by omega),Int.add_zero]
  out:=(List.append_nil _).symm
  ov:=h.ov
  co:=rfl
  last:=rfl
  ti:=⟨rfl,rfl⟩
  sh:=by show b.sh.l.length+_=_;rw[fZ,if_neg (by omega)];rfl
  pe:=h.pe
  pwn:=(if_neg (by omega)).symm
  ln:=fun e' he=>.inl ⟨e',he,rfl,by rw[iU,if_neg (by omega)];dsimp only;omega,(h.ln e' he).1⟩
  gl:=fun g hg=>by cases hg }
 unfold mU
 rw[if_neg (by rw[hv];decide),if_neg hon]
 split
 ·exact sH he (by decide) (by rw[hl1];exact hps) h5
 ·split
  ·exact sH he (by decide) (by rw[hl1];exact hps) h5
  ·refine .inl ⟨[],?_,by rw[fZ,if_neg h5];rfl⟩
   obtain⟨o1,o2,o3⟩:=IU (id:=f.st) (z:=b.ld) (n:=b.pe.w)
   exact {
    sd:=rfl
    nx:=rfl
    la:=hl1.symm
    got:=by show b.rv.got=b.rv.got+_;rw[wF,if_neg (by omega),Int.add_zero]
    gr:=rfl
    sp:=by
     show(if f.k=1 then gM f.st b.pe.w b.ld else b.ld).sp=b.ld.sp
     split
     ·exact o1
     ·rfl
    n0:=by
     show(if f.k=1 then gM f.st b.pe.w b.ld else b.ld).n0=b.ld.n0+_
     rw[iU,if_neg (show ¬(f.t=10/\f.st=0) by omega),Int.add_zero]
     split
     ·exact o2
     ·rfl
    out:=(List.append_nil _).symm
    ov:=h.ov
    co:=rfl
    last:=rfl
    ti:=⟨rfl,rfl⟩
    sh:=by show b.sh.l.length+_=_;rw[fZ,if_neg (by omega)];rfl
    pe:=h.pe
    pwn:=(if_neg (by omega)).symm
    ln:=fun e' he=>by
     have he:e'∈(if f.k=1 then gM f.st b.pe.w b.ld else b.ld).l:=he
     have hold:e'∈b.ld.l->(∃e∈b.ld.l,e'.id=e.id/\e'.n - b.pe.w<=e.n - b.pe.w+gS e.id [f]/\b.pe.w - 4096<=e'.n)\/e'.n=b.pe.w/\e'.id=f.st/\f.t=2:=fun hm=>.inl ⟨e',hm,rfl,by rw[iU,if_neg (by omega)];omega,(h.ln e' hm).1⟩
     split at he
     ·rcases o3 e' he with hm|hm
      ·exact hold hm
      ·exact .inr ⟨by rw[hm];rfl,by rw[hm],ht⟩
     ·exact hold he
    gl:=fun g hg=>by cases hg }
end
section
variable {sd nx la:Int} {c:Cf}
theorem Sc {a e:Int} (ha:0<=a/\a<=4096) (he:0<=e/\e<=4096) (h:-2147483647<=n+(e - a)/\n+(e - a)<=2147483647):kN n a e=0/\uL n a e=n+(e - a):=by
 have h1:mG a=true/\mG e=true:=by unfold mG;simp only[Bool.and_eq_true,decide_eq_true_eq];omega
 have h2:wK (n+(e - a))=true:=by unfold wK;simp only[Bool.and_eq_true,decide_eq_true_eq];exact h
 unfold kN uL xM Am
 rw[if_pos h1,if_pos h1,if_pos h2,if_pos h2]
 exact⟨rfl,rfl⟩
theorem Rz {a e:Int}:∀ {l:List gZ},(∀x∈l,kN x.n a e=0)->wP a e l=0
 | [],_=>rfl
 |x::l,h=>by
  unfold wP
  rw[if_neg (by rw[h x (List.mem_cons_self ..)];decide)]
  exact Rz fun y hy=>h y (List.mem_cons_of_mem _ hy)
theorem Aaq (h:Hb b f) (ht:f.t=5):WU b (wJ f b) f:=by
 obtain⟨t,e1,e2,e3⟩:=WB (h.fo.se ht) h.pe
 have hpe:=h.pe
 have hz:∀x∈b.ld.l,kN x.n b.pe.w t.w=0/\uL x.n b.pe.w t.w=x.n+(t.w - b.pe.w):=fun x hx=>by
  have:=h.ln x hx
  exact Sc hpe e2 (by omega)
 have hE:AQ b.pe.w t.w b.ld=0:=by
  unfold AQ
  rw[if_neg (fun hq=>hq.1 (Sc hpe e2 (by omega)).1)]
  exact Rz fun x hx=>(hz x hx).1
 unfold wJ
 rw[e1]
 dsimp only
 rw[if_neg (by rw[hE];decide)]
 have he:Ef b { b with ld:=mO b.pe.w t.w b.ld,pe:=t } f []:= {
  sd:=rfl
  nx:=rfl
  la:=(if_neg (by omega):Az b.la f=b.la).symm
  got:=by show b.rv.got=b.rv.got+_;rw[wF,if_neg (by omega),Int.add_zero]
  gr:=rfl
  sp:=by show(mO b.pe.w t.w b.ld).sp=_;unfold mO;split <;> rfl
  n0:=by
   show(mO b.pe.w t.w b.ld).n0=b.ld.n0+_
   rw[iU,if_neg (by omega),Int.add_zero]
   unfold mO;split <;> rfl
  out:=(List.append_nil _).symm
  ov:=h.ov
  co:=rfl
  last:=rfl
  ti:=⟨rfl,rfl⟩
  sh:=by show b.sh.l.length+_=_;rw[fZ,if_neg (by omega)];rfl
  pe:=e2
  pwn:=by rw[if_pos ht];exact e3
  ln:=fun e' he=>by
   have he:e'∈(mO b.pe.w t.w b.ld).l:=he
   unfold mO at he
   rw[if_neg (by rw[hE];decide)] at he
   obtain⟨x,hx,rfl⟩:=List.mem_map.1 he
   have:=h.ln x hx
   refine .inl ⟨x,hx,rfl,?_,?_⟩
   ·show uL x.n b.pe.w t.w - t.w<=_
    rw[(hz x hx).2,iU,if_neg (by omega)];omega
   ·show t.w - 4096<=uL x.n b.pe.w t.w
    rw[(hz x hx).2];omega
  gl:=fun g hg=>by cases hg }
 rcases NM (f:=fr0 6 0) (s:= { b with ld:=mO b.pe.w t.w b.ld,pe:=t }) ⟨by show(6:Int)≠10;decide,by show(6:Int)≠11;decide⟩ ⟨rfl,rfl,rfl⟩ h.ov with hp|hp
 ·exact .inl ⟨_,Aap he hp ⟨hp.r,⟨rfl,rfl,rfl⟩,.inr ⟨.inl ⟨rfl,ht⟩,rfl⟩⟩,by rw[fZ,fZ,if_pos (show(fr0 6 0).t=6 from rfl),if_pos ht]⟩
 ·exact .inr (hp.of rfl)
theorem Akf (h:Hb b f) (ht:f.t=6):WU b (rD b) f:=by
 have hk:=h.ak
 rw[fZ,if_pos ht] at hk
 have hne:b.sh.l≠ []:=fun e=>by rw[e] at hk;exact absurd hk (by decide)
 unfold rD
 rw[if_neg (by unfold zW;rw[if_neg hne];decide)]
 refine .inl ⟨[],?_,by rw[fZ,if_neg (by omega)];rfl⟩
 exact {
  sd:=rfl
  nx:=rfl
  la:=(if_neg (by omega):Az b.la f=b.la).symm
  got:=by show b.rv.got=b.rv.got+_;rw[wF,if_neg (by omega),Int.add_zero]
  gr:=rfl
  sp:=rfl
  n0:=by show b.ld.n0=b.ld.n0+_;rw[iU,if_neg (by omega),Int.add_zero]
  out:=(List.append_nil _).symm
  ov:=h.ov
  co:=rfl
  last:=rfl
  ti:=⟨rfl,rfl⟩
  sh:=by
   show(dE b.sh).l.length+_=_
   rw[fZ,if_pos ht]
   unfold dE
   cases hq:b.sh.l with
   |nil=>exact absurd hq hne
   |cons x r=>rfl
  pe:=h.pe
  pwn:=(if_neg (by omega)).symm
  ln:=fun e' he=>.inl ⟨e',he,rfl,by rw[iU,if_neg (by omega)];dsimp only;omega,(h.ln e' he).1⟩
  gl:=fun g hg=>by cases hg }
theorem Acj (h:Hb b f) (ht:f.t=7):WU b (nC (uD 8 0 f.d false) b) f:=by
 have he:Ef b b f []:=z8 h rfl ⟨h.ov,rfl⟩ (fun _ h=>h) (by omega) (by omega) (by omega) (by omega) (by omega)
 rcases NM (f:=uD 8 0 f.d false) (s:=b) ⟨by show(8:Int)≠10;decide,by show(8:Int)≠11;decide⟩ ⟨rfl,rfl,rfl⟩ h.ov with hp|hp
 ·exact .inl ⟨_,Aap he hp ⟨hp.r,⟨rfl,rfl,rfl⟩,.inr ⟨.inr rfl,rfl⟩⟩,by rw[fZ,fZ,if_neg (by show ¬(8:Int)=6;decide),if_neg (by omega)]⟩
 ·exact .inr hp
theorem Af5 (h:Hb b f) (ht:f.t=8):WU b { b with bt:=kJ b.bt b.now d } f:=by
 refine .inl ⟨[],z8 h ?_ ⟨h.ov,rfl⟩ (fun _ h=>h) (by omega) (by omega) (by omega) (by omega) (by omega),by rw[fZ,if_neg (by omega)];rfl⟩
 have:(kJ b.bt b.now d).ev=b.bt.ev:=by unfold kJ;split <;> rfl
 unfold jn
 dsimp only
 rw[this]
theorem Abv (h:Hb b f) (ht:f.t=9):WU b (vK f b) f:=by
 have hov:=h.ov
 have hc:=h.fo.go ht
 have hd:(mI b.dr f.la f.c).ov=false:=by
  unfold mI
  split
  ·exact hov
  ·rw[if_neg (by omega)];exact hov
 have hd2:(mI b.dr f.la f.c).co=b.dr.co:=by
  unfold mI
  split
  ·rfl
  ·rw[if_neg (by omega)]
 unfold vK
 rw[if_neg (by rw[hd];decide)]
 have he:Ef b { b with dr:=mI b.dr f.la f.c } f []:=z8 h rfl ⟨hd,hd2⟩ (fun _ h=>h) (by omega) (by omega) (by omega) (by omega) (by omega)
 exact NL he VM (by omega)
theorem ZH (h:Hb b f) (ht:f.t=10) (hs:f.st=0):WU b (qZ f b) f:=by
 have hw:=h.fo.wh ht
 have hr:=vD h.fo.r
 have hn:=h.n0
 rw[iU,if_pos ⟨ht,hs⟩] at hn
 have hf:wK (b.ld.n0+f.n)=true:=by unfold wK;simp only[Bool.and_eq_true,decide_eq_true_eq];omega
 have hE:mQ 0 f.n b.ld=0:=by
  unfold mQ
  rw[if_pos rfl]
  unfold nI xM
  rw[if_pos (by omega),if_pos hf]
 have hG:kK 0 f.n b.ld= { b.ld with n0:=b.ld.n0+f.n }:=by
  unfold kK
  rw[if_pos rfl]
  unfold kI Am
  rw[if_pos (by omega),if_pos hf]
 unfold qZ
 rw[if_neg (by omega),if_neg (by rw[hE];decide),hG]
 have hli:(f6 b.sl b.now).li=b.sl.li:=by unfold f6;split <;> rfl
 refine .inl ⟨[],?_,by rw[fZ,if_neg (by omega)];rfl⟩
 exact {
  sd:=rfl
  nx:=rfl
  la:=(if_neg (by omega):Az b.la f=b.la).symm
  got:=by show b.rv.got=b.rv.got+_;rw[wF,if_neg (by omega),Int.add_zero]
  gr:=rfl
  sp:=rfl
  n0:=by show b.ld.n0+f.n=b.ld.n0+_;rw[iU,if_pos ⟨ht,hs⟩]
  out:=(List.append_nil _).symm
  ov:=h.ov
  co:=rfl
  last:=rfl
  ti:=⟨rfl,hli⟩
  sh:=by show b.sh.l.length+_=_;rw[fZ,if_neg (by omega)];rfl
  pe:=h.pe
  pwn:=(if_neg (by omega)).symm
  ln:=fun e' he=>.inl ⟨e',he,rfl,by rw[iU];dsimp only;split <;> omega,(h.ln e' he).1⟩
  gl:=fun g hg=>by cases hg }
theorem UH (h0:id≠0) (hE:mQ id n z=0):(kK id n z).sp=z.sp/\(kK id n z).n0=z.n0/\∀e'∈(kK id n z).l,e'∈z.l\/∃e∈z.l,e.id=id/\e'.id=id/\e'.n=e.n+n:=by
 unfold kK
 unfold mQ at hE
 rw[if_neg h0] at hE ⊢
 cases hq:pR id z.l with
 |none=>rw[hq] at hE;cases hE
 |some e=>
  rw[hq] at hE
  obtain⟨q1,q2⟩:=oM hq
  have hg:kI e.n n=e.n+n:=by
   have hE:nI e.n n=0:=hE
   unfold nI xM at hE
   unfold kI Am
   split at hE
   ·rename_i h1
    rw[if_pos h1]
    split at hE
    ·rename_i h2;rw[if_pos h2]
    ·cases hE
   ·cases hE
  refine⟨rfl,rfl,fun e' he=>?_⟩
  have he:e'∈z.l.set (oB id z.l) ⟨e.id,kI e.n n,e.sp⟩:=he
  rcases List.mem_or_eq_of_mem_set he with hm|hm
  ·exact .inl hm
  ·refine .inr ⟨e,List.mem_of_getElem? q1,q2,by rw[hm];exact q2,by rw[hm];exact hg⟩
theorem RH (h:Hb b f) (ht:f.t=10\/f.t=11) (hs:f.st≠0):WU b (lE f m b) f:=by
 have hp:=h.fo.pa hs (by omega)
 have hl1:Az b.la f=b.la:=if_neg (by omega)
 have Fw:gI b.sd b.nx (Az b.la f) f.st=true:=by rw[hl1];exact hp
 have he:Ef b b f []:=z8 h rfl ⟨h.ov,rfl⟩ (fun _ h=>h) (by omega) (by omega) (fun _=>hs) (by omega) (by omega)
 have h5:f.t≠5:=by omega
 have hli:(f6 b.sl b.now).li=b.sl.li:=by unfold f6;split <;> rfl
 unfold lE
 split
 ·exact sH he (by decide) Fw h5
 ·split
  ·exact sH he (by decide) Fw h5
  ·split
   ·rename_i hq1 hq2 hk
    split
    ·exact sH he (by decide) Fw h5
    ·rename_i hE
     have hE:mQ f.st f.n b.ld=0:=by simpa using hE
     obtain⟨o1,o2,o3⟩:=UH hs hE
     have h10:f.t=10:=by
      by_cases hq:f.t=10
      ·exact hq
      ·exact absurd (by simp[hk,hq]) hq1
     refine .inl ⟨[],?_,by rw[fZ,if_neg h5];rfl⟩
     exact {
      sd:=rfl
      nx:=rfl
      la:=hl1.symm
      got:=by show b.rv.got=b.rv.got+_;rw[wF,if_neg (by omega),Int.add_zero]
      gr:=rfl
      sp:=o1
      n0:=by
       show(kK f.st f.n b.ld).n0=b.ld.n0+_
       rw[o2,iU,if_neg (fun hq=>hs hq.2),Int.add_zero]
      out:=(List.append_nil _).symm
      ov:=h.ov
      co:=rfl
      last:=rfl
      ti:=⟨rfl,hli⟩
      sh:=by show b.sh.l.length+_=_;rw[fZ,if_neg (by omega)];rfl
      pe:=h.pe
      pwn:=(if_neg (by omega)).symm
      ln:=fun e' he=>by
       have hr:=vD h.fo.r
       rcases o3 e' he with hm|⟨e,hm,q1,q2,q3⟩
       ·exact .inl ⟨e',hm,rfl,by rw[iU];dsimp only;split <;> omega,(h.ln e' hm).1⟩
       ·refine .inl ⟨e,hm,by rw[q1,q2],?_,?_⟩
        ·show e'.n - b.pe.w<=_
         rw[iU,if_pos ⟨h10,q1.symm⟩];omega
        ·show b.pe.w - 4096<=_
         have:=(h.ln e hm).1;omega
      gl:=fun g hg=>by cases hg }
   ·split
    ·exact sH he (by decide) Fw h5
    ·refine .inl ⟨[],z8 h ?_ ⟨h.ov,rfl⟩ (fun _ h=>h) (by omega) (by omega) (fun _=>hs) (by omega) (by omega),by rw[fZ,if_neg h5];rfl⟩
     unfold jn w4
     dsimp only
     rw[hli]
theorem Zy (h:Hb b f) (ht:f.t=3\/f.t=4\/f.t=10\/f.t=11) (hs:f.st≠0):WU b (kE f b) f:=by
 have he:Ef b b f []:=z8 h rfl ⟨h.ov,rfl⟩ (fun _ h=>h) (by omega) (by omega) (fun _=>hs) (by omega) (by omega)
 have h5:f.t≠5:=by omega
 unfold kE
 rw[if_neg (fun hq=>h.fo.pr hq.1 hq.2)]
 cases bX f.st b.l with
 |none=>exact .inl ⟨[],he,by rw[fZ,if_neg h5];rfl⟩
 |some m=>
  dsimp only
  split
  ·exact .inl ⟨[],z8 h rfl ⟨h.ov,rfl⟩ (fun _ h=>h) (by omega) (by omega) (fun _=>hs) (by omega) (by omega),by rw[fZ,if_neg h5];rfl⟩
  ·split
   ·exact NL he Hh h5
   ·exact RH h (by omega) hs
theorem Ri (h:Hb b f):WU b (fG f b) f:=by
 obtain⟨r1,r2,r3,r4,_⟩:=h.fo.r
 unfold fG
 split
 ·exact Aaq h (by assumption)
 ·split
  ·exact Akf h (by assumption)
  ·split
   ·exact Acj h (by assumption)
   ·split
    ·exact Af5 h (by assumption)
    ·split
     ·exact Abv h (by assumption)
     ·split
      ·exact Afp h (by assumption)
      ·split
       ·exact ZH h (by omega) (by assumption)
       ·rename_i hst
        split
        ·rename_i hp
         have:=h.fo.pa hst (by omega)
         unfold vH at hp
         rw[this] at hp
         cases hp
        ·split
         ·exact Ae4 h (by assumption) hst
         ·exact Zy h (by omega) hst
theorem SP (h:Hb b f):WU b (bC f b) f:=by
 have h0:Hb { b with bt:=bQ b.bt b.now } f:=h.at rfl rfl
 rcases Ri h0 with⟨gl,he,hg⟩|hf
 ·refine .inl ⟨gl,?_,hg⟩
  exact⟨he.sd,he.nx,he.la,he.got,he.gr,he.sp,he.n0,he.out,he.ov,he.co,he.last,he.ti,he.sh,he.pe,he.pwn,he.ln,fun g hg=>⟨(he.gl g hg).r,(he.gl g hg).c,(he.gl g hg).t⟩⟩
 ·exact .inr hf
end
section
variable {la nx:Int}
structure HX (k:Int) (a b:Cn) (Ta Tb:List Fm):Prop where
 sq:b.dr.ov=false->Yu b.sd b.nx b.la (Tb++a.out)
 hi:b.dr.ov=false->∀f∈Tb++a.out,f.t=2->f.st<a.nx
 nx:b.dr.ov=false->a.nx<=w3 b.la (Tb++a.out)+2
 dt:b.dr.ov=false->b.rv.got+dS Tb=a.ld.sp
 ak:b.dr.ov=false->nT 6 (Tb++a.out)+(if a.dr.ov=true then 0 else nT 5 (Ta++b.out))<=b.sh.l.length
 la:a.la<b.nx
 gr:a.ld.sp+a.ld.n0+(if a.dr.ov=true then 0 else gS 0 Ta)<=b.rv.gr
 n0:0<=a.ld.n0
 gs:a.dr.ov=false->∀id,gS id Ta<=4096 * k
 ln:a.dr.ov=false->∀e∈a.ld.l,a.pe.w - 4096<=e.n/\e.n - a.pe.w+gS e.id Ta<=4096 * k
 pe:0<=a.pe.w/\a.pe.w<=4096
 co:a.dr.co=0
 lst:a.last=⟨#[]⟩
 ti:a.bt.ev=0/\a.sl.li=0
 oo:a.dr.ov=true->a.out= []
 sd:a.sd=1 - b.sd
 ot:∀f∈a.out,2<=f.t/\f.t<=9
theorem OE:∀ {gl:List Fm} {sd nx la:Int},(∀g∈gl,g.t≠2/\FO sd nx la g)->Yu sd nx la gl
 | [],_,_,_,_=>trivial
 |g::gl,sd,nx,la,h=>by
  obtain⟨h1,h2⟩:=h g (List.mem_cons_self ..)
  refine⟨h2,?_⟩
  rw[show Az la g=la from if_neg h1]
  exact OE fun z hz=>h z (List.mem_cons_of_mem _ hz)
theorem DN:∀ {gl:List Fm} {la:Int},(∀g∈gl,g.t≠2)->w3 la gl=la
 | [],_,_=>rfl
 |g::gl,la,h=>by
  show w3 (Az la g) gl=la
  rw[show Az la g=la from if_neg (h g (List.mem_cons_self ..))]
  exact DN fun z hz=>h z (List.mem_cons_of_mem _ hz)
theorem Ol (h:∀g∈gl,g.t≠n):nT n gl=0:=by
 unfold nT
 rw[List.filter_eq_nil_iff.2 fun g hg=>by simpa using h g hg]
 rfl
theorem Gk {sb nb:Int} (h:gI sb nb la st=true) (hla:la<na) (hn:nb<=L+2) (hs:sb=1 - sa) (h01:sb=0\/sb=1) (hp:nb % 2=1↔sb=0):gI sa na L st=true:=by
 unfold gI QY at h ⊢
 simp only[Bool.and_eq_true,decide_eq_true_eq,beq_iff_eq] at h ⊢
 obtain⟨⟨q1,q2⟩,q3⟩:=h
 refine⟨⟨q1,q2⟩,?_⟩
 have key:∀z:Int,(decide (st % 2=1):Bool)=decide (z=0)↔(st % 2=1↔z=0):=fun z=>by
  constructor
  ·intro h;constructor
   ·intro h1;rw[decide_eq_true h1] at h;exact of_decide_eq_true h.symm
   ·intro h1;rw[decide_eq_true h1] at h;exact of_decide_eq_true h
  ·intro h;exact decide_eq_decide.2 h
 split at q3
 ·rename_i hq
  have hq:=(key sb).1 hq.2
  rw[if_neg (fun hz=>by have hz:=(key sa).1 hz.2;omega)]
  simp only[decide_eq_true_eq] at q3 ⊢
  omega
 ·rename_i hq
  have hq2:¬(st % 2=1↔sb=0):=fun hz=>hq ⟨⟨q1,q2⟩,(key sb).2 hz⟩
  rw[if_pos ⟨⟨q1,q2⟩,(key sa).2 (by omega)⟩]
  simp only[decide_eq_true_eq] at q3 ⊢
  omega
theorem An.fo (h:An b la f g) (hla:la<na) (hn:b.nx<=L+2) (hs:b.sd=1 - sa) (h01:b.sd=0\/b.sd=1) (hp:b.nx % 2=1↔b.sd=0):g.t≠2/\g.t≠5/\FO sa na L g:=by
 have ht:g.t=4\/g.t=6\/g.t=8:=by
  rcases h.t with⟨h1,_⟩|⟨⟨h1,_⟩|h1,_⟩ <;> omega
 refine⟨by omega,by omega,h.r,h.c,by omega,by omega,by omega,by omega,by omega,fun h0 _=>?_⟩
 rcases h.t with⟨_,h2⟩|⟨_,h2⟩
 ·exact Gk h2 hla hn hs h01 hp
 ·exact absurd h2 h0
theorem Aqb (h:bO Q b):b.rv.gr<=Q+512:=by
 obtain⟨h1,h2,h3,h4,h5,h6⟩:=h.rv
 omega
theorem Yj (hk:0<=k/\k<=1000) (ha:bO B a) (hb:bO Q b) (ho:b.dr.ov=false) (h1:HX k a b Ta (f::T2)) (h2:HX k b a (f::T2) Ta):(HX k a (bC f b) Ta T2/\HX k (bC f b) a T2 Ta/\(bC f b).dr.ov=false/\∃gl,Ef b (bC f b) f gl/\nT 6 gl=nT 5 [f])\/Fl b (bC f b):=by
 have hsq:=h1.sq ho
 have hf:FO b.sd b.nx b.la f:=hsq.1
 have hn:=vD hf.r
 have hdt:=h1.dt ho
 have hgr:=h1.gr
 have hgr2:=h2.gr
 have hn0:=h1.n0
 have hn02:=h2.n0
 have hak:=h1.ak ho
 have hbb:=ha.bb
 have hra:=Aqb ha
 have hld:=hb.ld.2.2.2.2.1
 have hd2:=Apt (T:=T2)
 rw[ho,if_neg Bool.false_ne_true,wZ] at hgr2
 have hgT2:∀id,0<=gS id T2:=fun id=>PH (u4.1 hsq.2).1
 have hg0:0<=(if a.dr.ov=true then 0 else gS 0 Ta):=by
  cases hoa:a.dr.ov
  ·rw[if_neg Bool.false_ne_true];exact PH (u4.1 (h2.sq hoa)).1
  ·rw[if_pos rfl];exact Int.le_refl _
 have hfn:∀id,0<=(if f.t=10/\f.st=id then f.n else 0):=fun id=>by split <;> omega
 have e1:dS (f::T2)=dS [f]+dS T2:=by rw[NI,wF]
 rw[e1] at hdt
 have hg2:=hgT2 0
 have hf0:=hfn 0
 have HB:Hb b f:= {
  ov:=ho
  fo:=hf
  got:=by omega
  ak:=by
   have:nT 6 ((f::T2)++a.out)=nT 6 [f]+nT 6 (T2++a.out):=by rw[List.cons_append,Hw,fZ]
   omega
  n0:=by rw[iU];omega
  pe:=h2.pe
  ln:=fun e he=>by
   have:=h2.ln ho e he
   rw[wZ] at this
   have:=hgT2 e.id
   have:=hfn e.id
   omega
  la:=hb.la.1
  sd:=hb.sd }
 rcases SP HB with⟨gl,he,hg⟩|hF
 ·left
  generalize bC f b=b' at he
  have hpar:=hb.nx.2.2
  have hAn:∀g∈gl,g.t≠2/\g.t≠5:=fun g hg=>by
   rcases(he.gl g hg).t with⟨h1,_⟩|⟨⟨h1,_⟩|h1,_⟩ <;> omega
  have hla':Az b.la f<a.nx:=by
   unfold Az
   split
   ·rename_i hq;exact h1.hi ho f (List.mem_cons_self ..) hq
   ·exact h2.la
  refine⟨?_,?_,he.ov,gl,he,hg⟩
  ·exact {
    sq:=fun _=>by rw[he.sd,he.nx,he.la];exact hsq.2
    hi:=fun _ z hz=>h1.hi ho z (List.mem_cons_of_mem _ hz)
    nx:=fun _=>by rw[he.la];exact h1.nx ho
    dt:=fun _=>by rw[he.got];omega
    ak:=fun _=>by
     have e2:=he.sh
     have e3:nT 6 ((f::T2)++a.out)=nT 6 [f]+nT 6 (T2++a.out):=by rw[List.cons_append,Hw,fZ]
     have e4:nT 5 (Ta++b'.out)=nT 5 (Ta++b.out):=by
      rw[he.out,<- List.append_assoc,JV,Ol fun g hg=>(hAn g hg).2];rfl
     rw[e4]
     omega
    la:=by rw[he.nx];exact h1.la
    gr:=by rw[he.gr];exact h1.gr
    n0:=h1.n0
    gs:=h1.gs
    ln:=h1.ln
    pe:=h1.pe
    co:=h1.co
    lst:=h1.lst
    ti:=h1.ti
    oo:=h1.oo
    sd:=by rw[he.sd];exact h1.sd
    ot:=h1.ot }
  ·have hfo:a.dr.ov=false->∀g∈gl,g.t≠2/\g.t≠5/\FO a.sd a.nx (w3 a.la (Ta++b.out)) g:=fun hoa g hg=>An.fo (he.gl g hg) hla' (h2.nx hoa) h2.sd hb.sd hpar
   exact {
    sq:=fun hoa=>by
     rw[he.out,<- List.append_assoc]
     exact u4.2 ⟨h2.sq hoa,OE fun g hg=>⟨(hfo hoa g hg).1,(hfo hoa g hg).2.2⟩⟩
    hi:=fun hoa z hz hz2=>by
     rw[he.nx]
     rw[he.out,<- List.append_assoc] at hz
     rcases List.mem_append.1 hz with hz|hz
     ·exact h2.hi hoa z hz hz2
     ·exact absurd hz2 (hAn z hz).1
    nx:=fun hoa=>by
     rw[he.nx,he.out,<- List.append_assoc,FP,DN fun g hg=>(hAn g hg).1]
     exact h2.nx hoa
    dt:=fun hoa=>by rw[he.sp];exact h2.dt hoa
    ak:=fun hoa=>by
     have e2:=h2.ak hoa
     rw[ho,if_neg Bool.false_ne_true] at e2
     rw[he.ov,if_neg Bool.false_ne_true,he.out,<- List.append_assoc,JV,hg]
     have e3:nT 5 ((f::T2)++a.out)=nT 5 [f]+nT 5 (T2++a.out):=by rw[List.cons_append,Hw,fZ]
     omega
    la:=by rw[he.la];exact hla'
    gr:=by
     rw[he.sp,he.n0,he.ov,if_neg Bool.false_ne_true,iU]
     omega
    n0:=by rw[he.n0,iU];omega
    gs:=fun _ id=>by
     have:=h2.gs ho id
     rw[wZ] at this
     have:=hfn id
     omega
    ln:=fun _ e' he'=>by
     rcases he.ln e' he' with⟨e,hm,q1,q2,q3⟩|hq
     ·refine⟨q3,?_⟩
      have:=(h2.ln ho e hm).2
      rw[wZ] at this
      rw[iU] at q2
      rw[q1]
      omega
     ·have hq:=hq.1
      have:=h2.gs ho e'.id
      rw[wZ] at this
      have:=hfn e'.id
      have:=he.pe
      omega
    pe:=he.pe
    co:=he.co.trans h2.co
    lst:=he.last.trans h2.lst
    ti:=⟨he.ti.1.trans h2.ti.1,he.ti.2.trans h2.ti.2⟩
    oo:=fun hq=>by rw[he.ov] at hq;cases hq
    sd:=by rw[he.sd];exact h2.sd
    ot:=fun z hz=>by
     rw[he.out] at hz
     rcases List.mem_append.1 hz with hz|hz
     ·exact h2.ot z hz
     ·rcases(he.gl z hz).t with⟨h1,_⟩|⟨⟨h1,_⟩|h1,_⟩ <;> omega }
 ·exact .inr hF
end
section
variable {la nx:Int}
theorem HX.left (h:HX k a b Ta Tb) (hj:jn a'=jn a) (hl:∀e∈a'.ld.l,e∈a.ld.l):HX k a' b Ta Tb:=by
 have e1:a'.sd=a.sd:=congrArg Jn.sd hj
 have e2:a'.nx=a.nx:=congrArg Jn.nx hj
 have e3:a'.la=a.la:=congrArg Jn.la hj
 have e4:a'.ld.sp=a.ld.sp:=congrArg Jn.sp hj
 have e5:a'.ld.n0=a.ld.n0:=congrArg Jn.n0 hj
 have e6:a'.pe=a.pe:=congrArg Jn.pe hj
 have e7:a'.out=a.out:=congrArg Jn.out hj
 have e8:a'.dr=a.dr:=congrArg Jn.dr hj
 have e9:a'.last=a.last:=congrArg Jn.last hj
 have e10:a'.bt.ev=a.bt.ev:=congrArg Jn.ev hj
 have e11:a'.sl.li=a.sl.li:=congrArg Jn.li hj
 exact {
  sq:=by rw[e7];exact h.sq
  hi:=by rw[e7,e2];exact h.hi
  nx:=by rw[e7,e2];exact h.nx
  dt:=by rw[e4];exact h.dt
  ak:=by rw[e7,e8];exact h.ak
  la:=by rw[e3];exact h.la
  gr:=by rw[e4,e5,e8];exact h.gr
  n0:=by rw[e5];exact h.n0
  gs:=by rw[e8];exact h.gs
  ln:=by rw[e8,e6];exact fun ho e he=>h.ln ho e (hl e he)
  pe:=by rw[e6];exact h.pe
  co:=by rw[e8];exact h.co
  lst:=by rw[e9];exact h.lst
  ti:=by rw[e10,e11];exact h.ti
  oo:=by rw[e8,e7];exact h.oo
  sd:=by rw[e1];exact h.sd
  ot:=by rw[e7];exact h.ot }
theorem HX.right (h:HX k a b Ta Tb) (hj:jn b'=jn b):HX k a b' Ta Tb:=by
 have e1:b'.sd=b.sd:=congrArg Jn.sd hj
 have e2:b'.nx=b.nx:=congrArg Jn.nx hj
 have e3:b'.la=b.la:=congrArg Jn.la hj
 have e4:b'.rv.got=b.rv.got:=congrArg Jn.got hj
 have e5:b'.rv.gr=b.rv.gr:=congrArg Jn.gr hj
 have e6:b'.sh=b.sh:=congrArg Jn.sh hj
 have e7:b'.out=b.out:=congrArg Jn.out hj
 have e8:b'.dr=b.dr:=congrArg Jn.dr hj
 exact {
  sq:=by rw[e8,e1,e2,e3];exact h.sq
  hi:=by rw[e8];exact h.hi
  nx:=by rw[e8,e3];exact h.nx
  dt:=by rw[e8,e4];exact h.dt
  ak:=by rw[e8,e7,e6];exact h.ak
  la:=by rw[e2];exact h.la
  gr:=by rw[e5];exact h.gr
  n0:=h.n0
  gs:=h.gs
  ln:=h.ln
  pe:=h.pe
  co:=h.co
  lst:=h.lst
  ti:=h.ti
  oo:=h.oo
  sd:=by rw[e1];exact h.sd
  ot:=h.ot }
theorem Aan {sd nx:Int}:∀{la:Int},Yu sd nx la T->∀f∈T,bR f/\Ay f:=by
 induction T with
 |nil=>intro la _ f hf;cases hf
 |cons f T ih=>
  intro la h g hg
  rcases List.mem_cons.1 hg with rfl|hg
  ·exact⟨h.1.r,h.1.c⟩
  ·exact ih h.2 g hg
theorem S9 (hq:∀ {b:Cn} {f:Fm} {T gl:List Fm} {Q:Int},bO Q b->b.dr.ov=false->HX k a b Ta (f::T)->q b (f::T)->Ef b (bC f b) f gl->nT 6 gl=nT 5 [f]->q (bC f b) T) (hk:0<=k/\k<=1000) (ha:bO B a) {T1:List Fm}:∀ {b:Cn} {Q:Int},bO Q b->Q+300 * T1.length<=250000000->b.dr.ov=false->HX k a b Ta (T1++T2)->HX k b a (T1++T2) Ta->q b (T1++T2)->(HX k a (cC T1 b) Ta T2/\HX k (cC T1 b) a T2 Ta/\(cC T1 b).dr.ov=false/\q (cC T1 b) T2)\/Fl b (cC T1 b):=by
 induction T1 with
 |nil=>exact fun {b Q} _ _ ho h1 h2 h3=>.inl ⟨h1,h2,ho,h3⟩
 |cons f T1 ih=>
  intro b Q hb hQ ho h1 h2 h3
  rw[List.length_cons] at hQ
  rw[List.cons_append] at h1 h2 h3
  have hr:bR f:=(h1.sq ho).1.r
  have key:=Yj hk ha hb ho h1 h2
  have hI2:=zS hb (by omega) hr
  have e:cC (f::T1) b=if(bC f b).dr.ov=true then bC f b else cC T1 (bC f b):=rfl
  rw[e]
  have hq2:∀gl,Ef b (bC f b) f gl->nT 6 gl=nT 5 [f]->q (bC f b) (T1++T2):=fun gl q4 q5=>hq hb ho h1 h3 q4 q5
  clear e
  generalize hz:bC f b=z at key hI2 hq2
  rcases key with⟨q1,q2,q3,gl,q4,q5⟩|hF
  ·rw[if_neg (by rw[q3];decide)]
   rcases ih hI2 (by omega) q3 q1 q2 (hq2 gl q4 q5) with hz|hz
   ·exact .inl hz
   ·exact .inr (hz.of q4.gr)
  ·rw[if_pos hF.1.1]
   exact .inr hF
theorem Aiu (hq:∀ {b:Cn} {f:Fm} {T gl:List Fm} {Q:Int},bO Q b->b.dr.ov=false->HX k a b Ta (f::T)->q b (f::T)->Ef b (bC f b) f gl->nT 6 gl=nT 5 [f]->q (bC f b) T) {u w:List UInt8} (hk:0<=k/\k<=1000) (ha:bO B a) (hb:bO Q b) (hQ:Q+u.length+300 * (pF (b.inb++u)).1.length<=250000000) (ho:b.dr.ov=false) (h1:HX k a b Ta Tb) (h2:HX k b a Tb Ta) (hT:kP Tb=b.inb++(u++w)) (h3:q (eB u (aD b)).2 Tb):
  (∃T2,HX k a (fJ u b) Ta T2/\HX k (fJ u b) a T2 Ta/\(fJ u b).dr.ov=false/\kP T2=(fJ u b).inb++w/\q (fJ u b) T2)\/Fl b (fJ u b):=by
 have hall:=Aan (u4.1 (h1.sq ho)).1
 rw[<- List.append_assoc] at hT
 obtain⟨T1,T2,r,e1,e2,e3,e4⟩:=Agb hall hT
 have Fw:(pF (b.inb++u)).2.2=0:=congrArg Prod.snd e3
 have hp2:(pF (b.inb++u)).2.1=r:=congrArg Prod.fst e3
 have hln:T1.length=(pF (b.inb++u)).1.length:=by rw[<- e2,List.length_map]
 have hf1:(eB u (aD b)).1=T1:=e2
 have hI:=Fa (u:=u) hb (by omega)
 have hbb:=hb.bb
 subst e1
 have g1:HX k a (eB u (aD b)).2 Ta (T1++T2):=h1.right rfl
 have g2:HX k (eB u (aD b)).2 a (T1++T2) Ta:=h2.left rfl fun _ h=>h
 have hin:nS (cC (eB u (aD b)).1 (eB u (aD b)).2)=nS (eB u (aD b)).2:=Ac
 have hin2:(cC (eB u (aD b)).1 (eB u (aD b)).2).inb=r:=by
  have:=congrArg Prod.snd hin
  have h3:(cC (eB u (aD b)).1 (eB u (aD b)).2).inb=(eB u (aD b)).2.inb:=this
  rw[h3]
  show(if(pF (b.inb++u)).2.2=0 then(pF (b.inb++u)).2.1 else [])=r
  rw[if_pos Fw,hp2]
 have key:=S9 (q:=q) hq hk ha (T1:=T1) (T2:=T2) (Ta:=Ta) hI (by rw[hln];omega) ho g1 g2 h3
 have er:fJ u b=cC (eB u (aD b)).1 (eB u (aD b)).2:=by
  unfold fJ
  rw[if_neg (by rw[ho];decide),if_pos (.inr Fw)]
 rw[er]
 rw[<- hf1] at key
 rcases key with⟨q1,q2,q3,q4⟩|hF
 ·exact .inl ⟨T2,q1,q2,q3,by rw[hin2];exact e4,q4⟩
 ·exact .inr (hF.of rfl)
end
end Go.Proofs.YtepnmcipkangkaaGreat
namespace Go.Proofs.YtepnmcipkangkaaGreat
open Go Go.Proofs Go.Sl
attribute [local irreducible] aN fL cL bM aL aR aA dJ dK aU dI pt ro fC star sep bF
attribute [local irreducible] mp DG
variable {R C:List HP} {K:KP} {d x y pl po mc m0 m1:Nat} {ad:Ca} {A:Dd} {z:Du} {c:Cn} {l o:Lk} {M M0 M1:Option Addr} {B P k sd:Int} {a:AC} {cf cf0 cf1:Cf} {b0 b1:Bool}
theorem Eo (hs:sd=0\/sd=1) (h:E6 cf):CnG cf 0 (jV sd cf):=by
 obtain⟨h1,h2,h3,h4,h5,h6,h7⟩:=h
 have hc:tC ⟨cf.w,cf.st,cf.it⟩:=h1
 have hf:tC rO:=by show sD 64 8 4=true;decide
 have hm:tC (Ou rO ⟨cf.w,cf.st,cf.it⟩):=by
  unfold tC sD Ou rO at *
  simp only[Bool.and_eq_true,decide_eq_true_eq] at *
  omega
 have e0:∀id,d6 id (jV sd cf).tr.1=false:=fun id=>rfl
 have hI:bO 0 (jV sd cf):= {
  bb:=by omega
  cf:=⟨h2,h3,h4⟩
  sd:=hs
  nx:=by show 1<=sd+1/\sd+1<=2147483649/\((sd+1) % 2=1↔sd=0);omega
  la:=by show 0<=(0:Int)/\(0:Int)<=2147483647;omega
  sm:=⟨Nat.zero_le _,List.Pairwise.nil⟩
  st:=fun m hm=>by cases hm
  ids:=fun m hm=>by cases hm
  own:=fun b=>Nat.zero_le _
  tr:= {
   kok:=⟨List.nodup_nil,fun e he=>by cases he⟩
   nd:=List.nodup_nil
   len:=Nat.zero_le _
   w:=fun id h=>by cases h
   ky:=fun id h=>by cases h
   cl:=fun id h=>by cases h
   rk:=⟨fun _=>0,fun id h=>by cases h⟩ }
  pk:=fun e he=>by cases he
  ld:=⟨Nat.zero_le _,List.Pairwise.nil,(fun e he=>by cases he),by show -2147483647<=(512:Int)/\(512:Int)<=2147483647;omega,Int.le_refl _,Int.le_refl _⟩
  rv:=⟨rfl,by show(0:Int)<=0/\(0:Int)<=0/\(0:Int)<=512/\(512:Int)<=0+512/\(0:Int)<=0;omega⟩
  sh:=⟨by show 1<=4;omega,hf,hm,fun t ht=>by obtain rfl:t=_:=List.mem_singleton.1 ht;exact hc⟩
  pe:=by show AD 64/\AD 8/\AD 4;unfold AD;omega
  bt:=by show(0<=(0:Int)/\(0:Int)<=0)/\(0<=(0:Int)/\(0:Int)<=0)/\(0<=(0:Int)/\(0:Int)<=0)/\0<=(0:Int)/\(0:Int)<=0;omega
  sl:=by show(0<=(0:Int)/\(0:Int)<=0)/\0<=(0:Int)/\(0:Int)<=0;omega
  ou:=Gs No
  inb:=Int.le_refl _
  now:=⟨Int.le_refl _,Int.le_refl _⟩
  mv:=Int.le_refl _ }
 have hK:f4 cf (jV sd cf):= {
  cfe:=rfl
  tn:=fun id h=>by cases h
  fo:=Vb (f:=vS (CX rO ⟨cf.w,cf.st,cf.it⟩)) (fun f hf=>by cases hf) ⟨rfl,(by show(5:Int)≠10;decide),(by show(5:Int)≠11;decide)⟩
  cl:=fun _=>rfl
  mo:=fun m hm=>by cases hm
  hg:=by
   have e1:OK rO (Ou rO ⟨cf.w,cf.st,cf.it⟩):=by unfold OK Ou;dsimp only;omega
   have e2:OK ⟨cf.w,cf.st,cf.it⟩ (Ou rO ⟨cf.w,cf.st,cf.it⟩):=by unfold OK Ou;dsimp only;omega
   exact⟨e1,fun t ht=>by obtain rfl:t=_:=List.mem_singleton.1 ht;exact e2⟩
  nf:=by
   have:=hm
   unfold tC sD Ou rO at this
   simp only[Bool.and_eq_true,decide_eq_true_eq] at this
   show(0:Int)<=max 8 cf.st
   omega
  kp:=by show(0:Int)+(uJ []:Nat)<=0;decide
  ls:=Nat.zero_le _
  lk:=fun j=>⟨(fun h=>by cases h),(fun⟨m,h,_⟩=>by cases h)⟩ }
 exact⟨hI,hK,.inr rfl,Nat.zero_le _⟩
theorem Yf (hs:sd=0\/sd=1) (h:E6 cf) (hK:∀x a,K (.tuple #[PO x,I6 0]) (jO x a (jV sd cf)::R)):CT 24 #[I6 sd,.agg #[I6 cf.w,I6 cf.st,I6 cf.it,I6 cf.sb,I6 cf.si,I6 cf.sg,I6 cf.ev,I6 cf.wa,I6 cf.sl]] R K:=
 aA.entK (Afz hs h fun x a=>⟨_,eF,hK x a⟩)
theorem Bg (hG:sC cf P c) (hK:K (zN c) (jO x ad c::R)):CT 13 #[PO x] (jO x ad c::R) K:=by
 obtain⟨B,h,_⟩:=hG
 exact eU fun M mc=>aA.entK (Lp h.I ⟨_,eF,hK⟩)
def Ik:Cf:=⟨64,8,4,100,5,0,0,0,0⟩
theorem HC:E6 Ik:=⟨by decide,by decide,by decide,by decide,by decide,by decide,by decide⟩
def dz0:Du:=⟨jV 0 Ik,jV 1 Ik,⟨[],0,0⟩,⟨[],0,0⟩,false,false⟩
def da1:AC:=⟨1,0,0,1,0,⟨#[]⟩,0,1,false,0,0,0⟩
def da2:AC:=⟨2,0,1,0,0,"abc".toUTF8,0,0,false,0,0,0⟩
def da3:AC:=⟨11,0,0,0,0,⟨#[]⟩,0,0,false,0,0,0⟩
def da4:AC:=⟨12,1,0,1000,0,⟨#[]⟩,0,0,false,0,0,0⟩
def dz1:=duS da1 dz0
def dz2:=duS da2 dz1
def dz3:=duS da3 dz2
end Go.Proofs.YtepnmcipkangkaaGreat
namespace Go.Proofs.YtepnmcipkangkaaGreat
open Go Go.Proofs Go.Sl
attribute [local irreducible] aN fL cL bM aL aR aA dJ dK aU dI pt ro fC star sep bF
variable {W:World} {R C:List HP} {K:KP} {w st it sb si sg ev wa stl:Int} {a:AC} {cs:List Value} {n:Nat}
theorem TV (hK:K (.agg #[I6 (w % 18446744073709551616 % 100),I6 8,I6 (it % 18446744073709551616 % 20),I6 (sb % 18446744073709551616 % 200),I6 (si % 18446744073709551616 % 20),I6 (sg % 18446744073709551616 % 3),I6 (ev % 18446744073709551616 % 30),I6 (wa % 18446744073709551616 % 30),I6 (stl % 18446744073709551616 % 30)]) R):CT 32 #[.agg #[I6 w,I6 st,I6 it,I6 sb,I6 si,I6 sg,I6 ev,I6 wa,I6 stl]] R K:=by
 have h1:∀z:Int,0<=z % 18446744073709551616 % 100/\z % 18446744073709551616 % 100<100:=fun z=>by omega
 have h2:∀z:Int,0<=z % 18446744073709551616 % 20/\z % 18446744073709551616 % 20<20:=fun z=>by omega
 have h3:∀z:Int,0<=z % 18446744073709551616 % 200/\z % 18446744073709551616 % 200<200:=fun z=>by omega
 have h4:∀z:Int,0<=z % 18446744073709551616 % 3/\z % 18446744073709551616 % 3<3:=fun z=>by omega
 have h5:∀z:Int,0<=z % 18446744073709551616 % 30/\z % 18446744073709551616 % 30<30:=fun z=>by omega
 refine aH Tryz.func32 ?_
 repeat' (first|(show aN _ _ _ _ _ _ _;first|refine oZ ?_|refine l6 ?_)|refine v61 ?_|refine w5 ?_ ?_|((refine bh fun h=>?_) <;> try exact w6 h)|(refine aE fun hA=>?_;subst hA)|intro _)
 all_goals(refine aC ?_;exact aB (hK))
theorem Ado {v0 v1 v2 v3 v4 v5 v6 v7 v8:Value} (hl:cs.length=9) (h0:(cs.drop 0).take 1= [v0]) (h1:(cs.drop 1).take 1= [v1]) (h2:(cs.drop 2).take 1= [v2]) (h3:(cs.drop 3).take 1= [v3]) (h4:(cs.drop 4).take 1= [v4]) (h5:(cs.drop 5).take 1= [v5]) (h6:(cs.drop 6).take 1= [v6]) (h7:(cs.drop 7).take 1= [v7]) (h8:(cs.drop 8).take 1= [v8]):cs= [v0,v1,v2,v3,v4,v5,v6,v7,v8]:=by
 match cs,hl with
 | [a0,a1,a2,a3,a4,a5,a6,a7,a8],_=>simp_all
theorem Alf {o m j:Nat} (h:j+n<=m):(((cs.drop o).take m).drop j).take n=(cs.drop (o+j)).take n:=by
 rw[List.drop_take,List.take_take,List.drop_drop]
 congr 1
 omega
theorem GL (hg:Go.Sl.Good Tryz.prog W n 25 cs):∃w st it sb si stg ev wa stl:Int,cs= [I6 w,I6 st,I6 it,I6 sb,I6 si,I6 stg,I6 ev,I6 wa,I6 stl]:=by
 have hz:Tryz.prog.cellsOf 25=9:=by kernel_rfl
 have hz2:Tryz.prog.cellsOf 23=3:=by kernel_rfl
 obtain⟨m2,k3,k4⟩:=tY Tryz.underlying25 hg
 obtain⟨m3,j3,j4⟩:=tY Tryz.underlying23 (k4 0 _ rfl)
 obtain⟨w,r0,_⟩:=gU Tryz.underlying3 (j4 0 _ rfl)
 obtain⟨st,r1,_⟩:=gU Tryz.underlying3 (j4 1 _ rfl)
 obtain⟨it,r2,_⟩:=gU Tryz.underlying3 (j4 2 _ rfl)
 obtain⟨sb,r3,_⟩:=gU Tryz.underlying3 (k4 1 _ rfl)
 obtain⟨si,r4,_⟩:=gU Tryz.underlying3 (k4 2 _ rfl)
 obtain⟨stg,r5,_⟩:=gU Tryz.underlying3 (k4 3 _ rfl)
 obtain⟨ev,r6,_⟩:=gU Tryz.underlying3 (k4 4 _ rfl)
 obtain⟨wa,r7,_⟩:=gU Tryz.underlying3 (k4 5 _ rfl)
 obtain⟨stl,r8,_⟩:=gU Tryz.underlying3 (k4 6 _ rfl)
 have go:∀(j:Nat) (v:Value),j+1<=3->List.take 1 (List.drop j (List.take (Tryz.prog.cellsOf 23) (List.drop 0 cs)))= [v]->(cs.drop (0+j)).take 1= [v]:=fun j v hj h=>by
  rw[hz2,Alf hj] at h;exact h
 exact⟨w,st,it,sb,si,stg,ev,wa,stl,Ado (k3.trans hz) (go 0 _ (by omega) r0) (go 1 _ (by omega) r1) (go 2 _ (by omega) r2) r3 r4 r5 r6 r7 r8⟩
end Go.Proofs.YtepnmcipkangkaaGreat
