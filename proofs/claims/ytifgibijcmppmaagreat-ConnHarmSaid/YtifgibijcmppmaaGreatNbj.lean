/- A part of the proof: lemmas; each with the conditions that it states. -/
import Derived.Test.YtifgibijcmppmaaGreatNbi
set_option linter.unusedVariables false
set_option linter.unusedSimpArgs false
namespace Go.Proofs.YtifgibijcmppmaaGreat
open Go Go.Proofs Go.Sl
set_option maxRecDepth 100000
set_option maxHeartbeats 40000000
attribute [local irreducible] aN fB cJ bO aM aY aA dM dQ aW dK pt ro fF star sep bI
attribute [local irreducible] mp El
section
variable {R C:List HP} {K:Value→List HP→Prop} {x mc i b p r:Nat} {a:Ca} {s:Cn} {M:Option Addr} {B id n st t:Int} {m:Sm} {l:List Sm} {c:Cf} {q:xR} {g:eJ}
theorem K1 (hK:K (.string s.last) (b7 x a { s with last:=⟨#[]⟩ } M mc R)):aA Tryz.prog 93 #[.pointer (some ⟨x,0,none⟩)] (b7 x a s M mc R) K:=by
 dsimp only[b7,mV] at hK ⊢
 refine aH Tryz.func93 ?_
 repeat' (first|refine v14 ?_|refine wr ?_|refine w5 ?_ ?_|((refine bh fun h=>?_) <;> try exact w6 h)|(refine aE fun hA=>?_;subst hA)|intro _)
 all_goals(refine aC ?_;exact aB (hK))
theorem XT (hI:bU B s) (hk:fX c s) (hB:B+300≤250000000):bU (B+300) (qQ s).2∧fX c (qQ s).2:=by
 cases h:zM (s.pk,s.pc) (eP s) with
 |mk o q=>
  have hq:Ke q:=by
   have:=Mm (s:=(s.pk,s.pc)) (l:=eP s) hI.pk
   rw[h] at this;exact this
  cases o with
  |none=>
   rw[MC h]
   exact⟨Ai9 (hI.mono (by omega) hB) hq,{ hk with }⟩
  |some id=>
   obtain⟨m,hm,hr⟩:=Ev hI hk h
   rw[G3 h hm hr]
   exact⟨Ps hI hk hm hq hB,OY hI hk hm hq hB⟩
theorem U7:∀ {k:Nat} {s:Cn} {B:Int},bU B s→fX c s→B+300 * k≤250000000→bU (B+300 * k) (fR k s).2∧fX c (fR k s).2
 |0,s,B,hI,hk,hB=>⟨hI.mono (by omega) hB,hk⟩
 |k+1,s,B,hI,hk,hB=>by
  obtain⟨h1,h2⟩:=XT hI hk (by omega)
  unfold fR
  cases h:qQ s with
  |mk o z=>
   rw[h] at h1 h2
   cases o with
   |none=>exact⟨h1.mono (by omega) hB,h2⟩
   |some f=>
    obtain⟨h3,h4⟩:=U7 (k:=k) h1 h2 (by omega)
    exact⟨h3.mono (by omega) hB,h4⟩
theorem Ef (hI:bU B s) (hk:fX c s) (hB:B+1≤250000000):fX c (bJ s):=by
 have h1:=Mw hI hB
 unfold bJ
 split
 ·exact hQ h1 { hk with }
 ·split
  ·exact hQ (s:= { s with bt:=iA s.bt s.now,sl:=oF s.sl s.now (tG s) }) (F7 (q:=tG s) h1) { hk with }
  ·exact { hk with }
theorem ND {d:ByteArray} (h:bU B s):bU B { s with last:=d }:= { h with }
theorem GO (h:bU B s):bU B { s with out:= [] }:= { h with ou:=K8 }
theorem HH (h:fX c s):fX c { s with out:= [] }:= { h with fo:=fun f hf=>by cases hf }
theorem Abj {d:Dr} {k:Int} (h:(zL d k).ov=true):d.ov=true∨k≤0:=by
 unfold zL at h
 split at h
 ·rename_i hq;exact .inr hq.2.2
 ·exact .inl h
theorem Af0 (h:fX c s):fX c { s with dr:=zL s.dr s.l.length }:= { h with
 cl:=fun ho=>by
  rcases Abj ho with ho|ho
  ·exact h.cl ho
  ·exact(show s.l= [] from List.length_eq_zero_iff.1 (by omega)) }
theorem Abe (hI:bU B s) (hk:fX c s) (hB:B+1301≤250000000):bU (B+1301) (bP s).2∧fX c (bP s).2:=by
 have hb:=bH hI
 have hkb:=cM hk
 unfold bP
 split
 ·exact⟨ND (hb.mono (by omega) hB),{ hkb with ls:=Nat.zero_le 300 }⟩
 ·have h1:=Ix hb (by omega)
  have h2:=Ef hb hkb (by omega)
  split
  ·exact⟨ND (h1.mono (by omega) hB),{ h2 with ls:=Nat.zero_le 300 }⟩
  ·have h3:=Rb (GO h1)
   have h4:=RR (HH h2)
   obtain⟨h5,h6⟩:=U7 (k:=4) h3 h4 (by omega)
   exact⟨Fi (h5.mono (by omega) hB),Af0 h6⟩
end
section
variable {R C:List HP} {K:Value→List HP→Prop} {x mc i b p r:Nat} {a:Ca} {s:Cn} {M:Option Addr} {B id n st t:Int} {m:Sm} {l:List Sm} {c:Cf} {q:xR} {g:eJ} {d:ByteArray} {e:Bool}
theorem Sb (ht:t=0∨t=1) (hs:1≤st∧st≤2147483647) (hd:d.size≤256):dB (wA t st d e):=by
 have h3:BW 0=true:=by decide
 have h4:Jg []=true:=Yn rfl
 unfold dB k6 wA
 simp[h3,h4,BR]
 omega
theorem QG (hd:d.size=8):dB (wA 7 0 d false):=by
 have h3:BW 0=true:=by decide
 have h4:Jg []=true:=Yn rfl
 unfold dB k6 wA
 simp[h3,h4,BR,hd]
theorem P3 (ht:t=10∨t=11) (hs:0≤st∧st≤2147483647) (h0:t=11→1≤st) (hn:1≤n∧n≤2147483647):dB (Dq t st n):=by
 have h2:=(lV n).2 ⟨by omega,hn.2⟩
 have h3:BW 0=true:=by decide
 have h4:Jg []=true:=Yn rfl
 have h5:(⟨#[]⟩:ByteArray)=ByteArray.empty:=rfl
 unfold dB k6 Dq
 simp[h2,h3,h4,h5,BR]
 omega
theorem PR:(wE n).size=8:=by
 have h1:=Int.emod_nonneg n (by decide:(2147483648:Int)≠0)
 have h2:=Int.emod_lt_of_pos n (by decide:(0:Int)<2147483648)
 unfold wE
 generalize n % 2147483648=k at h1 h2 ⊢
 have hm:iY k 4=0:=by
  unfold iY
  rw[if_neg (by decide),if_neg]
  rintro⟨_,h|h⟩
  ·omega
  ·have:((2:Int) ^ (8 * (4:Int)).toNat)=4294967296:=by decide
   rw[this] at h;omega
 have h0:iY 0 4=0:=by decide
 have hf:eM [⟨0,4,⟨#[]⟩⟩,⟨k,4,⟨#[]⟩⟩]=0:=by simp[eM,h0,hm]
 have hs:Je [⟨0,4,⟨#[]⟩⟩,⟨k,4,⟨#[]⟩⟩] 0=8:=rfl
 have he:xL [⟨0,4,⟨#[]⟩⟩,⟨k,4,⟨#[]⟩⟩]=0:=by unfold xL;rw[if_pos hf,hs];rfl
 have:=(H7 he).2.1
 omega
theorem x9:∀f∈fQ s,dB f∧f.ps= []∧f.pn=0:=fun f hf=>by
 unfold fQ at hf
 split at hf
 ·cases hf
 ·rename_i hq
  rw[List.mem_singleton.1 hf]
  have h1:Qy s.bt s.now=1:=by
   by_cases h:Qy s.bt s.now=1
   ·exact h
   ·exact absurd (.inr (.inr h)) hq
  refine⟨QG ?_,rfl,rfl⟩
  unfold btD
  rw[if_pos h1];exact PR
theorem KA (ht:t=10∨t=11) (hs:0≤st∧st≤2147483647) (h0:t=11→1≤st) (hn:n≤2147483647):∀f∈J2 t st n,dB f∧f.ps= []∧f.pn=0:=fun f hf=>by
 unfold J2 at hf
 split at hf
 ·rw[List.mem_singleton.1 hf]
  exact⟨P3 ht hs h0 (by omega),rfl,rfl⟩
 ·cases hf
theorem Agj {y:Ys} (h:TQ y):IK y≤2147483647:=by
 cases y with
 |b y=>
  obtain⟨h1,h2,h3,h4,h5,h6,h7,h8,h9⟩:=h
  show uZ y.cap y.gr y.us≤2147483647
  unfold uZ
  split <;> omega
 |i y=>
  obtain⟨h1,h2,h3,h4,h5,h6,h7,h8,h9,h10,h11⟩:=h
  show yI y.room y.op y.ask y.l≤2147483647
  unfold yI
  omega
theorem PP (hI:bU B s) (hF:∀m∈s.l,XL m):∀f∈uT s,dB f∧f.ps= []∧f.pn=0:=fun f hf=>by
 unfold uT at hf
 rcases List.mem_append.1 hf with hf|hf
 ·have hr:=hI.rv
  unfold I8 at hr
  refine KA (.inl rfl) (by omega) (fun h=>by cases h) ?_ f hf
  unfold vS uZ
  split <;> omega
 ·obtain⟨m,hm,hf⟩:=List.mem_flatMap.1 hf
  have hid:=(hI.st m hm).id
  have hd:=Agj (hF m hm).2.1
  unfold rU at hf
  split at hf
  ·refine KA ?_ (by omega) (fun _=>hid.1) (by omega) f hf
   split
   ·exact .inr rfl
   ·exact .inl rfl
  ·cases hf
theorem Q8 (hI:bU B s) (hk:fX c s) {f:Fm} (h:(qQ s).1=some f):dB f∧f.ps= []∧f.pn=0:=by
 cases hp:zM (s.pk,s.pc) (eP s) with
 |mk o q=>
  cases o with
  |none=>rw[MC hp] at h;cases h
  |some id=>
   obtain⟨m,hm,hr⟩:=Ev hI hk hp
   rw[G3 hp hm hr] at h
   obtain⟨hi,hmid⟩:=aU hm
   have hmm:=List.mem_of_getElem? hi
   have hid:=(hI.st m hmm).id
   rw[← Option.some.inj h]
   refine⟨Sb ?_ (by rw[← hmid];exact hid) (Le (hk.mo m hmm).sz),rfl,rfl⟩
   cases m.x
   ·exact .inl rfl
   ·exact .inr rfl
theorem zN:∀ {k:Nat} {s:Cn} {B:Int},bU B s→fX c s→B+300 * k≤250000000→∀f∈(fR k s).1,dB f∧f.ps= []∧f.pn=0
 |0,s,B,hI,hk,hB,f,hf=>by cases hf
 |k+1,s,B,hI,hk,hB,f,hf=>by
  obtain⟨h1,h2⟩:=XT hI hk (by omega)
  unfold fR at hf
  cases h:qQ s with
  |mk o z=>
   rw[h] at h1 h2 hf
   cases o with
   |none=>cases hf
   |some y=>
    rcases List.mem_cons.1 hf with rfl|hf
    ·exact Q8 hI hk (by rw[h])
    ·exact zN h1 h2 (by omega) f hf
theorem Ww {l:List Fm}:s4 (l.map jW)=s4 l:=by
 unfold s4
 rw[List.flatMap_map];rfl
theorem xJ {l l':List Fm}:s4 (l++l')=s4 l++s4 l':=by
 unfold s4
 rw[List.flatMap_append]
theorem Ro {y:Fm}:dB (jW y)↔dB y:=Iff.rfl
def vI (s:Cn):List Fm:=fQ (aD s)++(bJ (aD s)).out++uT { bJ (aD s) with out:= [] }++(fR 4 (BE { bJ (aD s) with out:= [] })).1
end
section
variable {R C:List HP} {K:Value→List HP→Prop} {x mc i b p r:Nat} {a:Ca} {s:Cn} {M:Option Addr} {B id n st t:Int} {m:Sm} {l:List Sm} {c:Cf} {q:xR} {g:eJ} {d:ByteArray} {e:Bool}
def Acf (y:Fm):Fm:=⟨y.t,y.st,y.e,y.d,y.k,y.on,y.w,y.x,y.c,y.la,y.n,y.pa,y.pn,y.pc,[]⟩
theorem Y1 {A:Option Addr} {k:Nat} {L ys:List Fm} {y:Fm}:aG (bT A k 45 sR (L++ys++ [Acf y])::xS y::jY xS ys::R) (bT A k 45 sR (L++(ys++ [y]))::jY xS (ys++ [y])::R):=
 aG.imp (ON (by simp only[List.flatMap_append,List.append_assoc];rfl) (by simp)) (aG.allsnoc (P:=xS) (x:=y) w3 rO)
theorem K2 (h:(bJ s).dr.ov=false):(bJ s).out=s.out:=by
 unfold bJ at h ⊢
 split
 ·rename_i hq
  rw[if_pos hq,Ec (by decide)] at h;cases h
 ·rename_i hq
  rw[if_neg hq] at h
  split
  ·rename_i hf
   rw[if_pos hf,Ec (by decide)] at h;cases h
  ·rfl
theorem Acz (h:(bJ s).dr.ov=false):(bJ s).l=s.l:=by
 unfold bJ at h ⊢
 split
 ·rename_i hq
  rw[if_pos hq,Ec (by decide)] at h;cases h
 ·rename_i hq
  rw[if_neg hq] at h
  split
  ·rename_i hf
   rw[if_pos hf,Ec (by decide)] at h;cases h
  ·rfl
theorem Ahu {y:Fm} (h:y.ps= []) (hn:y.pn=0):FmV C y:=⟨by rw[h];exact eH,by rw[h,hn];rfl⟩
theorem Tx (h1:s.dr.ov=false) (h2:(bJ (aD s)).dr.ov=false) (hr:∀f∈vI s,dB f):bP s=(s4 (vI s),{ (fR 4 (BE { bJ (aD s) with out:= [] })).2 with dr:=zL (fR 4 (BE { bJ (aD s) with out:= [] })).2.dr (fR 4 (BE { bJ (aD s) with out:= [] })).2.l.length }):=by
 have ha:(vI s).all mQ=true:=List.all_eq_true.2 fun f hf=>(sO f).2 (hr f hf)
 unfold bP
 rw[if_neg (by rw[h1];decide),if_neg (by rw[h2];decide)]
 show(R2 (vI s),_)=_
 unfold R2
 rw[if_pos ha]
theorem C6 {k:Nat} {z:Cn}:fR (k+1) z=match qQ z with
  |(none,s)=>([],s)
  |(some f,s)=>(f::(fR k s).1,(fR k s).2):=rfl
theorem KP:∀ {k:Nat} {s:Cn},(fR k s).1.length≤k
 |0,_=>Nat.le_refl _
 |k+1,s=>by
  rw[C6]
  split
  ·simp
  ·rename_i f z _
   have:=KP (k:=k) (s:=z)
   simp only[List.length_cons];omega
theorem Wx {q:Nat} {out:List Fm} (h:out= []) (hK:K (.int .i64 0) (Qw q out::R)):aA Tryz.prog 94 #[.pointer (some ⟨q,0,none⟩)] (Qw q out::R) K:=by
 subst h;exact Hl hK
theorem KQ:(fQ s).length≤1:=by unfold fQ;split <;> simp
def eO:List (Nat×Nat):= [(4,0),(5,0),(6,0),(7,0),(8,1),(0,1),(1,1),(2,1),(3,1),(9,1)]
theorem VB (hI:bU B s) (hk:fX c s) (hF:∀m∈s.l,XL m) (hB:B+1301≤250000000) (hK:∀M mc,K (.string ⟨(bP s).1.toArray⟩) (b7 x a (bP s).2 M mc R)):aA Tryz.prog 21 #[.pointer (some ⟨x,0,none⟩)] (b7 x a s M mc R) K:=by
 have hbb:=hI.bb
 have hIb:=bH hI
 have hkb:=cM hk
 cases ho:s.dr.ov
 ·have hI1:=Ix hIb (by omega)
  have hk1:=Ef hIb hkb (by omega)
  cases ho1:(bJ (aD s)).dr.ov
  ·have hou:=K2 ho1
   have hti:=Acz ho1
   have hI2:=GO hI1
   have hk2:=HH hk1
   have hI3:=Rb hI2
   have hk3:=RR hk2
   have hF2:∀m∈({ bJ (aD s) with out:= [] }:Cn).l,XL m:=fun m hm=>hF m (by have hm:m∈(bJ (aD s)).l:=hm;rw[hti] at hm;exact hm)
   have hgr:=PP hI2 hF2
   have hbr:=zN (k:=4) hI3 hk3 (by omega)
   have hfo:=hk1.fo
   have hr:∀f∈vI s,dB f:=fun f hf=>by
    unfold vI at hf
    rcases List.mem_append.1 hf with hf|hf
    ·rcases List.mem_append.1 hf with hf|hf
     ·rcases List.mem_append.1 hf with hf|hf
      ·exact(x9 f hf).1
      ·exact(sO f).1 (hfo f hf).1
     ·exact(hgr f hf).1
    ·exact(hbr f hf).1
   rw[Tx ho ho1 hr] at hK
   have hl0:=KQ (s:=aD s)
   have hgl:(uT { bJ (aD s) with out:= [] }).length≤65:=by
    have h1:=flat_len (l:=(bJ (aD s)).l)
    have h2:=hI1.sm.1
    have h3:=Gd (t:=10) (st:=0) (n:=vS (bJ (aD s)).rv)
    show(J2 10 0 (vS (bJ (aD s)).rv)++(bJ (aD s)).l.flatMap rU).length≤65
    rw[List.length_append];omega
   have hst:vI s=fQ (aD s)++(bJ (aD s)).out++uT { bJ (aD s) with out:= [] }++(fR 4 (BE { bJ (aD s) with out:= [] })).1:=rfl
   generalize hz2:({ bJ (aD s) with out:= [] }:Cn)=z2 at hI2 hk2 hI3 hk3 hgr hbr hgl hK hst
   dsimp only at hK
   have hol:=hI1.ou.1
   refine aH Tryz.func21 ?_
   repeat' (first|refine Qz ?_|refine dw eO ?_|refine wr ?_|refine w5 ?_ ?_|((refine bh fun h=>?_) <;> try exact w6 h)|(refine aE fun hA=>?_;subst hA)|intro _|(show aA _ 75 _ _ _;refine CA (h:=cC (x:=x) (a:=a) (s:=s) (M:=M) (mc:=mc) ?_);rw[ho,if_neg Bool.false_ne_true])|(show aA _ 92 _ _ _;refine CA (h:=FH (x:=x) (a:=a) (s:=aD s) (M:=none) (mc:=0) hIb (by omega) (fun A0 c0 M1 mc1=>?_)))|(show aA _ 78 _ _ _;first|(refine CA (h:=kI (x:=x) (a:=a) (s:=aD s) (M:=none) (mc:=0) ?_);rw[show(aD s).dr.ov=false from ho])|(refine CA (h:=kI (x:=x) (a:=a) (s:=bJ (aD s)) (M:=M1) (mc:=mc1) ?_);rw[ho1])))
   refine nR (aG.allnil (P:=xS) (aG.refl _)) ?_
   refine iF (fun n a' C'=>∃(ys rest L:List Fm) (A:Option Addr) (k:Nat),rest.length=n∧L=fQ (aD s)++ys∧ys.map jW++rest=(bJ (aD s)).out∧cN a' [(0,.pointer (some ⟨x,0,none⟩)),(3,.slice A L.length k)]∧C'=bT A k 45 sR L::jY xS ys::b7 x a { bJ (aD s) with out:=rest } M1 mc1 R) (bJ (aD s)).out.length (b9 (bJ (aD s)).out.length ⟨[],(bJ (aD s)).out,fQ (aD s),A0,c0,rfl,(List.append_nil _).symm,rfl,⟨rfl,rfl,trivial⟩,rfl⟩ (by omega)) ?_
   rintro n a' C' ⟨ys,rest,L,A,k,hn,rfl,hys,ha,rfl⟩
   refine gF _ ha ?_
   simp only[eQ]
   have hyl:ys.length+rest.length=(bJ (aD s)).out.length:=by rw[← hys];simp
   cases rest with
   |cons f rest=>
    have hou2:PG (f::rest):=⟨by omega,fun y hy=>hI1.ou.2 y (by rw[← hys];exact List.mem_append_right _ hy)⟩
    rw[List.length_cons] at hn hyl
    have hl3:∀y:Fm,(fQ (aD s)++ys++ [Acf y]).length=(fQ (aD s)++(ys++ [y])).length:=fun y=>by simp
    have hLy:(fQ (aD s)++ys).length≤1000:=by rw[List.length_append];omega
    dsimp only[b7,mV]
    repeat' (first|(show aN _ _ _ _ _ _ _;(refine o4 (E:=sR) (xs:=fQ (aD s)++ys) (ys:= [Acf y0]) ?_;intro A2 k2))|refine Qz ?_|refine dw eO ?_|refine wr ?_|refine w5 ?_ ?_|((refine bh fun h=>?_) <;> try exact w6 h)|(refine aE fun hA=>?_;subst hA)|intro _|(show aA _ 94 _ _ _;refine CA (h:=Hl (out:=f::rest) ?_))|(show aA _ 95 _ _ _;refine CA (h:=VO hou2 (fun y0 hy0=>?_))))
    all_goals(show aW _ _ _ _;exact pJ (m:=n - 1) (C':=bT A2 k2 45 sR (fQ (aD s)++(ys++ [y0]))::jY xS (ys++ [y0])::b7 x a { bJ (aD s) with out:=rest } M1 mc1 R) (by omega) (aG.trans (by exact bA) Y1) ⟨ys++ [y0],rest,fQ (aD s)++(ys++ [y0]),A2,k2,by omega,rfl,by rw[List.map_append,List.append_assoc,← hys,← hy0];rfl,⟨rfl,congrArg (fun q=>Value.slice A2 q k2) (hl3 y0),trivial⟩,rfl⟩)
   |nil=>
    rw[List.append_nil] at hys
    rw[hz2]
    simp only[List.length_nil] at hyl
    have hLy:(fQ (aD s)++ys).length≤1000:=by rw[List.length_append];omega
    have hz2o:z2.out= []:=by rw[← hz2]
    dsimp only[b7,mV]
    repeat' (first|(show aN _ _ _ _ _ _ _;(refine o4 (E:=sR) (xs:=fQ (aD s)++ys) (ys:=uT z2) ?_;intro A4 k4))|refine Qz ?_|refine dw eO ?_|refine wr ?_|refine w5 ?_ ?_|((refine bh fun h=>?_) <;> try exact w6 h)|(refine aE fun hA=>?_;subst hA)|intro _|(show aA _ 94 _ _ _;refine CA (h:=Wx (out:=z2.out) hz2o ?_))|(show aA _ 96 _ _ _;refine CA (h:=P6 (x:=x) (a:=a) (s:=z2) (M:=M1) (mc:=mc1) hI2 (fun A3 k3=>?_))))
    refine iF (fun n a' C'=>∃(j:Nat) (zs L:List Fm) (z:Cn) (A:Option Addr) (k:Nat) (M2:Option Addr) (mc2:Nat),j+n=4∧L=fQ (aD s)++ys++uT z2++zs∧zs.length≤j∧bU (B+1+300 * j) z∧fX c z∧fR 4 (BE z2)=(zs++(fR n z).1,(fR n z).2)∧cN a' [(0,.pointer (some ⟨x,0,none⟩)),(3,.slice A L.length k),(44,.int .i64 j)]∧C'=bT A k 45 sR L::jY xS ys::b7 x a z M2 mc2 R) 4 (b9 4 ⟨0,[],fQ (aD s)++ys++uT z2,BE z2,A4,k4,M1,mc1,rfl,(List.append_nil _).symm,Nat.le_refl _,hI3.mono (by omega) (by omega),hk3,rfl,⟨rfl,rfl,rfl,trivial⟩,rfl⟩ (by omega)) ?_
    rintro n2 a2 C2 ⟨j,zs,L,z,A,k,M2,mc2,hj,hL,hzl,hIz,hkz,hb,ha2,rfl⟩
    refine gF _ ha2 ?_
    simp only[eQ]
    have hyp:∀y∈ys,y.ps.length=y.pn:=fun y hy=>(hfo (jW y) (by rw[← hys];exact List.mem_map_of_mem hy)).2.1
    have hLl:L.length≤1000000:=by rw[hL];simp only[List.length_append];omega
    have hfin:∀ {z':Cn},fR 4 (BE z2)=(zs,z')→s4 (vI s)=s4 L∧(∀y∈L,dB y)∧∀y∈L,(y.ps= []∧y.pn=0)∨y∈ys:=fun {z'} hz=>by
     have h1:vI s=fQ (aD s)++ys.map jW++uT z2++zs:=by rw[hst,hz,← hys]
     have h2:s4 (vI s)=s4 L:=by rw[h1,hL,xJ,xJ,xJ,xJ,xJ,xJ,Ww]
     refine⟨h2,fun y hy=>?_,fun y hy=>?_⟩
     ·rw[hL] at hy
      rcases List.mem_append.1 hy with hy|hy
      ·rcases List.mem_append.1 hy with hy|hy
       ·rcases List.mem_append.1 hy with hy|hy
        ·exact(x9 y hy).1
        ·exact Ro.1 ((sO _).1 (hfo (jW y) (by rw[← hys];exact List.mem_map_of_mem hy)).1)
       ·exact(hgr y hy).1
      ·exact(hbr y (by rw[hz];exact hy)).1
     ·rw[hL] at hy
      rcases List.mem_append.1 hy with hy|hy
      ·rcases List.mem_append.1 hy with hy|hy
       ·rcases List.mem_append.1 hy with hy|hy
        ·exact .inl (x9 y hy).2
        ·exact .inr hy
       ·exact .inl (hgr y hy).2
      ·exact .inl (hbr y (by rw[hz];exact hy)).2
    by_cases hlt:j<4
    ·obtain⟨n3,rfl⟩:∃n3,n2=n3+1:=⟨n2 - 1,by omega⟩
     cases hp:zM (z.pk,z.pc) (eP z) with
     |mk o q=>
      cases o with
      |none=>
       rw[C6 (k:=n3) (z:=z),MC hp] at hb
       dsimp only at hb
       rw[List.append_nil] at hb
       obtain⟨hE,hLr,hLp⟩:=hfin hb
       rw[hE,hb] at hK
       dsimp only at hK
       repeat' (first|refine Qz ?_|refine dw eO ?_|refine wr ?_|refine w5 ?_ ?_|((refine bh fun h=>?_) <;> try exact w6 h)|(refine aE fun hA=>?_;subst hA)|intro _|(show aA _ 97 _ _ _;refine CA (h:=SC (x:=x) (a:=a) (s:=z) (M:=M2) (mc:=mc2) hIz hkz hp ?_))|(show aA _ 83 _ _ _;refine CA (h:=x4 (l:=(Zv q z).l) ?_))|(show aA _ 98 _ _ _;refine CA (h:=Nu (d:=(Zv q z).dr) ?_))|(show aA _ 99 _ _ _;refine CA (h:=Om (xs:=L) hLr (by exact kR) (fun y hy=>(hLp y hy).elim (fun qq=>Ahu qq.1 qq.2) (fun qq=>⟨by((repeat (first|exact uY qq|apply bB)) <;> exact uY qq),hyp y qq⟩)) rfl hLl ?_)))
       all_goals(refine aC ?_;exact aB (hK _ _))
      |some id=>
       obtain⟨m,hm,hr2⟩:=Ev hIz hkz hp
       have hIz2:=Ps hIz hkz hm (by have:=Mm (s:=(z.pk,z.pc)) (l:=eP z) hIz.pk;rw[hp] at this;exact this) (by omega)
       have hkz2:=OY hIz hkz hm (by have:=Mm (s:=(z.pk,z.pc)) (l:=eP z) hIz.pk;rw[hp] at this;exact this) (by omega)
       rw[C6 (k:=n3) (z:=z),G3 hp hm hr2] at hb
       dsimp only at hb
       repeat' (first|(show aN _ _ _ _ _ _ _;(refine o4 (E:=sR) (xs:=L) (ys:= [Tl id m z]) ?_;intro A5 k5))|refine Qz ?_|refine dw eO ?_|refine wr ?_|refine w5 ?_ ?_|((refine bh fun h=>?_) <;> try exact w6 h)|(refine aE fun hA=>?_;subst hA)|intro _|(show aA _ 97 _ _ _;refine CA (h:=R1 (x:=x) (a:=a) (s:=z) (M:=M2) (mc:=mc2) hIz hkz (by omega) hp hm hr2 (fun M3 mc3=>?_))))
       all_goals(show aW _ _ _ _;exact b9 n3 ⟨j+1,zs++ [Tl id m z],L++ [Tl id m z],z8 id m q z,A5,k5,M3,mc3,by omega,by rw[hL,List.append_assoc],by rw[List.length_append,List.length_singleton];omega,hIz2.mono (by omega) (by omega),hkz2,by rw[hb,List.append_assoc];rfl,⟨rfl,rfl,rfl,trivial⟩,rfl⟩)
    ·obtain rfl:n2=0:=by omega
     obtain rfl:j=4:=by omega
     have hb2:fR 4 (BE z2)=(zs,z):=by rw[hb];show(zs++ [],z)=_;rw[List.append_nil]
     obtain⟨hE,hLr,hLp⟩:=hfin hb2
     rw[hE,hb2] at hK
     dsimp only at hK
     dsimp only[b7,mV]
     repeat' (first|refine Qz ?_|refine dw eO ?_|refine wr ?_|refine w5 ?_ ?_|((refine bh fun h=>?_) <;> try exact w6 h)|(refine aE fun hA=>?_;subst hA)|intro _|(show aA _ 83 _ _ _;refine CA (h:=x4 (l:=(z).l) ?_))|(show aA _ 98 _ _ _;refine CA (h:=Nu (d:=(z).dr) ?_))|(show aA _ 99 _ _ _;refine CA (h:=Om (xs:=L) hLr (by exact kR) (fun y hy=>(hLp y hy).elim (fun qq=>Ahu qq.1 qq.2) (fun qq=>⟨by((repeat (first|exact uY qq|apply bB)) <;> exact uY qq),hyp y qq⟩)) rfl hLl ?_)))
     all_goals(refine aC ?_;exact aB (hK _ _))
  ·have e:bP s=((bJ (aD s)).last.data.toList,{ bJ (aD s) with last:=⟨#[]⟩ }):=by unfold bP;rw[if_neg (by rw[ho];decide),if_pos ho1]
   rw[e] at hK
   have el:(⟨((bJ (aD s)).last.data.toList).toArray⟩:ByteArray)=(bJ (aD s)).last:=by simp
   dsimp only at hK
   rw[el] at hK
   refine aH Tryz.func21 ?_
   repeat' (first|refine Qz ?_|refine dw eO ?_|refine wr ?_|refine w5 ?_ ?_|((refine bh fun h=>?_) <;> try exact w6 h)|(refine aE fun hA=>?_;subst hA)|intro _|(show aA _ 75 _ _ _;refine CA (h:=cC (x:=x) (a:=a) (s:=s) (M:=M) (mc:=mc) ?_);rw[ho,if_neg Bool.false_ne_true])|(show aA _ 92 _ _ _;refine CA (h:=FH (x:=x) (a:=a) (s:=aD s) (M:=none) (mc:=0) hIb (by omega) (fun _ _ _ _=>?_)))|(show aA _ 78 _ _ _;first|(refine CA (h:=kI (x:=x) (a:=a) (s:=aD s) (M:=none) (mc:=0) ?_);rw[show(aD s).dr.ov=false from ho])|(refine CA (h:=kI (x:=x) (a:=a) (s:=bJ (aD s)) ?_);rw[ho1]))|(show aA _ 93 _ _ _;refine CA (h:=K1 (x:=x) (a:=a) (s:=bJ (aD s)) ?_)))
   all_goals(refine aC ?_;exact aB (hK _ _))
 ·have e:bP s=(s.last.data.toList,{ aD s with last:=⟨#[]⟩ }):=by unfold bP;rw[if_pos ho]
  rw[e] at hK
  have el:(⟨(s.last.data.toList).toArray⟩:ByteArray)=s.last:=by simp
  dsimp only at hK
  rw[el] at hK
  refine aH Tryz.func21 ?_
  repeat' (first|refine Qz ?_|refine dw eO ?_|refine wr ?_|refine w5 ?_ ?_|((refine bh fun h=>?_) <;> try exact w6 h)|(refine aE fun hA=>?_;subst hA)|intro _|(show aA _ 75 _ _ _;refine CA (h:=cC (x:=x) (a:=a) (s:=s) (M:=M) (mc:=mc) ?_);rw[ho,if_pos rfl])|(show aA _ 78 _ _ _;refine CA (h:=kI (x:=x) (a:=a) (s:=aD s) (M:=none) (mc:=0) ?_);rw[show(aD s).dr.ov=true from ho])|(show aA _ 93 _ _ _;refine CA (h:=K1 (x:=x) (a:=a) (s:=aD s) ?_)))
  all_goals(refine aC ?_;exact aB (hK _ _))
end
section
variable {R C:List HP} {K:Value→List HP→Prop} {x mc i b p r:Nat} {a:Ca} {s:Cn} {M:Option Addr} {B n sd:Int} {cf:Cf} {c:Cf}
theorem Sx (h:sd=0∨sd=1) (hK:∀p,K (.tuple #[.pointer (some ⟨p,0,none⟩),.int .i64 0]) (pt p [.int .i64 sd,.int .i64 (sd+1),.int .i64 0] 218::R)):aA Tryz.prog 51 #[.int .i64 sd] R K:=by
 rcases h with rfl|rfl
 all_goals
  refine aH Tryz.func51 ?_
  repeat' (first|refine v42 ?_|refine wr ?_|refine w5 ?_ ?_|((refine bh fun h=>?_) <;> try exact w6 h)|(refine aE fun hA=>?_;subst hA)|intro _)
  all_goals(refine aC ?_;exact aB (hK _))
theorem Mk (h:0≤n∧n≤1048576) (hK:∀p,K (.tuple #[.pointer (some ⟨p,0,none⟩),.int .i64 0]) (slP p ⟨n,0,0,false,false⟩::R)):aA Tryz.prog 54 #[.int .i64 n] R K:=by
 unfold slP at hK
 refine aH Tryz.func54 ?_
 repeat' (first|refine v6 ?_|refine wr ?_|refine w5 ?_ ?_|((refine bh fun h=>?_) <;> try exact w6 h)|(refine aE fun hA=>?_;subst hA)|intro _)
 all_goals(refine aC ?_;exact aB (hK _))
theorem LJ (hK:∀p,K (.pointer (some ⟨p,0,none⟩)) (CS p ⟨false,false,false,0,0,0⟩::R)):aA Tryz.prog 48 #[] R K:=by
 unfold CS at hK
 refine aH Tryz.func48 ?_
 repeat' (first|refine v6 ?_|refine wr ?_|refine w5 ?_ ?_|((refine bh fun h=>?_) <;> try exact w6 h)|(refine aE fun hA=>?_;subst hA)|intro _)
 all_goals(refine aC ?_;exact aB (hK _))
theorem LW (hK:∀p,K (.tuple #[.pointer (some ⟨p,0,none⟩),.int .i64 0]) (IN p []::R)):aA Tryz.prog 55 #[.int .i64 64] R K:=
 aA.entK (Ac1 (by decide) fun p=>⟨_,aG.trans (aG.trans (aG.cons (aG.nilrow _ _ _)) (aG.cons (aG.cons (K3 (f:=Qv))))) (yB (q:= []) ⟨rfl,fun e he=>by cases he⟩ rfl rfl),hK p⟩)
theorem Ou (hK:∀p q,K (.tuple #[.pointer (some ⟨p,0,none⟩),.int .i64 0]) (pt p [.int .i64 64,.map (some q)] 229::mp q (kM qK []) 0::R)):aA Tryz.prog 56 #[.int .i64 64] R K:=by
 refine aH Tryz.func56 ?_
 repeat' (first|refine v6 ?_|refine wr ?_|refine w5 ?_ ?_|((refine bh fun h=>?_) <;> try exact w6 h)|(refine aE fun hA=>?_;subst hA)|intro _|(show aN _ _ _ _ _ _ _;refine E9 ?_;intro _))
 all_goals(refine aC ?_;exact aB (hK _ _))
def sN:eJ:=⟨64,8,4⟩
theorem L4 (hK:∀p,K (.pointer (some ⟨p,0,none⟩)) (PH p ⟨sN,sN,[]⟩::R)):aA Tryz.prog 46 #[] R K:=by
 refine aH Tryz.func46 ?_
 repeat' (first|refine v21 ?_|refine wr ?_|refine w5 ?_ ?_|((refine bh fun h=>?_) <;> try exact w6 h)|(refine aE fun hA=>?_;subst hA)|intro _|(show aA _ 47 _ _ _;refine CA (h:=Iv ?_)))
 all_goals(refine aC ?_;exact aL (aG.trans (by exact bA) ((aG.ex (g:=fun A=>fF fun c=>sep (pt _ [.int .i64 64,.int .i64 8,.int .i64 4,.int .i64 64,.int .i64 8,.int .i64 4,.slice A 0 c] 207) (bT A c 23 Fv [])) none (aG.ex 0 (aG.sep (aG.cons (aG.nilrow _ _ _))))))) (hK _))
def nA (sd:Int) (cf:Cf):Cn:= { cf:=cf,sd:=sd,nx:=sd+1,la:=0,l:= [],tr:=([],0),pk:= [],pc:=0,ld:=⟨512,0,[]⟩,rv:=⟨512,512,512,0,0⟩,sh:=⟨sN,MK sN ⟨cf.w,cf.st,cf.it⟩,[⟨cf.w,cf.st,cf.it⟩]⟩,pe:=sN,bt:=⟨cf.ev,cf.wa,0,0,false,false,0,0⟩,sl:=⟨cf.sl,0,0,false,false⟩,dr:=⟨false,false,false,0,0,0⟩,out:=zA (JV (MA sN ⟨cf.w,cf.st,cf.it⟩)) [],inb:= [],ine:=0,now:=0,last:=⟨#[]⟩,mv:= [] }
structure MZ (cf:Cf):Prop where
 s:sW cf.w cf.st cf.it=true
 sb:0≤cf.sb∧cf.sb≤4096
 si:0≤cf.si∧cf.si≤64
 sg:0≤cf.sg∧cf.sg≤2
 ev:0≤cf.ev∧cf.ev≤1048576
 wa:0≤cf.wa∧cf.wa≤1048576
 sl:0≤cf.sl∧cf.sl≤1048576
def F0:List (Nat×Nat):= [(1,1),(2,1),(3,1),(4,1),(5,1),(6,1),(0,6),(7,0),(8,1),(9,0)]
def Ex:List (Nat×Nat):= [(0,0),(1,0),(2,0),(3,0),(4,0),(5,0),(6,1),(7,0),(8,0),(9,0),(10,0),(11,0)]
theorem Abb (hs:sd=0∨sd=1) (h:MZ cf) (hK:∀x a,K (.tuple #[.pointer (some ⟨x,0,none⟩),.int .i64 0]) (b7 x a (nA sd cf) none 0 R)):aA Tryz.prog 9 #[.int .i64 sd,.agg #[.int .i64 cf.w,.int .i64 cf.st,.int .i64 cf.it,.int .i64 cf.sb,.int .i64 cf.si,.int .i64 cf.sg,.int .i64 cf.ev,.int .i64 cf.wa,.int .i64 cf.sl]] R K:=by
 obtain⟨h1,h2,h3,h4,h5,h6,h7⟩:=h
 have hK:∀x r1 r2 r3 r4 r5 r6 r7 r8 r9 r10 r11 r12 r13 r14,K (.tuple #[.pointer (some ⟨x,0,none⟩),.int .i64 0]) (b7 x ⟨r1,r2,r3,r4,r5,r6,r7,r8,r9,r10,r11,r12,r13,r14⟩ (nA sd cf) none 0 R):=fun x r1 r2 r3 r4 r5 r6 r7 r8 r9 r10 r11 r12 r13 r14=>hK x ⟨r1,r2,r3,r4,r5,r6,r7,r8,r9,r10,r11,r12,r13,r14⟩
 dsimp only[b7,mV,nA] at hK
 have hlen:=UQ (u:=sN) (v:=⟨cf.w,cf.st,cf.it⟩)
 have hse:iU ⟨sN,sN,[]⟩ ⟨cf.w,cf.st,cf.it⟩=0:=by unfold iU;rw[if_neg (by rw[h1];decide)];rfl
 have hss:eK ⟨sN,sN,[]⟩ ⟨cf.w,cf.st,cf.it⟩=⟨sN,MK sN ⟨cf.w,cf.st,cf.it⟩,[⟨cf.w,cf.st,cf.it⟩]⟩:=by unfold eK;rw[if_pos hse];rfl
 refine aH Tryz.func9 ?_
 repeat' (first|refine zB ?_|refine dw F0 ?_|refine dw Ex ?_|refine wr ?_|refine w5 ?_ ?_|((refine bh fun h=>?_) <;> try exact w6 h)|(refine aE fun hA=>?_;subst hA)|intro _|(show aA _ 45 _ _ _;refine CA (h:=XV (fun _ _=>?_)))|(show aA _ 46 _ _ _;refine CA (h:=L4 (fun _=>?_)))|(show aA _ 47 _ _ _;refine CA (h:=Iv ?_))|(show aA _ 48 _ _ _;refine CA (h:=LJ (fun _=>?_)))|(show aA _ 49 _ _ _;refine CA (h:=Acn (fun _=>?_)))|(show aA _ 50 _ _ _;refine CA (h:=Aeb (fun _=>?_)))|(show aA _ 51 _ _ _;refine CA (h:=Sx hs (fun _=>?_)))|(show aA _ 52 _ _ _;refine CA (h:=Ag9 h3 h4 h1 h2 ?_))|(show aA _ 53 _ _ _;refine CA (h:=Ym h5 h6 (fun _=>?_)))|(show aA _ 54 _ _ _;refine CA (h:=Mk h7 (fun _=>?_)))|(show aA _ 55 _ _ _;refine CA (h:=LW (fun _=>?_)))|(show aA _ 56 _ _ _;refine CA (h:=Ou (fun _ _=>?_)))|(show aA _ 57 _ _ _;refine CA (h:=Aa3 (by decide) (fun _=>?_)))|(show aA _ 58 _ _ _;refine CA (h:=NO (by decide) (fun _=>?_)))|(show aA _ 59 _ _ _;refine CA (h:=EH (s:=⟨sN,sN,[]⟩) (t:=⟨cf.w,cf.st,cf.it⟩) (by decide) (fun Aq cq=>?_));rw[hse,hss];simp only[if_true])|(show aA _ 60 _ _ _;refine CA (h:=kN (out:= []) (f:=⟨5,0,false,⟨#[]⟩,0,0,0,false,0,0,0,Aq,(MA sN ⟨cf.w,cf.st,cf.it⟩).length,cq,MA sN ⟨cf.w,cf.st,cf.it⟩⟩) K8 (by exact kR) rfl (by show(MA sN ⟨cf.w,cf.st,cf.it⟩).length<1000000000000000;omega) ?_)))
 all_goals(refine aC ?_;exact aB (hK _ _ _ _ _ _ _ _ _ _ _ _ _ _ _))
end
end Go.Proofs.YtifgibijcmppmaaGreat
namespace Go.Proofs.YtifgibijcmppmaaGreat
open Go Go.Proofs Go.Sl
set_option maxRecDepth 100000
set_option maxHeartbeats 40000000
attribute [local irreducible] aN fB cJ bO aM aY aA dM dQ aW dK pt ro fF star sep bI
section
variable {R C:List HP} {K:Value→List HP→Prop} {p:Nat} {n:Int} {s u v:ByteArray}
structure Lk where
 b:List UInt8
 ca:Int
 we:Int
def LkI (l:Lk):Prop:=l.b.length≤1048576∧0≤l.ca∧l.ca≤1000000000000∧0≤l.we∧l.we≤1000000000000
variable {l:Lk}
def lkE (s:ByteArray) (l:Lk):Int:=if 1048576 - (l.b.length:Int)<s.size then 9 else 0
def Ai0 (s:ByteArray) (l:Lk):Lk:=if lkE s l=0 then⟨l.b++s.data.toList,l.ca+s.size,l.we⟩ else l
def Afm (s:ByteArray) (l:Lk):Lk:=if lkE s l=0 then⟨s.data.toList++l.b,l.ca+s.size,l.we⟩ else l
def lkN (n:Int) (l:Lk):Nat:=(max (min n l.b.length) 0).toNat
def Aik (n:Int) (l:Lk):Lk:=⟨l.b.drop (lkN n l),l.ca,l.we+lkN n l⟩
end
end Go.Proofs.YtifgibijcmppmaaGreat
namespace Go.Proofs.YtifgibijcmppmaaGreat
open Go Go.Proofs Go.Sl
set_option maxRecDepth 100000
set_option maxHeartbeats 40000000
attribute [local irreducible] aN fB cJ bO aM aY aA dM dQ aW dK pt ro fF star sep bI
attribute [local irreducible] mp El
section
structure Td where
 e:Int
 n:Int
 s:ByteArray
 is:Bool
 en:Bool
def td0 (e:Int):Td:=⟨e,0,⟨#[]⟩,false,false⟩
def caT (a:AC) (s:Cn):Td:=
 if a.kd=1 then⟨iV a.n a.cd a.on a.ww a.xx s,if iV a.n a.cd a.on a.ww a.xx s=0 then s.nx else 0,⟨#[]⟩,false,false⟩
 else if a.kd=2 then⟨(pD a.id a.s s).2,(pD a.id a.s s).1,⟨#[]⟩,false,false⟩
 else if a.kd=3 then td0 (Mp a.id s)
 else if a.kd=4 then⟨(kB a.id a.n s).2.2,((kB a.id a.n s).1.size:Nat),(kB a.id a.n s).1,false,(kB a.id a.n s).2.1⟩
 else if a.kd=5 then⟨(k7 a.id s).2.2.2,0,(k7 a.id s).1,(k7 a.id s).2.1,(k7 a.id s).2.2.1⟩
 else if a.kd=6 then td0 (Mu a.id a.n s)
 else if a.kd=7 then td0 (Gn a.id a.on a.ww a.xx s)
 else td0 (lD a.id a.cd s)
def LG (a:AC) (s:Cn):Cn:=
 if a.kd=1 then l5 a.n a.cd a.on a.ww a.xx s
 else if a.kd=2 then lW a.id a.s s
 else if a.kd=3 then y5 a.id s
 else if a.kd=4 then mG a.id a.n s
 else if a.kd=5 then pR a.id s
 else if a.kd=6 then yZ a.id a.n s
 else if a.kd=7 then sU a.id a.on a.ww a.xx s
 else nN a.id a.cd s
variable {R C:List HP} {K:Value→List HP→Prop} {x mc:Nat} {ad:Ca} {s:Cn} {M:Option Addr} {B:Int} {a:AC} {c:Cf}
theorem caI (h:bU B s) (ha:a.s.size≤599) (hB:B+600≤250000000):bU (B+600) (LG a s):=by
 unfold LG
 split
 ·exact(YO h (by omega)).mono (by omega) hB
 ·split
  ·exact(XD h (by omega)).mono (by omega) hB
  ·split
   ·exact(Adw h).mono (by omega) hB
   ·split
    ·exact(Acm h).mono (by omega) hB
    ·split
     ·exact(Yy h).mono (by omega) hB
     ·split
      ·exact(Ade h).mono (by omega) hB
      ·split
       ·exact(ZJ h).mono (by omega) hB
       ·exact(Xo h).mono (by omega) hB
theorem caK (hI:bU B s) (h:fX c s):fX c (LG a s):=by
 unfold LG
 split
 ·exact X4 hI h
 ·split
  ·exact Wi h
  ·split
   ·exact Aek h
   ·split
    ·exact Aaj hI h
    ·split
     ·exact Abq hI h
     ·split
      ·exact Ahf h
      ·split
       ·exact ZM hI h
       ·exact Wm hI h
theorem caE (h:BX s):BX (LG a s):=by
 unfold LG
 split
 ·exact Ab1 h
 ·split
  ·exact Wn h
  ·split
   ·exact Adb h
   ·split
    ·exact YS h
    ·split
     ·exact Aad h
     ·split
      ·exact Ahc h
      ·split
       ·exact ZZ h
       ·exact Vo h
end
section
variable {R C:List HP} {K:Value→List HP→Prop} {d x y pl po mc:Nat} {ad:Ca} {c:Cn} {l o:Lk} {M:Option Addr} {B P side:Int} {a:AC} {cf:Cf} {b0 b1:Bool}
def Ak9 (a:AC) (c:Cn) (l o:Lk):Td:=
 if a.kd=9 then td0 (Um c)
 else if a.kd=10 then td0 (MJ ⟨a.xw,a.xs,a.xi⟩ c)
 else if a.kd=11 then⟨lkE ⟨(bP c).1.toArray⟩ o,((bP c).1.length:Nat),⟨#[]⟩,false,false⟩
 else if a.kd=12 then⟨vK c,((l.b.take (lkN a.n l)).length:Nat),⟨#[]⟩,false,false⟩
 else if a.kd=14 then td0 (lkE a.s l)
 else caT a c
def tQ (a:AC) (c:Cn) (l:Lk):Cn:=
 if a.kd=9 then Ey c
 else if a.kd=10 then wV ⟨a.xw,a.xs,a.xi⟩ c
 else if a.kd=11 then(bP c).2
 else if a.kd=12 then eB (l.b.take (lkN a.n l)) c
 else if a.kd=14 then c
 else LG a c
def Aku (a:AC) (l:Lk):Lk:=if a.kd=12 then Aik a.n l else if a.kd=14 then Afm a.s l else l
def Akr (a:AC) (c:Cn) (o:Lk):Lk:=if a.kd=11 then Ai0 ⟨(bP c).1.toArray⟩ o else o
structure CnG (cf:Cf) (B:Int) (c:Cn):Prop where
 I:bU B c
 K:fX cf c
 E:BX c
def u6 (cf:Cf) (P:Int) (c:Cn):Prop:=∃B,CnG cf B c∧B+34 * c.inb.length≤P
theorem Ua:∀(k:Nat) (a:List UInt8),a.length≤k→9 * (pF a).1.length+(pF a).2.1.length≤a.length:=fun k=>by
 induction k with
 |zero=>
  intro a h
  obtain rfl:a= []:=List.length_eq_zero_iff.1 (by omega)
  have hs:Dh (lH [])=some 0:=by unfold Dh;rw[if_pos (by rw[pI];decide)]
  rw[yL hs]
  exact Nat.le_refl _
 |succ k ih=>
  intro a h
  cases hs:Dh (lH a) with
  |some e=>rw[yL hs];simp
  |none=>
   have hd:=wP hs
   have i1:=ih (a.drop (9+sL (lH a)).toNat) (by omega)
   rw[Gq hs]
   show 9 * ((pF (a.drop (9+sL (lH a)).toNat)).1.length+1)+(pF (a.drop (9+sL (lH a)).toNat)).2.1.length≤a.length
   omega
theorem Aaw {u:List UInt8} (h:u6 cf P c) (hB:P+35 * u.length≤248000000):u6 cf (P+35 * u.length) (eB u c):=by
 obtain⟨B,hG,hP⟩:=h
 have h9:=Ua (c.inb++u).length (c.inb++u) (Nat.le_refl _)
 rw[List.length_append] at h9
 have hB2:B+u.length+300 * (pF (c.inb++u)).1.length≤250000000:=by omega
 cases ho:c.dr.ov
 ·refine⟨B+u.length+300 * (pF (c.inb++u)).1.length,⟨Aa8 hG.I hB2,Aa6 hG.I hG.K hB2,Yx hG.E⟩,?_⟩
  have key:∀z:Cn,pK z=((pF (c.inb++u)).2.2,if(pF (c.inb++u)).2.2=0 then(pF (c.inb++u)).2.1 else [])→z.inb.length≤(pF (c.inb++u)).2.1.length:=fun z hz=>by
   have:=congrArg Prod.snd hz
   have:z.inb=if(pF (c.inb++u)).2.2=0 then(pF (c.inb++u)).2.1 else []:=this
   rw[this]
   split
   ·exact Nat.le_refl _
   ·exact Nat.zero_le _
  have hin:(eB u c).inb.length≤(pF (c.inb++u)).2.1.length:=by
   unfold eB
   rw[if_neg (by rw[ho];decide)]
   have h1:pK (eD (i9 u (aD c)).1 (i9 u (aD c)).2)=((pF (c.inb++u)).2.2,if(pF (c.inb++u)).2.2=0 then(pF (c.inb++u)).2.1 else []):=Cm
   split
   ·exact key _ h1
   ·exact key (i3 0 (pF (c.inb++u)).2.2 (eD (i9 u (aD c)).1 (i9 u (aD c)).2)) (jZ.trans h1)
  omega
 ·have e:eB u c=aD c:=by unfold eB;rw[if_pos ho]
  rw[e]
  exact⟨B,⟨bH hG.I,cM hG.K,hG.E⟩,by show B+34 * (c.inb.length:Int)≤_;omega⟩
end
section
variable {R C:List HP} {K:Value→List HP→Prop} {d x y pl po mc:Nat} {ad:Ca} {c:Cn} {l o:Lk} {M:Option Addr} {B P side:Int} {a:AC} {cf:Cf} {b0 b1:Bool}
def bz (side i k:Int):Bool:=decide (side=i) && !decide (k=14)
end
section
structure Du where
 c0:Cn
 c1:Cn
 l0:Lk
 l1:Lk
 b0:Bool
 b1:Bool
structure Dd where
 x0:Nat
 x1:Nat
 p0:Nat
 p1:Nat
 a0:Ca
 a1:Ca
def duT (a:AC) (z:Du):Td:=
 if a.kd<1∨14<a.kd then td0 2
 else if a.kd=13 then⟨0,z.c0.now+1,⟨#[]⟩,false,false⟩
 else if a.sd=0 then Ak9 a z.c0 z.l0 z.l1
 else if a.sd=1 then Ak9 a z.c1 z.l1 z.l0
 else td0 3
def duS (a:AC) (z:Du):Du:=
 if a.kd<1∨14<a.kd then z
 else if a.kd=13 then { z with c0:=sV z.c0,c1:=sV z.c1,b0:=false,b1:=false }
 else if a.sd=0 then { c0:=tQ a z.c0 z.l0,c1:=z.c1,l0:=Aku a z.l0,l1:=Akr a z.c0 z.l1,b0:=bz 0 0 a.kd,b1:=bz 0 1 a.kd }
 else if a.sd=1 then { c0:=z.c0,c1:=tQ a z.c1 z.l1,l0:=Akr a z.c1 z.l0,l1:=Aku a z.l1,b0:=bz 1 0 a.kd,b1:=bz 1 1 a.kd }
 else { z with b0:=false,b1:=false }
variable {R C:List HP} {K:Value→List HP→Prop} {d mc m0 m1:Nat} {A:Dd} {z:Du} {c:Cn} {l o:Lk} {M M0 M1:Option Addr} {B P k side:Int} {a:AC} {cf cf0 cf1:Cf} {b0 b1:Bool}
def LkJ (k:Int) (l:Lk):Prop:=l.b.length≤1048576∧0≤l.we∧(l.b.length:Int)+l.we=l.ca∧l.ca≤40000 * k
theorem u6.mono {P':Int} (h:u6 cf P c) (hP:P≤P'):u6 cf P' c:=by
 obtain⟨B,h1,h2⟩:=h
 exact⟨B,h1,by omega⟩
theorem S0 (hI:bU B c) (hk:fX cf c) (hF:∀m∈c.l,XL m) (hB:B+1301≤250000000) (ho:c.dr.ov=false) (ho1:(bJ (aD c)).dr.ov=false):(∀f∈vI c,dB f)∧(vI c).length≤134:=by
 have hbb:=hI.bb
 have hIb:=bH hI
 have hkb:=cM hk
 have hI1:=Ix hIb (by omega)
 have hk1:=Ef hIb hkb (by omega)
 have hou:=K2 ho1
 have hti:=Acz ho1
 have hI2:=GO hI1
 have hk2:=HH hk1
 have hI3:=Rb hI2
 have hk3:=RR hk2
 have hF2:∀m∈({ bJ (aD c) with out:= [] }:Cn).l,XL m:=fun m hm=>hF m (by have hm:m∈(bJ (aD c)).l:=hm;rw[hti] at hm;exact hm)
 have hgr:=PP hI2 hF2
 have hbr:=zN (k:=4) hI3 hk3 (by omega)
 have hfo:=hk1.fo
 refine⟨fun f hf=>?_,?_⟩
 ·unfold vI at hf
  rcases List.mem_append.1 hf with hf|hf
  ·rcases List.mem_append.1 hf with hf|hf
   ·rcases List.mem_append.1 hf with hf|hf
    ·exact(x9 f hf).1
    ·exact(sO f).1 (hfo f hf).1
   ·exact(hgr f hf).1
  ·exact(hbr f hf).1
 ·have hl0:=KQ (s:=aD c)
  have hgl:(uT { bJ (aD c) with out:= [] }).length≤65:=by
   have h1:=flat_len (l:=(bJ (aD c)).l)
   have h2:=hI1.sm.1
   have h3:=Gd (t:=10) (st:=0) (n:=vS (bJ (aD c)).rv)
   show(J2 10 0 (vS (bJ (aD c)).rv)++(bJ (aD c)).l.flatMap rU).length≤65
   rw[List.length_append];omega
  have hol:=hI1.ou.1
  have hbl:=KP (k:=4) (s:=BE { bJ (aD c) with out:= [] })
  show(fQ (aD c)++(bJ (aD c)).out++uT { bJ (aD c) with out:= [] }++(fR 4 (BE { bJ (aD c) with out:= [] })).1).length≤134
  revert hbl hgl
  generalize ({ bJ (aD c) with out:= [] }:Cn)=z2
  intro hbl hgl
  rw[List.length_append,List.length_append,List.length_append]
  omega
theorem Aau (hG:CnG cf B c) (hF:∀m∈c.l,XL m) (hB:B+1301≤250000000):(bP c).1.length≤40000:=by
 have hIb:=bH hG.I
 have hkb:=cM hG.K
 have hk1:=Ef hIb hkb (by omega)
 have hls:=hG.K.ls
 have hls1:=hk1.ls
 cases ho:c.dr.ov
 ·cases ho1:(bJ (aD c)).dr.ov
  ·obtain⟨h1,h2⟩:=S0 hG.I hG.K hF hB ho ho1
   rw[Tx ho ho1 h1]
   have:=La h1
   show(s4 (vI c)).length≤40000
   omega
  ·have e:bP c=((bJ (aD c)).last.data.toList,{ bJ (aD c) with last:=⟨#[]⟩ }):=by unfold bP;rw[if_neg (by rw[ho];decide),if_pos ho1]
   rw[e]
   have e2:(bJ (aD c)).last.data.toList.length=(bJ (aD c)).last.size:=Array.length_toList
   show(bJ (aD c)).last.data.toList.length≤40000
   omega
 ·have e:bP c=(c.last.data.toList,{ aD c with last:=⟨#[]⟩ }):=by unfold bP;rw[if_pos ho]
  rw[e]
  have e2:c.last.data.toList.length=c.last.size:=Array.length_toList
  show c.last.data.toList.length≤40000
  omega
end
section
variable {R C:List HP} {K:Value→List HP→Prop} {d mc m0 m1:Nat} {A:Dd} {z:Du} {c:Cn} {l o:Lk} {M M0 M1:Option Addr} {B P k side:Int} {a:AC} {cf cf0 cf1:Cf} {b0 b1:Bool}
theorem Ail:pK (LG a c)=pK c:=by
 unfold LG
 split
 ·unfold l5;split <;> rfl
 ·split
  ·unfold lW;split
   ·rfl
   ·split <;> rfl
  ·split
   ·unfold y5;split
    ·rfl
    ·split <;> rfl
   ·split
    ·unfold mG;split
     ·rfl
     ·split
      ·split
       ·rfl
       ·exact By
      ·rfl
    ·split
     ·unfold pR;split
      ·rfl
      ·split
       ·split
        ·rfl
        ·exact By
       ·rfl
     ·split
      ·unfold yZ;split
       ·rfl
       ·split <;> rfl
      ·split
       ·unfold sU;split <;> rfl
       ·unfold nN;split
        ·rfl
        ·split <;> rfl
theorem Ue:pK (bJ c)=pK c:=by
 unfold bJ
 split
 ·exact jZ
 ·split
  ·exact jZ
  ·rfl
theorem Agh:pK (qQ c).2=pK c:=by
 unfold qQ
 split
 ·rfl
 ·split
  ·rfl
  ·split
   ·rfl
   ·exact By
theorem O4:∀ {k:Nat} {c:Cn},pK (fR k c).2=pK c
 |0,_=>rfl
 |k+1,c=>by
  have h:=Agh (c:=c)
  rw[C6]
  split
  ·rename_i z hz
   rw[hz] at h;exact h
  ·rename_i f z hz
   rw[hz] at h
   exact(O4 (k:=k) (c:=z)).trans h
theorem TT:pK (bP c).2=pK c:=by
 unfold bP
 split
 ·rfl
 ·split
  ·exact(show pK (bJ (aD c))=pK c from Ue)
  ·exact(O4 (k:=4) (c:=BE { bJ (aD c) with out:= [] })).trans (show pK (bJ (aD c))=pK c from Ue)
theorem Yo (h:BX c):BX (bP c).2:=L1 h TT fun ho=>by
 unfold bP
 rw[if_pos ho];exact ho
theorem Akb {c':Cn} (h:pK c'=pK c):c'.inb=c.inb:=congrArg Prod.snd h
theorem Er {c':Cn} {D:Int} (h:u6 cf P c) (hP:P≤240000000) (hD:D≤2000) (hi:pK c'=pK c) (hg:∀B,B+2000≤250000000→CnG cf B c→CnG cf (B+D) c'):u6 cf (P+2000) c':=by
 obtain⟨B,h1,h2⟩:=h
 exact⟨B+D,hg B (by omega) h1,by rw[Akb hi];omega⟩
theorem Kr (h:u6 cf P c) (hP:P≤200000000) (hd:a.s.size≤599) (hk:a.kd≠12):u6 cf (P+2000) (tQ a c l):=by
 unfold tQ
 split
 ·exact Er (D:=0) h (by omega) (by decide) (by unfold Ey;split <;> rfl) fun B hB hG=>⟨by rw[Int.add_zero];exact Ai4 hG.I,Aja hG.K,Aiq hG.E⟩
 ·split
  ·exact Er (D:=0) h (by omega) (by decide) (by unfold wV;split <;> rfl) fun B hB hG=>⟨by rw[Int.add_zero];exact YF hG.I,Aat hG.K,Zp hG.E⟩
  ·split
   ·exact Er (D:=1301) h (by omega) (by decide) TT fun B hB hG=>⟨(Abe hG.I hG.K (by omega)).1,(Abe hG.I hG.K (by omega)).2,Yo hG.E⟩
   ·split
    ·exact Er (D:=0) h (by omega) (by decide) rfl fun B hB hG=>by rw[Int.add_zero];exact hG
    ·exact Er (D:=600) h (by omega) (by decide) Ail fun B hB hG=>⟨caI hG.I hd (by omega),caK hG.I hG.K,caE hG.E⟩
theorem Ajm (h:u6 cf P c) (hP:P≤200000000):u6 cf (P+2000) (sV c):=
 Er (D:=1) h (by omega) (by decide) rfl fun B hB hG=>⟨Yc hG.I (by omega),Zl hG.K,Z7 hG.E⟩
end
section
variable {R C:List HP} {K:Value→List HP→Prop} {d mc m0 m1:Nat} {A:Dd} {z:Du} {c:Cn} {l o:Lk} {M M0 M1:Option Addr} {B P k side:Int} {a:AC} {cf cf0 cf1:Cf} {b0 b1:Bool}
def lO (x:Nat) (a:Ca) (s:Cn):HP:=fF fun M=>fF fun mc=>star (b7 x a s M mc [])
theorem iE {f:FuncId} {args:Array Value} {x:Nat} {a:Ca} {s:Cn} (h:∀M mc,aA Tryz.prog f args (b7 x a s M mc R) K):aA Tryz.prog f args (lO x a s::R) K:=aA.ex fun M=>aA.ex fun mc=>aA.star (h M mc)
theorem fZ {x:Nat} {a:Ca} {s:Cn}:aG (b7 x a s M mc R) (lO x a s::R):=aG.ex M (aG.ex mc (aG.mkstar (l:=b7 x a s M mc [])))
theorem NQ {x:Nat} {ad:Ca} {s:Cn} (hb:0≤s.now∧s.now≤1000000000) (hK:K (.int .i64 (s.now+1)) (lO x ad (sV s)::R)):aA Tryz.prog 102 #[.pointer (some ⟨x,0,none⟩)] (lO x ad s::R) K:=
 iE fun M mc=>aA.entK (WJ hb ⟨_,fZ,hK⟩)
end
section
variable {R C:List HP} {K:Value→List HP→Prop} {d x y pl po mc m0 m1:Nat} {ad:Ca} {A:Dd} {z:Du} {c:Cn} {l o:Lk} {M M0 M1:Option Addr} {B P k sd:Int} {a:AC} {cf cf0 cf1:Cf} {b0 b1:Bool}
theorem Il (hs:sd=0∨sd=1) (h:MZ cf):CnG cf 0 (nA sd cf):=by
 obtain⟨h1,h2,h3,h4,h5,h6,h7⟩:=h
 have hc:wD ⟨cf.w,cf.st,cf.it⟩:=h1
 have hf:wD sN:=by show sW 64 8 4=true;decide
 have hm:wD (MK sN ⟨cf.w,cf.st,cf.it⟩):=by
  unfold wD sW MK sN at *
  simp only[Bool.and_eq_true,decide_eq_true_eq] at *
  omega
 have e0:∀id,d4 id (nA sd cf).tr.1=false:=fun id=>rfl
 have hI:bU 0 (nA sd cf):= {
  bb:=by omega
  cf:=⟨h2,h3,h4⟩
  sd:=hs
  nx:=by show 1≤sd+1∧sd+1≤2147483649∧((sd+1) % 2=1↔sd=0);omega
  la:=by show 0≤(0:Int)∧(0:Int)≤2147483647;omega
  sm:=⟨Nat.zero_le _,List.Pairwise.nil⟩
  st:=fun m hm=>by cases hm
  ids:=fun m hm=>by cases hm
  own:=fun b=>Nat.zero_le _
  tr:= {
   kok:=⟨List.nodup_nil,fun e he=>by cases he⟩
   nd:=List.nodup_nil
   len:=Nat.zero_le _
   w:=fun id h=>by cases h
   ky:=fun id h=>by cases h
   cl:=fun id h=>by cases h
   rk:=⟨fun _=>0,fun id h=>by cases h⟩ }
  pk:=fun e he=>by cases he
  ld:=⟨Nat.zero_le _,List.Pairwise.nil,(fun e he=>by cases he),by show -2147483647≤(512:Int)∧(512:Int)≤2147483647;omega,Int.le_refl _,Int.le_refl _⟩
  rv:=⟨rfl,by show(0:Int)≤0∧(0:Int)≤0∧(0:Int)≤512∧(512:Int)≤0+512∧(0:Int)≤0;omega⟩
  sh:=⟨by show 1≤4;omega,hf,hm,fun t ht=>by obtain rfl:t=_:=List.mem_singleton.1 ht;exact hc⟩
  pe:=by show y8 64∧y8 8∧y8 4;unfold y8;omega
  bt:=by show(0≤(0:Int)∧(0:Int)≤0)∧(0≤(0:Int)∧(0:Int)≤0)∧(0≤(0:Int)∧(0:Int)≤0)∧0≤(0:Int)∧(0:Int)≤0;omega
  sl:=by show(0≤(0:Int)∧(0:Int)≤0)∧0≤(0:Int)∧(0:Int)≤0;omega
  ou:=EI K8
  inb:=Int.le_refl _
  now:=⟨Int.le_refl _,Int.le_refl _⟩
  mv:=Int.le_refl _ }
 have hK:fX cf (nA sd cf):= {
  cfe:=rfl
  tn:=fun id h=>by cases h
  fo:=UY (f:=JV (MA sN ⟨cf.w,cf.st,cf.it⟩)) (fun f hf=>by cases hf) ⟨rfl,(by show(5:Int)≠10;decide),(by show(5:Int)≠11;decide)⟩
  cl:=fun _=>rfl
  mo:=fun m hm=>by cases hm
  hg:=by
   have e1:Nj sN (MK sN ⟨cf.w,cf.st,cf.it⟩):=by unfold Nj MK;dsimp only;omega
   have e2:Nj ⟨cf.w,cf.st,cf.it⟩ (MK sN ⟨cf.w,cf.st,cf.it⟩):=by unfold Nj MK;dsimp only;omega
   exact⟨e1,fun t ht=>by obtain rfl:t=_:=List.mem_singleton.1 ht;exact e2⟩
  nf:=by
   have:=hm
   unfold wD sW MK sN at this
   simp only[Bool.and_eq_true,decide_eq_true_eq] at this
   show(0:Int)≤max 8 cf.st
   omega
  kp:=by show(0:Int)+(tE []:Nat)≤0;decide
  ls:=Nat.zero_le _
  lk:=fun j=>⟨(fun h=>by cases h),(fun⟨m,h,_⟩=>by cases h)⟩ }
 exact⟨hI,hK,.inr rfl,Nat.zero_le _⟩
theorem KZ (hs:sd=0∨sd=1) (h:MZ cf) (hK:∀x a,K (.tuple #[.pointer (some ⟨x,0,none⟩),.int .i64 0]) (lO x a (nA sd cf)::R)):aA Tryz.prog 9 #[.int .i64 sd,.agg #[.int .i64 cf.w,.int .i64 cf.st,.int .i64 cf.it,.int .i64 cf.sb,.int .i64 cf.si,.int .i64 cf.sg,.int .i64 cf.ev,.int .i64 cf.wa,.int .i64 cf.sl]] R K:=
 aA.entK (Abb hs h fun x a=>⟨_,fZ,hK x a⟩)
theorem wW (hG:u6 cf P c) (hK:K (wF c) (lO x ad c::R)):aA Tryz.prog 16 #[.pointer (some ⟨x,0,none⟩)] (lO x ad c::R) K:=by
 obtain⟨B,h,_⟩:=hG
 exact iE fun M mc=>aA.entK (Kz h.I ⟨_,fZ,hK⟩)
end
section
def Ip:Cf:=⟨64,8,4,100,5,0,0,0,0⟩
theorem Gp:MZ Ip:=⟨by decide,by decide,by decide,by decide,by decide,by decide,by decide⟩
def dz0:Du:=⟨nA 0 Ip,nA 1 Ip,⟨[],0,0⟩,⟨[],0,0⟩,false,false⟩
def da1:AC:=⟨1,0,0,1,0,⟨#[]⟩,0,1,false,0,0,0⟩
def da2:AC:=⟨2,0,1,0,0,"abc".toUTF8,0,0,false,0,0,0⟩
def da3:AC:=⟨11,0,0,0,0,⟨#[]⟩,0,0,false,0,0,0⟩
def da4:AC:=⟨12,1,0,1000,0,⟨#[]⟩,0,0,false,0,0,0⟩
def dz1:=duS da1 dz0
def dz2:=duS da2 dz1
def dz3:=duS da3 dz2
variable {R C:List HP} {K:Value→List HP→Prop}
end
end Go.Proofs.YtifgibijcmppmaaGreat
namespace Go.Proofs.YtifgibijcmppmaaGreat
open Go Go.Proofs Go.Sl
set_option maxRecDepth 100000
set_option maxHeartbeats 40000000
attribute [local irreducible] aN fB cJ bO aM aY aA dM dQ aW dK pt ro fF star sep bI
section
variable {W:World}
variable {R C:List HP} {K:Value→List HP→Prop} {w st it sb si sg ev wa stl:Int} {a:AC}
def cfL (w it sb si sg ev wa stl:Int):Cf:=⟨w % 18446744073709551616 % 100,8,it % 18446744073709551616 % 20,sb % 18446744073709551616 % 200,si % 18446744073709551616 % 20,sg % 18446744073709551616 % 3,ev % 18446744073709551616 % 30,wa % 18446744073709551616 % 30,stl % 18446744073709551616 % 30⟩
theorem Aje:MZ (cfL w it sb si sg ev wa stl):=by
 refine⟨?_,?_,?_,?_,?_,?_,?_⟩
 ·unfold sW cfL;simp only[Bool.and_eq_true,decide_eq_true_eq];omega
 all_goals(unfold cfL;dsimp only;omega)
theorem R0 (hK:K (.agg #[.int .i64 (w % 18446744073709551616 % 100),.int .i64 8,.int .i64 (it % 18446744073709551616 % 20),.int .i64 (sb % 18446744073709551616 % 200),.int .i64 (si % 18446744073709551616 % 20),.int .i64 (sg % 18446744073709551616 % 3),.int .i64 (ev % 18446744073709551616 % 30),.int .i64 (wa % 18446744073709551616 % 30),.int .i64 (stl % 18446744073709551616 % 30)]) R):aA Tryz.prog 22 #[.agg #[.int .i64 w,.int .i64 st,.int .i64 it,.int .i64 sb,.int .i64 si,.int .i64 sg,.int .i64 ev,.int .i64 wa,.int .i64 stl]] R K:=by
 have h1:∀z:Int,0≤z % 18446744073709551616 % 100∧z % 18446744073709551616 % 100<100:=fun z=>by omega
 have h2:∀z:Int,0≤z % 18446744073709551616 % 20∧z % 18446744073709551616 % 20<20:=fun z=>by omega
 have h3:∀z:Int,0≤z % 18446744073709551616 % 200∧z % 18446744073709551616 % 200<200:=fun z=>by omega
 have h4:∀z:Int,0≤z % 18446744073709551616 % 3∧z % 18446744073709551616 % 3<3:=fun z=>by omega
 have h5:∀z:Int,0≤z % 18446744073709551616 % 30∧z % 18446744073709551616 % 30<30:=fun z=>by omega
 refine aH Tryz.func22 ?_
 repeat' (first|(show aN _ _ _ _ _ _ _;first|refine lR ?_|refine jH ?_)|refine v61 ?_|refine wr ?_|refine w5 ?_ ?_|((refine bh fun h=>?_) <;> try exact w6 h)|(refine aE fun hA=>?_;subst hA)|intro _)
 all_goals(refine aC ?_;exact aB (hK))
end
section
variable {W:World}
theorem YA {cs:List Value} {v0 v1 v2 v3 v4 v5 v6 v7 v8:Value} (hl:cs.length=9) (h0:(cs.drop 0).take 1= [v0]) (h1:(cs.drop 1).take 1= [v1]) (h2:(cs.drop 2).take 1= [v2]) (h3:(cs.drop 3).take 1= [v3]) (h4:(cs.drop 4).take 1= [v4]) (h5:(cs.drop 5).take 1= [v5]) (h6:(cs.drop 6).take 1= [v6]) (h7:(cs.drop 7).take 1= [v7]) (h8:(cs.drop 8).take 1= [v8]):cs= [v0,v1,v2,v3,v4,v5,v6,v7,v8]:=by
 match cs,hl with
 | [a0,a1,a2,a3,a4,a5,a6,a7,a8],_=>simp_all
theorem Agw {cs:List Value} {o m j n:Nat} (h:j+n≤m):(((cs.drop o).take m).drop j).take n=(cs.drop (o+j)).take n:=by
 rw[List.drop_take,List.take_take,List.drop_drop]
 congr 1
 omega
theorem Qp {n:Nat} {cs:List Value} (hg:Go.Sl.Good Tryz.prog W n 32 cs):∃w st it sb si stg ev wa stl:Int,cs= [.int .i64 w,.int .i64 st,.int .i64 it,.int .i64 sb,.int .i64 si,.int .i64 stg,.int .i64 ev,.int .i64 wa,.int .i64 stl]:=by
 have hz:Tryz.prog.cellsOf 32=9:=by kernel_rfl
 have hz2:Tryz.prog.cellsOf 23=3:=by kernel_rfl
 obtain⟨m2,k3,k4⟩:=jN Tryz.underlying32 hg
 obtain⟨m3,j3,j4⟩:=jN Tryz.underlying23 (k4 0 _ rfl)
 obtain⟨w,r0,_⟩:=dE Tryz.underlying3 (j4 0 _ rfl)
 obtain⟨st,r1,_⟩:=dE Tryz.underlying3 (j4 1 _ rfl)
 obtain⟨it,r2,_⟩:=dE Tryz.underlying3 (j4 2 _ rfl)
 obtain⟨sb,r3,_⟩:=dE Tryz.underlying3 (k4 1 _ rfl)
 obtain⟨si,r4,_⟩:=dE Tryz.underlying3 (k4 2 _ rfl)
 obtain⟨stg,r5,_⟩:=dE Tryz.underlying3 (k4 3 _ rfl)
 obtain⟨ev,r6,_⟩:=dE Tryz.underlying3 (k4 4 _ rfl)
 obtain⟨wa,r7,_⟩:=dE Tryz.underlying3 (k4 5 _ rfl)
 obtain⟨stl,r8,_⟩:=dE Tryz.underlying3 (k4 6 _ rfl)
 have go:∀(j:Nat) (v:Value),j+1≤3→List.take 1 (List.drop j (List.take (Tryz.prog.cellsOf 23) (List.drop 0 cs)))= [v]→(cs.drop (0+j)).take 1= [v]:=fun j v hj h=>by
  rw[hz2,Agw hj] at h;exact h
 exact⟨w,st,it,sb,si,stg,ev,wa,stl,YA (k3.trans hz) (go 0 _ (by omega) r0) (go 1 _ (by omega) r1) (go 2 _ (by omega) r2) r3 r4 r5 r6 r7 r8⟩
end
end Go.Proofs.YtifgibijcmppmaaGreat
namespace Go.Proofs.YtifgibijcmppmaaGreat
open Go Go.Proofs Go.Sl
set_option maxRecDepth 100000
set_option maxHeartbeats 40000000
attribute [local irreducible] aN fB cJ bO aM aY aA dM dQ aW dK pt ro fF star sep bI
attribute [local irreducible] mp El
section
variable {R C:List HP} {K:Value→List HP→Prop} {x mc:Nat} {a:Ca} {s:Cn} {M:Option Addr} {B:Int} {m:Sm} {cf:Cf} {j:Nat} {l:List Sm}
theorem Ac0 (h:l[j]?=some m):tE (l.take (j+1))=tE (l.take j)+kb m:=by
 unfold tE
 rw[List.take_add_one,h]
 simp
theorem Aib:tE (l.take j)≤tE l:=by
 have h:=UO (a:=l.take j) (b:=l.drop j)
 rw[List.take_append_drop] at h
 omega
theorem Ah2 (hk:fX cf s) (hF:∀m∈s.l,XL m) (hm:m∈s.l):(jI m.y=1∧(gT m.y:Int)≤s.sh.g.w∧Oc m.y≤s.sh.g.w∨jI m.y=2∧(gT m.y:Int)+Oc m.y≤s.sh.g.it)∧-400000000≤Oc m.y∧Oc m.y≤4096∧gT m.y≤4096∧bD m.x=jI m.y:=by
 obtain⟨h1,h2,h3,h4⟩:=hk.mo m hm
 obtain⟨f1,f2,f3⟩:=hF m hm
 cases hy:m.y with
 |b y=>
  rw[hy] at h1 h3 f2
  obtain⟨r1,r2,r3,r4,r5,r6,r7,r8,r9⟩:=f2
  have h1:y.most≤s.sh.g.w:=h1
  refine⟨.inl ⟨rfl,?_,?_⟩,?_,?_,?_,h3⟩
  ·show(y.bs.length:Int)≤_;omega
  ·show y.gr - y.us≤_;omega
  ·show _≤y.gr - y.us;omega
  ·show y.gr - y.us≤_;omega
  ·show y.bs.length≤_;omega
 |i y=>
  rw[hy] at h1 h3 f2
  obtain⟨r1,r2,r3,r4,r5,r6,r7,r8,r9,r10⟩:=f2
  have h1:y.mr≤s.sh.g.it:=h1
  refine⟨.inr ⟨rfl,?_⟩,?_,?_,?_,h3⟩
  ·show(y.l.length:Int)+y.op≤_;omega
  ·show _≤y.op;omega
  ·show y.op≤_;omega
  ·show y.l.length≤_;omega
def g8:List Nat:= [0,1,3,7,15,31,15,79,255,511,1023,2047,1023,5119,16383,32767,65535,131071,262143,524287,1048575,2097151,4194303,8388607,4194303,33554431,67108863,4194303,138412031,536870911,1073741823,2147483647]
def gS:List Nat:= [2147483647,1073741823,536870911,138412031,4194303,67108863,33554431,4194303,8388607,4194303,2097151,1048575,524287,262143,131071,65535,32767,16383,5119,1023,2047,1023,511,255,79,15,31,15,7,3,1,0]
def gV:List (Nat×Nat):= [(0,0),(1,1),(2,0),(3,0),(4,0),(5,1),(6,1),(7,1),(8,0),(9,0),(10,0),(11,1),(12,1),(13,1),(14,0),(15,0),(16,0),(17,0),(18,0),(19,1),(20,0),(21,0),(22,0),(23,1),(24,1),(25,1),(26,0),(27,2),(28,2),(29,0),(30,0),(31,0)]
theorem SR (hI:bU B s) (hk:fX cf s) (hF:∀m∈s.l,XL m) (hK:K (.bool true) (b7 x a s M mc R)):aA Tryz.prog 24 #[.pointer (some ⟨x,0,none⟩)] (b7 x a s M mc R) K:=by
 have h64:=hI.sm.1
 have hkp:=hk.kp
 have hrv:=hI.rv
 have hnf:=hk.nf
 have ho1:=hI.own true
 have hou:=hI.ou.1
 have hsum:s.l.length=fG s true+fG s false:=Gh s.l
 obtain⟨v1,v2,v3,v4,v5,v6⟩:=hrv
 have hB:=hI.bb
 have k1:∀v:Bool,v=true→K (.bool v) (b7 x a s M mc R):=fun v hv=>hv▸hK
 dsimp only[b7,mV] at k1 ⊢
 refine aH Tryz.func24 ?_
 repeat' (first|refine XP ?_|refine Iu g8 gS gV ?_|refine wr ?_|refine w5 ?_ ?_|((refine bh fun h=>?_) <;> try exact w6 h)|(refine aE fun hA=>?_;subst hA)|intro _|(show aA _ 41 _ _ _;refine CA (h:=Rz (x:=x) (a:=a) (s:=s) (M:=M) (mc:=mc) ?_))|(show aA _ 42 _ _ _;refine CA (h:=Vh (p:=a.sh) (s:=s.sh) ?_))|(show aA _ 18 _ _ _;refine CA (h:=Pe (x:=x) (a:=a) (s:=s) (M:=M) (mc:=mc) hI (fun rowA rowC=>?_))))
 rename_i r3
 refine iF (fun n a' C'=>∃j:Nat,j+n=s.l.length∧cN a' [(0,.pointer (some ⟨x,0,none⟩)),(2,.bool false),(3,.pointer (some ⟨r3,0,none⟩)),(4,.slice rowA (s.l.map Sm.id).length rowC),(5,.int .i64 j)]∧C'=pt r3 [.int .i64 s.sh.g.w,.int .i64 s.sh.g.st,.int .i64 s.sh.g.it] 23::bT rowA rowC 3 kH (s.l.map Sm.id)::b7 x a s M mc R) s.l.length (b9 s.l.length ⟨0,by omega,⟨rfl,rfl,rfl,rfl,rfl,trivial⟩,rfl⟩ (by omega)) ?_
 rintro n a' C' ⟨j,hj,ha,rfl⟩
 refine gF _ ha ?_
 simp only[eQ]
 by_cases hlt:j<s.l.length
 ·obtain⟨m,hm⟩:∃m,s.l[j]?=some m:=⟨_,List.getElem?_eq_getElem hlt⟩
  have hmem:=List.mem_of_getElem? hm
  have hat:=Sr hI.sm hmem
  have hid:(s.l.map Sm.id)[j]?=some m.id:=by rw[List.getElem?_map,hm];rfl
  have hln:(s.l.map Sm.id).length=s.l.length:=List.length_map ..
  obtain⟨hq,q1,q2,q3,q4⟩:=Ah2 hk hF hmem
  dsimp only[b7,mV]
  repeat' (first|refine XP ?_|refine Iu g8 gS gV ?_|refine wr ?_|refine w5 ?_ ?_|((refine bh fun h=>?_) <;> try exact w6 h)|(refine aE fun hA=>?_;subst hA)|intro _|(show aA _ 104 _ _ _;refine CA (h:=rY (x:=x) (a:=a) (s:=s) (M:=M) (mc:=mc) hI hat (fun strB=>?_)))|(show aA _ 89 _ _ _;refine CA (h:=nM (m:=m) (fun rxB2=>?_)))|(show aA _ 105 _ _ _;refine CA (h:=YY (y:=m.y) ?_))|(show aA _ 90 _ _ _;refine CA (h:=HJ (y:=m.y) ?_))|(show aA _ 106 _ _ _;refine CA (h:=Abi (y:=m.y) ?_)))
  all_goals(show aW _ _ _ _;exact pJ (m:=n - 1) (C':=pt r3 [.int .i64 s.sh.g.w,.int .i64 s.sh.g.st,.int .i64 s.sh.g.it] 23::bT _ _ 3 kH (s.l.map Sm.id)::b7 x a s M mc R) (by omega) (aG.trans (by exact bA) (aG.trans (aG.cons (A:=pt r3 [.int .i64 s.sh.g.w,.int .i64 s.sh.g.st,.int .i64 s.sh.g.it] 23) (aG.cons (A:=bT _ _ 3 kH (s.l.map Sm.id)) (k8 (m:=m) (y:=m.y) rfl))) (aG.cons (aG.cons (dD (x:=x) (a:=a) (s:=s) (M:=M) (mc:=mc) (R:=R) (aU hat).1))))) ⟨j+1,by omega,⟨rfl,rfl,rfl,rfl,rfl,trivial⟩,rfl⟩)
 ·obtain rfl:j=s.l.length:=by omega
  have hln:(s.l.map Sm.id).length=s.l.length:=List.length_map ..
  repeat' (first|refine XP ?_|refine Iu g8 gS gV ?_|refine wr ?_|refine w5 ?_ ?_|((refine bh fun h=>?_) <;> try exact w6 h)|(refine aE fun hA=>?_;subst hA)|intro _)
  refine iF (fun n a' C'=>∃j:Nat,j+n=s.l.length∧cN a' [(0,.pointer (some ⟨x,0,none⟩)),(2,.bool false),(3,.pointer (some ⟨r3,0,none⟩)),(4,.slice rowA (s.l.map Sm.id).length rowC),(7,.int .i64 (tE (s.l.take j):Nat)),(8,.int .i64 j)]∧C'=pt r3 [.int .i64 s.sh.g.w,.int .i64 s.sh.g.st,.int .i64 s.sh.g.it] 23::bT rowA rowC 3 kH (s.l.map Sm.id)::b7 x a s M mc R) s.l.length (b9 s.l.length ⟨0,by omega,⟨rfl,rfl,rfl,rfl,rfl,rfl,trivial⟩,rfl⟩ (by omega)) ?_
  rintro n a' C' ⟨j,hj,ha,rfl⟩
  refine gF _ ha ?_
  simp only[eQ]
  by_cases hlt:j<s.l.length
  ·obtain⟨m,hm⟩:∃m,s.l[j]?=some m:=⟨_,List.getElem?_eq_getElem hlt⟩
   have hmem:=List.mem_of_getElem? hm
   have hat:=Sr hI.sm hmem
   have hid:(s.l.map Sm.id)[j]?=some m.id:=by rw[List.getElem?_map,hm];rfl
   obtain⟨hq,q1,q2,q3,q4⟩:=Ah2 hk hF hmem
   have ht:=Ac0 hm
   have hle:=Aib (l:=s.l) (j:=j)
   by_cases hx:bD m.x=1
   ·have hkb:kb m=gT m.y:=if_pos hx
    have ht2:((tE (s.l.take j):Nat):Int)+((gT m.y:Nat):Int)=(tE (s.l.take (j+1)):Nat):=by omega
    dsimp only[b7,mV]
    repeat' (first|refine XP ?_|refine Iu g8 gS gV ?_|refine wr ?_|refine w5 ?_ ?_|((refine bh fun h=>?_) <;> try exact w6 h)|(refine aE fun hA=>?_;subst hA)|intro _|(show aA _ 104 _ _ _;first|refine CA (h:=rY (x:=x) (a:=a) (s:=s) (M:=M) (mc:=mc) hI hat (fun strB=>?_))|refine CA (h:=aA.ent (dD (x:=x) (a:=a) (s:=s) (M:=M) (mc:=mc) (b:=strB) (aU hat).1) (rY (x:=x) (a:=a) (s:=s) (M:=M) (mc:=mc) hI hat (fun strD=>?_))))|(show aA _ 107 _ _ _;refine CA (h:=jF (m:=m) ?_))|(show aA _ 89 _ _ _;refine CA (h:=nM (m:=m) (fun rxB2=>?_)))|(show aA _ 90 _ _ _;refine CA (h:=HJ (y:=m.y) ?_)))
    all_goals rw[ht2]
    all_goals(show aW _ _ _ _;exact pJ (m:=n - 1) (C':=pt r3 [.int .i64 s.sh.g.w,.int .i64 s.sh.g.st,.int .i64 s.sh.g.it] 23::bT _ _ 3 kH (s.l.map Sm.id)::b7 x a s M mc R) (by omega) (aG.trans (by exact bA) (aG.trans (aG.cons (A:=pt r3 [.int .i64 s.sh.g.w,.int .i64 s.sh.g.st,.int .i64 s.sh.g.it] 23) (aG.cons (A:=bT _ _ 3 kH (s.l.map Sm.id)) (k8 (m:=m) (y:=m.y) rfl))) (aG.cons (aG.cons (dD (x:=x) (a:=a) (s:=s) (M:=M) (mc:=mc) (R:=R) (aU hat).1))))) ⟨j+1,by omega,⟨rfl,rfl,rfl,rfl,rfl,rfl,trivial⟩,rfl⟩)
   ·have hkb:kb m=0:=if_neg hx
    have ht2:((tE (s.l.take j):Nat):Int)=(tE (s.l.take (j+1)):Nat):=by omega
    rw[ht2]
    dsimp only[b7,mV]
    repeat' (first|refine XP ?_|refine Iu g8 gS gV ?_|refine wr ?_|refine w5 ?_ ?_|((refine bh fun h=>?_) <;> try exact w6 h)|(refine aE fun hA=>?_;subst hA)|intro _|(show aA _ 104 _ _ _;first|refine CA (h:=rY (x:=x) (a:=a) (s:=s) (M:=M) (mc:=mc) hI hat (fun strB=>?_))|refine CA (h:=aA.ent (dD (x:=x) (a:=a) (s:=s) (M:=M) (mc:=mc) (b:=strB) (aU hat).1) (rY (x:=x) (a:=a) (s:=s) (M:=M) (mc:=mc) hI hat (fun strD=>?_))))|(show aA _ 107 _ _ _;refine CA (h:=jF (m:=m) ?_)))
    all_goals(show aW _ _ _ _;exact pJ (m:=n - 1) (C':=pt r3 [.int .i64 s.sh.g.w,.int .i64 s.sh.g.st,.int .i64 s.sh.g.it] 23::bT _ _ 3 kH (s.l.map Sm.id)::b7 x a s M mc R) (by omega) (aG.trans (by exact bA) (aG.cons (A:=pt r3 [.int .i64 s.sh.g.w,.int .i64 s.sh.g.st,.int .i64 s.sh.g.it] 23) (aG.cons (A:=bT _ _ 3 kH (s.l.map Sm.id)) (dD (x:=x) (a:=a) (s:=s) (M:=M) (mc:=mc) (R:=R) (aU hat).1)))) ⟨j+1,by omega,⟨rfl,rfl,rfl,rfl,rfl,rfl,trivial⟩,rfl⟩)
  ·obtain rfl:j=s.l.length:=by omega
   rw[List.take_length]
   repeat' (first|refine XP ?_|refine Iu g8 gS gV ?_|refine wr ?_|refine w5 ?_ ?_|((refine bh fun h=>?_) <;> try exact w6 h)|(refine aE fun hA=>?_;subst hA)|intro _|(show aA _ 16 _ _ _;refine CA (h:=Kz (x:=x) (a:=a) (s:=s) (M:=M) (mc:=mc) hI ?_);unfold wF)|(show aA _ 108 _ _ _;refine CA (h:=Ae6 (x:=x) (a:=a) (s:=s) (M:=M) (mc:=mc) ?_))|(show aA _ 109 _ _ _;refine CA (h:=AQ (p:=a.rc) (cap:=s.rv.cap) (most:=s.rv.most) (gr:=s.rv.gr) (got:=s.rv.got) (us:=s.rv.us) (by omega) ?_))|(show aA _ 19 _ _ _;refine CA (h:=Sf (x:=x) (a:=a) (s:=s) (M:=M) (mc:=mc) ?_))|(show aA _ 94 _ _ _;refine CA (h:=Hl (q:=a.ou) (out:=s.out) ?_)))
   all_goals(refine aC ?_;exact aB (k1 _ (by first|rfl|(simp only[decide_eq_true_eq];omega)|assumption)))
end
end Go.Proofs.YtifgibijcmppmaaGreat
