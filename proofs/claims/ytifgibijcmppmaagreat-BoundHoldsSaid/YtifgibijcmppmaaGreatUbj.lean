/- A part of the proof: lemmas; each with the conditions that it states. -/
import Derived.Test.YtifgibijcmppmaaGreatUbi
set_option linter.unusedVariables false
set_option linter.unusedSimpArgs false
set_option maxRecDepth 100000
set_option maxHeartbeats 40000000
namespace Go.Proofs.YtifgibijcmppmaaGreat
open Go Go.Proofs Go.Sl
attribute [local irreducible] aN fN cX bP aM aX aA dS dV aT dU pt ro eV star sep bH
attribute [local irreducible] mp ED
section
variable {R C:List HP} {K:KP} {x mc i b p r:Nat} {a:Ca} {s:Cn} {M:Option Addr} {B id n st t:Int} {m:Sm} {l:List Sm} {c:Cf} {q:xR} {g:eJ}
theorem Lg (hK:K (.string s.last) (b5 x a { s with last:=⟨#[]⟩ } M mc R)):CT 93 #[PO x] (b5 x a s M mc R) K:=by
 dsimp only[b5,nW] at hK ⊢
 refine aH Tryz.func93 ?_
 repeat' (first|refine v14 ?_|refine w5 ?_ ?_|((refine bh fun h=>?_) <;> try exact w6 h)|(refine aE fun hA=>?_;subst hA)|intro _)
 all_goals(refine aC ?_;exact aB (hK))
theorem Zu (hI:bU B s) (hk:fV c s) (hB:B+300≤250000000):bU (B+300) (qD s).2∧fV c (qD s).2:=by
 cases h:As (s.pk,s.pc) (eL s) with
 |mk o q=>
  have hq:K4 q:=by
   have:=Ml (s:=(s.pk,s.pc)) (l:=eL s) hI.pk
   rw[h] at this;exact this
  cases o with
  |none=>
   rw[MK h]
   exact⟨Ajt (hI.mono (by omega) hB) hq,{ hk with }⟩
  |some id=>
   obtain⟨m,hm,hr⟩:=E5 hI hk h
   rw[Je h hm hr]
   exact⟨QA hI hk hm hq hB,Pd hI hk hm hq hB⟩
theorem T7:∀ {k:Nat} {s:Cn} {B:Int},bU B s→fV c s→B+300 * k≤250000000→bU (B+300 * k) (fI k s).2∧fV c (fI k s).2
 |0,s,B,hI,hk,hB=>⟨hI.mono (by omega) hB,hk⟩
 |k+1,s,B,hI,hk,hB=>by
  obtain⟨h1,h2⟩:=Zu hI hk (by omega)
  unfold fI
  cases h:qD s with
  |mk o z=>
   rw[h] at h1 h2
   cases o with
   |none=>exact⟨h1.mono (by omega) hB,h2⟩
   |some f=>
    obtain⟨h3,h4⟩:=T7 (k:=k) h1 h2 (by omega)
    exact⟨h3.mono (by omega) hB,h4⟩
theorem Ex (hI:bU B s) (hk:fV c s) (hB:B+1≤250000000):fV c (bI s):=by
 have h1:=MF hI hB
 unfold bI
 split
 ·exact gV h1 { hk with }
 ·split
  ·exact gV (s:= { s with bt:=gS s.bt s.now,sl:=nP s.sl s.now (s3 s) }) (GH (q:=s3 s) h1) { hk with }
  ·exact { hk with }
theorem Px {d:ByteArray} (h:bU B s):bU B { s with last:=d }:= { h with }
theorem He (h:bU B s):bU B { s with out:= [] }:= { h with ou:=LJ }
theorem IY (h:fV c s):fV c { s with out:= [] }:= { h with fo:=fun f hf=>by cases hf }
theorem Aba {d:Dr} {k:Int} (h:(zO d k).ov=true):d.ov=true∨k≤0:=by
 unfold zO at h
 split at h
 ·rename_i hq;exact .inr hq.2.2
 ·exact .inl h
theorem Ah5 (h:fV c s):fV c { s with dr:=zO s.dr s.l.length }:= { h with
 cl:=fun ho=>by
  rcases Aba ho with ho|ho
  ·exact h.cl ho
  ·exact(show s.l= [] from List.length_eq_zero_iff.1 (by omega)) }
theorem YK (hI:bU B s) (hk:fV c s) (hB:B+1301≤250000000):bU (B+1301) (eZ s).2∧fV c (eZ s).2:=by
 have hb:=bG hI
 have hkb:=cL hk
 unfold eZ
 split
 ·exact⟨Px (hb.mono (by omega) hB),{ hkb with ls:=Nat.zero_le 300 }⟩
 ·have h1:=IT hb (by omega)
  have h2:=Ex hb hkb (by omega)
  split
  ·exact⟨Px (h1.mono (by omega) hB),{ h2 with ls:=Nat.zero_le 300 }⟩
  ·have h3:=Sr (He h1)
   have h4:=Tg (IY h2)
   obtain⟨h5,h6⟩:=T7 (k:=4) h3 h4 (by omega)
   exact⟨FD (h5.mono (by omega) hB),Ah5 h6⟩
end
section
variable {R C:List HP} {K:KP} {x mc i b p r:Nat} {a:Ca} {s:Cn} {M:Option Addr} {B id n st t:Int} {m:Sm} {l:List Sm} {c:Cf} {q:xR} {g:eJ} {d:ByteArray} {e:Bool}
theorem Se (ht:t=0∨t=1) (hs:1≤st∧st≤2147483647) (hd:d.size≤256):cZ (wA t st d e):=by
 have h3:HR 0=true:=by decide
 have h4:Rq []=true:=Aci rfl
 unfold cZ sJ wA
 simp[h3,h4,IW]
 omega
theorem RP (hd:d.size=8):cZ (wA 7 0 d false):=by
 have h3:HR 0=true:=by decide
 have h4:Rq []=true:=Aci rfl
 unfold cZ sJ wA
 simp[h3,h4,IW,hd]
theorem NU (ht:t=10∨t=11) (hs:0≤st∧st≤2147483647) (h0:t=11→1≤st) (hn:1≤n∧n≤2147483647):cZ (DJ t st n):=by
 have h2:=(vW n).2 ⟨by omega,hn.2⟩
 have h3:HR 0=true:=by decide
 have h4:Rq []=true:=Aci rfl
 have h5:(⟨#[]⟩:ByteArray)=ByteArray.empty:=rfl
 unfold cZ sJ DJ
 simp[h2,h3,h4,h5,IW]
 omega
theorem Oi:(vY n).size=8:=by
 have h1:=Int.emod_nonneg n (by decide:(2147483648:Int)≠0)
 have h2:=Int.emod_lt_of_pos n (by decide:(0:Int)<2147483648)
 unfold vY
 generalize n % 2147483648=k at h1 h2 ⊢
 have hm:iR k 4=0:=by
  unfold iR
  rw[if_neg (by decide),if_neg]
  rintro⟨_,h|h⟩
  ·omega
  ·have:((2:Int) ^ (8 * (4:Int)).toNat)=4294967296:=by decide
   rw[this] at h;omega
 have h0:iR 0 4=0:=by decide
 have hf:eK [⟨0,4,⟨#[]⟩⟩,⟨k,4,⟨#[]⟩⟩]=0:=by simp[eK,h0,hm]
 have hs:Jy [⟨0,4,⟨#[]⟩⟩,⟨k,4,⟨#[]⟩⟩] 0=8:=rfl
 have he:wP [⟨0,4,⟨#[]⟩⟩,⟨k,4,⟨#[]⟩⟩]=0:=by unfold wP;rw[if_pos hf,hs];rfl
 have:=(Iq he).2.1
 omega
theorem xY:∀f∈fJ s,cZ f∧f.ps= []∧f.pn=0:=fun f hf=>by
 unfold fJ at hf
 split at hf
 ·cases hf
 ·rename_i hq
  rw[List.mem_singleton.1 hf]
  have h1:Q9 s.bt s.now=1:=by
   by_cases h:Q9 s.bt s.now=1
   ·exact h
   ·exact absurd (.inr (.inr h)) hq
  refine⟨RP ?_,rfl,rfl⟩
  unfold btD
  rw[if_pos h1];exact Oi
theorem KX (ht:t=10∨t=11) (hs:0≤st∧st≤2147483647) (h0:t=11→1≤st) (hn:n≤2147483647):∀f∈K1 t st n,cZ f∧f.ps= []∧f.pn=0:=fun f hf=>by
 unfold K1 at hf
 split at hf
 ·rw[List.mem_singleton.1 hf]
  exact⟨NU ht hs h0 (by omega),rfl,rfl⟩
 ·cases hf
theorem Ae0 {y:Ys} (h:TY y):HS y≤2147483647:=by
 cases y with
 |b y=>
  obtain⟨h1,h2,h3,h4,h5,h6,h7,h8,h9⟩:=h
  show tQ y.cap y.gr y.us≤2147483647
  unfold tQ
  split <;> omega
 |i y=>
  obtain⟨h1,h2,h3,h4,h5,h6,h7,h8,h9,h10,h11⟩:=h
  show yI y.room y.op y.ask y.l≤2147483647
  unfold yI
  omega
theorem Pv (hI:bU B s) (hF:∀m∈s.l,NL m):∀f∈uI s,cZ f∧f.ps= []∧f.pn=0:=fun f hf=>by
 unfold uI at hf
 rcases List.mem_append.1 hf with hf|hf
 ·have hr:=hI.rv
  unfold Jn at hr
  refine KX (.inl rfl) (by omega) (fun h=>by cases h) ?_ f hf
  unfold vX tQ
  split <;> omega
 ·obtain⟨m,hm,hf⟩:=List.mem_flatMap.1 hf
  have hid:=(hI.st m hm).id
  have hd:=Ae0 (hF m hm).2.1
  unfold rO at hf
  split at hf
  ·refine KX ?_ (by omega) (fun _=>hid.1) (by omega) f hf
   split
   ·exact .inr rfl
   ·exact .inl rfl
  ·cases hf
theorem TW (hI:bU B s) (hk:fV c s) {f:Fm} (h:(qD s).1=some f):cZ f∧f.ps= []∧f.pn=0:=by
 cases hp:As (s.pk,s.pc) (eL s) with
 |mk o q=>
  cases o with
  |none=>rw[MK hp] at h;cases h
  |some id=>
   obtain⟨m,hm,hr⟩:=E5 hI hk hp
   rw[Je hp hm hr] at h
   obtain⟨hi,hmid⟩:=bA hm
   have hmm:=List.mem_of_getElem? hi
   have hid:=(hI.st m hmm).id
   rw[← Option.some.inj h]
   refine⟨Se ?_ (by rw[← hmid];exact hid) (LY (hk.mo m hmm).sz),rfl,rfl⟩
   cases m.x
   ·exact .inl rfl
   ·exact .inr rfl
theorem Ak:∀ {k:Nat} {s:Cn} {B:Int},bU B s→fV c s→B+300 * k≤250000000→∀f∈(fI k s).1,cZ f∧f.ps= []∧f.pn=0
 |0,s,B,hI,hk,hB,f,hf=>by cases hf
 |k+1,s,B,hI,hk,hB,f,hf=>by
  obtain⟨h1,h2⟩:=Zu hI hk (by omega)
  unfold fI at hf
  cases h:qD s with
  |mk o z=>
   rw[h] at h1 h2 hf
   cases o with
   |none=>cases hf
   |some y=>
    rcases List.mem_cons.1 hf with rfl|hf
    ·exact TW hI hk (by rw[h])
    ·exact Ak h1 h2 (by omega) f hf
theorem Xk {l:List Fm}:sG (l.map jL)=sG l:=by
 unfold sG
 rw[List.flatMap_map];rfl
theorem wM {l l':List Fm}:sG (l++l')=sG l++sG l':=by
 unfold sG
 rw[List.flatMap_append]
theorem Rk {y:Fm}:cZ (jL y)↔cZ y:=Iff.rfl
def vD (s:Cn):List Fm:=fJ (aD s)++(bI (aD s)).out++uI { bI (aD s) with out:= [] }++(fI 4 (BU { bI (aD s) with out:= [] })).1
end
section
variable {R C:List HP} {K:KP} {x mc i b p r:Nat} {a:Ca} {s:Cn} {M:Option Addr} {B id n st t:Int} {m:Sm} {l:List Sm} {c:Cf} {q:xR} {g:eJ} {d:ByteArray} {e:Bool}
def Y3 (y:Fm):Fm:=⟨y.t,y.st,y.e,y.d,y.k,y.on,y.w,y.x,y.c,y.la,y.n,y.pa,y.pn,y.pc,[]⟩
theorem Ab1 {A:Option Addr} {k:Nat} {L ys:List Fm} {y:Fm}:aG (bQ A k 45 uR (L++ys++ [Y3 y])::yA y::kR yA ys::R) (bQ A k 45 uR (L++(ys++ [y]))::kR yA (ys++ [y])::R):=
 aG.imp (Pn (by simp only[List.flatMap_append,List.append_assoc];rfl) (by simp)) (aG.allsnoc (P:=yA) (x:=y) zZ AT)
theorem Kq (h:(bI s).dr.ov=false):(bI s).out=s.out:=by
 unfold bI at h ⊢
 split
 ·rename_i hq
  rw[if_pos hq,Et (by decide)] at h;cases h
 ·rename_i hq
  rw[if_neg hq] at h
  split
  ·rename_i hf
   rw[if_pos hf,Et (by decide)] at h;cases h
  ·rfl
theorem Adk (h:(bI s).dr.ov=false):(bI s).l=s.l:=by
 unfold bI at h ⊢
 split
 ·rename_i hq
  rw[if_pos hq,Et (by decide)] at h;cases h
 ·rename_i hq
  rw[if_neg hq] at h
  split
  ·rename_i hf
   rw[if_pos hf,Et (by decide)] at h;cases h
  ·rfl
theorem Ait {y:Fm} (h:y.ps= []) (hn:y.pn=0):FmV C y:=⟨by rw[h];exact eI,by rw[h,hn];rfl⟩
theorem Vb (h1:s.dr.ov=false) (h2:(bI (aD s)).dr.ov=false) (hr:∀f∈vD s,cZ f):eZ s=(sG (vD s),{ (fI 4 (BU { bI (aD s) with out:= [] })).2 with dr:=zO (fI 4 (BU { bI (aD s) with out:= [] })).2.dr (fI 4 (BU { bI (aD s) with out:= [] })).2.l.length }):=by
 have ha:(vD s).all mK=true:=List.all_eq_true.2 fun f hf=>(uO f).2 (hr f hf)
 unfold eZ
 rw[if_neg (by rw[h1];decide),if_neg (by rw[h2];decide)]
 show(Ti (vD s),_)=_
 unfold Ti
 rw[if_pos ha]
theorem Dv {k:Nat} {z:Cn}:fI (k+1) z=match qD z with
  |(none,s)=>([],s)
  |(some f,s)=>(f::(fI k s).1,(fI k s).2):=rfl
theorem Ki:∀ {k:Nat} {s:Cn},(fI k s).1.length≤k
 |0,_=>Nat.le_refl _
 |k+1,s=>by
  rw[Dv]
  split
  ·simp
  ·rename_i f z _
   have:=Ki (k:=k) (s:=z)
   simp only[List.length_cons];omega
theorem XC {q:Nat} {out:List Fm} (h:out= []) (hK:K (I6 0) (Q4 q out::R)):CT 94 #[PO q] (Q4 q out::R) K:=by
 subst h;exact Ih hK
theorem Li:(fJ s).length≤1:=by unfold fJ;split <;> simp
def eG:List (Nat×Nat):= [(4,0),(5,0),(6,0),(7,0),(8,1),(0,1),(1,1),(2,1),(3,1),(9,1)]
theorem V0 (hI:bU B s) (hk:fV c s) (hF:∀m∈s.l,NL m) (hB:B+1301≤250000000) (hK:∀M mc,K (.string ⟨(eZ s).1.toArray⟩) (b5 x a (eZ s).2 M mc R)):CT 21 #[PO x] (b5 x a s M mc R) K:=by
 have hbb:=hI.bb
 have hIb:=bG hI
 have hkb:=cL hk
 cases ho:s.dr.ov
 ·have hI1:=IT hIb (by omega)
  have hk1:=Ex hIb hkb (by omega)
  cases ho1:(bI (aD s)).dr.ov
  ·have hou:=Kq ho1
   have hti:=Adk ho1
   have hI2:=He hI1
   have hk2:=IY hk1
   have hI3:=Sr hI2
   have hk3:=Tg hk2
   have hF2:∀m∈({ bI (aD s) with out:= [] }:Cn).l,NL m:=fun m hm=>hF m (by have hm:m∈(bI (aD s)).l:=hm;rw[hti] at hm;exact hm)
   have hgr:=Pv hI2 hF2
   have hbr:=Ak (k:=4) hI3 hk3 (by omega)
   have hfo:=hk1.fo
   have hr:∀f∈vD s,cZ f:=fun f hf=>by
    unfold vD at hf
    rcases List.mem_append.1 hf with hf|hf
    ·rcases List.mem_append.1 hf with hf|hf
     ·rcases List.mem_append.1 hf with hf|hf
      ·exact(xY f hf).1
      ·exact(uO f).1 (hfo f hf).1
     ·exact(hgr f hf).1
    ·exact(hbr f hf).1
   rw[Vb ho ho1 hr] at hK
   have hl0:=Li (s:=aD s)
   have hgl:(uI { bI (aD s) with out:= [] }).length≤65:=by
    have h1:=flat_len (l:=(bI (aD s)).l)
    have h2:=hI1.sm.1
    have h3:=GE (t:=10) (st:=0) (n:=vX (bI (aD s)).rv)
    show(K1 10 0 (vX (bI (aD s)).rv)++(bI (aD s)).l.flatMap rO).length≤65
    rw[List.length_append];omega
   have hst:vD s=fJ (aD s)++(bI (aD s)).out++uI { bI (aD s) with out:= [] }++(fI 4 (BU { bI (aD s) with out:= [] })).1:=rfl
   generalize hz2:({ bI (aD s) with out:= [] }:Cn)=z2 at hI2 hk2 hI3 hk3 hgr hbr hgl hK hst
   dsimp only at hK
   have hol:=hI1.ou.1
   refine aH Tryz.func21 ?_
   repeat' (first|refine Q7 ?_|refine dw eG ?_|refine w5 ?_ ?_|((refine bh fun h=>?_) <;> try exact w6 h)|(refine aE fun hA=>?_;subst hA)|intro _|(show aA _ 75 _ _ _;refine CA (h:=b9 (x:=x) (a:=a) (s:=s) (M:=M) (mc:=mc) ?_);rw[ho,if_neg Bool.false_ne_true])|(show aA _ 92 _ _ _;refine CA (h:=Ga (x:=x) (a:=a) (s:=aD s) (M:=none) (mc:=0) hIb (by omega) (fun A0 c0 M1 mc1=>?_)))|(show aA _ 78 _ _ _;first|(refine CA (h:=j8 (x:=x) (a:=a) (s:=aD s) (M:=none) (mc:=0) ?_);rw[show(aD s).dr.ov=false from ho])|(refine CA (h:=j8 (x:=x) (a:=a) (s:=bI (aD s)) (M:=M1) (mc:=mc1) ?_);rw[ho1])))
   refine l7 (aG.allnil (P:=yA) (aG.refl _)) ?_
   refine fZ (fun n a' C'=>∃(ys rest L:List Fm) (A:Option Addr) (k:Nat),rest.length=n∧L=fJ (aD s)++ys∧ys.map jL++rest=(bI (aD s)).out∧cJ a' [(0,PO x),(3,.slice A L.length k)]∧C'=bQ A k 45 uR L::kR yA ys::b5 x a { bI (aD s) with out:=rest } M1 mc1 R) (bI (aD s)).out.length (bV (bI (aD s)).out.length ⟨[],(bI (aD s)).out,fJ (aD s),A0,c0,rfl,(List.append_nil _).symm,rfl,⟨rfl,rfl,trivial⟩,rfl⟩ (by omega)) ?_
   rintro n a' C' ⟨ys,rest,L,A,k,hn,rfl,hys,ha,rfl⟩
   refine fP _ ha ?_
   simp only[eP]
   have hyl:ys.length+rest.length=(bI (aD s)).out.length:=by rw[← hys];simp
   cases rest with
   |cons f rest=>
    have hou2:N8 (f::rest):=⟨by omega,fun y hy=>hI1.ou.2 y (by rw[← hys];exact List.mem_append_right _ hy)⟩
    rw[List.length_cons] at hn hyl
    have hl3:∀y:Fm,(fJ (aD s)++ys++ [Y3 y]).length=(fJ (aD s)++(ys++ [y])).length:=fun y=>by simp
    have hLy:(fJ (aD s)++ys).length≤1000:=by rw[List.length_append];omega
    dsimp only[b5,nW]
    repeat' (first|(show aN _ _ _ _ _ _ _;(refine lZ (E:=uR) (xs:=fJ (aD s)++ys) (ys:= [Y3 y0]) ?_;intro A2 k2))|refine Q7 ?_|refine dw eG ?_|refine w5 ?_ ?_|((refine bh fun h=>?_) <;> try exact w6 h)|(refine aE fun hA=>?_;subst hA)|intro _|(show aA _ 94 _ _ _;refine CA (h:=Ih (out:=f::rest) ?_))|(show aA _ 95 _ _ _;refine CA (h:=Xo hou2 (fun y0 hy0=>?_))))
    all_goals(show aT _ _ _ _;exact pE (m:=n - 1) (C':=bQ A2 k2 45 uR (fJ (aD s)++(ys++ [y0]))::kR yA (ys++ [y0])::b5 x a { bI (aD s) with out:=rest } M1 mc1 R) (by omega) (aG.trans (by exact aZ) Ab1) ⟨ys++ [y0],rest,fJ (aD s)++(ys++ [y0]),A2,k2,by omega,rfl,by rw[List.map_append,List.append_assoc,← hys,← hy0];rfl,⟨rfl,congrArg (fun q=>Value.slice A2 q k2) (hl3 y0),trivial⟩,rfl⟩)
   |nil=>
    rw[List.append_nil] at hys
    rw[hz2]
    simp only[List.length_nil] at hyl
    have hLy:(fJ (aD s)++ys).length≤1000:=by rw[List.length_append];omega
    have hz2o:z2.out= []:=by rw[← hz2]
    dsimp only[b5,nW]
    repeat' (first|(show aN _ _ _ _ _ _ _;(refine lZ (E:=uR) (xs:=fJ (aD s)++ys) (ys:=uI z2) ?_;intro A4 k4))|refine Q7 ?_|refine dw eG ?_|refine w5 ?_ ?_|((refine bh fun h=>?_) <;> try exact w6 h)|(refine aE fun hA=>?_;subst hA)|intro _|(show aA _ 94 _ _ _;refine CA (h:=XC (out:=z2.out) hz2o ?_))|(show aA _ 96 _ _ _;refine CA (h:=P3 (x:=x) (a:=a) (s:=z2) (M:=M1) (mc:=mc1) hI2 (fun A3 k3=>?_))))
    refine fZ (fun n a' C'=>∃(j:Nat) (zs L:List Fm) (z:Cn) (A:Option Addr) (k:Nat) (M2:Option Addr) (mc2:Nat),j+n=4∧L=fJ (aD s)++ys++uI z2++zs∧zs.length≤j∧bU (B+1+300 * j) z∧fV c z∧fI 4 (BU z2)=(zs++(fI n z).1,(fI n z).2)∧cJ a' [(0,PO x),(3,.slice A L.length k),(44,I6 j)]∧C'=bQ A k 45 uR L::kR yA ys::b5 x a z M2 mc2 R) 4 (bV 4 ⟨0,[],fJ (aD s)++ys++uI z2,BU z2,A4,k4,M1,mc1,rfl,(List.append_nil _).symm,Nat.le_refl _,hI3.mono (by omega) (by omega),hk3,rfl,⟨rfl,rfl,rfl,trivial⟩,rfl⟩ (by omega)) ?_
    rintro n2 a2 C2 ⟨j,zs,L,z,A,k,M2,mc2,hj,hL,hzl,hIz,hkz,hb,ha2,rfl⟩
    refine fP _ ha2 ?_
    simp only[eP]
    have hyp:∀y∈ys,y.ps.length=y.pn:=fun y hy=>(hfo (jL y) (by rw[← hys];exact List.mem_map_of_mem hy)).2.1
    have hLl:L.length≤1000000:=by rw[hL];simp only[List.length_append];omega
    have hfin:∀ {z':Cn},fI 4 (BU z2)=(zs,z')→sG (vD s)=sG L∧(∀y∈L,cZ y)∧∀y∈L,(y.ps= []∧y.pn=0)∨y∈ys:=fun {z'} hz=>by
     have h1:vD s=fJ (aD s)++ys.map jL++uI z2++zs:=by rw[hst,hz,← hys]
     have h2:sG (vD s)=sG L:=by rw[h1,hL,wM,wM,wM,wM,wM,wM,Xk]
     refine⟨h2,fun y hy=>?_,fun y hy=>?_⟩
     ·rw[hL] at hy
      rcases List.mem_append.1 hy with hy|hy
      ·rcases List.mem_append.1 hy with hy|hy
       ·rcases List.mem_append.1 hy with hy|hy
        ·exact(xY y hy).1
        ·exact Rk.1 ((uO _).1 (hfo (jL y) (by rw[← hys];exact List.mem_map_of_mem hy)).1)
       ·exact(hgr y hy).1
      ·exact(hbr y (by rw[hz];exact hy)).1
     ·rw[hL] at hy
      rcases List.mem_append.1 hy with hy|hy
      ·rcases List.mem_append.1 hy with hy|hy
       ·rcases List.mem_append.1 hy with hy|hy
        ·exact .inl (xY y hy).2
        ·exact .inr hy
       ·exact .inl (hgr y hy).2
      ·exact .inl (hbr y (by rw[hz];exact hy)).2
    by_cases hlt:j<4
    ·obtain⟨n3,rfl⟩:∃n3,n2=n3+1:=⟨n2 - 1,by omega⟩
     cases hp:As (z.pk,z.pc) (eL z) with
     |mk o q=>
      cases o with
      |none=>
       rw[Dv (k:=n3) (z:=z),MK hp] at hb
       dsimp only at hb
       rw[List.append_nil] at hb
       obtain⟨hE,hLr,hLp⟩:=hfin hb
       rw[hE,hb] at hK
       dsimp only at hK
       repeat' (first|refine Q7 ?_|refine dw eG ?_|refine w5 ?_ ?_|((refine bh fun h=>?_) <;> try exact w6 h)|(refine aE fun hA=>?_;subst hA)|intro _|(show aA _ 97 _ _ _;refine CA (h:=Tb (x:=x) (a:=a) (s:=z) (M:=M2) (mc:=mc2) hIz hkz hp ?_))|(show aA _ 83 _ _ _;refine CA (h:=BJ (l:=(YY q z).l) ?_))|(show aA _ 98 _ _ _;refine CA (h:=Pt (d:=(YY q z).dr) ?_))|(show aA _ 99 _ _ _;refine CA (h:=QX (xs:=L) hLr (by exact kF) (fun y hy=>(hLp y hy).elim (fun qq=>Ait qq.1 qq.2) (fun qq=>⟨by((repeat (first|exact w8 qq|apply bM)) <;> exact w8 qq),hyp y qq⟩)) rfl hLl ?_)))
       all_goals(refine aC ?_;exact aB (hK _ _))
      |some id=>
       obtain⟨m,hm,hr2⟩:=E5 hIz hkz hp
       have hIz2:=QA hIz hkz hm (by have:=Ml (s:=(z.pk,z.pc)) (l:=eL z) hIz.pk;rw[hp] at this;exact this) (by omega)
       have hkz2:=Pd hIz hkz hm (by have:=Ml (s:=(z.pk,z.pc)) (l:=eL z) hIz.pk;rw[hp] at this;exact this) (by omega)
       rw[Dv (k:=n3) (z:=z),Je hp hm hr2] at hb
       dsimp only at hb
       repeat' (first|(show aN _ _ _ _ _ _ _;(refine lZ (E:=uR) (xs:=L) (ys:= [U9 id m z]) ?_;intro A5 k5))|refine Q7 ?_|refine dw eG ?_|refine w5 ?_ ?_|((refine bh fun h=>?_) <;> try exact w6 h)|(refine aE fun hA=>?_;subst hA)|intro _|(show aA _ 97 _ _ _;refine CA (h:=Rz (x:=x) (a:=a) (s:=z) (M:=M2) (mc:=mc2) hIz hkz (by omega) hp hm hr2 (fun M3 mc3=>?_))))
       all_goals(show aT _ _ _ _;exact bV n3 ⟨j+1,zs++ [U9 id m z],L++ [U9 id m z],Ao id m q z,A5,k5,M3,mc3,by omega,by rw[hL,List.append_assoc],by rw[List.length_append,List.length_singleton];omega,hIz2.mono (by omega) (by omega),hkz2,by rw[hb,List.append_assoc];rfl,⟨rfl,rfl,rfl,trivial⟩,rfl⟩)
    ·obtain rfl:n2=0:=by omega
     obtain rfl:j=4:=by omega
     have hb2:fI 4 (BU z2)=(zs,z):=by rw[hb];show(zs++ [],z)=_;rw[List.append_nil]
     obtain⟨hE,hLr,hLp⟩:=hfin hb2
     rw[hE,hb2] at hK
     dsimp only at hK
     dsimp only[b5,nW]
     repeat' (first|refine Q7 ?_|refine dw eG ?_|refine w5 ?_ ?_|((refine bh fun h=>?_) <;> try exact w6 h)|(refine aE fun hA=>?_;subst hA)|intro _|(show aA _ 83 _ _ _;refine CA (h:=BJ (l:=(z).l) ?_))|(show aA _ 98 _ _ _;refine CA (h:=Pt (d:=(z).dr) ?_))|(show aA _ 99 _ _ _;refine CA (h:=QX (xs:=L) hLr (by exact kF) (fun y hy=>(hLp y hy).elim (fun qq=>Ait qq.1 qq.2) (fun qq=>⟨by((repeat (first|exact w8 qq|apply bM)) <;> exact w8 qq),hyp y qq⟩)) rfl hLl ?_)))
     all_goals(refine aC ?_;exact aB (hK _ _))
  ·have e:eZ s=((bI (aD s)).last.data.toList,{ bI (aD s) with last:=⟨#[]⟩ }):=by unfold eZ;rw[if_neg (by rw[ho];decide),if_pos ho1]
   rw[e] at hK
   have el:(⟨((bI (aD s)).last.data.toList).toArray⟩:ByteArray)=(bI (aD s)).last:=by simp
   dsimp only at hK
   rw[el] at hK
   refine aH Tryz.func21 ?_
   repeat' (first|refine Q7 ?_|refine dw eG ?_|refine w5 ?_ ?_|((refine bh fun h=>?_) <;> try exact w6 h)|(refine aE fun hA=>?_;subst hA)|intro _|(show aA _ 75 _ _ _;refine CA (h:=b9 (x:=x) (a:=a) (s:=s) (M:=M) (mc:=mc) ?_);rw[ho,if_neg Bool.false_ne_true])|(show aA _ 92 _ _ _;refine CA (h:=Ga (x:=x) (a:=a) (s:=aD s) (M:=none) (mc:=0) hIb (by omega) (fun _ _ _ _=>?_)))|(show aA _ 78 _ _ _;first|(refine CA (h:=j8 (x:=x) (a:=a) (s:=aD s) (M:=none) (mc:=0) ?_);rw[show(aD s).dr.ov=false from ho])|(refine CA (h:=j8 (x:=x) (a:=a) (s:=bI (aD s)) ?_);rw[ho1]))|(show aA _ 93 _ _ _;refine CA (h:=Lg (x:=x) (a:=a) (s:=bI (aD s)) ?_)))
   all_goals(refine aC ?_;exact aB (hK _ _))
 ·have e:eZ s=(s.last.data.toList,{ aD s with last:=⟨#[]⟩ }):=by unfold eZ;rw[if_pos ho]
  rw[e] at hK
  have el:(⟨(s.last.data.toList).toArray⟩:ByteArray)=s.last:=by simp
  dsimp only at hK
  rw[el] at hK
  refine aH Tryz.func21 ?_
  repeat' (first|refine Q7 ?_|refine dw eG ?_|refine w5 ?_ ?_|((refine bh fun h=>?_) <;> try exact w6 h)|(refine aE fun hA=>?_;subst hA)|intro _|(show aA _ 75 _ _ _;refine CA (h:=b9 (x:=x) (a:=a) (s:=s) (M:=M) (mc:=mc) ?_);rw[ho,if_pos rfl])|(show aA _ 78 _ _ _;refine CA (h:=j8 (x:=x) (a:=a) (s:=aD s) (M:=none) (mc:=0) ?_);rw[show(aD s).dr.ov=true from ho])|(show aA _ 93 _ _ _;refine CA (h:=Lg (x:=x) (a:=a) (s:=aD s) ?_)))
  all_goals(refine aC ?_;exact aB (hK _ _))
end
section
variable {R C:List HP} {K:KP} {x mc i b p r:Nat} {a:Ca} {s:Cn} {M:Option Addr} {B n sd:Int} {cf:Cf} {c:Cf}
theorem Rh (h:sd=0∨sd=1) (hK:∀p,K (.tuple #[PO p,I6 0]) (pt p [I6 sd,I6 (sd+1),I6 0] 218::R)):CT 51 #[I6 sd] R K:=by
 rcases h with rfl|rfl
 all_goals
  refine aH Tryz.func51 ?_
  repeat' (first|refine v42 ?_|refine w5 ?_ ?_|((refine bh fun h=>?_) <;> try exact w6 h)|(refine aE fun hA=>?_;subst hA)|intro _)
  all_goals(refine aC ?_;exact aB (hK _))
theorem Nh (h:0≤n∧n≤1048576) (hK:∀p,K (.tuple #[PO p,I6 0]) (slP p ⟨n,0,0,false,false⟩::R)):CT 54 #[I6 n] R K:=by
 unfold slP at hK
 refine aH Tryz.func54 ?_
 repeat' (first|refine v6 ?_|refine w5 ?_ ?_|((refine bh fun h=>?_) <;> try exact w6 h)|(refine aE fun hA=>?_;subst hA)|intro _)
 all_goals(refine aC ?_;exact aB (hK _))
theorem Me (hK:∀p,K (PO p) (Da p ⟨false,false,false,0,0,0⟩::R)):CT 48 #[] R K:=by
 unfold Da at hK
 refine aH Tryz.func48 ?_
 repeat' (first|refine v6 ?_|refine w5 ?_ ?_|((refine bh fun h=>?_) <;> try exact w6 h)|(refine aE fun hA=>?_;subst hA)|intro _)
 all_goals(refine aC ?_;exact aB (hK _))
theorem Mf (hK:∀p,K (.tuple #[PO p,I6 0]) (Iz p []::R)):CT 55 #[I6 64] R K:=
 aA.entK (Aaf (by decide) fun p=>⟨_,aG.trans (aG.trans (aG.cons (aG.nilrow _ _ _)) (aG.cons (aG.cons (Lj (f:=Q8))))) (yJ (q:= []) ⟨rfl,fun e he=>by cases he⟩ rfl rfl),hK p⟩)
theorem Pb (hK:∀p q,K (.tuple #[PO p,I6 0]) (pt p [I6 64,.map (some q)] 229::mp q (kM qR []) 0::R)):CT 56 #[I6 64] R K:=by
 refine aH Tryz.func56 ?_
 repeat' (first|refine v6 ?_|refine w5 ?_ ?_|((refine bh fun h=>?_) <;> try exact w6 h)|(refine aE fun hA=>?_;subst hA)|intro _|(show aN _ _ _ _ _ _ _;refine Fp ?_;intro _))
 all_goals(refine aC ?_;exact aB (hK _ _))
def rV:eJ:=⟨64,8,4⟩
theorem ME (hK:∀p,K (PO p) (NR p ⟨rV,rV,[]⟩::R)):CT 46 #[] R K:=by
 refine aH Tryz.func46 ?_
 repeat' (first|refine v21 ?_|refine w5 ?_ ?_|((refine bh fun h=>?_) <;> try exact w6 h)|(refine aE fun hA=>?_;subst hA)|intro _|(show aA _ 47 _ _ _;refine CA (h:=Hn ?_)))
 all_goals(refine aC ?_;exact aK (aG.trans (by exact aZ) ((aG.ex (g:=fun A=>eV fun c=>sep (pt _ [I6 64,I6 8,I6 4,I6 64,I6 8,I6 4,.slice A 0 c] 207) (bQ A c 23 FV [])) none (aG.ex 0 (aG.sep (aG.cons (aG.nilrow _ _ _))))))) (hK _))
def kI (sd:Int) (cf:Cf):Cn:= { cf:=cf,sd:=sd,nx:=sd+1,la:=0,l:= [],tr:=([],0),pk:= [],pc:=0,ld:=⟨512,0,[]⟩,rv:=⟨512,512,512,0,0⟩,sh:=⟨rV,M7 rV ⟨cf.w,cf.st,cf.it⟩,[⟨cf.w,cf.st,cf.it⟩]⟩,pe:=rV,bt:=⟨cf.ev,cf.wa,0,0,false,false,0,0⟩,sl:=⟨cf.sl,0,0,false,false⟩,dr:=⟨false,false,false,0,0,0⟩,out:=zF (J6 (NE rV ⟨cf.w,cf.st,cf.it⟩)) [],inb:= [],ine:=0,now:=0,last:=⟨#[]⟩,mv:= [] }
structure Fu (cf:Cf):Prop where
 s:rY cf.w cf.st cf.it=true
 sb:0≤cf.sb∧cf.sb≤4096
 si:0≤cf.si∧cf.si≤64
 sg:0≤cf.sg∧cf.sg≤2
 ev:0≤cf.ev∧cf.ev≤1048576
 wa:0≤cf.wa∧cf.wa≤1048576
 sl:0≤cf.sl∧cf.sl≤1048576
def Gi:List (Nat×Nat):= [(1,1),(2,1),(3,1),(4,1),(5,1),(6,1),(0,6),(7,0),(8,1),(9,0)]
def EU:List (Nat×Nat):= [(0,0),(1,0),(2,0),(3,0),(4,0),(5,0),(6,1),(7,0),(8,0),(9,0),(10,0),(11,0)]
theorem Abp (hs:sd=0∨sd=1) (h:Fu cf) (hK:∀x a,K (.tuple #[PO x,I6 0]) (b5 x a (kI sd cf) none 0 R)):CT 9 #[I6 sd,.agg #[I6 cf.w,I6 cf.st,I6 cf.it,I6 cf.sb,I6 cf.si,I6 cf.sg,I6 cf.ev,I6 cf.wa,I6 cf.sl]] R K:=by
 obtain⟨h1,h2,h3,h4,h5,h6,h7⟩:=h
 have hK:∀x r1 r2 r3 r4 r5 r6 r7 r8 r9 r10 r11 r12 r13 r14,K (.tuple #[PO x,I6 0]) (b5 x ⟨r1,r2,r3,r4,r5,r6,r7,r8,r9,r10,r11,r12,r13,r14⟩ (kI sd cf) none 0 R):=fun x r1 r2 r3 r4 r5 r6 r7 r8 r9 r10 r11 r12 r13 r14=>hK x ⟨r1,r2,r3,r4,r5,r6,r7,r8,r9,r10,r11,r12,r13,r14⟩
 dsimp only[b5,nW,kI] at hK
 have hlen:=Vl (u:=rV) (v:=⟨cf.w,cf.st,cf.it⟩)
 have hse:iJ ⟨rV,rV,[]⟩ ⟨cf.w,cf.st,cf.it⟩=0:=by unfold iJ;rw[if_neg (by rw[h1];decide)];rfl
 have hss:eF ⟨rV,rV,[]⟩ ⟨cf.w,cf.st,cf.it⟩=⟨rV,M7 rV ⟨cf.w,cf.st,cf.it⟩,[⟨cf.w,cf.st,cf.it⟩]⟩:=by unfold eF;rw[if_pos hse];rfl
 refine aH Tryz.func9 ?_
 repeat' (first|refine zQ ?_|refine dw Gi ?_|refine dw EU ?_|refine w5 ?_ ?_|((refine bh fun h=>?_) <;> try exact w6 h)|(refine aE fun hA=>?_;subst hA)|intro _|(show aA _ 45 _ _ _;refine CA (h:=Abn (fun _ _=>?_)))|(show aA _ 46 _ _ _;refine CA (h:=ME (fun _=>?_)))|(show aA _ 47 _ _ _;refine CA (h:=Hn ?_))|(show aA _ 48 _ _ _;refine CA (h:=Me (fun _=>?_)))|(show aA _ 49 _ _ _;refine CA (h:=Aa1 (fun _=>?_)))|(show aA _ 50 _ _ _;refine CA (h:=Ae9 (fun _=>?_)))|(show aA _ 51 _ _ _;refine CA (h:=Rh hs (fun _=>?_)))|(show aA _ 52 _ _ _;refine CA (h:=Agt h3 h4 h1 h2 ?_))|(show aA _ 53 _ _ _;refine CA (h:=Aan h5 h6 (fun _=>?_)))|(show aA _ 54 _ _ _;refine CA (h:=Nh h7 (fun _=>?_)))|(show aA _ 55 _ _ _;refine CA (h:=Mf (fun _=>?_)))|(show aA _ 56 _ _ _;refine CA (h:=Pb (fun _ _=>?_)))|(show aA _ 57 _ _ _;refine CA (h:=Aby (by decide) (fun _=>?_)))|(show aA _ 58 _ _ _;refine CA (h:=Ph (by decide) (fun _=>?_)))|(show aA _ 59 _ _ _;refine CA (h:=Fy (s:=⟨rV,rV,[]⟩) (t:=⟨cf.w,cf.st,cf.it⟩) (by decide) (fun Aq cq=>?_));rw[hse,hss];simp only[if_true])|(show aA _ 60 _ _ _;refine CA (h:=jZ (out:= []) (f:=⟨5,0,false,⟨#[]⟩,0,0,0,false,0,0,0,Aq,(NE rV ⟨cf.w,cf.st,cf.it⟩).length,cq,NE rV ⟨cf.w,cf.st,cf.it⟩⟩) LJ (by exact kF) rfl (by show(NE rV ⟨cf.w,cf.st,cf.it⟩).length<1000000000000000;omega) ?_)))
 all_goals(refine aC ?_;exact aB (hK _ _ _ _ _ _ _ _ _ _ _ _ _ _ _))
end
end Go.Proofs.YtifgibijcmppmaaGreat
namespace Go.Proofs.YtifgibijcmppmaaGreat
open Go Go.Proofs Go.Sl
attribute [local irreducible] aN fN cX bP aM aX aA dS dV aT dU pt ro eV star sep bH
section
variable {R C:List HP} {K:KP} {p:Nat} {n:Int} {s u v:ByteArray}
structure Lk where
 b:List UInt8
 ca:Int
 we:Int
def Jl (l:Lk):Prop:=l.b.length≤1048576∧0≤l.ca∧l.ca≤1000000000000∧0≤l.we∧l.we≤1000000000000
def kZ (p:Nat) (l:Lk):HP:=eV fun A=>eV fun c=>sep (pt p [.slice A l.b.length c,I6 1048576,I6 l.ca,I6 l.we] 294) (sep (m7 A dL l.b) (bH (l.b.length≤c)))
variable {l:Lk}
theorem Bi {A:Option Addr} {c k:Nat} (h:l.b.length≤c) (hk:l.b.length=k):aG (pt p [.slice A k c,I6 1048576,I6 l.ca,I6 l.we] 294::m7 A dL l.b::R) (kZ p l::R):=by
 subst hk
 exact aG.ex A (aG.ex c (aG.sep (aG.pick aV.here (aG.sep (aG.pick aV.here (aG.pure h (aG.refl _)))))))
theorem Dp {f:FuncId} {args:Array Value} (h:∀A c,l.b.length≤c→CT f args (pt p [.slice A l.b.length c,I6 1048576,I6 l.ca,I6 l.we] 294::m7 A dL l.b::R) K):CT f args (kZ p l::R) K:=
 aA.ex fun A=>aA.ex fun c=>aA.sep (aA.ent (aG.trans (aG.cons aG.unsep) (fun _ hs=>(hs.perm (List.Perm.trans (List.Perm.cons _ (List.Perm.swap _ _ _)) (List.Perm.swap _ _ _))))) (aA.pure fun hI=>h A c hI))
theorem Aj2:aG (pt p [.slice none 0 0,I6 1048576,I6 0,I6 0] 294::R) (kZ p ⟨[],0,0⟩::R):=fun H hs=>by
 have h1:=aG.cons (aG.nilrow 5 dL R) H hs
 have h2:=tZ (aV.there aV.here) (aG.refl _) H h1
 exact Bi (l:=⟨[],0,0⟩) (c:=0) (Nat.le_refl 0) rfl H h2.swap
theorem QU (hK:∀p,K (.tuple #[PO p,I6 0]) (kZ p ⟨[],0,0⟩::R)):CT 122 #[I6 1048576] R K:=by
 refine aH Tryz.func122 ?_
 repeat' (first|refine v6 ?_|refine w5 ?_ ?_|((refine bh fun h=>?_) <;> try exact w6 h)|(refine aE fun hA=>?_;subst hA)|intro _)
 all_goals(refine aC ?_;exact aK (aG.trans (by exact aZ) ((Aj2))) (hK _))
theorem D8 (hK:K (.string ⟨l.b.toArray⟩) (kZ p l::R)):CT 229 #[PO p] (kZ p l::R) K:=by
 refine Dp fun A c hc=>?_
 refine aH Tryz.func229 ?_
 repeat' (first|refine v20 ?_|refine w5 ?_ ?_|((refine bh fun h=>?_) <;> try exact w6 h)|(refine aE fun hA=>?_;subst hA)|intro _)
 all_goals(refine aC ?_;exact aK (aG.trans (by exact aZ) ((Bi (l:=l) hc rfl))) (hK))
theorem Aj3 {A:Option Addr} {c k:Nat} (hk:l.b.length=k):aG (bQ A c 5 dL l.b::pt p [.slice A k c,I6 1048576,I6 l.ca,I6 l.we] 294::R) (kZ p l::R):=fun H hs=>by
 have h1:=Ib hs
 have h2:=tZ aV.here (aG.refl _) H hs
 exact Bi h1 hk H h2.swap
def uD:List (Nat×Nat):= [(0,0),(1,0),(2,0),(3,0),(4,0),(5,0),(6,0),(7,0),(8,0),(9,0),(10,0),(11,0),(12,0),(13,0)]
theorem Ko (hI:Jl l) (hu:u.size≤1048576) (hv:v.size≤1048576) (h:(s.size:Int)≤1048576 - l.b.length) (hK:K (I6 0) (kZ p ⟨(u++s++v).data.toList,l.ca+s.size,l.we⟩::R)):CT 228 #[PO p,.string u,.string s,.string v] (kZ p l::R) K:=by
 obtain⟨h1,h2,h3,h4,h5⟩:=hI
 refine Dp fun A c hc=>?_
 have e:(u++s++v).size=(u++s++v).data.toList.length:=Array.length_toList.symm
 have e3:(u++s).size=u.size+s.size:=ByteArray.size_append ..
 refine aH Tryz.func228 ?_
 repeat' (first|refine v66 ?_|refine dw uD ?_|refine w5 ?_ ?_|((refine bh fun h=>?_) <;> try exact w6 h)|(refine aE fun hA=>?_;subst hA)|intro _)
 all_goals(refine aC ?_;exact aK (aG.trans (by exact aZ) ((Aj3 (l:=⟨(u++s++v).data.toList,l.ca+s.size,l.we⟩) e.symm))) (hK))
theorem LD (hI:Jl l) (h:1048576 - l.b.length<(s.size:Int)) (hK:K (I6 9) (kZ p l::R)):CT 228 #[PO p,.string u,.string s,.string v] (kZ p l::R) K:=by
 obtain⟨h1,h2,h3,h4,h5⟩:=hI
 refine Dp fun A c hc=>?_
 refine aH Tryz.func228 ?_
 repeat' (first|refine v66 ?_|refine dw uD ?_|refine w5 ?_ ?_|((refine bh fun h=>?_) <;> try exact w6 h)|(refine aE fun hA=>?_;subst hA)|intro _)
 all_goals(refine aC ?_;exact aK (aG.trans (by exact aZ) ((Bi (l:=l) hc rfl))) (hK))
def WI (s:ByteArray) (l:Lk):Int:=if 1048576 - (l.b.length:Int)<s.size then 9 else 0
def Ai (s:ByteArray) (l:Lk):Lk:=if WI s l=0 then⟨l.b++s.data.toList,l.ca+s.size,l.we⟩ else l
def x6 (s:ByteArray) (l:Lk):Lk:=if WI s l=0 then⟨s.data.toList++l.b,l.ca+s.size,l.we⟩ else l
def C8 (n:Int) (l:Lk):Nat:=(max (min n l.b.length) 0).toNat
def wG (n:Int) (l:Lk):Lk:=⟨l.b.drop (C8 n l),l.ca,l.we+C8 n l⟩
theorem XM (hI:Jl l) (hK:K (I6 (WI s l)) (kZ p (Ai s l)::R)):CT 226 #[PO p,.string s] (kZ p l::R) K:=by
 unfold Ai at hK
 by_cases h:1048576 - (l.b.length:Int)<s.size
 ·have e:WI s l=9:=if_pos h
  rw[e,if_neg (by decide)] at hK
  refine aH Tryz.func226 ?_
  repeat' (first|refine v0 ?_|refine w5 ?_ ?_|((refine bh fun h=>?_) <;> try exact w6 h)|(refine aE fun hA=>?_;subst hA)|intro _|(show aA _ 229 _ _ _;refine CA (h:=D8 ?_))|(show aA _ 228 _ _ _;refine CA (h:=LD hI h ?_)))
  all_goals(refine aC ?_;exact aB (hK))
 ·have e:WI s l=0:=if_neg h
  rw[e,if_pos rfl] at hK
  have e2:(⟨l.b.toArray⟩++s++(⟨#[]⟩:ByteArray)).data.toList=l.b++s.data.toList:=by simp[ByteArray.data_append]
  rw[← e2] at hK
  have eu:(⟨l.b.toArray⟩:ByteArray).size≤1048576:=by have:=hI.1;simpa[ByteArray.size] using this
  refine aH Tryz.func226 ?_
  repeat' (first|refine v0 ?_|refine w5 ?_ ?_|((refine bh fun h=>?_) <;> try exact w6 h)|(refine aE fun hA=>?_;subst hA)|intro _|(show aA _ 229 _ _ _;refine CA (h:=D8 ?_))|(show aA _ 228 _ _ _;refine CA (h:=Ko hI eu (by decide) (by omega) ?_)))
  all_goals(refine aC ?_;exact aB (hK))
theorem HD (hI:Jl l) (hK:K (I6 (WI s l)) (kZ p (x6 s l)::R)):CT 130 #[PO p,.string s] (kZ p l::R) K:=by
 unfold x6 at hK
 by_cases h:1048576 - (l.b.length:Int)<s.size
 ·have e:WI s l=9:=if_pos h
  rw[e,if_neg (by decide)] at hK
  refine aH Tryz.func130 ?_
  repeat' (first|refine v0 ?_|refine w5 ?_ ?_|((refine bh fun h=>?_) <;> try exact w6 h)|(refine aE fun hA=>?_;subst hA)|intro _|(show aA _ 229 _ _ _;refine CA (h:=D8 ?_))|(show aA _ 228 _ _ _;refine CA (h:=LD hI h ?_)))
  all_goals(refine aC ?_;exact aB (hK))
 ·have e:WI s l=0:=if_neg h
  rw[e,if_pos rfl] at hK
  have e2:((⟨#[]⟩:ByteArray)++s++⟨l.b.toArray⟩).data.toList=s.data.toList++l.b:=by simp[ByteArray.data_append]
  rw[← e2] at hK
  have eu:(⟨l.b.toArray⟩:ByteArray).size≤1048576:=by have:=hI.1;simpa[ByteArray.size] using this
  refine aH Tryz.func130 ?_
  repeat' (first|refine v0 ?_|refine w5 ?_ ?_|((refine bh fun h=>?_) <;> try exact w6 h)|(refine aE fun hA=>?_;subst hA)|intro _|(show aA _ 229 _ _ _;refine CA (h:=D8 ?_))|(show aA _ 228 _ _ _;refine CA (h:=Ko hI (by decide) eu (by omega) ?_)))
  all_goals(refine aC ?_;exact aB (hK))
theorem Xm {A:Option Addr} {m c:Nat} {ca we:Int} (hK:K (I6 (m:Nat)) (pt p [.slice A m c,I6 1048576,I6 ca,I6 we] 294::R)):CT 131 #[PO p] (pt p [.slice A m c,I6 1048576,I6 ca,I6 we] 294::R) K:=by
 refine aH Tryz.func131 ?_
 repeat' (first|refine v4 ?_|refine w5 ?_ ?_|((refine bh fun h=>?_) <;> try exact w6 h)|(refine aE fun hA=>?_;subst hA)|intro _)
 all_goals(refine aC ?_;exact aB (hK))
def CF:List (Nat×Nat):= [(1,0),(2,1),(0,1),(3,0),(4,0),(5,0)]
theorem J4 {r2 r3 m c:Nat} {A:Option Addr} {ca we:Int} (hK:K (I6 (max (min n m) 0)) (pt r3 [I6 n] 3::pt r2 [PO p] 192::pt p [.slice A m c,I6 1048576,I6 ca,I6 we] 294::R)):CT 318 #[PO r3,PO r2] (pt r3 [I6 n] 3::pt r2 [PO p] 192::pt p [.slice A m c,I6 1048576,I6 ca,I6 we] 294::R) K:=by
 refine aH Tryz.func318 ?_
 repeat' (first|refine v17 ?_|refine dw CF ?_|refine w5 ?_ ?_|((refine bh fun h=>?_) <;> try exact w6 h)|(refine aE fun hA=>?_;subst hA)|intro _|(show aA _ 131 _ _ _;refine CA (h:=Xm ?_)))
 all_goals(refine aC ?_;exact aB (hK))
def uP:List (Nat×Nat):= [(0,0),(1,0),(2,0),(3,0),(4,0),(5,0),(6,0),(7,0),(8,0),(9,1)]
theorem WZ (hI:Jl l) (hK:K (.string ⟨(l.b.take (C8 n l)).toArray⟩) (kZ p (wG n l)::R)):CT 227 #[PO p,I6 n] (kZ p l::R) K:=by
 obtain⟨h1,h2,h3,h4,h5⟩:=hI
 by_cases h0:max (min n l.b.length) 0=0
 ·have hk:C8 n l=0:=by unfold C8;rw[h0];rfl
  have e:wG n l=l:=by unfold wG;rw[hk];simp
  rw[hk,e] at hK
  refine Dp fun A c hc=>?_
  refine aH Tryz.func227 ?_
  repeat' (first|refine v93 ?_|refine dw uP ?_|refine w5 ?_ ?_|((refine bh fun h=>?_) <;> try exact w6 h)|(refine aE fun hA=>?_;subst hA)|intro _|(show aA _ 318 _ _ _;refine CA (h:=J4 ?_);rw[h0]))
  all_goals(refine aC ?_;exact aK (aG.trans (by exact aZ) ((Bi (l:=l) hc rfl))) (hK))
 ·obtain⟨k,hk⟩:∃k:Nat,max (min n l.b.length) 0=(k:Int):=⟨(max (min n l.b.length) 0).toNat,by omega⟩
  have hkN:C8 n l=k:=by unfold C8;rw[hk];rfl
  have hk1:0<k∧k≤l.b.length:=by omega
  unfold wG at hK
  rw[hkN] at hK
  refine Dp fun A c hc=>?_
  refine aH Tryz.func227 ?_
  have hz1:(l.b.drop ((k:Nat):Int).toNat).take (((l.b.length:Nat):Int).toNat - ((k:Nat):Int).toNat)=l.b.drop k:=by
   rw[Int.toNat_natCast,Int.toNat_natCast]
   exact List.take_of_length_le (by rw[List.length_drop];omega)
  have hz2:(l.b.drop (0:Int).toNat).take (((k:Nat):Int).toNat - (0:Int).toNat)=l.b.take k:=by simp
  have hz3:(List.take (((k:Nat):Int).toNat - (0:Int).toNat) (List.drop (0:Int).toNat l.b)).length=((k:Nat):Int).toNat:=by
   rw[hz2,List.length_take,Int.toNat_natCast]
   omega
  repeat' (first|refine v93 ?_|refine dw uP ?_|refine w5 ?_ ?_|((refine bh fun h=>?_) <;> try exact w6 h)|(refine aE fun hA=>?_;subst hA)|intro _|(show aA _ 318 _ _ _;refine CA (h:=J4 ?_);rw[hk]))
  all_goals rw[hz1,hz2]
  all_goals(refine aC ?_;exact aK (aG.trans (by exact aZ) ((Bi (l:=⟨l.b.drop k,l.ca,l.we+k⟩) (by rw[List.length_drop];omega) (by rw[List.length_drop];omega)))) (hK))
end
end Go.Proofs.YtifgibijcmppmaaGreat
namespace Go.Proofs.YtifgibijcmppmaaGreat
open Go Go.Proofs Go.Sl
attribute [local irreducible] aN fN cX bP aM aX aA dS dV aT dU pt ro eV star sep bH
attribute [local irreducible] mp ED
section
structure Td where
 e:Int
 n:Int
 s:ByteArray
 is:Bool
 en:Bool
def KN (e:Int):Td:=⟨e,0,⟨#[]⟩,false,false⟩
def m9 (t:Td):Value:=.agg #[I6 t.e,I6 t.n,.string t.s,.bool t.is,.bool t.en]
def caT (a:AC) (s:Cn):Td:=
 if a.kd=1 then⟨nE a.n a.cd a.on a.ww a.xx s,if nE a.n a.cd a.on a.ww a.xx s=0 then s.nx else 0,⟨#[]⟩,false,false⟩
 else if a.kd=2 then⟨(Ac a.id a.s s).2,(Ac a.id a.s s).1,⟨#[]⟩,false,false⟩
 else if a.kd=3 then KN (R3 a.id s)
 else if a.kd=4 then⟨(vS a.id a.n s).2.2,((vS a.id a.n s).1.size:Nat),(vS a.id a.n s).1,false,(vS a.id a.n s).2.1⟩
 else if a.kd=5 then⟨(s7 a.id s).2.2.2,0,(s7 a.id s).1,(s7 a.id s).2.1,(s7 a.id s).2.2.1⟩
 else if a.kd=6 then KN (SX a.id a.n s)
 else if a.kd=7 then KN (LR a.id a.on a.ww a.xx s)
 else KN (lS a.id a.cd s)
def Yt (a:AC) (s:Cn):Cn:=
 if a.kd=1 then sD a.n a.cd a.on a.ww a.xx s
 else if a.kd=2 then qX a.id a.s s
 else if a.kd=3 then Cd a.id s
 else if a.kd=4 then wF a.id a.n s
 else if a.kd=5 then wE a.id s
 else if a.kd=6 then Ci a.id a.n s
 else if a.kd=7 then wC a.id a.on a.ww a.xx s
 else qZ a.id a.cd s
variable {R C:List HP} {K:KP} {x mc:Nat} {ad:Ca} {s:Cn} {M:Option Addr} {B:Int} {a:AC} {c:Cf}
theorem caI (h:bU B s) (ha:a.s.size≤599) (hB:B+600≤250000000):bU (B+600) (Yt a s):=by
 unfold Yt
 split
 ·exact(Zs h (by omega)).mono (by omega) hB
 ·split
  ·exact(XS h (by omega)).mono (by omega) hB
  ·split
   ·exact(Ahx h).mono (by omega) hB
   ·split
    ·exact(Z5 h).mono (by omega) hB
    ·split
     ·exact(ZC h).mono (by omega) hB
     ·split
      ·exact(Ah7 h).mono (by omega) hB
      ·split
       ·exact(Add h).mono (by omega) hB
       ·exact(Xz h).mono (by omega) hB
theorem caK (hI:bU B s) (h:fV c s):fV c (Yt a s):=by
 unfold Yt
 split
 ·exact Adm hI h
 ·split
  ·exact Wz h
  ·split
   ·exact Aex h
   ·split
    ·exact Abr hI h
    ·split
     ·exact Adp hI h
     ·split
      ·exact Agk h
      ·split
       ·exact Ad6 hI h
       ·exact Yh hI h
theorem caE (h:Ch s):Ch (Yt a s):=by
 unfold Yt
 split
 ·exact ZY h
 ·split
  ·exact XL h
  ·split
   ·exact Ahy h
   ·split
    ·exact Aee h
    ·split
     ·exact ZZ h
     ·split
      ·exact Agq h
      ·split
       ·exact Zo h
       ·exact WB h
theorem D5 {e:Int} (hK:K (m9 (KN e)) R):CT 123 #[I6 e] R K:=by
 unfold m9 KN at hK
 refine aH Tryz.func123 ?_
 repeat' (first|refine v5 ?_|refine w5 ?_ ?_|((refine bh fun h=>?_) <;> try exact w6 h)|(refine aE fun hA=>?_;subst hA)|intro _)
 all_goals(refine aC ?_;exact aB (hK))
theorem QS (hI:bU B s) (hd:a.s.size≤100000000) (hK:∀M mc,K (m9 (caT a s)) (b5 x ad (Yt a s) M mc R)):CT 127 #[PO x,.agg #[I6 a.kd,I6 a.sd,I6 a.id,I6 a.n,I6 a.cd,.string a.s,I6 a.on,I6 a.ww,.bool a.xx,I6 a.xw,I6 a.xs,I6 a.xi]] (b5 x ad s M mc R) K:=by
 obtain⟨kd,sd,id,n,cd,z,on,ww,xx,xw,xs,xi⟩:=a
 dsimp only at hd ⊢
 unfold caT Yt m9 at hK
 dsimp only at hK
 by_cases h1:kd=1
 ·subst h1
  simp only[if_true] at hK
  have hnn:s.nx+2 - 2=s.nx:=by omega
  by_cases hE:nE n cd on ww xx s=0
  ·rw[if_pos hE,hE] at hK
   refine aH Tryz.func127 ?_
   repeat' (first|refine JK ?_|refine w5 ?_ ?_|((refine bh fun h=>?_) <;> try exact w6 h)|(refine aE fun hA=>?_;subst hA)|intro _|(show aA _ 25 _ _ _;refine CA (h:=Sn (x:=x) (a:=ad) (s:=s) (M:=M) (mc:=mc) hI hE ?_);rw[hnn]))
   all_goals(refine aC ?_;exact aB (hK _ _))
  ·rw[if_neg hE] at hK
   have eo:sD n cd on ww xx s=aD s:=by unfold sD;rw[if_pos hE]
   rw[eo] at hK
   refine aH Tryz.func127 ?_
   repeat' (first|refine JK ?_|refine w5 ?_ ?_|((refine bh fun h=>?_) <;> try exact w6 h)|(refine aE fun hA=>?_;subst hA)|intro _|(show aA _ 25 _ _ _;refine CA (h:=RH (x:=x) (a:=ad) (s:=s) (M:=M) (mc:=mc) hI hE ?_)))
   all_goals(refine aC ?_;exact aB (hK _ _))
 ·rw[if_neg h1,if_neg h1] at hK
  by_cases h2:kd=2
  ·subst h2
   simp only[if_true] at hK
   refine aH Tryz.func127 ?_
   repeat' (first|refine JK ?_|refine w5 ?_ ?_|((refine bh fun h=>?_) <;> try exact w6 h)|(refine aE fun hA=>?_;subst hA)|intro _|(show aA _ 44 _ _ _;refine CA (h:=S0 (x:=x) (a:=ad) (s:=s) (M:=M) (mc:=mc) hI hd ?_)))
   all_goals(refine aC ?_;exact aB (hK _ _))
  ·rw[if_neg h2,if_neg h2] at hK
   by_cases h3:kd=3
   ·subst h3
    simp only[if_true] at hK
    refine aH Tryz.func127 ?_
    repeat' (first|refine JK ?_|refine w5 ?_ ?_|((refine bh fun h=>?_) <;> try exact w6 h)|(refine aE fun hA=>?_;subst hA)|intro _|(show aA _ 204 _ _ _;refine CA (h:=Ac7 (x:=x) (a:=ad) (s:=s) (M:=M) (mc:=mc) hI ?_))|(show aA _ 123 _ _ _;refine CA (h:=D5 ?_)))
    all_goals(refine aC ?_;exact aB (hK _ _))
   ·rw[if_neg h3,if_neg h3] at hK
    by_cases h4:kd=4
    ·subst h4
     simp only[if_true] at hK
     refine aH Tryz.func127 ?_
     repeat' (first|refine JK ?_|refine w5 ?_ ?_|((refine bh fun h=>?_) <;> try exact w6 h)|(refine aE fun hA=>?_;subst hA)|intro _|(show aA _ 26 _ _ _;refine CA (h:=Wd (x:=x) (a:=ad) (s:=s) (M:=M) (mc:=mc) hI (fun _ _=>?_))))
     all_goals(refine aC ?_;exact aB (hK _ _))
    ·rw[if_neg h4,if_neg h4] at hK
     by_cases h5:kd=5
     ·subst h5
      simp only[if_true] at hK
      refine aH Tryz.func127 ?_
      repeat' (first|refine JK ?_|refine w5 ?_ ?_|((refine bh fun h=>?_) <;> try exact w6 h)|(refine aE fun hA=>?_;subst hA)|intro _|(show aA _ 27 _ _ _;refine CA (h:=Wu (x:=x) (a:=ad) (s:=s) (M:=M) (mc:=mc) hI (fun _ _=>?_))))
      all_goals(refine aC ?_;exact aB (hK _ _))
     ·rw[if_neg h5,if_neg h5] at hK
      by_cases h6:kd=6
      ·subst h6
       simp only[if_true] at hK
       refine aH Tryz.func127 ?_
       repeat' (first|refine JK ?_|refine w5 ?_ ?_|((refine bh fun h=>?_) <;> try exact w6 h)|(refine aE fun hA=>?_;subst hA)|intro _|(show aA _ 205 _ _ _;refine CA (h:=Ad9 (x:=x) (a:=ad) (s:=s) (M:=M) (mc:=mc) hI ?_))|(show aA _ 123 _ _ _;refine CA (h:=D5 ?_)))
       all_goals(refine aC ?_;exact aB (hK _ _))
      ·rw[if_neg h6,if_neg h6] at hK
       by_cases h7:kd=7
       ·subst h7
        simp only[if_true] at hK
        refine aH Tryz.func127 ?_
        repeat' (first|refine JK ?_|refine w5 ?_ ?_|((refine bh fun h=>?_) <;> try exact w6 h)|(refine aE fun hA=>?_;subst hA)|intro _|(show aA _ 206 _ _ _;refine CA (h:=Yk (x:=x) (a:=ad) (s:=s) (M:=M) (mc:=mc) hI (fun _ _=>?_)))|(show aA _ 123 _ _ _;refine CA (h:=D5 ?_)))
        all_goals(refine aC ?_;exact aB (hK _ _))
       ·rw[if_neg h7,if_neg h7] at hK
        refine aH Tryz.func127 ?_
        repeat' (first|refine JK ?_|refine w5 ?_ ?_|((refine bh fun h=>?_) <;> try exact w6 h)|(refine aE fun hA=>?_;subst hA)|intro _|(show aA _ 207 _ _ _;refine CA (h:=Sg (x:=x) (a:=ad) (s:=s) (M:=M) (mc:=mc) hI (fun _ _=>?_)))|(show aA _ 123 _ _ _;refine CA (h:=D5 ?_)))
        all_goals(refine aC ?_;exact aB (hK _ _))
end
section
variable {R C:List HP} {K:KP} {d x y pl po mc:Nat} {ad:Ca} {c:Cn} {l o:Lk} {M:Option Addr} {B P side:Int} {a:AC} {cf:Cf} {b0 b1:Bool}
theorem i6 (hK:K (.bool (decide (side=0∨side=1))) R):CT 125 #[I6 side] R K:=by
 have k1:∀v:Bool,v=decide (side=0∨side=1)→K (.bool v) R:=fun v hv=>hv▸hK
 refine aH Tryz.func125 ?_
 repeat' (first|refine v15 ?_|refine w5 ?_ ?_|((refine bh fun h=>?_) <;> try exact w6 h)|(refine aE fun hA=>?_;subst hA)|intro _)
 all_goals(refine aC ?_;exact aB (k1 _ (by simp[*] <;> rfl)))
def BR (a:AC) (c:Cn) (l o:Lk):Td:=
 if a.kd=9 then KN (Aa4 c)
 else if a.kd=10 then KN (SO ⟨a.xw,a.xs,a.xi⟩ c)
 else if a.kd=11 then⟨WI ⟨(eZ c).1.toArray⟩ o,((eZ c).1.length:Nat),⟨#[]⟩,false,false⟩
 else if a.kd=12 then⟨Gx c,((l.b.take (C8 a.n l)).length:Nat),⟨#[]⟩,false,false⟩
 else if a.kd=14 then KN (WI a.s l)
 else caT a c
def s6 (a:AC) (c:Cn) (l:Lk):Cn:=
 if a.kd=9 then JI c
 else if a.kd=10 then Cc ⟨a.xw,a.xs,a.xi⟩ c
 else if a.kd=11 then(eZ c).2
 else if a.kd=12 then lQ (l.b.take (C8 a.n l)) c
 else if a.kd=14 then c
 else Yt a c
def nD (a:AC) (l:Lk):Lk:=if a.kd=12 then wG a.n l else if a.kd=14 then x6 a.s l else l
def oQ (a:AC) (c:Cn) (o:Lk):Lk:=if a.kd=11 then Ai ⟨(eZ c).1.toArray⟩ o else o
structure CnG (cf:Cf) (B:Int) (c:Cn):Prop where
 I:bU B c
 K:fV cf c
 E:Ch c
def zU (cf:Cf) (P:Int) (c:Cn):Prop:=∃B,CnG cf B c∧B+34 * c.inb.length≤P
theorem Ux:∀(k:Nat) (a:List UInt8),a.length≤k→9 * (pF a).1.length+(pF a).2.1.length≤a.length:=fun k=>by
 induction k with
 |zero=>
  intro a h
  obtain rfl:a= []:=List.length_eq_zero_iff.1 (by omega)
  have hs:DU (kW [])=some 0:=by unfold DU;rw[if_pos (by rw[pD];decide)]
  rw[yG hs]
  exact Nat.le_refl _
 |succ k ih=>
  intro a h
  cases hs:DU (kW a) with
  |some e=>rw[yG hs];simp
  |none=>
   have hd:=xL hs
   have i1:=ih (a.drop (9+sL (kW a)).toNat) (by omega)
   rw[GG hs]
   show 9 * ((pF (a.drop (9+sL (kW a)).toNat)).1.length+1)+(pF (a.drop (9+sL (kW a)).toNat)).2.1.length≤a.length
   omega
theorem Ad4 {u:List UInt8} (h:zU cf P c) (hB:P+35 * u.length≤248000000):zU cf (P+35 * u.length) (lQ u c):=by
 obtain⟨B,hG,hP⟩:=h
 have h9:=Ux (c.inb++u).length (c.inb++u) (Nat.le_refl _)
 rw[List.length_append] at h9
 have hB2:B+u.length+300 * (pF (c.inb++u)).1.length≤250000000:=by omega
 cases ho:c.dr.ov
 ·refine⟨B+u.length+300 * (pF (c.inb++u)).1.length,⟨Zg hG.I hB2,Adc hG.I hG.K hB2,Ac9 hG.E⟩,?_⟩
  have key:∀z:Cn,o9 z=((pF (c.inb++u)).2.2,if(pF (c.inb++u)).2.2=0 then(pF (c.inb++u)).2.1 else [])→z.inb.length≤(pF (c.inb++u)).2.1.length:=fun z hz=>by
   have:=congrArg Prod.snd hz
   have:z.inb=if(pF (c.inb++u)).2.2=0 then(pF (c.inb++u)).2.1 else []:=this
   rw[this]
   split
   ·exact Nat.le_refl _
   ·exact Nat.zero_le _
  have hin:(lQ u c).inb.length≤(pF (c.inb++u)).2.1.length:=by
   unfold lQ
   rw[if_neg (by rw[ho];decide)]
   have h1:o9 (d9 (iQ u (aD c)).1 (iQ u (aD c)).2)=((pF (c.inb++u)).2.2,if(pF (c.inb++u)).2.2=0 then(pF (c.inb++u)).2.1 else []):=CS
   split
   ·exact key _ h1
   ·exact key (iO 0 (pF (c.inb++u)).2.2 (d9 (iQ u (aD c)).1 (iQ u (aD c)).2)) (jP.trans h1)
  omega
 ·have e:lQ u c=aD c:=by unfold lQ;rw[if_pos ho]
  rw[e]
  exact⟨B,⟨bG hG.I,cL hG.K,hG.E⟩,by show B+34 * (c.inb.length:Int)≤_;omega⟩
def zD (side:Int) (x y pl po:Nat) (b0 b1:Bool):List Value:=if side=0 then [PO x,PO y,PO pl,PO po,.bool b0,.bool b1] else [PO y,PO x,PO po,PO pl,.bool b0,.bool b1]
def CR:List (Nat×Nat):= [(0,0),(1,0),(2,0),(3,0),(4,0),(5,0),(6,0),(7,1),(8,0)]
def Cx:List (Nat×Nat):= [(0,0),(1,0),(2,0),(3,0),(4,0),(5,0),(6,0),(7,0),(8,0),(9,0)]
theorem Ku (hs:side=0∨side=1) (hP:zU cf P c) (hB:P≤200000000) (ho:Jl o) (ha:a.sd=side) (hK:∀M mc,K (m9 ⟨WI ⟨(eZ c).1.toArray⟩ o,((eZ c).1.length:Nat),⟨#[]⟩,false,false⟩) (pt d (zD side x y pl po b0 b1) 196::kZ po (Ai ⟨(eZ c).1.toArray⟩ o)::b5 x ad (eZ c).2 M mc R)):CT 128 #[PO d,.agg #[I6 a.kd,I6 a.sd,I6 a.id,I6 a.n,I6 a.cd,.string a.s,I6 a.on,I6 a.ww,.bool a.xx,I6 a.xw,I6 a.xs,I6 a.xi]] (pt d (zD side x y pl po b0 b1) 196::kZ po o::b5 x ad c M mc R) K:=by
 obtain⟨B,hG,hBP⟩:=hP
 obtain⟨kd,sd,id,n,cd,z,on,ww,xx,xw,xs,xi⟩:=a
 dsimp only at ha ⊢
 subst ha
 unfold m9 at hK
 have e:((⟨(eZ c).1.toArray⟩:ByteArray).size:Int)=((eZ c).1.length:Nat):=by simp[ByteArray.size]
 rcases hs with rfl|rfl
 all_goals
  simp only[zD,if_true,if_false,show ¬(1:Int)=0 by decide] at hK ⊢
  refine aH Tryz.func128 ?_
  repeat' (first|refine v75 ?_|refine dw CR ?_|refine dw Cx ?_|refine w5 ?_ ?_|((refine bh fun h=>?_) <;> try exact w6 h)|(refine aE fun hA=>?_;subst hA)|intro _|(show aA _ 21 _ _ _;refine CA (h:=PP (s:=c) fun hF=>V0 (x:=x) (a:=ad) (s:=c) (M:=M) (mc:=mc) hG.I hG.K hF (by omega) (fun _ _=>?_)))|(show aA _ 226 _ _ _;refine CA (h:=XM ho ?_)))
  all_goals(refine aC ?_;exact aB (hK _ _))
def y8:List (Nat×Nat):= [(0,0),(1,0),(2,0),(3,0),(4,0),(5,0),(6,0),(7,0),(8,0),(9,1),(10,0)]
def y9:List (Nat×Nat):= [(0,0),(1,0),(2,0),(3,0),(4,0),(5,0),(6,0),(7,0),(8,1),(9,1),(10,1),(11,0),(12,1)]
theorem D9 (hs:side=0∨side=1) (hP:zU cf P c) (hB:P≤200000000) (ho:Jl l) (ha:a.sd=side) (hK:∀M mc,K (m9 ⟨Gx c,((l.b.take (C8 a.n l)).length:Nat),⟨#[]⟩,false,false⟩) (pt d (zD side x y pl po b0 b1) 196::kZ pl (wG a.n l)::b5 x ad (lQ (l.b.take (C8 a.n l)) c) M mc R)):CT 129 #[PO d,.agg #[I6 a.kd,I6 a.sd,I6 a.id,I6 a.n,I6 a.cd,.string a.s,I6 a.on,I6 a.ww,.bool a.xx,I6 a.xw,I6 a.xs,I6 a.xi]] (pt d (zD side x y pl po b0 b1) 196::kZ pl l::b5 x ad c M mc R) K:=by
 obtain⟨B,hG,hBP⟩:=hP
 obtain⟨kd,sd,id,n,cd,z,on,ww,xx,xw,xs,xi⟩:=a
 dsimp only at ha hK ⊢
 subst ha
 unfold m9 at hK
 have hIb:=hG.E.2
 have hl:=ho.1
 generalize hu:l.b.take (C8 n l)=u at hK
 have hul:u.length≤1048576:=by rw[← hu,List.length_take];omega
 have e:((⟨u.toArray⟩:ByteArray).size:Int)=(u.length:Nat):=by simp[ByteArray.size]
 have e2:(⟨u.toArray⟩:ByteArray).data.toList=u:=by simp
 have h9:=Ux (c.inb++u).length (c.inb++u) (Nat.le_refl _)
 rw[List.length_append] at h9
 have hb2:B+((⟨u.toArray⟩:ByteArray).size:Int)+300 * ((pF (c.inb++(⟨u.toArray⟩:ByteArray).data.toList)).1.length:Int)≤248000000:=by rw[e,e2];omega
 rw[← e] at hK
 rw[← e2] at hK
 rcases hs with rfl|rfl
 all_goals
  simp only[zD,if_true,if_false,show ¬(1:Int)=0 by decide] at hK ⊢
  refine aH Tryz.func129 ?_
  repeat' (first|refine v75 ?_|refine dw y8 ?_|refine dw y9 ?_|refine w5 ?_ ?_|((refine bh fun h=>?_) <;> try exact w6 h)|(refine aE fun hA=>?_;subst hA)|intro _|(show aA _ 227 _ _ _;refine CA (h:=WZ ho ?_);rw[hu])|(show aA _ 14 _ _ _;refine CA (h:=XQ (x:=x) (a:=ad) (s:=c) (M:=M) (mc:=mc) hG.I hG.E.1 (by omega) hb2 (fun _ _=>?_))))
  all_goals(refine aC ?_;exact aB (hK _ _))
end
section
variable {R C:List HP} {K:KP} {d x y pl po mc:Nat} {ad:Ca} {c:Cn} {l o:Lk} {M:Option Addr} {B P side:Int} {a:AC} {cf:Cf} {b0 b1:Bool}
theorem OM {r5 r3:Nat} (hI:bU B c) (hd:a.s.size≤100000000) (hK:∀M mc,K (m9 (caT a c)) (pt r5 [PO x] 27::pt r3 [I6 a.kd,I6 a.sd,I6 a.id,I6 a.n,I6 a.cd,.string a.s,I6 a.on,I6 a.ww,.bool a.xx,I6 a.xw,I6 a.xs,I6 a.xi] 92::b5 x ad (Yt a c) M mc R)):CT 126 #[PO r5,PO r3] (pt r5 [PO x] 27::pt r3 [I6 a.kd,I6 a.sd,I6 a.id,I6 a.n,I6 a.cd,.string a.s,I6 a.on,I6 a.ww,.bool a.xx,I6 a.xw,I6 a.xs,I6 a.xi] 92::b5 x ad c M mc R) K:=by
 unfold m9 at hK
 refine aH Tryz.func126 ?_
 repeat' (first|refine v31 ?_|refine w5 ?_ ?_|((refine bh fun h=>?_) <;> try exact w6 h)|(refine aE fun hA=>?_;subst hA)|intro _|(show aA _ 127 _ _ _;refine CA (h:=QS (x:=x) (ad:=ad) (s:=c) (a:=a) (M:=M) (mc:=mc) hI hd (fun _ _=>?_));unfold m9))
 all_goals(refine aC ?_;exact aB (hK _ _))
theorem rT {e:Int} (hK:K (.agg #[I6 e,I6 0,.string ⟨#[]⟩,.bool false,.bool false]) R):CT 123 #[I6 e] R K:=D5 hK
def bz (side i k:Int):Bool:=decide (side=i) && !decide (k=14)
def cC:List (Nat×Nat):= [(7,1),(0,1),(1,1),(2,1),(3,1),(4,1),(5,1),(6,1),(8,1)]
def cD:List (Nat×Nat):= [(0,0),(1,0),(2,0),(3,0),(4,0),(5,0),(6,0),(7,0),(8,0),(9,1)]
def cE:List (Nat×Nat):= [(0,0),(1,0),(2,0),(3,0),(4,0),(5,0),(6,0),(7,0),(8,0),(9,1),(10,1),(11,1)]
theorem Yr {kd id n cd on ww xw xs xi:Int} {z:ByteArray} {xx:Bool} (hs:side=0∨side=1) (hP:zU cf P c) (hB:P≤200000000) (hl:Jl l) (ho:Jl o) (hz:z.size≤599) (hK:∀M mc,K (m9 (BR ⟨9,side,id,n,cd,z,on,ww,xx,xw,xs,xi⟩ c l o)) (pt d (zD side x y pl po (bz side 0 9) (bz side 1 9)) 196::kZ pl (nD ⟨9,side,id,n,cd,z,on,ww,xx,xw,xs,xi⟩ l)::kZ po (oQ ⟨9,side,id,n,cd,z,on,ww,xx,xw,xs,xi⟩ c o)::b5 x ad (s6 ⟨9,side,id,n,cd,z,on,ww,xx,xw,xs,xi⟩ c l) M mc R)):CT 33 #[PO d,.agg #[I6 9,I6 side,I6 id,I6 n,I6 cd,.string z,I6 on,I6 ww,.bool xx,I6 xw,I6 xs,I6 xi]] (pt d (zD side x y pl po b0 b1) 196::kZ pl l::kZ po o::b5 x ad c M mc R) K:=by
 have hP2:=hP
 obtain⟨B,hG,hBP⟩:=hP2
 simp only[BR,nD,oQ,s6,Int.reduceEq,if_true,if_false,m9,KN] at hK
 rcases hs with rfl|rfl
 ·simp only[zD,bz,Int.reduceEq,if_true,if_false,decide_true,decide_false,Bool.true_and,Bool.false_and,Bool.not_false,Bool.not_true] at hK ⊢
  refine aH Tryz.func33 ?_
  repeat' (first|refine NJ ?_|refine dw cC ?_|refine dw cD ?_|refine dw cE ?_|refine w5 ?_ ?_|((refine bh fun h=>?_) <;> try exact w6 h)|(refine aE fun hA=>?_;subst hA)|intro _|(show aA _ 125 _ _ _;refine CA (h:=i6 ?_))|(show aA _ 123 _ _ _;refine CA (h:=rT ?_))|(show aA _ 100 _ _ _;refine CA (h:=UG (x:=x) (a:=ad) (s:=c) (M:=M) (mc:=mc) hG.I ?_)))
  all_goals(refine aC ?_;exact aB (hK _ _))
 ·simp only[zD,bz,Int.reduceEq,if_true,if_false,decide_true,decide_false,Bool.true_and,Bool.false_and,Bool.not_false,Bool.not_true] at hK ⊢
  refine aH Tryz.func33 ?_
  repeat' (first|refine NJ ?_|refine dw cC ?_|refine dw cD ?_|refine dw cE ?_|refine w5 ?_ ?_|((refine bh fun h=>?_) <;> try exact w6 h)|(refine aE fun hA=>?_;subst hA)|intro _|(show aA _ 125 _ _ _;refine CA (h:=i6 ?_))|(show aA _ 123 _ _ _;refine CA (h:=rT ?_))|(show aA _ 100 _ _ _;refine CA (h:=UG (x:=x) (a:=ad) (s:=c) (M:=M) (mc:=mc) hG.I ?_)))
  all_goals(refine aC ?_;exact aB (hK _ _))
theorem Rr {kd id n cd on ww xw xs xi:Int} {z:ByteArray} {xx:Bool} (hs:side=0∨side=1) (hP:zU cf P c) (hB:P≤200000000) (hl:Jl l) (ho:Jl o) (hz:z.size≤599) (hK:∀M mc,K (m9 (BR ⟨10,side,id,n,cd,z,on,ww,xx,xw,xs,xi⟩ c l o)) (pt d (zD side x y pl po (bz side 0 10) (bz side 1 10)) 196::kZ pl (nD ⟨10,side,id,n,cd,z,on,ww,xx,xw,xs,xi⟩ l)::kZ po (oQ ⟨10,side,id,n,cd,z,on,ww,xx,xw,xs,xi⟩ c o)::b5 x ad (s6 ⟨10,side,id,n,cd,z,on,ww,xx,xw,xs,xi⟩ c l) M mc R)):CT 33 #[PO d,.agg #[I6 10,I6 side,I6 id,I6 n,I6 cd,.string z,I6 on,I6 ww,.bool xx,I6 xw,I6 xs,I6 xi]] (pt d (zD side x y pl po b0 b1) 196::kZ pl l::kZ po o::b5 x ad c M mc R) K:=by
 have hP2:=hP
 obtain⟨B,hG,hBP⟩:=hP2
 simp only[BR,nD,oQ,s6,Int.reduceEq,if_true,if_false,m9,KN] at hK
 rcases hs with rfl|rfl
 ·simp only[zD,bz,Int.reduceEq,if_true,if_false,decide_true,decide_false,Bool.true_and,Bool.false_and,Bool.not_false,Bool.not_true] at hK ⊢
  refine aH Tryz.func33 ?_
  repeat' (first|refine NJ ?_|refine dw cC ?_|refine dw cD ?_|refine dw cE ?_|refine w5 ?_ ?_|((refine bh fun h=>?_) <;> try exact w6 h)|(refine aE fun hA=>?_;subst hA)|intro _|(show aA _ 125 _ _ _;refine CA (h:=i6 ?_))|(show aA _ 123 _ _ _;refine CA (h:=rT ?_))|(show aA _ 101 _ _ _;refine CA (h:=Oz (x:=x) (a:=ad) (s:=c) (M:=M) (mc:=mc) (t:=⟨xw,xs,xi⟩) hG.I ?_)))
  all_goals(refine aC ?_;exact aB (hK _ _))
 ·simp only[zD,bz,Int.reduceEq,if_true,if_false,decide_true,decide_false,Bool.true_and,Bool.false_and,Bool.not_false,Bool.not_true] at hK ⊢
  refine aH Tryz.func33 ?_
  repeat' (first|refine NJ ?_|refine dw cC ?_|refine dw cD ?_|refine dw cE ?_|refine w5 ?_ ?_|((refine bh fun h=>?_) <;> try exact w6 h)|(refine aE fun hA=>?_;subst hA)|intro _|(show aA _ 125 _ _ _;refine CA (h:=i6 ?_))|(show aA _ 123 _ _ _;refine CA (h:=rT ?_))|(show aA _ 101 _ _ _;refine CA (h:=Oz (x:=x) (a:=ad) (s:=c) (M:=M) (mc:=mc) (t:=⟨xw,xs,xi⟩) hG.I ?_)))
  all_goals(refine aC ?_;exact aB (hK _ _))
theorem TH {kd id n cd on ww xw xs xi:Int} {z:ByteArray} {xx:Bool} (hs:side=0∨side=1) (hP:zU cf P c) (hB:P≤200000000) (hl:Jl l) (ho:Jl o) (hz:z.size≤599) (hK:∀M mc,K (m9 (BR ⟨11,side,id,n,cd,z,on,ww,xx,xw,xs,xi⟩ c l o)) (pt d (zD side x y pl po (bz side 0 11) (bz side 1 11)) 196::kZ pl (nD ⟨11,side,id,n,cd,z,on,ww,xx,xw,xs,xi⟩ l)::kZ po (oQ ⟨11,side,id,n,cd,z,on,ww,xx,xw,xs,xi⟩ c o)::b5 x ad (s6 ⟨11,side,id,n,cd,z,on,ww,xx,xw,xs,xi⟩ c l) M mc R)):CT 33 #[PO d,.agg #[I6 11,I6 side,I6 id,I6 n,I6 cd,.string z,I6 on,I6 ww,.bool xx,I6 xw,I6 xs,I6 xi]] (pt d (zD side x y pl po b0 b1) 196::kZ pl l::kZ po o::b5 x ad c M mc R) K:=by
 have hP2:=hP
 obtain⟨B,hG,hBP⟩:=hP2
 simp only[BR,nD,oQ,s6,Int.reduceEq,if_true,if_false,m9,KN] at hK
 rcases hs with rfl|rfl
 ·simp only[zD,bz,Int.reduceEq,if_true,if_false,decide_true,decide_false,Bool.true_and,Bool.false_and,Bool.not_false,Bool.not_true] at hK ⊢
  refine aH Tryz.func33 ?_
  repeat' (first|refine NJ ?_|refine dw cC ?_|refine dw cD ?_|refine dw cE ?_|refine w5 ?_ ?_|((refine bh fun h=>?_) <;> try exact w6 h)|(refine aE fun hA=>?_;subst hA)|intro _|(show aA _ 125 _ _ _;refine CA (h:=i6 ?_))|(show aA _ 128 _ _ _;refine CA (h:=Ku (side:=0) (x:=x) (y:=y) (pl:=pl) (po:=po) (b0:=true) (b1:=false) (a:=⟨11,0,id,n,cd,z,on,ww,xx,xw,xs,xi⟩) (M:=M) (mc:=mc) (.inl rfl) hP hB ho rfl (fun _ _=>?_));simp only[zD,Int.reduceEq,if_true,if_false,m9]))
  all_goals(refine aC ?_;exact aB (hK _ _))
 ·simp only[zD,bz,Int.reduceEq,if_true,if_false,decide_true,decide_false,Bool.true_and,Bool.false_and,Bool.not_false,Bool.not_true] at hK ⊢
  refine aH Tryz.func33 ?_
  repeat' (first|refine NJ ?_|refine dw cC ?_|refine dw cD ?_|refine dw cE ?_|refine w5 ?_ ?_|((refine bh fun h=>?_) <;> try exact w6 h)|(refine aE fun hA=>?_;subst hA)|intro _|(show aA _ 125 _ _ _;refine CA (h:=i6 ?_))|(show aA _ 128 _ _ _;refine CA (h:=Ku (side:=1) (x:=x) (y:=y) (pl:=pl) (po:=po) (b0:=false) (b1:=true) (a:=⟨11,1,id,n,cd,z,on,ww,xx,xw,xs,xi⟩) (M:=M) (mc:=mc) (.inr rfl) hP hB ho rfl (fun _ _=>?_));simp only[zD,Int.reduceEq,if_true,if_false,m9]))
  all_goals(refine aC ?_;exact aB (hK _ _))
theorem TF {kd id n cd on ww xw xs xi:Int} {z:ByteArray} {xx:Bool} (hs:side=0∨side=1) (hP:zU cf P c) (hB:P≤200000000) (hl:Jl l) (ho:Jl o) (hz:z.size≤599) (hK:∀M mc,K (m9 (BR ⟨12,side,id,n,cd,z,on,ww,xx,xw,xs,xi⟩ c l o)) (pt d (zD side x y pl po (bz side 0 12) (bz side 1 12)) 196::kZ pl (nD ⟨12,side,id,n,cd,z,on,ww,xx,xw,xs,xi⟩ l)::kZ po (oQ ⟨12,side,id,n,cd,z,on,ww,xx,xw,xs,xi⟩ c o)::b5 x ad (s6 ⟨12,side,id,n,cd,z,on,ww,xx,xw,xs,xi⟩ c l) M mc R)):CT 33 #[PO d,.agg #[I6 12,I6 side,I6 id,I6 n,I6 cd,.string z,I6 on,I6 ww,.bool xx,I6 xw,I6 xs,I6 xi]] (pt d (zD side x y pl po b0 b1) 196::kZ pl l::kZ po o::b5 x ad c M mc R) K:=by
 have hP2:=hP
 obtain⟨B,hG,hBP⟩:=hP2
 simp only[BR,nD,oQ,s6,Int.reduceEq,if_true,if_false,m9,KN] at hK
 rcases hs with rfl|rfl
 ·simp only[zD,bz,Int.reduceEq,if_true,if_false,decide_true,decide_false,Bool.true_and,Bool.false_and,Bool.not_false,Bool.not_true] at hK ⊢
  refine aH Tryz.func33 ?_
  repeat' (first|refine NJ ?_|refine dw cC ?_|refine dw cD ?_|refine dw cE ?_|refine w5 ?_ ?_|((refine bh fun h=>?_) <;> try exact w6 h)|(refine aE fun hA=>?_;subst hA)|intro _|(show aA _ 125 _ _ _;refine CA (h:=i6 ?_))|(show aA _ 129 _ _ _;refine CA (h:=D9 (side:=0) (x:=x) (y:=y) (pl:=pl) (po:=po) (b0:=true) (b1:=false) (a:=⟨12,0,id,n,cd,z,on,ww,xx,xw,xs,xi⟩) (M:=M) (mc:=mc) (.inl rfl) hP hB hl rfl (fun _ _=>?_));simp only[zD,Int.reduceEq,if_true,if_false,m9]))
  all_goals(refine aC ?_;exact aB (hK _ _))
 ·simp only[zD,bz,Int.reduceEq,if_true,if_false,decide_true,decide_false,Bool.true_and,Bool.false_and,Bool.not_false,Bool.not_true] at hK ⊢
  refine aH Tryz.func33 ?_
  repeat' (first|refine NJ ?_|refine dw cC ?_|refine dw cD ?_|refine dw cE ?_|refine w5 ?_ ?_|((refine bh fun h=>?_) <;> try exact w6 h)|(refine aE fun hA=>?_;subst hA)|intro _|(show aA _ 125 _ _ _;refine CA (h:=i6 ?_))|(show aA _ 129 _ _ _;refine CA (h:=D9 (side:=1) (x:=x) (y:=y) (pl:=pl) (po:=po) (b0:=false) (b1:=true) (a:=⟨12,1,id,n,cd,z,on,ww,xx,xw,xs,xi⟩) (M:=M) (mc:=mc) (.inr rfl) hP hB hl rfl (fun _ _=>?_));simp only[zD,Int.reduceEq,if_true,if_false,m9]))
  all_goals(refine aC ?_;exact aB (hK _ _))
theorem Sa {kd id n cd on ww xw xs xi:Int} {z:ByteArray} {xx:Bool} (hs:side=0∨side=1) (hP:zU cf P c) (hB:P≤200000000) (hl:Jl l) (ho:Jl o) (hz:z.size≤599) (hK:∀M mc,K (m9 (BR ⟨14,side,id,n,cd,z,on,ww,xx,xw,xs,xi⟩ c l o)) (pt d (zD side x y pl po (bz side 0 14) (bz side 1 14)) 196::kZ pl (nD ⟨14,side,id,n,cd,z,on,ww,xx,xw,xs,xi⟩ l)::kZ po (oQ ⟨14,side,id,n,cd,z,on,ww,xx,xw,xs,xi⟩ c o)::b5 x ad (s6 ⟨14,side,id,n,cd,z,on,ww,xx,xw,xs,xi⟩ c l) M mc R)):CT 33 #[PO d,.agg #[I6 14,I6 side,I6 id,I6 n,I6 cd,.string z,I6 on,I6 ww,.bool xx,I6 xw,I6 xs,I6 xi]] (pt d (zD side x y pl po b0 b1) 196::kZ pl l::kZ po o::b5 x ad c M mc R) K:=by
 have hP2:=hP
 obtain⟨B,hG,hBP⟩:=hP2
 simp only[BR,nD,oQ,s6,Int.reduceEq,if_true,if_false,m9,KN] at hK
 rcases hs with rfl|rfl
 ·simp only[zD,bz,Int.reduceEq,if_true,if_false,decide_true,decide_false,Bool.true_and,Bool.false_and,Bool.not_false,Bool.not_true] at hK ⊢
  refine aH Tryz.func33 ?_
  repeat' (first|refine NJ ?_|refine dw cC ?_|refine dw cD ?_|refine dw cE ?_|refine w5 ?_ ?_|((refine bh fun h=>?_) <;> try exact w6 h)|(refine aE fun hA=>?_;subst hA)|intro _|(show aA _ 125 _ _ _;refine CA (h:=i6 ?_))|(show aA _ 123 _ _ _;refine CA (h:=rT ?_))|(show aA _ 130 _ _ _;refine CA (h:=HD (p:=pl) hl ?_)))
  all_goals(refine aC ?_;exact aB (hK _ _))
 ·simp only[zD,bz,Int.reduceEq,if_true,if_false,decide_true,decide_false,Bool.true_and,Bool.false_and,Bool.not_false,Bool.not_true] at hK ⊢
  refine aH Tryz.func33 ?_
  repeat' (first|refine NJ ?_|refine dw cC ?_|refine dw cD ?_|refine dw cE ?_|refine w5 ?_ ?_|((refine bh fun h=>?_) <;> try exact w6 h)|(refine aE fun hA=>?_;subst hA)|intro _|(show aA _ 125 _ _ _;refine CA (h:=i6 ?_))|(show aA _ 123 _ _ _;refine CA (h:=rT ?_))|(show aA _ 130 _ _ _;refine CA (h:=HD (p:=pl) hl ?_)))
  all_goals(refine aC ?_;exact aB (hK _ _))
theorem WR {kd id n cd on ww xw xs xi:Int} {z:ByteArray} {xx:Bool} (hs:side=0∨side=1) (hk:1≤kd∧kd≤8) (hP:zU cf P c) (hB:P≤200000000) (hl:Jl l) (ho:Jl o) (hz:z.size≤599) (hK:∀M mc,K (m9 (BR ⟨kd,side,id,n,cd,z,on,ww,xx,xw,xs,xi⟩ c l o)) (pt d (zD side x y pl po (bz side 0 kd) (bz side 1 kd)) 196::kZ pl (nD ⟨kd,side,id,n,cd,z,on,ww,xx,xw,xs,xi⟩ l)::kZ po (oQ ⟨kd,side,id,n,cd,z,on,ww,xx,xw,xs,xi⟩ c o)::b5 x ad (s6 ⟨kd,side,id,n,cd,z,on,ww,xx,xw,xs,xi⟩ c l) M mc R)):CT 33 #[PO d,.agg #[I6 kd,I6 side,I6 id,I6 n,I6 cd,.string z,I6 on,I6 ww,.bool xx,I6 xw,I6 xs,I6 xi]] (pt d (zD side x y pl po b0 b1) 196::kZ pl l::kZ po o::b5 x ad c M mc R) K:=by
 have hP2:=hP
 obtain⟨B,hG,hBP⟩:=hP2
 have n9:¬kd=9:=by omega
 have n10:¬kd=10:=by omega
 have n11:¬kd=11:=by omega
 have n12:¬kd=12:=by omega
 have n14:¬kd=14:=by omega
 have hbn:(kd != 14)=true:=by simpa using n14
 simp only[BR,nD,oQ,s6,n9,n10,n11,n12,n14,if_false,m9] at hK
 rcases hs with rfl|rfl
 ·simp only[zD,bz,Int.reduceEq,if_true,if_false,decide_true,decide_false,Bool.true_and,Bool.false_and,Bool.not_false,Bool.not_true,n14] at hK ⊢
  refine aH Tryz.func33 ?_
  repeat' (first|(show cX _ _ _;rw[hbn])|refine NJ ?_|refine dw cC ?_|refine dw cD ?_|refine dw cE ?_|refine w5 ?_ ?_|((refine bh fun h=>?_) <;> try exact w6 h)|(refine aE fun hA=>?_;subst hA)|intro _|(show aA _ 125 _ _ _;refine CA (h:=i6 ?_))|(show aA _ 126 _ _ _;refine CA (h:=OM (x:=x) (ad:=ad) (c:=c) (a:=⟨kd,0,id,n,cd,z,on,ww,xx,xw,xs,xi⟩) (M:=M) (mc:=mc) hG.I (by show z.size≤100000000;omega) (fun _ _=>?_));unfold m9))
  all_goals(refine aC ?_;exact aB (hK _ _))
 ·simp only[zD,bz,Int.reduceEq,if_true,if_false,decide_true,decide_false,Bool.true_and,Bool.false_and,Bool.not_false,Bool.not_true,n14] at hK ⊢
  refine aH Tryz.func33 ?_
  repeat' (first|(show cX _ _ _;rw[hbn])|refine NJ ?_|refine dw cC ?_|refine dw cD ?_|refine dw cE ?_|refine w5 ?_ ?_|((refine bh fun h=>?_) <;> try exact w6 h)|(refine aE fun hA=>?_;subst hA)|intro _|(show aA _ 125 _ _ _;refine CA (h:=i6 ?_))|(show aA _ 126 _ _ _;refine CA (h:=OM (x:=x) (ad:=ad) (c:=c) (a:=⟨kd,1,id,n,cd,z,on,ww,xx,xw,xs,xi⟩) (M:=M) (mc:=mc) hG.I (by show z.size≤100000000;omega) (fun _ _=>?_));unfold m9))
  all_goals(refine aC ?_;exact aB (hK _ _))
end
end Go.Proofs.YtifgibijcmppmaaGreat
