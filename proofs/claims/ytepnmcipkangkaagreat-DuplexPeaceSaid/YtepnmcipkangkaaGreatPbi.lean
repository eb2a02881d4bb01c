/- A part of the proof: lemmas; each with the conditions that it states. -/
import Derived.Test.YtepnmcipkangkaaGreatPbh
set_option linter.unusedVariables false
set_option linter.unusedSimpArgs false
set_option maxRecDepth 100000
set_option maxHeartbeats 40000000
namespace Go.Proofs.YtepnmcipkangkaaGreat
open Go Go.Proofs Go.Sl
attribute [local irreducible] aN fJ cY bN aM aS aA dM dN aV dL pt ro fB star sep bF
attribute [local irreducible] mp CV
variable {R C:List HP} {K:KP} {x mc i b p r k:Nat} {a:Ca} {s:Cn} {M:Option Addr} {B id n st t sd:Int} {m:Sm} {c cf:Cf} {q:xN} {g:dZ} {d:ByteArray} {e:Bool} {y:Fm}
section
variable {l:List Sm}
theorem Lm (hK:K (.string s.last) (cB x a { s with last:=⟨#[]⟩ } M mc R)):CT 107 #[PO x] (cB x a s M mc R) K:=by
 dsimp only[cB,rI] at hK ⊢
 refine aH Tryz.func107 ?_
 repeat' (first|refine v14 ?_|refine w5 ?_ ?_|((refine bh fun h=>?_) <;> try exact w6 h)|(refine aE fun hA=>?_;subst hA)|intro _)
 all_goals(refine aC ?_;exact aB (hK))
theorem Vi (hI:bO B s) (hk:fY c s) (hB:B+300<=250000000):bO (B+300) (rV s).2/\fY c (rV s).2:=by
 cases h:AD (s.pk,s.pc) (eI s) with
 |mk o q=>
  have hq:Lu q:=by
   have:=OC (s:=(s.pk,s.pc)) (l:=eI s) hI.pk
   rw[h] at this;exact this
  cases o with
  |none=>
   rw[HT h]
   exact⟨Anf (hI.mono (by omega) hB) hq,{ hk with }⟩
  |some id=>
   obtain⟨m,hm,hr⟩:=CC hI hk h
   rw[Ep h hm hr]
   exact⟨PT hI hk hm hq hB,RD hI hk hm hq hB⟩
theorem V2:∀ {k:Nat} {s:Cn} {B:Int},bO B s->fY c s->B+300 * k<=250000000->bO (B+300 * k) (eH k s).2/\fY c (eH k s).2
 |0,s,B,hI,hk,hB=>⟨hI.mono (by omega) hB,hk⟩
 |k+1,s,B,hI,hk,hB=>by
  obtain⟨h1,h2⟩:=Vi hI hk (by omega)
  unfold eH
  cases h:rV s with
  |mk o z=>
   rw[h] at h1 h2
   cases o with
   |none=>exact⟨h1.mono (by omega) hB,h2⟩
   |some f=>
    obtain⟨h3,h4⟩:=V2 (k:=k) h1 h2 (by omega)
    exact⟨h3.mono (by omega) hB,h4⟩
theorem FG (hI:bO B s) (hk:fY c s) (hB:B+1<=250000000):fY c (bH s):=by
 have h1:=Oc hI hB
 unfold bH
 split
 ·exact iG h1 { hk with }
 ·split
  ·exact iG (s:= { s with bt:=gT s.bt s.now,sl:=nL s.sl s.now (rL s) }) (HQ (q:=rL s) h1) { hk with }
  ·exact { hk with }
theorem PE (h:bO B s):bO B { s with last:=d }:= { h with }
theorem E8 (h:bO B s):bO B { s with out:= [] }:= { h with ou:=OL }
theorem Ew (h:fY c s):fY c { s with out:= [] }:= { h with fo:=fun f hf=>by cases hf }
theorem Aa9 {d:Dr} {k:Int} (h:(tP d k).ov=true):d.ov=true\/k<=0:=by
 unfold tP at h
 split at h
 ·rename_i hq;exact .inr hq.2.2
 ·exact .inl h
theorem Ak5 (h:fY c s):fY c { s with dr:=tP s.dr s.l.length }:= { h with
 cl:=fun ho=>by
  rcases Aa9 ho with ho|ho
  ·exact h.cl ho
  ·exact(show s.l= [] from List.length_eq_zero_iff.1 (by omega)) }
theorem Acr (hI:bO B s) (hk:fY c s) (hB:B+1301<=250000000):bO (B+1301) (cR s).2/\fY c (cR s).2:=by
 have hb:=bI hI
 have hkb:=cQ hk
 unfold cR
 split
 ·exact⟨PE (hb.mono (by omega) hB),{ hkb with ls:=Nat.zero_le 300 }⟩
 ·have h1:=J6 hb (by omega)
  have h2:=FG hb hkb (by omega)
  split
  ·exact⟨PE (h1.mono (by omega) hB),{ h2 with ls:=Nat.zero_le 300 }⟩
  ·have h3:=M6 (E8 h1)
   have h4:=Oe (Ew h2)
   obtain⟨h5,h6⟩:=V2 (k:=4) h3 h4 (by omega)
   exact⟨Gg (h5.mono (by omega) hB),Ak5 h6⟩
end
section
variable {l:List Sm}
theorem Dn (ht:t=0\/t=1) (hs:1<=st/\st<=2147483647) (hd:d.size<=256):bR (tQ t st d e):=by
 have h3:Hu 0=true:=by decide
 have h4:KY []=true:=Ahe rfl
 unfold bR sJ tQ
 simp[h3,h4,C9]
 omega
theorem UC (hd:d.size=8):bR (tQ 7 0 d false):=by
 have h3:Hu 0=true:=by decide
 have h4:KY []=true:=Ahe rfl
 unfold bR sJ tQ
 simp[h3,h4,C9,hd]
theorem Ps (ht:t=10\/t=11) (hs:0<=st/\st<=2147483647) (h0:t=11->1<=st) (hn:1<=n/\n<=2147483647):bR (zD t st n):=by
 have h2:=(oV n).2 ⟨by omega,hn.2⟩
 have h3:Hu 0=true:=by decide
 have h4:KY []=true:=Ahe rfl
 have h5:(⟨#[]⟩:ByteArray)=ByteArray.empty:=rfl
 unfold bR sJ zD
 simp[h2,h3,h4,h5,C9]
 omega
theorem RL:(xS n).size=8:=by
 have h1:=Int.emod_nonneg n (by decide:(2147483648:Int)≠0)
 have h2:=Int.emod_lt_of_pos n (by decide:(0:Int)<2147483648)
 unfold xS
 generalize n % 2147483648=k at h1 h2 ⊢
 have hm:jA k 4=0:=by
  unfold jA
  rw[if_neg (by decide),if_neg]
  rintro⟨_,h|h⟩
  ·omega
  ·have:((2:Int) ^ (8 * (4:Int)).toNat)=4294967296:=by decide
   rw[this] at h;omega
 have h0:jA 0 4=0:=by decide
 have hf:eP [⟨0,4,⟨#[]⟩⟩,⟨k,4,⟨#[]⟩⟩]=0:=by simp[eP,h0,hm]
 have hs:KL [⟨0,4,⟨#[]⟩⟩,⟨k,4,⟨#[]⟩⟩] 0=8:=rfl
 have he:xT [⟨0,4,⟨#[]⟩⟩,⟨k,4,⟨#[]⟩⟩]=0:=by unfold xT;rw[if_pos hf,hs];rfl
 have:=(Iy he).2.1
 omega
theorem zT:∀f∈fA s,bR f/\f.ps= []/\f.pn=0:=fun f hf=>by
 unfold fA at hf
 split at hf
 ·cases hf
 ·rename_i hq
  rw[List.mem_singleton.1 hf]
  have h1:PL s.bt s.now=1:=by
   by_cases h:PL s.bt s.now=1
   ·exact h
   ·exact absurd (.inr (.inr h)) hq
  refine⟨UC ?_,rfl,rfl⟩
  unfold btD
  rw[if_pos h1];exact RL
theorem LJ (ht:t=10\/t=11) (hs:0<=st/\st<=2147483647) (h0:t=11->1<=st) (hn:n<=2147483647):∀f∈Eg t st n,bR f/\f.ps= []/\f.pn=0:=fun f hf=>by
 unfold Eg at hf
 split at hf
 ·rw[List.mem_singleton.1 hf]
  exact⟨Ps ht hs h0 (by omega),rfl,rfl⟩
 ·cases hf
theorem Alc {y:Ys} (h:QB y):Hz y<=2147483647:=by
 cases y with
 |b y=>
  obtain⟨h1,h2,h3,h4,h5,h6,h7,h8,h9⟩:=h
  show rJ y.cap y.gr y.us<=2147483647
  unfold rJ
  split <;> omega
 |i y=>
  obtain⟨h1,h2,h3,h4,h5,h6,h7,h8,h9,h10,h11⟩:=h
  show xO y.room y.op y.ask y.l<=2147483647
  unfold xO
  omega
theorem J5 (hI:bO B s) (hF:∀m∈s.l,FK m):∀f∈iR s,bR f/\f.ps= []/\f.pn=0:=fun f hf=>by
 unfold iR at hf
 rcases List.mem_append.1 hf with hf|hf
 ·have hr:=hI.rv
  unfold JV at hr
  refine LJ (.inl rfl) (by omega) (fun h=>by cases h) ?_ f hf
  unfold nH rJ
  split <;> omega
 ·obtain⟨m,hm,hf⟩:=List.mem_flatMap.1 hf
  have hid:=(hI.st m hm).id
  have hd:=Alc (hF m hm).2.1
  unfold mD at hf
  split at hf
  ·refine LJ ?_ (by omega) (fun _=>hid.1) (by omega) f hf
   split
   ·exact .inr rfl
   ·exact .inl rfl
  ·cases hf
theorem Tj (hI:bO B s) (hk:fY c s) {f:Fm} (h:(rV s).1=some f):bR f/\f.ps= []/\f.pn=0:=by
 cases hp:AD (s.pk,s.pc) (eI s) with
 |mk o q=>
  cases o with
  |none=>rw[HT hp] at h;cases h
  |some id=>
   obtain⟨m,hm,hr⟩:=CC hI hk hp
   rw[Ep hp hm hr] at h
   obtain⟨hi,hmid⟩:=aX hm
   have hmm:=List.mem_of_getElem? hi
   have hid:=(hI.st m hmm).id
   rw[<- Option.some.inj h]
   refine⟨Dn ?_ (by rw[<- hmid];exact hid) (E5 (hk.mo m hmm).sz),rfl,rfl⟩
   cases m.x
   ·exact .inl rfl
   ·exact .inr rfl
theorem BR:∀ {k:Nat} {s:Cn} {B:Int},bO B s->fY c s->B+300 * k<=250000000->∀f∈(eH k s).1,bR f/\f.ps= []/\f.pn=0
 |0,s,B,hI,hk,hB,f,hf=>by cases hf
 |k+1,s,B,hI,hk,hB,f,hf=>by
  obtain⟨h1,h2⟩:=Vi hI hk (by omega)
  unfold eH at hf
  cases h:rV s with
  |mk o z=>
   rw[h] at h1 h2 hf
   cases o with
   |none=>cases hf
   |some y=>
    rcases List.mem_cons.1 hf with rfl|hf
    ·exact Tj hI hk (by rw[h])
    ·exact BR h1 h2 (by omega) f hf
theorem Zl {l:List Fm}:kC (l.map jH)=kC l:=by
 unfold kC
 rw[List.flatMap_map];rfl
theorem rA {l l':List Fm}:kC (l++l')=kC l++kC l':=by
 unfold kC
 rw[List.flatMap_append]
theorem S6:bR (jH y)↔bR y:=Iff.rfl
def t7 (s:Cn):List Fm:=fA (aD s)++(bH (aD s)).out++iR { bH (aD s) with out:= [] }++(eH 4 (zY { bH (aD s) with out:= [] })).1
end
section
variable {l:List Sm}
def Aes (y:Fm):Fm:=⟨y.t,y.st,y.e,y.d,y.k,y.on,y.w,y.x,y.c,y.la,y.n,y.pa,y.pn,y.pc,[]⟩
theorem Agq {A:Option Addr} {L ys:List Fm}:aG (bV A k 178 u7 (L++ys++ [Aes y])::zP y::lS zP ys::R) (bV A k 178 u7 (L++(ys++ [y]))::lS zP (ys++ [y])::R):=
 aG.imp (Qo (by simp only[List.flatMap_append,List.append_assoc];rfl) (by simp)) (aG.allsnoc (P:=zP) (x:=y) BO BW)
theorem Mm (h:(bH s).dr.ov=false):(bH s).out=s.out:=by
 unfold bH at h ⊢
 split
 ·rename_i hq
  rw[if_pos hq,EQ (by decide)] at h;cases h
 ·rename_i hq
  rw[if_neg hq] at h
  split
  ·rename_i hf
   rw[if_pos hf,EQ (by decide)] at h;cases h
  ·rfl
theorem Ago (h:(bH s).dr.ov=false):(bH s).l=s.l:=by
 unfold bH at h ⊢
 split
 ·rename_i hq
  rw[if_pos hq,EQ (by decide)] at h;cases h
 ·rename_i hq
  rw[if_neg hq] at h
  split
  ·rename_i hf
   rw[if_pos hf,EQ (by decide)] at h;cases h
  ·rfl
theorem Al5 (h:y.ps= []) (hn:y.pn=0):FmV C y:=⟨by rw[h];exact eN,by rw[h,hn];rfl⟩
theorem OR (h1:s.dr.ov=false) (h2:(bH (aD s)).dr.ov=false) (hr:∀f∈t7 s,bR f):cR s=(kC (t7 s),{ (eH 4 (zY { bH (aD s) with out:= [] })).2 with dr:=tP (eH 4 (zY { bH (aD s) with out:= [] })).2.dr (eH 4 (zY { bH (aD s) with out:= [] })).2.l.length }):=by
 have ha:(t7 s).all lM=true:=List.all_eq_true.2 fun f hf=>(iX f).2 (hr f hf)
 unfold cR
 rw[if_neg (by rw[h1];decide),if_neg (by rw[h2];decide)]
 show(T7 (t7 s),_)=_
 unfold T7
 rw[if_pos ha]
theorem yV {z:Cn}:eH (k+1) z=match rV z with
  |(none,s)=>([],s)
  |(some f,s)=>(f::(eH k s).1,(eH k s).2):=rfl
theorem F0:∀ {k:Nat} {s:Cn},(eH k s).1.length<=k
 |0,_=>Nat.le_refl _
 |k+1,s=>by
  rw[yV]
  split
  ·simp
  ·rename_i f z _
   have:=F0 (k:=k) (s:=z)
   simp only[List.length_cons];omega
theorem Zt {q:Nat} {out:List Fm} (h:out= []) (hK:K (I6 0) (SL q out::R)):CT 73 #[PO q] (SL q out::R) K:=by
 subst h;exact Sr hK
theorem LD:(fA s).length<=1:=by unfold fA;split <;> simp
def eK:List (Nat×Nat):= [(4,0),(5,0),(6,0),(7,0),(8,1),(0,1),(1,1),(2,1),(3,1),(9,1)]
theorem YN (hI:bO B s) (hk:fY c s) (hF:∀m∈s.l,FK m) (hB:B+1301<=250000000) (hK:∀M mc,K (.string ⟨(cR s).1.toArray⟩) (cB x a (cR s).2 M mc R)):CT 27 #[PO x] (cB x a s M mc R) K:=by
 have hbb:=hI.bb
 have hIb:=bI hI
 have hkb:=cQ hk
 cases ho:s.dr.ov
 ·have hI1:=J6 hIb (by omega)
  have hk1:=FG hIb hkb (by omega)
  cases ho1:(bH (aD s)).dr.ov
  ·have hou:=Mm ho1
   have hti:=Ago ho1
   have hI2:=E8 hI1
   have hk2:=Ew hk1
   have hI3:=M6 hI2
   have hk3:=Oe hk2
   have hF2:∀m∈({ bH (aD s) with out:= [] }:Cn).l,FK m:=fun m hm=>hF m (by have hm:m∈(bH (aD s)).l:=hm;rw[hti] at hm;exact hm)
   have hgr:=J5 hI2 hF2
   have hbr:=BR (k:=4) hI3 hk3 (by omega)
   have hfo:=hk1.fo
   have hr:∀f∈t7 s,bR f:=fun f hf=>by
    unfold t7 at hf
    rcases List.mem_append.1 hf with hf|hf
    ·rcases List.mem_append.1 hf with hf|hf
     ·rcases List.mem_append.1 hf with hf|hf
      ·exact(zT f hf).1
      ·exact(iX f).1 (hfo f hf).1
     ·exact(hgr f hf).1
    ·exact(hbr f hf).1
   rw[OR ho ho1 hr] at hK
   have hl0:=LD (s:=aD s)
   have hgl:(iR { bH (aD s) with out:= [] }).length<=65:=by
    have h1:=flat_len (l:=(bH (aD s)).l)
    have h2:=hI1.sm.1
    have h3:=En (t:=10) (st:=0) (n:=nH (bH (aD s)).rv)
    show(Eg 10 0 (nH (bH (aD s)).rv)++(bH (aD s)).l.flatMap mD).length<=65
    rw[List.length_append];omega
   have hst:t7 s=fA (aD s)++(bH (aD s)).out++iR { bH (aD s) with out:= [] }++(eH 4 (zY { bH (aD s) with out:= [] })).1:=rfl
   generalize hz2:({ bH (aD s) with out:= [] }:Cn)=z2 at hI2 hk2 hI3 hk3 hgr hbr hgl hK hst
   dsimp only at hK
   have hol:=hI1.ou.1
   refine aH Tryz.func27 ?_
   repeat' (first|refine SH ?_|refine dw eK ?_|refine w5 ?_ ?_|((refine bh fun h=>?_) <;> try exact w6 h)|(refine aE fun hA=>?_;subst hA)|intro _|(show aA _ 104 _ _ _;refine CA (h:=cE (x:=x) (a:=a) (s:=s) (M:=M) (mc:=mc) ?_);rw[ho,if_neg Bool.false_ne_true])|(show aA _ 106 _ _ _;refine CA (h:=GQ (x:=x) (a:=a) (s:=aD s) (M:=none) (mc:=0) hIb (by omega) (fun A0 c0 M1 mc1=>?_)))|(show aA _ 105 _ _ _;first|(refine CA (h:=kU (x:=x) (a:=a) (s:=aD s) (M:=none) (mc:=0) ?_);rw[show(aD s).dr.ov=false from ho])|(refine CA (h:=kU (x:=x) (a:=a) (s:=bH (aD s)) (M:=M1) (mc:=mc1) ?_);rw[ho1])))
   refine oR (aG.allnil (P:=zP) (aG.refl _)) ?_
   refine jG (fun n a' C'=>∃(ys rest L:List Fm) (A:Option Addr) (k:Nat),rest.length=n/\L=fA (aD s)++ys/\ys.map jH++rest=(bH (aD s)).out/\dP a' [(0,PO x),(3,.slice A L.length k)]/\C'=bV A k 178 u7 L::lS zP ys::cB x a { bH (aD s) with out:=rest } M1 mc1 R) (bH (aD s)).out.length (cN (bH (aD s)).out.length ⟨[],(bH (aD s)).out,fA (aD s),A0,c0,rfl,(List.append_nil _).symm,rfl,⟨rfl,rfl,trivial⟩,rfl⟩ (by omega)) ?_
   rintro n a' C' ⟨ys,rest,L,A,k,hn,rfl,hys,ha,rfl⟩
   refine iT _ ha ?_
   simp only[gH]
   have hyl:ys.length+rest.length=(bH (aD s)).out.length:=by rw[<- hys];simp
   cases rest with
   |cons f rest=>
    have hou2:Py (f::rest):=⟨by omega,fun y hy=>hI1.ou.2 y (by rw[<- hys];exact List.mem_append_right _ hy)⟩
    rw[List.length_cons] at hn hyl
    have hl3:∀y:Fm,(fA (aD s)++ys++ [Aes y]).length=(fA (aD s)++(ys++ [y])).length:=fun y=>by simp
    have hLy:(fA (aD s)++ys).length<=1000:=by rw[List.length_append];omega
    dsimp only[cB,rI]
    repeat' (first|(show aN _ _ _ _ _ _ _;(refine pV (E:=u7) (xs:=fA (aD s)++ys) (ys:= [Aes y0]) ?_;intro A2 k2))|refine SH ?_|refine dw eK ?_|refine w5 ?_ ?_|((refine bh fun h=>?_) <;> try exact w6 h)|(refine aE fun hA=>?_;subst hA)|intro _|(show aA _ 73 _ _ _;refine CA (h:=Sr (out:=f::rest) ?_))|(show aA _ 108 _ _ _;refine CA (h:=XX hou2 (fun y0 hy0=>?_))))
    all_goals(show aV _ _ _ _;exact uF (m:=n - 1) (C':=bV A2 k2 178 u7 (fA (aD s)++(ys++ [y0]))::lS zP (ys++ [y0])::cB x a { bH (aD s) with out:=rest } M1 mc1 R) (by omega) (aG.trans (by exact aZ) Agq) ⟨ys++ [y0],rest,fA (aD s)++(ys++ [y0]),A2,k2,by omega,rfl,by rw[List.map_append,List.append_assoc,<- hys,<- hy0];rfl,⟨rfl,congrArg (fun q=>Value.slice A2 q k2) (hl3 y0),trivial⟩,rfl⟩)
   |nil=>
    rw[List.append_nil] at hys
    rw[hz2]
    simp only[List.length_nil] at hyl
    have hLy:(fA (aD s)++ys).length<=1000:=by rw[List.length_append];omega
    have hz2o:z2.out= []:=by rw[<- hz2]
    dsimp only[cB,rI]
    repeat' (first|(show aN _ _ _ _ _ _ _;(refine pV (E:=u7) (xs:=fA (aD s)++ys) (ys:=iR z2) ?_;intro A4 k4))|refine SH ?_|refine dw eK ?_|refine w5 ?_ ?_|((refine bh fun h=>?_) <;> try exact w6 h)|(refine aE fun hA=>?_;subst hA)|intro _|(show aA _ 73 _ _ _;refine CA (h:=Zt (out:=z2.out) hz2o ?_))|(show aA _ 109 _ _ _;refine CA (h:=O6 (x:=x) (a:=a) (s:=z2) (M:=M1) (mc:=mc1) hI2 (fun A3 k3=>?_))))
    refine jG (fun n a' C'=>∃(j:Nat) (zs L:List Fm) (z:Cn) (A:Option Addr) (k:Nat) (M2:Option Addr) (mc2:Nat),j+n=4/\L=fA (aD s)++ys++iR z2++zs/\zs.length<=j/\bO (B+1+300 * j) z/\fY c z/\eH 4 (zY z2)=(zs++(eH n z).1,(eH n z).2)/\dP a' [(0,PO x),(3,.slice A L.length k),(44,I6 j)]/\C'=bV A k 178 u7 L::lS zP ys::cB x a z M2 mc2 R) 4 (cN 4 ⟨0,[],fA (aD s)++ys++iR z2,zY z2,A4,k4,M1,mc1,rfl,(List.append_nil _).symm,Nat.le_refl _,hI3.mono (by omega) (by omega),hk3,rfl,⟨rfl,rfl,rfl,trivial⟩,rfl⟩ (by omega)) ?_
    rintro n2 a2 C2 ⟨j,zs,L,z,A,k,M2,mc2,hj,hL,hzl,hIz,hkz,hb,ha2,rfl⟩
    refine iT _ ha2 ?_
    simp only[gH]
    have hyp:∀y∈ys,y.ps.length=y.pn:=fun y hy=>(hfo (jH y) (by rw[<- hys];exact List.mem_map_of_mem hy)).2.1
    have hLl:L.length<=1000000:=by rw[hL];simp only[List.length_append];omega
    have hfin:∀ {z':Cn},eH 4 (zY z2)=(zs,z')->kC (t7 s)=kC L/\(∀y∈L,bR y)/\∀y∈L,(y.ps= []/\y.pn=0)\/y∈ys:=fun {z'} hz=>by
     have h1:t7 s=fA (aD s)++ys.map jH++iR z2++zs:=by rw[hst,hz,<- hys]
     have h2:kC (t7 s)=kC L:=by rw[h1,hL,rA,rA,rA,rA,rA,rA,Zl]
     refine⟨h2,fun y hy=>?_,fun y hy=>?_⟩
     ·rw[hL] at hy
      rcases List.mem_append.1 hy with hy|hy
      ·rcases List.mem_append.1 hy with hy|hy
       ·rcases List.mem_append.1 hy with hy|hy
        ·exact(zT y hy).1
        ·exact S6.1 ((iX _).1 (hfo (jH y) (by rw[<- hys];exact List.mem_map_of_mem hy)).1)
       ·exact(hgr y hy).1
      ·exact(hbr y (by rw[hz];exact hy)).1
     ·rw[hL] at hy
      rcases List.mem_append.1 hy with hy|hy
      ·rcases List.mem_append.1 hy with hy|hy
       ·rcases List.mem_append.1 hy with hy|hy
        ·exact .inl (zT y hy).2
        ·exact .inr hy
       ·exact .inl (hgr y hy).2
      ·exact .inl (hbr y (by rw[hz];exact hy)).2
    by_cases hlt:j<4
    ·obtain⟨n3,rfl⟩:∃n3,n2=n3+1:=⟨n2 - 1,by omega⟩
     cases hp:AD (z.pk,z.pc) (eI z) with
     |mk o q=>
      cases o with
      |none=>
       rw[yV (k:=n3) (z:=z),HT hp] at hb
       dsimp only at hb
       rw[List.append_nil] at hb
       obtain⟨hE,hLr,hLp⟩:=hfin hb
       rw[hE,hb] at hK
       dsimp only at hK
       repeat' (first|refine SH ?_|refine dw eK ?_|refine w5 ?_ ?_|((refine bh fun h=>?_) <;> try exact w6 h)|(refine aE fun hA=>?_;subst hA)|intro _|(show aA _ 110 _ _ _;refine CA (h:=T4 (x:=x) (a:=a) (s:=z) (M:=M2) (mc:=mc2) hIz hkz hp ?_))|(show aA _ 60 _ _ _;refine CA (h:=Ae (l:=(Ace q z).l) ?_))|(show aA _ 111 _ _ _;refine CA (h:=QE (d:=(Ace q z).dr) ?_))|(show aA _ 112 _ _ _;refine CA (h:=Pb (xs:=L) hLr (by exact lF) (fun y hy=>(hLp y hy).elim (fun qq=>Al5 qq.1 qq.2) (fun qq=>⟨by((repeat (first|exact yD qq|apply bM)) <;> exact yD qq),hyp y qq⟩)) rfl hLl ?_)))
       all_goals(refine aC ?_;exact aB (hK _ _))
      |some id=>
       obtain⟨m,hm,hr2⟩:=CC hIz hkz hp
       have hIz2:=PT hIz hkz hm (by have:=OC (s:=(z.pk,z.pc)) (l:=eI z) hIz.pk;rw[hp] at this;exact this) (by omega)
       have hkz2:=RD hIz hkz hm (by have:=OC (s:=(z.pk,z.pc)) (l:=eI z) hIz.pk;rw[hp] at this;exact this) (by omega)
       rw[yV (k:=n3) (z:=z),Ep hp hm hr2] at hb
       dsimp only at hb
       repeat' (first|(show aN _ _ _ _ _ _ _;(refine pV (E:=u7) (xs:=L) (ys:= [Am id m z]) ?_;intro A5 k5))|refine SH ?_|refine dw eK ?_|refine w5 ?_ ?_|((refine bh fun h=>?_) <;> try exact w6 h)|(refine aE fun hA=>?_;subst hA)|intro _|(show aA _ 110 _ _ _;refine CA (h:=TW (x:=x) (a:=a) (s:=z) (M:=M2) (mc:=mc2) hIz hkz (by omega) hp hm hr2 (fun M3 mc3=>?_))))
       all_goals(show aV _ _ _ _;exact cN n3 ⟨j+1,zs++ [Am id m z],L++ [Am id m z],vR id m q z,A5,k5,M3,mc3,by omega,by rw[hL,List.append_assoc],by rw[List.length_append,List.length_singleton];omega,hIz2.mono (by omega) (by omega),hkz2,by rw[hb,List.append_assoc];rfl,⟨rfl,rfl,rfl,trivial⟩,rfl⟩)
    ·obtain rfl:n2=0:=by omega
     obtain rfl:j=4:=by omega
     have hb2:eH 4 (zY z2)=(zs,z):=by rw[hb];show(zs++ [],z)=_;rw[List.append_nil]
     obtain⟨hE,hLr,hLp⟩:=hfin hb2
     rw[hE,hb2] at hK
     dsimp only at hK
     dsimp only[cB,rI]
     repeat' (first|refine SH ?_|refine dw eK ?_|refine w5 ?_ ?_|((refine bh fun h=>?_) <;> try exact w6 h)|(refine aE fun hA=>?_;subst hA)|intro _|(show aA _ 60 _ _ _;refine CA (h:=Ae (l:=(z).l) ?_))|(show aA _ 111 _ _ _;refine CA (h:=QE (d:=(z).dr) ?_))|(show aA _ 112 _ _ _;refine CA (h:=Pb (xs:=L) hLr (by exact lF) (fun y hy=>(hLp y hy).elim (fun qq=>Al5 qq.1 qq.2) (fun qq=>⟨by((repeat (first|exact yD qq|apply bM)) <;> exact yD qq),hyp y qq⟩)) rfl hLl ?_)))
     all_goals(refine aC ?_;exact aB (hK _ _))
  ·have e:cR s=((bH (aD s)).last.data.toList,{ bH (aD s) with last:=⟨#[]⟩ }):=by unfold cR;rw[if_neg (by rw[ho];decide),if_pos ho1]
   rw[e] at hK
   have el:(⟨((bH (aD s)).last.data.toList).toArray⟩:ByteArray)=(bH (aD s)).last:=by simp
   dsimp only at hK
   rw[el] at hK
   refine aH Tryz.func27 ?_
   repeat' (first|refine SH ?_|refine dw eK ?_|refine w5 ?_ ?_|((refine bh fun h=>?_) <;> try exact w6 h)|(refine aE fun hA=>?_;subst hA)|intro _|(show aA _ 104 _ _ _;refine CA (h:=cE (x:=x) (a:=a) (s:=s) (M:=M) (mc:=mc) ?_);rw[ho,if_neg Bool.false_ne_true])|(show aA _ 106 _ _ _;refine CA (h:=GQ (x:=x) (a:=a) (s:=aD s) (M:=none) (mc:=0) hIb (by omega) (fun _ _ _ _=>?_)))|(show aA _ 105 _ _ _;first|(refine CA (h:=kU (x:=x) (a:=a) (s:=aD s) (M:=none) (mc:=0) ?_);rw[show(aD s).dr.ov=false from ho])|(refine CA (h:=kU (x:=x) (a:=a) (s:=bH (aD s)) ?_);rw[ho1]))|(show aA _ 107 _ _ _;refine CA (h:=Lm (x:=x) (a:=a) (s:=bH (aD s)) ?_)))
   all_goals(refine aC ?_;exact aB (hK _ _))
 ·have e:cR s=(s.last.data.toList,{ aD s with last:=⟨#[]⟩ }):=by unfold cR;rw[if_pos ho]
  rw[e] at hK
  have el:(⟨(s.last.data.toList).toArray⟩:ByteArray)=s.last:=by simp
  dsimp only at hK
  rw[el] at hK
  refine aH Tryz.func27 ?_
  repeat' (first|refine SH ?_|refine dw eK ?_|refine w5 ?_ ?_|((refine bh fun h=>?_) <;> try exact w6 h)|(refine aE fun hA=>?_;subst hA)|intro _|(show aA _ 104 _ _ _;refine CA (h:=cE (x:=x) (a:=a) (s:=s) (M:=M) (mc:=mc) ?_);rw[ho,if_pos rfl])|(show aA _ 105 _ _ _;refine CA (h:=kU (x:=x) (a:=a) (s:=aD s) (M:=none) (mc:=0) ?_);rw[show(aD s).dr.ov=true from ho])|(show aA _ 107 _ _ _;refine CA (h:=Lm (x:=x) (a:=a) (s:=aD s) ?_)))
  all_goals(refine aC ?_;exact aB (hK _ _))
end
theorem U0 (h:sd=0\/sd=1) (hK:∀p,K (.tuple #[PO p,I6 0]) (pt p [I6 sd,I6 (sd+1),I6 0] 279::R)):CT 91 #[I6 sd] R K:=by
 rcases h with rfl|rfl
 all_goals
  refine aH Tryz.func91 ?_
  repeat' (first|refine v42 ?_|refine w5 ?_ ?_|((refine bh fun h=>?_) <;> try exact w6 h)|(refine aE fun hA=>?_;subst hA)|intro _)
  all_goals(refine aC ?_;exact aB (hK _))
theorem NE (h:0<=n/\n<=1048576) (hK:∀p,K (.tuple #[PO p,I6 0]) (slP p ⟨n,0,0,false,false⟩::R)):CT 94 #[I6 n] R K:=by
 unfold slP at hK
 refine aH Tryz.func94 ?_
 repeat' (first|refine v6 ?_|refine w5 ?_ ?_|((refine bh fun h=>?_) <;> try exact w6 h)|(refine aE fun hA=>?_;subst hA)|intro _)
 all_goals(refine aC ?_;exact aB (hK _))
theorem OD (hK:∀p,K (PO p) (Ei p ⟨false,false,false,0,0,0⟩::R)):CT 88 #[] R K:=by
 unfold Ei at hK
 refine aH Tryz.func88 ?_
 repeat' (first|refine v6 ?_|refine w5 ?_ ?_|((refine bh fun h=>?_) <;> try exact w6 h)|(refine aE fun hA=>?_;subst hA)|intro _)
 all_goals(refine aC ?_;exact aB (hK _))
theorem Oi (hK:∀p,K (.tuple #[PO p,I6 0]) (JB p []::R)):CT 95 #[I6 64] R K:=
 aA.entK (Aet (by decide) fun p=>⟨_,aG.trans (aG.trans (aG.cons (aG.nilrow _ _ _)) (aG.cons (aG.cons (Mx (f:=SF))))) (zQ (q:= []) ⟨rfl,fun e he=>by cases he⟩ rfl rfl),hK p⟩)
theorem Rj (hK:∀p q,K (.tuple #[PO p,I6 0]) (pt p [I6 64,.map (some q)] 287::mp q (kM sG []) 0::R)):CT 96 #[I6 64] R K:=by
 refine aH Tryz.func96 ?_
 repeat' (first|refine v6 ?_|refine w5 ?_ ?_|((refine bh fun h=>?_) <;> try exact w6 h)|(refine aE fun hA=>?_;subst hA)|intro _|(show aN _ _ _ _ _ _ _;refine GA ?_;intro _))
 all_goals(refine aC ?_;exact aB (hK _ _))
def rH:dZ:=⟨64,8,4⟩
theorem MY (hK:∀p,K (PO p) (Wg p ⟨rH,rH,[]⟩::R)):CT 86 #[] R K:=by
 refine aH Tryz.func86 ?_
 repeat' (first|refine v21 ?_|refine w5 ?_ ?_|((refine bh fun h=>?_) <;> try exact w6 h)|(refine aE fun hA=>?_;subst hA)|intro _|(show aA _ 87 _ _ _;refine CA (h:=Ix ?_)))
 all_goals(refine aC ?_;exact aK (aG.trans (by exact aZ) ((aG.ex (g:=fun A=>fB fun c=>sep (pt _ [I6 64,I6 8,I6 4,I6 64,I6 8,I6 4,.slice A 0 c] 266) (bV A c 23 Hg [])) none (aG.ex 0 (aG.sep (aG.cons (aG.nilrow _ _ _))))))) (hK _))
def iB (sd:Int) (cf:Cf):Cn:= { cf:=cf,sd:=sd,nx:=sd+1,la:=0,l:= [],tr:=([],0),pk:= [],pc:=0,ld:=⟨512,0,[]⟩,rv:=⟨512,512,512,0,0⟩,sh:=⟨rH,MZ rH ⟨cf.w,cf.st,cf.it⟩,[⟨cf.w,cf.st,cf.it⟩]⟩,pe:=rH,bt:=⟨cf.ev,cf.wa,0,0,false,false,0,0⟩,sl:=⟨cf.sl,0,0,false,false⟩,dr:=⟨false,false,false,0,0,0⟩,out:=wK (vK (Ds rH ⟨cf.w,cf.st,cf.it⟩)) [],inb:= [],ine:=0,now:=0,last:=⟨#[]⟩,mv:= [] }
structure Dq (cf:Cf):Prop where
 s:rT cf.w cf.st cf.it=true
 sb:0<=cf.sb/\cf.sb<=4096
 si:0<=cf.si/\cf.si<=64
 sg:0<=cf.sg/\cf.sg<=2
 ev:0<=cf.ev/\cf.ev<=1048576
 wa:0<=cf.wa/\cf.wa<=1048576
 sl:0<=cf.sl/\cf.sl<=1048576
def Gu:List (Nat×Nat):= [(1,1),(2,1),(3,1),(4,1),(5,1),(6,1),(0,6),(7,0),(8,1),(9,0)]
def Fo:List (Nat×Nat):= [(0,0),(1,0),(2,0),(3,0),(4,0),(5,0),(6,1),(7,0),(8,0),(9,0),(10,0),(11,0)]
theorem Aee (hs:sd=0\/sd=1) (h:Dq cf) (hK:∀x a,K (.tuple #[PO x,I6 0]) (cB x a (iB sd cf) none 0 R)):CT 24 #[I6 sd,.agg #[I6 cf.w,I6 cf.st,I6 cf.it,I6 cf.sb,I6 cf.si,I6 cf.sg,I6 cf.ev,I6 cf.wa,I6 cf.sl]] R K:=by
 obtain⟨h1,h2,h3,h4,h5,h6,h7⟩:=h
 have hK:∀x r1 r2 r3 r4 r5 r6 r7 r8 r9 r10 r11 r12 r13 r14,K (.tuple #[PO x,I6 0]) (cB x ⟨r1,r2,r3,r4,r5,r6,r7,r8,r9,r10,r11,r12,r13,r14⟩ (iB sd cf) none 0 R):=fun x r1 r2 r3 r4 r5 r6 r7 r8 r9 r10 r11 r12 r13 r14=>hK x ⟨r1,r2,r3,r4,r5,r6,r7,r8,r9,r10,r11,r12,r13,r14⟩
 dsimp only[cB,rI,iB] at hK
 have hlen:=OU (u:=rH) (v:=⟨cf.w,cf.st,cf.it⟩)
 have hse:g8 ⟨rH,rH,[]⟩ ⟨cf.w,cf.st,cf.it⟩=0:=by unfold g8;rw[if_neg (by rw[h1];decide)];rfl
 have hss:eB ⟨rH,rH,[]⟩ ⟨cf.w,cf.st,cf.it⟩=⟨rH,MZ rH ⟨cf.w,cf.st,cf.it⟩,[⟨cf.w,cf.st,cf.it⟩]⟩:=by unfold eB;rw[if_pos hse];rfl
 refine aH Tryz.func24 ?_
 repeat' (first|refine Bw ?_|refine dw Gu ?_|refine dw Fo ?_|refine w5 ?_ ?_|((refine bh fun h=>?_) <;> try exact w6 h)|(refine aE fun hA=>?_;subst hA)|intro _|(show aA _ 85 _ _ _;refine CA (h:=Aa7 (fun _ _=>?_)))|(show aA _ 86 _ _ _;refine CA (h:=MY (fun _=>?_)))|(show aA _ 87 _ _ _;refine CA (h:=Ix ?_))|(show aA _ 88 _ _ _;refine CA (h:=OD (fun _=>?_)))|(show aA _ 89 _ _ _;refine CA (h:=Aa5 (fun _=>?_)))|(show aA _ 90 _ _ _;refine CA (h:=Ahw (fun _=>?_)))|(show aA _ 91 _ _ _;refine CA (h:=U0 hs (fun _=>?_)))|(show aA _ 92 _ _ _;refine CA (h:=Alo h3 h4 h1 h2 ?_))|(show aA _ 93 _ _ _;refine CA (h:=Ad5 h5 h6 (fun _=>?_)))|(show aA _ 94 _ _ _;refine CA (h:=NE h7 (fun _=>?_)))|(show aA _ 95 _ _ _;refine CA (h:=Oi (fun _=>?_)))|(show aA _ 96 _ _ _;refine CA (h:=Rj (fun _ _=>?_)))|(show aA _ 97 _ _ _;refine CA (h:=Ad9 (by decide) (fun _=>?_)))|(show aA _ 98 _ _ _;refine CA (h:=Qk (by decide) (fun _=>?_)))|(show aA _ 99 _ _ _;refine CA (h:=Gd (s:=⟨rH,rH,[]⟩) (t:=⟨cf.w,cf.st,cf.it⟩) (by decide) (fun Aq cq=>?_));rw[hse,hss];simp only[if_true])|(show aA _ 100 _ _ _;refine CA (h:=kV (out:= []) (f:=⟨5,0,false,⟨#[]⟩,0,0,0,false,0,0,0,Aq,(Ds rH ⟨cf.w,cf.st,cf.it⟩).length,cq,Ds rH ⟨cf.w,cf.st,cf.it⟩⟩) OL (by exact lF) rfl (by show(Ds rH ⟨cf.w,cf.st,cf.it⟩).length<1000000000000000;omega) ?_)))
 all_goals(refine aC ?_;exact aB (hK _ _ _ _ _ _ _ _ _ _ _ _ _ _ _))
end Go.Proofs.YtepnmcipkangkaaGreat
namespace Go.Proofs.YtepnmcipkangkaaGreat
open Go Go.Proofs Go.Sl
attribute [local irreducible] aN fJ cY bN aM aS aA dM dN aV dL pt ro fB star sep bF
variable {R C:List HP} {K:KP} {p c k m:Nat} {n:Int} {s u v:ByteArray} {A:Option Addr}
section
structure Lk where
 b:List UInt8
 ca:Int
 we:Int
def Kt (l:Lk):Prop:=l.b.length<=1048576/\0<=l.ca/\l.ca<=1000000000000/\0<=l.we/\l.we<=1000000000000
def pY (p:Nat) (l:Lk):HP:=fB fun A=>fB fun c=>sep (pt p [.slice A l.b.length c,I6 1048576,I6 l.ca,I6 l.we] 270) (sep (oI A dT l.b) (bF (l.b.length<=c)))
variable {l:Lk}
theorem Ad (h:l.b.length<=c) (hk:l.b.length=k):aG (pt p [.slice A k c,I6 1048576,I6 l.ca,I6 l.we] 270::oI A dT l.b::R) (pY p l::R):=by
 subst hk
 exact aG.ex A (aG.ex c (aG.sep (aG.pick aU.here (aG.sep (aG.pick aU.here (aG.pure h (aG.refl _)))))))
theorem B7 {f:FuncId} {args:Array Value} (h:∀A c,l.b.length<=c->CT f args (pt p [.slice A l.b.length c,I6 1048576,I6 l.ca,I6 l.we] 270::oI A dT l.b::R) K):CT f args (pY p l::R) K:=
 aA.ex fun A=>aA.ex fun c=>aA.sep (aA.ent (aG.trans (aG.cons aG.unsep) (fun _ hs=>(hs.perm (List.Perm.trans (List.Perm.cons _ (List.Perm.swap _ _ _)) (List.Perm.swap _ _ _))))) (aA.pure fun hI=>h A c hI))
theorem Amv:aG (pt p [.slice none 0 0,I6 1048576,I6 0,I6 0] 270::R) (pY p ⟨[],0,0⟩::R):=fun H hs=>by
 have h1:=aG.cons (aG.nilrow 5 dT R) H hs
 have h2:=wF (aU.there aU.here) (aG.refl _) H h1
 exact Ad (l:=⟨[],0,0⟩) (c:=0) (Nat.le_refl 0) rfl H h2.swap
theorem Pt (hK:∀p,K (.tuple #[PO p,I6 0]) (pY p ⟨[],0,0⟩::R)):CT 74 #[I6 1048576] R K:=by
 refine aH Tryz.func74 ?_
 repeat' (first|refine v6 ?_|refine w5 ?_ ?_|((refine bh fun h=>?_) <;> try exact w6 h)|(refine aE fun hA=>?_;subst hA)|intro _)
 all_goals(refine aC ?_;exact aK (aG.trans (by exact aZ) ((Amv))) (hK _))
theorem Aeo (hK:K (I6 (l.b.length:Nat)) (pY p l::R)):CT 161 #[PO p] (pY p l::R) K:=by
 refine B7 fun A c hc=>?_
 refine aH Tryz.func161 ?_
 repeat' (first|refine v4 ?_|refine w5 ?_ ?_|((refine bh fun h=>?_) <;> try exact w6 h)|(refine aE fun hA=>?_;subst hA)|intro _)
 all_goals(refine aC ?_;exact aK (aG.trans (by exact aZ) ((Ad (l:=l) hc rfl))) (hK))
theorem EY (hK:K (.string ⟨l.b.toArray⟩) (pY p l::R)):CT 165 #[PO p] (pY p l::R) K:=by
 refine B7 fun A c hc=>?_
 refine aH Tryz.func165 ?_
 repeat' (first|refine v20 ?_|refine w5 ?_ ?_|((refine bh fun h=>?_) <;> try exact w6 h)|(refine aE fun hA=>?_;subst hA)|intro _)
 all_goals(refine aC ?_;exact aK (aG.trans (by exact aZ) ((Ad (l:=l) hc rfl))) (hK))
theorem Amp (hk:l.b.length=k):aG (bV A c 5 dT l.b::pt p [.slice A k c,I6 1048576,I6 l.ca,I6 l.we] 270::R) (pY p l::R):=fun H hs=>by
 have h1:=Ii hs
 have h2:=wF aU.here (aG.refl _) H hs
 exact Ad h1 hk H h2.swap
def vY:List (Nat×Nat):= [(0,0),(1,0),(2,0),(3,0),(4,0),(5,0),(6,0),(7,0),(8,0),(9,0),(10,0),(11,0),(12,0),(13,0)]
theorem LL (hI:Kt l) (hu:u.size<=1048576) (hv:v.size<=1048576) (h:(s.size:Int)<=1048576 - l.b.length) (hK:K (I6 0) (pY p ⟨(u++s++v).data.toList,l.ca+s.size,l.we⟩::R)):CT 164 #[PO p,.string u,.string s,.string v] (pY p l::R) K:=by
 obtain⟨h1,h2,h3,h4,h5⟩:=hI
 refine B7 fun A c hc=>?_
 have e:(u++s++v).size=(u++s++v).data.toList.length:=Array.length_toList.symm
 have e3:(u++s).size=u.size+s.size:=ByteArray.size_append ..
 refine aH Tryz.func164 ?_
 repeat' (first|refine v66 ?_|refine dw vY ?_|refine w5 ?_ ?_|((refine bh fun h=>?_) <;> try exact w6 h)|(refine aE fun hA=>?_;subst hA)|intro _)
 all_goals(refine aC ?_;exact aK (aG.trans (by exact aZ) ((Amp (l:=⟨(u++s++v).data.toList,l.ca+s.size,l.we⟩) e.symm))) (hK))
theorem La (hI:Kt l) (h:1048576 - l.b.length<(s.size:Int)) (hK:K (I6 9) (pY p l::R)):CT 164 #[PO p,.string u,.string s,.string v] (pY p l::R) K:=by
 obtain⟨h1,h2,h3,h4,h5⟩:=hI
 refine B7 fun A c hc=>?_
 refine aH Tryz.func164 ?_
 repeat' (first|refine v66 ?_|refine dw vY ?_|refine w5 ?_ ?_|((refine bh fun h=>?_) <;> try exact w6 h)|(refine aE fun hA=>?_;subst hA)|intro _)
 all_goals(refine aC ?_;exact aK (aG.trans (by exact aZ) ((Ad (l:=l) hc rfl))) (hK))
def WU (s:ByteArray) (l:Lk):Int:=if 1048576 - (l.b.length:Int)<s.size then 9 else 0
def zE (s:ByteArray) (l:Lk):Lk:=if WU s l=0 then⟨l.b++s.data.toList,l.ca+s.size,l.we⟩ else l
def zN (s:ByteArray) (l:Lk):Lk:=if WU s l=0 then⟨s.data.toList++l.b,l.ca+s.size,l.we⟩ else l
def AU (n:Int) (l:Lk):Nat:=(max (min n l.b.length) 0).toNat
def xR (n:Int) (l:Lk):Lk:=⟨l.b.drop (AU n l),l.ca,l.we+AU n l⟩
theorem XK (hI:Kt l) (hK:K (I6 (WU s l)) (pY p (zE s l)::R)):CT 162 #[PO p,.string s] (pY p l::R) K:=by
 unfold zE at hK
 by_cases h:1048576 - (l.b.length:Int)<s.size
 ·have e:WU s l=9:=if_pos h
  rw[e,if_neg (by decide)] at hK
  refine aH Tryz.func162 ?_
  repeat' (first|refine v0 ?_|refine w5 ?_ ?_|((refine bh fun h=>?_) <;> try exact w6 h)|(refine aE fun hA=>?_;subst hA)|intro _|(show aA _ 165 _ _ _;refine CA (h:=EY ?_))|(show aA _ 164 _ _ _;refine CA (h:=La hI h ?_)))
  all_goals(refine aC ?_;exact aB (hK))
 ·have e:WU s l=0:=if_neg h
  rw[e,if_pos rfl] at hK
  have e2:(⟨l.b.toArray⟩++s++(⟨#[]⟩:ByteArray)).data.toList=l.b++s.data.toList:=by simp[ByteArray.data_append]
  rw[<- e2] at hK
  have eu:(⟨l.b.toArray⟩:ByteArray).size<=1048576:=by have:=hI.1;simpa[ByteArray.size] using this
  refine aH Tryz.func162 ?_
  repeat' (first|refine v0 ?_|refine w5 ?_ ?_|((refine bh fun h=>?_) <;> try exact w6 h)|(refine aE fun hA=>?_;subst hA)|intro _|(show aA _ 165 _ _ _;refine CA (h:=EY ?_))|(show aA _ 164 _ _ _;refine CA (h:=LL hI eu (by decide) (by omega) ?_)))
  all_goals(refine aC ?_;exact aB (hK))
theorem Ki (hI:Kt l) (hK:K (I6 (WU s l)) (pY p (zN s l)::R)):CT 84 #[PO p,.string s] (pY p l::R) K:=by
 unfold zN at hK
 by_cases h:1048576 - (l.b.length:Int)<s.size
 ·have e:WU s l=9:=if_pos h
  rw[e,if_neg (by decide)] at hK
  refine aH Tryz.func84 ?_
  repeat' (first|refine v0 ?_|refine w5 ?_ ?_|((refine bh fun h=>?_) <;> try exact w6 h)|(refine aE fun hA=>?_;subst hA)|intro _|(show aA _ 165 _ _ _;refine CA (h:=EY ?_))|(show aA _ 164 _ _ _;refine CA (h:=La hI h ?_)))
  all_goals(refine aC ?_;exact aB (hK))
 ·have e:WU s l=0:=if_neg h
  rw[e,if_pos rfl] at hK
  have e2:((⟨#[]⟩:ByteArray)++s++⟨l.b.toArray⟩).data.toList=s.data.toList++l.b:=by simp[ByteArray.data_append]
  rw[<- e2] at hK
  have eu:(⟨l.b.toArray⟩:ByteArray).size<=1048576:=by have:=hI.1;simpa[ByteArray.size] using this
  refine aH Tryz.func84 ?_
  repeat' (first|refine v0 ?_|refine w5 ?_ ?_|((refine bh fun h=>?_) <;> try exact w6 h)|(refine aE fun hA=>?_;subst hA)|intro _|(show aA _ 165 _ _ _;refine CA (h:=EY ?_))|(show aA _ 164 _ _ _;refine CA (h:=LL hI (by decide) eu (by omega) ?_)))
  all_goals(refine aC ?_;exact aB (hK))
theorem Y6 {ca we:Int} (hK:K (I6 (m:Nat)) (pt p [.slice A m c,I6 1048576,I6 ca,I6 we] 270::R)):CT 161 #[PO p] (pt p [.slice A m c,I6 1048576,I6 ca,I6 we] 270::R) K:=by
 refine aH Tryz.func161 ?_
 repeat' (first|refine v4 ?_|refine w5 ?_ ?_|((refine bh fun h=>?_) <;> try exact w6 h)|(refine aE fun hA=>?_;subst hA)|intro _)
 all_goals(refine aC ?_;exact aB (hK))
def D9:List (Nat×Nat):= [(1,0),(2,1),(0,1),(3,0),(4,0),(5,0)]
theorem Lt {r2 r3:Nat} {ca we:Int} (hK:K (I6 (max (min n m) 0)) (pt r3 [I6 n] 3::pt r2 [PO p] 142::pt p [.slice A m c,I6 1048576,I6 ca,I6 we] 270::R)):CT 254 #[PO r3,PO r2] (pt r3 [I6 n] 3::pt r2 [PO p] 142::pt p [.slice A m c,I6 1048576,I6 ca,I6 we] 270::R) K:=by
 refine aH Tryz.func254 ?_
 repeat' (first|refine v17 ?_|refine dw D9 ?_|refine w5 ?_ ?_|((refine bh fun h=>?_) <;> try exact w6 h)|(refine aE fun hA=>?_;subst hA)|intro _|(show aA _ 161 _ _ _;refine CA (h:=Y6 ?_)))
 all_goals(refine aC ?_;exact aB (hK))
def wI:List (Nat×Nat):= [(0,0),(1,0),(2,0),(3,0),(4,0),(5,0),(6,0),(7,0),(8,0),(9,1)]
theorem Yx (hI:Kt l) (hK:K (.string ⟨(l.b.take (AU n l)).toArray⟩) (pY p (xR n l)::R)):CT 163 #[PO p,I6 n] (pY p l::R) K:=by
 obtain⟨h1,h2,h3,h4,h5⟩:=hI
 by_cases h0:max (min n l.b.length) 0=0
 ·have hk:AU n l=0:=by unfold AU;rw[h0];rfl
  have e:xR n l=l:=by unfold xR;rw[hk];simp
  rw[hk,e] at hK
  refine B7 fun A c hc=>?_
  refine aH Tryz.func163 ?_
  repeat' (first|refine v93 ?_|refine dw wI ?_|refine w5 ?_ ?_|((refine bh fun h=>?_) <;> try exact w6 h)|(refine aE fun hA=>?_;subst hA)|intro _|(show aA _ 254 _ _ _;refine CA (h:=Lt ?_);rw[h0]))
  all_goals(refine aC ?_;exact aK (aG.trans (by exact aZ) ((Ad (l:=l) hc rfl))) (hK))
 ·obtain⟨k,hk⟩:∃k:Nat,max (min n l.b.length) 0=(k:Int):=⟨(max (min n l.b.length) 0).toNat,by omega⟩
  have hkN:AU n l=k:=by unfold AU;rw[hk];rfl
  have hk1:0<k/\k<=l.b.length:=by omega
  unfold xR at hK
  rw[hkN] at hK
  refine B7 fun A c hc=>?_
  refine aH Tryz.func163 ?_
  have hz1:(l.b.drop ((k:Nat):Int).toNat).take (((l.b.length:Nat):Int).toNat - ((k:Nat):Int).toNat)=l.b.drop k:=by
   rw[Int.toNat_natCast,Int.toNat_natCast]
   exact List.take_of_length_le (by rw[List.length_drop];omega)
  have hz2:(l.b.drop (0:Int).toNat).take (((k:Nat):Int).toNat - (0:Int).toNat)=l.b.take k:=by simp
  have hz3:(List.take (((k:Nat):Int).toNat - (0:Int).toNat) (List.drop (0:Int).toNat l.b)).length=((k:Nat):Int).toNat:=by
   rw[hz2,List.length_take,Int.toNat_natCast]
   omega
  repeat' (first|refine v93 ?_|refine dw wI ?_|refine w5 ?_ ?_|((refine bh fun h=>?_) <;> try exact w6 h)|(refine aE fun hA=>?_;subst hA)|intro _|(show aA _ 254 _ _ _;refine CA (h:=Lt ?_);rw[hk]))
  all_goals rw[hz1,hz2]
  all_goals(refine aC ?_;exact aK (aG.trans (by exact aZ) ((Ad (l:=⟨l.b.drop k,l.ca,l.we+k⟩) (by rw[List.length_drop];omega) (by rw[List.length_drop];omega)))) (hK))
end
end Go.Proofs.YtepnmcipkangkaaGreat
namespace Go.Proofs.YtepnmcipkangkaaGreat
open Go Go.Proofs Go.Sl
attribute [local irreducible] aN fJ cY bN aM aS aA dM dN aV dL pt ro fB star sep bF
attribute [local irreducible] mp CV
variable {R C:List HP} {K:KP} {x mc d y pl po:Nat} {ad:Ca} {M:Option Addr} {B P side id cd on ww xw xs xi kd:Int} {a:AC} {l o:Lk} {cf:Cf} {b0 b1 xx:Bool} {z:ByteArray}
section
structure Td where
 e:Int
 n:Int
 s:ByteArray
 is:Bool
 en:Bool
def LZ (e:Int):Td:=⟨e,0,⟨#[]⟩,false,false⟩
def uQ (t:Td):Value:=.agg #[I6 t.e,I6 t.n,.string t.s,.bool t.is,.bool t.en]
def caT (a:AC) (s:Cn):Td:=
 if a.kd=1 then⟨mE a.n a.cd a.on a.ww a.xx s,if mE a.n a.cd a.on a.ww a.xx s=0 then s.nx else 0,⟨#[]⟩,false,false⟩
 else if a.kd=2 then⟨(BE a.id a.s s).2,(BE a.id a.s s).1,⟨#[]⟩,false,false⟩
 else if a.kd=3 then LZ (Tk a.id s)
 else if a.kd=4 then⟨(xA a.id a.n s).2.2,((xA a.id a.n s).1.size:Nat),(xA a.id a.n s).1,false,(xA a.id a.n s).2.1⟩
 else if a.kd=5 then⟨(uJ a.id s).2.2.2,0,(uJ a.id s).1,(uJ a.id s).2.1,(uJ a.id s).2.2.1⟩
 else if a.kd=6 then LZ (Uj a.id a.n s)
 else if a.kd=7 then LZ (ND a.id a.on a.ww a.xx s)
 else LZ (kQ a.id a.cd s)
def Y2 (a:AC) (s:Cn):Cn:=
 if a.kd=1 then mM a.n a.cd a.on a.ww a.xx s
 else if a.kd=2 then oW a.id a.s s
 else if a.kd=3 then Ax a.id s
 else if a.kd=4 then tV a.id a.n s
 else if a.kd=5 then tZ a.id s
 else if a.kd=6 then Ar a.id a.n s
 else if a.kd=7 then sI a.id a.on a.ww a.xx s
 else nC a.id a.cd s
variable {s:Cn} {c:Cf}
theorem caI (h:bO B s) (ha:a.s.size<=599) (hB:B+600<=250000000):bO (B+600) (Y2 a s):=by
 unfold Y2
 split
 ·exact(Agj h (by omega)).mono (by omega) hB
 ·split
  ·exact(X1 h (by omega)).mono (by omega) hB
  ·split
   ·exact(Ahy h).mono (by omega) hB
   ·split
    ·exact(Aeq h).mono (by omega) hB
    ·split
     ·exact(Agl h).mono (by omega) hB
     ·split
      ·exact(Ahk h).mono (by omega) hB
      ·split
       ·exact(Adg h).mono (by omega) hB
       ·exact(XY h).mono (by omega) hB
theorem caK (hI:bO B s) (h:fY c s):fY c (Y2 a s):=by
 unfold Y2
 split
 ·exact Aaz hI h
 ·split
  ·exact YR h
  ·split
   ·exact Aji h
   ·split
    ·exact Ae6 hI h
    ·split
     ·exact Agw hI h
     ·split
      ·exact Ajg h
      ·split
       ·exact Aco hI h
       ·exact Xk hI h
theorem caE (h:C5 s):C5 (Y2 a s):=by
 unfold Y2
 split
 ·exact Agg h
 ·split
  ·exact XO h
  ·split
   ·exact Ah7 h
   ·split
    ·exact Agm h
    ·split
     ·exact Ae2 h
     ·split
      ·exact Aja h
      ·split
       ·exact Acg h
       ·exact Zz h
theorem EP {e:Int} (hK:K (uQ (LZ e)) R):CT 77 #[I6 e] R K:=by
 unfold uQ LZ at hK
 refine aH Tryz.func77 ?_
 repeat' (first|refine v5 ?_|refine w5 ?_ ?_|((refine bh fun h=>?_) <;> try exact w6 h)|(refine aE fun hA=>?_;subst hA)|intro _)
 all_goals(refine aC ?_;exact aB (hK))
theorem Qr (hI:bO B s) (hd:a.s.size<=100000000) (hK:∀M mc,K (uQ (caT a s)) (cB x ad (Y2 a s) M mc R)):CT 81 #[PO x,.agg #[I6 a.kd,I6 a.sd,I6 a.id,I6 a.n,I6 a.cd,.string a.s,I6 a.on,I6 a.ww,.bool a.xx,I6 a.xw,I6 a.xs,I6 a.xi]] (cB x ad s M mc R) K:=by
 obtain⟨kd,sd,id,n,cd,z,on,ww,xx,xw,xs,xi⟩:=a
 dsimp only at hd ⊢
 unfold caT Y2 uQ at hK
 dsimp only at hK
 by_cases h1:kd=1
 ·subst h1
  simp only[if_true] at hK
  have hnn:s.nx+2 - 2=s.nx:=by omega
  by_cases hE:mE n cd on ww xx s=0
  ·rw[if_pos hE,hE] at hK
   refine aH Tryz.func81 ?_
   repeat' (first|refine KM ?_|refine w5 ?_ ?_|((refine bh fun h=>?_) <;> try exact w6 h)|(refine aE fun hA=>?_;subst hA)|intro _|(show aA _ 52 _ _ _;refine CA (h:=Tm (x:=x) (a:=ad) (s:=s) (M:=M) (mc:=mc) hI hE ?_);rw[hnn]))
   all_goals(refine aC ?_;exact aB (hK _ _))
  ·rw[if_neg hE] at hK
   have eo:mM n cd on ww xx s=aD s:=by unfold mM;rw[if_pos hE]
   rw[eo] at hK
   refine aH Tryz.func81 ?_
   repeat' (first|refine KM ?_|refine w5 ?_ ?_|((refine bh fun h=>?_) <;> try exact w6 h)|(refine aE fun hA=>?_;subst hA)|intro _|(show aA _ 52 _ _ _;refine CA (h:=SX (x:=x) (a:=ad) (s:=s) (M:=M) (mc:=mc) hI hE ?_)))
   all_goals(refine aC ?_;exact aB (hK _ _))
 ·rw[if_neg h1,if_neg h1] at hK
  by_cases h2:kd=2
  ·subst h2
   simp only[if_true] at hK
   refine aH Tryz.func81 ?_
   repeat' (first|refine KM ?_|refine w5 ?_ ?_|((refine bh fun h=>?_) <;> try exact w6 h)|(refine aE fun hA=>?_;subst hA)|intro _|(show aA _ 53 _ _ _;refine CA (h:=Uk (x:=x) (a:=ad) (s:=s) (M:=M) (mc:=mc) hI hd ?_)))
   all_goals(refine aC ?_;exact aB (hK _ _))
  ·rw[if_neg h2,if_neg h2] at hK
   by_cases h3:kd=3
   ·subst h3
    simp only[if_true] at hK
    refine aH Tryz.func81 ?_
    repeat' (first|refine KM ?_|refine w5 ?_ ?_|((refine bh fun h=>?_) <;> try exact w6 h)|(refine aE fun hA=>?_;subst hA)|intro _|(show aA _ 151 _ _ _;refine CA (h:=Aa2 (x:=x) (a:=ad) (s:=s) (M:=M) (mc:=mc) hI ?_))|(show aA _ 77 _ _ _;refine CA (h:=EP ?_)))
    all_goals(refine aC ?_;exact aB (hK _ _))
   ·rw[if_neg h3,if_neg h3] at hK
    by_cases h4:kd=4
    ·subst h4
     simp only[if_true] at hK
     refine aH Tryz.func81 ?_
     repeat' (first|refine KM ?_|refine w5 ?_ ?_|((refine bh fun h=>?_) <;> try exact w6 h)|(refine aE fun hA=>?_;subst hA)|intro _|(show aA _ 54 _ _ _;refine CA (h:=YS (x:=x) (a:=ad) (s:=s) (M:=M) (mc:=mc) hI (fun _ _=>?_))))
     all_goals(refine aC ?_;exact aB (hK _ _))
    ·rw[if_neg h4,if_neg h4] at hK
     by_cases h5:kd=5
     ·subst h5
      simp only[if_true] at hK
      refine aH Tryz.func81 ?_
      repeat' (first|refine KM ?_|refine w5 ?_ ?_|((refine bh fun h=>?_) <;> try exact w6 h)|(refine aE fun hA=>?_;subst hA)|intro _|(show aA _ 152 _ _ _;refine CA (h:=Z8 (x:=x) (a:=ad) (s:=s) (M:=M) (mc:=mc) hI (fun _ _=>?_))))
      all_goals(refine aC ?_;exact aB (hK _ _))
     ·rw[if_neg h5,if_neg h5] at hK
      by_cases h6:kd=6
      ·subst h6
       simp only[if_true] at hK
       refine aH Tryz.func81 ?_
       repeat' (first|refine KM ?_|refine w5 ?_ ?_|((refine bh fun h=>?_) <;> try exact w6 h)|(refine aE fun hA=>?_;subst hA)|intro _|(show aA _ 153 _ _ _;refine CA (h:=Adj (x:=x) (a:=ad) (s:=s) (M:=M) (mc:=mc) hI ?_))|(show aA _ 77 _ _ _;refine CA (h:=EP ?_)))
       all_goals(refine aC ?_;exact aB (hK _ _))
      ·rw[if_neg h6,if_neg h6] at hK
       by_cases h7:kd=7
       ·subst h7
        simp only[if_true] at hK
        refine aH Tryz.func81 ?_
        repeat' (first|refine KM ?_|refine w5 ?_ ?_|((refine bh fun h=>?_) <;> try exact w6 h)|(refine aE fun hA=>?_;subst hA)|intro _|(show aA _ 154 _ _ _;refine CA (h:=ZL (x:=x) (a:=ad) (s:=s) (M:=M) (mc:=mc) hI (fun _ _=>?_)))|(show aA _ 77 _ _ _;refine CA (h:=EP ?_)))
        all_goals(refine aC ?_;exact aB (hK _ _))
       ·rw[if_neg h7,if_neg h7] at hK
        refine aH Tryz.func81 ?_
        repeat' (first|refine KM ?_|refine w5 ?_ ?_|((refine bh fun h=>?_) <;> try exact w6 h)|(refine aE fun hA=>?_;subst hA)|intro _|(show aA _ 155 _ _ _;refine CA (h:=Ux (x:=x) (a:=ad) (s:=s) (M:=M) (mc:=mc) hI (fun _ _=>?_)))|(show aA _ 77 _ _ _;refine CA (h:=EP ?_)))
        all_goals(refine aC ?_;exact aB (hK _ _))
end
section
variable {c:Cn}
theorem jD (hK:K (.bool (decide (side=0\/side=1))) R):CT 79 #[I6 side] R K:=by
 have k1:∀v:Bool,v=decide (side=0\/side=1)->K (.bool v) R:=fun v hv=>hv▸hK
 refine aH Tryz.func79 ?_
 repeat' (first|refine v15 ?_|refine w5 ?_ ?_|((refine bh fun h=>?_) <;> try exact w6 h)|(refine aE fun hA=>?_;subst hA)|intro _)
 all_goals(refine aC ?_;exact aB (k1 _ (by simp[*] <;> rfl)))
def CN (a:AC) (c:Cn) (l o:Lk):Td:=
 if a.kd=9 then LZ (Abu c)
 else if a.kd=10 then LZ (TM ⟨a.xw,a.xs,a.xi⟩ c)
 else if a.kd=11 then⟨WU ⟨(cR c).1.toArray⟩ o,((cR c).1.length:Nat),⟨#[]⟩,false,false⟩
 else if a.kd=12 then⟨HE c,((l.b.take (AU a.n l)).length:Nat),⟨#[]⟩,false,false⟩
 else if a.kd=14 then LZ (WU a.s l)
 else caT a c
def lG (a:AC) (c:Cn) (l:Lk):Cn:=
 if a.kd=9 then EK c
 else if a.kd=10 then wO ⟨a.xw,a.xs,a.xi⟩ c
 else if a.kd=11 then(cR c).2
 else if a.kd=12 then fS (l.b.take (AU a.n l)) c
 else if a.kd=14 then c
 else Y2 a c
def k9 (a:AC) (l:Lk):Lk:=if a.kd=12 then xR a.n l else if a.kd=14 then zN a.s l else l
def mG (a:AC) (c:Cn) (o:Lk):Lk:=if a.kd=11 then zE ⟨(cR c).1.toArray⟩ o else o
structure CnG (cf:Cf) (B:Int) (c:Cn):Prop where
 I:bO B c
 K:fY cf c
 E:C5 c
def AH (cf:Cf) (P:Int) (c:Cn):Prop:=∃B,CnG cf B c/\B+34 * c.inb.length<=P
theorem Nb:∀(k:Nat) (a:List UInt8),a.length<=k->9 * (pF a).1.length+(pF a).2.1.length<=a.length:=fun k=>by
 induction k with
 |zero=>
  intro a h
  obtain rfl:a= []:=List.length_eq_zero_iff.1 (by omega)
  have hs:uV (hZ [])=some 0:=by unfold uV;rw[if_pos (by rw[i8];decide)]
  rw[uR hs]
  exact Nat.le_refl _
 |succ k ih=>
  intro a h
  cases hs:uV (hZ a) with
  |some e=>rw[uR hs];simp
  |none=>
   have hd:=yC hs
   have i1:=ih (a.drop (9+sL (hZ a)).toNat) (by omega)
   rw[EI hs]
   show 9 * ((pF (a.drop (9+sL (hZ a)).toNat)).1.length+1)+(pF (a.drop (9+sL (hZ a)).toNat)).2.1.length<=a.length
   omega
theorem Aef {u:List UInt8} (h:AH cf P c) (hB:P+35 * u.length<=248000000):AH cf (P+35 * u.length) (fS u c):=by
 obtain⟨B,hG,hP⟩:=h
 have h9:=Nb (c.inb++u).length (c.inb++u) (Nat.le_refl _)
 rw[List.length_append] at h9
 have hB2:B+u.length+300 * (pF (c.inb++u)).1.length<=250000000:=by omega
 cases ho:c.dr.ov
 ·refine⟨B+u.length+300 * (pF (c.inb++u)).1.length,⟨Aew hG.I hB2,Ahc hG.I hG.K hB2,Agp hG.E⟩,?_⟩
  have key:∀z:Cn,nN z=((pF (c.inb++u)).2.2,if(pF (c.inb++u)).2.2=0 then(pF (c.inb++u)).2.1 else [])->z.inb.length<=(pF (c.inb++u)).2.1.length:=fun z hz=>by
   have:=congrArg Prod.snd hz
   have:z.inb=if(pF (c.inb++u)).2.2=0 then(pF (c.inb++u)).2.1 else []:=this
   rw[this]
   split
   ·exact Nat.le_refl _
   ·exact Nat.zero_le _
  have hin:(fS u c).inb.length<=(pF (c.inb++u)).2.1.length:=by
   unfold fS
   rw[if_neg (by rw[ho];decide)]
   have h1:nN (cA (eC u (aD c)).1 (eC u (aD c)).2)=((pF (c.inb++u)).2.2,if(pF (c.inb++u)).2.2=0 then(pF (c.inb++u)).2.1 else []):=zH
   split
   ·exact key _ h1
   ·exact key (iA 0 (pF (c.inb++u)).2.2 (cA (eC u (aD c)).1 (eC u (aD c)).2)) (kD.trans h1)
  omega
 ·have e:fS u c=aD c:=by unfold fS;rw[if_pos ho]
  rw[e]
  exact⟨B,⟨bI hG.I,cQ hG.K,hG.E⟩,by show B+34 * (c.inb.length:Int)<=_;omega⟩
def AE (side:Int) (x y pl po:Nat) (b0 b1:Bool):List Value:=if side=0 then [PO x,PO y,PO pl,PO po,.bool b0,.bool b1] else [PO y,PO x,PO po,PO pl,.bool b0,.bool b1]
def Fy:List (Nat×Nat):= [(0,0),(1,0),(2,0),(3,0),(4,0),(5,0),(6,0),(7,1),(8,0)]
def FE:List (Nat×Nat):= [(0,0),(1,0),(2,0),(3,0),(4,0),(5,0),(6,0),(7,0),(8,0),(9,0)]
theorem MC (hs:side=0\/side=1) (hP:AH cf P c) (hB:P<=200000000) (ho:Kt o) (ha:a.sd=side) (hK:∀M mc,K (uQ ⟨WU ⟨(cR c).1.toArray⟩ o,((cR c).1.length:Nat),⟨#[]⟩,false,false⟩) (pt d (AE side x y pl po b0 b1) 146::pY po (zE ⟨(cR c).1.toArray⟩ o)::cB x ad (cR c).2 M mc R)):CT 82 #[PO d,.agg #[I6 a.kd,I6 a.sd,I6 a.id,I6 a.n,I6 a.cd,.string a.s,I6 a.on,I6 a.ww,.bool a.xx,I6 a.xw,I6 a.xs,I6 a.xi]] (pt d (AE side x y pl po b0 b1) 146::pY po o::cB x ad c M mc R) K:=by
 obtain⟨B,hG,hBP⟩:=hP
 obtain⟨kd,sd,id,n,cd,z,on,ww,xx,xw,xs,xi⟩:=a
 dsimp only at ha ⊢
 subst ha
 unfold uQ at hK
 have e:((⟨(cR c).1.toArray⟩:ByteArray).size:Int)=((cR c).1.length:Nat):=by simp[ByteArray.size]
 rcases hs with rfl|rfl
 all_goals
  simp only[AE,if_true,if_false,show ¬(1:Int)=0 by decide] at hK ⊢
  refine aH Tryz.func82 ?_
  repeat' (first|refine v75 ?_|refine dw Fy ?_|refine dw FE ?_|refine w5 ?_ ?_|((refine bh fun h=>?_) <;> try exact w6 h)|(refine aE fun hA=>?_;subst hA)|intro _|(show aA _ 27 _ _ _;refine CA (h:=Ag6 (s:=c) fun hF=>YN (x:=x) (a:=ad) (s:=c) (M:=M) (mc:=mc) hG.I hG.K hF (by omega) (fun _ _=>?_)))|(show aA _ 162 _ _ _;refine CA (h:=XK ho ?_)))
  all_goals(refine aC ?_;exact aB (hK _ _))
def AW:List (Nat×Nat):= [(0,0),(1,0),(2,0),(3,0),(4,0),(5,0),(6,0),(7,0),(8,0),(9,1),(10,0)]
def BH:List (Nat×Nat):= [(0,0),(1,0),(2,0),(3,0),(4,0),(5,0),(6,0),(7,0),(8,1),(9,1),(10,1),(11,0),(12,1)]
theorem EJ (hs:side=0\/side=1) (hP:AH cf P c) (hB:P<=200000000) (ho:Kt l) (ha:a.sd=side) (hK:∀M mc,K (uQ ⟨HE c,((l.b.take (AU a.n l)).length:Nat),⟨#[]⟩,false,false⟩) (pt d (AE side x y pl po b0 b1) 146::pY pl (xR a.n l)::cB x ad (fS (l.b.take (AU a.n l)) c) M mc R)):CT 83 #[PO d,.agg #[I6 a.kd,I6 a.sd,I6 a.id,I6 a.n,I6 a.cd,.string a.s,I6 a.on,I6 a.ww,.bool a.xx,I6 a.xw,I6 a.xs,I6 a.xi]] (pt d (AE side x y pl po b0 b1) 146::pY pl l::cB x ad c M mc R) K:=by
 obtain⟨B,hG,hBP⟩:=hP
 obtain⟨kd,sd,id,n,cd,z,on,ww,xx,xw,xs,xi⟩:=a
 dsimp only at ha hK ⊢
 subst ha
 unfold uQ at hK
 have hIb:=hG.E.2
 have hl:=ho.1
 generalize hu:l.b.take (AU n l)=u at hK
 have hul:u.length<=1048576:=by rw[<- hu,List.length_take];omega
 have e:((⟨u.toArray⟩:ByteArray).size:Int)=(u.length:Nat):=by simp[ByteArray.size]
 have e2:(⟨u.toArray⟩:ByteArray).data.toList=u:=by simp
 have h9:=Nb (c.inb++u).length (c.inb++u) (Nat.le_refl _)
 rw[List.length_append] at h9
 have hb2:B+((⟨u.toArray⟩:ByteArray).size:Int)+300 * ((pF (c.inb++(⟨u.toArray⟩:ByteArray).data.toList)).1.length:Int)<=248000000:=by rw[e,e2];omega
 rw[<- e] at hK
 rw[<- e2] at hK
 rcases hs with rfl|rfl
 all_goals
  simp only[AE,if_true,if_false,show ¬(1:Int)=0 by decide] at hK ⊢
  refine aH Tryz.func83 ?_
  repeat' (first|refine v75 ?_|refine dw AW ?_|refine dw BH ?_|refine w5 ?_ ?_|((refine bh fun h=>?_) <;> try exact w6 h)|(refine aE fun hA=>?_;subst hA)|intro _|(show aA _ 163 _ _ _;refine CA (h:=Yx ho ?_);rw[hu])|(show aA _ 29 _ _ _;refine CA (h:=X8 (x:=x) (a:=ad) (s:=c) (M:=M) (mc:=mc) hG.I hG.E.1 (by omega) hb2 (fun _ _=>?_))))
  all_goals(refine aC ?_;exact aB (hK _ _))
end
section
variable {c:Cn}
theorem Ro {r5 r3:Nat} (hI:bO B c) (hd:a.s.size<=100000000) (hK:∀M mc,K (uQ (caT a c)) (pt r5 [PO x] 38::pt r3 [I6 a.kd,I6 a.sd,I6 a.id,I6 a.n,I6 a.cd,.string a.s,I6 a.on,I6 a.ww,.bool a.xx,I6 a.xw,I6 a.xs,I6 a.xi] 60::cB x ad (Y2 a c) M mc R)):CT 80 #[PO r5,PO r3] (pt r5 [PO x] 38::pt r3 [I6 a.kd,I6 a.sd,I6 a.id,I6 a.n,I6 a.cd,.string a.s,I6 a.on,I6 a.ww,.bool a.xx,I6 a.xw,I6 a.xs,I6 a.xi] 60::cB x ad c M mc R) K:=by
 unfold uQ at hK
 refine aH Tryz.func80 ?_
 repeat' (first|refine v31 ?_|refine w5 ?_ ?_|((refine bh fun h=>?_) <;> try exact w6 h)|(refine aE fun hA=>?_;subst hA)|intro _|(show aA _ 81 _ _ _;refine CA (h:=Qr (x:=x) (ad:=ad) (s:=c) (a:=a) (M:=M) (mc:=mc) hI hd (fun _ _=>?_));unfold uQ))
 all_goals(refine aC ?_;exact aB (hK _ _))
theorem tK {e:Int} (hK:K (.agg #[I6 e,I6 0,.string ⟨#[]⟩,.bool false,.bool false]) R):CT 77 #[I6 e] R K:=EP hK
def bz (side i k:Int):Bool:=decide (side=i) && !decide (k=14)
def cJ:List (Nat×Nat):= [(7,1),(0,1),(1,1),(2,1),(3,1),(4,1),(5,1),(6,1),(8,1)]
def cK:List (Nat×Nat):= [(0,0),(1,0),(2,0),(3,0),(4,0),(5,0),(6,0),(7,0),(8,0),(9,1)]
def cH:List (Nat×Nat):= [(0,0),(1,0),(2,0),(3,0),(4,0),(5,0),(6,0),(7,0),(8,0),(9,1),(10,1),(11,1)]
theorem Yb {kd n:Int} (hs:side=0\/side=1) (hP:AH cf P c) (hB:P<=200000000) (hl:Kt l) (ho:Kt o) (hz:z.size<=599) (hK:∀M mc,K (uQ (CN ⟨9,side,id,n,cd,z,on,ww,xx,xw,xs,xi⟩ c l o)) (pt d (AE side x y pl po (bz side 0 9) (bz side 1 9)) 146::pY pl (k9 ⟨9,side,id,n,cd,z,on,ww,xx,xw,xs,xi⟩ l)::pY po (mG ⟨9,side,id,n,cd,z,on,ww,xx,xw,xs,xi⟩ c o)::cB x ad (lG ⟨9,side,id,n,cd,z,on,ww,xx,xw,xs,xi⟩ c l) M mc R)):CT 22 #[PO d,.agg #[I6 9,I6 side,I6 id,I6 n,I6 cd,.string z,I6 on,I6 ww,.bool xx,I6 xw,I6 xs,I6 xi]] (pt d (AE side x y pl po b0 b1) 146::pY pl l::pY po o::cB x ad c M mc R) K:=by
 have hP2:=hP
 obtain⟨B,hG,hBP⟩:=hP2
 simp only[CN,k9,mG,lG,Int.reduceEq,if_true,if_false,uQ,LZ] at hK
 rcases hs with rfl|rfl
 ·simp only[AE,bz,Int.reduceEq,if_true,if_false,decide_true,decide_false,Bool.true_and,Bool.false_and,Bool.not_false,Bool.not_true] at hK ⊢
  refine aH Tryz.func22 ?_
  repeat' (first|refine O1 ?_|refine dw cJ ?_|refine dw cK ?_|refine dw cH ?_|refine w5 ?_ ?_|((refine bh fun h=>?_) <;> try exact w6 h)|(refine aE fun hA=>?_;subst hA)|intro _|(show aA _ 79 _ _ _;refine CA (h:=jD ?_))|(show aA _ 77 _ _ _;refine CA (h:=tK ?_))|(show aA _ 55 _ _ _;refine CA (h:=V6 (x:=x) (a:=ad) (s:=c) (M:=M) (mc:=mc) hG.I ?_)))
  all_goals(refine aC ?_;exact aB (hK _ _))
 ·simp only[AE,bz,Int.reduceEq,if_true,if_false,decide_true,decide_false,Bool.true_and,Bool.false_and,Bool.not_false,Bool.not_true] at hK ⊢
  refine aH Tryz.func22 ?_
  repeat' (first|refine O1 ?_|refine dw cJ ?_|refine dw cK ?_|refine dw cH ?_|refine w5 ?_ ?_|((refine bh fun h=>?_) <;> try exact w6 h)|(refine aE fun hA=>?_;subst hA)|intro _|(show aA _ 79 _ _ _;refine CA (h:=jD ?_))|(show aA _ 77 _ _ _;refine CA (h:=tK ?_))|(show aA _ 55 _ _ _;refine CA (h:=V6 (x:=x) (a:=ad) (s:=c) (M:=M) (mc:=mc) hG.I ?_)))
  all_goals(refine aC ?_;exact aB (hK _ _))
theorem UA {kd n:Int} (hs:side=0\/side=1) (hP:AH cf P c) (hB:P<=200000000) (hl:Kt l) (ho:Kt o) (hz:z.size<=599) (hK:∀M mc,K (uQ (CN ⟨10,side,id,n,cd,z,on,ww,xx,xw,xs,xi⟩ c l o)) (pt d (AE side x y pl po (bz side 0 10) (bz side 1 10)) 146::pY pl (k9 ⟨10,side,id,n,cd,z,on,ww,xx,xw,xs,xi⟩ l)::pY po (mG ⟨10,side,id,n,cd,z,on,ww,xx,xw,xs,xi⟩ c o)::cB x ad (lG ⟨10,side,id,n,cd,z,on,ww,xx,xw,xs,xi⟩ c l) M mc R)):CT 22 #[PO d,.agg #[I6 10,I6 side,I6 id,I6 n,I6 cd,.string z,I6 on,I6 ww,.bool xx,I6 xw,I6 xs,I6 xi]] (pt d (AE side x y pl po b0 b1) 146::pY pl l::pY po o::cB x ad c M mc R) K:=by
 have hP2:=hP
 obtain⟨B,hG,hBP⟩:=hP2
 simp only[CN,k9,mG,lG,Int.reduceEq,if_true,if_false,uQ,LZ] at hK
 rcases hs with rfl|rfl
 ·simp only[AE,bz,Int.reduceEq,if_true,if_false,decide_true,decide_false,Bool.true_and,Bool.false_and,Bool.not_false,Bool.not_true] at hK ⊢
  refine aH Tryz.func22 ?_
  repeat' (first|refine O1 ?_|refine dw cJ ?_|refine dw cK ?_|refine dw cH ?_|refine w5 ?_ ?_|((refine bh fun h=>?_) <;> try exact w6 h)|(refine aE fun hA=>?_;subst hA)|intro _|(show aA _ 79 _ _ _;refine CA (h:=jD ?_))|(show aA _ 77 _ _ _;refine CA (h:=tK ?_))|(show aA _ 56 _ _ _;refine CA (h:=PG (x:=x) (a:=ad) (s:=c) (M:=M) (mc:=mc) (t:=⟨xw,xs,xi⟩) hG.I ?_)))
  all_goals(refine aC ?_;exact aB (hK _ _))
 ·simp only[AE,bz,Int.reduceEq,if_true,if_false,decide_true,decide_false,Bool.true_and,Bool.false_and,Bool.not_false,Bool.not_true] at hK ⊢
  refine aH Tryz.func22 ?_
  repeat' (first|refine O1 ?_|refine dw cJ ?_|refine dw cK ?_|refine dw cH ?_|refine w5 ?_ ?_|((refine bh fun h=>?_) <;> try exact w6 h)|(refine aE fun hA=>?_;subst hA)|intro _|(show aA _ 79 _ _ _;refine CA (h:=jD ?_))|(show aA _ 77 _ _ _;refine CA (h:=tK ?_))|(show aA _ 56 _ _ _;refine CA (h:=PG (x:=x) (a:=ad) (s:=c) (M:=M) (mc:=mc) (t:=⟨xw,xs,xi⟩) hG.I ?_)))
  all_goals(refine aC ?_;exact aB (hK _ _))
theorem UH {kd n:Int} (hs:side=0\/side=1) (hP:AH cf P c) (hB:P<=200000000) (hl:Kt l) (ho:Kt o) (hz:z.size<=599) (hK:∀M mc,K (uQ (CN ⟨11,side,id,n,cd,z,on,ww,xx,xw,xs,xi⟩ c l o)) (pt d (AE side x y pl po (bz side 0 11) (bz side 1 11)) 146::pY pl (k9 ⟨11,side,id,n,cd,z,on,ww,xx,xw,xs,xi⟩ l)::pY po (mG ⟨11,side,id,n,cd,z,on,ww,xx,xw,xs,xi⟩ c o)::cB x ad (lG ⟨11,side,id,n,cd,z,on,ww,xx,xw,xs,xi⟩ c l) M mc R)):CT 22 #[PO d,.agg #[I6 11,I6 side,I6 id,I6 n,I6 cd,.string z,I6 on,I6 ww,.bool xx,I6 xw,I6 xs,I6 xi]] (pt d (AE side x y pl po b0 b1) 146::pY pl l::pY po o::cB x ad c M mc R) K:=by
 have hP2:=hP
 obtain⟨B,hG,hBP⟩:=hP2
 simp only[CN,k9,mG,lG,Int.reduceEq,if_true,if_false,uQ,LZ] at hK
 rcases hs with rfl|rfl
 ·simp only[AE,bz,Int.reduceEq,if_true,if_false,decide_true,decide_false,Bool.true_and,Bool.false_and,Bool.not_false,Bool.not_true] at hK ⊢
  refine aH Tryz.func22 ?_
  repeat' (first|refine O1 ?_|refine dw cJ ?_|refine dw cK ?_|refine dw cH ?_|refine w5 ?_ ?_|((refine bh fun h=>?_) <;> try exact w6 h)|(refine aE fun hA=>?_;subst hA)|intro _|(show aA _ 79 _ _ _;refine CA (h:=jD ?_))|(show aA _ 82 _ _ _;refine CA (h:=MC (side:=0) (x:=x) (y:=y) (pl:=pl) (po:=po) (b0:=true) (b1:=false) (a:=⟨11,0,id,n,cd,z,on,ww,xx,xw,xs,xi⟩) (M:=M) (mc:=mc) (.inl rfl) hP hB ho rfl (fun _ _=>?_));simp only[AE,Int.reduceEq,if_true,if_false,uQ]))
  all_goals(refine aC ?_;exact aB (hK _ _))
 ·simp only[AE,bz,Int.reduceEq,if_true,if_false,decide_true,decide_false,Bool.true_and,Bool.false_and,Bool.not_false,Bool.not_true] at hK ⊢
  refine aH Tryz.func22 ?_
  repeat' (first|refine O1 ?_|refine dw cJ ?_|refine dw cK ?_|refine dw cH ?_|refine w5 ?_ ?_|((refine bh fun h=>?_) <;> try exact w6 h)|(refine aE fun hA=>?_;subst hA)|intro _|(show aA _ 79 _ _ _;refine CA (h:=jD ?_))|(show aA _ 82 _ _ _;refine CA (h:=MC (side:=1) (x:=x) (y:=y) (pl:=pl) (po:=po) (b0:=false) (b1:=true) (a:=⟨11,1,id,n,cd,z,on,ww,xx,xw,xs,xi⟩) (M:=M) (mc:=mc) (.inr rfl) hP hB ho rfl (fun _ _=>?_));simp only[AE,Int.reduceEq,if_true,if_false,uQ]))
  all_goals(refine aC ?_;exact aB (hK _ _))
theorem T3 {kd n:Int} (hs:side=0\/side=1) (hP:AH cf P c) (hB:P<=200000000) (hl:Kt l) (ho:Kt o) (hz:z.size<=599) (hK:∀M mc,K (uQ (CN ⟨12,side,id,n,cd,z,on,ww,xx,xw,xs,xi⟩ c l o)) (pt d (AE side x y pl po (bz side 0 12) (bz side 1 12)) 146::pY pl (k9 ⟨12,side,id,n,cd,z,on,ww,xx,xw,xs,xi⟩ l)::pY po (mG ⟨12,side,id,n,cd,z,on,ww,xx,xw,xs,xi⟩ c o)::cB x ad (lG ⟨12,side,id,n,cd,z,on,ww,xx,xw,xs,xi⟩ c l) M mc R)):CT 22 #[PO d,.agg #[I6 12,I6 side,I6 id,I6 n,I6 cd,.string z,I6 on,I6 ww,.bool xx,I6 xw,I6 xs,I6 xi]] (pt d (AE side x y pl po b0 b1) 146::pY pl l::pY po o::cB x ad c M mc R) K:=by
 have hP2:=hP
 obtain⟨B,hG,hBP⟩:=hP2
 simp only[CN,k9,mG,lG,Int.reduceEq,if_true,if_false,uQ,LZ] at hK
 rcases hs with rfl|rfl
 ·simp only[AE,bz,Int.reduceEq,if_true,if_false,decide_true,decide_false,Bool.true_and,Bool.false_and,Bool.not_false,Bool.not_true] at hK ⊢
  refine aH Tryz.func22 ?_
  repeat' (first|refine O1 ?_|refine dw cJ ?_|refine dw cK ?_|refine dw cH ?_|refine w5 ?_ ?_|((refine bh fun h=>?_) <;> try exact w6 h)|(refine aE fun hA=>?_;subst hA)|intro _|(show aA _ 79 _ _ _;refine CA (h:=jD ?_))|(show aA _ 83 _ _ _;refine CA (h:=EJ (side:=0) (x:=x) (y:=y) (pl:=pl) (po:=po) (b0:=true) (b1:=false) (a:=⟨12,0,id,n,cd,z,on,ww,xx,xw,xs,xi⟩) (M:=M) (mc:=mc) (.inl rfl) hP hB hl rfl (fun _ _=>?_));simp only[AE,Int.reduceEq,if_true,if_false,uQ]))
  all_goals(refine aC ?_;exact aB (hK _ _))
 ·simp only[AE,bz,Int.reduceEq,if_true,if_false,decide_true,decide_false,Bool.true_and,Bool.false_and,Bool.not_false,Bool.not_true] at hK ⊢
  refine aH Tryz.func22 ?_
  repeat' (first|refine O1 ?_|refine dw cJ ?_|refine dw cK ?_|refine dw cH ?_|refine w5 ?_ ?_|((refine bh fun h=>?_) <;> try exact w6 h)|(refine aE fun hA=>?_;subst hA)|intro _|(show aA _ 79 _ _ _;refine CA (h:=jD ?_))|(show aA _ 83 _ _ _;refine CA (h:=EJ (side:=1) (x:=x) (y:=y) (pl:=pl) (po:=po) (b0:=false) (b1:=true) (a:=⟨12,1,id,n,cd,z,on,ww,xx,xw,xs,xi⟩) (M:=M) (mc:=mc) (.inr rfl) hP hB hl rfl (fun _ _=>?_));simp only[AE,Int.reduceEq,if_true,if_false,uQ]))
  all_goals(refine aC ?_;exact aB (hK _ _))
theorem TX {kd n:Int} (hs:side=0\/side=1) (hP:AH cf P c) (hB:P<=200000000) (hl:Kt l) (ho:Kt o) (hz:z.size<=599) (hK:∀M mc,K (uQ (CN ⟨14,side,id,n,cd,z,on,ww,xx,xw,xs,xi⟩ c l o)) (pt d (AE side x y pl po (bz side 0 14) (bz side 1 14)) 146::pY pl (k9 ⟨14,side,id,n,cd,z,on,ww,xx,xw,xs,xi⟩ l)::pY po (mG ⟨14,side,id,n,cd,z,on,ww,xx,xw,xs,xi⟩ c o)::cB x ad (lG ⟨14,side,id,n,cd,z,on,ww,xx,xw,xs,xi⟩ c l) M mc R)):CT 22 #[PO d,.agg #[I6 14,I6 side,I6 id,I6 n,I6 cd,.string z,I6 on,I6 ww,.bool xx,I6 xw,I6 xs,I6 xi]] (pt d (AE side x y pl po b0 b1) 146::pY pl l::pY po o::cB x ad c M mc R) K:=by
 have hP2:=hP
 obtain⟨B,hG,hBP⟩:=hP2
 simp only[CN,k9,mG,lG,Int.reduceEq,if_true,if_false,uQ,LZ] at hK
 rcases hs with rfl|rfl
 ·simp only[AE,bz,Int.reduceEq,if_true,if_false,decide_true,decide_false,Bool.true_and,Bool.false_and,Bool.not_false,Bool.not_true] at hK ⊢
  refine aH Tryz.func22 ?_
  repeat' (first|refine O1 ?_|refine dw cJ ?_|refine dw cK ?_|refine dw cH ?_|refine w5 ?_ ?_|((refine bh fun h=>?_) <;> try exact w6 h)|(refine aE fun hA=>?_;subst hA)|intro _|(show aA _ 79 _ _ _;refine CA (h:=jD ?_))|(show aA _ 77 _ _ _;refine CA (h:=tK ?_))|(show aA _ 84 _ _ _;refine CA (h:=Ki (p:=pl) hl ?_)))
  all_goals(refine aC ?_;exact aB (hK _ _))
 ·simp only[AE,bz,Int.reduceEq,if_true,if_false,decide_true,decide_false,Bool.true_and,Bool.false_and,Bool.not_false,Bool.not_true] at hK ⊢
  refine aH Tryz.func22 ?_
  repeat' (first|refine O1 ?_|refine dw cJ ?_|refine dw cK ?_|refine dw cH ?_|refine w5 ?_ ?_|((refine bh fun h=>?_) <;> try exact w6 h)|(refine aE fun hA=>?_;subst hA)|intro _|(show aA _ 79 _ _ _;refine CA (h:=jD ?_))|(show aA _ 77 _ _ _;refine CA (h:=tK ?_))|(show aA _ 84 _ _ _;refine CA (h:=Ki (p:=pl) hl ?_)))
  all_goals(refine aC ?_;exact aB (hK _ _))
theorem XL {n:Int} (hs:side=0\/side=1) (hk:1<=kd/\kd<=8) (hP:AH cf P c) (hB:P<=200000000) (hl:Kt l) (ho:Kt o) (hz:z.size<=599) (hK:∀M mc,K (uQ (CN ⟨kd,side,id,n,cd,z,on,ww,xx,xw,xs,xi⟩ c l o)) (pt d (AE side x y pl po (bz side 0 kd) (bz side 1 kd)) 146::pY pl (k9 ⟨kd,side,id,n,cd,z,on,ww,xx,xw,xs,xi⟩ l)::pY po (mG ⟨kd,side,id,n,cd,z,on,ww,xx,xw,xs,xi⟩ c o)::cB x ad (lG ⟨kd,side,id,n,cd,z,on,ww,xx,xw,xs,xi⟩ c l) M mc R)):CT 22 #[PO d,.agg #[I6 kd,I6 side,I6 id,I6 n,I6 cd,.string z,I6 on,I6 ww,.bool xx,I6 xw,I6 xs,I6 xi]] (pt d (AE side x y pl po b0 b1) 146::pY pl l::pY po o::cB x ad c M mc R) K:=by
 have hP2:=hP
 obtain⟨B,hG,hBP⟩:=hP2
 have n9:¬kd=9:=by omega
 have n10:¬kd=10:=by omega
 have n11:¬kd=11:=by omega
 have n12:¬kd=12:=by omega
 have n14:¬kd=14:=by omega
 have hbn:(kd != 14)=true:=by simpa using n14
 simp only[CN,k9,mG,lG,n9,n10,n11,n12,n14,if_false,uQ] at hK
 rcases hs with rfl|rfl
 ·simp only[AE,bz,Int.reduceEq,if_true,if_false,decide_true,decide_false,Bool.true_and,Bool.false_and,Bool.not_false,Bool.not_true,n14] at hK ⊢
  refine aH Tryz.func22 ?_
  repeat' (first|(show cY _ _ _;rw[hbn])|refine O1 ?_|refine dw cJ ?_|refine dw cK ?_|refine dw cH ?_|refine w5 ?_ ?_|((refine bh fun h=>?_) <;> try exact w6 h)|(refine aE fun hA=>?_;subst hA)|intro _|(show aA _ 79 _ _ _;refine CA (h:=jD ?_))|(show aA _ 80 _ _ _;refine CA (h:=Ro (x:=x) (ad:=ad) (c:=c) (a:=⟨kd,0,id,n,cd,z,on,ww,xx,xw,xs,xi⟩) (M:=M) (mc:=mc) hG.I (by show z.size<=100000000;omega) (fun _ _=>?_));unfold uQ))
  all_goals(refine aC ?_;exact aB (hK _ _))
 ·simp only[AE,bz,Int.reduceEq,if_true,if_false,decide_true,decide_false,Bool.true_and,Bool.false_and,Bool.not_false,Bool.not_true,n14] at hK ⊢
  refine aH Tryz.func22 ?_
  repeat' (first|(show cY _ _ _;rw[hbn])|refine O1 ?_|refine dw cJ ?_|refine dw cK ?_|refine dw cH ?_|refine w5 ?_ ?_|((refine bh fun h=>?_) <;> try exact w6 h)|(refine aE fun hA=>?_;subst hA)|intro _|(show aA _ 79 _ _ _;refine CA (h:=jD ?_))|(show aA _ 80 _ _ _;refine CA (h:=Ro (x:=x) (ad:=ad) (c:=c) (a:=⟨kd,1,id,n,cd,z,on,ww,xx,xw,xs,xi⟩) (M:=M) (mc:=mc) hG.I (by show z.size<=100000000;omega) (fun _ _=>?_));unfold uQ))
  all_goals(refine aC ?_;exact aB (hK _ _))
end
end Go.Proofs.YtepnmcipkangkaaGreat
