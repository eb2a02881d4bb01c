/- A part of the proof: lemmas; each with the conditions that it states. -/
import Derived.Test.YtifgibijcmppmaaGreatMbg
set_option linter.unusedVariables false
set_option linter.unusedSimpArgs false
namespace Go.Proofs.YtifgibijcmppmaaGreat
open Go Go.Proofs Go.Sl
set_option maxRecDepth 100000
set_option maxHeartbeats 40000000
attribute [local irreducible] aM fG cV bP aN aW aA dP dX aV dO pt ro eW star sep bH
attribute [local irreducible] mp Ec
section
variable {R C:List HP} {K:Value→List HP→Prop} {x mc i b p r:Nat} {a:Ca} {s:Cn} {M:Option Addr} {B id n st t:Int} {m:Sm} {l:List Sm} {c:Cf} {q:wU} {g:eE}
theorem Kn (hK:K (.string s.last) (bY x a { s with last:=⟨#[]⟩ } M mc R)):aA Tryz.prog 93 #[.pointer (some ⟨x,0,none⟩)] (bY x a s M mc R) K:=by
 dsimp only[bY,pM] at hK ⊢
 refine aH Tryz.func93 ?_
 repeat' (first|refine v14 ?_|refine wr ?_|refine w5 ?_ ?_|((refine bh fun h=>?_) <;> try exact w6 h)|(refine aE fun hA=>?_;subst hA)|intro _)
 all_goals(refine aC ?_;exact aB (hK))
theorem Zm (hI:bS B s) (hk:fR c s) (hB:B+300≤250000000):bS (B+300) (p8 s).2∧fR c (p8 s).2:=by
 cases h:zC (s.pk,s.pc) (eG s) with
 |mk o q=>
  have hq:KO q:=by
   have:=Lx (s:=(s.pk,s.pc)) (l:=eG s) hI.pk
   rw[h] at this;exact this
  cases o with
  |none=>
   rw[Lq h]
   exact⟨Ahu (hI.mono (by omega) hB) hq,{ hk with }⟩
  |some id=>
   obtain⟨m,hm,hr⟩:=EY hI hk h
   rw[Hu h hm hr]
   exact⟨OB hI hk hm hq hB,OJ hI hk hm hq hB⟩
theorem TK:∀ {k:Nat} {s:Cn} {B:Int},bS B s→fR c s→B+300 * k≤250000000→bS (B+300 * k) (fB k s).2∧fR c (fB k s).2
 |0,s,B,hI,hk,hB=>⟨hI.mono (by omega) hB,hk⟩
 |k+1,s,B,hI,hk,hB=>by
  obtain⟨h1,h2⟩:=Zm hI hk (by omega)
  unfold fB
  cases h:p8 s with
  |mk o z=>
   rw[h] at h1 h2
   cases o with
   |none=>exact⟨h1.mono (by omega) hB,h2⟩
   |some f=>
    obtain⟨h3,h4⟩:=TK (k:=k) h1 h2 (by omega)
    exact⟨h3.mono (by omega) hB,h4⟩
theorem DG (hI:bS B s) (hk:fR c s) (hB:B+1≤250000000):fR c (bG s):=by
 have h1:=LM hI hB
 unfold bG
 split
 ·exact gQ h1 { hk with }
 ·split
  ·exact gQ (s:= { s with bt:=gA s.bt s.now,sl:=nC s.sl s.now (sK s) }) (Gd (q:=sK s) h1) { hk with }
  ·exact { hk with }
theorem N7 {d:ByteArray} (h:bS B s):bS B { s with last:=d }:= { h with }
theorem GW (h:bS B s):bS B { s with out:= [] }:= { h with ou:=LN }
theorem GL (h:fR c s):fR c { s with out:= [] }:= { h with fo:=fun f hf=>by cases hf }
theorem Zg {d:Dr} {k:Int} (h:(AD d k).ov=true):d.ov=true∨k≤0:=by
 unfold AD at h
 split at h
 ·rename_i hq;exact .inr hq.2.2
 ·exact .inl h
theorem Agm (h:fR c s):fR c { s with dr:=AD s.dr s.l.length }:= { h with
 cl:=fun ho=>by
  rcases Zg ho with ho|ho
  ·exact h.cl ho
  ·exact(show s.l= [] from List.length_eq_zero_iff.1 (by omega)) }
theorem X4 (hI:bS B s) (hk:fR c s) (hB:B+1301≤250000000):bS (B+1301) (eR s).2∧fR c (eR s).2:=by
 have hb:=bF hI
 have hkb:=cI hk
 unfold eR
 split
 ·exact⟨N7 (hb.mono (by omega) hB),{ hkb with ls:=Nat.zero_le 300 }⟩
 ·have h1:=Ih hb (by omega)
  have h2:=DG hb hkb (by omega)
  split
  ·exact⟨N7 (h1.mono (by omega) hB),{ h2 with ls:=Nat.zero_le 300 }⟩
  ·have h3:=Ra (GW h1)
   have h4:=Q2 (GL h2)
   obtain⟨h5,h6⟩:=TK (k:=4) h3 h4 (by omega)
   exact⟨Eu (h5.mono (by omega) hB),Agm h6⟩
end
section
variable {R C:List HP} {K:Value→List HP→Prop} {x mc i b p r:Nat} {a:Ca} {s:Cn} {M:Option Addr} {B id n st t:Int} {m:Sm} {l:List Sm} {c:Cf} {q:wU} {g:eE} {d:ByteArray} {e:Bool}
theorem Ta (ht:t=0∨t=1) (hs:1≤st∧st≤2147483647) (hd:d.size≤256):cX (vW t st d e):=by
 have h3:HM 0=true:=by decide
 have h4:Rq []=true:=Abs rfl
 unfold cX sA vW
 simp[h3,h4,Hm]
 omega
theorem RU (hd:d.size=8):cX (vW 7 0 d false):=by
 have h3:HM 0=true:=by decide
 have h4:Rq []=true:=Abs rfl
 unfold cX sA vW
 simp[h3,h4,Hm,hd]
theorem OC (ht:t=10∨t=11) (hs:0≤st∧st≤2147483647) (h0:t=11→1≤st) (hn:1≤n∧n≤2147483647):cX (CR t st n):=by
 have h2:=(vK n).2 ⟨by omega,hn.2⟩
 have h3:HM 0=true:=by decide
 have h4:Rq []=true:=Abs rfl
 have h5:(⟨#[]⟩:ByteArray)=ByteArray.empty:=rfl
 unfold cX sA CR
 simp[h2,h3,h4,h5,Hm]
 omega
theorem P5:(vN n).size=8:=by
 have h1:=Int.emod_nonneg n (by decide:(2147483648:Int)≠0)
 have h2:=Int.emod_lt_of_pos n (by decide:(0:Int)<2147483648)
 unfold vN
 generalize n % 2147483648=k at h1 h2 ⊢
 have hm:iG k 4=0:=by
  unfold iG
  rw[if_neg (by decide),if_neg]
  rintro⟨_,h|h⟩
  ·omega
  ·have:((2:Int) ^ (8 * (4:Int)).toNat)=4294967296:=by decide
   rw[this] at h;omega
 have h0:iG 0 4=0:=by decide
 have hf:d9 [⟨0,4,⟨#[]⟩⟩,⟨k,4,⟨#[]⟩⟩]=0:=by simp[d9,h0,hm]
 have hs:I9 [⟨0,4,⟨#[]⟩⟩,⟨k,4,⟨#[]⟩⟩] 0=8:=rfl
 have he:wI [⟨0,4,⟨#[]⟩⟩,⟨k,4,⟨#[]⟩⟩]=0:=by unfold wI;rw[if_pos hf,hs];rfl
 have:=(IA he).2.1
 omega
theorem xK:∀f∈fC s,cX f∧f.ps= []∧f.pn=0:=fun f hf=>by
 unfold fC at hf
 split at hf
 ·cases hf
 ·rename_i hq
  rw[List.mem_singleton.1 hf]
  have h1:Qt s.bt s.now=1:=by
   by_cases h:Qt s.bt s.now=1
   ·exact h
   ·exact absurd (.inr (.inr h)) hq
  refine⟨RU ?_,rfl,rfl⟩
  unfold btD
  rw[if_pos h1];exact P5
theorem K5 (ht:t=10∨t=11) (hs:0≤st∧st≤2147483647) (h0:t=11→1≤st) (hn:n≤2147483647):∀f∈Kx t st n,cX f∧f.ps= []∧f.pn=0:=fun f hf=>by
 unfold Kx at hf
 split at hf
 ·rw[List.mem_singleton.1 hf]
  exact⟨OC ht hs h0 (by omega),rfl,rfl⟩
 ·cases hf
theorem Agc {y:Ys} (h:TN y):Iy y≤2147483647:=by
 cases y with
 |b y=>
  obtain⟨h1,h2,h3,h4,h5,h6,h7,h8,h9⟩:=h
  show uE y.cap y.gr y.us≤2147483647
  unfold uE
  split <;> omega
 |i y=>
  obtain⟨h1,h2,h3,h4,h5,h6,h7,h8,h9,h10,h11⟩:=h
  show xQ y.room y.op y.ask y.l≤2147483647
  unfold xQ
  omega
theorem NQ (hI:bS B s) (hF:∀m∈s.l,Q9 m):∀f∈uG s,cX f∧f.ps= []∧f.pn=0:=fun f hf=>by
 unfold uG at hf
 rcases List.mem_append.1 hf with hf|hf
 ·have hr:=hI.rv
  unfold I3 at hr
  refine K5 (.inl rfl) (by omega) (fun h=>by cases h) ?_ f hf
  unfold uT uE
  split <;> omega
 ·obtain⟨m,hm,hf⟩:=List.mem_flatMap.1 hf
  have hid:=(hI.st m hm).id
  have hd:=Agc (hF m hm).2.1
  unfold qS at hf
  split at hf
  ·refine K5 ?_ (by omega) (fun _=>hid.1) (by omega) f hf
   split
   ·exact .inr rfl
   ·exact .inl rfl
  ·cases hf
theorem QZ (hI:bS B s) (hk:fR c s) {f:Fm} (h:(p8 s).1=some f):cX f∧f.ps= []∧f.pn=0:=by
 cases hp:zC (s.pk,s.pc) (eG s) with
 |mk o q=>
  cases o with
  |none=>rw[Lq hp] at h;cases h
  |some id=>
   obtain⟨m,hm,hr⟩:=EY hI hk hp
   rw[Hu hp hm hr] at h
   obtain⟨hi,hmid⟩:=aZ hm
   have hmm:=List.mem_of_getElem? hi
   have hid:=(hI.st m hmm).id
   rw[← Option.some.inj h]
   refine⟨Ta ?_ (by rw[← hmid];exact hid) (Mn (hk.mo m hmm).sz),rfl,rfl⟩
   cases m.x
   ·exact .inl rfl
   ·exact .inr rfl
theorem As:∀ {k:Nat} {s:Cn} {B:Int},bS B s→fR c s→B+300 * k≤250000000→∀f∈(fB k s).1,cX f∧f.ps= []∧f.pn=0
 |0,s,B,hI,hk,hB,f,hf=>by cases hf
 |k+1,s,B,hI,hk,hB,f,hf=>by
  obtain⟨h1,h2⟩:=Zm hI hk (by omega)
  unfold fB at hf
  cases h:p8 s with
  |mk o z=>
   rw[h] at h1 h2 hf
   cases o with
   |none=>cases hf
   |some y=>
    rcases List.mem_cons.1 hf with rfl|hf
    ·exact QZ hI hk (by rw[h])
    ·exact As h1 h2 (by omega) f hf
theorem Vv {l:List Fm}:rW (l.map jD)=rW l:=by
 unfold rW
 rw[List.flatMap_map];rfl
theorem w7 {l l':List Fm}:rW (l++l')=rW l++rW l':=by
 unfold rW
 rw[List.flatMap_append]
theorem R7 {y:Fm}:cX (jD y)↔cX y:=Iff.rfl
def uV (s:Cn):List Fm:=fC (aD s)++(bG (aD s)).out++uG { bG (aD s) with out:= [] }++(fB 4 (Bp { bG (aD s) with out:= [] })).1
end
section
variable {R C:List HP} {K:Value→List HP→Prop} {x mc i b p r:Nat} {a:Ca} {s:Cn} {M:Option Addr} {B id n st t:Int} {m:Sm} {l:List Sm} {c:Cf} {q:wU} {g:eE} {d:ByteArray} {e:Bool}
def ZF (y:Fm):Fm:=⟨y.t,y.st,y.e,y.d,y.k,y.on,y.w,y.x,y.c,y.la,y.n,y.pa,y.pn,y.pc,[]⟩
theorem Yb {A:Option Addr} {k:Nat} {L ys:List Fm} {y:Fm}:aG (bU A k 45 uM (L++ys++ [ZF y])::yG y::kB yG ys::R) (bU A k 45 uM (L++(ys++ [y]))::kB yG (ys++ [y])::R):=
 aG.imp (Qg (by simp only[List.flatMap_append,List.append_assoc];rfl) (by simp)) (aG.allsnoc (P:=yG) (x:=y) Ac zV)
theorem J9 (h:(bG s).dr.ov=false):(bG s).out=s.out:=by
 unfold bG at h ⊢
 split
 ·rename_i hq
  rw[if_pos hq,Dt (by decide)] at h;cases h
 ·rename_i hq
  rw[if_neg hq] at h
  split
  ·rename_i hf
   rw[if_pos hf,Dt (by decide)] at h;cases h
  ·rfl
theorem XP (h:(bG s).dr.ov=false):(bG s).l=s.l:=by
 unfold bG at h ⊢
 split
 ·rename_i hq
  rw[if_pos hq,Dt (by decide)] at h;cases h
 ·rename_i hq
  rw[if_neg hq] at h
  split
  ·rename_i hf
   rw[if_pos hf,Dt (by decide)] at h;cases h
  ·rfl
theorem Ahf {y:Fm} (h:y.ps= []) (hn:y.pn=0):FmV C y:=⟨by rw[h];exact eD,by rw[h,hn];rfl⟩
theorem UI (h1:s.dr.ov=false) (h2:(bG (aD s)).dr.ov=false) (hr:∀f∈uV s,cX f):eR s=(rW (uV s),{ (fB 4 (Bp { bG (aD s) with out:= [] })).2 with dr:=AD (fB 4 (Bp { bG (aD s) with out:= [] })).2.dr (fB 4 (Bp { bG (aD s) with out:= [] })).2.l.length }):=by
 have ha:(uV s).all l8=true:=List.all_eq_true.2 fun f hf=>(t6 f).2 (hr f hf)
 unfold eR
 rw[if_neg (by rw[h1];decide),if_neg (by rw[h2];decide)]
 show(R5 (uV s),_)=_
 unfold R5
 rw[if_pos ha]
theorem Eg {k:Nat} {z:Cn}:fB (k+1) z=match p8 z with
  |(none,s)=>([],s)
  |(some f,s)=>(f::(fB k s).1,(fB k s).2):=rfl
theorem KA:∀ {k:Nat} {s:Cn},(fB k s).1.length≤k
 |0,_=>Nat.le_refl _
 |k+1,s=>by
  rw[Eg]
  split
  ·simp
  ·rename_i f z _
   have:=KA (k:=k) (s:=z)
   simp only[List.length_cons];omega
theorem Wm {q:Nat} {out:List Fm} (h:out= []) (hK:K (.int .i64 0) (Qs q out::R)):aA Tryz.prog 94 #[.pointer (some ⟨q,0,none⟩)] (Qs q out::R) K:=by
 subst h;exact Pm hK
theorem K4:(fC s).length≤1:=by unfold fC;split <;> simp
def d7:List (Nat×Nat):= [(4,0),(5,0),(6,0),(7,0),(8,1),(0,1),(1,1),(2,1),(3,1),(9,1)]
theorem V0 (hI:bS B s) (hk:fR c s) (hF:∀m∈s.l,Q9 m) (hB:B+1301≤250000000) (hK:∀M mc,K (.string ⟨(eR s).1.toArray⟩) (bY x a (eR s).2 M mc R)):aA Tryz.prog 21 #[.pointer (some ⟨x,0,none⟩)] (bY x a s M mc R) K:=by
 have hbb:=hI.bb
 have hIb:=bF hI
 have hkb:=cI hk
 cases ho:s.dr.ov
 ·have hI1:=Ih hIb (by omega)
  have hk1:=DG hIb hkb (by omega)
  cases ho1:(bG (aD s)).dr.ov
  ·have hou:=J9 ho1
   have hti:=XP ho1
   have hI2:=GW hI1
   have hk2:=GL hk1
   have hI3:=Ra hI2
   have hk3:=Q2 hk2
   have hF2:∀m∈({ bG (aD s) with out:= [] }:Cn).l,Q9 m:=fun m hm=>hF m (by have hm:m∈(bG (aD s)).l:=hm;rw[hti] at hm;exact hm)
   have hgr:=NQ hI2 hF2
   have hbr:=As (k:=4) hI3 hk3 (by omega)
   have hfo:=hk1.fo
   have hr:∀f∈uV s,cX f:=fun f hf=>by
    unfold uV at hf
    rcases List.mem_append.1 hf with hf|hf
    ·rcases List.mem_append.1 hf with hf|hf
     ·rcases List.mem_append.1 hf with hf|hf
      ·exact(xK f hf).1
      ·exact(t6 f).1 (hfo f hf).1
     ·exact(hgr f hf).1
    ·exact(hbr f hf).1
   rw[UI ho ho1 hr] at hK
   have hl0:=K4 (s:=aD s)
   have hgl:(uG { bG (aD s) with out:= [] }).length≤65:=by
    have h1:=flat_len (l:=(bG (aD s)).l)
    have h2:=hI1.sm.1
    have h3:=Gu (t:=10) (st:=0) (n:=uT (bG (aD s)).rv)
    show(Kx 10 0 (uT (bG (aD s)).rv)++(bG (aD s)).l.flatMap qS).length≤65
    rw[List.length_append];omega
   have hst:uV s=fC (aD s)++(bG (aD s)).out++uG { bG (aD s) with out:= [] }++(fB 4 (Bp { bG (aD s) with out:= [] })).1:=rfl
   generalize hz2:({ bG (aD s) with out:= [] }:Cn)=z2 at hI2 hk2 hI3 hk3 hgr hbr hgl hK hst
   dsimp only at hK
   have hol:=hI1.ou.1
   refine aH Tryz.func21 ?_
   repeat' (first|refine Qo ?_|refine dw d7 ?_|refine wr ?_|refine w5 ?_ ?_|((refine bh fun h=>?_) <;> try exact w6 h)|(refine aE fun hA=>?_;subst hA)|intro _|(show aA _ 75 _ _ _;refine CA (h:=b5 (x:=x) (a:=a) (s:=s) (M:=M) (mc:=mc) ?_);rw[ho,if_neg Bool.false_ne_true])|(show aA _ 92 _ _ _;refine CA (h:=FH (x:=x) (a:=a) (s:=aD s) (M:=none) (mc:=0) hIb (by omega) (fun A0 c0 M1 mc1=>?_)))|(show aA _ 78 _ _ _;first|(refine CA (h:=jN (x:=x) (a:=a) (s:=aD s) (M:=none) (mc:=0) ?_);rw[show(aD s).dr.ov=false from ho])|(refine CA (h:=jN (x:=x) (a:=a) (s:=bG (aD s)) (M:=M1) (mc:=mc1) ?_);rw[ho1])))
   refine lW (aG.allnil (P:=yG) (aG.refl _)) ?_
   refine iL (fun n a' C'=>∃(ys rest L:List Fm) (A:Option Addr) (k:Nat),rest.length=n∧L=fC (aD s)++ys∧ys.map jD++rest=(bG (aD s)).out∧dC a' [(0,.pointer (some ⟨x,0,none⟩)),(3,.slice A L.length k)]∧C'=bU A k 45 uM L::kB yG ys::bY x a { bG (aD s) with out:=rest } M1 mc1 R) (bG (aD s)).out.length (cC (bG (aD s)).out.length ⟨[],(bG (aD s)).out,fC (aD s),A0,c0,rfl,(List.append_nil _).symm,rfl,⟨rfl,rfl,trivial⟩,rfl⟩ (by omega)) ?_
   rintro n a' C' ⟨ys,rest,L,A,k,hn,rfl,hys,ha,rfl⟩
   refine gV _ ha ?_
   simp only[fN]
   have hyl:ys.length+rest.length=(bG (aD s)).out.length:=by rw[← hys];simp
   cases rest with
   |cons f rest=>
    have hou2:P9 (f::rest):=⟨by omega,fun y hy=>hI1.ou.2 y (by rw[← hys];exact List.mem_append_right _ hy)⟩
    rw[List.length_cons] at hn hyl
    have hl3:∀y:Fm,(fC (aD s)++ys++ [ZF y]).length=(fC (aD s)++(ys++ [y])).length:=fun y=>by simp
    have hLy:(fC (aD s)++ys).length≤1000:=by rw[List.length_append];omega
    dsimp only[bY,pM]
    repeat' (first|(show aM _ _ _ _ _ _ _;(refine nX (E:=uM) (xs:=fC (aD s)++ys) (ys:= [ZF y0]) ?_;intro A2 k2))|refine Qo ?_|refine dw d7 ?_|refine wr ?_|refine w5 ?_ ?_|((refine bh fun h=>?_) <;> try exact w6 h)|(refine aE fun hA=>?_;subst hA)|intro _|(show aA _ 94 _ _ _;refine CA (h:=Pm (out:=f::rest) ?_))|(show aA _ 95 _ _ _;refine CA (h:=WG hou2 (fun y0 hy0=>?_))))
    all_goals(show aV _ _ _ _;exact sO (m:=n - 1) (C':=bU A2 k2 45 uM (fC (aD s)++(ys++ [y0]))::kB yG (ys++ [y0])::bY x a { bG (aD s) with out:=rest } M1 mc1 R) (by omega) (aG.trans (by exact aY) Yb) ⟨ys++ [y0],rest,fC (aD s)++(ys++ [y0]),A2,k2,by omega,rfl,by rw[List.map_append,List.append_assoc,← hys,← hy0];rfl,⟨rfl,congrArg (fun q=>Value.slice A2 q k2) (hl3 y0),trivial⟩,rfl⟩)
   |nil=>
    rw[List.append_nil] at hys
    rw[hz2]
    simp only[List.length_nil] at hyl
    have hLy:(fC (aD s)++ys).length≤1000:=by rw[List.length_append];omega
    have hz2o:z2.out= []:=by rw[← hz2]
    dsimp only[bY,pM]
    repeat' (first|(show aM _ _ _ _ _ _ _;(refine nX (E:=uM) (xs:=fC (aD s)++ys) (ys:=uG z2) ?_;intro A4 k4))|refine Qo ?_|refine dw d7 ?_|refine wr ?_|refine w5 ?_ ?_|((refine bh fun h=>?_) <;> try exact w6 h)|(refine aE fun hA=>?_;subst hA)|intro _|(show aA _ 94 _ _ _;refine CA (h:=Wm (out:=z2.out) hz2o ?_))|(show aA _ 96 _ _ _;refine CA (h:=P1 (x:=x) (a:=a) (s:=z2) (M:=M1) (mc:=mc1) hI2 (fun A3 k3=>?_))))
    refine iL (fun n a' C'=>∃(j:Nat) (zs L:List Fm) (z:Cn) (A:Option Addr) (k:Nat) (M2:Option Addr) (mc2:Nat),j+n=4∧L=fC (aD s)++ys++uG z2++zs∧zs.length≤j∧bS (B+1+300 * j) z∧fR c z∧fB 4 (Bp z2)=(zs++(fB n z).1,(fB n z).2)∧dC a' [(0,.pointer (some ⟨x,0,none⟩)),(3,.slice A L.length k),(44,.int .i64 j)]∧C'=bU A k 45 uM L::kB yG ys::bY x a z M2 mc2 R) 4 (cC 4 ⟨0,[],fC (aD s)++ys++uG z2,Bp z2,A4,k4,M1,mc1,rfl,(List.append_nil _).symm,Nat.le_refl _,hI3.mono (by omega) (by omega),hk3,rfl,⟨rfl,rfl,rfl,trivial⟩,rfl⟩ (by omega)) ?_
    rintro n2 a2 C2 ⟨j,zs,L,z,A,k,M2,mc2,hj,hL,hzl,hIz,hkz,hb,ha2,rfl⟩
    refine gV _ ha2 ?_
    simp only[fN]
    have hyp:∀y∈ys,y.ps.length=y.pn:=fun y hy=>(hfo (jD y) (by rw[← hys];exact List.mem_map_of_mem hy)).2.1
    have hLl:L.length≤1000000:=by rw[hL];simp only[List.length_append];omega
    have hfin:∀ {z':Cn},fB 4 (Bp z2)=(zs,z')→rW (uV s)=rW L∧(∀y∈L,cX y)∧∀y∈L,(y.ps= []∧y.pn=0)∨y∈ys:=fun {z'} hz=>by
     have h1:uV s=fC (aD s)++ys.map jD++uG z2++zs:=by rw[hst,hz,← hys]
     have h2:rW (uV s)=rW L:=by rw[h1,hL,w7,w7,w7,w7,w7,w7,Vv]
     refine⟨h2,fun y hy=>?_,fun y hy=>?_⟩
     ·rw[hL] at hy
      rcases List.mem_append.1 hy with hy|hy
      ·rcases List.mem_append.1 hy with hy|hy
       ·rcases List.mem_append.1 hy with hy|hy
        ·exact(xK y hy).1
        ·exact R7.1 ((t6 _).1 (hfo (jD y) (by rw[← hys];exact List.mem_map_of_mem hy)).1)
       ·exact(hgr y hy).1
      ·exact(hbr y (by rw[hz];exact hy)).1
     ·rw[hL] at hy
      rcases List.mem_append.1 hy with hy|hy
      ·rcases List.mem_append.1 hy with hy|hy
       ·rcases List.mem_append.1 hy with hy|hy
        ·exact .inl (xK y hy).2
        ·exact .inr hy
       ·exact .inl (hgr y hy).2
      ·exact .inl (hbr y (by rw[hz];exact hy)).2
    by_cases hlt:j<4
    ·obtain⟨n3,rfl⟩:∃n3,n2=n3+1:=⟨n2 - 1,by omega⟩
     cases hp:zC (z.pk,z.pc) (eG z) with
     |mk o q=>
      cases o with
      |none=>
       rw[Eg (k:=n3) (z:=z),Lq hp] at hb
       dsimp only at hb
       rw[List.append_nil] at hb
       obtain⟨hE,hLr,hLp⟩:=hfin hb
       rw[hE,hb] at hK
       dsimp only at hK
       repeat' (first|refine Qo ?_|refine dw d7 ?_|refine wr ?_|refine w5 ?_ ?_|((refine bh fun h=>?_) <;> try exact w6 h)|(refine aE fun hA=>?_;subst hA)|intro _|(show aA _ 97 _ _ _;refine CA (h:=SX (x:=x) (a:=a) (s:=z) (M:=M2) (mc:=mc2) hIz hkz hp ?_))|(show aA _ 83 _ _ _;refine CA (h:=x8 (l:=(Yf q z).l) ?_))|(show aA _ 98 _ _ _;refine CA (h:=Qm (d:=(Yf q z).dr) ?_))|(show aA _ 99 _ _ _;refine CA (h:=P4 (xs:=L) hLr (by exact jY) (fun y hy=>(hLp y hy).elim (fun qq=>Ahf qq.1 qq.2) (fun qq=>⟨by((repeat (first|exact wE qq|apply bI)) <;> exact wE qq),hyp y qq⟩)) rfl hLl ?_)))
       all_goals(refine aC ?_;exact aB (hK _ _))
      |some id=>
       obtain⟨m,hm,hr2⟩:=EY hIz hkz hp
       have hIz2:=OB hIz hkz hm (by have:=Lx (s:=(z.pk,z.pc)) (l:=eG z) hIz.pk;rw[hp] at this;exact this) (by omega)
       have hkz2:=OJ hIz hkz hm (by have:=Lx (s:=(z.pk,z.pc)) (l:=eG z) hIz.pk;rw[hp] at this;exact this) (by omega)
       rw[Eg (k:=n3) (z:=z),Hu hp hm hr2] at hb
       dsimp only at hb
       repeat' (first|(show aM _ _ _ _ _ _ _;(refine nX (E:=uM) (xs:=L) (ys:= [TO id m z]) ?_;intro A5 k5))|refine Qo ?_|refine dw d7 ?_|refine wr ?_|refine w5 ?_ ?_|((refine bh fun h=>?_) <;> try exact w6 h)|(refine aE fun hA=>?_;subst hA)|intro _|(show aA _ 97 _ _ _;refine CA (h:=QD (x:=x) (a:=a) (s:=z) (M:=M2) (mc:=mc2) hIz hkz (by omega) hp hm hr2 (fun M3 mc3=>?_))))
       all_goals(show aV _ _ _ _;exact cC n3 ⟨j+1,zs++ [TO id m z],L++ [TO id m z],zL id m q z,A5,k5,M3,mc3,by omega,by rw[hL,List.append_assoc],by rw[List.length_append,List.length_singleton];omega,hIz2.mono (by omega) (by omega),hkz2,by rw[hb,List.append_assoc];rfl,⟨rfl,rfl,rfl,trivial⟩,rfl⟩)
    ·obtain rfl:n2=0:=by omega
     obtain rfl:j=4:=by omega
     have hb2:fB 4 (Bp z2)=(zs,z):=by rw[hb];show(zs++ [],z)=_;rw[List.append_nil]
     obtain⟨hE,hLr,hLp⟩:=hfin hb2
     rw[hE,hb2] at hK
     dsimp only at hK
     dsimp only[bY,pM]
     repeat' (first|refine Qo ?_|refine dw d7 ?_|refine wr ?_|refine w5 ?_ ?_|((refine bh fun h=>?_) <;> try exact w6 h)|(refine aE fun hA=>?_;subst hA)|intro _|(show aA _ 83 _ _ _;refine CA (h:=x8 (l:=(z).l) ?_))|(show aA _ 98 _ _ _;refine CA (h:=Qm (d:=(z).dr) ?_))|(show aA _ 99 _ _ _;refine CA (h:=P4 (xs:=L) hLr (by exact jY) (fun y hy=>(hLp y hy).elim (fun qq=>Ahf qq.1 qq.2) (fun qq=>⟨by((repeat (first|exact wE qq|apply bI)) <;> exact wE qq),hyp y qq⟩)) rfl hLl ?_)))
     all_goals(refine aC ?_;exact aB (hK _ _))
  ·have e:eR s=((bG (aD s)).last.data.toList,{ bG (aD s) with last:=⟨#[]⟩ }):=by unfold eR;rw[if_neg (by rw[ho];decide),if_pos ho1]
   rw[e] at hK
   have el:(⟨((bG (aD s)).last.data.toList).toArray⟩:ByteArray)=(bG (aD s)).last:=by simp
   dsimp only at hK
   rw[el] at hK
   refine aH Tryz.func21 ?_
   repeat' (first|refine Qo ?_|refine dw d7 ?_|refine wr ?_|refine w5 ?_ ?_|((refine bh fun h=>?_) <;> try exact w6 h)|(refine aE fun hA=>?_;subst hA)|intro _|(show aA _ 75 _ _ _;refine CA (h:=b5 (x:=x) (a:=a) (s:=s) (M:=M) (mc:=mc) ?_);rw[ho,if_neg Bool.false_ne_true])|(show aA _ 92 _ _ _;refine CA (h:=FH (x:=x) (a:=a) (s:=aD s) (M:=none) (mc:=0) hIb (by omega) (fun _ _ _ _=>?_)))|(show aA _ 78 _ _ _;first|(refine CA (h:=jN (x:=x) (a:=a) (s:=aD s) (M:=none) (mc:=0) ?_);rw[show(aD s).dr.ov=false from ho])|(refine CA (h:=jN (x:=x) (a:=a) (s:=bG (aD s)) ?_);rw[ho1]))|(show aA _ 93 _ _ _;refine CA (h:=Kn (x:=x) (a:=a) (s:=bG (aD s)) ?_)))
   all_goals(refine aC ?_;exact aB (hK _ _))
 ·have e:eR s=(s.last.data.toList,{ aD s with last:=⟨#[]⟩ }):=by unfold eR;rw[if_pos ho]
  rw[e] at hK
  have el:(⟨(s.last.data.toList).toArray⟩:ByteArray)=s.last:=by simp
  dsimp only at hK
  rw[el] at hK
  refine aH Tryz.func21 ?_
  repeat' (first|refine Qo ?_|refine dw d7 ?_|refine wr ?_|refine w5 ?_ ?_|((refine bh fun h=>?_) <;> try exact w6 h)|(refine aE fun hA=>?_;subst hA)|intro _|(show aA _ 75 _ _ _;refine CA (h:=b5 (x:=x) (a:=a) (s:=s) (M:=M) (mc:=mc) ?_);rw[ho,if_pos rfl])|(show aA _ 78 _ _ _;refine CA (h:=jN (x:=x) (a:=a) (s:=aD s) (M:=none) (mc:=0) ?_);rw[show(aD s).dr.ov=true from ho])|(show aA _ 93 _ _ _;refine CA (h:=Kn (x:=x) (a:=a) (s:=aD s) ?_)))
  all_goals(refine aC ?_;exact aB (hK _ _))
end
section
variable {R C:List HP} {K:Value→List HP→Prop} {x mc i b p r:Nat} {a:Ca} {s:Cn} {M:Option Addr} {B n sd:Int} {cf:Cf} {c:Cf}
theorem QT (h:sd=0∨sd=1) (hK:∀p,K (.tuple #[.pointer (some ⟨p,0,none⟩),.int .i64 0]) (pt p [.int .i64 sd,.int .i64 (sd+1),.int .i64 0] 218::R)):aA Tryz.prog 51 #[.int .i64 sd] R K:=by
 rcases h with rfl|rfl
 all_goals
  refine aH Tryz.func51 ?_
  repeat' (first|refine v42 ?_|refine wr ?_|refine w5 ?_ ?_|((refine bh fun h=>?_) <;> try exact w6 h)|(refine aE fun hA=>?_;subst hA)|intro _)
  all_goals(refine aC ?_;exact aB (hK _))
theorem Mx (h:0≤n∧n≤1048576) (hK:∀p,K (.tuple #[.pointer (some ⟨p,0,none⟩),.int .i64 0]) (slP p ⟨n,0,0,false,false⟩::R)):aA Tryz.prog 54 #[.int .i64 n] R K:=by
 unfold slP at hK
 refine aH Tryz.func54 ?_
 repeat' (first|refine v6 ?_|refine wr ?_|refine w5 ?_ ?_|((refine bh fun h=>?_) <;> try exact w6 h)|(refine aE fun hA=>?_;subst hA)|intro _)
 all_goals(refine aC ?_;exact aB (hK _))
theorem MM (hK:∀p,K (.pointer (some ⟨p,0,none⟩)) (CP p ⟨false,false,false,0,0,0⟩::R)):aA Tryz.prog 48 #[] R K:=by
 unfold CP at hK
 refine aH Tryz.func48 ?_
 repeat' (first|refine v6 ?_|refine wr ?_|refine w5 ?_ ?_|((refine bh fun h=>?_) <;> try exact w6 h)|(refine aE fun hA=>?_;subst hA)|intro _)
 all_goals(refine aC ?_;exact aB (hK _))
theorem Lo (hK:∀p,K (.tuple #[.pointer (some ⟨p,0,none⟩),.int .i64 0]) (Hg p []::R)):aA Tryz.prog 55 #[.int .i64 64] R K:=
 aA.entK (Aav (by decide) fun p=>⟨_,aG.trans (aG.trans (aG.cons (aG.nilrow _ _ _)) (aG.cons (aG.cons (J5 (f:=Qv))))) (xU (q:= []) ⟨rfl,fun e he=>by cases he⟩ rfl rfl),hK p⟩)
theorem Qn (hK:∀p q,K (.tuple #[.pointer (some ⟨p,0,none⟩),.int .i64 0]) (pt p [.int .i64 64,.map (some q)] 229::mp q (kM qI []) 0::R)):aA Tryz.prog 56 #[.int .i64 64] R K:=by
 refine aH Tryz.func56 ?_
 repeat' (first|refine v6 ?_|refine wr ?_|refine w5 ?_ ?_|((refine bh fun h=>?_) <;> try exact w6 h)|(refine aE fun hA=>?_;subst hA)|intro _|(show aM _ _ _ _ _ _ _;refine EJ ?_;intro _))
 all_goals(refine aC ?_;exact aB (hK _ _))
def rP:eE:=⟨64,8,4⟩
theorem Lc (hK:∀p,K (.pointer (some ⟨p,0,none⟩)) (Tj p ⟨rP,rP,[]⟩::R)):aA Tryz.prog 46 #[] R K:=by
 refine aH Tryz.func46 ?_
 repeat' (first|refine v21 ?_|refine wr ?_|refine w5 ?_ ?_|((refine bh fun h=>?_) <;> try exact w6 h)|(refine aE fun hA=>?_;subst hA)|intro _|(show aA _ 47 _ _ _;refine CA (h:=HE ?_)))
 all_goals(refine aC ?_;exact aK (aG.trans (by exact aY) ((aG.ex (g:=fun A=>eW fun c=>sep (pt _ [.int .i64 64,.int .i64 8,.int .i64 4,.int .i64 64,.int .i64 8,.int .i64 4,.slice A 0 c] 207) (bU A c 23 Fy [])) none (aG.ex 0 (aG.sep (aG.cons (aG.nilrow _ _ _))))))) (hK _))
def j8 (sd:Int) (cf:Cf):Cn:= { cf:=cf,sd:=sd,nx:=sd+1,la:=0,l:= [],tr:=([],0),pk:= [],pc:=0,ld:=⟨512,0,[]⟩,rv:=⟨512,512,512,0,0⟩,sh:=⟨rP,LL rP ⟨cf.w,cf.st,cf.it⟩,[⟨cf.w,cf.st,cf.it⟩]⟩,pe:=rP,bt:=⟨cf.ev,cf.wa,0,0,false,false,0,0⟩,sl:=⟨cf.sl,0,0,false,false⟩,dr:=⟨false,false,false,0,0,0⟩,out:=yZ (KM (LG rP ⟨cf.w,cf.st,cf.it⟩)) [],inb:= [],ine:=0,now:=0,last:=⟨#[]⟩,mv:= [] }
structure HW (cf:Cf):Prop where
 s:rY cf.w cf.st cf.it=true
 sb:0≤cf.sb∧cf.sb≤4096
 si:0≤cf.si∧cf.si≤64
 sg:0≤cf.sg∧cf.sg≤2
 ev:0≤cf.ev∧cf.ev≤1048576
 wa:0≤cf.wa∧cf.wa≤1048576
 sl:0≤cf.sl∧cf.sl≤1048576
def F4:List (Nat×Nat):= [(1,1),(2,1),(3,1),(4,1),(5,1),(6,1),(0,6),(7,0),(8,1),(9,0)]
def E1:List (Nat×Nat):= [(0,0),(1,0),(2,0),(3,0),(4,0),(5,0),(6,1),(7,0),(8,0),(9,0),(10,0),(11,0)]
theorem X9 (hs:sd=0∨sd=1) (h:HW cf) (hK:∀x a,K (.tuple #[.pointer (some ⟨x,0,none⟩),.int .i64 0]) (bY x a (j8 sd cf) none 0 R)):aA Tryz.prog 9 #[.int .i64 sd,.agg #[.int .i64 cf.w,.int .i64 cf.st,.int .i64 cf.it,.int .i64 cf.sb,.int .i64 cf.si,.int .i64 cf.sg,.int .i64 cf.ev,.int .i64 cf.wa,.int .i64 cf.sl]] R K:=by
 obtain⟨h1,h2,h3,h4,h5,h6,h7⟩:=h
 have hK:∀x r1 r2 r3 r4 r5 r6 r7 r8 r9 r10 r11 r12 r13 r14,K (.tuple #[.pointer (some ⟨x,0,none⟩),.int .i64 0]) (bY x ⟨r1,r2,r3,r4,r5,r6,r7,r8,r9,r10,r11,r12,r13,r14⟩ (j8 sd cf) none 0 R):=fun x r1 r2 r3 r4 r5 r6 r7 r8 r9 r10 r11 r12 r13 r14=>hK x ⟨r1,r2,r3,r4,r5,r6,r7,r8,r9,r10,r11,r12,r13,r14⟩
 dsimp only[bY,pM,j8] at hK
 have hlen:=TQ (u:=rP) (v:=⟨cf.w,cf.st,cf.it⟩)
 have hse:iA ⟨rP,rP,[]⟩ ⟨cf.w,cf.st,cf.it⟩=0:=by unfold iA;rw[if_neg (by rw[h1];decide)];rfl
 have hss:d8 ⟨rP,rP,[]⟩ ⟨cf.w,cf.st,cf.it⟩=⟨rP,LL rP ⟨cf.w,cf.st,cf.it⟩,[⟨cf.w,cf.st,cf.it⟩]⟩:=by unfold d8;rw[if_pos hse];rfl
 refine aH Tryz.func9 ?_
 repeat' (first|refine z8 ?_|refine dw F4 ?_|refine dw E1 ?_|refine wr ?_|refine w5 ?_ ?_|((refine bh fun h=>?_) <;> try exact w6 h)|(refine aE fun hA=>?_;subst hA)|intro _|(show aA _ 45 _ _ _;refine CA (h:=Abh (fun _ _=>?_)))|(show aA _ 46 _ _ _;refine CA (h:=Lc (fun _=>?_)))|(show aA _ 47 _ _ _;refine CA (h:=HE ?_))|(show aA _ 48 _ _ _;refine CA (h:=MM (fun _=>?_)))|(show aA _ 49 _ _ _;refine CA (h:=Acj (fun _=>?_)))|(show aA _ 50 _ _ _;refine CA (h:=Ac6 (fun _=>?_)))|(show aA _ 51 _ _ _;refine CA (h:=QT hs (fun _=>?_)))|(show aA _ 52 _ _ _;refine CA (h:=Adp h3 h4 h1 h2 ?_))|(show aA _ 53 _ _ _;refine CA (h:=Acv h5 h6 (fun _=>?_)))|(show aA _ 54 _ _ _;refine CA (h:=Mx h7 (fun _=>?_)))|(show aA _ 55 _ _ _;refine CA (h:=Lo (fun _=>?_)))|(show aA _ 56 _ _ _;refine CA (h:=Qn (fun _ _=>?_)))|(show aA _ 57 _ _ _;refine CA (h:=ZI (by decide) (fun _=>?_)))|(show aA _ 58 _ _ _;refine CA (h:=Py (by decide) (fun _=>?_)))|(show aA _ 59 _ _ _;refine CA (h:=E8 (s:=⟨rP,rP,[]⟩) (t:=⟨cf.w,cf.st,cf.it⟩) (by decide) (fun Aq cq=>?_));rw[hse,hss];simp only[if_true])|(show aA _ 60 _ _ _;refine CA (h:=jR (out:= []) (f:=⟨5,0,false,⟨#[]⟩,0,0,0,false,0,0,0,Aq,(LG rP ⟨cf.w,cf.st,cf.it⟩).length,cq,LG rP ⟨cf.w,cf.st,cf.it⟩⟩) LN (by exact jY) rfl (by show(LG rP ⟨cf.w,cf.st,cf.it⟩).length<1000000000000000;omega) ?_)))
 all_goals(refine aC ?_;exact aB (hK _ _ _ _ _ _ _ _ _ _ _ _ _ _ _))
end
end Go.Proofs.YtifgibijcmppmaaGreat
namespace Go.Proofs.YtifgibijcmppmaaGreat
open Go Go.Proofs Go.Sl
set_option maxRecDepth 100000
set_option maxHeartbeats 40000000
attribute [local irreducible] aM fG cV bP aN aW aA dP dX aV dO pt ro eW star sep bH
section
variable {R C:List HP} {K:Value→List HP→Prop} {p:Nat} {n:Int} {s u v:ByteArray}
structure Lk where
 b:List UInt8
 ca:Int
 we:Int
def I5 (l:Lk):Prop:=l.b.length≤1048576∧0≤l.ca∧l.ca≤1000000000000∧0≤l.we∧l.we≤1000000000000
def mS (p:Nat) (l:Lk):HP:=eW fun A=>eW fun c=>sep (pt p [.slice A l.b.length c,.int .i64 1048576,.int .i64 l.ca,.int .i64 l.we] 294) (sep (lF A dF l.b) (bH (l.b.length≤c)))
variable {l:Lk}
theorem xT {A:Option Addr} {c k:Nat} (h:l.b.length≤c) (hk:l.b.length=k):aG (pt p [.slice A k c,.int .i64 1048576,.int .i64 l.ca,.int .i64 l.we] 294::lF A dF l.b::R) (mS p l::R):=by
 subst hk
 exact aG.ex A (aG.ex c (aG.sep (aG.pick aT.here (aG.sep (aG.pick aT.here (aG.pure h (aG.refl _)))))))
theorem AZ {f:FuncId} {args:Array Value} (h:∀A c,l.b.length≤c→aA Tryz.prog f args (pt p [.slice A l.b.length c,.int .i64 1048576,.int .i64 l.ca,.int .i64 l.we] 294::lF A dF l.b::R) K):aA Tryz.prog f args (mS p l::R) K:=
 aA.ex fun A=>aA.ex fun c=>aA.sep (aA.ent (aG.trans (aG.cons aG.unsep) (fun _ hs=>(hs.perm (List.Perm.trans (List.Perm.cons _ (List.Perm.swap _ _ _)) (List.Perm.swap _ _ _))))) (aA.pure fun hI=>h A c hI))
theorem Ahm:aG (pt p [.slice none 0 0,.int .i64 1048576,.int .i64 0,.int .i64 0] 294::R) (mS p ⟨[],0,0⟩::R):=fun H hs=>by
 have h1:=aG.cons (aG.nilrow 5 dF R) H hs
 have h2:=tU (aT.there aT.here) (aG.refl _) H h1
 exact xT (l:=⟨[],0,0⟩) (c:=0) (Nat.le_refl 0) rfl H h2.swap
theorem Pl (hK:∀p,K (.tuple #[.pointer (some ⟨p,0,none⟩),.int .i64 0]) (mS p ⟨[],0,0⟩::R)):aA Tryz.prog 122 #[.int .i64 1048576] R K:=by
 refine aH Tryz.func122 ?_
 repeat' (first|refine v6 ?_|refine wr ?_|refine w5 ?_ ?_|((refine bh fun h=>?_) <;> try exact w6 h)|(refine aE fun hA=>?_;subst hA)|intro _)
 all_goals(refine aC ?_;exact aK (aG.trans (by exact aY) ((Ahm))) (hK _))
theorem YD (hK:K (.int .i64 (l.b.length:Nat)) (mS p l::R)):aA Tryz.prog 131 #[.pointer (some ⟨p,0,none⟩)] (mS p l::R) K:=by
 refine AZ fun A c hc=>?_
 refine aH Tryz.func131 ?_
 repeat' (first|refine v4 ?_|refine wr ?_|refine w5 ?_ ?_|((refine bh fun h=>?_) <;> try exact w6 h)|(refine aE fun hA=>?_;subst hA)|intro _)
 all_goals(refine aC ?_;exact aK (aG.trans (by exact aY) ((xT (l:=l) hc rfl))) (hK))
theorem CS (hK:K (.string ⟨l.b.toArray⟩) (mS p l::R)):aA Tryz.prog 229 #[.pointer (some ⟨p,0,none⟩)] (mS p l::R) K:=by
 refine AZ fun A c hc=>?_
 refine aH Tryz.func229 ?_
 repeat' (first|refine v20 ?_|refine wr ?_|refine w5 ?_ ?_|((refine bh fun h=>?_) <;> try exact w6 h)|(refine aE fun hA=>?_;subst hA)|intro _)
 all_goals(refine aC ?_;exact aK (aG.trans (by exact aY) ((xT (l:=l) hc rfl))) (hK))
theorem Ais {A:Option Addr} {c k:Nat} (hk:l.b.length=k):aG (bU A c 5 dF l.b::pt p [.slice A k c,.int .i64 1048576,.int .i64 l.ca,.int .i64 l.we] 294::R) (mS p l::R):=fun H hs=>by
 have h1:=GJ hs
 have h2:=tU aT.here (aG.refl _) H hs
 exact xT h1 hk H h2.swap
def t8:List (Nat×Nat):= [(0,0),(1,0),(2,0),(3,0),(4,0),(5,0),(6,0),(7,0),(8,0),(9,0),(10,0),(11,0),(12,0),(13,0)]
theorem Kf (hI:I5 l) (hu:u.size≤1048576) (hv:v.size≤1048576) (h:(s.size:Int)≤1048576 - l.b.length) (hK:K (.int .i64 0) (mS p ⟨(u++s++v).data.toList,l.ca+s.size,l.we⟩::R)):aA Tryz.prog 228 #[.pointer (some ⟨p,0,none⟩),.string u,.string s,.string v] (mS p l::R) K:=by
 obtain⟨h1,h2,h3,h4,h5⟩:=hI
 refine AZ fun A c hc=>?_
 have e:(u++s++v).size=(u++s++v).data.toList.length:=Array.length_toList.symm
 have e3:(u++s).size=u.size+s.size:=ByteArray.size_append ..
 refine aH Tryz.func228 ?_
 repeat' (first|refine v66 ?_|refine dw t8 ?_|refine wr ?_|refine w5 ?_ ?_|((refine bh fun h=>?_) <;> try exact w6 h)|(refine aE fun hA=>?_;subst hA)|intro _)
 all_goals(refine aC ?_;exact aK (aG.trans (by exact aY) ((Ais (l:=⟨(u++s++v).data.toList,l.ca+s.size,l.we⟩) e.symm))) (hK))
theorem JD (hI:I5 l) (h:1048576 - l.b.length<(s.size:Int)) (hK:K (.int .i64 9) (mS p l::R)):aA Tryz.prog 228 #[.pointer (some ⟨p,0,none⟩),.string u,.string s,.string v] (mS p l::R) K:=by
 obtain⟨h1,h2,h3,h4,h5⟩:=hI
 refine AZ fun A c hc=>?_
 refine aH Tryz.func228 ?_
 repeat' (first|refine v66 ?_|refine dw t8 ?_|refine wr ?_|refine w5 ?_ ?_|((refine bh fun h=>?_) <;> try exact w6 h)|(refine aE fun hA=>?_;subst hA)|intro _)
 all_goals(refine aC ?_;exact aK (aG.trans (by exact aY) ((xT (l:=l) hc rfl))) (hK))
def Vb (s:ByteArray) (l:Lk):Int:=if 1048576 - (l.b.length:Int)<s.size then 9 else 0
def AA (s:ByteArray) (l:Lk):Lk:=if Vb s l=0 then⟨l.b++s.data.toList,l.ca+s.size,l.we⟩ else l
def yB (s:ByteArray) (l:Lk):Lk:=if Vb s l=0 then⟨s.data.toList++l.b,l.ca+s.size,l.we⟩ else l
def CM (n:Int) (l:Lk):Nat:=(max (min n l.b.length) 0).toNat
def vS (n:Int) (l:Lk):Lk:=⟨l.b.drop (CM n l),l.ca,l.we+CM n l⟩
theorem VQ (hI:I5 l) (hK:K (.int .i64 (Vb s l)) (mS p (AA s l)::R)):aA Tryz.prog 226 #[.pointer (some ⟨p,0,none⟩),.string s] (mS p l::R) K:=by
 unfold AA at hK
 by_cases h:1048576 - (l.b.length:Int)<s.size
 ·have e:Vb s l=9:=if_pos h
  rw[e,if_neg (by decide)] at hK
  refine aH Tryz.func226 ?_
  repeat' (first|refine v0 ?_|refine wr ?_|refine w5 ?_ ?_|((refine bh fun h=>?_) <;> try exact w6 h)|(refine aE fun hA=>?_;subst hA)|intro _|(show aA _ 229 _ _ _;refine CA (h:=CS ?_))|(show aA _ 228 _ _ _;refine CA (h:=JD hI h ?_)))
  all_goals(refine aC ?_;exact aB (hK))
 ·have e:Vb s l=0:=if_neg h
  rw[e,if_pos rfl] at hK
  have e2:(⟨l.b.toArray⟩++s++(⟨#[]⟩:ByteArray)).data.toList=l.b++s.data.toList:=by simp[ByteArray.data_append]
  rw[← e2] at hK
  have eu:(⟨l.b.toArray⟩:ByteArray).size≤1048576:=by have:=hI.1;simpa[ByteArray.size] using this
  refine aH Tryz.func226 ?_
  repeat' (first|refine v0 ?_|refine wr ?_|refine w5 ?_ ?_|((refine bh fun h=>?_) <;> try exact w6 h)|(refine aE fun hA=>?_;subst hA)|intro _|(show aA _ 229 _ _ _;refine CA (h:=CS ?_))|(show aA _ 228 _ _ _;refine CA (h:=Kf hI eu (by decide) (by omega) ?_)))
  all_goals(refine aC ?_;exact aB (hK))
theorem H6 (hI:I5 l) (hK:K (.int .i64 (Vb s l)) (mS p (yB s l)::R)):aA Tryz.prog 130 #[.pointer (some ⟨p,0,none⟩),.string s] (mS p l::R) K:=by
 unfold yB at hK
 by_cases h:1048576 - (l.b.length:Int)<s.size
 ·have e:Vb s l=9:=if_pos h
  rw[e,if_neg (by decide)] at hK
  refine aH Tryz.func130 ?_
  repeat' (first|refine v0 ?_|refine wr ?_|refine w5 ?_ ?_|((refine bh fun h=>?_) <;> try exact w6 h)|(refine aE fun hA=>?_;subst hA)|intro _|(show aA _ 229 _ _ _;refine CA (h:=CS ?_))|(show aA _ 228 _ _ _;refine CA (h:=JD hI h ?_)))
  all_goals(refine aC ?_;exact aB (hK))
 ·have e:Vb s l=0:=if_neg h
  rw[e,if_pos rfl] at hK
  have e2:((⟨#[]⟩:ByteArray)++s++⟨l.b.toArray⟩).data.toList=s.data.toList++l.b:=by simp[ByteArray.data_append]
  rw[← e2] at hK
  have eu:(⟨l.b.toArray⟩:ByteArray).size≤1048576:=by have:=hI.1;simpa[ByteArray.size] using this
  refine aH Tryz.func130 ?_
  repeat' (first|refine v0 ?_|refine wr ?_|refine w5 ?_ ?_|((refine bh fun h=>?_) <;> try exact w6 h)|(refine aE fun hA=>?_;subst hA)|intro _|(show aA _ 229 _ _ _;refine CA (h:=CS ?_))|(show aA _ 228 _ _ _;refine CA (h:=Kf hI (by decide) eu (by omega) ?_)))
  all_goals(refine aC ?_;exact aB (hK))
theorem Vy {A:Option Addr} {m c:Nat} {ca we:Int} (hK:K (.int .i64 (m:Nat)) (pt p [.slice A m c,.int .i64 1048576,.int .i64 ca,.int .i64 we] 294::R)):aA Tryz.prog 131 #[.pointer (some ⟨p,0,none⟩)] (pt p [.slice A m c,.int .i64 1048576,.int .i64 ca,.int .i64 we] 294::R) K:=by
 refine aH Tryz.func131 ?_
 repeat' (first|refine v4 ?_|refine wr ?_|refine w5 ?_ ?_|((refine bh fun h=>?_) <;> try exact w6 h)|(refine aE fun hA=>?_;subst hA)|intro _)
 all_goals(refine aC ?_;exact aB (hK))
def CB:List (Nat×Nat):= [(1,0),(2,1),(0,1),(3,0),(4,0),(5,0)]
theorem KF {r2 r3 m c:Nat} {A:Option Addr} {ca we:Int} (hK:K (.int .i64 (max (min n m) 0)) (pt r3 [.int .i64 n] 3::pt r2 [.pointer (some ⟨p,0,none⟩)] 192::pt p [.slice A m c,.int .i64 1048576,.int .i64 ca,.int .i64 we] 294::R)):aA Tryz.prog 318 #[.pointer (some ⟨r3,0,none⟩),.pointer (some ⟨r2,0,none⟩)] (pt r3 [.int .i64 n] 3::pt r2 [.pointer (some ⟨p,0,none⟩)] 192::pt p [.slice A m c,.int .i64 1048576,.int .i64 ca,.int .i64 we] 294::R) K:=by
 refine aH Tryz.func318 ?_
 repeat' (first|refine v17 ?_|refine dw CB ?_|refine wr ?_|refine w5 ?_ ?_|((refine bh fun h=>?_) <;> try exact w6 h)|(refine aE fun hA=>?_;subst hA)|intro _|(show aA _ 131 _ _ _;refine CA (h:=Vy ?_)))
 all_goals(refine aC ?_;exact aB (hK))
def tI:List (Nat×Nat):= [(0,0),(1,0),(2,0),(3,0),(4,0),(5,0),(6,0),(7,0),(8,0),(9,1)]
theorem XA (hI:I5 l) (hK:K (.string ⟨(l.b.take (CM n l)).toArray⟩) (mS p (vS n l)::R)):aA Tryz.prog 227 #[.pointer (some ⟨p,0,none⟩),.int .i64 n] (mS p l::R) K:=by
 obtain⟨h1,h2,h3,h4,h5⟩:=hI
 by_cases h0:max (min n l.b.length) 0=0
 ·have hk:CM n l=0:=by unfold CM;rw[h0];rfl
  have e:vS n l=l:=by unfold vS;rw[hk];simp
  rw[hk,e] at hK
  refine AZ fun A c hc=>?_
  refine aH Tryz.func227 ?_
  repeat' (first|refine v93 ?_|refine dw tI ?_|refine wr ?_|refine w5 ?_ ?_|((refine bh fun h=>?_) <;> try exact w6 h)|(refine aE fun hA=>?_;subst hA)|intro _|(show aA _ 318 _ _ _;refine CA (h:=KF ?_);rw[h0]))
  all_goals(refine aC ?_;exact aK (aG.trans (by exact aY) ((xT (l:=l) hc rfl))) (hK))
 ·obtain⟨k,hk⟩:∃k:Nat,max (min n l.b.length) 0=(k:Int):=⟨(max (min n l.b.length) 0).toNat,by omega⟩
  have hkN:CM n l=k:=by unfold CM;rw[hk];rfl
  have hk1:0<k∧k≤l.b.length:=by omega
  unfold vS at hK
  rw[hkN] at hK
  refine AZ fun A c hc=>?_
  refine aH Tryz.func227 ?_
  have hz1:(l.b.drop ((k:Nat):Int).toNat).take (((l.b.length:Nat):Int).toNat - ((k:Nat):Int).toNat)=l.b.drop k:=by
   rw[Int.toNat_natCast,Int.toNat_natCast]
   exact List.take_of_length_le (by rw[List.length_drop];omega)
  have hz2:(l.b.drop (0:Int).toNat).take (((k:Nat):Int).toNat - (0:Int).toNat)=l.b.take k:=by simp
  have hz3:(List.take (((k:Nat):Int).toNat - (0:Int).toNat) (List.drop (0:Int).toNat l.b)).length=((k:Nat):Int).toNat:=by
   rw[hz2,List.length_take,Int.toNat_natCast]
   omega
  repeat' (first|refine v93 ?_|refine dw tI ?_|refine wr ?_|refine w5 ?_ ?_|((refine bh fun h=>?_) <;> try exact w6 h)|(refine aE fun hA=>?_;subst hA)|intro _|(show aA _ 318 _ _ _;refine CA (h:=KF ?_);rw[hk]))
  all_goals rw[hz1,hz2]
  all_goals(refine aC ?_;exact aK (aG.trans (by exact aY) ((xT (l:=⟨l.b.drop k,l.ca,l.we+k⟩) (by rw[List.length_drop];omega) (by rw[List.length_drop];omega)))) (hK))
end
end Go.Proofs.YtifgibijcmppmaaGreat
