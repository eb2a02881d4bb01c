/- A part of the proof: lemmas; each with the conditions that it states. -/
import Derived.Test.YtepnmcipkangkaaGreatCbi
set_option linter.unusedVariables false
set_option linter.unusedSimpArgs false
set_option maxRecDepth 100000
set_option maxHeartbeats 40000000
namespace Go.Proofs.YtepnmcipkangkaaGreat
open Go Go.Proofs Go.Sl
attribute [local irreducible] aN fL cL bM aL aR aA dJ dK aU dI pt ro fC star sep bF
attribute [local irreducible] mp DG
variable {R C:List HP} {K:KP} {x mc i b p r k:Nat} {a:Ca} {s:Cn} {M:Option Addr} {B id n st t sd:Int} {m:Sm} {c cf:Cf} {q:xP} {g:dR} {d:ByteArray} {e:Bool} {y:Fm}
section
variable {l:List Sm}
theorem LC (hK:K (.string s.last) (cA x a { s with last:=⟨#[]⟩ } M mc R)):CT 107 #[PO x] (cA x a s M mc R) K:=by
 dsimp only[cA,nF] at hK ⊢
 refine aH Tryz.func107 ?_
 repeat' (first|refine v14 ?_|refine w5 ?_ ?_|((refine bh fun h=>?_) <;> try exact w6 h)|(refine aE fun hA=>?_;subst hA)|intro _)
 all_goals(refine aC ?_;exact aB (hK))
theorem UT (hI:bO B s) (hk:f4 c s) (hB:B+300<=250000000):bO (B+300) (sU s).2/\f4 c (sU s).2:=by
 cases h:Ax (s.pk,s.pc) (eK s) with
 |mk o q=>
  have hq:K4 q:=by
   have:=NN (s:=(s.pk,s.pc)) (l:=eK s) hI.pk
   rw[h] at this;exact this
  cases o with
  |none=>
   rw[Ha h]
   exact⟨Anf (hI.mono (by omega) hB) hq,{ hk with }⟩
  |some id=>
   obtain⟨m,hm,hr⟩:=BR hI hk h
   rw[ED h hm hr]
   exact⟨P4 hI hk hm hq hB,RV hI hk hm hq hB⟩
theorem WG:∀ {k:Nat} {s:Cn} {B:Int},bO B s->f4 c s->B+300 * k<=250000000->bO (B+300 * k) (eJ k s).2/\f4 c (eJ k s).2
 |0,s,B,hI,hk,hB=>⟨hI.mono (by omega) hB,hk⟩
 |k+1,s,B,hI,hk,hB=>by
  obtain⟨h1,h2⟩:=UT hI hk (by omega)
  unfold eJ
  cases h:sU s with
  |mk o z=>
   rw[h] at h1 h2
   cases o with
   |none=>exact⟨h1.mono (by omega) hB,h2⟩
   |some f=>
    obtain⟨h3,h4⟩:=WG (k:=k) h1 h2 (by omega)
    exact⟨h3.mono (by omega) hB,h4⟩
theorem D8 (hI:bO B s) (hk:f4 c s) (hB:B+1<=250000000):f4 c (bI s):=by
 have h1:=NX hI hB
 unfold bI
 split
 ·exact iK h1 { hk with }
 ·split
  ·exact iK (s:= { s with bt:=iA s.bt s.now,sl:=nW s.sl s.now (rW s) }) (Hn (q:=rW s) h1) { hk with }
  ·exact { hk with }
theorem O3 (h:bO B s):bO B { s with last:=d }:= { h with }
theorem Em (h:bO B s):bO B { s with out:= [] }:= { h with ou:=No }
theorem Ez (h:f4 c s):f4 c { s with out:= [] }:= { h with fo:=fun f hf=>by cases hf }
theorem Ac4 {d:Dr} {k:Int} (h:(uF d k).ov=true):d.ov=true\/k<=0:=by
 unfold uF at h
 split at h
 ·rename_i hq;exact .inr hq.2.2
 ·exact .inl h
theorem Akz (h:f4 c s):f4 c { s with dr:=uF s.dr s.l.length }:= { h with
 cl:=fun ho=>by
  rcases Ac4 ho with ho|ho
  ·exact h.cl ho
  ·exact(show s.l= [] from List.length_eq_zero_iff.1 (by omega)) }
theorem Abr (hI:bO B s) (hk:f4 c s) (hB:B+1301<=250000000):bO (B+1301) (bW s).2/\f4 c (bW s).2:=by
 have hb:=bH hI
 have hkb:=cP hk
 unfold bW
 split
 ·exact⟨O3 (hb.mono (by omega) hB),{ hkb with ls:=Nat.zero_le 300 }⟩
 ·have h1:=Je hb (by omega)
  have h2:=D8 hb hkb (by omega)
  split
  ·exact⟨O3 (h1.mono (by omega) hB),{ h2 with ls:=Nat.zero_le 300 }⟩
  ·have h3:=Ma (Em h1)
   have h4:=My (Ez h2)
   obtain⟨h5,h6⟩:=WG (k:=4) h3 h4 (by omega)
   exact⟨FN (h5.mono (by omega) hB),Akz h6⟩
end
section
variable {l:List Sm}
theorem Dw (ht:t=0\/t=1) (hs:1<=st/\st<=2147483647) (hd:d.size<=256):bR (uD t st d e):=by
 have h3:G5 0=true:=by decide
 have h4:Kh []=true:=Af4 rfl
 unfold bR sK uD
 simp[h3,h4,CU]
 omega
theorem UB (hd:d.size=8):bR (uD 7 0 d false):=by
 have h3:G5 0=true:=by decide
 have h4:Kh []=true:=Af4 rfl
 unfold bR sK uD
 simp[h3,h4,CU,hd]
theorem P3 (ht:t=10\/t=11) (hs:0<=st/\st<=2147483647) (h0:t=11->1<=st) (hn:1<=n/\n<=2147483647):bR (Ab t st n):=by
 have h2:=(oW n).2 ⟨by omega,hn.2⟩
 have h3:G5 0=true:=by decide
 have h4:Kh []=true:=Af4 rfl
 have h5:(⟨#[]⟩:ByteArray)=ByteArray.empty:=rfl
 unfold bR sK Ab
 simp[h2,h3,h4,h5,CU]
 omega
theorem Ps:(xQ n).size=8:=by
 have h1:=Int.emod_nonneg n (by decide:(2147483648:Int)≠0)
 have h2:=Int.emod_lt_of_pos n (by decide:(0:Int)<2147483648)
 unfold xQ
 generalize n % 2147483648=k at h1 h2 ⊢
 have hm:jE k 4=0:=by
  unfold jE
  rw[if_neg (by decide),if_neg]
  rintro⟨_,h|h⟩
  ·omega
  ·have:((2:Int) ^ (8 * (4:Int)).toNat)=4294967296:=by decide
   rw[this] at h;omega
 have h0:jE 0 4=0:=by decide
 have hf:eO [⟨0,4,⟨#[]⟩⟩,⟨k,4,⟨#[]⟩⟩]=0:=by simp[eO,h0,hm]
 have hs:Kk [⟨0,4,⟨#[]⟩⟩,⟨k,4,⟨#[]⟩⟩] 0=8:=rfl
 have he:yZ [⟨0,4,⟨#[]⟩⟩,⟨k,4,⟨#[]⟩⟩]=0:=by unfold yZ;rw[if_pos hf,hs];rfl
 have:=(I9 he).2.1
 omega
theorem zK:∀f∈fD s,bR f/\f.ps= []/\f.pn=0:=fun f hf=>by
 unfold fD at hf
 split at hf
 ·cases hf
 ·rename_i hq
  rw[List.mem_singleton.1 hf]
  have h1:QI s.bt s.now=1:=by
   by_cases h:QI s.bt s.now=1
   ·exact h
   ·exact absurd (.inr (.inr h)) hq
  refine⟨UB ?_,rfl,rfl⟩
  unfold btD
  rw[if_pos h1];exact Ps
theorem Lu (ht:t=10\/t=11) (hs:0<=st/\st<=2147483647) (h0:t=11->1<=st) (hn:n<=2147483647):∀f∈DX t st n,bR f/\f.ps= []/\f.pn=0:=fun f hf=>by
 unfold DX at hf
 split at hf
 ·rw[List.mem_singleton.1 hf]
  exact⟨P3 ht hs h0 (by omega),rfl,rfl⟩
 ·cases hf
theorem Aih {y:Ys} (h:QK y):G3 y<=2147483647:=by
 cases y with
 |b y=>
  obtain⟨h1,h2,h3,h4,h5,h6,h7,h8,h9⟩:=h
  show rQ y.cap y.gr y.us<=2147483647
  unfold rQ
  split <;> omega
 |i y=>
  obtain⟨h1,h2,h3,h4,h5,h6,h7,h8,h9,h10,h11⟩:=h
  show xO y.room y.op y.ask y.l<=2147483647
  unfold xO
  omega
theorem ID (hI:bO B s) (hF:∀m∈s.l,J8 m):∀f∈iZ s,bR f/\f.ps= []/\f.pn=0:=fun f hf=>by
 unfold iZ at hf
 rcases List.mem_append.1 hf with hf|hf
 ·have hr:=hI.rv
  unfold JN at hr
  refine Lu (.inl rfl) (by omega) (fun h=>by cases h) ?_ f hf
  unfold nP rQ
  split <;> omega
 ·obtain⟨m,hm,hf⟩:=List.mem_flatMap.1 hf
  have hid:=(hI.st m hm).id
  have hd:=Aih (hF m hm).2.1
  unfold mL at hf
  split at hf
  ·refine Lu ?_ (by omega) (fun _=>hid.1) (by omega) f hf
   split
   ·exact .inr rfl
   ·exact .inl rfl
  ·cases hf
theorem UE (hI:bO B s) (hk:f4 c s) {f:Fm} (h:(sU s).1=some f):bR f/\f.ps= []/\f.pn=0:=by
 cases hp:Ax (s.pk,s.pc) (eK s) with
 |mk o q=>
  cases o with
  |none=>rw[Ha hp] at h;cases h
  |some id=>
   obtain⟨m,hm,hr⟩:=BR hI hk hp
   rw[ED hp hm hr] at h
   obtain⟨hi,hmid⟩:=aS hm
   have hmm:=List.mem_of_getElem? hi
   have hid:=(hI.st m hmm).id
   rw[<- Option.some.inj h]
   refine⟨Dw ?_ (by rw[<- hmid];exact hid) (EC (hk.mo m hmm).sz),rfl,rfl⟩
   cases m.x
   ·exact .inl rfl
   ·exact .inr rfl
theorem AI:∀ {k:Nat} {s:Cn} {B:Int},bO B s->f4 c s->B+300 * k<=250000000->∀f∈(eJ k s).1,bR f/\f.ps= []/\f.pn=0
 |0,s,B,hI,hk,hB,f,hf=>by cases hf
 |k+1,s,B,hI,hk,hB,f,hf=>by
  obtain⟨h1,h2⟩:=UT hI hk (by omega)
  unfold eJ at hf
  cases h:sU s with
  |mk o z=>
   rw[h] at h1 h2 hf
   cases o with
   |none=>cases hf
   |some y=>
    rcases List.mem_cons.1 hf with rfl|hf
    ·exact UE hI hk (by rw[h])
    ·exact AI h1 h2 (by omega) f hf
theorem W3 {l:List Fm}:kP (l.map jD)=kP l:=by
 unfold kP
 rw[List.flatMap_map];rfl
theorem qQ {l l':List Fm}:kP (l++l')=kP l++kP l':=by
 unfold kP
 rw[List.flatMap_append]
theorem UK:bR (jD y)↔bR y:=Iff.rfl
def uO (s:Cn):List Fm:=fD (aD s)++(bI (aD s)).out++iZ { bI (aD s) with out:= [] }++(eJ 4 (Ag { bI (aD s) with out:= [] })).1
end
section
variable {l:List Sm}
def Afa (y:Fm):Fm:=⟨y.t,y.st,y.e,y.d,y.k,y.on,y.w,y.x,y.c,y.la,y.n,y.pa,y.pn,y.pc,[]⟩
theorem Ad9 {A:Option Addr} {L ys:List Fm}:aG (bT A k 178 wD (L++ys++ [Afa y])::zE y::mC zE ys::R) (bT A k 178 wD (L++(ys++ [y]))::mC zE (ys++ [y])::R):=
 aG.imp (Q4 (by simp only[List.flatMap_append,List.append_assoc];rfl) (by simp)) (aG.allsnoc (P:=zE) (x:=y) AV AJ)
theorem LX (h:(bI s).dr.ov=false):(bI s).out=s.out:=by
 unfold bI at h ⊢
 split
 ·rename_i hq
  rw[if_pos hq,D2 (by decide)] at h;cases h
 ·rename_i hq
  rw[if_neg hq] at h
  split
  ·rename_i hf
   rw[if_pos hf,D2 (by decide)] at h;cases h
  ·rfl
theorem Aep (h:(bI s).dr.ov=false):(bI s).l=s.l:=by
 unfold bI at h ⊢
 split
 ·rename_i hq
  rw[if_pos hq,D2 (by decide)] at h;cases h
 ·rename_i hq
  rw[if_neg hq] at h
  split
  ·rename_i hf
   rw[if_pos hf,D2 (by decide)] at h;cases h
  ·rfl
theorem Al4 (h:y.ps= []) (hn:y.pn=0):FmV C y:=⟨by rw[h];exact eM,by rw[h,hn];rfl⟩
theorem NQ (h1:s.dr.ov=false) (h2:(bI (aD s)).dr.ov=false) (hr:∀f∈uO s,bR f):bW s=(kP (uO s),{ (eJ 4 (Ag { bI (aD s) with out:= [] })).2 with dr:=uF (eJ 4 (Ag { bI (aD s) with out:= [] })).2.dr (eJ 4 (Ag { bI (aD s) with out:= [] })).2.l.length }):=by
 have ha:(uO s).all lZ=true:=List.all_eq_true.2 fun f hf=>(iX f).2 (hr f hf)
 unfold bW
 rw[if_neg (by rw[h1];decide),if_neg (by rw[h2];decide)]
 show(Tc (uO s),_)=_
 unfold Tc
 rw[if_pos ha]
theorem yA {z:Cn}:eJ (k+1) z=match sU z with
  |(none,s)=>([],s)
  |(some f,s)=>(f::(eJ k s).1,(eJ k s).2):=rfl
theorem Fj:∀ {k:Nat} {s:Cn},(eJ k s).1.length<=k
 |0,_=>Nat.le_refl _
 |k+1,s=>by
  rw[yA]
  split
  ·simp
  ·rename_i f z _
   have:=Fj (k:=k) (s:=z)
   simp only[List.length_cons];omega
theorem Yg {q:Nat} {out:List Fm} (h:out= []) (hK:K (I6 0) (Sq q out::R)):CT 73 #[PO q] (Sq q out::R) K:=by
 subst h;exact IN hK
theorem LQ:(fD s).length<=1:=by unfold fD;split <;> simp
def eQ:List (Nat×Nat):= [(4,0),(5,0),(6,0),(7,0),(8,1),(0,1),(1,1),(2,1),(3,1),(9,1)]
theorem Xw (hI:bO B s) (hk:f4 c s) (hF:∀m∈s.l,J8 m) (hB:B+1301<=250000000) (hK:∀M mc,K (.string ⟨(bW s).1.toArray⟩) (cA x a (bW s).2 M mc R)):CT 27 #[PO x] (cA x a s M mc R) K:=by
 have hbb:=hI.bb
 have hIb:=bH hI
 have hkb:=cP hk
 cases ho:s.dr.ov
 ·have hI1:=Je hIb (by omega)
  have hk1:=D8 hIb hkb (by omega)
  cases ho1:(bI (aD s)).dr.ov
  ·have hou:=LX ho1
   have hti:=Aep ho1
   have hI2:=Em hI1
   have hk2:=Ez hk1
   have hI3:=Ma hI2
   have hk3:=My hk2
   have hF2:∀m∈({ bI (aD s) with out:= [] }:Cn).l,J8 m:=fun m hm=>hF m (by have hm:m∈(bI (aD s)).l:=hm;rw[hti] at hm;exact hm)
   have hgr:=ID hI2 hF2
   have hbr:=AI (k:=4) hI3 hk3 (by omega)
   have hfo:=hk1.fo
   have hr:∀f∈uO s,bR f:=fun f hf=>by
    unfold uO at hf
    rcases List.mem_append.1 hf with hf|hf
    ·rcases List.mem_append.1 hf with hf|hf
     ·rcases List.mem_append.1 hf with hf|hf
      ·exact(zK f hf).1
      ·exact(iX f).1 (hfo f hf).1
     ·exact(hgr f hf).1
    ·exact(hbr f hf).1
   rw[NQ ho ho1 hr] at hK
   have hl0:=LQ (s:=aD s)
   have hgl:(iZ { bI (aD s) with out:= [] }).length<=65:=by
    have h1:=flat_len (l:=(bI (aD s)).l)
    have h2:=hI1.sm.1
    have h3:=D4 (t:=10) (st:=0) (n:=nP (bI (aD s)).rv)
    show(DX 10 0 (nP (bI (aD s)).rv)++(bI (aD s)).l.flatMap mL).length<=65
    rw[List.length_append];omega
   have hst:uO s=fD (aD s)++(bI (aD s)).out++iZ { bI (aD s) with out:= [] }++(eJ 4 (Ag { bI (aD s) with out:= [] })).1:=rfl
   generalize hz2:({ bI (aD s) with out:= [] }:Cn)=z2 at hI2 hk2 hI3 hk3 hgr hbr hgl hK hst
   dsimp only at hK
   have hol:=hI1.ou.1
   refine aH Tryz.func27 ?_
   repeat' (first|refine Sg ?_|refine dw eQ ?_|refine w5 ?_ ?_|((refine bh fun h=>?_) <;> try exact w6 h)|(refine aE fun hA=>?_;subst hA)|intro _|(show aA _ 104 _ _ _;refine CA (h:=cG (x:=x) (a:=a) (s:=s) (M:=M) (mc:=mc) ?_);rw[ho,if_neg Bool.false_ne_true])|(show aA _ 106 _ _ _;refine CA (h:=GQ (x:=x) (a:=a) (s:=aD s) (M:=none) (mc:=0) hIb (by omega) (fun A0 c0 M1 mc1=>?_)))|(show aA _ 105 _ _ _;first|(refine CA (h:=lC (x:=x) (a:=a) (s:=aD s) (M:=none) (mc:=0) ?_);rw[show(aD s).dr.ov=false from ho])|(refine CA (h:=lC (x:=x) (a:=a) (s:=bI (aD s)) (M:=M1) (mc:=mc1) ?_);rw[ho1])))
   refine o7 (aG.allnil (P:=zE) (aG.refl _)) ?_
   refine jA (fun n a' C'=>∃(ys rest L:List Fm) (A:Option Addr) (k:Nat),rest.length=n/\L=fD (aD s)++ys/\ys.map jD++rest=(bI (aD s)).out/\dH a' [(0,PO x),(3,.slice A L.length k)]/\C'=bT A k 178 wD L::mC zE ys::cA x a { bI (aD s) with out:=rest } M1 mc1 R) (bI (aD s)).out.length (cJ (bI (aD s)).out.length ⟨[],(bI (aD s)).out,fD (aD s),A0,c0,rfl,(List.append_nil _).symm,rfl,⟨rfl,rfl,trivial⟩,rfl⟩ (by omega)) ?_
   rintro n a' C' ⟨ys,rest,L,A,k,hn,rfl,hys,ha,rfl⟩
   refine i6 _ ha ?_
   simp only[gJ]
   have hyl:ys.length+rest.length=(bI (aD s)).out.length:=by rw[<- hys];simp
   cases rest with
   |cons f rest=>
    have hou2:Qu (f::rest):=⟨by omega,fun y hy=>hI1.ou.2 y (by rw[<- hys];exact List.mem_append_right _ hy)⟩
    rw[List.length_cons] at hn hyl
    have hl3:∀y:Fm,(fD (aD s)++ys++ [Afa y]).length=(fD (aD s)++(ys++ [y])).length:=fun y=>by simp
    have hLy:(fD (aD s)++ys).length<=1000:=by rw[List.length_append];omega
    dsimp only[cA,nF]
    repeat' (first|(show aN _ _ _ _ _ _ _;(refine pX (E:=wD) (xs:=fD (aD s)++ys) (ys:= [Afa y0]) ?_;intro A2 k2))|refine Sg ?_|refine dw eQ ?_|refine w5 ?_ ?_|((refine bh fun h=>?_) <;> try exact w6 h)|(refine aE fun hA=>?_;subst hA)|intro _|(show aA _ 73 _ _ _;refine CA (h:=IN (out:=f::rest) ?_))|(show aA _ 108 _ _ _;refine CA (h:=Xd hou2 (fun y0 hy0=>?_))))
    all_goals(show aU _ _ _ _;exact qK (m:=n - 1) (C':=bT A2 k2 178 wD (fD (aD s)++(ys++ [y0]))::mC zE (ys++ [y0])::cA x a { bI (aD s) with out:=rest } M1 mc1 R) (by omega) (aG.trans (by exact aY) Ad9) ⟨ys++ [y0],rest,fD (aD s)++(ys++ [y0]),A2,k2,by omega,rfl,by rw[List.map_append,List.append_assoc,<- hys,<- hy0];rfl,⟨rfl,congrArg (fun q=>Value.slice A2 q k2) (hl3 y0),trivial⟩,rfl⟩)
   |nil=>
    rw[List.append_nil] at hys
    rw[hz2]
    simp only[List.length_nil] at hyl
    have hLy:(fD (aD s)++ys).length<=1000:=by rw[List.length_append];omega
    have hz2o:z2.out= []:=by rw[<- hz2]
    dsimp only[cA,nF]
    repeat' (first|(show aN _ _ _ _ _ _ _;(refine pX (E:=wD) (xs:=fD (aD s)++ys) (ys:=iZ z2) ?_;intro A4 k4))|refine Sg ?_|refine dw eQ ?_|refine w5 ?_ ?_|((refine bh fun h=>?_) <;> try exact w6 h)|(refine aE fun hA=>?_;subst hA)|intro _|(show aA _ 73 _ _ _;refine CA (h:=Yg (out:=z2.out) hz2o ?_))|(show aA _ 109 _ _ _;refine CA (h:=Pi (x:=x) (a:=a) (s:=z2) (M:=M1) (mc:=mc1) hI2 (fun A3 k3=>?_))))
    refine jA (fun n a' C'=>∃(j:Nat) (zs L:List Fm) (z:Cn) (A:Option Addr) (k:Nat) (M2:Option Addr) (mc2:Nat),j+n=4/\L=fD (aD s)++ys++iZ z2++zs/\zs.length<=j/\bO (B+1+300 * j) z/\f4 c z/\eJ 4 (Ag z2)=(zs++(eJ n z).1,(eJ n z).2)/\dH a' [(0,PO x),(3,.slice A L.length k),(44,I6 j)]/\C'=bT A k 178 wD L::mC zE ys::cA x a z M2 mc2 R) 4 (cJ 4 ⟨0,[],fD (aD s)++ys++iZ z2,Ag z2,A4,k4,M1,mc1,rfl,(List.append_nil _).symm,Nat.le_refl _,hI3.mono (by omega) (by omega),hk3,rfl,⟨rfl,rfl,rfl,trivial⟩,rfl⟩ (by omega)) ?_
    rintro n2 a2 C2 ⟨j,zs,L,z,A,k,M2,mc2,hj,hL,hzl,hIz,hkz,hb,ha2,rfl⟩
    refine i6 _ ha2 ?_
    simp only[gJ]
    have hyp:∀y∈ys,y.ps.length=y.pn:=fun y hy=>(hfo (jD y) (by rw[<- hys];exact List.mem_map_of_mem hy)).2.1
    have hLl:L.length<=1000000:=by rw[hL];simp only[List.length_append];omega
    have hfin:∀ {z':Cn},eJ 4 (Ag z2)=(zs,z')->kP (uO s)=kP L/\(∀y∈L,bR y)/\∀y∈L,(y.ps= []/\y.pn=0)\/y∈ys:=fun {z'} hz=>by
     have h1:uO s=fD (aD s)++ys.map jD++iZ z2++zs:=by rw[hst,hz,<- hys]
     have h2:kP (uO s)=kP L:=by rw[h1,hL,qQ,qQ,qQ,qQ,qQ,qQ,W3]
     refine⟨h2,fun y hy=>?_,fun y hy=>?_⟩
     ·rw[hL] at hy
      rcases List.mem_append.1 hy with hy|hy
      ·rcases List.mem_append.1 hy with hy|hy
       ·rcases List.mem_append.1 hy with hy|hy
        ·exact(zK y hy).1
        ·exact UK.1 ((iX _).1 (hfo (jD y) (by rw[<- hys];exact List.mem_map_of_mem hy)).1)
       ·exact(hgr y hy).1
      ·exact(hbr y (by rw[hz];exact hy)).1
     ·rw[hL] at hy
      rcases List.mem_append.1 hy with hy|hy
      ·rcases List.mem_append.1 hy with hy|hy
       ·rcases List.mem_append.1 hy with hy|hy
        ·exact .inl (zK y hy).2
        ·exact .inr hy
       ·exact .inl (hgr y hy).2
      ·exact .inl (hbr y (by rw[hz];exact hy)).2
    by_cases hlt:j<4
    ·obtain⟨n3,rfl⟩:∃n3,n2=n3+1:=⟨n2 - 1,by omega⟩
     cases hp:Ax (z.pk,z.pc) (eK z) with
     |mk o q=>
      cases o with
      |none=>
       rw[yA (k:=n3) (z:=z),Ha hp] at hb
       dsimp only at hb
       rw[List.append_nil] at hb
       obtain⟨hE,hLr,hLp⟩:=hfin hb
       rw[hE,hb] at hK
       dsimp only at hK
       repeat' (first|refine Sg ?_|refine dw eQ ?_|refine w5 ?_ ?_|((refine bh fun h=>?_) <;> try exact w6 h)|(refine aE fun hA=>?_;subst hA)|intro _|(show aA _ 110 _ _ _;refine CA (h:=Us (x:=x) (a:=a) (s:=z) (M:=M2) (mc:=mc2) hIz hkz hp ?_))|(show aA _ 60 _ _ _;refine CA (h:=Ad (l:=(ZZ q z).l) ?_))|(show aA _ 111 _ _ _;refine CA (h:=Pz (d:=(ZZ q z).dr) ?_))|(show aA _ 112 _ _ _;refine CA (h:=Ro (xs:=L) hLr (by exact lL) (fun y hy=>(hLp y hy).elim (fun qq=>Al4 qq.1 qq.2) (fun qq=>⟨by((repeat (first|exact yJ qq|apply bN)) <;> exact yJ qq),hyp y qq⟩)) rfl hLl ?_)))
       all_goals(refine aC ?_;exact aB (hK _ _))
      |some id=>
       obtain⟨m,hm,hr2⟩:=BR hIz hkz hp
       have hIz2:=P4 hIz hkz hm (by have:=NN (s:=(z.pk,z.pc)) (l:=eK z) hIz.pk;rw[hp] at this;exact this) (by omega)
       have hkz2:=RV hIz hkz hm (by have:=NN (s:=(z.pk,z.pc)) (l:=eK z) hIz.pk;rw[hp] at this;exact this) (by omega)
       rw[yA (k:=n3) (z:=z),ED hp hm hr2] at hb
       dsimp only at hb
       repeat' (first|(show aN _ _ _ _ _ _ _;(refine pX (E:=wD) (xs:=L) (ys:= [Ak id m z]) ?_;intro A5 k5))|refine Sg ?_|refine dw eQ ?_|refine w5 ?_ ?_|((refine bh fun h=>?_) <;> try exact w6 h)|(refine aE fun hA=>?_;subst hA)|intro _|(show aA _ 110 _ _ _;refine CA (h:=UD (x:=x) (a:=a) (s:=z) (M:=M2) (mc:=mc2) hIz hkz (by omega) hp hm hr2 (fun M3 mc3=>?_))))
       all_goals(show aU _ _ _ _;exact cJ n3 ⟨j+1,zs++ [Ak id m z],L++ [Ak id m z],wI id m q z,A5,k5,M3,mc3,by omega,by rw[hL,List.append_assoc],by rw[List.length_append,List.length_singleton];omega,hIz2.mono (by omega) (by omega),hkz2,by rw[hb,List.append_assoc];rfl,⟨rfl,rfl,rfl,trivial⟩,rfl⟩)
    ·obtain rfl:n2=0:=by omega
     obtain rfl:j=4:=by omega
     have hb2:eJ 4 (Ag z2)=(zs,z):=by rw[hb];show(zs++ [],z)=_;rw[List.append_nil]
     obtain⟨hE,hLr,hLp⟩:=hfin hb2
     rw[hE,hb2] at hK
     dsimp only at hK
     dsimp only[cA,nF]
     repeat' (first|refine Sg ?_|refine dw eQ ?_|refine w5 ?_ ?_|((refine bh fun h=>?_) <;> try exact w6 h)|(refine aE fun hA=>?_;subst hA)|intro _|(show aA _ 60 _ _ _;refine CA (h:=Ad (l:=(z).l) ?_))|(show aA _ 111 _ _ _;refine CA (h:=Pz (d:=(z).dr) ?_))|(show aA _ 112 _ _ _;refine CA (h:=Ro (xs:=L) hLr (by exact lL) (fun y hy=>(hLp y hy).elim (fun qq=>Al4 qq.1 qq.2) (fun qq=>⟨by((repeat (first|exact yJ qq|apply bN)) <;> exact yJ qq),hyp y qq⟩)) rfl hLl ?_)))
     all_goals(refine aC ?_;exact aB (hK _ _))
  ·have e:bW s=((bI (aD s)).last.data.toList,{ bI (aD s) with last:=⟨#[]⟩ }):=by unfold bW;rw[if_neg (by rw[ho];decide),if_pos ho1]
   rw[e] at hK
   have el:(⟨((bI (aD s)).last.data.toList).toArray⟩:ByteArray)=(bI (aD s)).last:=by simp
   dsimp only at hK
   rw[el] at hK
   refine aH Tryz.func27 ?_
   repeat' (first|refine Sg ?_|refine dw eQ ?_|refine w5 ?_ ?_|((refine bh fun h=>?_) <;> try exact w6 h)|(refine aE fun hA=>?_;subst hA)|intro _|(show aA _ 104 _ _ _;refine CA (h:=cG (x:=x) (a:=a) (s:=s) (M:=M) (mc:=mc) ?_);rw[ho,if_neg Bool.false_ne_true])|(show aA _ 106 _ _ _;refine CA (h:=GQ (x:=x) (a:=a) (s:=aD s) (M:=none) (mc:=0) hIb (by omega) (fun _ _ _ _=>?_)))|(show aA _ 105 _ _ _;first|(refine CA (h:=lC (x:=x) (a:=a) (s:=aD s) (M:=none) (mc:=0) ?_);rw[show(aD s).dr.ov=false from ho])|(refine CA (h:=lC (x:=x) (a:=a) (s:=bI (aD s)) ?_);rw[ho1]))|(show aA _ 107 _ _ _;refine CA (h:=LC (x:=x) (a:=a) (s:=bI (aD s)) ?_)))
   all_goals(refine aC ?_;exact aB (hK _ _))
 ·have e:bW s=(s.last.data.toList,{ aD s with last:=⟨#[]⟩ }):=by unfold bW;rw[if_pos ho]
  rw[e] at hK
  have el:(⟨(s.last.data.toList).toArray⟩:ByteArray)=s.last:=by simp
  dsimp only at hK
  rw[el] at hK
  refine aH Tryz.func27 ?_
  repeat' (first|refine Sg ?_|refine dw eQ ?_|refine w5 ?_ ?_|((refine bh fun h=>?_) <;> try exact w6 h)|(refine aE fun hA=>?_;subst hA)|intro _|(show aA _ 104 _ _ _;refine CA (h:=cG (x:=x) (a:=a) (s:=s) (M:=M) (mc:=mc) ?_);rw[ho,if_pos rfl])|(show aA _ 105 _ _ _;refine CA (h:=lC (x:=x) (a:=a) (s:=aD s) (M:=none) (mc:=0) ?_);rw[show(aD s).dr.ov=true from ho])|(show aA _ 107 _ _ _;refine CA (h:=LC (x:=x) (a:=a) (s:=aD s) ?_)))
  all_goals(refine aC ?_;exact aB (hK _ _))
end
theorem TM (h:sd=0\/sd=1) (hK:∀p,K (.tuple #[PO p,I6 0]) (pt p [I6 sd,I6 (sd+1),I6 0] 279::R)):CT 91 #[I6 sd] R K:=by
 rcases h with rfl|rfl
 all_goals
  refine aH Tryz.func91 ?_
  repeat' (first|refine v42 ?_|refine w5 ?_ ?_|((refine bh fun h=>?_) <;> try exact w6 h)|(refine aE fun hA=>?_;subst hA)|intro _)
  all_goals(refine aC ?_;exact aB (hK _))
theorem MY (h:0<=n/\n<=1048576) (hK:∀p,K (.tuple #[PO p,I6 0]) (slP p ⟨n,0,0,false,false⟩::R)):CT 94 #[I6 n] R K:=by
 unfold slP at hK
 refine aH Tryz.func94 ?_
 repeat' (first|refine v6 ?_|refine w5 ?_ ?_|((refine bh fun h=>?_) <;> try exact w6 h)|(refine aE fun hA=>?_;subst hA)|intro _)
 all_goals(refine aC ?_;exact aB (hK _))
theorem Nq (hK:∀p,K (PO p) (DZ p ⟨false,false,false,0,0,0⟩::R)):CT 88 #[] R K:=by
 unfold DZ at hK
 refine aH Tryz.func88 ?_
 repeat' (first|refine v6 ?_|refine w5 ?_ ?_|((refine bh fun h=>?_) <;> try exact w6 h)|(refine aE fun hA=>?_;subst hA)|intro _)
 all_goals(refine aC ?_;exact aB (hK _))
theorem Nx (hK:∀p,K (.tuple #[PO p,I6 0]) (IH p []::R)):CT 95 #[I6 64] R K:=
 aA.entK (Aad (by decide) fun p=>⟨_,aG.trans (aG.trans (aG.cons (aG.nilrow _ _ _)) (aG.cons (aG.cons (L4 (f:=Sp))))) (zC (q:= []) ⟨rfl,fun e he=>by cases he⟩ rfl rfl),hK p⟩)
theorem Rf (hK:∀p q,K (.tuple #[PO p,I6 0]) (pt p [I6 64,.map (some q)] 287::mp q (kM sR []) 0::R)):CT 96 #[I6 64] R K:=by
 refine aH Tryz.func96 ?_
 repeat' (first|refine v6 ?_|refine w5 ?_ ?_|((refine bh fun h=>?_) <;> try exact w6 h)|(refine aE fun hA=>?_;subst hA)|intro _|(show aN _ _ _ _ _ _ _;refine Fv ?_;intro _))
 all_goals(refine aC ?_;exact aB (hK _ _))
def rO:dR:=⟨64,8,4⟩
theorem Nc (hK:∀p,K (PO p) (R6 p ⟨rO,rO,[]⟩::R)):CT 86 #[] R K:=by
 refine aH Tryz.func86 ?_
 repeat' (first|refine v21 ?_|refine w5 ?_ ?_|((refine bh fun h=>?_) <;> try exact w6 h)|(refine aE fun hA=>?_;subst hA)|intro _|(show aA _ 87 _ _ _;refine CA (h:=JW ?_)))
 all_goals(refine aC ?_;exact aM (aG.trans (by exact aY) ((aG.ex (g:=fun A=>fC fun c=>sep (pt _ [I6 64,I6 8,I6 4,I6 64,I6 8,I6 4,.slice A 0 c] 266) (bT A c 23 GD [])) none (aG.ex 0 (aG.sep (aG.cons (aG.nilrow _ _ _))))))) (hK _))
def jV (sd:Int) (cf:Cf):Cn:= { cf:=cf,sd:=sd,nx:=sd+1,la:=0,l:= [],tr:=([],0),pk:= [],pc:=0,ld:=⟨512,0,[]⟩,rv:=⟨512,512,512,0,0⟩,sh:=⟨rO,Ou rO ⟨cf.w,cf.st,cf.it⟩,[⟨cf.w,cf.st,cf.it⟩]⟩,pe:=rO,bt:=⟨cf.ev,cf.wa,0,0,false,false,0,0⟩,sl:=⟨cf.sl,0,0,false,false⟩,dr:=⟨false,false,false,0,0,0⟩,out:=wL (vS (CX rO ⟨cf.w,cf.st,cf.it⟩)) [],inb:= [],ine:=0,now:=0,last:=⟨#[]⟩,mv:= [] }
structure E6 (cf:Cf):Prop where
 s:sD cf.w cf.st cf.it=true
 sb:0<=cf.sb/\cf.sb<=4096
 si:0<=cf.si/\cf.si<=64
 sg:0<=cf.sg/\cf.sg<=2
 ev:0<=cf.ev/\cf.ev<=1048576
 wa:0<=cf.wa/\cf.wa<=1048576
 sl:0<=cf.sl/\cf.sl<=1048576
def FW:List (Nat×Nat):= [(1,1),(2,1),(3,1),(4,1),(5,1),(6,1),(0,6),(7,0),(8,1),(9,0)]
def E7:List (Nat×Nat):= [(0,0),(1,0),(2,0),(3,0),(4,0),(5,0),(6,1),(7,0),(8,0),(9,0),(10,0),(11,0)]
theorem Afz (hs:sd=0\/sd=1) (h:E6 cf) (hK:∀x a,K (.tuple #[PO x,I6 0]) (cA x a (jV sd cf) none 0 R)):CT 24 #[I6 sd,.agg #[I6 cf.w,I6 cf.st,I6 cf.it,I6 cf.sb,I6 cf.si,I6 cf.sg,I6 cf.ev,I6 cf.wa,I6 cf.sl]] R K:=by
 obtain⟨h1,h2,h3,h4,h5,h6,h7⟩:=h
 have hK:∀x r1 r2 r3 r4 r5 r6 r7 r8 r9 r10 r11 r12 r13 r14,K (.tuple #[PO x,I6 0]) (cA x ⟨r1,r2,r3,r4,r5,r6,r7,r8,r9,r10,r11,r12,r13,r14⟩ (jV sd cf) none 0 R):=fun x r1 r2 r3 r4 r5 r6 r7 r8 r9 r10 r11 r12 r13 r14=>hK x ⟨r1,r2,r3,r4,r5,r6,r7,r8,r9,r10,r11,r12,r13,r14⟩
 dsimp only[cA,nF,jV] at hK
 have hlen:=Nz (u:=rO) (v:=⟨cf.w,cf.st,cf.it⟩)
 have hse:iE ⟨rO,rO,[]⟩ ⟨cf.w,cf.st,cf.it⟩=0:=by unfold iE;rw[if_neg (by rw[h1];decide)];rfl
 have hss:eC ⟨rO,rO,[]⟩ ⟨cf.w,cf.st,cf.it⟩=⟨rO,Ou rO ⟨cf.w,cf.st,cf.it⟩,[⟨cf.w,cf.st,cf.it⟩]⟩:=by unfold eC;rw[if_pos hse];rfl
 refine aH Tryz.func24 ?_
 repeat' (first|refine AB ?_|refine dw FW ?_|refine dw E7 ?_|refine w5 ?_ ?_|((refine bh fun h=>?_) <;> try exact w6 h)|(refine aE fun hA=>?_;subst hA)|intro _|(show aA _ 85 _ _ _;refine CA (h:=Ady (fun _ _=>?_)))|(show aA _ 86 _ _ _;refine CA (h:=Nc (fun _=>?_)))|(show aA _ 87 _ _ _;refine CA (h:=JW ?_))|(show aA _ 88 _ _ _;refine CA (h:=Nq (fun _=>?_)))|(show aA _ 89 _ _ _;refine CA (h:=Aet (fun _=>?_)))|(show aA _ 90 _ _ _;refine CA (h:=Ahd (fun _=>?_)))|(show aA _ 91 _ _ _;refine CA (h:=TM hs (fun _=>?_)))|(show aA _ 92 _ _ _;refine CA (h:=Ag3 h3 h4 h1 h2 ?_))|(show aA _ 93 _ _ _;refine CA (h:=Afn h5 h6 (fun _=>?_)))|(show aA _ 94 _ _ _;refine CA (h:=MY h7 (fun _=>?_)))|(show aA _ 95 _ _ _;refine CA (h:=Nx (fun _=>?_)))|(show aA _ 96 _ _ _;refine CA (h:=Rf (fun _ _=>?_)))|(show aA _ 97 _ _ _;refine CA (h:=Aaa (by decide) (fun _=>?_)))|(show aA _ 98 _ _ _;refine CA (h:=R8 (by decide) (fun _=>?_)))|(show aA _ 99 _ _ _;refine CA (h:=FL (s:=⟨rO,rO,[]⟩) (t:=⟨cf.w,cf.st,cf.it⟩) (by decide) (fun Aq cq=>?_));rw[hse,hss];simp only[if_true])|(show aA _ 100 _ _ _;refine CA (h:=k9 (out:= []) (f:=⟨5,0,false,⟨#[]⟩,0,0,0,false,0,0,0,Aq,(CX rO ⟨cf.w,cf.st,cf.it⟩).length,cq,CX rO ⟨cf.w,cf.st,cf.it⟩⟩) No (by exact lL) rfl (by show(CX rO ⟨cf.w,cf.st,cf.it⟩).length<1000000000000000;omega) ?_)))
 all_goals(refine aC ?_;exact aB (hK _ _ _ _ _ _ _ _ _ _ _ _ _ _ _))
end Go.Proofs.YtepnmcipkangkaaGreat
namespace Go.Proofs.YtepnmcipkangkaaGreat
open Go Go.Proofs Go.Sl
attribute [local irreducible] ByteArray.extract rP
variable {f:Fm} {n:Int} {a b:ByteArray}
theorem oS {t:ByteArray} {i j:Nat} {a b c:List UInt8} (h:t.data.toList=a++(b++c)) (ha:a.length=i) (hb:i+b.length=j):rP t i j=qB b:=by
 rw[yO,h,List.drop_left' ha,List.take_left' (by omega)]
theorem An0 (h:0<=n/\n<=255):qB (wB n 1)=n:=zY (by decide) h.1 (by show n<(256:Int) ^ 1;omega)
theorem Aqj (h:0<=n/\n<=65535):qB (wB n 2)=n:=zY (by decide) h.1 (by show n<(256:Int) ^ 2;omega)
theorem Xl (h:0<=n/\n<=2147483647):qB (wB n 4)=n:=zY (by decide) h.1 (by show n<(256:Int) ^ 4;omega)
theorem l1 (n:Int):(wB n 1).length=1:=lG n 1
theorem l2 (n:Int):(wB n 2).length=2:=lG n 2
theorem l4 (n:Int):(wB n 4).length=4:=lG n 4
theorem Vo:∀ {ps:List Pr} {p:ByteArray} {a c:List UInt8} {k:Nat},Kh ps=true->p.data.toList=a++(Sr ps++c)->a.length=6 * k->(List.range' k ps.length).map (Aij p)=ps
 | [],_,_,_,_,_,_,_=>rfl
 |q::ps,p,a,c,k,hp,h,ha=>by
  have hq:(0<=q.i/\q.i<=65535)/\0<=q.v/\q.v<=2147483647:=by
   unfold Kh G5 at hp
   simp only[List.all_cons,Bool.and_eq_true,decide_eq_true_eq] at hp
   exact⟨hp.1.1,hp.1.2⟩
  have hp2:Kh ps=true:=by
   unfold Kh at hp ⊢
   simp only[List.all_cons,Bool.and_eq_true] at hp
   exact hp.2
  have e:Sr (q::ps)=wB q.i 2++(wB q.v 4++Sr ps):=by unfold Sr;simp
  rw[e] at h
  have h1:rP p (6 * k) (6 * k+2)=q.i:=by
   rw[oS (a:=a) (b:=wB q.i 2) (c:=wB q.v 4++Sr ps++c) (by rw[h];simp) ha (by rw[l2]),Aqj hq.1]
  have h2:rP p (6 * k+2) (6 * k+2+4)=q.v:=by
   rw[oS (a:=a++wB q.i 2) (b:=wB q.v 4) (c:=Sr ps++c) (by rw[h];simp) (by rw[List.length_append,l2,ha]) (by rw[l4]),Xl hq.2]
  have ih:=Vo (ps:=ps) (p:=p) (a:=a++(wB q.i 2++wB q.v 4)) (c:=c) (k:=k+1) hp2 (by rw[h];simp) (by simp only[List.length_append,l2,l4,ha];omega)
  rw[List.length_cons,List.range'_succ,List.map_cons,ih]
  unfold Aij
  rw[h1,h2]
def Ay (f:Fm):Prop:=f.pa=none/\f.pc=0/\f.ps.length=f.pn
theorem z6 (h:Ay f):jD f=f:=by
 obtain⟨t,st,e,d,k,on,w,x,c,la,n,pa,pn,pc,ps⟩:=f
 obtain⟨h1,h2,h3⟩:=h
 cases h1;cases h2
 rfl
def mR (f:Fm):ByteArray:=⟨(nH f.t f.d f.k f.on f.w f.x f.c f.la f.n f.ps).toArray⟩
theorem Il:xK f=jS ((mR f).size:Nat) f.t (tL f.e) f.st++mR f:=rfl
theorem K2:(mR f).data.toList=nH f.t f.d f.k f.on f.w f.x f.c f.la f.n f.ps:=by unfold mR;simp
theorem Agv (h:bR f):gD f.t (mR f)=f.d/\gK f.t (mR f)=f.k/\gO f.t (mR f)=f.on/\gW f.t (mR f)=f.w/\gX f.t (mR f)=f.x/\gC f.t (mR f)=f.c/\gL f.t (mR f)=f.la/\gN f.t (mR f)=f.n/\gP f.t (mR f)=f.ps:=by
 have hp:=K2 (f:=f)
 obtain⟨t,st,e,d,k,on,w,x,c,la,n,pa,pn,pc,ps⟩:=f
 generalize hq:mR ⟨t,st,e,d,k,on,w,x,c,la,n,pa,pn,pc,ps⟩=p at hp ⊢
 clear hq
 dsimp only at hp ⊢
 obtain⟨r1,r2,r3,r4,r5,r6,r7,r8,r9,r10,r11,r12,r13,r14,r15,r16,r17,r18,r19,r20,r21⟩:=h
 dsimp only at r1 r2 r3 r4 r5 r6 r7 r8 r9 r10 r11 r12 r13 r14 r15 r16 r17 r18 r19 r20 r21
 rw[oW] at r18 r19 r20
 have hno:¬(t=2\/t=3)->on=0/\w=0/\x=false:=fun h=>by
  cases hb:CU on w x
  ·exact absurd (r11 hb) h
  ·exact(Rh on w x).1 hb
 have hd0:¬(t<=1\/t=7\/t=8)->d=⟨#[]⟩:=fun h=>Al9.2 (by
  cases Nat.eq_zero_or_pos d.size with
  |inl h0=>exact h0
  |inr h0=>exact absurd (r12 h0) h)
 have hps:t≠5->ps= []:=fun h=>by
  cases ps with
  |nil=>rfl
  |cons q l=>exact absurd (r10 (Nat.succ_pos _)) h
 have hk0:t≠2->k=0:=fun h=>by by_cases hk:k=0;exact hk;exact absurd (r6 hk) h
 have hc0:¬(t=4\/t=9)->c=0:=fun h=>by by_cases hk:c=0;exact hk;exact absurd (r7 hk) h
 have hl0:t≠9->la=0:=fun h=>by by_cases hk:la=0;exact hk;exact absurd (r8 hk) h
 have hn0:¬10<=t->n=0:=fun h=>by by_cases hk:n=0;exact hk;exact absurd (r9 hk) h
 unfold gD gK gO gW gX gC gL gN gP
 by_cases h23:t=2\/t=3
 ·have hdep:=r16 h23
  unfold Oz at hdep
  simp only[Bool.and_eq_true,decide_eq_true_eq] at hdep
  obtain⟨hon,hw⟩:=hdep
  rw[oW] at hon
  have hk:0<=k/\k<=255:=by
   by_cases h2:t=2
   ·have:=r15 h2;omega
   ·have:=hk0 h2;omega
  have hb:=EE x
  unfold nH at hp
  rw[if_pos h23] at hp
  rw[if_neg (by omega),if_pos h23,if_pos h23,if_pos h23,if_pos h23,if_neg (by omega),if_neg (by omega),if_neg (by omega),if_neg (by omega),if_neg (by omega)]
  have q1:rP p 0 1=k:=by rw[oS (i:=0) (a:= []) (b:=wB k 1) (by rw[hp];rfl) rfl (by rw[l1]),An0 hk]
  have q2:rP p 1 2=tL x:=by rw[oS (a:=wB k 1) (b:=wB (tL x) 1) (by rw[hp]) (l1 _) (by rw[l1]),An0 (by omega)]
  have q3:rP p 2 3=w - 1:=by rw[oS (a:=wB k 1++wB (tL x) 1) (b:=wB (w - 1) 1) (by rw[hp];simp only[List.append_assoc];rfl) (by simp only[List.length_append,l1]) (by rw[l1]),An0 (by omega)]
  have q4:rP p 4 8=on:=by rw[oS (a:=wB k 1++wB (tL x) 1++wB (w - 1) 1++wB 0 1) (b:=wB on 4) (c:= []) (by rw[hp];simp only[List.append_assoc,List.append_nil]) (by simp only[List.length_append,l1]) (by rw[l4]),Xl hon]
  rw[q1,q2,q3,q4]
  refine⟨(hd0 (by omega)).symm,rfl,rfl,by omega,?_,(hc0 (by omega)).symm,(hl0 (by omega)).symm,(hn0 (by omega)).symm,(hps (by omega)).symm⟩
  cases x <;> rfl
 ·obtain⟨z1,z2,z3⟩:=hno h23
  subst z1 z2 z3
  rw[if_neg h23,if_neg h23,if_neg h23,if_neg h23]
  unfold nH at hp
  rw[if_neg h23] at hp
  have hk:=hk0 (by omega)
  subst hk
  by_cases h4:t=4
  ·rw[if_pos h4] at hp
   rw[if_neg (by omega),if_pos h4,if_neg (by omega),if_neg (by omega),if_neg (by omega)]
   have q1:rP p 0 4=c:=by rw[oS (i:=0) (a:= []) (b:=wB c 4) (c:= []) (by rw[hp];simp) rfl (by rw[l4]),Xl r18]
   exact⟨(hd0 (by omega)).symm,rfl,rfl,rfl,rfl,q1,(hl0 (by omega)).symm,(hn0 (by omega)).symm,(hps (by omega)).symm⟩
  ·rw[if_neg h4] at hp
   by_cases h9:t=9
   ·rw[if_pos h9] at hp
    rw[if_neg (by omega),if_neg h4,if_pos h9,if_pos h9,if_neg (by omega),if_neg (by omega)]
    have q1:rP p 0 4=la:=by rw[oS (i:=0) (a:= []) (b:=wB la 4) (c:=wB c 4) (by rw[hp];rfl) rfl (by rw[l4]),Xl r19]
    have q2:rP p 4 8=c:=by rw[oS (a:=wB la 4) (b:=wB c 4) (c:= []) (by rw[hp];simp) (l4 _) (by rw[l4]),Xl r18]
    exact⟨(hd0 (by omega)).symm,rfl,rfl,rfl,rfl,q2,q1,(hn0 (by omega)).symm,(hps (by omega)).symm⟩
   ·rw[if_neg h9] at hp
    have hc:=hc0 (by omega)
    have hla:=hl0 h9
    subst hc hla
    by_cases h10:t=10\/t=11
    ·rw[if_pos h10] at hp
     rw[if_neg (by omega),if_neg h4,if_neg h9,if_neg h9,if_pos h10,if_neg (by omega)]
     have q1:rP p 0 4=n:=by rw[oS (i:=0) (a:= []) (b:=wB n 4) (c:= []) (by rw[hp];simp) rfl (by rw[l4]),Xl r20]
     exact⟨(hd0 (by omega)).symm,rfl,rfl,rfl,rfl,rfl,rfl,q1,(hps (by omega)).symm⟩
    ·rw[if_neg h10] at hp
     have hn:=hn0 (by omega)
     subst hn
     rw[if_neg h4,if_neg h9,if_neg h9,if_neg h10]
     by_cases h5:t=5
     ·have hd:=hd0 (by omega)
      subst hd
      rw[if_neg (by omega),if_pos h5]
      have hp:p.data.toList= []++(Sr ps++ []):=by rw[hp];simp
      have hsz:p.size=6 * ps.length:=by
       have:p.data.toList.length=p.size:=Array.length_toList
       rw[<- this,hp];simp[BP]
      refine⟨rfl,rfl,rfl,rfl,rfl,rfl,rfl,rfl,?_⟩
      unfold ML
      rw[hsz,Nat.mul_div_cancel_left _ (by decide),List.range_eq_range']
      exact Vo r17 hp rfl
     ·have hz:=hps h5
      subst hz
      have hp:p.data.toList=d.data.toList:=by rw[hp];simp[Sr]
      have hpd:p=d:=ByteArray.ext (Array.toList_inj.1 hp)
      subst hpd
      rw[if_neg h5]
      refine⟨?_,rfl,rfl,rfl,rfl,rfl,rfl,rfl,rfl⟩
      by_cases h78:t=0\/t=1\/t=7\/t=8
      ·rw[if_pos h78]
      ·rw[if_neg h78];exact(hd0 (by omega)).symm
theorem QR (h:bR f):((mR f).size<=256)/\(f.t=5->(mR f).size=6 * f.ps.length)/\(f.t=2\/f.t=3\/f.t=7\/f.t=8\/f.t=9->(mR f).size=8)/\(f.t=4\/f.t=10\/f.t=11->(mR f).size=4)/\(f.t=6->(mR f).size=0):=by
 have h0:=(Ev h).2
 have hs:(mR f).size=(nH f.t f.d f.k f.on f.w f.x f.c f.la f.n f.ps).length:=by rw[<- K2];exact Array.length_toList.symm
 rw[hs]
 obtain⟨r1,r2,r3,r4,r5,r6,r7,r8,r9,r10,r11,r12,r13,r14,r15,r16,r17,r18,r19,r20,r21⟩:=h
 have hd:f.d.data.toList.length=f.d.size:=Array.length_toList
 refine⟨h0,fun h5=>?_,fun h8=>?_,fun h4=>?_,fun h6=>?_⟩
 ·unfold nH
  rw[if_neg (by omega),if_neg (by omega),if_neg (by omega),if_neg (by omega),List.length_append,BP,hd]
  have:=r12
  omega
 ·unfold nH
  by_cases h23:f.t=2\/f.t=3
  ·rw[if_pos h23];simp only[List.length_append,l1,l4]
  ·rw[if_neg h23,if_neg (by omega)]
   by_cases h9:f.t=9
   ·rw[if_pos h9];simp only[List.length_append,l4]
   ·rw[if_neg h9,if_neg (by omega),List.length_append,BP,hd]
    have:=r14 (by omega)
    have:=r10
    omega
 ·unfold nH
  rw[if_neg (by omega)]
  by_cases h44:f.t=4
  ·rw[if_pos h44,l4]
  ·rw[if_neg h44,if_neg (by omega),if_pos (by omega),l4]
 ·unfold nH
  rw[if_neg (by omega),if_neg (by omega),if_neg (by omega),if_neg (by omega),List.length_append,BP,hd]
  have:=r12
  have:=r10
  omega
theorem Aa6 {n:Nat} (h:a.size=n):(a++b).extract 0 n=a:=by
 apply ByteArray.ext
 apply Array.toList_inj.1
 have e:a.data.toList.length=a.size:=Array.length_toList
 simp only[ByteArray.data_extract,ByteArray.data_append,Array.toList_extract,Array.toList_append,List.extract,List.drop_zero,Nat.sub_zero]
 exact List.take_left' (by omega)
theorem Xh {n m:Nat} (h:a.size=n) (h2:b.size=m):(a++b).extract n (n+m)=b:=by
 apply ByteArray.ext
 apply Array.toList_inj.1
 have e:a.data.toList.length=a.size:=Array.length_toList
 have e2:b.data.toList.length=b.size:=Array.length_toList
 simp only[ByteArray.data_extract,ByteArray.data_append,Array.toList_extract,Array.toList_append,List.extract]
 rw[List.drop_left' (by omega),List.take_of_length_le (by omega)]
theorem Adb (h:bR f) (hc:Ay f):uR (xK f)=none/\sL (xK f)=((mR f).size:Nat)/\GG (xK f)=f:=by
 have hk:WY ((mR f).size:Nat) f.t (tL f.e) f.st=true:=wG h
 have h9:=yS hk
 have hb:=Ap8 (b:=⟨#[]⟩) hk
 obtain⟨b1,b2,b3,b4,b5,b6,b7,b8,b9⟩:=Agv h
 obtain⟨p1,p2,p3,p4,p5⟩:=QR h
 have hchk:=(iX f).2 h
 have hz:(xK f).size=9+(mR f).size:=by rw[Il,ByteArray.size_append];show(jS _ _ _ _).size+_=_;rw[h9]
 have e1:(xK f).extract 0 9=jS ((mR f).size:Nat) f.t (tL f.e) f.st:=by rw[Il];exact Aa6 h9
 have e2:jS ((mR f).size:Nat) f.t (tL f.e) f.st++(⟨#[]⟩:ByteArray)=jS ((mR f).size:Nat) f.t (tL f.e) f.st:=by
  apply ByteArray.ext;simp[ByteArray.data_append]
 have hb:J9 ((xK f).extract 0 9)=0/\Ho ((xK f).extract 0 9) 0 3=((mR f).size:Nat)/\Ho ((xK f).extract 0 9) 3 4=f.t/\Ho ((xK f).extract 0 9) 4 5=tL f.e/\Ho ((xK f).extract 0 9) 5 9=f.st:=by
  rw[e1,<- e2];exact hb
 obtain⟨c1,c2,c3,c4,c5⟩:=hb
 have sLe:sL (xK f)=((mR f).size:Nat):=c2
 have sTe:sT (xK f)=f.t:=c3
 have sFe:sF (xK f)=tL f.e:=c4
 have sSe:sS (xK f)=f.st:=c5
 have sQe:sQ (xK f)=mR f:=by
  unfold sQ
  rw[sLe,Int.toNat_natCast,Il]
  exact Xh h9 rfl
 have he:(tL f.e == 1)=f.e:=by cases f.e <;> rfl
 have hbr:=EE f.e
 obtain⟨r1,r2,r3,r4,r5,r6,r7,r8,r9,r10,r11,r12,r13,r14,r15,r16,r17,r18,r19,r20,r21⟩:=h
 have hbe:tL f.e≠0->f.t<=1:=fun hq=>r5 (by
  cases hh:f.e with
  |true=>rfl
  |false=>rw[hh] at hq;exact absurd rfl hq)
 have hfit:nA ((mR f).size:Nat) f.t (tL f.e) f.st=0:=by
  unfold nA EG
  rw[if_neg (by omega),if_neg (by omega),if_neg (by omega),if_neg (by omega),if_neg (by omega)]
  rw[if_neg]
  intro hq
  (repeat' split at hq) <;> omega
 have hgE0:gE ((mR f).size:Nat) f.t (tL f.e) f.st (mR f)=0:=by
  unfold gE
  rw[if_pos hfit,if_pos rfl,if_pos]
  unfold gOk gB gY
  rw[he,b1,b2,b3,b4,b5,b6,b7,b8,b9]
  simp only[Bool.and_eq_true,decide_eq_true_eq]
  exact⟨hchk,rfl⟩
 refine⟨Alo (by omega) c1 (by rw[sLe,sTe,sFe,sSe];exact hfit) (by rw[sLe];omega) (by rw[sLe,sTe,sFe,sSe,sQe];exact hgE0),sLe,?_⟩
 unfold GG frA jD
 dsimp only
 rw[sTe,sSe,sFe,sQe,he,b1,b2,b3,b4,b5,b6,b7,b8,b9]
 obtain⟨k1,k2,k3⟩:=hc
 obtain⟨t,st,e,d,k,on,w,x,c,la,n,pa,pn,pc,ps⟩:=f
 cases k1;cases k2
 dsimp only at k3 ⊢
 rw[k3]
end Go.Proofs.YtepnmcipkangkaaGreat
namespace Go.Proofs.YtepnmcipkangkaaGreat
open Go Go.Proofs Go.Sl
attribute [local irreducible] aN fL cL bM aL aR aA dJ dK aU dI pt ro fC star sep bF
section
variable {R C:List HP} {K:KP} {p:Nat} {n:Int} {s u v:ByteArray}
structure Lk where
 b:List UInt8
 ca:Int
 we:Int
def LkI (l:Lk):Prop:=l.b.length<=1048576/\0<=l.ca/\l.ca<=1000000000000/\0<=l.we/\l.we<=1000000000000
variable {l:Lk}
def lkE (s:ByteArray) (l:Lk):Int:=if 1048576 - (l.b.length:Int)<s.size then 9 else 0
def Am7 (s:ByteArray) (l:Lk):Lk:=if lkE s l=0 then⟨l.b++s.data.toList,l.ca+s.size,l.we⟩ else l
def Akg (s:ByteArray) (l:Lk):Lk:=if lkE s l=0 then⟨s.data.toList++l.b,l.ca+s.size,l.we⟩ else l
def lkN (n:Int) (l:Lk):Nat:=(max (min n l.b.length) 0).toNat
def Amv (n:Int) (l:Lk):Lk:=⟨l.b.drop (lkN n l),l.ca,l.we+lkN n l⟩
end
end Go.Proofs.YtepnmcipkangkaaGreat
namespace Go.Proofs.YtepnmcipkangkaaGreat
open Go Go.Proofs Go.Sl
attribute [local irreducible] aN fL cL bM aL aR aA dJ dK aU dI pt ro fC star sep bF
attribute [local irreducible] mp DG
variable {R C:List HP} {K:KP} {x mc d y pl po m0 m1:Nat} {ad:Ca} {M M0 M1:Option Addr} {B P side k:Int} {a:AC} {l o:Lk} {cf cf0 cf1:Cf} {c':Cn} {f:FuncId} {args:Array Value}
section
structure Td where
 e:Int
 n:Int
 s:ByteArray
 is:Bool
 en:Bool
def td0 (e:Int):Td:=⟨e,0,⟨#[]⟩,false,false⟩
def caT (a:AC) (s:Cn):Td:=
 if a.kd=1 then⟨jP a.n a.cd a.on a.ww a.xx s,if jP a.n a.cd a.on a.ww a.xx s=0 then s.nx else 0,⟨#[]⟩,false,false⟩
 else if a.kd=2 then⟨(qD a.id a.s s).2,(qD a.id a.s s).1,⟨#[]⟩,false,false⟩
 else if a.kd=3 then td0 (M8 a.id s)
 else if a.kd=4 then⟨(mH a.id a.n s).2.2,((mH a.id a.n s).1.size:Nat),(mH a.id a.n s).1,false,(mH a.id a.n s).2.1⟩
 else if a.kd=5 then⟨(nJ a.id s).2.2.2,0,(nJ a.id s).1,(nJ a.id s).2.1,(nJ a.id s).2.2.1⟩
 else if a.kd=6 then td0 (N0 a.id a.n s)
 else if a.kd=7 then td0 (Hi a.id a.on a.ww a.xx s)
 else td0 (kB a.id a.cd s)
def NH (a:AC) (s:Cn):Cn:=
 if a.kd=1 then lF a.n a.cd a.on a.ww a.xx s
 else if a.kd=2 then kY a.id a.s s
 else if a.kd=3 then xF a.id s
 else if a.kd=4 then mY a.id a.n s
 else if a.kd=5 then rJ a.id s
 else if a.kd=6 then wR a.id a.n s
 else if a.kd=7 then pJ a.id a.on a.ww a.xx s
 else lU a.id a.cd s
variable {s:Cn} {c:Cf}
theorem caI (h:bO B s) (ha:a.s.size<=599) (hB:B+600<=250000000):bO (B+600) (NH a s):=by
 unfold NH
 split
 ·exact(Ad4 h (by omega)).mono (by omega) hB
 ·split
  ·exact(X6 h (by omega)).mono (by omega) hB
  ·split
   ·exact(Aig h).mono (by omega) hB
   ·split
    ·exact(Aak h).mono (by omega) hB
    ·split
     ·exact(Abb h).mono (by omega) hB
     ·split
      ·exact(Ait h).mono (by omega) hB
      ·split
       ·exact(Adj h).mono (by omega) hB
       ·exact(Zr h).mono (by omega) hB
theorem caK (hI:bO B s) (h:f4 c s):f4 c (NH a s):=by
 unfold NH
 split
 ·exact Afx hI h
 ·split
  ·exact Yh h
  ·split
   ·exact Akj h
   ·split
    ·exact Agg hI h
    ·split
     ·exact Acv hI h
     ·split
      ·exact Aji h
      ·split
       ·exact Aa8 hI h
       ·exact Yn hI h
theorem caE (h:CN s):CN (NH a s):=by
 unfold NH
 split
 ·exact Aar h
 ·split
  ·exact YO h
  ·split
   ·exact Ak1 h
   ·split
    ·exact Aeg h
    ·split
     ·exact Agn h
     ·split
      ·exact Alc h
      ·split
       ·exact Afw h
       ·exact ZL h
end
section
variable {c:Cn} {b0 b1:Bool}
def Api (a:AC) (c:Cn) (l o:Lk):Td:=
 if a.kd=9 then td0 (VX c)
 else if a.kd=10 then td0 (MZ ⟨a.xw,a.xs,a.xi⟩ c)
 else if a.kd=11 then⟨lkE ⟨(bW c).1.toArray⟩ o,((bW c).1.length:Nat),⟨#[]⟩,false,false⟩
 else if a.kd=12 then⟨zP c,((l.b.take (lkN a.n l)).length:Nat),⟨#[]⟩,false,false⟩
 else if a.kd=14 then td0 (lkE a.s l)
 else caT a c
def p9 (a:AC) (c:Cn) (l:Lk):Cn:=
 if a.kd=9 then AT c
 else if a.kd=10 then tD ⟨a.xw,a.xs,a.xi⟩ c
 else if a.kd=11 then(bW c).2
 else if a.kd=12 then fJ (l.b.take (lkN a.n l)) c
 else if a.kd=14 then c
 else NH a c
def Aqc (a:AC) (l:Lk):Lk:=if a.kd=12 then Amv a.n l else if a.kd=14 then Akg a.s l else l
def Apb (a:AC) (c:Cn) (o:Lk):Lk:=if a.kd=11 then Am7 ⟨(bW c).1.toArray⟩ o else o
structure CnG (cf:Cf) (B:Int) (c:Cn):Prop where
 I:bO B c
 K:f4 cf c
 E:CN c
def sC (cf:Cf) (P:Int) (c:Cn):Prop:=∃B,CnG cf B c/\B+34 * c.inb.length<=P
theorem G9:∀(k:Nat) (a:List UInt8),a.length<=k->9 * (pF a).1.length+(pF a).2.1.length<=a.length:=fun k=>by
 induction k with
 |zero=>
  intro a h
  obtain rfl:a= []:=List.length_eq_zero_iff.1 (by omega)
  have hs:uR (iG [])=some 0:=by unfold uR;rw[if_pos (by rw[jF];decide)]
  rw[uV hs]
  exact Nat.le_refl _
 |succ k ih=>
  intro a h
  cases hs:uR (iG a) with
  |some e=>rw[uV hs];simp
  |none=>
   have hd:=yD hs
   have i1:=ih (a.drop (9+sL (iG a)).toNat) (by omega)
   rw[EO hs]
   show 9 * ((pF (a.drop (9+sL (iG a)).toNat)).1.length+1)+(pF (a.drop (9+sL (iG a)).toNat)).2.1.length<=a.length
   omega
theorem Afd {u:List UInt8} (h:sC cf P c) (hB:P+35 * u.length<=248000000):sC cf (P+35 * u.length) (fJ u c):=by
 obtain⟨B,hG,hP⟩:=h
 have h9:=G9 (c.inb++u).length (c.inb++u) (Nat.le_refl _)
 rw[List.length_append] at h9
 have hB2:B+u.length+300 * (pF (c.inb++u)).1.length<=250000000:=by omega
 cases ho:c.dr.ov
 ·refine⟨B+u.length+300 * (pF (c.inb++u)).1.length,⟨Acw hG.I hB2,ZV hG.I hG.K hB2,Ac5 hG.E⟩,?_⟩
  have key:∀z:Cn,nS z=((pF (c.inb++u)).2.2,if(pF (c.inb++u)).2.2=0 then(pF (c.inb++u)).2.1 else [])->z.inb.length<=(pF (c.inb++u)).2.1.length:=fun z hz=>by
   have:=congrArg Prod.snd hz
   have:z.inb=if(pF (c.inb++u)).2.2=0 then(pF (c.inb++u)).2.1 else []:=this
   rw[this]
   split
   ·exact Nat.le_refl _
   ·exact Nat.zero_le _
  have hin:(fJ u c).inb.length<=(pF (c.inb++u)).2.1.length:=by
   unfold fJ
   rw[if_neg (by rw[ho];decide)]
   have h1:nS (cC (eB u (aD c)).1 (eB u (aD c)).2)=((pF (c.inb++u)).2.2,if(pF (c.inb++u)).2.2=0 then(pF (c.inb++u)).2.1 else []):=Ac
   split
   ·exact key _ h1
   ·exact key (iM 0 (pF (c.inb++u)).2.2 (cC (eB u (aD c)).1 (eB u (aD c)).2)) (kR.trans h1)
  omega
 ·have e:fJ u c=aD c:=by unfold fJ;rw[if_pos ho]
  rw[e]
  exact⟨B,⟨bH hG.I,cP hG.K,hG.E⟩,by show B+34 * (c.inb.length:Int)<=_;omega⟩
end
section
variable {c:Cn} {b0 b1:Bool}
def bz (side i k:Int):Bool:=decide (side=i) && !decide (k=14)
end
section
structure Du where
 c0:Cn
 c1:Cn
 l0:Lk
 l1:Lk
 b0:Bool
 b1:Bool
structure Dd where
 x0:Nat
 x1:Nat
 p0:Nat
 p1:Nat
 a0:Ca
 a1:Ca
def duT (a:AC) (z:Du):Td:=
 if a.kd<1\/14<a.kd then td0 2
 else if a.kd=13 then⟨0,z.c0.now+1,⟨#[]⟩,false,false⟩
 else if a.sd=0 then Api a z.c0 z.l0 z.l1
 else if a.sd=1 then Api a z.c1 z.l1 z.l0
 else td0 3
def duS (a:AC) (z:Du):Du:=
 if a.kd<1\/14<a.kd then z
 else if a.kd=13 then { z with c0:=s4 z.c0,c1:=s4 z.c1,b0:=false,b1:=false }
 else if a.sd=0 then { c0:=p9 a z.c0 z.l0,c1:=z.c1,l0:=Aqc a z.l0,l1:=Apb a z.c0 z.l1,b0:=bz 0 0 a.kd,b1:=bz 0 1 a.kd }
 else if a.sd=1 then { c0:=z.c0,c1:=p9 a z.c1 z.l1,l0:=Apb a z.c1 z.l0,l1:=Aqc a z.l1,b0:=bz 1 0 a.kd,b1:=bz 1 1 a.kd }
 else { z with b0:=false,b1:=false }
variable {A:Dd} {z:Du} {c:Cn} {b0 b1:Bool}
def LkJ (k:Int) (l:Lk):Prop:=l.b.length<=1048576/\0<=l.we/\(l.b.length:Int)+l.we=l.ca/\l.ca<=40000 * k
theorem LkJ.i (h:LkJ k l) (hk:0<=k/\k<=140):LkI l:=by
 obtain⟨h1,h2,h3,h4⟩:=h
 exact⟨h1,by omega,by omega,by omega,by omega⟩
theorem LkJ.mono {k':Int} (h:LkJ k l) (hk:k<=k'):LkJ k' l:=by
 obtain⟨h1,h2,h3,h4⟩:=h
 exact⟨h1,h2,h3,by omega⟩
theorem sC.mono {P':Int} (h:sC cf P c) (hP:P<=P'):sC cf P' c:=by
 obtain⟨B,h1,h2⟩:=h
 exact⟨B,h1,by omega⟩
theorem Iz (hI:bO B c) (hk:f4 cf c) (hF:∀m∈c.l,J8 m) (hB:B+1301<=250000000) (ho:c.dr.ov=false) (ho1:(bI (aD c)).dr.ov=false):(∀f∈uO c,bR f)/\(uO c).length<=134:=by
 have hbb:=hI.bb
 have hIb:=bH hI
 have hkb:=cP hk
 have hI1:=Je hIb (by omega)
 have hk1:=D8 hIb hkb (by omega)
 have hou:=LX ho1
 have hti:=Aep ho1
 have hI2:=Em hI1
 have hk2:=Ez hk1
 have hI3:=Ma hI2
 have hk3:=My hk2
 have hF2:∀m∈({ bI (aD c) with out:= [] }:Cn).l,J8 m:=fun m hm=>hF m (by have hm:m∈(bI (aD c)).l:=hm;rw[hti] at hm;exact hm)
 have hgr:=ID hI2 hF2
 have hbr:=AI (k:=4) hI3 hk3 (by omega)
 have hfo:=hk1.fo
 refine⟨fun f hf=>?_,?_⟩
 ·unfold uO at hf
  rcases List.mem_append.1 hf with hf|hf
  ·rcases List.mem_append.1 hf with hf|hf
   ·rcases List.mem_append.1 hf with hf|hf
    ·exact(zK f hf).1
    ·exact(iX f).1 (hfo f hf).1
   ·exact(hgr f hf).1
  ·exact(hbr f hf).1
 ·have hl0:=LQ (s:=aD c)
  have hgl:(iZ { bI (aD c) with out:= [] }).length<=65:=by
   have h1:=flat_len (l:=(bI (aD c)).l)
   have h2:=hI1.sm.1
   have h3:=D4 (t:=10) (st:=0) (n:=nP (bI (aD c)).rv)
   show(DX 10 0 (nP (bI (aD c)).rv)++(bI (aD c)).l.flatMap mL).length<=65
   rw[List.length_append];omega
  have hol:=hI1.ou.1
  have hbl:=Fj (k:=4) (s:=Ag { bI (aD c) with out:= [] })
  show(fD (aD c)++(bI (aD c)).out++iZ { bI (aD c) with out:= [] }++(eJ 4 (Ag { bI (aD c) with out:= [] })).1).length<=134
  revert hbl hgl
  generalize ({ bI (aD c) with out:= [] }:Cn)=z2
  intro hbl hgl
  rw[List.length_append,List.length_append,List.length_append]
  omega
theorem Aah (hG:CnG cf B c) (hF:∀m∈c.l,J8 m) (hB:B+1301<=250000000):(bW c).1.length<=40000:=by
 have hIb:=bH hG.I
 have hkb:=cP hG.K
 have hk1:=D8 hIb hkb (by omega)
 have hls:=hG.K.ls
 have hls1:=hk1.ls
 cases ho:c.dr.ov
 ·cases ho1:(bI (aD c)).dr.ov
  ·obtain⟨h1,h2⟩:=Iz hG.I hG.K hF hB ho ho1
   rw[NQ ho ho1 h1]
   have:=Hu h1
   show(kP (uO c)).length<=40000
   omega
  ·have e:bW c=((bI (aD c)).last.data.toList,{ bI (aD c) with last:=⟨#[]⟩ }):=by unfold bW;rw[if_neg (by rw[ho];decide),if_pos ho1]
   rw[e]
   have e2:(bI (aD c)).last.data.toList.length=(bI (aD c)).last.size:=Array.length_toList
   show(bI (aD c)).last.data.toList.length<=40000
   omega
 ·have e:bW c=(c.last.data.toList,{ aD c with last:=⟨#[]⟩ }):=by unfold bW;rw[if_pos ho]
  rw[e]
  have e2:c.last.data.toList.length=c.last.size:=Array.length_toList
  show c.last.data.toList.length<=40000
  omega
end
section
variable {A:Dd} {z:Du} {c:Cn} {b0 b1:Bool}
theorem Agt:nS (NH a c)=nS c:=by
 unfold NH
 split
 ·unfold lF;split <;> rfl
 ·split
  ·unfold kY;split
   ·rfl
   ·split <;> rfl
  ·split
   ·unfold xF;split
    ·rfl
    ·split <;> rfl
   ·split
    ·unfold mY;split
     ·rfl
     ·split
      ·split
       ·rfl
       ·exact Cq
      ·rfl
    ·split
     ·unfold rJ;split
      ·rfl
      ·split
       ·split
        ·rfl
        ·exact Cq
       ·rfl
     ·split
      ·unfold wR;split
       ·rfl
       ·split <;> rfl
      ·split
       ·unfold pJ;split <;> rfl
       ·unfold lU;split
        ·rfl
        ·split <;> rfl
theorem WM:nS (bI c)=nS c:=by
 unfold bI
 split
 ·exact kR
 ·split
  ·exact kR
  ·rfl
theorem Aki:nS (sU c).2=nS c:=by
 unfold sU
 split
 ·rfl
 ·split
  ·rfl
  ·split
   ·rfl
   ·exact Cq
theorem Pf:∀ {k:Nat} {c:Cn},nS (eJ k c).2=nS c
 |0,_=>rfl
 |k+1,c=>by
  have h:=Aki (c:=c)
  rw[yA]
  split
  ·rename_i z hz
   rw[hz] at h;exact h
  ·rename_i f z hz
   rw[hz] at h
   exact(Pf (k:=k) (c:=z)).trans h
theorem E0:nS (bW c).2=nS c:=by
 unfold bW
 split
 ·rfl
 ·split
  ·exact(show nS (bI (aD c))=nS c from WM)
  ·exact(Pf (k:=4) (c:=Ag { bI (aD c) with out:= [] })).trans (show nS (bI (aD c))=nS c from WM)
theorem Aci (h:CN c):CN (bW c).2:=Ms h E0 fun ho=>by
 unfold bW
 rw[if_pos ho];exact ho
theorem MH (h:nS c'=nS c):c'.inb=c.inb:=congrArg Prod.snd h
theorem FD {D:Int} (h:sC cf P c) (hP:P<=240000000) (hD:D<=2000) (hi:nS c'=nS c) (hg:∀B,B+2000<=250000000->CnG cf B c->CnG cf (B+D) c'):sC cf (P+2000) c':=by
 obtain⟨B,h1,h2⟩:=h
 exact⟨B+D,hg B (by omega) h1,by rw[MH hi];omega⟩
theorem WO (h:sC cf P c) (hP:P<=200000000) (hd:a.s.size<=599) (hk:a.kd≠12):sC cf (P+2000) (p9 a c l):=by
 unfold p9
 split
 ·exact FD (D:=0) h (by omega) (by decide) (by unfold AT;split <;> rfl) fun B hB hG=>⟨by rw[Int.add_zero];exact Amc hG.I,An9 hG.K,Aog hG.E⟩
 ·split
  ·exact FD (D:=0) h (by omega) (by decide) (by unfold tD;split <;> rfl) fun B hB hG=>⟨by rw[Int.add_zero];exact Add hG.I,Afk hG.K,Aa9 hG.E⟩
  ·split
   ·exact FD (D:=1301) h (by omega) (by decide) E0 fun B hB hG=>⟨(Abr hG.I hG.K (by omega)).1,(Abr hG.I hG.K (by omega)).2,Aci hG.E⟩
   ·split
    ·exact FD (D:=0) h (by omega) (by decide) rfl fun B hB hG=>by rw[Int.add_zero];exact hG
    ·exact FD (D:=600) h (by omega) (by decide) Agt fun B hB hG=>⟨caI hG.I hd (by omega),caK hG.I hG.K,caE hG.E⟩
theorem Amk (h:sC cf P c) (hP:P<=200000000):sC cf (P+2000) (s4 c):=
 FD (D:=1) h (by omega) (by decide) rfl fun B hB hG=>⟨Abe hG.I (by omega),Aff hG.K,Aa4 hG.E⟩
end
section
variable {A:Dd} {z:Du} {c:Cn} {b0 b1:Bool}
def jO (x:Nat) (a:Ca) (s:Cn):HP:=fC fun M=>fC fun mc=>star (cA x a s M mc [])
theorem eU {a:Ca} {s:Cn} (h:∀M mc,CT f args (cA x a s M mc R) K):CT f args (jO x a s::R) K:=aA.ex fun M=>aA.ex fun mc=>aA.star (h M mc)
theorem eF {a:Ca} {s:Cn}:aG (cA x a s M mc R) (jO x a s::R):=aG.ex M (aG.ex mc (aG.mkstar (l:=cA x a s M mc [])))
theorem K6 {a:Ca} {s:Cn} (h:(∀m∈s.l,J8 m)->CT f args (jO x a s::R) K):CT f args (jO x a s::R) K:=eU fun M mc=>I1 fun hF=>aA.ent eF (h hF)
theorem yP {C':List HP} (hp:C.Perm C') (h:CT f args C' K):CT f args C K:=aA.ent (fun _ hs=>hs.perm hp) h
theorem Re {s:Cn} (hb:0<=s.now/\s.now<=1000000000) (hK:K (I6 (s.now+1)) (jO x ad (s4 s)::R)):CT 57 #[PO x] (jO x ad s::R) K:=
 eU fun M mc=>aA.entK (Yz hb ⟨_,eF,hK⟩)
end
end Go.Proofs.YtepnmcipkangkaaGreat
