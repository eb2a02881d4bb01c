/- A part of the proof: lemmas; each with the conditions that it states. -/
import Derived.Test.YtffnpejdkkohcaaGreatBbi
set_option linter.unusedVariables false
set_option linter.unusedSimpArgs false
set_option maxRecDepth 100000
set_option maxHeartbeats 40000000
namespace Go.Proofs.YtffnpejdkkohcaaGreat
open Go Go.Proofs Go.Sl
attribute [local irreducible] aM eY cU bQ aL aW aA dS dT aZ dR pt ro fN star sep bH
attribute [local irreducible] mp FV
variable {R C:List HP} {K:KP} {x mc i b p r k:Nat} {a:Ca} {s:Cn} {M:Option Addr} {B id n st t sd:Int} {m:Sm} {c cf:Cf} {q:wX} {g:dI} {d:ByteArray} {e:Bool} {y:Fm}
section
variable {l:List Sm}
theorem J0 (hK:K (.string s.last) (cY x a { s with last:=⟨#[]⟩ } M mc R)):CT 71 #[PO x] (cY x a s M mc R) K:=by
 dsimp only[cY,p8] at hK ⊢
 refine aJ Tryz.func71 ?_
 repeat' (first|refine v14 ?_|refine w5 ?_ ?_|((refine bh fun h=>?_) <;> try exact w6 h)|(refine aF fun hA=>?_;subst hA)|intro _)
 all_goals(refine aC ?_;exact aB (hK))
theorem Zz (hI:bR B s) (hk:fM c s) (hB:B+300<=250000000):bR (B+300) (qN s).2/\fM c (qN s).2:=by
 cases h:AO (s.pk,s.pc) (eO s) with
 |mk o q=>
  have hq:KN q:=by
   have:=LB (s:=(s.pk,s.pc)) (l:=eO s) hI.pk
   rw[h] at this;exact this
  cases o with
  |none=>
   rw[MW h]
   exact⟨Aia (hI.mono (by omega) hB) hq,{ hk with }⟩
  |some id=>
   obtain⟨m,hm,hr⟩:=EE hI hk h
   rw[Ir h hm hr]
   exact⟨O4 hI hk hm hq hB,OB hI hk hm hq hB⟩
theorem S2:∀ {k:Nat} {s:Cn} {B:Int},bR B s->fM c s->B+300 * k<=250000000->bR (B+300 * k) (fU k s).2/\fM c (fU k s).2
 |0,s,B,hI,hk,hB=>⟨hI.mono (by omega) hB,hk⟩
 |k+1,s,B,hI,hk,hB=>by
  obtain⟨h1,h2⟩:=Zz hI hk (by omega)
  unfold fU
  cases h:qN s with
  |mk o z=>
   rw[h] at h1 h2
   cases o with
   |none=>exact⟨h1.mono (by omega) hB,h2⟩
   |some f=>
    obtain⟨h3,h4⟩:=S2 (k:=k) h1 h2 (by omega)
    exact⟨h3.mono (by omega) hB,h4⟩
theorem Dh (hI:bR B s) (hk:fM c s) (hB:B+1<=250000000):fM c (bI s):=by
 have h1:=Mb hI hB
 unfold bI
 split
 ·exact gT h1 { hk with }
 ·split
  ·exact gT (s:= { s with bt:=g0 s.bt s.now,sl:=nS s.sl s.now (s6 s) }) (Gx (q:=s6 s) h1) { hk with }
  ·exact { hk with }
theorem Nv (h:bR B s):bR B { s with last:=d }:= { h with }
theorem HY (h:bR B s):bR B { s with out:= [] }:= { h with ou:=Mc }
theorem IU (h:fM c s):fM c { s with out:= [] }:= { h with fo:=fun f hf=>by cases hf }
theorem Zv {d:Dr} {k:Int} (h:(zH d k).ov=true):d.ov=true\/k<=0:=by
 unfold zH at h
 split at h
 ·rename_i hq;exact .inr hq.2.2
 ·exact .inl h
theorem Agh (h:fM c s):fM c { s with dr:=zH s.dr s.l.length }:= { h with
 cl:=fun ho=>by
  rcases Zv ho with ho|ho
  ·exact h.cl ho
  ·exact(show s.l= [] from List.length_eq_zero_iff.1 (by omega)) }
theorem ZG (hI:bR B s) (hk:fM c s) (hB:B+1301<=250000000):bR (B+1301) (eN s).2/\fM c (eN s).2:=by
 have hb:=bK hI
 have hkb:=cI hk
 unfold eN
 split
 ·exact⟨Nv (hb.mono (by omega) hB),{ hkb with ls:=Nat.zero_le 300 }⟩
 ·have h1:=IB hb (by omega)
  have h2:=Dh hb hkb (by omega)
  split
  ·exact⟨Nv (h1.mono (by omega) hB),{ h2 with ls:=Nat.zero_le 300 }⟩
  ·have h3:=Qs (HY h1)
   have h4:=Sn (IU h2)
   obtain⟨h5,h6⟩:=S2 (k:=4) h3 h4 (by omega)
   exact⟨EX (h5.mono (by omega) hB),Agh h6⟩
end
section
variable {l:List Sm}
theorem QZ (ht:t=0\/t=1) (hs:1<=st/\st<=2147483647) (hd:d.size<=256):bV (qQ t st d e):=by
 have h3:y8 0=true:=by decide
 have h4:BF []=true:=Rb rfl
 unfold bV jB qQ
 simp[h3,h4,u5]
 omega
theorem Sr (hd:d.size=8):bV (qQ 7 0 d false):=by
 have h3:y8 0=true:=by decide
 have h4:BF []=true:=Rb rfl
 unfold bV jB qQ
 simp[h3,h4,u5,hd]
theorem PP (ht:t=10\/t=11) (hs:0<=st/\st<=2147483647) (h0:t=11->1<=st) (hn:1<=n/\n<=2147483647):bV (D4 t st n):=by
 have h2:=(gI n).2 ⟨by omega,hn.2⟩
 have h3:y8 0=true:=by decide
 have h4:BF []=true:=Rb rfl
 have h5:(⟨#[]⟩:ByteArray)=ByteArray.empty:=rfl
 unfold bV jB D4
 simp[h2,h3,h4,h5,u5]
 omega
theorem PW:(vV n).size=8:=by
 have h1:=Int.emod_nonneg n (by decide:(2147483648:Int)≠0)
 have h2:=Int.emod_lt_of_pos n (by decide:(0:Int)<2147483648)
 unfold vV
 generalize n % 2147483648=k at h1 h2 ⊢
 have hm:iU k 4=0:=by
  unfold iU
  rw[if_neg (by decide),if_neg]
  rintro⟨_,h|h⟩
  ·omega
  ·have:((2:Int) ^ (8 * (4:Int)).toNat)=4294967296:=by decide
   rw[this] at h;omega
 have h0:iU 0 4=0:=by decide
 have hf:eJ [⟨0,4,⟨#[]⟩⟩,⟨k,4,⟨#[]⟩⟩]=0:=by simp[eJ,h0,hm]
 have hs:Jj [⟨0,4,⟨#[]⟩⟩,⟨k,4,⟨#[]⟩⟩] 0=8:=rfl
 have he:xG [⟨0,4,⟨#[]⟩⟩,⟨k,4,⟨#[]⟩⟩]=0:=by unfold xG;rw[if_pos hf,hs];rfl
 have:=(GM he).2.1
 omega
theorem yL:∀f∈fT s,bV f/\f.ps= []/\f.pn=0:=fun f hf=>by
 unfold fT at hf
 split at hf
 ·cases hf
 ·rename_i hq
  rw[List.mem_singleton.1 hf]
  have h1:Qi s.bt s.now=1:=by
   by_cases h:Qi s.bt s.now=1
   ·exact h
   ·exact absurd (.inr (.inr h)) hq
  refine⟨Sr ?_,rfl,rfl⟩
  unfold btD
  rw[if_pos h1];exact PW
theorem JC (ht:t=10\/t=11) (hs:0<=st/\st<=2147483647) (h0:t=11->1<=st) (hn:n<=2147483647):∀f∈K2 t st n,bV f/\f.ps= []/\f.pn=0:=fun f hf=>by
 unfold K2 at hf
 split at hf
 ·rw[List.mem_singleton.1 hf]
  exact⟨PP ht hs h0 (by omega),rfl,rfl⟩
 ·cases hf
theorem Ac8 {y:Ys} (h:UK y):GV y<=2147483647:=by
 cases y with
 |b y=>
  obtain⟨h1,h2,h3,h4,h5,h6,h7,h8,h9⟩:=h
  show uF y.cap y.gr y.us<=2147483647
  unfold uF
  split <;> omega
 |i y=>
  obtain⟨h1,h2,h3,h4,h5,h6,h7,h8,h9,h10,h11⟩:=h
  show x7 y.room y.op y.ask y.l<=2147483647
  unfold x7
  omega
theorem P7 (hI:bR B s) (hF:∀m∈s.l,smF m):∀f∈uU s,bV f/\f.ps= []/\f.pn=0:=fun f hf=>by
 unfold uU at hf
 rcases List.mem_append.1 hf with hf|hf
 ·have hr:=hI.rv
  unfold Ha at hr
  refine JC (.inl rfl) (by omega) (fun h=>by cases h) ?_ f hf
  unfold vE uF
  split <;> omega
 ·obtain⟨m,hm,hf⟩:=List.mem_flatMap.1 hf
  have hid:=(hI.st m hm).id
  have hd:=Ac8 (hF m hm).2.1
  unfold rY at hf
  split at hf
  ·refine JC ?_ (by omega) (fun _=>hid.1) (by omega) f hf
   split
   ·exact .inr rfl
   ·exact .inl rfl
  ·cases hf
theorem SL (hI:bR B s) (hk:fM c s) {f:Fm} (h:(qN s).1=some f):bV f/\f.ps= []/\f.pn=0:=by
 cases hp:AO (s.pk,s.pc) (eO s) with
 |mk o q=>
  cases o with
  |none=>rw[MW hp] at h;cases h
  |some id=>
   obtain⟨m,hm,hr⟩:=EE hI hk hp
   rw[Ir hp hm hr] at h
   obtain⟨hi,hmid⟩:=aX hm
   have hmm:=List.mem_of_getElem? hi
   have hid:=(hI.st m hmm).id
   rw[<- Option.some.inj h]
   refine⟨QZ ?_ (by rw[<- hmid];exact hid) (Mj (hk.mo m hmm).sz),rfl,rfl⟩
   cases m.x
   ·exact .inl rfl
   ·exact .inr rfl
theorem AH:∀ {k:Nat} {s:Cn} {B:Int},bR B s->fM c s->B+300 * k<=250000000->∀f∈(fU k s).1,bV f/\f.ps= []/\f.pn=0
 |0,s,B,hI,hk,hB,f,hf=>by cases hf
 |k+1,s,B,hI,hk,hB,f,hf=>by
  obtain⟨h1,h2⟩:=Zz hI hk (by omega)
  unfold fU at hf
  cases h:qN s with
  |mk o z=>
   rw[h] at h1 h2 hf
   cases o with
   |none=>cases hf
   |some y=>
    rcases List.mem_cons.1 hf with rfl|hf
    ·exact SL hI hk (by rw[h])
    ·exact AH h1 h2 (by omega) f hf
theorem WR {l:List Fm}:sO (l.map iN)=sO l:=by
 unfold sO
 rw[List.flatMap_map];rfl
theorem wM {l l':List Fm}:sO (l++l')=sO l++sO l':=by
 unfold sO
 rw[List.flatMap_append]
theorem Qv:bV (iN y)↔bV y:=Iff.rfl
def vP (s:Cn):List Fm:=fT (aD s)++(bI (aD s)).out++uU { bI (aD s) with out:= [] }++(fU 4 (BV { bI (aD s) with out:= [] })).1
end
section
variable {l:List Sm}
def Aas (y:Fm):Fm:=⟨y.t,y.st,y.e,y.d,y.k,y.on,y.w,y.x,y.c,y.la,y.n,y.pa,y.pn,y.pc,[]⟩
theorem Zp {A:Option Addr} {L ys:List Fm}:aG (bU A k 45 tC (L++ys++ [Aas y])::xP y::kS xP ys::R) (bU A k 45 tC (L++(ys++ [y]))::kS xP (ys++ [y])::R):=
 aG.imp (Np (by simp only[List.flatMap_append,List.append_assoc];rfl) (by simp)) (aG.allsnoc (P:=xP) (x:=y) zO Ab)
theorem J9 (h:(bI s).dr.ov=false):(bI s).out=s.out:=by
 unfold bI at h ⊢
 split
 ·rename_i hq
  rw[if_pos hq,Df (by decide)] at h;cases h
 ·rename_i hq
  rw[if_neg hq] at h
  split
  ·rename_i hf
   rw[if_pos hf,Df (by decide)] at h;cases h
  ·rfl
theorem YC (h:(bI s).dr.ov=false):(bI s).l=s.l:=by
 unfold bI at h ⊢
 split
 ·rename_i hq
  rw[if_pos hq,Df (by decide)] at h;cases h
 ·rename_i hq
  rw[if_neg hq] at h
  split
  ·rename_i hf
   rw[if_pos hf,Df (by decide)] at h;cases h
  ·rfl
theorem Ahb (h:y.ps= []) (hn:y.pn=0):FmV C y:=⟨by rw[h];exact nD,by rw[h,hn];rfl⟩
theorem Uc (h1:s.dr.ov=false) (h2:(bI (aD s)).dr.ov=false) (hr:∀f∈vP s,bV f):eN s=(sO (vP s),{ (fU 4 (BV { bI (aD s) with out:= [] })).2 with dr:=zH (fU 4 (BV { bI (aD s) with out:= [] })).2.dr (fU 4 (BV { bI (aD s) with out:= [] })).2.l.length }):=by
 have ha:(vP s).all l7=true:=List.all_eq_true.2 fun f hf=>(lT f).2 (hr f hf)
 unfold eN
 rw[if_neg (by rw[h1];decide),if_neg (by rw[h2];decide)]
 show(RR (vP s),_)=_
 unfold RR
 rw[if_pos ha]
theorem C4 {z:Cn}:fU (k+1) z=match qN z with
  |(none,s)=>([],s)
  |(some f,s)=>(f::(fU k s).1,(fU k s).2):=rfl
theorem KR:∀ {k:Nat} {s:Cn},(fU k s).1.length<=k
 |0,_=>Nat.le_refl _
 |k+1,s=>by
  rw[C4]
  split
  ·simp
  ·rename_i f z _
   have:=KR (k:=k) (s:=z)
   simp only[List.length_cons];omega
theorem Vt {q:Nat} {out:List Fm} (h:out= []) (hK:K (I6 0) (Ni q out::R)):CT 72 #[PO q] (Ni q out::R) K:=by
 subst h;exact On hK
theorem KO:(fT s).length<=1:=by unfold fT;split <;> simp
def eH:List (Nat×Nat):= [(4,0),(5,0),(6,0),(7,0),(8,1),(0,1),(1,1),(2,1),(3,1),(9,1)]
theorem WS (hI:bR B s) (hk:fM c s) (hF:∀m∈s.l,smF m) (hB:B+1301<=250000000) (hK:∀M mc,K (.string ⟨(eN s).1.toArray⟩) (cY x a (eN s).2 M mc R)):CT 18 #[PO x] (cY x a s M mc R) K:=by
 have hbb:=hI.bb
 have hIb:=bK hI
 have hkb:=cI hk
 cases ho:s.dr.ov
 ·have hI1:=IB hIb (by omega)
  have hk1:=Dh hIb hkb (by omega)
  cases ho1:(bI (aD s)).dr.ov
  ·have hou:=J9 ho1
   have hti:=YC ho1
   have hI2:=HY hI1
   have hk2:=IU hk1
   have hI3:=Qs hI2
   have hk3:=Sn hk2
   have hF2:∀m∈({ bI (aD s) with out:= [] }:Cn).l,smF m:=fun m hm=>hF m (by have hm:m∈(bI (aD s)).l:=hm;rw[hti] at hm;exact hm)
   have hgr:=P7 hI2 hF2
   have hbr:=AH (k:=4) hI3 hk3 (by omega)
   have hfo:=hk1.fo
   have hr:∀f∈vP s,bV f:=fun f hf=>by
    unfold vP at hf
    rcases List.mem_append.1 hf with hf|hf
    ·rcases List.mem_append.1 hf with hf|hf
     ·rcases List.mem_append.1 hf with hf|hf
      ·exact(yL f hf).1
      ·exact(lT f).1 (hfo f hf).1
     ·exact(hgr f hf).1
    ·exact(hbr f hf).1
   rw[Uc ho ho1 hr] at hK
   have hl0:=KO (s:=aD s)
   have hgl:(uU { bI (aD s) with out:= [] }).length<=65:=by
    have h1:=flat_len (l:=(bI (aD s)).l)
    have h2:=hI1.sm.1
    have h3:=Gt (t:=10) (st:=0) (n:=vE (bI (aD s)).rv)
    show(K2 10 0 (vE (bI (aD s)).rv)++(bI (aD s)).l.flatMap rY).length<=65
    rw[List.length_append];omega
   have hst:vP s=fT (aD s)++(bI (aD s)).out++uU { bI (aD s) with out:= [] }++(fU 4 (BV { bI (aD s) with out:= [] })).1:=rfl
   generalize hz2:({ bI (aD s) with out:= [] }:Cn)=z2 at hI2 hk2 hI3 hk3 hgr hbr hgl hK hst
   dsimp only at hK
   have hol:=hI1.ou.1
   refine aJ Tryz.func18 ?_
   repeat' (first|refine Qj ?_|refine dw eH ?_|refine w5 ?_ ?_|((refine bh fun h=>?_) <;> try exact w6 h)|(refine aF fun hA=>?_;subst hA)|intro _|(show aA _ 53 _ _ _;refine CA (h:=d6 (x:=x) (a:=a) (s:=s) (M:=M) (mc:=mc) ?_);rw[ho,if_neg Bool.false_ne_true])|(show aA _ 70 _ _ _;refine CA (h:=F1 (x:=x) (a:=a) (s:=aD s) (M:=none) (mc:=0) hIb (by omega) (fun A0 c0 M1 mc1=>?_)))|(show aA _ 56 _ _ _;first|(refine CA (h:=kI (x:=x) (a:=a) (s:=aD s) (M:=none) (mc:=0) ?_);rw[show(aD s).dr.ov=false from ho])|(refine CA (h:=kI (x:=x) (a:=a) (s:=bI (aD s)) (M:=M1) (mc:=mc1) ?_);rw[ho1])))
   refine nN (aG.allnil (P:=xP) (aG.refl _)) ?_
   refine iH (fun n a' C'=>∃(ys rest L:List Fm) (A:Option Addr) (k:Nat),rest.length=n/\L=fT (aD s)++ys/\ys.map iN++rest=(bI (aD s)).out/\cW a' [(0,PO x),(3,.slice A L.length k)]/\C'=bU A k 45 tC L::kS xP ys::cY x a { bI (aD s) with out:=rest } M1 mc1 R) (bI (aD s)).out.length (cG (bI (aD s)).out.length ⟨[],(bI (aD s)).out,fT (aD s),A0,c0,rfl,(List.append_nil _).symm,rfl,⟨rfl,rfl,trivial⟩,rfl⟩ (by omega)) ?_
   rintro n a' C' ⟨ys,rest,L,A,k,hn,rfl,hys,ha,rfl⟩
   refine gJ _ ha ?_
   simp only[fF]
   have hyl:ys.length+rest.length=(bI (aD s)).out.length:=by rw[<- hys];simp
   cases rest with
   |cons f rest=>
    have hou2:MD (f::rest):=⟨by omega,fun y hy=>hI1.ou.2 y (by rw[<- hys];exact List.mem_append_right _ hy)⟩
    rw[List.length_cons] at hn hyl
    have hl3:∀y:Fm,(fT (aD s)++ys++ [Aas y]).length=(fT (aD s)++(ys++ [y])).length:=fun y=>by simp
    have hLy:(fT (aD s)++ys).length<=1000:=by rw[List.length_append];omega
    dsimp only[cY,p8]
    repeat' (first|(show aM _ _ _ _ _ _ _;(refine mD (E:=tC) (xs:=fT (aD s)++ys) (ys:= [Aas y0]) ?_;intro A2 k2))|refine Qj ?_|refine dw eH ?_|refine w5 ?_ ?_|((refine bh fun h=>?_) <;> try exact w6 h)|(refine aF fun hA=>?_;subst hA)|intro _|(show aA _ 72 _ _ _;refine CA (h:=On (out:=f::rest) ?_))|(show aA _ 73 _ _ _;refine CA (h:=Xp hou2 (fun y0 hy0=>?_))))
    all_goals(show aZ _ _ _ _;exact s8 (m:=n - 1) (C':=bU A2 k2 45 tC (fT (aD s)++(ys++ [y0]))::kS xP (ys++ [y0])::cY x a { bI (aD s) with out:=rest } M1 mc1 R) (by omega) (aG.trans (by exact bE) Zp) ⟨ys++ [y0],rest,fT (aD s)++(ys++ [y0]),A2,k2,by omega,rfl,by rw[List.map_append,List.append_assoc,<- hys,<- hy0];rfl,⟨rfl,congrArg (fun q=>Value.slice A2 q k2) (hl3 y0),trivial⟩,rfl⟩)
   |nil=>
    rw[List.append_nil] at hys
    rw[hz2]
    simp only[List.length_nil] at hyl
    have hLy:(fT (aD s)++ys).length<=1000:=by rw[List.length_append];omega
    have hz2o:z2.out= []:=by rw[<- hz2]
    dsimp only[cY,p8]
    repeat' (first|(show aM _ _ _ _ _ _ _;(refine mD (E:=tC) (xs:=fT (aD s)++ys) (ys:=uU z2) ?_;intro A4 k4))|refine Qj ?_|refine dw eH ?_|refine w5 ?_ ?_|((refine bh fun h=>?_) <;> try exact w6 h)|(refine aF fun hA=>?_;subst hA)|intro _|(show aA _ 72 _ _ _;refine CA (h:=Vt (out:=z2.out) hz2o ?_))|(show aA _ 74 _ _ _;refine CA (h:=PF (x:=x) (a:=a) (s:=z2) (M:=M1) (mc:=mc1) hI2 (fun A3 k3=>?_))))
    refine iH (fun n a' C'=>∃(j:Nat) (zs L:List Fm) (z:Cn) (A:Option Addr) (k:Nat) (M2:Option Addr) (mc2:Nat),j+n=4/\L=fT (aD s)++ys++uU z2++zs/\zs.length<=j/\bR (B+1+300 * j) z/\fM c z/\fU 4 (BV z2)=(zs++(fU n z).1,(fU n z).2)/\cW a' [(0,PO x),(3,.slice A L.length k),(44,I6 j)]/\C'=bU A k 45 tC L::kS xP ys::cY x a z M2 mc2 R) 4 (cG 4 ⟨0,[],fT (aD s)++ys++uU z2,BV z2,A4,k4,M1,mc1,rfl,(List.append_nil _).symm,Nat.le_refl _,hI3.mono (by omega) (by omega),hk3,rfl,⟨rfl,rfl,rfl,trivial⟩,rfl⟩ (by omega)) ?_
    rintro n2 a2 C2 ⟨j,zs,L,z,A,k,M2,mc2,hj,hL,hzl,hIz,hkz,hb,ha2,rfl⟩
    refine gJ _ ha2 ?_
    simp only[fF]
    have hyp:∀y∈ys,y.ps.length=y.pn:=fun y hy=>(hfo (iN y) (by rw[<- hys];exact List.mem_map_of_mem hy)).2.1
    have hLl:L.length<=1000000:=by rw[hL];simp only[List.length_append];omega
    have hfin:∀ {z':Cn},fU 4 (BV z2)=(zs,z')->sO (vP s)=sO L/\(∀y∈L,bV y)/\∀y∈L,(y.ps= []/\y.pn=0)\/y∈ys:=fun {z'} hz=>by
     have h1:vP s=fT (aD s)++ys.map iN++uU z2++zs:=by rw[hst,hz,<- hys]
     have h2:sO (vP s)=sO L:=by rw[h1,hL,wM,wM,wM,wM,wM,wM,WR]
     refine⟨h2,fun y hy=>?_,fun y hy=>?_⟩
     ·rw[hL] at hy
      rcases List.mem_append.1 hy with hy|hy
      ·rcases List.mem_append.1 hy with hy|hy
       ·rcases List.mem_append.1 hy with hy|hy
        ·exact(yL y hy).1
        ·exact Qv.1 ((lT _).1 (hfo (iN y) (by rw[<- hys];exact List.mem_map_of_mem hy)).1)
       ·exact(hgr y hy).1
      ·exact(hbr y (by rw[hz];exact hy)).1
     ·rw[hL] at hy
      rcases List.mem_append.1 hy with hy|hy
      ·rcases List.mem_append.1 hy with hy|hy
       ·rcases List.mem_append.1 hy with hy|hy
        ·exact .inl (yL y hy).2
        ·exact .inr hy
       ·exact .inl (hgr y hy).2
      ·exact .inl (hbr y (by rw[hz];exact hy)).2
    by_cases hlt:j<4
    ·obtain⟨n3,rfl⟩:∃n3,n2=n3+1:=⟨n2 - 1,by omega⟩
     cases hp:AO (z.pk,z.pc) (eO z) with
     |mk o q=>
      cases o with
      |none=>
       rw[C4 (k:=n3) (z:=z),MW hp] at hb
       dsimp only at hb
       rw[List.append_nil] at hb
       obtain⟨hE,hLr,hLp⟩:=hfin hb
       rw[hE,hb] at hK
       dsimp only at hK
       repeat' (first|refine Qj ?_|refine dw eH ?_|refine w5 ?_ ?_|((refine bh fun h=>?_) <;> try exact w6 h)|(refine aF fun hA=>?_;subst hA)|intro _|(show aA _ 75 _ _ _;refine CA (h:=Si (x:=x) (a:=a) (s:=z) (M:=M2) (mc:=mc2) hIz hkz hp ?_))|(show aA _ 61 _ _ _;refine CA (h:=yF (l:=(Aca q z).l) ?_))|(show aA _ 76 _ _ _;refine CA (h:=NV (d:=(Aca q z).dr) ?_))|(show aA _ 77 _ _ _;refine CA (h:=NC (xs:=L) hLr (by exact kU) (fun y hy=>(hLp y hy).elim (fun qq=>Ahb qq.1 qq.2) (fun qq=>⟨by((repeat (first|exact wL qq|apply bF)) <;> exact wL qq),hyp y qq⟩)) rfl hLl ?_)))
       all_goals(refine aC ?_;exact aB (hK _ _))
      |some id=>
       obtain⟨m,hm,hr2⟩:=EE hIz hkz hp
       have hIz2:=O4 hIz hkz hm (by have:=LB (s:=(z.pk,z.pc)) (l:=eO z) hIz.pk;rw[hp] at this;exact this) (by omega)
       have hkz2:=OB hIz hkz hm (by have:=LB (s:=(z.pk,z.pc)) (l:=eO z) hIz.pk;rw[hp] at this;exact this) (by omega)
       rw[C4 (k:=n3) (z:=z),Ir hp hm hr2] at hb
       dsimp only at hb
       repeat' (first|(show aM _ _ _ _ _ _ _;(refine mD (E:=tC) (xs:=L) (ys:= [T0 id m z]) ?_;intro A5 k5))|refine Qj ?_|refine dw eH ?_|refine w5 ?_ ?_|((refine bh fun h=>?_) <;> try exact w6 h)|(refine aF fun hA=>?_;subst hA)|intro _|(show aA _ 75 _ _ _;refine CA (h:=Sj (x:=x) (a:=a) (s:=z) (M:=M2) (mc:=mc2) hIz hkz (by omega) hp hm hr2 (fun M3 mc3=>?_))))
       all_goals(show aZ _ _ _ _;exact cG n3 ⟨j+1,zs++ [T0 id m z],L++ [T0 id m z],AB id m q z,A5,k5,M3,mc3,by omega,by rw[hL,List.append_assoc],by rw[List.length_append,List.length_singleton];omega,hIz2.mono (by omega) (by omega),hkz2,by rw[hb,List.append_assoc];rfl,⟨rfl,rfl,rfl,trivial⟩,rfl⟩)
    ·obtain rfl:n2=0:=by omega
     obtain rfl:j=4:=by omega
     have hb2:fU 4 (BV z2)=(zs,z):=by rw[hb];show(zs++ [],z)=_;rw[List.append_nil]
     obtain⟨hE,hLr,hLp⟩:=hfin hb2
     rw[hE,hb2] at hK
     dsimp only at hK
     dsimp only[cY,p8]
     repeat' (first|refine Qj ?_|refine dw eH ?_|refine w5 ?_ ?_|((refine bh fun h=>?_) <;> try exact w6 h)|(refine aF fun hA=>?_;subst hA)|intro _|(show aA _ 61 _ _ _;refine CA (h:=yF (l:=(z).l) ?_))|(show aA _ 76 _ _ _;refine CA (h:=NV (d:=(z).dr) ?_))|(show aA _ 77 _ _ _;refine CA (h:=NC (xs:=L) hLr (by exact kU) (fun y hy=>(hLp y hy).elim (fun qq=>Ahb qq.1 qq.2) (fun qq=>⟨by((repeat (first|exact wL qq|apply bF)) <;> exact wL qq),hyp y qq⟩)) rfl hLl ?_)))
     all_goals(refine aC ?_;exact aB (hK _ _))
  ·have e:eN s=((bI (aD s)).last.data.toList,{ bI (aD s) with last:=⟨#[]⟩ }):=by unfold eN;rw[if_neg (by rw[ho];decide),if_pos ho1]
   rw[e] at hK
   have el:(⟨((bI (aD s)).last.data.toList).toArray⟩:ByteArray)=(bI (aD s)).last:=by simp
   dsimp only at hK
   rw[el] at hK
   refine aJ Tryz.func18 ?_
   repeat' (first|refine Qj ?_|refine dw eH ?_|refine w5 ?_ ?_|((refine bh fun h=>?_) <;> try exact w6 h)|(refine aF fun hA=>?_;subst hA)|intro _|(show aA _ 53 _ _ _;refine CA (h:=d6 (x:=x) (a:=a) (s:=s) (M:=M) (mc:=mc) ?_);rw[ho,if_neg Bool.false_ne_true])|(show aA _ 70 _ _ _;refine CA (h:=F1 (x:=x) (a:=a) (s:=aD s) (M:=none) (mc:=0) hIb (by omega) (fun _ _ _ _=>?_)))|(show aA _ 56 _ _ _;first|(refine CA (h:=kI (x:=x) (a:=a) (s:=aD s) (M:=none) (mc:=0) ?_);rw[show(aD s).dr.ov=false from ho])|(refine CA (h:=kI (x:=x) (a:=a) (s:=bI (aD s)) ?_);rw[ho1]))|(show aA _ 71 _ _ _;refine CA (h:=J0 (x:=x) (a:=a) (s:=bI (aD s)) ?_)))
   all_goals(refine aC ?_;exact aB (hK _ _))
 ·have e:eN s=(s.last.data.toList,{ aD s with last:=⟨#[]⟩ }):=by unfold eN;rw[if_pos ho]
  rw[e] at hK
  have el:(⟨(s.last.data.toList).toArray⟩:ByteArray)=s.last:=by simp
  dsimp only at hK
  rw[el] at hK
  refine aJ Tryz.func18 ?_
  repeat' (first|refine Qj ?_|refine dw eH ?_|refine w5 ?_ ?_|((refine bh fun h=>?_) <;> try exact w6 h)|(refine aF fun hA=>?_;subst hA)|intro _|(show aA _ 53 _ _ _;refine CA (h:=d6 (x:=x) (a:=a) (s:=s) (M:=M) (mc:=mc) ?_);rw[ho,if_pos rfl])|(show aA _ 56 _ _ _;refine CA (h:=kI (x:=x) (a:=a) (s:=aD s) (M:=none) (mc:=0) ?_);rw[show(aD s).dr.ov=true from ho])|(show aA _ 71 _ _ _;refine CA (h:=J0 (x:=x) (a:=a) (s:=aD s) ?_)))
  all_goals(refine aC ?_;exact aB (hK _ _))
end
theorem Ro (h:sd=0\/sd=1) (hK:∀p,K (.tuple #[PO p,I6 0]) (pt p [I6 sd,I6 (sd+1),I6 0] 164::R)):CT 29 #[I6 sd] R K:=by
 rcases h with rfl|rfl
 all_goals
  refine aJ Tryz.func29 ?_
  repeat' (first|refine v42 ?_|refine w5 ?_ ?_|((refine bh fun h=>?_) <;> try exact w6 h)|(refine aF fun hA=>?_;subst hA)|intro _)
  all_goals(refine aC ?_;exact aB (hK _))
theorem LR (h:0<=n/\n<=1048576) (hK:∀p,K (.tuple #[PO p,I6 0]) (slP p ⟨n,0,0,false,false⟩::R)):CT 32 #[I6 n] R K:=by
 unfold slP at hK
 refine aJ Tryz.func32 ?_
 repeat' (first|refine v6 ?_|refine w5 ?_ ?_|((refine bh fun h=>?_) <;> try exact w6 h)|(refine aF fun hA=>?_;subst hA)|intro _)
 all_goals(refine aC ?_;exact aB (hK _))
theorem Mu (hK:∀p,K (PO p) (Gc p ⟨false,false,false,0,0,0⟩::R)):CT 26 #[] R K:=by
 unfold Gc at hK
 refine aJ Tryz.func26 ?_
 repeat' (first|refine v6 ?_|refine w5 ?_ ?_|((refine bh fun h=>?_) <;> try exact w6 h)|(refine aF fun hA=>?_;subst hA)|intro _)
 all_goals(refine aC ?_;exact aB (hK _))
theorem K7 (hK:∀p,K (.tuple #[PO p,I6 0]) (HT p []::R)):CT 33 #[I6 64] R K:=
 aA.entK (Aa4 (by decide) fun p=>⟨_,aG.trans (aG.trans (aG.cons (aG.nilrow _ _ _)) (aG.cons (aG.cons (K1 (f:=Qn))))) (yE (q:= []) ⟨rfl,fun e he=>by cases he⟩ rfl rfl),hK p⟩)
theorem PH (hK:∀p q,K (.tuple #[PO p,I6 0]) (pt p [I6 64,.map (some q)] 175::mp q (kM qW []) 0::R)):CT 34 #[I6 64] R K:=by
 refine aJ Tryz.func34 ?_
 repeat' (first|refine v6 ?_|refine w5 ?_ ?_|((refine bh fun h=>?_) <;> try exact w6 h)|(refine aF fun hA=>?_;subst hA)|intro _|(show aM _ _ _ _ _ _ _;refine EH ?_;intro _))
 all_goals(refine aC ?_;exact aB (hK _ _))
def nV:dI:=⟨64,8,4⟩
theorem MM (hK:∀p,K (PO p) (T1 p ⟨nV,nV,[]⟩::R)):CT 24 #[] R K:=by
 refine aJ Tryz.func24 ?_
 repeat' (first|refine v21 ?_|refine w5 ?_ ?_|((refine bh fun h=>?_) <;> try exact w6 h)|(refine aF fun hA=>?_;subst hA)|intro _|(show aA _ 25 _ _ _;refine CA (h:=HQ ?_)))
 all_goals(refine aC ?_;exact aQ (aG.trans (by exact bE) ((aG.ex (g:=fun A=>fN fun c=>sep (pt _ [I6 64,I6 8,I6 4,I6 64,I6 8,I6 4,.slice A 0 c] 157) (bU A c 23 F0 [])) none (aG.ex 0 (aG.sep (aG.cons (aG.nilrow _ _ _))))))) (hK _))
def mT (sd:Int) (cf:Cf):Cn:= { cf:=cf,sd:=sd,nx:=sd+1,la:=0,l:= [],tr:=([],0),pk:= [],pc:=0,ld:=⟨512,0,[]⟩,rv:=⟨512,512,512,0,0⟩,sh:=⟨nV,M6 nV ⟨cf.w,cf.st,cf.it⟩,[⟨cf.w,cf.st,cf.it⟩]⟩,pe:=nV,bt:=⟨cf.ev,cf.wa,0,0,false,false,0,0⟩,sl:=⟨cf.sl,0,0,false,false⟩,dr:=⟨false,false,false,0,0,0⟩,out:=z8 (B4 (Ix nV ⟨cf.w,cf.st,cf.it⟩)) [],inb:= [],ine:=0,now:=0,last:=⟨#[]⟩,mv:= [] }
structure Nu (cf:Cf):Prop where
 s:pP cf.w cf.st cf.it=true
 sb:0<=cf.sb/\cf.sb<=4096
 si:0<=cf.si/\cf.si<=64
 sg:0<=cf.sg/\cf.sg<=2
 ev:0<=cf.ev/\cf.ev<=1048576
 wa:0<=cf.wa/\cf.wa<=1048576
 sl:0<=cf.sl/\cf.sl<=1048576
def F8:List (Nat×Nat):= [(1,1),(2,1),(3,1),(4,1),(5,1),(6,1),(0,6),(7,0),(8,1),(9,0)]
def ED:List (Nat×Nat):= [(0,0),(1,0),(2,0),(3,0),(4,0),(5,0),(6,1),(7,0),(8,0),(9,0),(10,0),(11,0)]
theorem ZR (hs:sd=0\/sd=1) (h:Nu cf) (hK:∀x a,K (.tuple #[PO x,I6 0]) (cY x a (mT sd cf) none 0 R)):CT 6 #[I6 sd,.agg #[I6 cf.w,I6 cf.st,I6 cf.it,I6 cf.sb,I6 cf.si,I6 cf.sg,I6 cf.ev,I6 cf.wa,I6 cf.sl]] R K:=by
 obtain⟨h1,h2,h3,h4,h5,h6,h7⟩:=h
 have hK:∀x r1 r2 r3 r4 r5 r6 r7 r8 r9 r10 r11 r12 r13 r14,K (.tuple #[PO x,I6 0]) (cY x ⟨r1,r2,r3,r4,r5,r6,r7,r8,r9,r10,r11,r12,r13,r14⟩ (mT sd cf) none 0 R):=fun x r1 r2 r3 r4 r5 r6 r7 r8 r9 r10 r11 r12 r13 r14=>hK x ⟨r1,r2,r3,r4,r5,r6,r7,r8,r9,r10,r11,r12,r13,r14⟩
 dsimp only[cY,p8,mT] at hK
 have hlen:=UL (u:=nV) (v:=⟨cf.w,cf.st,cf.it⟩)
 have hse:i8 ⟨nV,nV,[]⟩ ⟨cf.w,cf.st,cf.it⟩=0:=by unfold i8;rw[if_neg (by rw[h1];decide)];rfl
 have hss:eR ⟨nV,nV,[]⟩ ⟨cf.w,cf.st,cf.it⟩=⟨nV,M6 nV ⟨cf.w,cf.st,cf.it⟩,[⟨cf.w,cf.st,cf.it⟩]⟩:=by unfold eR;rw[if_pos hse];rfl
 refine aJ Tryz.func6 ?_
 repeat' (first|refine zB ?_|refine dw F8 ?_|refine dw ED ?_|refine w5 ?_ ?_|((refine bh fun h=>?_) <;> try exact w6 h)|(refine aF fun hA=>?_;subst hA)|intro _|(show aA _ 23 _ _ _;refine CA (h:=Aaj (fun _ _=>?_)))|(show aA _ 24 _ _ _;refine CA (h:=MM (fun _=>?_)))|(show aA _ 25 _ _ _;refine CA (h:=HQ ?_))|(show aA _ 26 _ _ _;refine CA (h:=Mu (fun _=>?_)))|(show aA _ 27 _ _ _;refine CA (h:=Xy (fun _=>?_)))|(show aA _ 28 _ _ _;refine CA (h:=Ad4 (fun _=>?_)))|(show aA _ 29 _ _ _;refine CA (h:=Ro hs (fun _=>?_)))|(show aA _ 30 _ _ _;refine CA (h:=Ae3 h3 h4 h1 h2 ?_))|(show aA _ 31 _ _ _;refine CA (h:=Y0 h5 h6 (fun _=>?_)))|(show aA _ 32 _ _ _;refine CA (h:=LR h7 (fun _=>?_)))|(show aA _ 33 _ _ _;refine CA (h:=K7 (fun _=>?_)))|(show aA _ 34 _ _ _;refine CA (h:=PH (fun _ _=>?_)))|(show aA _ 35 _ _ _;refine CA (h:=Ab7 (by decide) (fun _=>?_)))|(show aA _ 36 _ _ _;refine CA (h:=NL (by decide) (fun _=>?_)))|(show aA _ 37 _ _ _;refine CA (h:=VY (s:=⟨nV,nV,[]⟩) (t:=⟨cf.w,cf.st,cf.it⟩) (by decide) (fun Aq cq=>?_));rw[hse,hss];simp only[if_true])|(show aA _ 38 _ _ _;refine CA (h:=Bw (out:= []) (f:=⟨5,0,false,⟨#[]⟩,0,0,0,false,0,0,0,Aq,(Ix nV ⟨cf.w,cf.st,cf.it⟩).length,cq,Ix nV ⟨cf.w,cf.st,cf.it⟩⟩) Mc (by exact kU) rfl (by show(Ix nV ⟨cf.w,cf.st,cf.it⟩).length<1000000000000000;omega) ?_)))
 all_goals(refine aC ?_;exact aB (hK _ _ _ _ _ _ _ _ _ _ _ _ _ _ _))
end Go.Proofs.YtffnpejdkkohcaaGreat
namespace Go.Proofs.YtffnpejdkkohcaaGreat
open Go Go.Proofs Go.Sl
attribute [local irreducible] aM eY cU bQ aL aW aA dS dT aZ dR pt ro fN star sep bH
section
variable {R C:List HP} {K:KP} {p:Nat} {n:Int} {s u v:ByteArray}
structure Lk where
 b:List UInt8
 ca:Int
 we:Int
def LkI (l:Lk):Prop:=l.b.length<=1048576/\0<=l.ca/\l.ca<=1000000000000/\0<=l.we/\l.we<=1000000000000
variable {l:Lk}
def lkE (s:ByteArray) (l:Lk):Int:=if 1048576 - (l.b.length:Int)<s.size then 9 else 0
def Ahy (s:ByteArray) (l:Lk):Lk:=if lkE s l=0 then⟨l.b++s.data.toList,l.ca+s.size,l.we⟩ else l
def Aej (s:ByteArray) (l:Lk):Lk:=if lkE s l=0 then⟨s.data.toList++l.b,l.ca+s.size,l.we⟩ else l
def lkN (n:Int) (l:Lk):Nat:=(max (min n l.b.length) 0).toNat
def Ajk (n:Int) (l:Lk):Lk:=⟨l.b.drop (lkN n l),l.ca,l.we+lkN n l⟩
end
end Go.Proofs.YtffnpejdkkohcaaGreat
namespace Go.Proofs.YtffnpejdkkohcaaGreat
open Go Go.Proofs Go.Sl
attribute [local irreducible] aM eY cU bQ aL aW aA dS dT aZ dR pt ro fN star sep bH
attribute [local irreducible] mp FV
variable {R C:List HP} {K:KP} {x mc d y pl po:Nat} {ad:Ca} {M:Option Addr} {B P side:Int} {a:AC} {l o:Lk} {cf:Cf} {b0 b1:Bool}
section
structure Td where
 e:Int
 n:Int
 s:ByteArray
 is:Bool
 en:Bool
def td0 (e:Int):Td:=⟨e,0,⟨#[]⟩,false,false⟩
def caT (a:AC) (s:Cn):Td:=
 if a.kd=1 then⟨j2 a.n a.cd a.on a.ww a.xx s,if j2 a.n a.cd a.on a.ww a.xx s=0 then s.nx else 0,⟨#[]⟩,false,false⟩
 else if a.kd=2 then⟨(pN a.id a.s s).2,(pN a.id a.s s).1,⟨#[]⟩,false,false⟩
 else if a.kd=3 then td0 (Ah4 a.id s)
 else if a.kd=4 then⟨(lF a.id a.n s).2.2,((lF a.id a.n s).1.size:Nat),(lF a.id a.n s).1,false,(lF a.id a.n s).2.1⟩
 else if a.kd=5 then⟨(Gk a.id s).2.2.2,0,(Gk a.id s).1,(Gk a.id s).2.1,(Gk a.id s).2.2.1⟩
 else if a.kd=6 then td0 (Akb a.id a.n s)
 else if a.kd=7 then td0 (Afg a.id a.on a.ww a.xx s)
 else td0 (P3 a.id a.cd s)
def caS (a:AC) (s:Cn):Cn:=
 if a.kd=1 then pT a.n a.cd a.on a.ww a.xx s
 else if a.kd=2 then nH a.id a.s s
 else if a.kd=3 then FE a.id s
 else if a.kd=4 then pU a.id a.n s
 else if a.kd=5 then zK a.id s
 else if a.kd=6 then Fv a.id a.n s
 else if a.kd=7 then Ad a.id a.on a.ww a.xx s
 else vM a.id a.cd s
variable {s:Cn} {c:Cf}
theorem caI (h:bR B s) (ha:a.s.size<=599) (hB:B+600<=250000000):bR (B+600) (caS a s):=by
 unfold caS
 split
 ·exact(Aa5 h (by omega)).mono (by omega) hB
 ·split
  ·exact(VI h (by omega)).mono (by omega) hB
  ·split
   ·exact(Af0 h).mono (by omega) hB
   ·split
    ·exact(YR h).mono (by omega) hB
    ·split
     ·exact(Aba h).mono (by omega) hB
     ·split
      ·exact(Agv h).mono (by omega) hB
      ·split
       ·exact(YA h).mono (by omega) hB
       ·exact(WW h).mono (by omega) hB
theorem caK (hI:bR B s) (h:fM c s):fM c (caS a s):=by
 unfold caS
 split
 ·exact Yu hI h
 ·split
  ·exact WY h
  ·split
   ·exact Ad9 h
   ·split
    ·exact Z7 hI h
    ·split
     ·exact Ab2 hI h
     ·split
      ·exact Aek h
      ·split
       ·exact Aav hI h
       ·exact Xb hI h
theorem caE (h:CZ s):CZ (caS a s):=by
 unfold caS
 split
 ·exact Ab3 h
 ·split
  ·exact Vz h
  ·split
   ·exact Age h
   ·split
    ·exact Aa9 h
    ·split
     ·exact Zg h
     ·split
      ·exact Afu h
      ·split
       ·exact Abd h
       ·exact Wk h
end
section
variable {c:Cn}
def Alx (a:AC) (c:Cn) (l o:Lk):Td:=
 if a.kd=9 then td0 (Alp c)
 else if a.kd=10 then td0 (Aii ⟨a.xw,a.xs,a.xi⟩ c)
 else if a.kd=11 then⟨lkE ⟨(eN c).1.toArray⟩ o,((eN c).1.length:Nat),⟨#[]⟩,false,false⟩
 else if a.kd=12 then⟨vL c,((l.b.take (lkN a.n l)).length:Nat),⟨#[]⟩,false,false⟩
 else if a.kd=14 then td0 (lkE a.s l)
 else caT a c
def Ag4 (a:AC) (c:Cn) (l:Lk):Cn:=
 if a.kd=9 then Of c
 else if a.kd=10 then FP ⟨a.xw,a.xs,a.xi⟩ c
 else if a.kd=11 then(eN c).2
 else if a.kd=12 then kC (l.b.take (lkN a.n l)) c
 else if a.kd=14 then c
 else caS a c
def Al8 (a:AC) (l:Lk):Lk:=if a.kd=12 then Ajk a.n l else if a.kd=14 then Aej a.s l else l
def Al0 (a:AC) (c:Cn) (o:Lk):Lk:=if a.kd=11 then Ahy ⟨(eN c).1.toArray⟩ o else o
structure CnG (cf:Cf) (B:Int) (c:Cn):Prop where
 I:bR B c
 K:fM cf c
 E:CZ c
def Gv (cf:Cf) (P:Int) (c:Cn):Prop:=∃B,CnG cf B c/\B+34 * c.inb.length<=P
theorem Ud:∀(k:Nat) (a:List UInt8),a.length<=k->9 * (pF a).1.length+(pF a).2.1.length<=a.length:=fun k=>by
 induction k with
 |zero=>
  intro a h
  obtain rfl:a= []:=List.length_eq_zero_iff.1 (by omega)
  have hs:Bn (kO [])=some 0:=by unfold Bn;rw[if_pos (by rw[m7];decide)]
  rw[u7 hs]
  exact Nat.le_refl _
 |succ k ih=>
  intro a h
  cases hs:Bn (kO a) with
  |some e=>rw[u7 hs];simp
  |none=>
   have hd:=wS hs
   have i1:=ih (a.drop (9+sL (kO a)).toNat) (by omega)
   rw[Dk hs]
   show 9 * ((pF (a.drop (9+sL (kO a)).toNat)).1.length+1)+(pF (a.drop (9+sL (kO a)).toNat)).2.1.length<=a.length
   omega
theorem Abo {u:List UInt8} (h:Gv cf P c) (hB:P+35 * u.length<=248000000):Gv cf (P+35 * u.length) (kC u c):=by
 obtain⟨B,hG,hP⟩:=h
 have h9:=Ud (c.inb++u).length (c.inb++u) (Nat.le_refl _)
 rw[List.length_append] at h9
 have hB2:B+u.length+300 * (pF (c.inb++u)).1.length<=250000000:=by omega
 cases ho:c.dr.ov
 ·refine⟨B+u.length+300 * (pF (c.inb++u)).1.length,⟨Zi hG.I hB2,Yy hG.I hG.K hB2,Y4 hG.E⟩,?_⟩
  have key:∀z:Cn,oV z=((pF (c.inb++u)).2.2,if(pF (c.inb++u)).2.2=0 then(pF (c.inb++u)).2.1 else [])->z.inb.length<=(pF (c.inb++u)).2.1.length:=fun z hz=>by
   have:=congrArg Prod.snd hz
   have:z.inb=if(pF (c.inb++u)).2.2=0 then(pF (c.inb++u)).2.1 else []:=this
   rw[this]
   split
   ·exact Nat.le_refl _
   ·exact Nat.zero_le _
  have hin:(kC u c).inb.length<=(pF (c.inb++u)).2.1.length:=by
   unfold kC
   rw[if_neg (by rw[ho];decide)]
   have h1:oV (eD (iC u (aD c)).1 (iC u (aD c)).2)=((pF (c.inb++u)).2.2,if(pF (c.inb++u)).2.2=0 then(pF (c.inb++u)).2.1 else []):=Ct
   split
   ·exact key _ h1
   ·exact key (iD 0 (pF (c.inb++u)).2.2 (eD (iC u (aD c)).1 (iC u (aD c)).2)) (j7.trans h1)
  omega
 ·have e:kC u c=aD c:=by unfold kC;rw[if_pos ho]
  rw[e]
  exact⟨B,⟨bK hG.I,cI hG.K,hG.E⟩,by show B+34 * (c.inb.length:Int)<=_;omega⟩
end
section
variable {c:Cn}
def bz (side i k:Int):Bool:=decide (side=i) && !decide (k=14)
end
end Go.Proofs.YtffnpejdkkohcaaGreat
