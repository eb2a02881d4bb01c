/- A part of the proof: lemmas; each with the conditions that it states. -/
import Derived.Test.YtifgibijcmppmaaGreatUbh
set_option linter.unusedVariables false
set_option linter.unusedSimpArgs false
set_option maxRecDepth 100000
set_option maxHeartbeats 40000000
namespace Go.Proofs.YtifgibijcmppmaaGreat
open Go Go.Proofs Go.Sl
attribute [local irreducible] aN fN cX bP aM aX aA dS dV aT dU pt ro eV star sep bH
attribute [local irreducible] mp ED
section
variable {R C:List HP} {K:KP} {x mc i b p r:Nat} {a:Ca} {s:Cn} {M:Option Addr} {B id n:Int} {m:Sm} {l:List Sm}
theorem Af8 {f:Fm}:aG (pt r [I6 f.t,I6 f.st,.bool f.e,.string f.d,I6 f.k,I6 f.on,I6 f.w,.bool f.x,I6 f.c,I6 f.la,I6 f.n,.slice f.pa f.pn f.pc] 45::R) (bQ (some ⟨r,0,none⟩) 1 45 uR [f]::R):=fun H hs=>by
 refine iF (pre:= []) (post:= []) rfl ?_ (Nat.le_refl _) (by simp)
 rw[show [f].flatMap uR.enc=uR.enc f from by simp,List.nil_append,List.append_nil]
 exact hs
theorem MF (h:bU B s) (hB:B+1≤250000000):bU (B+1) { s with bt:=gS s.bt s.now }:=
 { h.mono (B':=B+1) (by omega) hB with
   bt:=by
    have h1:=h.bt
    have h2:=h.now
    show(0≤(gS s.bt s.now).no∧(gS s.bt s.now).no≤B+1)∧(0≤(gS s.bt s.now).he∧(gS s.bt s.now).he≤B+1)∧(0≤(gS s.bt s.now).si∧(gS s.bt s.now).si≤B+1)∧0≤(gS s.bt s.now).nn∧(gS s.bt s.now).nn≤B+1
    unfold gS
    repeat' split
    all_goals first|(dsimp only;omega)|omega }
theorem GH {q:Bool} (h:bU B s):bU B { s with sl:=nP s.sl s.now q }:=
 { h with
   sl:=by
    have h1:=h.sl
    have h2:=h.now
    show(0≤(nP s.sl s.now q).nw∧(nP s.sl s.now q).nw≤B)∧0≤(nP s.sl s.now q).si∧(nP s.sl s.now q).si≤B
    unfold nP
    repeat' split
    all_goals first|(dsimp only;omega)|omega }
theorem IT (h:bU B s) (hB:B+1≤250000000):bU (B+1) (bI s):=by
 have h1:=MF h hB
 unfold bI
 split
 ·exact iU h1
 ·split
  ·exact iU (s:= { s with bt:=gS s.bt s.now,sl:=nP s.sl s.now (s3 s) }) (GH (q:=s3 s) h1)
  ·exact GH (q:=s3 s) h1
theorem Acb {f:Sm→Bool} {j:Nat} (h:l[j]?=some m):(l.take (j+1)).any f=((l.take j).any f || f m):=by
 rw[List.take_add_one,h]
 simp
def dX:List (Nat×Nat):= [(0,0),(1,0),(2,0),(3,0),(4,0),(5,0),(6,0),(7,0),(8,1),(9,0),(10,0),(11,0),(12,0),(13,0)]
def dY:List (Nat×Nat):= [(0,0),(1,0),(2,0),(3,0),(4,0),(5,0),(6,1),(7,0),(8,0),(9,1),(10,1),(11,1),(12,1),(13,1),(14,1),(15,1),(16,1),(17,0),(18,0),(19,0)]
def dM:List (Nat×Nat):= [(0,0),(1,0),(2,0),(3,0),(4,0),(5,0),(6,0),(7,0),(8,0),(9,1),(10,0)]
theorem Ga (hI:bU B s) (hB:B+1≤250000000) (hK:∀A c M mc,K (.slice A (fJ s).length c) (bQ A c 45 uR (fJ s)::b5 x a (bI s) M mc R)):CT 92 #[PO x] (b5 x a s M mc R) K:=by
 have hbb:=hI.bb
 have hnw:=hI.now
 have hsl:=hI.sl
 have h64:=hI.sm.1
 have hI1:=MF hI hB
 have hld:=hI.ld.ok (by omega)
 dsimp only[b5,nW]
 refine aH Tryz.func92 ?_
 repeat' (first|refine Yz ?_|refine dw dX ?_|refine dw dY ?_|refine dw dM ?_|refine w5 ?_ ?_|((refine bh fun h=>?_) <;> try exact w6 h)|(refine aE fun hA=>?_;subst hA)|intro _|(show aA _ 181 _ _ _;refine CA (h:=VS (b:=s.bt) (Aii hI) (by omega) ?_))|(show aA _ 83 _ _ _;refine CA (h:=BJ (l:=s.l) ?_)))
 refine fZ (fun n a' C'=>∃(j:Nat) (q:Bool),j+n=s.l.length∧q=(s.l.take j).any (HE s.ld)∧cJ a' [(0,PO x),(3,I6 (Q9 s.bt s.now)),(4,.string (btD s.bt s.now)),(5,.bool q),(26,I6 s.l.length),(27,I6 j)]∧C'=b5 x a { s with bt:=gS s.bt s.now } M mc R) s.l.length (bV s.l.length ⟨0,false,by omega,by simp,⟨rfl,rfl,rfl,rfl,rfl,rfl,trivial⟩,rfl⟩ (by omega)) ?_
 rintro n a' C' ⟨j,q,hj,hq,ha,rfl⟩
 refine fP _ ha ?_
 simp only[eP]
 by_cases hlt:j<s.l.length
 ·obtain⟨m,hm⟩:∃m,s.l[j]?=some m:=⟨_,List.getElem?_eq_getElem hlt⟩
  have hany:=Acb (f:=HE s.ld) hm
  rw[← hq] at hany
  dsimp only[b5,nW]
  cases q
  ·rw[Bool.false_or] at hany
   cases hg:SQ m
   ·have hs:HE s.ld m=false:=by unfold HE;rw[hg];rfl
    have hg2:decide (m.sta=1∨m.sta=3)=false:=hg
    repeat' (first|refine Yz ?_|refine dw dX ?_|refine dw dY ?_|refine dw dM ?_|refine w5 ?_ ?_|((refine bh fun h=>?_) <;> try exact w6 h)|(refine aE fun hA=>?_;subst hA)|intro _|(show aA _ 85 _ _ _;refine CA (h:=BI (l:=s.l) hI.sm hm (fun bq li t r hok=>?_)))|(show aA _ 182 _ _ _;refine CA (h:=oG (s:=m.sta) ?_);rw[hg2]))
    all_goals(show aT _ _ _ _;exact pE (m:=n - 1) (by omega) (aG.trans (by exact aZ) (aG.trans (cN (m:=m) hok) (d8 (x:=x) (a:=a) (s:= { s with bt:=gS s.bt s.now }) (M:=M) (mc:=mc) (R:=R) hm))) ⟨j+1,false,by omega,by rw[hany,hs],⟨rfl,rfl,rfl,rfl,rfl,rfl,trivial⟩,rfl⟩)
   ·have hs:HE s.ld m=Agv m.x (bD m.id s.ld):=by unfold HE;rw[hg];rfl
    have hg2:decide (m.sta=1∨m.sta=3)=true:=hg
    repeat' (first|refine Yz ?_|refine dw dX ?_|refine dw dY ?_|refine dw dM ?_|refine w5 ?_ ?_|((refine bh fun h=>?_) <;> try exact w6 h)|(refine aE fun hA=>?_;subst hA)|intro _|(show aA _ 85 _ _ _;refine CA (h:=BI (l:=s.l) hI.sm hm (fun bq li t r hok=>?_)))|(show aA _ 182 _ _ _;refine CA (h:=oG (s:=m.sta) ?_);rw[hg2])|(show aA _ 86 _ _ _;refine CA (h:=No ?_))|(show aA _ 184 _ _ _;refine CA (h:=tO (s:=s.ld) hld ?_))|(show aA _ 183 _ _ _;refine CA (h:=Agm (x:=m.x) ?_)))
    all_goals(show aT _ _ _ _;exact pE (m:=n - 1) (by omega) (aG.trans (by exact aZ) (aG.trans (cN (m:=m) hok) (d8 (x:=x) (a:=a) (s:= { s with bt:=gS s.bt s.now }) (M:=M) (mc:=mc) (R:=R) hm))) ⟨j+1,Agv m.x (bD m.id s.ld),by omega,by rw[hany,hs],⟨rfl,rfl,rfl,rfl,rfl,rfl,trivial⟩,rfl⟩)
  ·rw[Bool.true_or] at hany
   repeat' (first|refine Yz ?_|refine dw dX ?_|refine dw dY ?_|refine dw dM ?_|refine w5 ?_ ?_|((refine bh fun h=>?_) <;> try exact w6 h)|(refine aE fun hA=>?_;subst hA)|intro _|(show aA _ 85 _ _ _;refine CA (h:=Ie (l:=s.l) hI.sm hm (fun _=>?_))))
   all_goals(show aT _ _ _ _;exact pE (m:=n - 1) (by omega) (aG.trans (by exact aZ) (d8 (x:=x) (a:=a) (s:= { s with bt:=gS s.bt s.now }) (M:=M) (mc:=mc) (R:=R) hm)) ⟨j+1,true,by omega,hany.symm,⟨rfl,rfl,rfl,rfl,rfl,rfl,trivial⟩,rfl⟩)
 ·obtain rfl:j=s.l.length:=by omega
  rw[List.take_length] at hq
  have hq:q=s3 s:=hq
  subst hq
  dsimp only[b5,nW]
  unfold fJ bI at hK
  by_cases h2:Q9 s.bt s.now=2
  ·rw[if_pos (.inl h2)] at hK
   simp only[if_pos h2] at hK
   repeat' (first|(show Br _ _ _;refine Br.t (by first|(simp <;> done)|simpa using h2) ?_)|refine Yz ?_|refine dw dX ?_|refine dw dY ?_|refine dw dM ?_|refine w5 ?_ ?_|((refine bh fun h=>?_) <;> try exact w6 h)|(refine aE fun hA=>?_;subst hA)|intro _|(show aA _ 79 _ _ _;refine CA (h:=dO (x:=x) (a:=a) (s:= { s with bt:=gS s.bt s.now }) hI1 (by decide) (by decide) (fun _ _=>?_))))
   all_goals(refine aC ?_;exact aB (hK none 0 _ _))
  ·cases hf:BB s.sl s.now (s3 s)
   ·by_cases h1:Q9 s.bt s.now=1
    ·rw[if_neg (by rw[hf];simp[h1])] at hK
     simp only[if_neg h2,hf,Bool.false_eq_true,if_false] at hK
     repeat' (first|(show Br _ _ _;first|refine Br.f (by first|(simp <;> done)|simpa using h2) ?_|refine Br.t (by first|(simp <;> done)|simpa using h1) ?_)|refine Yz ?_|refine dw dX ?_|refine dw dY ?_|refine dw dM ?_|refine w5 ?_ ?_|((refine bh fun h=>?_) <;> try exact w6 h)|(refine aE fun hA=>?_;subst hA)|intro _|(show aA _ 185 _ _ _;refine CA (h:=EX (s:=s.sl) (n:=s.now) (b:=s3 s) (by omega) (by omega) (by omega) ?_);rw[hf]))
     all_goals(refine aC ?_;exact aK (aG.trans (by exact aZ) ((Af8 (f:=wA 7 0 (btD s.bt s.now) false)))) (hK _ _ _ _))
    ·rw[if_pos (.inr (.inr h1))] at hK
     simp only[if_neg h2,hf,Bool.false_eq_true,if_false] at hK
     repeat' (first|(show Br _ _ _;first|refine Br.f (by first|(simp <;> done)|simpa using h2) ?_|refine Br.f (by first|(simp <;> done)|simpa using h1) ?_)|refine Yz ?_|refine dw dX ?_|refine dw dY ?_|refine dw dM ?_|refine w5 ?_ ?_|((refine bh fun h=>?_) <;> try exact w6 h)|(refine aE fun hA=>?_;subst hA)|intro _|(show aA _ 185 _ _ _;refine CA (h:=EX (s:=s.sl) (n:=s.now) (b:=s3 s) (by omega) (by omega) (by omega) ?_);rw[hf]))
     all_goals(refine aC ?_;exact aB (hK none 0 _ _))
   ·rw[if_pos (.inr (.inl hf))] at hK
    simp only[if_neg h2,hf,if_true] at hK
    repeat' (first|(show Br _ _ _;refine Br.f (by first|(simp <;> done)|simpa using h2) ?_)|refine Yz ?_|refine dw dX ?_|refine dw dY ?_|refine dw dM ?_|refine w5 ?_ ?_|((refine bh fun h=>?_) <;> try exact w6 h)|(refine aE fun hA=>?_;subst hA)|intro _|(show aA _ 185 _ _ _;refine CA (h:=EX (s:=s.sl) (n:=s.now) (b:=s3 s) (by omega) (by omega) (by omega) ?_);rw[hf])|(show aA _ 79 _ _ _;refine CA (h:=dO (x:=x) (a:=a) (s:= { s with bt:=gS s.bt s.now,sl:=nP s.sl s.now (s3 s) }) (GH (q:=s3 s) hI1) (by decide) (by decide) (fun _ _=>?_))))
    all_goals(refine aC ?_;exact aB (hK none 0 _ _))
end
section
variable {R C:List HP} {K:KP} {x mc i b p r:Nat} {a:Ca} {s:Cn} {M:Option Addr} {B id n st t:Int} {m:Sm} {l:List Sm} {fs:List Fm} {c:Cf}
def W6 (r:Nat) (fs:List Fm):HP:=eV fun F=>eV fun c=>sep (pt r [.slice F fs.length c] 24) (bQ F c 45 uR fs)
theorem Ake:aG (pt r [.slice none 0 0] 24::R) (W6 r []::R):=aG.ex none (aG.ex 0 (aG.sep (aG.cons (aG.nilrow _ _ _))))
theorem Us {F:Option Addr} {k k2:Nat} (h:fs.length=k2):aG (pt r [.slice F k2 k] 24::bQ F k 45 uR fs::R) (W6 r fs::R):=by
 subst h
 exact aG.ex F (aG.ex k (aG.sep (aG.refl _)))
theorem AQ (hl:fs.length≤1000) (hK:K (.tuple #[]) (W6 r (fs++K1 t st n)::R)):CT 186 #[I6 t,I6 st,I6 n,PO r] (W6 r fs::R) K:=by
 refine aA.ex fun F=>aA.ex fun k=>aA.sep ?_
 unfold K1 at hK
 by_cases h:0<n
 ·rw[if_pos h] at hK
  refine aH Tryz.func186 ?_
  repeat' (first|(show aN _ _ _ _ _ _ _;(refine lZ (E:=uR) (xs:=fs) (ys:= [DJ t st n]) ?_;intro _ _))|refine v36 ?_|refine w5 ?_ ?_|((refine bh fun h=>?_) <;> try exact w6 h)|(refine aE fun hA=>?_;subst hA)|intro _)
  all_goals(refine aC ?_;exact aK (aG.trans (by exact aZ) ((Us (fs:=fs++ [DJ t st n]) rfl))) (hK))
 ·rw[if_neg h,List.append_nil] at hK
  refine aH Tryz.func186 ?_
  repeat' (first|refine v36 ?_|refine w5 ?_ ?_|((refine bh fun h=>?_) <;> try exact w6 h)|(refine aE fun hA=>?_;subst hA)|intro _)
  all_goals(refine aC ?_;exact aK (aG.trans (by exact aZ) ((Us (fs:=fs) rfl))) (hK))
theorem Aiu {y:Ys}:kV (yGr y)=kV y:=by cases y <;> rfl
theorem Eg:(mD m).id=m.id:=by unfold mD;split <;> rfl
theorem QZ:(mD m).own=m.own:=by unfold mD;split <;> rfl
theorem Ajx (h:E6 B m):E6 B (mD m):=by
 obtain⟨h1,h2,h3,h4⟩:=h
 unfold mD
 split
 ·refine⟨h1,h2,?_,?_⟩
  ·cases hy:m.y <;> (rw[hy] at h3;exact h3)
  ·cases hy:m.y <;> (rw[hy] at h4;exact h4)
 ·exact⟨h1,h2,h3,h4⟩
theorem Ak5 {z:Yp} (h:Jn B z):Jn B (SJ z):=by
 obtain⟨h1,h2,h3,h4,h5,h6⟩:=h
 have:z.gr≤z.gr+vX z∧z.gr+vX z≤z.us+512:=by
  unfold vX tQ
  split <;> omega
 exact⟨h1,h2,h3,by show z.got≤z.gr+vX z;omega,this.2,h6⟩
theorem Sr (h:bU B s):bU B (BU s):=
 { h with
   rv:=Ak5 h.rv
   sm:=U6 h.sm fun m=>Eg
   st:=fun q hq=>by
    obtain⟨m,hm,rfl⟩:=List.mem_map.1 hq
    exact Ajx (h.st m hm)
   ids:=fun q hq=>by
    obtain⟨m,hm,rfl⟩:=List.mem_map.1 hq
    rw[Eg];exact h.ids m hm
   own:=fun b=>by
    have h1:=h.own b
    unfold fO at h1
    show((s.l.map mD).filter fun m=>m.own == b).length≤32
    rw[nL,List.map_map]
    rw[nL] at h1
    have e:(Sm.own ∘ mD)=Sm.own:=funext fun m=>QZ
    rw[e];exact h1
   mv:=by
    have:=h.mv
    show(s.mv.length:Int)+((s.l.map mD).length:Int)≤B
    rw[List.length_map];exact this }
theorem Alg:kb (mD m)=kb m:=by
 unfold mD
 split
 ·unfold kb
  cases hy:m.y <;> rfl
 ·rfl
theorem Tg (h:fV c s):fV c (BU s):=
 { h with
   tn:=fun j hj=>by
    obtain⟨z,hz,hzi⟩:=h.tn j hj
    exact⟨_,List.mem_map_of_mem hz,by rw[Eg];exact hzi⟩
   cl:=fun ho=>by
    show s.l.map _= []
    rw[h.cl ho];rfl
   mo:=fun z hz=>by
    obtain⟨m,hm,rfl⟩:=List.mem_map.1 hz
    have h1:=h.mo m hm
    unfold mD
    split
    ·refine Vw h1 ?_ Aiu
     have:=h1.y
     cases hy:m.y <;> (rw[hy] at this;exact this)
    ·exact h1
   nf:=by
    have h1:=h.nf
    unfold fO at h1
    show(((s.l.map mD).filter fun m=>m.own == false).length:Int)≤s.sh.g.st
    rw[nL,List.map_map]
    rw[nL] at h1
    have e:(Sm.own ∘ mD)=Sm.own:=funext fun m=>QZ
    rw[e];exact h1
   kp:=by
    have h1:=h.kp
    show s.rv.us+xT (s.l.map mD)≤s.rv.got
    rw[UC fun m=>Alg];exact h1
   lk:=fun j=>(h.lk j).trans (Ls (q:=mD) (fun _=>Eg) fun m=>by unfold mD;split <;> rfl) }
theorem Ala (h:wX m):wX { m with y:=yGr m.y }:=⟨h.1.trans Aiu.symm,h.2⟩
theorem WW {j:Nat} (h:l[j]?=some m):(l.take (j+1)).flatMap rO=(l.take j).flatMap rO++rO m:=by
 rw[List.take_add_one,h]
 simp
theorem GE:(K1 t st n).length≤1:=by unfold K1;split <;> simp
theorem Xr:(rO m).length≤1:=by
 unfold rO
 split
 ·exact GE
 ·simp
theorem flat_len:∀ {l:List Sm},(l.flatMap rO).length≤l.length
 | []=>by simp
 |m::l=>by
  have h1:=Xr (m:=m)
  have h2:=flat_len (l:=l)
  rw[List.flatMap_cons,List.length_append,List.length_cons]
  omega
theorem P3 (hI:bU B s) (hK:∀A c,K (.slice A (uI s).length c) (bQ A c 45 uR (uI s)::b5 x a (BU s) M mc R)):CT 96 #[PO x] (b5 x a s M mc R) K:=by
 have hbb:=hI.bb
 have hrv:=hI.rv
 unfold Jn at hrv
 have h64:=hI.sm.1
 dsimp only[b5,nW]
 refine aH Tryz.func96 ?_
 repeat' (first|refine Jj ?_|refine w5 ?_ ?_|((refine bh fun h=>?_) <;> try exact w6 h)|(refine aE fun hA=>?_;subst hA)|intro _|(show aA _ 187 _ _ _;refine CA (h:=IB (cap:=s.rv.cap) (gr:=s.rv.gr) (us:=s.rv.us) (by omega) (by omega) ?_))|(show aA _ 186 _ _ _;refine CA (h:=aA.ent Ake (AQ (fs:= []) (by decide) ?_)))|(show aA _ 83 _ _ _;refine CA (h:=BJ (l:=s.l) ?_)))
 rename_i r3
 refine fZ (fun n a' C'=>∃(j:Nat) (L:List Fm),j+n=s.l.length∧L=K1 10 0 (vX s.rv)++(s.l.take j).flatMap rO∧cJ a' [(0,PO x),(3,PO r3),(4,.func (.func 186) #[] #[PO r3]),(22,I6 s.l.length),(23,I6 j)]∧C'=W6 r3 L::b5 x a { s with rv:=SJ s.rv,l:=(s.l.take j).map mD++s.l.drop j } M mc R) s.l.length (bV s.l.length ⟨0,[]++K1 10 0 (vX s.rv),by omega,by simp,⟨rfl,rfl,rfl,rfl,rfl,trivial⟩,rfl⟩ (by omega)) ?_
 rintro n a' C' ⟨j,L,hj,hL,ha,rfl⟩
 refine fP _ ha ?_
 simp only[eP]
 have hLl:=congrArg List.length hL
 rw[List.length_append] at hLl
 have hl1:=GE (t:=10) (st:=0) (n:=vX s.rv)
 have hl2:=flat_len (l:=s.l.take j)
 rw[List.length_take] at hl2
 by_cases hlt:j<s.l.length
 ·obtain⟨m,hm⟩:∃m,s.l[j]?=some m:=⟨_,List.getElem?_eq_getElem hlt⟩
  have hat:=Vm (g:=mD) hm
  have hset:=NP (g:=mD) hm
  have hS:=VJ hI.sm (NT (g:=mD) (l:=s.l) (j:=j) fun _=>Eg)
  have hft:=WW hm
  have hkk:bB m.x=1∨bB m.x=2:=by cases m.x;exact .inl rfl;exact .inr rfl
  dsimp only[b5,nW]
  cases hr:Yu m
  ·have hr2:decide (m.sta=1∨m.sta=2)=false:=hr
   have e1:mD m=m:=by unfold mD;rw[hr];rfl
   have e2:rO m= []:=by unfold rO;rw[hr];rfl
   rw[e2,List.append_nil] at hft
   rcases hkk with hk|hk
   ·repeat' (first|refine Jj ?_|refine w5 ?_ ?_|((refine bh fun h=>?_) <;> try exact w6 h)|(refine aE fun hA=>?_;subst hA)|intro _|(show aA _ 85 _ _ _;refine CA (h:=BI (l:=(s.l.take j).map mD++s.l.drop j) hS hat (fun bq li t r hok=>?_)))|(show aA _ 107 _ _ _;refine CA (h:=qN (x:=m.x) ?_);rw[hk])|(show aA _ 188 _ _ _;refine CA (h:=eH (s:=m.sta) ?_);rw[hr2]))
    all_goals(show aT _ _ _ _;exact pE (m:=n - 1) (by omega) (aG.trans (by exact aZ) (aG.trans (aG.cons (A:=W6 r3 L) (cN (m:=m) hok)) (aG.cons (A:=W6 r3 L) (l6 (x:=x) (a:=a) (s:= { s with rv:=SJ s.rv,l:=(s.l.take j).map mD++s.l.drop j }) (M:=M) (mc:=mc) (R:=R) (m':=m) hat rfl)))) ⟨j+1,L,by omega,by rw[hL,hft],⟨rfl,rfl,rfl,rfl,rfl,trivial⟩,by rw[← hset,e1]⟩)
   ·repeat' (first|refine Jj ?_|refine w5 ?_ ?_|((refine bh fun h=>?_) <;> try exact w6 h)|(refine aE fun hA=>?_;subst hA)|intro _|(show aA _ 85 _ _ _;refine CA (h:=BI (l:=(s.l.take j).map mD++s.l.drop j) hS hat (fun bq li t r hok=>?_)))|(show aA _ 107 _ _ _;refine CA (h:=qN (x:=m.x) ?_);rw[hk])|(show aA _ 188 _ _ _;refine CA (h:=eH (s:=m.sta) ?_);rw[hr2]))
    all_goals(show aT _ _ _ _;exact pE (m:=n - 1) (by omega) (aG.trans (by exact aZ) (aG.trans (aG.cons (A:=W6 r3 L) (cN (m:=m) hok)) (aG.cons (A:=W6 r3 L) (l6 (x:=x) (a:=a) (s:= { s with rv:=SJ s.rv,l:=(s.l.take j).map mD++s.l.drop j }) (M:=M) (mc:=mc) (R:=R) (m':=m) hat rfl)))) ⟨j+1,L,by omega,by rw[hL,hft],⟨rfl,rfl,rfl,rfl,rfl,trivial⟩,by rw[← hset,e1]⟩)
  ·have hr2:decide (m.sta=1∨m.sta=2)=true:=hr
   have e1:mD m= { m with y:=yGr m.y }:=by unfold mD;rw[hr];rfl
   rcases hkk with hk|hk
   ·have e2:rO m=K1 10 m.id (HS m.y):=by unfold rO;rw[hr,hk];rfl
    rw[e2] at hft
    repeat' (first|refine Jj ?_|refine w5 ?_ ?_|((refine bh fun h=>?_) <;> try exact w6 h)|(refine aE fun hA=>?_;subst hA)|intro _|(show aA _ 85 _ _ _;refine CA (h:=BI (l:=(s.l.take j).map mD++s.l.drop j) hS hat (fun bq li t r hok=>?_)))|(show aA _ 107 _ _ _;refine CA (h:=qN (x:=m.x) ?_);rw[hk])|(show aA _ 188 _ _ _;refine CA (h:=eH (s:=m.sta) ?_);rw[hr2])|(show aA _ 89 _ _ _;refine CA (h:=Adq ?_))|(show aA _ 189 _ _ _;refine CA (h:=KZ (y:=m.y) ?_))|(show aA _ 186 _ _ _;refine CA (h:=AQ (fs:=L) (by omega) ?_)))
    all_goals(show aT _ _ _ _;exact pE (m:=n - 1) (by omega) (aG.trans (by exact aZ) (aG.trans (aG.cons (A:=W6 r3 (L++K1 10 m.id (HS m.y))) (cN (m:= { m with y:=yGr m.y }) (Ala hok))) (aG.cons (A:=W6 r3 (L++K1 10 m.id (HS m.y))) (l6 (x:=x) (a:=a) (s:= { s with rv:=SJ s.rv,l:=(s.l.take j).map mD++s.l.drop j }) (M:=M) (mc:=mc) (R:=R) (m':= { m with y:=yGr m.y }) hat rfl)))) ⟨j+1,L++K1 10 m.id (HS m.y),by omega,by rw[hL,hft,List.append_assoc],⟨rfl,rfl,rfl,rfl,rfl,trivial⟩,by rw[← hset,e1]⟩)
   ·have e2:rO m=K1 11 m.id (HS m.y):=by unfold rO;rw[hr,hk];rfl
    rw[e2] at hft
    repeat' (first|refine Jj ?_|refine w5 ?_ ?_|((refine bh fun h=>?_) <;> try exact w6 h)|(refine aE fun hA=>?_;subst hA)|intro _|(show aA _ 85 _ _ _;refine CA (h:=BI (l:=(s.l.take j).map mD++s.l.drop j) hS hat (fun bq li t r hok=>?_)))|(show aA _ 107 _ _ _;refine CA (h:=qN (x:=m.x) ?_);rw[hk])|(show aA _ 188 _ _ _;refine CA (h:=eH (s:=m.sta) ?_);rw[hr2])|(show aA _ 89 _ _ _;refine CA (h:=Adq ?_))|(show aA _ 189 _ _ _;refine CA (h:=KZ (y:=m.y) ?_))|(show aA _ 186 _ _ _;refine CA (h:=AQ (fs:=L) (by omega) ?_)))
    all_goals(show aT _ _ _ _;exact pE (m:=n - 1) (by omega) (aG.trans (by exact aZ) (aG.trans (aG.cons (A:=W6 r3 (L++K1 11 m.id (HS m.y))) (cN (m:= { m with y:=yGr m.y }) (Ala hok))) (aG.cons (A:=W6 r3 (L++K1 11 m.id (HS m.y))) (l6 (x:=x) (a:=a) (s:= { s with rv:=SJ s.rv,l:=(s.l.take j).map mD++s.l.drop j }) (M:=M) (mc:=mc) (R:=R) (m':= { m with y:=yGr m.y }) hat rfl)))) ⟨j+1,L++K1 11 m.id (HS m.y),by omega,by rw[hL,hft,List.append_assoc],⟨rfl,rfl,rfl,rfl,rfl,trivial⟩,by rw[← hset,e1]⟩)
 ·obtain rfl:j=s.l.length:=by omega
  rw[List.take_length] at hL
  have hL:L=uI s:=hL
  subst hL
  rw[List.take_length,List.drop_length,List.append_nil]
  refine qA fun F=>qA fun k=>EC ?_
  repeat' (first|refine Jj ?_|refine w5 ?_ ?_|((refine bh fun h=>?_) <;> try exact w6 h)|(refine aE fun hA=>?_;subst hA)|intro _)
  all_goals(refine aC ?_;exact aB (hK _ _))
end
section
variable {R C:List HP} {K:KP} {x mc i b p r:Nat} {a:Ca} {s:Cn} {M:Option Addr} {B id n st t:Int} {m:Sm} {l:List Sm} {fs:List Fm} {c:Cf}
theorem Vp (hI:bU B s) (hk:fV c s) {j:Nat} (h:(eC s.tr)[j]?=some id):∃m,bY id s.l=some m∧m.id=id:=by
 have h1:=J3 hI.tr (n:=s.tr.1.length+1) (lv:=b8 0 s.tr.1) (fun y hy=>(kQ hI.tr.nd hy).1) id (List.mem_of_getElem? h)
 obtain⟨m,hm,rfl⟩:=hk.tn id h1
 exact⟨m,TP hI.sm hm,rfl⟩
theorem VD {z:eN} (h:Mn z):∀ {n:Nat} {lv:List Int},lv.Nodup→(∀y∈lv,eU z y)→(yV z n lv).length≤64 * n
 |0,_,_,_=>Nat.zero_le _
 |n+1,lv,hn,hl=>by
  have h64:=h.len
  have h1:=GU (s:=z) hn hl
  have h2:=VD h (n:=n) (Air h.nd hn) (fun q hq=>by
   unfold JB at hq
   exact(Ad h.nd q (An.1 hq)).1)
  unfold yV
  split
  ·simp
  ·rw[List.length_append];omega
theorem EV (hI:bU B s):(eC s.tr).length≤10000:=by
 have h1:=hI.tr.len
 have h2:=VD hI.tr (n:=s.tr.1.length+1) (lv:=b8 0 s.tr.1) (AW hI.tr.nd) fun y hy=>(kQ hI.tr.nd hy).1
 unfold eC
 omega
theorem map_take {j:Nat} {α β:Type} {f:α→β} {l:List α} {z:α} (h:l[j]?=some z):(l.take (j+1)).map f=(l.take j).map f++ [f z]:=by
 rw[List.take_add_one,h]
 simp
def jM:List Nat:= [0,0,0,4,12,28,0,124,0,256,768,1792,4092,8188,16380,32764,16380,81916,212988,475132,16380,2097148,4194300,8388604,16777214,33554430,67108863,134217727]
def jR:List Nat:= [134217727,67108863,33554430,16777214,8388604,4194300,2097148,16380,475132,212988,81916,16380,32764,16380,8188,4092,1792,768,256,0,124,0,28,12,4,0,0,0]
def jN:List (Nat×Nat):= [(2,0),(3,0),(4,0),(5,0),(6,0),(7,1),(8,1),(9,1),(10,1),(11,1),(12,1),(13,0),(14,0),(15,1),(16,1),(17,1),(18,1),(19,1),(20,1),(21,1),(22,1),(1,5),(23,0),(24,0),(25,1),(0,6),(26,1),(27,0)]
theorem uG (hI:bU B s) (hk:fV c s) (hK:∀A c,K (.slice A (eL s).length c) (bQ A c 333 Nv (eL s)::b5 x a s M mc R)):CT 191 #[PO x] (b5 x a s M mc R) K:=by
 have hbb:=hI.bb
 have hld:=hI.ld.ok (by omega)
 have htl:=hI.tr.len
 obtain⟨rk,hrk⟩:=hI.tr.rk
 have hll:=EV hI
 unfold eL at hK
 dsimp only[b5,nW]
 refine aH Tryz.func191 ?_
 repeat' (first|refine Yz ?_|refine Gp jM jR jN ?_|refine w5 ?_ ?_|((refine bh fun h=>?_) <;> try exact w6 h)|(refine aE fun hA=>?_;subst hA)|intro _|(show aA _ 288 _ _ _;refine CA (h:=TG (s:=s.tr) (r:=rk) hI.tr.kok (by omega) hI.tr.nd hrk (fun Bq dq=>?_))))
 refine fZ (fun n a' C'=>∃(j:Nat) (A:Option Addr) (k:Nat),j+n=(eC s.tr).length∧cJ a' [(0,PO x),(3,.slice A (((eC s.tr).take j).map (oA s)).length k),(12,.slice Bq (eC s.tr).length dq),(13,I6 (eC s.tr).length),(14,I6 j)]∧C'=bQ A k 333 Nv (((eC s.tr).take j).map (oA s))::bQ Bq dq 3 jI (eC s.tr)::b5 x a s M mc R) (eC s.tr).length (bV (eC s.tr).length ⟨0,none,0,by omega,⟨rfl,rfl,rfl,rfl,rfl,trivial⟩,rfl⟩) ?_
 rintro n a' C' ⟨j,A,k,hj,ha,rfl⟩
 refine fP _ ha ?_
 simp only[eP]
 have hlt0:(((eC s.tr).take j).map (oA s)).length=min j (eC s.tr).length:=by rw[List.length_map,List.length_take]
 by_cases hlt:j<(eC s.tr).length
 ·obtain⟨id,hid⟩:∃id,(eC s.tr)[j]?=some id:=⟨_,List.getElem?_eq_getElem hlt⟩
  obtain⟨m,hm,hmid⟩:=Vp hI hk hid
  have hi:=(bA hm).1
  have hmt:=map_take (f:=oA s) hid
  have hv:(eC s.tr)[((j:Nat):Int).toNat]?=some id:=by rw[Int.toNat_natCast];exact hid
  have hlj:(((eC s.tr).take j).map (oA s)).length=j:=by omega
  dsimp only[b5,nW]
  cases hg:SQ m
  ·have hg2:decide (m.sta=1∨m.sta=3)=false:=hg
   have e:oA s id=⟨id,if dZ id s.tr.1=true then(dB id s.tr).w else 0,false⟩:=by unfold oA;rw[hm];dsimp only;rw[hg];rfl
   repeat' (first|(show aN _ _ _ _ _ _ _;(refine lZ (E:=Nv) (xs:=((eC s.tr).take j).map (oA s)) (ys:= [⟨id,if dZ id s.tr.1=true then(dB id s.tr).w else 0,false⟩]) ?_;intro A2 k2))|refine Yz ?_|refine Gp jM jR jN ?_|refine w5 ?_ ?_|((refine bh fun h=>?_) <;> try exact w6 h)|(refine aE fun hA=>?_;subst hA)|intro _|(show aA _ 192 _ _ _;refine CA (h:=N5 (l:=s.l) hI.sm hm (fun bq li t r hok=>?_)))|(show aA _ 289 _ _ _;refine CA (h:=Gg (s:=s.tr) ?_))|(show aA _ 182 _ _ _;refine CA (h:=oG (s:=m.sta) ?_);rw[hg2]))
   all_goals rw[← e,← hmt]
   all_goals(show aT _ _ _ _;exact pE (m:=n - 1) (by omega) (aG.trans (by exact aZ) (aG.cons (A:=bQ A2 k2 333 Nv (((eC s.tr).take (j+1)).map (oA s))) (aG.cons (A:=bQ _ dq 3 jI (eC s.tr)) (aG.trans (cN (m:=m) hok) (d8 (x:=x) (a:=a) (s:=s) (M:=M) (mc:=mc) (R:=R) hi))))) ⟨j+1,A2,k2,by omega,⟨rfl,rfl,rfl,rfl,rfl,trivial⟩,rfl⟩)
  ·have hg2:decide (m.sta=1∨m.sta=3)=true:=hg
   have e:oA s id=⟨id,if dZ id s.tr.1=true then(dB id s.tr).w else 0,Qh m.x (bD id s.ld)⟩:=by unfold oA;rw[hm];dsimp only;rw[hg];rfl
   repeat' (first|(show aN _ _ _ _ _ _ _;(refine lZ (E:=Nv) (xs:=((eC s.tr).take j).map (oA s)) (ys:= [⟨id,if dZ id s.tr.1=true then(dB id s.tr).w else 0,Qh m.x (bD id s.ld)⟩]) ?_;intro A2 k2))|refine Yz ?_|refine Gp jM jR jN ?_|refine w5 ?_ ?_|((refine bh fun h=>?_) <;> try exact w6 h)|(refine aE fun hA=>?_;subst hA)|intro _|(show aA _ 192 _ _ _;refine CA (h:=N5 (l:=s.l) hI.sm hm (fun bq li t r hok=>?_)))|(show aA _ 289 _ _ _;refine CA (h:=Gg (s:=s.tr) ?_))|(show aA _ 182 _ _ _;refine CA (h:=oG (s:=m.sta) ?_);rw[hg2])|(show aA _ 86 _ _ _;refine CA (h:=No ?_))|(show aA _ 184 _ _ _;refine CA (h:=tO (s:=s.ld) hld ?_))|(show aA _ 274 _ _ _;refine CA (h:=Agl (x:=m.x) ?_)))
   all_goals rw[← e,← hmt]
   all_goals(show aT _ _ _ _;exact pE (m:=n - 1) (by omega) (aG.trans (by exact aZ) (aG.cons (A:=bQ A2 k2 333 Nv (((eC s.tr).take (j+1)).map (oA s))) (aG.cons (A:=bQ _ dq 3 jI (eC s.tr)) (aG.trans (cN (m:=m) hok) (d8 (x:=x) (a:=a) (s:=s) (M:=M) (mc:=mc) (R:=R) hi))))) ⟨j+1,A2,k2,by omega,⟨rfl,rfl,rfl,rfl,rfl,trivial⟩,rfl⟩)
 ·obtain rfl:j=(eC s.tr).length:=by omega
  rw[List.take_length]
  repeat' (first|refine Yz ?_|refine Gp jM jR jN ?_|refine w5 ?_ ?_|((refine bh fun h=>?_) <;> try exact w6 h)|(refine aE fun hA=>?_;subst hA)|intro _)
  all_goals(refine aC ?_;exact aB (hK _ _))
end
section
variable {R C:List HP} {K:KP} {x mc i b p r:Nat} {a:Ca} {s:Cn} {M:Option Addr} {B id n st t:Int} {m:Sm} {l:List Sm} {fs:List Fm} {c:Cf} {q:xR} {g:eJ}
def YY (q:xR) (s:Cn):Cn:= { s with pk:=q.1,pc:=q.2 }
def U9 (id:Int) (m:Sm) (s:Cn):Fm:=wA (bB m.x - 1) id (iL m.x (bD id s.ld)) (BY m.x (bD id s.ld))
def DI (id:Int) (m:Sm) (s:Cn):Int:=if bB m.x=1 then((iL m.x (bD id s.ld)).size:Nat) else if iL m.x (bD id s.ld)=⟨#[]⟩∧BY m.x (bD id s.ld)=true then 0 else 1
def vV (id:Int) (m:Sm) (q:xR) (s:Cn):Cn:= { s with ld:=(if bB m.x=1 then mC id ((iL m.x (bD id s.ld)).size:Nat) s.ld else s.ld),pk:=(jK id (p9 id q.1 - fL ((iL m.x (bD id s.ld)).size:Nat)) q).1,pc:=(jK id (p9 id q.1 - fL ((iL m.x (bD id s.ld)).size:Nat)) q).2 }
def Ao (id:Int) (m:Sm) (q:xR) (s:Cn):Cn:=k7 (C9 m (bD id s.ld)) (tF ⟨1,id,DI id m s,iL m.x (bD id s.ld),BY m.x (bD id s.ld)⟩ (zV (C9 m (bD id s.ld)) (vV id m q s)))
theorem MK (h:As (s.pk,s.pc) (eL s)=(none,q)):qD s=(none,YY q s):=by
 unfold qD;rw[h];rfl
theorem Je (h:As (s.pk,s.pc) (eL s)=(some id,q)) (hm:bY id s.l=some m) (hr:Hb m (bD id s.ld)=true):qD s=(some (U9 id m s),Ao id m q s):=by
 unfold qD;rw[h];dsimp only;rw[hm];dsimp only;rw[if_neg (by rw[hr];decide)];rfl
theorem UZ {pk:List (KE Int)}:∀ {l:List Tu},rM pk l=some id→∃y∈l,y.id=id
 | [],h=>by cases h
 |x::r,h=>by
  unfold rM at h
  split at h
  ·cases h;exact⟨x,List.mem_cons_self ..,rfl⟩
  ·obtain⟨y,hy,e⟩:=UZ h
   exact⟨y,List.mem_cons_of_mem _ hy,e⟩
theorem M8:∀ {l:List Tu} {seen:List (KE Bool)} {ck:Nat},∀y∈pW seen ck l,y∈l∧y.rd=true
 | [],_,_,_,hy=>by cases hy
 |x::r,seen,ck,y,hy=>by
  unfold pW at hy
  split at hy
  ·rename_i hc
   rcases List.mem_cons.1 hy with rfl|hy
   ·exact⟨List.mem_cons_self ..,hc.2⟩
   ·obtain⟨h1,h2⟩:=M8 y hy
    exact⟨List.mem_cons_of_mem _ h1,h2⟩
  ·obtain⟨h1,h2⟩:=M8 y hy
   exact⟨List.mem_cons_of_mem _ h1,h2⟩
theorem Ajh {z:xR} {l:List Tu} (h:As z l=(some id,q)):∃y∈l,y.id=id∧y.rd=true:=by
 unfold As at h
 cases hw:pW [] 0 l with
 |nil=>rw[hw] at h;cases h
 |cons x r=>
  rw[hw] at h
  dsimp only at h
  have key:∀ {pk:List (KE Int)},rM pk (x::r)=some id→∃y∈l,y.id=id∧y.rd=true:=fun hf=>by
   obtain⟨y,hy,e⟩:=UZ hf
   rw[← hw] at hy
   obtain⟨h1,h2⟩:=M8 y hy
   exact⟨y,h1,e,h2⟩
  cases hf:rM z.1 (x::r) with
  |some k=>
   rw[hf] at h
   cases h
   exact key hf
  |none=>
   rw[hf] at h
   exact key (congrArg Prod.fst h)
theorem E5 (hI:bU B s) (hk:fV c s) (h:As (s.pk,s.pc) (eL s)=(some id,q)):∃m,bY id s.l=some m∧Hb m (bD id s.ld)=true:=by
 obtain⟨y,hy,hid,hrd⟩:=Ajh h
 obtain⟨k,hk2,rfl⟩:=List.mem_map.1 hy
 have hid:k=id:=hid
 subst hid
 obtain⟨j,hj⟩:=List.getElem?_of_mem hk2
 obtain⟨m,hm,_⟩:=Vp hI hk hj
 refine⟨m,hm,?_⟩
 unfold oA at hrd
 rw[hm] at hrd
 exact hrd
theorem WK {z:Ld}:0≤bD id z:=by
 unfold bD
 split
 ·omega
 ·exact Int.le_refl 0
theorem LY {x:Xs} (h:xSz x):(iL x n).size≤256:=by
 cases x with
 |b z=>
  have e:(iL (.b z) n).size=min (Cj z.bs n) z.bs.length:=by
   show((z.bs.take (Cj z.bs n)).toArray).size=_
   simp
  rw[e];unfold Cj;omega
 |i z=>
  cases hl:z.l with
  |nil=>
   have e:iL (.i z) n=⟨#[]⟩:=by simp only[iL,hl]
   rw[e];decide
  |cons d r=>
   have e:iL (.i z) n=d:=by simp only[iL,hl]
   rw[e]
   exact h d (by rw[hl];exact List.mem_cons_self ..)
theorem Ak8 {x:Xs} (hk:bB x=1) (hn:0≤n):((iL x n).size:Int)≤n:=by
 cases x with
 |b z=>
  have e:(iL (.b z) n).size=min (Cj z.bs n) z.bs.length:=by
   show((z.bs.take (Cj z.bs n)).toArray).size=_
   simp
  rw[e];unfold Cj;omega
 |i z=>cases hk
theorem Aej (hI:bU B s) (hk:fV c s) (hm:bY id s.l=some m) (hx:bB m.x=1):rH id ((iL m.x (bD id s.ld)).size:Nat) s.ld=0:=by
 obtain⟨hi,hmid⟩:=bA hm
 have h1:=(Sd hI.ld).2 ((hk.lk id).2 ⟨m,List.mem_of_getElem? hi,hmid,hx⟩)
 have h2:=Ak8 hx (WK (id:=id) (z:=s.ld))
 unfold rH
 rw[if_neg (by rw[h1];decide),if_neg (by omega),if_neg (by omega)]
theorem Adw {k:Nat} (h:k≤256):1≤fL k∧fL k≤1024:=by
 unfold fL
 split <;> omega
theorem vZ:(C9 m n).id=m.id:=by unfold C9;split <;> rfl
theorem UF:(C9 m n).own=m.own:=by unfold C9;split <;> rfl
theorem Acy:bB (C9 m n).x=bB m.x:=by
 unfold C9
 split
 ·exact Dz
 ·rfl
theorem Aky (h:E6 B m):E6 B (C9 m n):=by
 obtain⟨h1,h2,h3,h4⟩:=h
 unfold C9
 split
 ·refine⟨h1,?_,h3,h4⟩
  show KL (xTk m.x n)≤B
  cases hx:m.x with
  |b z=>rw[hx] at h2;exact h2
  |i z=>
   rw[hx] at h2
   unfold xTk
   dsimp only
   split <;> exact h2
 ·exact⟨h1,h2,h3,h4⟩
theorem Aj0 (h:OS c g m):OS c g (C9 m n):=by
 obtain⟨h1,h2,h3,h4⟩:=h
 unfold C9
 split
 ·refine⟨h1,?_,Dz.trans h3,?_⟩
  ·show ZA c (xTk m.x n)
   cases hx:m.x with
   |b z=>rw[hx] at h2;exact h2
   |i z=>
    rw[hx] at h2
    unfold xTk
    dsimp only
    split <;> exact h2
  ·show xSz (xTk m.x n)
   cases hx:m.x with
   |b z=>trivial
   |i z=>
    rw[hx] at h4
    unfold xTk
    dsimp only
    split
    ·exact h4
    ·rename_i d r hl
     exact fun y hy=>h4 y (by rw[hl];exact List.mem_cons_of_mem _ hy)
 ·exact⟨h1,h2,h3,h4⟩
theorem Al4:kb (C9 m n)=kb m:=by
 unfold kb
 rw[Acy]
 have:gF (C9 m n).y=gF m.y:=by unfold C9;split <;> rfl
 rw[this]
theorem Ajt (h:bU B s) (hq:K4 q):bU B (YY q s):= { h with pk:=hq }
theorem XJ (h:bU B s) (hk:fV c s) (hm:bY id s.l=some m) (hq:K4 q) (hB:B+300≤250000000):bU (B+300) (vV id m q s):=by
 have hs:=LY (n:=bD id s.ld) (hk.mo m (List.mem_of_getElem? (bA hm).1)).sz
 exact { h.mono (B':=B+300) (by omega) hB with
  pk:=Nk hq
  ld:=by
   show Gn (B+300) (if bB m.x=1 then mC id ((iL m.x (bD id s.ld)).size:Nat) s.ld else s.ld)
   split
   ·exact Wx h.ld (by omega) (by omega)
   ·exact h.ld.mono (by omega) }
theorem E9 (hm:bY id s.l=some m):zV (C9 m (bD id s.ld)) (vV id m q s)= { vV id m q s with l:=s.l.set (b7 id s.l) (C9 m (bD id s.ld)) }:=eE (s:=vV id m q s) (id:=id) (vZ.trans (bA hm).2)
theorem FI {mv:Mv} (h:bU B s) (hk:fV c s) (hm:bY id s.l=some m) (hq:K4 q) (hB:B+300≤250000000):bU (B+300) { tF mv (vV id m q s) with l:=s.l.set (b7 id s.l) (C9 m (bD id s.ld)) }:=by
 obtain⟨hi,hmid⟩:=bA hm
 have h1:=XJ h hk hm hq hB
 refine lI (s:=tF mv (vV id m q s)) (m:=m) ?_ hi vZ UF (Aky (h1.st m (List.mem_of_getElem? hi)))
 exact { h1 with
  mv:=by
   have:=h.mv
   show((s.mv++ [mv]).length:Int)+s.l.length≤B+300
   rw[List.length_append,List.length_singleton];omega }
theorem Wq {mv:Mv} (hk:fV c s) (hm:bY id s.l=some m):fV c { tF mv (vV id m q s) with l:=s.l.set (b7 id s.l) (C9 m (bD id s.ld)) }:=by
 obtain⟨hi,hmid⟩:=bA hm
 have h1:fV c (tF mv (vV id m q s)):= { hk with
  lk:=fun j=>by
   show j∈(if bB m.x=1 then mC id ((iL m.x (bD id s.ld)).size:Nat) s.ld else s.ld).l.map g8.id↔_
   split
   ·rw[W1];exact hk.lk j
   ·exact hk.lk j }
 exact yC (s:=tF mv (vV id m q s)) h1 hi vZ UF (Aj0 (hk.mo m (List.mem_of_getElem? hi))) (by rw[Al4];exact Nat.le_refl _) Acy
theorem QA (h:bU B s) (hk:fV c s) (hm:bY id s.l=some m) (hq:K4 q) (hB:B+300≤250000000):bU (B+300) (Ao id m q s):=by
 unfold Ao
 rw[E9 hm]
 exact DN (FI h hk hm hq hB) (lN (m':=C9 m (bD id s.ld)) hm vZ)
theorem Pd (h:bU B s) (hk:fV c s) (hm:bY id s.l=some m) (hq:K4 q) (hB:B+300≤250000000):fV c (Ao id m q s):=by
 unfold Ao
 rw[E9 hm]
 exact DO (FI h hk hm hq hB) (Wq hk hm) (lN (m':=C9 m (bD id s.ld)) hm vZ)
theorem Aj1 {d:ByteArray} (h:d≠⟨#[]⟩):(d.toList == (ByteArray.mk #[]).toList)=false:=by
 rw[beq_eq_false_iff_ne]
 intro e
 apply h
 rw[ByteArray.toList_eq,ByteArray.toList_eq] at e
 exact ByteArray.ext (Array.toList_inj.1 e)
def iV:List (Nat×Nat):= [(4,0),(5,1),(0,1),(1,1),(2,1),(3,1),(6,1),(7,0),(8,0),(9,0),(10,0),(11,0)]
def iG:List (Nat×Nat):= [(5,0),(6,0),(7,0),(8,1),(0,1),(1,1),(2,1),(3,1),(4,1),(9,1)]
theorem Tb (hI:bU B s) (hk:fV c s) (h:As (s.pk,s.pc) (eL s)=(none,q)) (hK:K (.tuple #[.agg #[I6 0,I6 0,.bool false,.string ⟨#[]⟩,I6 0,I6 0,I6 0,.bool false,I6 0,I6 0,I6 0,.slice none 0 0],.bool false]) (b5 x a (YY q s) M mc R)):CT 97 #[PO x] (b5 x a s M mc R) K:=by
 have hV:Lv (s.pk,s.pc) (eL s)=.tuple #[I6 0,.bool false]:=by unfold Lv;rw[h]
 have hln:(eL s).length≤10000:=by unfold eL;rw[List.length_map];exact EV hI
 refine aH Tryz.func97 ?_
 repeat' (first|refine HQ ?_|refine dw iV ?_|refine dw iG ?_|refine w5 ?_ ?_|((refine bh fun h=>?_) <;> try exact w6 h)|(refine aE fun hA=>?_;subst hA)|intro _|(show aA _ 191 _ _ _;refine CA (h:=uG (x:=x) (a:=a) (s:=s) (M:=M) (mc:=mc) hI hk (fun _ _=>?_)))|(show aA _ 190 _ _ _;refine CA (h:=xP (s:=(s.pk,s.pc)) (l:=eL s) hln hI.pk ?_);rw[hV,h]))
 all_goals(refine aC ?_;exact aB (hK))
theorem Rz (hI:bU B s) (hk:fV c s) (hB:B+300≤250000000) (h:As (s.pk,s.pc) (eL s)=(some id,q)) (hm:bY id s.l=some m) (hr:Hb m (bD id s.ld)=true) (hK:∀M mc,K (.tuple #[.agg #[I6 (bB m.x - 1),I6 id,.bool (BY m.x (bD id s.ld)),.string (iL m.x (bD id s.ld)),I6 0,I6 0,I6 0,.bool false,I6 0,I6 0,I6 0,.slice none 0 0],.bool true]) (b5 x a (Ao id m q s) M mc R)):CT 97 #[PO x] (b5 x a s M mc R) K:=by
 have hV:Lv (s.pk,s.pc) (eL s)=.tuple #[I6 id,.bool true]:=by unfold Lv;rw[h]
 have hln:(eL s).length≤10000:=by unfold eL;rw[List.length_map];exact EV hI
 have hbb:=hI.bb
 have hmv:=hI.mv
 have hld:=hI.ld.ok (by omega)
 obtain⟨hi,hmid⟩:=bA hm
 have hq:K4 q:=by
  have:=Ml (s:=(s.pk,s.pc)) (l:=eL s) hI.pk
  rw[h] at this;exact this
 have hql:=E1 hq id
 have hsz:=LY (n:=bD id s.ld) (hk.mo m (List.mem_of_getElem? hi)).sz
 have hco:=Adw hsz
 have hI2:=FI (mv:=⟨1,id,DI id m s,iL m.x (bD id s.ld),BY m.x (bD id s.ld)⟩) hI hk hm hq hB
 have hat:=lN (m':=C9 m (bD id s.ld)) hm vZ
 unfold Ao at hK
 rw[E9 hm] at hK
 have hkk:bB m.x=1∨bB m.x=2:=by cases m.x;exact .inl rfl;exact .inr rfl
 rcases hkk with hx|hx
 ·have hsp:=Aej hI hk hm hx
  have hx1:bB m.x - 1=0:=by omega
  have hN:DI id m s=((iL m.x (bD id s.ld)).size:Nat):=if_pos hx
  rw[hN] at hK hI2
  rw[hx1] at hK
  have e1:vV id m q s= { s with ld:=mC id ((iL m.x (bD id s.ld)).size:Nat) s.ld,pk:=(jK id (p9 id q.1 - fL ((iL m.x (bD id s.ld)).size:Nat)) q).1,pc:=(jK id (p9 id q.1 - fL ((iL m.x (bD id s.ld)).size:Nat)) q).2 }:=by unfold vV;rw[if_pos hx]
  rw[e1] at hK hI2
  refine aH Tryz.func97 ?_
  repeat' (first|refine HQ ?_|refine dw iV ?_|refine dw iG ?_|refine w5 ?_ ?_|((refine bh fun h=>?_) <;> try exact w6 h)|(refine aE fun hA=>?_;subst hA)|intro _|(show aA _ 191 _ _ _;refine CA (h:=uG (x:=x) (a:=a) (s:=s) (M:=M) (mc:=mc) hI hk (fun _ _=>?_)))|(show aA _ 190 _ _ _;refine CA (h:=xP (s:=(s.pk,s.pc)) (l:=eL s) hln hI.pk ?_);rw[hV,h])|(show aA _ 192 _ _ _;refine CA (h:=f5 (l:=s.l) hI.sm hm (fun bq=>?_)))|(show aA _ 184 _ _ _;refine CA (h:=tO (s:=s.ld) hld ?_))|(show aA _ 193 _ _ _;refine CA (h:=BK (m:=m) hr ?_);rw[hx1,hmid])|(show aA _ 194 _ _ _;refine CA (h:=Rv (s:=s.ld) hld ?_ hsp))|(show aA _ 196 _ _ _;refine CA (h:=Bj (by omega) ?_))|(show aA _ 195 _ _ _;refine CA (h:=u9 (l:=q.1) (ck:=q.2) hco (by omega) ?_))|(show aA _ 197 _ _ _;refine CA (h:=kD (x:=x) (a:=a) (s:= { s with ld:=mC id ((iL m.x (bD id s.ld)).size:Nat) s.ld,pk:=(jK id (p9 id q.1 - fL ((iL m.x (bD id s.ld)).size:Nat)) q).1,pc:=(jK id (p9 id q.1 - fL ((iL m.x (bD id s.ld)).size:Nat)) q).2 }) (M:=M) (mc:=mc) (T:=NN a.l s.l (b7 id s.l) bq) (by show s.mv.length≤1000000000;omega) (fun _ _=>?_)))|(show aA _ 120 _ _ _;refine CA (h:=kX (x:=x) (a:=a) (s:=tF ⟨1,id,((iL m.x (bD id s.ld)).size:Nat),(iL m.x (bD id s.ld)),(BY m.x (bD id s.ld))⟩ ({ s with ld:=mC id ((iL m.x (bD id s.ld)).size:Nat) s.ld,pk:=(jK id (p9 id q.1 - fL ((iL m.x (bD id s.ld)).size:Nat)) q).1,pc:=(jK id (p9 id q.1 - fL ((iL m.x (bD id s.ld)).size:Nat)) q).2 })) (i:=b7 id s.l) (m:=m) (m':=C9 m (bD id s.ld)) hi vZ hI2 hat (fun _ _=>?_))))
  all_goals(refine aC ?_;exact aB (hK _ _))
 ·have hx1:bB m.x - 1=1:=by omega
  have hx2:¬bB m.x=1:=by omega
  rw[hx1] at hK
  have e1:vV id m q s= { s with pk:=(jK id (p9 id q.1 - fL ((iL m.x (bD id s.ld)).size:Nat)) q).1,pc:=(jK id (p9 id q.1 - fL ((iL m.x (bD id s.ld)).size:Nat)) q).2 }:=by unfold vV;rw[if_neg hx2]
  rw[e1] at hK hI2
  by_cases hd:(iL m.x (bD id s.ld))=⟨#[]⟩
  ·cases he:(BY m.x (bD id s.ld))
   ·have hN:DI id m s=1:=by unfold DI;rw[if_neg hx2,if_neg (by rw[he];simp)]
    rw[hN] at hK hI2
    rw[hd] at hK hI2 hsz hco
    rw[he] at hK hI2
    refine aH Tryz.func97 ?_
    repeat' (first|refine HQ ?_|refine dw iV ?_|refine dw iG ?_|refine w5 ?_ ?_|((refine bh fun h=>?_) <;> try exact w6 h)|(refine aE fun hA=>?_;subst hA)|intro _|(show aA _ 191 _ _ _;refine CA (h:=uG (x:=x) (a:=a) (s:=s) (M:=M) (mc:=mc) hI hk (fun _ _=>?_)))|(show aA _ 190 _ _ _;refine CA (h:=xP (s:=(s.pk,s.pc)) (l:=eL s) hln hI.pk ?_);rw[hV,h])|(show aA _ 192 _ _ _;refine CA (h:=f5 (l:=s.l) hI.sm hm (fun bq=>?_)))|(show aA _ 184 _ _ _;refine CA (h:=tO (s:=s.ld) hld ?_))|(show aA _ 193 _ _ _;refine CA (h:=BK (m:=m) hr ?_);rw[hx1,hmid,hd,he])|(show aA _ 196 _ _ _;refine CA (h:=Bj (by omega) ?_))|(show aA _ 195 _ _ _;refine CA (h:=u9 (l:=q.1) (ck:=q.2) hco (by omega) ?_))|(show aA _ 197 _ _ _;refine CA (h:=kD (x:=x) (a:=a) (s:= { s with pk:=(jK id (p9 id q.1 - fL ((⟨#[]⟩:ByteArray).size:Nat)) q).1,pc:=(jK id (p9 id q.1 - fL ((⟨#[]⟩:ByteArray).size:Nat)) q).2 }) (M:=M) (mc:=mc) (T:=NN a.l s.l (b7 id s.l) bq) (by show s.mv.length≤1000000000;omega) (fun _ _=>?_)))|(show aA _ 120 _ _ _;refine CA (h:=kX (x:=x) (a:=a) (s:=tF ⟨1,id,1,⟨#[]⟩,false⟩ ({ s with pk:=(jK id (p9 id q.1 - fL ((⟨#[]⟩:ByteArray).size:Nat)) q).1,pc:=(jK id (p9 id q.1 - fL ((⟨#[]⟩:ByteArray).size:Nat)) q).2 })) (i:=b7 id s.l) (m:=m) (m':=C9 m (bD id s.ld)) hi vZ hI2 hat (fun _ _=>?_))))
    all_goals(refine aC ?_;exact aB (hK _ _))
   ·have hN:DI id m s=0:=by unfold DI;rw[if_neg hx2,if_pos ⟨hd,he⟩]
    rw[hN] at hK hI2
    rw[hd] at hK hI2 hsz hco
    rw[he] at hK hI2
    refine aH Tryz.func97 ?_
    repeat' (first|refine HQ ?_|refine dw iV ?_|refine dw iG ?_|refine w5 ?_ ?_|((refine bh fun h=>?_) <;> try exact w6 h)|(refine aE fun hA=>?_;subst hA)|intro _|(show aA _ 191 _ _ _;refine CA (h:=uG (x:=x) (a:=a) (s:=s) (M:=M) (mc:=mc) hI hk (fun _ _=>?_)))|(show aA _ 190 _ _ _;refine CA (h:=xP (s:=(s.pk,s.pc)) (l:=eL s) hln hI.pk ?_);rw[hV,h])|(show aA _ 192 _ _ _;refine CA (h:=f5 (l:=s.l) hI.sm hm (fun bq=>?_)))|(show aA _ 184 _ _ _;refine CA (h:=tO (s:=s.ld) hld ?_))|(show aA _ 193 _ _ _;refine CA (h:=BK (m:=m) hr ?_);rw[hx1,hmid,hd,he])|(show aA _ 196 _ _ _;refine CA (h:=Bj (by omega) ?_))|(show aA _ 195 _ _ _;refine CA (h:=u9 (l:=q.1) (ck:=q.2) hco (by omega) ?_))|(show aA _ 197 _ _ _;refine CA (h:=kD (x:=x) (a:=a) (s:= { s with pk:=(jK id (p9 id q.1 - fL ((⟨#[]⟩:ByteArray).size:Nat)) q).1,pc:=(jK id (p9 id q.1 - fL ((⟨#[]⟩:ByteArray).size:Nat)) q).2 }) (M:=M) (mc:=mc) (T:=NN a.l s.l (b7 id s.l) bq) (by show s.mv.length≤1000000000;omega) (fun _ _=>?_)))|(show aA _ 120 _ _ _;refine CA (h:=kX (x:=x) (a:=a) (s:=tF ⟨1,id,0,⟨#[]⟩,true⟩ ({ s with pk:=(jK id (p9 id q.1 - fL ((⟨#[]⟩:ByteArray).size:Nat)) q).1,pc:=(jK id (p9 id q.1 - fL ((⟨#[]⟩:ByteArray).size:Nat)) q).2 })) (i:=b7 id s.l) (m:=m) (m':=C9 m (bD id s.ld)) hi vZ hI2 hat (fun _ _=>?_))))
    all_goals(refine aC ?_;exact aB (hK _ _))
  ·have hN:DI id m s=1:=by unfold DI;rw[if_neg hx2,if_neg (fun q=>hd q.1)]
   rw[hN] at hK hI2
   have hbq:=Aj1 hd
   refine aH Tryz.func97 ?_
   repeat' (first|(show cX _ _ _;rw[hbq])|refine HQ ?_|refine dw iV ?_|refine dw iG ?_|refine w5 ?_ ?_|((refine bh fun h=>?_) <;> try exact w6 h)|(refine aE fun hA=>?_;subst hA)|intro _|(show aA _ 191 _ _ _;refine CA (h:=uG (x:=x) (a:=a) (s:=s) (M:=M) (mc:=mc) hI hk (fun _ _=>?_)))|(show aA _ 190 _ _ _;refine CA (h:=xP (s:=(s.pk,s.pc)) (l:=eL s) hln hI.pk ?_);rw[hV,h])|(show aA _ 192 _ _ _;refine CA (h:=f5 (l:=s.l) hI.sm hm (fun bq=>?_)))|(show aA _ 184 _ _ _;refine CA (h:=tO (s:=s.ld) hld ?_))|(show aA _ 193 _ _ _;refine CA (h:=BK (m:=m) hr ?_);rw[hx1,hmid])|(show aA _ 196 _ _ _;refine CA (h:=Bj (by omega) ?_))|(show aA _ 195 _ _ _;refine CA (h:=u9 (l:=q.1) (ck:=q.2) hco (by omega) ?_))|(show aA _ 197 _ _ _;refine CA (h:=kD (x:=x) (a:=a) (s:= { s with pk:=(jK id (p9 id q.1 - fL ((iL m.x (bD id s.ld)).size:Nat)) q).1,pc:=(jK id (p9 id q.1 - fL ((iL m.x (bD id s.ld)).size:Nat)) q).2 }) (M:=M) (mc:=mc) (T:=NN a.l s.l (b7 id s.l) bq) (by show s.mv.length≤1000000000;omega) (fun _ _=>?_)))|(show aA _ 120 _ _ _;refine CA (h:=kX (x:=x) (a:=a) (s:=tF ⟨1,id,1,(iL m.x (bD id s.ld)),(BY m.x (bD id s.ld))⟩ ({ s with pk:=(jK id (p9 id q.1 - fL ((iL m.x (bD id s.ld)).size:Nat)) q).1,pc:=(jK id (p9 id q.1 - fL ((iL m.x (bD id s.ld)).size:Nat)) q).2 })) (i:=b7 id s.l) (m:=m) (m':=C9 m (bD id s.ld)) hi vZ hI2 hat (fun _ _=>?_))))
   all_goals(refine aC ?_;exact aB (hK _ _))
end
end Go.Proofs.YtifgibijcmppmaaGreat
