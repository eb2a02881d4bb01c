/- A part of the proof: lemmas; each with the conditions that it states. -/
import Derived.Test.YtifgibijcmppmaaGreatNbh
set_option linter.unusedVariables false
set_option linter.unusedSimpArgs false
namespace Go.Proofs.YtifgibijcmppmaaGreat
open Go Go.Proofs Go.Sl
set_option maxRecDepth 100000
set_option maxHeartbeats 40000000
attribute [local irreducible] aN fB cJ bO aM aY aA dM dQ aW dK pt ro fF star sep bI
attribute [local irreducible] mp El
section
variable {R C:List HP} {K:Value→List HP→Prop} {x mc i b p r:Nat} {a:Ca} {s:Cn} {M:Option Addr} {B id n:Int} {m:Sm} {l:List Sm}
theorem Aev {f:Fm}:aG (pt r [.int .i64 f.t,.int .i64 f.st,.bool f.e,.string f.d,.int .i64 f.k,.int .i64 f.on,.int .i64 f.w,.bool f.x,.int .i64 f.c,.int .i64 f.la,.int .i64 f.n,.slice f.pa f.pn f.pc] 45::R) (bT (some ⟨r,0,none⟩) 1 45 sR [f]::R):=fun H hs=>by
 refine iN (pre:= []) (post:= []) rfl ?_ (Nat.le_refl _) (by simp)
 rw[show [f].flatMap sR.enc=sR.enc f from by simp,List.nil_append,List.append_nil]
 exact hs
theorem Mw (h:bU B s) (hB:B+1≤250000000):bU (B+1) { s with bt:=iA s.bt s.now }:=
 { h.mono (B':=B+1) (by omega) hB with
   bt:=by
    have h1:=h.bt
    have h2:=h.now
    show(0≤(iA s.bt s.now).no∧(iA s.bt s.now).no≤B+1)∧(0≤(iA s.bt s.now).he∧(iA s.bt s.now).he≤B+1)∧(0≤(iA s.bt s.now).si∧(iA s.bt s.now).si≤B+1)∧0≤(iA s.bt s.now).nn∧(iA s.bt s.now).nn≤B+1
    unfold iA
    repeat' split
    all_goals first|(dsimp only;omega)|omega }
theorem F7 {q:Bool} (h:bU B s):bU B { s with sl:=oF s.sl s.now q }:=
 { h with
   sl:=by
    have h1:=h.sl
    have h2:=h.now
    show(0≤(oF s.sl s.now q).nw∧(oF s.sl s.now q).nw≤B)∧0≤(oF s.sl s.now q).si∧(oF s.sl s.now q).si≤B
    unfold oF
    repeat' split
    all_goals first|(dsimp only;omega)|omega }
theorem Ix (h:bU B s) (hB:B+1≤250000000):bU (B+1) (bJ s):=by
 have h1:=Mw h hB
 unfold bJ
 split
 ·exact i0 h1
 ·split
  ·exact i0 (s:= { s with bt:=iA s.bt s.now,sl:=oF s.sl s.now (tG s) }) (F7 (q:=tG s) h1)
  ·exact F7 (q:=tG s) h1
theorem YQ {f:Sm→Bool} {j:Nat} (h:l[j]?=some m):(l.take (j+1)).any f=((l.take j).any f || f m):=by
 rw[List.take_add_one,h]
 simp
def d3:List (Nat×Nat):= [(0,0),(1,0),(2,0),(3,0),(4,0),(5,0),(6,0),(7,0),(8,1),(9,0),(10,0),(11,0),(12,0),(13,0)]
def dY:List (Nat×Nat):= [(0,0),(1,0),(2,0),(3,0),(4,0),(5,0),(6,1),(7,0),(8,0),(9,1),(10,1),(11,1),(12,1),(13,1),(14,1),(15,1),(16,1),(17,0),(18,0),(19,0)]
def dL:List (Nat×Nat):= [(0,0),(1,0),(2,0),(3,0),(4,0),(5,0),(6,0),(7,0),(8,0),(9,1),(10,0)]
theorem FH (hI:bU B s) (hB:B+1≤250000000) (hK:∀A c M mc,K (.slice A (fQ s).length c) (bT A c 45 sR (fQ s)::b7 x a (bJ s) M mc R)):aA Tryz.prog 92 #[.pointer (some ⟨x,0,none⟩)] (b7 x a s M mc R) K:=by
 have hbb:=hI.bb
 have hnw:=hI.now
 have hsl:=hI.sl
 have h64:=hI.sm.1
 have hI1:=Mw hI hB
 have hld:=hI.ld.ok (by omega)
 dsimp only[b7,mV]
 refine aH Tryz.func92 ?_
 repeat' (first|refine XJ ?_|refine dw d3 ?_|refine dw dY ?_|refine dw dL ?_|refine wr ?_|refine w5 ?_ ?_|((refine bh fun h=>?_) <;> try exact w6 h)|(refine aE fun hA=>?_;subst hA)|intro _|(show aA _ 181 _ _ _;refine CA (h:=XC (b:=s.bt) (Ahx hI) (by omega) ?_))|(show aA _ 83 _ _ _;refine CA (h:=x4 (l:=s.l) ?_)))
 refine iF (fun n a' C'=>∃(j:Nat) (q:Bool),j+n=s.l.length∧q=(s.l.take j).any (IU s.ld)∧cN a' [(0,.pointer (some ⟨x,0,none⟩)),(3,.int .i64 (Qy s.bt s.now)),(4,.string (btD s.bt s.now)),(5,.bool q),(26,.int .i64 s.l.length),(27,.int .i64 j)]∧C'=b7 x a { s with bt:=iA s.bt s.now } M mc R) s.l.length (b9 s.l.length ⟨0,false,by omega,by simp,⟨rfl,rfl,rfl,rfl,rfl,rfl,trivial⟩,rfl⟩ (by omega)) ?_
 rintro n a' C' ⟨j,q,hj,hq,ha,rfl⟩
 refine gF _ ha ?_
 simp only[eQ]
 by_cases hlt:j<s.l.length
 ·obtain⟨m,hm⟩:∃m,s.l[j]?=some m:=⟨_,List.getElem?_eq_getElem hlt⟩
  have hany:=YQ (f:=IU s.ld) hm
  rw[← hq] at hany
  dsimp only[b7,mV]
  cases q
  ·rw[Bool.false_or] at hany
   cases hg:RN m
   ·have hs:IU s.ld m=false:=by unfold IU;rw[hg];rfl
    have hg2:decide (m.sta=1∨m.sta=3)=false:=hg
    repeat' (first|refine XJ ?_|refine dw d3 ?_|refine dw dY ?_|refine dw dL ?_|refine wr ?_|refine w5 ?_ ?_|((refine bh fun h=>?_) <;> try exact w6 h)|(refine aE fun hA=>?_;subst hA)|intro _|(show aA _ 85 _ _ _;refine CA (h:=A7 (l:=s.l) hI.sm hm (fun bq li t r hok=>?_)))|(show aA _ 182 _ _ _;refine CA (h:=oT (s:=m.sta) ?_);rw[hg2]))
    all_goals(show aW _ _ _ _;exact pJ (m:=n - 1) (by omega) (aG.trans (by exact bA) (aG.trans (cO (m:=m) hok) (dD (x:=x) (a:=a) (s:= { s with bt:=iA s.bt s.now }) (M:=M) (mc:=mc) (R:=R) hm))) ⟨j+1,false,by omega,by rw[hany,hs],⟨rfl,rfl,rfl,rfl,rfl,rfl,trivial⟩,rfl⟩)
   ·have hs:IU s.ld m=Ae7 m.x (bE m.id s.ld):=by unfold IU;rw[hg];rfl
    have hg2:decide (m.sta=1∨m.sta=3)=true:=hg
    repeat' (first|refine XJ ?_|refine dw d3 ?_|refine dw dY ?_|refine dw dL ?_|refine wr ?_|refine w5 ?_ ?_|((refine bh fun h=>?_) <;> try exact w6 h)|(refine aE fun hA=>?_;subst hA)|intro _|(show aA _ 85 _ _ _;refine CA (h:=A7 (l:=s.l) hI.sm hm (fun bq li t r hok=>?_)))|(show aA _ 182 _ _ _;refine CA (h:=oT (s:=m.sta) ?_);rw[hg2])|(show aA _ 86 _ _ _;refine CA (h:=LQ ?_))|(show aA _ 184 _ _ _;refine CA (h:=uA (s:=s.ld) hld ?_))|(show aA _ 183 _ _ _;refine CA (h:=Ag8 (x:=m.x) ?_)))
    all_goals(show aW _ _ _ _;exact pJ (m:=n - 1) (by omega) (aG.trans (by exact bA) (aG.trans (cO (m:=m) hok) (dD (x:=x) (a:=a) (s:= { s with bt:=iA s.bt s.now }) (M:=M) (mc:=mc) (R:=R) hm))) ⟨j+1,Ae7 m.x (bE m.id s.ld),by omega,by rw[hany,hs],⟨rfl,rfl,rfl,rfl,rfl,rfl,trivial⟩,rfl⟩)
  ·rw[Bool.true_or] at hany
   repeat' (first|refine XJ ?_|refine dw d3 ?_|refine dw dY ?_|refine dw dL ?_|refine wr ?_|refine w5 ?_ ?_|((refine bh fun h=>?_) <;> try exact w6 h)|(refine aE fun hA=>?_;subst hA)|intro _|(show aA _ 85 _ _ _;refine CA (h:=EA (l:=s.l) hI.sm hm (fun _=>?_))))
   all_goals(show aW _ _ _ _;exact pJ (m:=n - 1) (by omega) (aG.trans (by exact bA) (dD (x:=x) (a:=a) (s:= { s with bt:=iA s.bt s.now }) (M:=M) (mc:=mc) (R:=R) hm)) ⟨j+1,true,by omega,hany.symm,⟨rfl,rfl,rfl,rfl,rfl,rfl,trivial⟩,rfl⟩)
 ·obtain rfl:j=s.l.length:=by omega
  rw[List.take_length] at hq
  have hq:q=tG s:=hq
  subst hq
  dsimp only[b7,mV]
  unfold fQ bJ at hK
  by_cases h2:Qy s.bt s.now=2
  ·rw[if_pos (.inl h2)] at hK
   simp only[if_pos h2] at hK
   repeat' (first|(show Br _ _ _;refine Br.t (by first|(simp <;> done)|simpa using h2) ?_)|refine XJ ?_|refine dw d3 ?_|refine dw dY ?_|refine dw dL ?_|refine wr ?_|refine w5 ?_ ?_|((refine bh fun h=>?_) <;> try exact w6 h)|(refine aE fun hA=>?_;subst hA)|intro _|(show aA _ 79 _ _ _;refine CA (h:=dN (x:=x) (a:=a) (s:= { s with bt:=iA s.bt s.now }) hI1 (by decide) (by decide) (fun _ _=>?_))))
   all_goals(refine aC ?_;exact aB (hK none 0 _ _))
  ·cases hf:AX s.sl s.now (tG s)
   ·by_cases h1:Qy s.bt s.now=1
    ·rw[if_neg (by rw[hf];simp[h1])] at hK
     simp only[if_neg h2,hf,Bool.false_eq_true,if_false] at hK
     repeat' (first|(show Br _ _ _;first|refine Br.f (by first|(simp <;> done)|simpa using h2) ?_|refine Br.t (by first|(simp <;> done)|simpa using h1) ?_)|refine XJ ?_|refine dw d3 ?_|refine dw dY ?_|refine dw dL ?_|refine wr ?_|refine w5 ?_ ?_|((refine bh fun h=>?_) <;> try exact w6 h)|(refine aE fun hA=>?_;subst hA)|intro _|(show aA _ 185 _ _ _;refine CA (h:=Fe (s:=s.sl) (n:=s.now) (b:=tG s) (by omega) (by omega) (by omega) ?_);rw[hf]))
     all_goals(refine aC ?_;exact aL (aG.trans (by exact bA) ((Aev (f:=wA 7 0 (btD s.bt s.now) false)))) (hK _ _ _ _))
    ·rw[if_pos (.inr (.inr h1))] at hK
     simp only[if_neg h2,hf,Bool.false_eq_true,if_false] at hK
     repeat' (first|(show Br _ _ _;first|refine Br.f (by first|(simp <;> done)|simpa using h2) ?_|refine Br.f (by first|(simp <;> done)|simpa using h1) ?_)|refine XJ ?_|refine dw d3 ?_|refine dw dY ?_|refine dw dL ?_|refine wr ?_|refine w5 ?_ ?_|((refine bh fun h=>?_) <;> try exact w6 h)|(refine aE fun hA=>?_;subst hA)|intro _|(show aA _ 185 _ _ _;refine CA (h:=Fe (s:=s.sl) (n:=s.now) (b:=tG s) (by omega) (by omega) (by omega) ?_);rw[hf]))
     all_goals(refine aC ?_;exact aB (hK none 0 _ _))
   ·rw[if_pos (.inr (.inl hf))] at hK
    simp only[if_neg h2,hf,if_true] at hK
    repeat' (first|(show Br _ _ _;refine Br.f (by first|(simp <;> done)|simpa using h2) ?_)|refine XJ ?_|refine dw d3 ?_|refine dw dY ?_|refine dw dL ?_|refine wr ?_|refine w5 ?_ ?_|((refine bh fun h=>?_) <;> try exact w6 h)|(refine aE fun hA=>?_;subst hA)|intro _|(show aA _ 185 _ _ _;refine CA (h:=Fe (s:=s.sl) (n:=s.now) (b:=tG s) (by omega) (by omega) (by omega) ?_);rw[hf])|(show aA _ 79 _ _ _;refine CA (h:=dN (x:=x) (a:=a) (s:= { s with bt:=iA s.bt s.now,sl:=oF s.sl s.now (tG s) }) (F7 (q:=tG s) hI1) (by decide) (by decide) (fun _ _=>?_))))
    all_goals(refine aC ?_;exact aB (hK none 0 _ _))
end
section
variable {R C:List HP} {K:Value→List HP→Prop} {x mc i b p r:Nat} {a:Ca} {s:Cn} {M:Option Addr} {B id n st t:Int} {m:Sm} {l:List Sm} {fs:List Fm} {c:Cf}
def Xl (r:Nat) (fs:List Fm):HP:=fF fun F=>fF fun c=>sep (pt r [.slice F fs.length c] 24) (bT F c 45 sR fs)
theorem Ajj:aG (pt r [.slice none 0 0] 24::R) (Xl r []::R):=aG.ex none (aG.ex 0 (aG.sep (aG.cons (aG.nilrow _ _ _))))
theorem Un {F:Option Addr} {k k2:Nat} (h:fs.length=k2):aG (pt r [.slice F k2 k] 24::bT F k 45 sR fs::R) (Xl r fs::R):=by
 subst h
 exact aG.ex F (aG.ex k (aG.sep (aG.refl _)))
theorem zK (hl:fs.length≤1000) (hK:K (.tuple #[]) (Xl r (fs++J2 t st n)::R)):aA Tryz.prog 186 #[.int .i64 t,.int .i64 st,.int .i64 n,.pointer (some ⟨r,0,none⟩)] (Xl r fs::R) K:=by
 refine aA.ex fun F=>aA.ex fun k=>aA.sep ?_
 unfold J2 at hK
 by_cases h:0<n
 ·rw[if_pos h] at hK
  refine aH Tryz.func186 ?_
  repeat' (first|(show aN _ _ _ _ _ _ _;(refine o4 (E:=sR) (xs:=fs) (ys:= [Dq t st n]) ?_;intro _ _))|refine v36 ?_|refine wr ?_|refine w5 ?_ ?_|((refine bh fun h=>?_) <;> try exact w6 h)|(refine aE fun hA=>?_;subst hA)|intro _)
  all_goals(refine aC ?_;exact aL (aG.trans (by exact bA) ((Un (fs:=fs++ [Dq t st n]) rfl))) (hK))
 ·rw[if_neg h,List.append_nil] at hK
  refine aH Tryz.func186 ?_
  repeat' (first|refine v36 ?_|refine wr ?_|refine w5 ?_ ?_|((refine bh fun h=>?_) <;> try exact w6 h)|(refine aE fun hA=>?_;subst hA)|intro _)
  all_goals(refine aC ?_;exact aL (aG.trans (by exact bA) ((Un (fs:=fs) rfl))) (hK))
theorem Ahp {y:Ys}:jI (yGr y)=jI y:=by cases y <;> rfl
theorem Ei:(mJ m).id=m.id:=by unfold mJ;split <;> rfl
theorem O6:(mJ m).own=m.own:=by unfold mJ;split <;> rfl
theorem Ai1 (h:Fs B m):Fs B (mJ m):=by
 obtain⟨h1,h2,h3,h4⟩:=h
 unfold mJ
 split
 ·refine⟨h1,h2,?_,?_⟩
  ·cases hy:m.y <;> (rw[hy] at h3;exact h3)
  ·cases hy:m.y <;> (rw[hy] at h4;exact h4)
 ·exact⟨h1,h2,h3,h4⟩
theorem Ajn {z:Yp} (h:I8 B z):I8 B (QJ z):=by
 obtain⟨h1,h2,h3,h4,h5,h6⟩:=h
 have:z.gr≤z.gr+vS z∧z.gr+vS z≤z.us+512:=by
  unfold vS uZ
  split <;> omega
 exact⟨h1,h2,h3,by show z.got≤z.gr+vS z;omega,this.2,h6⟩
theorem Rb (h:bU B s):bU B (BE s):=
 { h with
   rv:=Ajn h.rv
   sm:=UE h.sm fun m=>Ei
   st:=fun q hq=>by
    obtain⟨m,hm,rfl⟩:=List.mem_map.1 hq
    exact Ai1 (h.st m hm)
   ids:=fun q hq=>by
    obtain⟨m,hm,rfl⟩:=List.mem_map.1 hq
    rw[Ei];exact h.ids m hm
   own:=fun b=>by
    have h1:=h.own b
    unfold fG at h1
    show((s.l.map mJ).filter fun m=>m.own == b).length≤32
    rw[nP,List.map_map]
    rw[nP] at h1
    have e:(Sm.own ∘ mJ)=Sm.own:=funext fun m=>O6
    rw[e];exact h1
   mv:=by
    have:=h.mv
    show(s.mv.length:Int)+((s.l.map mJ).length:Int)≤B
    rw[List.length_map];exact this }
theorem Akw:kb (mJ m)=kb m:=by
 unfold mJ
 split
 ·unfold kb
  cases hy:m.y <;> rfl
 ·rfl
theorem RR (h:fX c s):fX c (BE s):=
 { h with
   tn:=fun j hj=>by
    obtain⟨z,hz,hzi⟩:=h.tn j hj
    exact⟨_,List.mem_map_of_mem hz,by rw[Ei];exact hzi⟩
   cl:=fun ho=>by
    show s.l.map _= []
    rw[h.cl ho];rfl
   mo:=fun z hz=>by
    obtain⟨m,hm,rfl⟩:=List.mem_map.1 hz
    have h1:=h.mo m hm
    unfold mJ
    split
    ·refine TF h1 ?_ Ahp
     have:=h1.y
     cases hy:m.y <;> (rw[hy] at this;exact this)
    ·exact h1
   nf:=by
    have h1:=h.nf
    unfold fG at h1
    show(((s.l.map mJ).filter fun m=>m.own == false).length:Int)≤s.sh.g.st
    rw[nP,List.map_map]
    rw[nP] at h1
    have e:(Sm.own ∘ mJ)=Sm.own:=funext fun m=>O6
    rw[e];exact h1
   kp:=by
    have h1:=h.kp
    show s.rv.us+tE (s.l.map mJ)≤s.rv.got
    rw[T4 fun m=>Akw];exact h1
   lk:=fun j=>(h.lk j).trans (JY (q:=mJ) (fun _=>Ei) fun m=>by unfold mJ;split <;> rfl) }
theorem All (h:wZ m):wZ { m with y:=yGr m.y }:=⟨h.1.trans Ahp.symm,h.2⟩
theorem V3 {j:Nat} (h:l[j]?=some m):(l.take (j+1)).flatMap rU=(l.take j).flatMap rU++rU m:=by
 rw[List.take_add_one,h]
 simp
theorem Gd:(J2 t st n).length≤1:=by unfold J2;split <;> simp
theorem Vu:(rU m).length≤1:=by
 unfold rU
 split
 ·exact Gd
 ·simp
theorem flat_len:∀ {l:List Sm},(l.flatMap rU).length≤l.length
 | []=>by simp
 |m::l=>by
  have h1:=Vu (m:=m)
  have h2:=flat_len (l:=l)
  rw[List.flatMap_cons,List.length_append,List.length_cons]
  omega
theorem P6 (hI:bU B s) (hK:∀A c,K (.slice A (uT s).length c) (bT A c 45 sR (uT s)::b7 x a (BE s) M mc R)):aA Tryz.prog 96 #[.pointer (some ⟨x,0,none⟩)] (b7 x a s M mc R) K:=by
 have hbb:=hI.bb
 have hrv:=hI.rv
 unfold I8 at hrv
 have h64:=hI.sm.1
 dsimp only[b7,mV]
 refine aH Tryz.func96 ?_
 repeat' (first|refine Yj ?_|refine wr ?_|refine w5 ?_ ?_|((refine bh fun h=>?_) <;> try exact w6 h)|(refine aE fun hA=>?_;subst hA)|intro _|(show aA _ 187 _ _ _;refine CA (h:=Hy (cap:=s.rv.cap) (gr:=s.rv.gr) (us:=s.rv.us) (by omega) (by omega) ?_))|(show aA _ 186 _ _ _;refine CA (h:=aA.ent Ajj (zK (fs:= []) (by decide) ?_)))|(show aA _ 83 _ _ _;refine CA (h:=x4 (l:=s.l) ?_)))
 rename_i r3
 refine iF (fun n a' C'=>∃(j:Nat) (L:List Fm),j+n=s.l.length∧L=J2 10 0 (vS s.rv)++(s.l.take j).flatMap rU∧cN a' [(0,.pointer (some ⟨x,0,none⟩)),(3,.pointer (some ⟨r3,0,none⟩)),(4,.func (.func 186) #[] #[.pointer (some ⟨r3,0,none⟩)]),(22,.int .i64 s.l.length),(23,.int .i64 j)]∧C'=Xl r3 L::b7 x a { s with rv:=QJ s.rv,l:=(s.l.take j).map mJ++s.l.drop j } M mc R) s.l.length (b9 s.l.length ⟨0,[]++J2 10 0 (vS s.rv),by omega,by simp,⟨rfl,rfl,rfl,rfl,rfl,trivial⟩,rfl⟩ (by omega)) ?_
 rintro n a' C' ⟨j,L,hj,hL,ha,rfl⟩
 refine gF _ ha ?_
 simp only[eQ]
 have hLl:=congrArg List.length hL
 rw[List.length_append] at hLl
 have hl1:=Gd (t:=10) (st:=0) (n:=vS s.rv)
 have hl2:=flat_len (l:=s.l.take j)
 rw[List.length_take] at hl2
 by_cases hlt:j<s.l.length
 ·obtain⟨m,hm⟩:∃m,s.l[j]?=some m:=⟨_,List.getElem?_eq_getElem hlt⟩
  have hat:=UC (g:=mJ) hm
  have hset:=O2 (g:=mJ) hm
  have hS:=U0 hI.sm (PI (g:=mJ) (l:=s.l) (j:=j) fun _=>Ei)
  have hft:=V3 hm
  have hkk:bD m.x=1∨bD m.x=2:=by cases m.x;exact .inl rfl;exact .inr rfl
  dsimp only[b7,mV]
  cases hr:XM m
  ·have hr2:decide (m.sta=1∨m.sta=2)=false:=hr
   have e1:mJ m=m:=by unfold mJ;rw[hr];rfl
   have e2:rU m= []:=by unfold rU;rw[hr];rfl
   rw[e2,List.append_nil] at hft
   rcases hkk with hk|hk
   ·repeat' (first|refine Yj ?_|refine wr ?_|refine w5 ?_ ?_|((refine bh fun h=>?_) <;> try exact w6 h)|(refine aE fun hA=>?_;subst hA)|intro _|(show aA _ 85 _ _ _;refine CA (h:=A7 (l:=(s.l.take j).map mJ++s.l.drop j) hS hat (fun bq li t r hok=>?_)))|(show aA _ 107 _ _ _;refine CA (h:=qU (x:=m.x) ?_);rw[hk])|(show aA _ 188 _ _ _;refine CA (h:=eI (s:=m.sta) ?_);rw[hr2]))
    all_goals(show aW _ _ _ _;exact pJ (m:=n - 1) (by omega) (aG.trans (by exact bA) (aG.trans (aG.cons (A:=Xl r3 L) (cO (m:=m) hok)) (aG.cons (A:=Xl r3 L) (mO (x:=x) (a:=a) (s:= { s with rv:=QJ s.rv,l:=(s.l.take j).map mJ++s.l.drop j }) (M:=M) (mc:=mc) (R:=R) (m':=m) hat rfl)))) ⟨j+1,L,by omega,by rw[hL,hft],⟨rfl,rfl,rfl,rfl,rfl,trivial⟩,by rw[← hset,e1]⟩)
   ·repeat' (first|refine Yj ?_|refine wr ?_|refine w5 ?_ ?_|((refine bh fun h=>?_) <;> try exact w6 h)|(refine aE fun hA=>?_;subst hA)|intro _|(show aA _ 85 _ _ _;refine CA (h:=A7 (l:=(s.l.take j).map mJ++s.l.drop j) hS hat (fun bq li t r hok=>?_)))|(show aA _ 107 _ _ _;refine CA (h:=qU (x:=m.x) ?_);rw[hk])|(show aA _ 188 _ _ _;refine CA (h:=eI (s:=m.sta) ?_);rw[hr2]))
    all_goals(show aW _ _ _ _;exact pJ (m:=n - 1) (by omega) (aG.trans (by exact bA) (aG.trans (aG.cons (A:=Xl r3 L) (cO (m:=m) hok)) (aG.cons (A:=Xl r3 L) (mO (x:=x) (a:=a) (s:= { s with rv:=QJ s.rv,l:=(s.l.take j).map mJ++s.l.drop j }) (M:=M) (mc:=mc) (R:=R) (m':=m) hat rfl)))) ⟨j+1,L,by omega,by rw[hL,hft],⟨rfl,rfl,rfl,rfl,rfl,trivial⟩,by rw[← hset,e1]⟩)
  ·have hr2:decide (m.sta=1∨m.sta=2)=true:=hr
   have e1:mJ m= { m with y:=yGr m.y }:=by unfold mJ;rw[hr];rfl
   rcases hkk with hk|hk
   ·have e2:rU m=J2 10 m.id (IK m.y):=by unfold rU;rw[hr,hk];rfl
    rw[e2] at hft
    repeat' (first|refine Yj ?_|refine wr ?_|refine w5 ?_ ?_|((refine bh fun h=>?_) <;> try exact w6 h)|(refine aE fun hA=>?_;subst hA)|intro _|(show aA _ 85 _ _ _;refine CA (h:=A7 (l:=(s.l.take j).map mJ++s.l.drop j) hS hat (fun bq li t r hok=>?_)))|(show aA _ 107 _ _ _;refine CA (h:=qU (x:=m.x) ?_);rw[hk])|(show aA _ 188 _ _ _;refine CA (h:=eI (s:=m.sta) ?_);rw[hr2])|(show aA _ 89 _ _ _;refine CA (h:=YH ?_))|(show aA _ 189 _ _ _;refine CA (h:=JZ (y:=m.y) ?_))|(show aA _ 186 _ _ _;refine CA (h:=zK (fs:=L) (by omega) ?_)))
    all_goals(show aW _ _ _ _;exact pJ (m:=n - 1) (by omega) (aG.trans (by exact bA) (aG.trans (aG.cons (A:=Xl r3 (L++J2 10 m.id (IK m.y))) (cO (m:= { m with y:=yGr m.y }) (All hok))) (aG.cons (A:=Xl r3 (L++J2 10 m.id (IK m.y))) (mO (x:=x) (a:=a) (s:= { s with rv:=QJ s.rv,l:=(s.l.take j).map mJ++s.l.drop j }) (M:=M) (mc:=mc) (R:=R) (m':= { m with y:=yGr m.y }) hat rfl)))) ⟨j+1,L++J2 10 m.id (IK m.y),by omega,by rw[hL,hft,List.append_assoc],⟨rfl,rfl,rfl,rfl,rfl,trivial⟩,by rw[← hset,e1]⟩)
   ·have e2:rU m=J2 11 m.id (IK m.y):=by unfold rU;rw[hr,hk];rfl
    rw[e2] at hft
    repeat' (first|refine Yj ?_|refine wr ?_|refine w5 ?_ ?_|((refine bh fun h=>?_) <;> try exact w6 h)|(refine aE fun hA=>?_;subst hA)|intro _|(show aA _ 85 _ _ _;refine CA (h:=A7 (l:=(s.l.take j).map mJ++s.l.drop j) hS hat (fun bq li t r hok=>?_)))|(show aA _ 107 _ _ _;refine CA (h:=qU (x:=m.x) ?_);rw[hk])|(show aA _ 188 _ _ _;refine CA (h:=eI (s:=m.sta) ?_);rw[hr2])|(show aA _ 89 _ _ _;refine CA (h:=YH ?_))|(show aA _ 189 _ _ _;refine CA (h:=JZ (y:=m.y) ?_))|(show aA _ 186 _ _ _;refine CA (h:=zK (fs:=L) (by omega) ?_)))
    all_goals(show aW _ _ _ _;exact pJ (m:=n - 1) (by omega) (aG.trans (by exact bA) (aG.trans (aG.cons (A:=Xl r3 (L++J2 11 m.id (IK m.y))) (cO (m:= { m with y:=yGr m.y }) (All hok))) (aG.cons (A:=Xl r3 (L++J2 11 m.id (IK m.y))) (mO (x:=x) (a:=a) (s:= { s with rv:=QJ s.rv,l:=(s.l.take j).map mJ++s.l.drop j }) (M:=M) (mc:=mc) (R:=R) (m':= { m with y:=yGr m.y }) hat rfl)))) ⟨j+1,L++J2 11 m.id (IK m.y),by omega,by rw[hL,hft,List.append_assoc],⟨rfl,rfl,rfl,rfl,rfl,trivial⟩,by rw[← hset,e1]⟩)
 ·obtain rfl:j=s.l.length:=by omega
  rw[List.take_length] at hL
  have hL:L=uT s:=hL
  subst hL
  rw[List.take_length,List.drop_length,List.append_nil]
  refine wG fun F=>wG fun k=>Gr ?_
  repeat' (first|refine Yj ?_|refine wr ?_|refine w5 ?_ ?_|((refine bh fun h=>?_) <;> try exact w6 h)|(refine aE fun hA=>?_;subst hA)|intro _)
  all_goals(refine aC ?_;exact aB (hK _ _))
end
section
variable {R C:List HP} {K:Value→List HP→Prop} {x mc i b p r:Nat} {a:Ca} {s:Cn} {M:Option Addr} {B id n st t:Int} {m:Sm} {l:List Sm} {fs:List Fm} {c:Cf}
theorem TZ (hI:bU B s) (hk:fX c s) {j:Nat} (h:(eE s.tr)[j]?=some id):∃m,cB id s.l=some m∧m.id=id:=by
 have h1:=KM hI.tr (n:=s.tr.1.length+1) (lv:=cA 0 s.tr.1) (fun y hy=>(lC hI.tr.nd hy).1) id (List.mem_of_getElem? h)
 obtain⟨m,hm,rfl⟩:=hk.tn id h1
 exact⟨m,Sr hI.sm hm,rfl⟩
theorem TM {z:eT} (h:Ly z):∀ {n:Nat} {lv:List Int},lv.Nodup→(∀y∈lv,eZ z y)→(yX z n lv).length≤64 * n
 |0,_,_,_=>Nat.zero_le _
 |n+1,lv,hn,hl=>by
  have h64:=h.len
  have h1:=Ho (s:=z) hn hl
  have h2:=TM h (n:=n) (Ahq h.nd hn) (fun q hq=>by
   unfold Jt at hq
   exact(zV h.nd q (zE.1 hq)).1)
  unfold yX
  split
  ·simp
  ·rw[List.length_append];omega
theorem EB (hI:bU B s):(eE s.tr).length≤10000:=by
 have h1:=hI.tr.len
 have h2:=TM hI.tr (n:=s.tr.1.length+1) (lv:=cA 0 s.tr.1) (AH hI.tr.nd) fun y hy=>(lC hI.tr.nd hy).1
 unfold eE
 omega
theorem map_take {j:Nat} {α β:Type} {f:α→β} {l:List α} {z:α} (h:l[j]?=some z):(l.take (j+1)).map f=(l.take j).map f++ [f z]:=by
 rw[List.take_add_one,h]
 simp
def j7:List Nat:= [0,0,0,4,12,28,0,124,0,256,768,1792,4092,8188,16380,32764,16380,81916,212988,475132,16380,2097148,4194300,8388604,16777214,33554430,67108863,134217727]
def j2:List Nat:= [134217727,67108863,33554430,16777214,8388604,4194300,2097148,16380,475132,212988,81916,16380,32764,16380,8188,4092,1792,768,256,0,124,0,28,12,4,0,0,0]
def kA:List (Nat×Nat):= [(2,0),(3,0),(4,0),(5,0),(6,0),(7,1),(8,1),(9,1),(10,1),(11,1),(12,1),(13,0),(14,0),(15,1),(16,1),(17,1),(18,1),(19,1),(20,1),(21,1),(22,1),(1,5),(23,0),(24,0),(25,1),(0,6),(26,1),(27,0)]
theorem uI (hI:bU B s) (hk:fX c s) (hK:∀A c,K (.slice A (eP s).length c) (bT A c 333 Lj (eP s)::b7 x a s M mc R)):aA Tryz.prog 191 #[.pointer (some ⟨x,0,none⟩)] (b7 x a s M mc R) K:=by
 have hbb:=hI.bb
 have hld:=hI.ld.ok (by omega)
 have htl:=hI.tr.len
 obtain⟨rk,hrk⟩:=hI.tr.rk
 have hll:=EB hI
 unfold eP at hK
 dsimp only[b7,mV]
 refine aH Tryz.func191 ?_
 repeat' (first|refine XJ ?_|refine Iu j7 j2 kA ?_|refine wr ?_|refine w5 ?_ ?_|((refine bh fun h=>?_) <;> try exact w6 h)|(refine aE fun hA=>?_;subst hA)|intro _|(show aA _ 288 _ _ _;refine CA (h:=Q0 (s:=s.tr) (r:=rk) hI.tr.kok (by omega) hI.tr.nd hrk (fun Bq dq=>?_))))
 refine iF (fun n a' C'=>∃(j:Nat) (A:Option Addr) (k:Nat),j+n=(eE s.tr).length∧cN a' [(0,.pointer (some ⟨x,0,none⟩)),(3,.slice A (((eE s.tr).take j).map (oG s)).length k),(12,.slice Bq (eE s.tr).length dq),(13,.int .i64 (eE s.tr).length),(14,.int .i64 j)]∧C'=bT A k 333 Lj (((eE s.tr).take j).map (oG s))::bT Bq dq 3 kH (eE s.tr)::b7 x a s M mc R) (eE s.tr).length (b9 (eE s.tr).length ⟨0,none,0,by omega,⟨rfl,rfl,rfl,rfl,rfl,trivial⟩,rfl⟩) ?_
 rintro n a' C' ⟨j,A,k,hj,ha,rfl⟩
 refine gF _ ha ?_
 simp only[eQ]
 have hlt0:(((eE s.tr).take j).map (oG s)).length=min j (eE s.tr).length:=by rw[List.length_map,List.length_take]
 by_cases hlt:j<(eE s.tr).length
 ·obtain⟨id,hid⟩:∃id,(eE s.tr)[j]?=some id:=⟨_,List.getElem?_eq_getElem hlt⟩
  obtain⟨m,hm,hmid⟩:=TZ hI hk hid
  have hi:=(aU hm).1
  have hmt:=map_take (f:=oG s) hid
  have hv:(eE s.tr)[((j:Nat):Int).toNat]?=some id:=by rw[Int.toNat_natCast];exact hid
  have hlj:(((eE s.tr).take j).map (oG s)).length=j:=by omega
  dsimp only[b7,mV]
  cases hg:RN m
  ·have hg2:decide (m.sta=1∨m.sta=3)=false:=hg
   have e:oG s id=⟨id,if d4 id s.tr.1=true then(dF id s.tr).w else 0,false⟩:=by unfold oG;rw[hm];dsimp only;rw[hg];rfl
   repeat' (first|(show aN _ _ _ _ _ _ _;(refine o4 (E:=Lj) (xs:=((eE s.tr).take j).map (oG s)) (ys:= [⟨id,if d4 id s.tr.1=true then(dF id s.tr).w else 0,false⟩]) ?_;intro A2 k2))|refine XJ ?_|refine Iu j7 j2 kA ?_|refine wr ?_|refine w5 ?_ ?_|((refine bh fun h=>?_) <;> try exact w6 h)|(refine aE fun hA=>?_;subst hA)|intro _|(show aA _ 192 _ _ _;refine CA (h:=No (l:=s.l) hI.sm hm (fun bq li t r hok=>?_)))|(show aA _ 289 _ _ _;refine CA (h:=FP (s:=s.tr) ?_))|(show aA _ 182 _ _ _;refine CA (h:=oT (s:=m.sta) ?_);rw[hg2]))
   all_goals rw[← e,← hmt]
   all_goals(show aW _ _ _ _;exact pJ (m:=n - 1) (by omega) (aG.trans (by exact bA) (aG.cons (A:=bT A2 k2 333 Lj (((eE s.tr).take (j+1)).map (oG s))) (aG.cons (A:=bT _ dq 3 kH (eE s.tr)) (aG.trans (cO (m:=m) hok) (dD (x:=x) (a:=a) (s:=s) (M:=M) (mc:=mc) (R:=R) hi))))) ⟨j+1,A2,k2,by omega,⟨rfl,rfl,rfl,rfl,rfl,trivial⟩,rfl⟩)
  ·have hg2:decide (m.sta=1∨m.sta=3)=true:=hg
   have e:oG s id=⟨id,if d4 id s.tr.1=true then(dF id s.tr).w else 0,OR m.x (bE id s.ld)⟩:=by unfold oG;rw[hm];dsimp only;rw[hg];rfl
   repeat' (first|(show aN _ _ _ _ _ _ _;(refine o4 (E:=Lj) (xs:=((eE s.tr).take j).map (oG s)) (ys:= [⟨id,if d4 id s.tr.1=true then(dF id s.tr).w else 0,OR m.x (bE id s.ld)⟩]) ?_;intro A2 k2))|refine XJ ?_|refine Iu j7 j2 kA ?_|refine wr ?_|refine w5 ?_ ?_|((refine bh fun h=>?_) <;> try exact w6 h)|(refine aE fun hA=>?_;subst hA)|intro _|(show aA _ 192 _ _ _;refine CA (h:=No (l:=s.l) hI.sm hm (fun bq li t r hok=>?_)))|(show aA _ 289 _ _ _;refine CA (h:=FP (s:=s.tr) ?_))|(show aA _ 182 _ _ _;refine CA (h:=oT (s:=m.sta) ?_);rw[hg2])|(show aA _ 86 _ _ _;refine CA (h:=LQ ?_))|(show aA _ 184 _ _ _;refine CA (h:=uA (s:=s.ld) hld ?_))|(show aA _ 274 _ _ _;refine CA (h:=Afi (x:=m.x) ?_)))
   all_goals rw[← e,← hmt]
   all_goals(show aW _ _ _ _;exact pJ (m:=n - 1) (by omega) (aG.trans (by exact bA) (aG.cons (A:=bT A2 k2 333 Lj (((eE s.tr).take (j+1)).map (oG s))) (aG.cons (A:=bT _ dq 3 kH (eE s.tr)) (aG.trans (cO (m:=m) hok) (dD (x:=x) (a:=a) (s:=s) (M:=M) (mc:=mc) (R:=R) hi))))) ⟨j+1,A2,k2,by omega,⟨rfl,rfl,rfl,rfl,rfl,trivial⟩,rfl⟩)
 ·obtain rfl:j=(eE s.tr).length:=by omega
  rw[List.take_length]
  repeat' (first|refine XJ ?_|refine Iu j7 j2 kA ?_|refine wr ?_|refine w5 ?_ ?_|((refine bh fun h=>?_) <;> try exact w6 h)|(refine aE fun hA=>?_;subst hA)|intro _)
  all_goals(refine aC ?_;exact aB (hK _ _))
end
section
variable {R C:List HP} {K:Value→List HP→Prop} {x mc i b p r:Nat} {a:Ca} {s:Cn} {M:Option Addr} {B id n st t:Int} {m:Sm} {l:List Sm} {fs:List Fm} {c:Cf} {q:xR} {g:eJ}
def Zv (q:xR) (s:Cn):Cn:= { s with pk:=q.1,pc:=q.2 }
def Tl (id:Int) (m:Sm) (s:Cn):Fm:=wA (bD m.x - 1) id (iR m.x (bE id s.ld)) (BI m.x (bE id s.ld))
def D7 (id:Int) (m:Sm) (s:Cn):Int:=if bD m.x=1 then((iR m.x (bE id s.ld)).size:Nat) else if iR m.x (bE id s.ld)=⟨#[]⟩∧BI m.x (bE id s.ld)=true then 0 else 1
def vJ (id:Int) (m:Sm) (q:xR) (s:Cn):Cn:= { s with ld:=(if bD m.x=1 then mR id ((iR m.x (bE id s.ld)).size:Nat) s.ld else s.ld),pk:=(jX id (rC id q.1 - fS ((iR m.x (bE id s.ld)).size:Nat)) q).1,pc:=(jX id (rC id q.1 - fS ((iR m.x (bE id s.ld)).size:Nat)) q).2 }
def z8 (id:Int) (m:Sm) (q:xR) (s:Cn):Cn:=lK (CR m (bE id s.ld)) (tW ⟨1,id,D7 id m s,iR m.x (bE id s.ld),BI m.x (bE id s.ld)⟩ (Aj (CR m (bE id s.ld)) (vJ id m q s)))
theorem MC (h:zM (s.pk,s.pc) (eP s)=(none,q)):qQ s=(none,Zv q s):=by
 unfold qQ;rw[h];rfl
theorem G3 (h:zM (s.pk,s.pc) (eP s)=(some id,q)) (hm:cB id s.l=some m) (hr:IR m (bE id s.ld)=true):qQ s=(some (Tl id m s),z8 id m q s):=by
 unfold qQ;rw[h];dsimp only;rw[hm];dsimp only;rw[if_neg (by rw[hr];decide)];rfl
theorem UR {pk:List (KE Int)}:∀ {l:List Tu},sH pk l=some id→∃y∈l,y.id=id
 | [],h=>by cases h
 |x::r,h=>by
  unfold sH at h
  split at h
  ·cases h;exact⟨x,List.mem_cons_self ..,rfl⟩
  ·obtain⟨y,hy,e⟩:=UR h
   exact⟨y,List.mem_cons_of_mem _ hy,e⟩
theorem Ms:∀ {l:List Tu} {seen:List (KE Bool)} {ck:Nat},∀y∈qG seen ck l,y∈l∧y.rd=true
 | [],_,_,_,hy=>by cases hy
 |x::r,seen,ck,y,hy=>by
  unfold qG at hy
  split at hy
  ·rename_i hc
   rcases List.mem_cons.1 hy with rfl|hy
   ·exact⟨List.mem_cons_self ..,hc.2⟩
   ·obtain⟨h1,h2⟩:=Ms y hy
    exact⟨List.mem_cons_of_mem _ h1,h2⟩
  ·obtain⟨h1,h2⟩:=Ms y hy
   exact⟨List.mem_cons_of_mem _ h1,h2⟩
theorem Ajx {z:xR} {l:List Tu} (h:zM z l=(some id,q)):∃y∈l,y.id=id∧y.rd=true:=by
 unfold zM at h
 cases hw:qG [] 0 l with
 |nil=>rw[hw] at h;cases h
 |cons x r=>
  rw[hw] at h
  dsimp only at h
  have key:∀ {pk:List (KE Int)},sH pk (x::r)=some id→∃y∈l,y.id=id∧y.rd=true:=fun hf=>by
   obtain⟨y,hy,e⟩:=UR hf
   rw[← hw] at hy
   obtain⟨h1,h2⟩:=Ms y hy
   exact⟨y,h1,e,h2⟩
  cases hf:sH z.1 (x::r) with
  |some k=>
   rw[hf] at h
   cases h
   exact key hf
  |none=>
   rw[hf] at h
   exact key (congrArg Prod.fst h)
theorem Ev (hI:bU B s) (hk:fX c s) (h:zM (s.pk,s.pc) (eP s)=(some id,q)):∃m,cB id s.l=some m∧IR m (bE id s.ld)=true:=by
 obtain⟨y,hy,hid,hrd⟩:=Ajx h
 obtain⟨k,hk2,rfl⟩:=List.mem_map.1 hy
 have hid:k=id:=hid
 subst hid
 obtain⟨j,hj⟩:=List.getElem?_of_mem hk2
 obtain⟨m,hm,_⟩:=TZ hI hk hj
 refine⟨m,hm,?_⟩
 unfold oG at hrd
 rw[hm] at hrd
 exact hrd
theorem VE {z:Ld}:0≤bE id z:=by
 unfold bE
 split
 ·omega
 ·exact Int.le_refl 0
theorem Le {x:Xs} (h:xSz x):(iR x n).size≤256:=by
 cases x with
 |b z=>
  have e:(iR (.b z) n).size=min (BS z.bs n) z.bs.length:=by
   show((z.bs.take (BS z.bs n)).toArray).size=_
   simp
  rw[e];unfold BS;omega
 |i z=>
  cases hl:z.l with
  |nil=>
   have e:iR (.i z) n=⟨#[]⟩:=by simp only[iR,hl]
   rw[e];decide
  |cons d r=>
   have e:iR (.i z) n=d:=by simp only[iR,hl]
   rw[e]
   exact h d (by rw[hl];exact List.mem_cons_self ..)
theorem Akx {x:Xs} (hk:bD x=1) (hn:0≤n):((iR x n).size:Int)≤n:=by
 cases x with
 |b z=>
  have e:(iR (.b z) n).size=min (BS z.bs n) z.bs.length:=by
   show((z.bs.take (BS z.bs n)).toArray).size=_
   simp
  rw[e];unfold BS;omega
 |i z=>cases hk
theorem Aei (hI:bU B s) (hk:fX c s) (hm:cB id s.l=some m) (hx:bD m.x=1):sD id ((iR m.x (bE id s.ld)).size:Nat) s.ld=0:=by
 obtain⟨hi,hmid⟩:=aU hm
 have h1:=(Sw hI.ld).2 ((hk.lk id).2 ⟨m,List.mem_of_getElem? hi,hmid,hx⟩)
 have h2:=Akx hx (VE (id:=id) (z:=s.ld))
 unfold sD
 rw[if_neg (by rw[h1];decide),if_neg (by omega),if_neg (by omega)]
theorem Y6 {k:Nat} (h:k≤256):1≤fS k∧fS k≤1024:=by
 unfold fS
 split <;> omega
theorem vX:(CR m n).id=m.id:=by unfold CR;split <;> rfl
theorem UL:(CR m n).own=m.own:=by unfold CR;split <;> rfl
theorem Aas:bD (CR m n).x=bD m.x:=by
 unfold CR
 split
 ·exact CU
 ·rfl
theorem Ah8 (h:Fs B m):Fs B (CR m n):=by
 obtain⟨h1,h2,h3,h4⟩:=h
 unfold CR
 split
 ·refine⟨h1,?_,h3,h4⟩
  show Kv (xTk m.x n)≤B
  cases hx:m.x with
  |b z=>rw[hx] at h2;exact h2
  |i z=>
   rw[hx] at h2
   unfold xTk
   dsimp only
   split <;> exact h2
 ·exact⟨h1,h2,h3,h4⟩
theorem Aix (h:Pv c g m):Pv c g (CR m n):=by
 obtain⟨h1,h2,h3,h4⟩:=h
 unfold CR
 split
 ·refine⟨h1,?_,CU.trans h3,?_⟩
  ·show Ab6 c (xTk m.x n)
   cases hx:m.x with
   |b z=>rw[hx] at h2;exact h2
   |i z=>
    rw[hx] at h2
    unfold xTk
    dsimp only
    split <;> exact h2
  ·show xSz (xTk m.x n)
   cases hx:m.x with
   |b z=>trivial
   |i z=>
    rw[hx] at h4
    unfold xTk
    dsimp only
    split
    ·exact h4
    ·rename_i d r hl
     exact fun y hy=>h4 y (by rw[hl];exact List.mem_cons_of_mem _ hy)
 ·exact⟨h1,h2,h3,h4⟩
theorem Ak1:kb (CR m n)=kb m:=by
 unfold kb
 rw[Aas]
 have:gT (CR m n).y=gT m.y:=by unfold CR;split <;> rfl
 rw[this]
theorem Ai9 (h:bU B s) (hq:Ke q):bU B (Zv q s):= { h with pk:=hq }
theorem WT (h:bU B s) (hk:fX c s) (hm:cB id s.l=some m) (hq:Ke q) (hB:B+300≤250000000):bU (B+300) (vJ id m q s):=by
 have hs:=Le (n:=bE id s.ld) (hk.mo m (List.mem_of_getElem? (aU hm).1)).sz
 exact { h.mono (B':=B+300) (by omega) hB with
  pk:=MQ hq
  ld:=by
   show FY (B+300) (if bD m.x=1 then mR id ((iR m.x (bE id s.ld)).size:Nat) s.ld else s.ld)
   split
   ·exact WL h.ld (by omega) (by omega)
   ·exact h.ld.mono (by omega) }
theorem Fc (hm:cB id s.l=some m):Aj (CR m (bE id s.ld)) (vJ id m q s)= { vJ id m q s with l:=s.l.set (cE id s.l) (CR m (bE id s.ld)) }:=eL (s:=vJ id m q s) (id:=id) (vX.trans (aU hm).2)
theorem ER {mv:Mv} (h:bU B s) (hk:fX c s) (hm:cB id s.l=some m) (hq:Ke q) (hB:B+300≤250000000):bU (B+300) { tW mv (vJ id m q s) with l:=s.l.set (cE id s.l) (CR m (bE id s.ld)) }:=by
 obtain⟨hi,hmid⟩:=aU hm
 have h1:=WT h hk hm hq hB
 refine lP (s:=tW mv (vJ id m q s)) (m:=m) ?_ hi vX UL (Ah8 (h1.st m (List.mem_of_getElem? hi)))
 exact { h1 with
  mv:=by
   have:=h.mv
   show((s.mv++ [mv]).length:Int)+s.l.length≤B+300
   rw[List.length_append,List.length_singleton];omega }
theorem Xr {mv:Mv} (hk:fX c s) (hm:cB id s.l=some m):fX c { tW mv (vJ id m q s) with l:=s.l.set (cE id s.l) (CR m (bE id s.ld)) }:=by
 obtain⟨hi,hmid⟩:=aU hm
 have h1:fX c (tW mv (vJ id m q s)):= { hk with
  lk:=fun j=>by
   show j∈(if bD m.x=1 then mR id ((iR m.x (bE id s.ld)).size:Nat) s.ld else s.ld).l.map hZ.id↔_
   split
   ·rw[Xj];exact hk.lk j
   ·exact hk.lk j }
 exact yK (s:=tW mv (vJ id m q s)) h1 hi vX UL (Aix (hk.mo m (List.mem_of_getElem? hi))) (by rw[Ak1];exact Nat.le_refl _) Aas
theorem Ps (h:bU B s) (hk:fX c s) (hm:cB id s.l=some m) (hq:Ke q) (hB:B+300≤250000000):bU (B+300) (z8 id m q s):=by
 unfold z8
 rw[Fc hm]
 exact CZ (ER h hk hm hq hB) (mB (m':=CR m (bE id s.ld)) hm vX)
theorem OY (h:bU B s) (hk:fX c s) (hm:cB id s.l=some m) (hq:Ke q) (hB:B+300≤250000000):fX c (z8 id m q s):=by
 unfold z8
 rw[Fc hm]
 exact Dt (ER h hk hm hq hB) (Xr hk hm) (mB (m':=CR m (bE id s.ld)) hm vX)
theorem Ai2 {d:ByteArray} (h:d≠⟨#[]⟩):(d.toList == (ByteArray.mk #[]).toList)=false:=by
 rw[beq_eq_false_iff_ne]
 intro e
 apply h
 rw[ByteArray.toList_eq,ByteArray.toList_eq] at e
 exact ByteArray.ext (Array.toList_inj.1 e)
def i7:List (Nat×Nat):= [(4,0),(5,1),(0,1),(1,1),(2,1),(3,1),(6,1),(7,0),(8,0),(9,0),(10,0),(11,0)]
def iQ:List (Nat×Nat):= [(5,0),(6,0),(7,0),(8,1),(0,1),(1,1),(2,1),(3,1),(4,1),(9,1)]
theorem SC (hI:bU B s) (hk:fX c s) (h:zM (s.pk,s.pc) (eP s)=(none,q)) (hK:K (.tuple #[.agg #[.int .i64 0,.int .i64 0,.bool false,.string ⟨#[]⟩,.int .i64 0,.int .i64 0,.int .i64 0,.bool false,.int .i64 0,.int .i64 0,.int .i64 0,.slice none 0 0],.bool false]) (b7 x a (Zv q s) M mc R)):aA Tryz.prog 97 #[.pointer (some ⟨x,0,none⟩)] (b7 x a s M mc R) K:=by
 have hV:Kj (s.pk,s.pc) (eP s)=.tuple #[.int .i64 0,.bool false]:=by unfold Kj;rw[h]
 have hln:(eP s).length≤10000:=by unfold eP;rw[List.length_map];exact EB hI
 refine aH Tryz.func97 ?_
 repeat' (first|refine XG ?_|refine dw i7 ?_|refine dw iQ ?_|refine wr ?_|refine w5 ?_ ?_|((refine bh fun h=>?_) <;> try exact w6 h)|(refine aE fun hA=>?_;subst hA)|intro _|(show aA _ 191 _ _ _;refine CA (h:=uI (x:=x) (a:=a) (s:=s) (M:=M) (mc:=mc) hI hk (fun _ _=>?_)))|(show aA _ 190 _ _ _;refine CA (h:=wJ (s:=(s.pk,s.pc)) (l:=eP s) hln hI.pk ?_);rw[hV,h]))
 all_goals(refine aC ?_;exact aB (hK))
theorem R1 (hI:bU B s) (hk:fX c s) (hB:B+300≤250000000) (h:zM (s.pk,s.pc) (eP s)=(some id,q)) (hm:cB id s.l=some m) (hr:IR m (bE id s.ld)=true) (hK:∀M mc,K (.tuple #[.agg #[.int .i64 (bD m.x - 1),.int .i64 id,.bool (BI m.x (bE id s.ld)),.string (iR m.x (bE id s.ld)),.int .i64 0,.int .i64 0,.int .i64 0,.bool false,.int .i64 0,.int .i64 0,.int .i64 0,.slice none 0 0],.bool true]) (b7 x a (z8 id m q s) M mc R)):aA Tryz.prog 97 #[.pointer (some ⟨x,0,none⟩)] (b7 x a s M mc R) K:=by
 have hV:Kj (s.pk,s.pc) (eP s)=.tuple #[.int .i64 id,.bool true]:=by unfold Kj;rw[h]
 have hln:(eP s).length≤10000:=by unfold eP;rw[List.length_map];exact EB hI
 have hbb:=hI.bb
 have hmv:=hI.mv
 have hld:=hI.ld.ok (by omega)
 obtain⟨hi,hmid⟩:=aU hm
 have hq:Ke q:=by
  have:=Mm (s:=(s.pk,s.pc)) (l:=eP s) hI.pk
  rw[h] at this;exact this
 have hql:=EN hq id
 have hsz:=Le (n:=bE id s.ld) (hk.mo m (List.mem_of_getElem? hi)).sz
 have hco:=Y6 hsz
 have hI2:=ER (mv:=⟨1,id,D7 id m s,iR m.x (bE id s.ld),BI m.x (bE id s.ld)⟩) hI hk hm hq hB
 have hat:=mB (m':=CR m (bE id s.ld)) hm vX
 unfold z8 at hK
 rw[Fc hm] at hK
 have hkk:bD m.x=1∨bD m.x=2:=by cases m.x;exact .inl rfl;exact .inr rfl
 rcases hkk with hx|hx
 ·have hsp:=Aei hI hk hm hx
  have hx1:bD m.x - 1=0:=by omega
  have hN:D7 id m s=((iR m.x (bE id s.ld)).size:Nat):=if_pos hx
  rw[hN] at hK hI2
  rw[hx1] at hK
  have e1:vJ id m q s= { s with ld:=mR id ((iR m.x (bE id s.ld)).size:Nat) s.ld,pk:=(jX id (rC id q.1 - fS ((iR m.x (bE id s.ld)).size:Nat)) q).1,pc:=(jX id (rC id q.1 - fS ((iR m.x (bE id s.ld)).size:Nat)) q).2 }:=by unfold vJ;rw[if_pos hx]
  rw[e1] at hK hI2
  refine aH Tryz.func97 ?_
  repeat' (first|refine XG ?_|refine dw i7 ?_|refine dw iQ ?_|refine wr ?_|refine w5 ?_ ?_|((refine bh fun h=>?_) <;> try exact w6 h)|(refine aE fun hA=>?_;subst hA)|intro _|(show aA _ 191 _ _ _;refine CA (h:=uI (x:=x) (a:=a) (s:=s) (M:=M) (mc:=mc) hI hk (fun _ _=>?_)))|(show aA _ 190 _ _ _;refine CA (h:=wJ (s:=(s.pk,s.pc)) (l:=eP s) hln hI.pk ?_);rw[hV,h])|(show aA _ 192 _ _ _;refine CA (h:=gG (l:=s.l) hI.sm hm (fun bq=>?_)))|(show aA _ 184 _ _ _;refine CA (h:=uA (s:=s.ld) hld ?_))|(show aA _ 193 _ _ _;refine CA (h:=AM (m:=m) hr ?_);rw[hx1,hmid])|(show aA _ 194 _ _ _;refine CA (h:=Rx (s:=s.ld) hld ?_ hsp))|(show aA _ 196 _ _ _;refine CA (h:=Bu (by omega) ?_))|(show aA _ 195 _ _ _;refine CA (h:=vA (l:=q.1) (ck:=q.2) hco (by omega) ?_))|(show aA _ 197 _ _ _;refine CA (h:=kW (x:=x) (a:=a) (s:= { s with ld:=mR id ((iR m.x (bE id s.ld)).size:Nat) s.ld,pk:=(jX id (rC id q.1 - fS ((iR m.x (bE id s.ld)).size:Nat)) q).1,pc:=(jX id (rC id q.1 - fS ((iR m.x (bE id s.ld)).size:Nat)) q).2 }) (M:=M) (mc:=mc) (T:=Nh a.l s.l (cE id s.l) bq) (by show s.mv.length≤1000000000;omega) (fun _ _=>?_)))|(show aA _ 120 _ _ _;refine CA (h:=lG (x:=x) (a:=a) (s:=tW ⟨1,id,((iR m.x (bE id s.ld)).size:Nat),(iR m.x (bE id s.ld)),(BI m.x (bE id s.ld))⟩ ({ s with ld:=mR id ((iR m.x (bE id s.ld)).size:Nat) s.ld,pk:=(jX id (rC id q.1 - fS ((iR m.x (bE id s.ld)).size:Nat)) q).1,pc:=(jX id (rC id q.1 - fS ((iR m.x (bE id s.ld)).size:Nat)) q).2 })) (i:=cE id s.l) (m:=m) (m':=CR m (bE id s.ld)) hi vX hI2 hat (fun _ _=>?_))))
  all_goals(refine aC ?_;exact aB (hK _ _))
 ·have hx1:bD m.x - 1=1:=by omega
  have hx2:¬bD m.x=1:=by omega
  rw[hx1] at hK
  have e1:vJ id m q s= { s with pk:=(jX id (rC id q.1 - fS ((iR m.x (bE id s.ld)).size:Nat)) q).1,pc:=(jX id (rC id q.1 - fS ((iR m.x (bE id s.ld)).size:Nat)) q).2 }:=by unfold vJ;rw[if_neg hx2]
  rw[e1] at hK hI2
  by_cases hd:(iR m.x (bE id s.ld))=⟨#[]⟩
  ·cases he:(BI m.x (bE id s.ld))
   ·have hN:D7 id m s=1:=by unfold D7;rw[if_neg hx2,if_neg (by rw[he];simp)]
    rw[hN] at hK hI2
    rw[hd] at hK hI2 hsz hco
    rw[he] at hK hI2
    refine aH Tryz.func97 ?_
    repeat' (first|refine XG ?_|refine dw i7 ?_|refine dw iQ ?_|refine wr ?_|refine w5 ?_ ?_|((refine bh fun h=>?_) <;> try exact w6 h)|(refine aE fun hA=>?_;subst hA)|intro _|(show aA _ 191 _ _ _;refine CA (h:=uI (x:=x) (a:=a) (s:=s) (M:=M) (mc:=mc) hI hk (fun _ _=>?_)))|(show aA _ 190 _ _ _;refine CA (h:=wJ (s:=(s.pk,s.pc)) (l:=eP s) hln hI.pk ?_);rw[hV,h])|(show aA _ 192 _ _ _;refine CA (h:=gG (l:=s.l) hI.sm hm (fun bq=>?_)))|(show aA _ 184 _ _ _;refine CA (h:=uA (s:=s.ld) hld ?_))|(show aA _ 193 _ _ _;refine CA (h:=AM (m:=m) hr ?_);rw[hx1,hmid,hd,he])|(show aA _ 196 _ _ _;refine CA (h:=Bu (by omega) ?_))|(show aA _ 195 _ _ _;refine CA (h:=vA (l:=q.1) (ck:=q.2) hco (by omega) ?_))|(show aA _ 197 _ _ _;refine CA (h:=kW (x:=x) (a:=a) (s:= { s with pk:=(jX id (rC id q.1 - fS ((⟨#[]⟩:ByteArray).size:Nat)) q).1,pc:=(jX id (rC id q.1 - fS ((⟨#[]⟩:ByteArray).size:Nat)) q).2 }) (M:=M) (mc:=mc) (T:=Nh a.l s.l (cE id s.l) bq) (by show s.mv.length≤1000000000;omega) (fun _ _=>?_)))|(show aA _ 120 _ _ _;refine CA (h:=lG (x:=x) (a:=a) (s:=tW ⟨1,id,1,⟨#[]⟩,false⟩ ({ s with pk:=(jX id (rC id q.1 - fS ((⟨#[]⟩:ByteArray).size:Nat)) q).1,pc:=(jX id (rC id q.1 - fS ((⟨#[]⟩:ByteArray).size:Nat)) q).2 })) (i:=cE id s.l) (m:=m) (m':=CR m (bE id s.ld)) hi vX hI2 hat (fun _ _=>?_))))
    all_goals(refine aC ?_;exact aB (hK _ _))
   ·have hN:D7 id m s=0:=by unfold D7;rw[if_neg hx2,if_pos ⟨hd,he⟩]
    rw[hN] at hK hI2
    rw[hd] at hK hI2 hsz hco
    rw[he] at hK hI2
    refine aH Tryz.func97 ?_
    repeat' (first|refine XG ?_|refine dw i7 ?_|refine dw iQ ?_|refine wr ?_|refine w5 ?_ ?_|((refine bh fun h=>?_) <;> try exact w6 h)|(refine aE fun hA=>?_;subst hA)|intro _|(show aA _ 191 _ _ _;refine CA (h:=uI (x:=x) (a:=a) (s:=s) (M:=M) (mc:=mc) hI hk (fun _ _=>?_)))|(show aA _ 190 _ _ _;refine CA (h:=wJ (s:=(s.pk,s.pc)) (l:=eP s) hln hI.pk ?_);rw[hV,h])|(show aA _ 192 _ _ _;refine CA (h:=gG (l:=s.l) hI.sm hm (fun bq=>?_)))|(show aA _ 184 _ _ _;refine CA (h:=uA (s:=s.ld) hld ?_))|(show aA _ 193 _ _ _;refine CA (h:=AM (m:=m) hr ?_);rw[hx1,hmid,hd,he])|(show aA _ 196 _ _ _;refine CA (h:=Bu (by omega) ?_))|(show aA _ 195 _ _ _;refine CA (h:=vA (l:=q.1) (ck:=q.2) hco (by omega) ?_))|(show aA _ 197 _ _ _;refine CA (h:=kW (x:=x) (a:=a) (s:= { s with pk:=(jX id (rC id q.1 - fS ((⟨#[]⟩:ByteArray).size:Nat)) q).1,pc:=(jX id (rC id q.1 - fS ((⟨#[]⟩:ByteArray).size:Nat)) q).2 }) (M:=M) (mc:=mc) (T:=Nh a.l s.l (cE id s.l) bq) (by show s.mv.length≤1000000000;omega) (fun _ _=>?_)))|(show aA _ 120 _ _ _;refine CA (h:=lG (x:=x) (a:=a) (s:=tW ⟨1,id,0,⟨#[]⟩,true⟩ ({ s with pk:=(jX id (rC id q.1 - fS ((⟨#[]⟩:ByteArray).size:Nat)) q).1,pc:=(jX id (rC id q.1 - fS ((⟨#[]⟩:ByteArray).size:Nat)) q).2 })) (i:=cE id s.l) (m:=m) (m':=CR m (bE id s.ld)) hi vX hI2 hat (fun _ _=>?_))))
    all_goals(refine aC ?_;exact aB (hK _ _))
  ·have hN:D7 id m s=1:=by unfold D7;rw[if_neg hx2,if_neg (fun q=>hd q.1)]
   rw[hN] at hK hI2
   have hbq:=Ai2 hd
   refine aH Tryz.func97 ?_
   repeat' (first|(show cJ _ _ _;rw[hbq])|refine XG ?_|refine dw i7 ?_|refine dw iQ ?_|refine wr ?_|refine w5 ?_ ?_|((refine bh fun h=>?_) <;> try exact w6 h)|(refine aE fun hA=>?_;subst hA)|intro _|(show aA _ 191 _ _ _;refine CA (h:=uI (x:=x) (a:=a) (s:=s) (M:=M) (mc:=mc) hI hk (fun _ _=>?_)))|(show aA _ 190 _ _ _;refine CA (h:=wJ (s:=(s.pk,s.pc)) (l:=eP s) hln hI.pk ?_);rw[hV,h])|(show aA _ 192 _ _ _;refine CA (h:=gG (l:=s.l) hI.sm hm (fun bq=>?_)))|(show aA _ 184 _ _ _;refine CA (h:=uA (s:=s.ld) hld ?_))|(show aA _ 193 _ _ _;refine CA (h:=AM (m:=m) hr ?_);rw[hx1,hmid])|(show aA _ 196 _ _ _;refine CA (h:=Bu (by omega) ?_))|(show aA _ 195 _ _ _;refine CA (h:=vA (l:=q.1) (ck:=q.2) hco (by omega) ?_))|(show aA _ 197 _ _ _;refine CA (h:=kW (x:=x) (a:=a) (s:= { s with pk:=(jX id (rC id q.1 - fS ((iR m.x (bE id s.ld)).size:Nat)) q).1,pc:=(jX id (rC id q.1 - fS ((iR m.x (bE id s.ld)).size:Nat)) q).2 }) (M:=M) (mc:=mc) (T:=Nh a.l s.l (cE id s.l) bq) (by show s.mv.length≤1000000000;omega) (fun _ _=>?_)))|(show aA _ 120 _ _ _;refine CA (h:=lG (x:=x) (a:=a) (s:=tW ⟨1,id,1,(iR m.x (bE id s.ld)),(BI m.x (bE id s.ld))⟩ ({ s with pk:=(jX id (rC id q.1 - fS ((iR m.x (bE id s.ld)).size:Nat)) q).1,pc:=(jX id (rC id q.1 - fS ((iR m.x (bE id s.ld)).size:Nat)) q).2 })) (i:=cE id s.l) (m:=m) (m':=CR m (bE id s.ld)) hi vX hI2 hat (fun _ _=>?_))))
   all_goals(refine aC ?_;exact aB (hK _ _))
end
end Go.Proofs.YtifgibijcmppmaaGreat
