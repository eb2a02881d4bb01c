/- A part of the proof: lemmas; each with the conditions that it states. -/
import Derived.Test.YtifgibijcmppmaaGreatNbe
set_option linter.unusedVariables false
set_option linter.unusedSimpArgs false
namespace Go.Proofs.YtifgibijcmppmaaGreat
open Go Go.Proofs Go.Sl
set_option maxRecDepth 100000
set_option maxHeartbeats 40000000
attribute [local irreducible] aN fB cJ bO aM aY aA dM dQ aW dK pt ro fF star sep bI
attribute [local irreducible] mp El
section
variable {R C:List HP} {K:Value→List HP→Prop} {x mc i b p r:Nat} {a:Ca} {s:Cn} {M:Option Addr} {B B' id code:Int} {own:Bool} {m m':Sm} {f:Fm} {y:Ys} {l:List Sm} {cf:Cf} {h3:eJ} {z:Yp}
def In3 (t:eJ):Prop:=y8 t.w∧y8 t.st∧y8 t.it
theorem Mj:∀ {ps:List Pr} {t u:eJ},In3 t→XK t ps=some u→In3 u
 | [],t,u,h,e=>by cases e;exact h
 |p::ps,t,u,h,e=>by
  unfold XK at e
  split at e
  ·rename_i hp
   refine Mj (t:=R7 t p) ?_ e
   obtain⟨h1,h2,h3⟩:=h
   unfold R7
   split
   ·exact⟨hp,h2,h3⟩
   ·split
    ·exact⟨h1,hp,h3⟩
    ·split
     ·exact⟨h1,h2,hp⟩
     ·exact⟨h1,h2,h3⟩
  ·cases e
theorem Z2 {n:Int} (h:y8 n):mM n=true:=by
 unfold y8 at h
 unfold mM
 simp only[Bool.and_eq_true,decide_eq_true_eq]
 exact h
theorem Mg (h:bU B s) {t:eJ} (ht:In3 t) {q:Ld} (hq:FY B q):bU B { s with ld:=q,pe:=t }:=
 { h with ld:=hq,pe:=ht }
theorem Yu (h:bU B s):bU B (yE f s):=by
 unfold yE
 cases hp:XK s.pe f.ps with
 |none=>exact i0 h
 |some t=>
  dsimp only
  split
  ·exact i0 h
  ·exact GG (Mg h (Mj h.pe hp) (M5 h.ld))
def oI:Tr:=(.br (.st 0 1 (.st 1 1 (.st 2 1 (.st 3 1 (.st 4 1 (.st 5 1 (.st 6 2 (.st 10 2 (.st 7 1 (.st 8 1 (.st 11 1 (.st 9 2 (.st 12 0 .nil))))))))))))) (.st 10 2 (.st 0 1 (.st 1 1 (.st 2 1 (.st 3 1 (.st 4 1 (.st 5 1 (.st 6 2 (.st 7 1 (.st 8 1 (.st 11 1 (.st 9 2 (.st 12 0 .nil))))))))))))))
def oS:List (Nat×Nat):= [(0,0),(1,0),(2,0),(3,0),(4,0),(5,0),(6,0),(7,0),(8,0),(9,0),(10,0),(11,1),(12,0),(13,0)]
theorem V5 {t st:Int} {e:Bool} {d:ByteArray} {k on w:Int} {xx:Bool} {c la n:Int} {pa:Option Addr} {pn pc:Nat} {ps:List Pr} (hI:bU B s) (hv:cZ R pa nV ps) (hn:ps.length=pn) (hn2:pn≤1000000) (hK:∀M mc,K (.tuple #[]) (b7 x a (yE ⟨t,st,e,d,k,on,w,xx,c,la,n,pa,pn,pc,ps⟩ s) M mc R)):aA Tryz.prog 162 #[.pointer (some ⟨x,0,none⟩),.agg #[.int .i64 t,.int .i64 st,.bool e,.string d,.int .i64 k,.int .i64 on,.int .i64 w,.bool xx,.int .i64 c,.int .i64 la,.int .i64 n,.slice pa pn pc]] (b7 x a s M mc R) K:=by
 have hbb:=hI.bb
 unfold yE at hK
 dsimp only at hK
 dsimp only[b7,mV]
 cases hp:XK s.pe ps with
 |none=>
  rw[hp] at hK
  refine aH Tryz.func162 ?_
  repeat' (first|refine XO ?_|refine Hi oI ?_|refine dw oS ?_|refine wr ?_|refine w5 ?_ ?_|((refine bh fun h=>?_) <;> try exact w6 h)|(refine aE fun hA=>?_;subst hA)|intro _|(show aA _ 247 _ _ _;refine CA (h:=Fp (s:=s.pe) (ps:=ps) (by exact kR) hn hn2 ?_);rw[hp];dsimp only[paV])|(show aA _ 79 _ _ _;refine CA (h:=dN (x:=x) (a:=a) (s:=s) hI (by decide) (by decide) (fun _ _=>?_))))
  all_goals(refine aC ?_;exact aB (hK _ _))
 |some u=>
  rw[hp] at hK
  dsimp only at hK
  have hu:=Mj hI.pe hp
  have hab:mM s.pe.w=true∧mM u.w=true:=⟨Z2 hI.pe.1,Z2 hu.1⟩
  by_cases hg:E2 s.pe.w u.w s.ld=0
  ·rw[if_neg (fun q=>q hg)] at hK
   refine aH Tryz.func162 ?_
   repeat' (first|refine XO ?_|refine Hi oI ?_|refine dw oS ?_|refine wr ?_|refine w5 ?_ ?_|((refine bh fun h=>?_) <;> try exact w6 h)|(refine aE fun hA=>?_;subst hA)|intro _|(show aA _ 247 _ _ _;refine CA (h:=Fp (s:=s.pe) (ps:=ps) (by exact kR) hn hn2 ?_);rw[hp];dsimp only[paV])|(show aA _ 248 _ _ _;refine CA (h:=P9 (s:=s.ld) (hI.ld.ok (by omega)) hab ?_);rw[hg])|(show aA _ 164 _ _ _;refine CA (h:=BA (x:=x) (a:=a) (s:= { s with ld:=tH s.pe.w u.w s.ld,pe:=u }) (f:=fr0 6 0) (Mg hI hu (M5 hI.ld)) rfl rfl rfl (fun _ _=>?_))))
   all_goals(refine aC ?_;exact aB (hK _ _))
  ·rw[if_pos hg] at hK
   have hs:tH s.pe.w u.w s.ld=s.ld:=by unfold tH;rw[if_pos hg]
   refine aH Tryz.func162 ?_
   repeat' (first|(show Br _ _ _;refine Br.t (by first|(simp <;> done)|simpa using hg) ?_)|refine XO ?_|refine Hi oI ?_|refine dw oS ?_|refine wr ?_|refine w5 ?_ ?_|((refine bh fun h=>?_) <;> try exact w6 h)|(refine aE fun hA=>?_;subst hA)|intro _|(show aA _ 247 _ _ _;refine CA (h:=Fp (s:=s.pe) (ps:=ps) (by exact kR) hn hn2 ?_);rw[hp];dsimp only[paV])|(show aA _ 248 _ _ _;refine CA (h:=P9 (s:=s.ld) (hI.ld.ok (by omega)) hab ?_);rw[hs])|(show aA _ 79 _ _ _;refine CA (h:=dN (x:=x) (a:=a) (s:=s) hI (by decide) (by decide) (fun _ _=>?_))))
   all_goals(refine aC ?_;exact aB (hK _ _))
theorem U0 {l l':List Sm} (h:F4 l) (e:l'.map Sm.id=l.map Sm.id):F4 l':=by
 obtain⟨h1,h2⟩:=h
 have hl:=congrArg List.length e
 rw[List.length_map,List.length_map] at hl
 refine⟨by omega,?_⟩
 have h3:(l.map Sm.id).Pairwise (·<·):=List.pairwise_map.2 h2
 rw[← e] at h3
 exact List.pairwise_map.1 h3
def Rp (t:eJ) (m:Sm):Sm:= { m with y:=Do m.y t }
theorem O2 {g:Sm→Sm} {j:Nat} (hm:l[j]?=some m):((l.take j).map g++l.drop j).set j (g m)=(l.take (j+1)).map g++l.drop (j+1):=by
 have hj:=(List.getElem?_eq_some_iff.1 hm).1
 have hlen:((l.take j).map g).length=j:=by rw[List.length_map,List.length_take];omega
 have hd:l.drop j=m::l.drop (j+1):=by rw[List.drop_eq_getElem_cons hj,(List.getElem?_eq_some_iff.1 hm).2]
 rw[List.set_append_right _ _ (by omega),hlen,Nat.sub_self,hd,List.set_cons_zero,List.take_add_one,hm]
 simp
theorem UC {g:Sm→Sm} {j:Nat} (hm:l[j]?=some m):((l.take j).map g++l.drop j)[j]?=some m:=by
 have hj:=(List.getElem?_eq_some_iff.1 hm).1
 have hlen:((l.take j).map g).length=j:=by rw[List.length_map,List.length_take];omega
 rw[List.getElem?_append_right (by omega),hlen,Nat.sub_self,List.getElem?_drop]
 simpa using hm
theorem PI {g:Sm→Sm} {j:Nat} (hg:∀m,(g m).id=m.id):((l.take j).map g++l.drop j).map Sm.id=l.map Sm.id:=by
 rw[List.map_append,List.map_map]
 have e:(Sm.id ∘ g)=Sm.id:=funext hg
 rw[e,← List.map_append,List.take_append_drop]
theorem X2 {t:eJ}:jI (Do y t)=jI y:=by cases y <;> rfl
theorem XA (h:bU B s):bU B (tJ s):=by
 unfold tJ
 split
 ·exact i0 h
 ·have hsh:=h.sh
  have hsh2:(dG s.sh).l.length≤4∧wD (dG s.sh).h∧wD (dG s.sh).g∧∀t∈(dG s.sh).l,wD t:=by
   unfold dG
   cases hl:s.sh.l with
   |nil=>dsimp only;rw[hl] at hsh;rw[hl];exact hsh
   |cons t r=>
    rw[hl] at hsh
    obtain⟨h1,h2,h3,h4⟩:=hsh
    rw[List.length_cons] at h1
    exact⟨by dsimp only;omega,h4 t (List.mem_cons_self ..),h3,fun z hz=>h4 z (List.mem_cons_of_mem _ hz)⟩
  exact { h with
   sh:=hsh2
   sm:=UE h.sm fun m=>rfl
   st:=fun q hq=>by
    obtain⟨m,hm,rfl⟩:=List.mem_map.1 hq
    obtain⟨h1,h2,h3,h4⟩:=h.st m hm
    refine⟨h1,h2,?_,?_⟩
    ·cases hy:m.y <;> (rw[hy] at h3;exact h3)
    ·cases hy:m.y <;> (rw[hy] at h4;exact h4)
   ids:=fun q hq=>by
    obtain⟨m,hm,rfl⟩:=List.mem_map.1 hq
    exact h.ids m hm
   own:=fun b=>by
    have:=h.own b
    unfold fG at this
    show((s.l.map fun m=>({ m with y:=Do m.y (dG s.sh).h }:Sm)).filter fun m=>m.own == b).length≤32
    rw[nP,List.map_map]
    rw[nP] at this
    exact this
   mv:=by
    have:=h.mv
    show(s.mv.length:Int)+((s.l.map _).length:Int)≤B
    rw[List.length_map];exact this }
def j0:List (Nat×Nat):= [(0,0),(1,1),(2,1),(3,1)]
theorem RD (hI:bU B s) (hK:∀M mc,K (.tuple #[]) (b7 x a (tJ s) M mc R)):aA Tryz.prog 163 #[.pointer (some ⟨x,0,none⟩)] (b7 x a s M mc R) K:=by
 have h64:=hI.sm.1
 unfold tJ at hK
 dsimp only[b7,mV]
 by_cases hl:s.sh.l= []
 ·have hE:Am s.sh=1:=by unfold Am;rw[if_pos hl]
  have hA:dG s.sh=s.sh:=by unfold dG;rw[hl]
  rw[hE,if_pos (by decide)] at hK
  refine aH Tryz.func163 ?_
  repeat' (first|refine Mn ?_|refine dw j0 ?_|refine wr ?_|refine w5 ?_ ?_|((refine bh fun h=>?_) <;> try exact w6 h)|(refine aE fun hA=>?_;subst hA)|intro _|(show aA _ 249 _ _ _;refine CA (h:=Nv (s:=s.sh) ?_);rw[hE,hA])|(show aA _ 79 _ _ _;refine CA (h:=dN (x:=x) (a:=a) (s:=s) hI (by decide) (by decide) (fun _ _=>?_))))
  all_goals(refine aC ?_;exact aB (hK _ _))
 ·have hE:Am s.sh=0:=by unfold Am;rw[if_neg hl]
  rw[hE,if_neg (by decide)] at hK
  have hch:wD (dG s.sh).h:=by
   have:=hI.sh
   unfold dG
   cases hq:s.sh.l with
   |nil=>exact absurd hq hl
   |cons t r=>rw[hq] at this;exact this.2.2.2 t (List.mem_cons_self ..)
  refine aH Tryz.func163 ?_
  repeat' (first|refine Mn ?_|refine dw j0 ?_|refine wr ?_|refine w5 ?_ ?_|((refine bh fun h=>?_) <;> try exact w6 h)|(refine aE fun hA=>?_;subst hA)|intro _|(show aA _ 249 _ _ _;refine CA (h:=Nv (s:=s.sh) ?_);rw[hE];simp only[if_neg hl])|(show aA _ 83 _ _ _;refine CA (h:=x4 (l:=s.l) ?_)))
  rename_i r2 r3
  refine iF (fun n a' C'=>∃j:Nat,j+n=s.l.length∧cN a' [(0,.pointer (some ⟨x,0,none⟩)),(3,.pointer (some ⟨r3,0,none⟩)),(27,.int .i64 s.l.length),(28,.int .i64 j)]∧C'=pt r3 [.int .i64 (dG s.sh).h.w,.int .i64 (dG s.sh).h.st,.int .i64 (dG s.sh).h.it] 23::b7 x a { s with sh:=dG s.sh,l:=(s.l.take j).map (Rp (dG s.sh).h)++s.l.drop j } M mc R) s.l.length (b9 s.l.length ⟨0,by omega,⟨rfl,rfl,rfl,rfl,trivial⟩,rfl⟩ (by omega)) ?_
  rintro n a' C' ⟨j,hj,ha,rfl⟩
  refine gF _ ha ?_
  simp only[eQ]
  by_cases hlt:j<s.l.length
  ·obtain⟨m,hm⟩:∃m,s.l[j]?=some m:=⟨_,List.getElem?_eq_getElem hlt⟩
   have hat:=UC (g:=Rp (dG s.sh).h) hm
   have hset:=O2 (g:=Rp (dG s.sh).h) hm
   have hS:=U0 hI.sm (PI (g:=Rp (dG s.sh).h) (l:=s.l) (j:=j) fun _=>rfl)
   repeat' (first|refine Mn ?_|refine dw j0 ?_|refine wr ?_|refine w5 ?_ ?_|((refine bh fun h=>?_) <;> try exact w6 h)|(refine aE fun hA=>?_;subst hA)|intro _|(show aA _ 85 _ _ _;refine CA (h:=EA hS hat (fun _=>?_)))|(show aA _ 89 _ _ _;refine CA (h:=nM (m:=m) (fun _=>?_)))|(show aA _ 250 _ _ _;refine CA (h:=Agf (y:=m.y) (s:=(dG s.sh).h) hch ?_)))
   all_goals(show aW _ _ _ _;exact pJ (m:=n - 1) (by omega) (aG.trans (by exact bA) (aG.trans (aG.cons (A:=pt r3 [.int .i64 (dG s.sh).h.w,.int .i64 (dG s.sh).h.st,.int .i64 (dG s.sh).h.it] 23) (k8 (m:=m) (y:=Do m.y (dG s.sh).h) X2)) (aG.cons (A:=pt r3 [.int .i64 (dG s.sh).h.w,.int .i64 (dG s.sh).h.st,.int .i64 (dG s.sh).h.it] 23) (mO (x:=x) (a:=a) (s:= { s with sh:=dG s.sh,l:=(s.l.take j).map (Rp (dG s.sh).h)++s.l.drop j }) (M:=M) (mc:=mc) (R:=R) (m':=Rp (dG s.sh).h m) hat rfl)))) ⟨j+1,by omega,⟨rfl,rfl,rfl,rfl,trivial⟩,congrArg (fun q=>pt r3 [.int .i64 (dG s.sh).h.w,.int .i64 (dG s.sh).h.st,.int .i64 (dG s.sh).h.it] 23::b7 x a { s with sh:=dG s.sh,l:=q } M mc R) hset⟩)
  ·have hj0:j=s.l.length:=by omega
   subst hj0
   have e:(s.l.take s.l.length).map (Rp (dG s.sh).h)++s.l.drop s.l.length=s.l.map fun m=>({ m with y:=Do m.y (dG s.sh).h }:Sm):=by
    rw[List.take_length,List.drop_length,List.append_nil];rfl
   rw[e]
   repeat' (first|refine Mn ?_|refine dw j0 ?_|refine wr ?_|refine w5 ?_ ?_|((refine bh fun h=>?_) <;> try exact w6 h)|(refine aE fun hA=>?_;subst hA)|intro _)
   all_goals(refine aC ?_;exact aB (hK _ _))
end
section
variable {R C:List HP} {K:Value→List HP→Prop} {x mc i b p r:Nat} {a:Ca} {s:Cn} {M:Option Addr} {B B' id code:Int} {own:Bool} {m m':Sm} {f:Fm} {y:Ys} {l acc:List Sm} {cf:Cf} {h3:eJ} {z:Yp}
theorem NS (h:∀q∈acc,q.id<m.id):cE m.id (acc++m::l)=acc.length:=by
 unfold cE
 induction acc with
 |nil=>rw[List.nil_append,List.takeWhile_cons];simp
 |cons q acc ih=>
  rw[List.cons_append,List.takeWhile_cons,if_pos (decide_eq_true (h q (List.mem_cons_self ..))),List.length_cons,List.length_cons,ih fun z hz=>h z (List.mem_cons_of_mem _ hz)]
theorem GL (h:∀q∈acc,q.id<m.id):cB m.id (acc++m::l)=some m:=by
 unfold cB
 rw[NS h,List.getElem?_append_right (Nat.le_refl _),Nat.sub_self]
 simp
theorem S5 (h:F4 (acc++m::l)):∀q∈acc,q.id<m.id:=fun q hq=>
 (List.pairwise_append.1 h.2).2.2 q hq m (List.mem_cons_self ..)
theorem Ew (h:∀q∈acc,q.id<m.id):(acc++m::l).eraseIdx (cE m.id (acc++m::l))=acc++l:=by
 rw[NS h,List.eraseIdx_append_of_length_le (Nat.le_refl _),Nat.sub_self];rfl
theorem JC {ids:List Int} (hm:cB id s.l=some m):oH (id::ids) s=oH ids (if m.own=true∧J9 s.dr id=true then s6 m 7 s else s):=by
 show oH ids (match cB id s.l with
  |some m=>_
  |none=>s)=_
 rw[hm]
theorem Fi (h:bU B s) {d:Dr}:bU B { s with dr:=d }:= { h with }
theorem H5:∀ {l acc:List Sm} {s:Cn},s.l=acc++l→bU B s→bU B (oH (l.map Sm.id) s)
 | [],acc,s,he,h=>h
 |m::l,acc,s,he,h=>by
  have hlt:=S5 (by rw[← he];exact h.sm)
  have hm:cB m.id s.l=some m:=by rw[he];exact GL hlt
  rw[List.map_cons,JC hm]
  split
  ·refine H5 (l:=l) (acc:=acc) ?_ (sE h hm)
   show s.l.eraseIdx (cE m.id s.l)=acc++l
   rw[he];exact Ew hlt
  ·exact H5 (l:=l) (acc:=acc++ [m]) (by rw[he];simp) h
theorem Acp (h:bU B s):bU B (yJ f s):=by
 unfold yJ
 split
 ·exact Ka (Fi h)
 ·exact H5 (acc:= []) rfl (Fi h)
def gU:List (Nat×Nat):= [(0,0),(1,0),(2,0),(3,0),(4,0),(5,0),(6,0),(7,0),(8,1)]
theorem VS {t st:Int} {e:Bool} {d:ByteArray} {k on w:Int} {xx:Bool} {c la n:Int} {pa:Option Addr} {pn pc:Nat} {ps:List Pr} (hI:bU B s) (hK:∀M mc,K (.tuple #[]) (b7 x a (yJ ⟨t,st,e,d,k,on,w,xx,c,la,n,pa,pn,pc,ps⟩ s) M mc R)):aA Tryz.prog 166 #[.pointer (some ⟨x,0,none⟩),.agg #[.int .i64 t,.int .i64 st,.bool e,.string d,.int .i64 k,.int .i64 on,.int .i64 w,.bool xx,.int .i64 c,.int .i64 la,.int .i64 n,.slice pa pn pc]] (b7 x a s M mc R) K:=by
 have h64:=hI.sm.1
 have hlm:(s.l.map Sm.id).length=s.l.length:=List.length_map ..
 have hI1:=Fi (d:=p9 s.dr la c) hI
 unfold yJ at hK
 dsimp only at hK
 dsimp only[b7,mV]
 cases ho:(p9 s.dr la c).ov
 ·rw[ho,if_neg Bool.false_ne_true] at hK
  refine aH Tryz.func166 ?_
  repeat' (first|refine EL ?_|refine dw gU ?_|refine wr ?_|refine w5 ?_ ?_|((refine bh fun h=>?_) <;> try exact w6 h)|(refine aE fun hA=>?_;subst hA)|intro _|(show aA _ 252 _ _ _;refine CA (h:=T7 (d:=s.dr) ?_))|(show aA _ 78 _ _ _;refine CA (h:=kI (x:=x) (a:=a) (s:= { s with dr:=p9 s.dr la c }) (M:=M) (mc:=mc) ?_);rw[show({ s with dr:=p9 s.dr la c }:Cn).dr.ov=false from ho])|(show aA _ 91 _ _ _;refine CA (h:=MV (l:=s.l) hI.sm (fun Bq dq=>?_))))
  refine iF (fun n a' C'=>∃(j:Nat) (s':Cn) (acc:List Sm) (M':Option Addr) (mc':Nat),j+n=s.l.length∧s'.l=acc++s.l.drop j∧bU B s'∧oH ((s.l.drop j).map Sm.id) s'=oH (s.l.map Sm.id) { s with dr:=p9 s.dr la c }∧cN a' [(0,.pointer (some ⟨x,0,none⟩)),(25,.slice Bq (s.l.map Sm.id).length dq),(26,.int .i64 s.l.length),(27,.int .i64 j)]∧C'=bT Bq dq 3 kH (s.l.map Sm.id)::b7 x a s' M' mc' R) s.l.length (b9 s.l.length ⟨0,{ s with dr:=p9 s.dr la c },[],M,mc,by omega,rfl,hI1,rfl,⟨rfl,rfl,(by simp;rfl),rfl,trivial⟩,rfl⟩ (by omega)) ?_
  rintro n1 a' C' ⟨j,s',acc,M',mc',hj,hl,hI',hc,ha,rfl⟩
  refine gF _ ha ?_
  simp only[eQ]
  by_cases hlt:j<s.l.length
  ·obtain⟨m,hm,hd⟩:=jP (l:=s.l) (j:=j) hlt
   rw[hd] at hl hc
   have hml:=S5 (by rw[← hl];exact hI'.sm)
   have hat:cB m.id s'.l=some m:=by rw[hl];exact GL hml
   obtain⟨hi,_⟩:=aU hat
   have hv:(s.l.map Sm.id)[((j:Nat):Int).toNat]?=some m.id:=by rw[Int.toNat_natCast,List.getElem?_map,hm];rfl
   have hc2:oH ((s.l.drop (j+1)).map Sm.id) (if m.own=true∧J9 s'.dr m.id=true then s6 m 7 s' else s')=oH (s.l.map Sm.id) { s with dr:=p9 s.dr la c }:=by
    rw[← hc]
    show _=oH _ (match cB m.id s'.l with
     |some m=>_
     |none=>s')
    rw[hat]
   cases how:m.own
   ·rw[how,if_neg (fun q=>Bool.false_ne_true q.1)] at hc2
    repeat' (first|refine EL ?_|refine dw gU ?_|refine wr ?_|refine w5 ?_ ?_|((refine bh fun h=>?_) <;> try exact w6 h)|(refine aE fun hA=>?_;subst hA)|intro _|(show aA _ 192 _ _ _;refine CA (h:=gG (l:=s'.l) hI'.sm hat (fun _=>?_)))|(show aA _ 178 _ _ _;refine CA (h:=zH (m:=m) ?_);rw[how]))
    all_goals(show aW _ _ _ _;exact pJ (m:=n1 - 1) (by omega) (aG.trans (by exact bA) (aG.cons (A:=bT _ dq 3 kH (s.l.map Sm.id)) (dD (x:=x) (a:=a) (s:=s') (M:=M') (mc:=mc') (R:=R) hi))) ⟨j+1,s',acc++ [m],M',mc',by omega,by rw[hl];simp,hI',hc2,⟨rfl,rfl,rfl,rfl,trivial⟩,rfl⟩)
   ·cases hrf:J9 s'.dr m.id
    ·rw[hrf,if_neg (fun q=>Bool.false_ne_true q.2)] at hc2
     repeat' (first|refine EL ?_|refine dw gU ?_|refine wr ?_|refine w5 ?_ ?_|((refine bh fun h=>?_) <;> try exact w6 h)|(refine aE fun hA=>?_;subst hA)|intro _|(show aA _ 192 _ _ _;refine CA (h:=gG (l:=s'.l) hI'.sm hat (fun _=>?_)))|(show aA _ 178 _ _ _;refine CA (h:=zH (m:=m) ?_);rw[how])|(show aA _ 253 _ _ _;refine CA (h:=Uc (d:=s'.dr) ?_);rw[hrf]))
     all_goals(show aW _ _ _ _;exact pJ (m:=n1 - 1) (by omega) (aG.trans (by exact bA) (aG.cons (A:=bT _ dq 3 kH (s.l.map Sm.id)) (dD (x:=x) (a:=a) (s:=s') (M:=M') (mc:=mc') (R:=R) hi))) ⟨j+1,s',acc++ [m],M',mc',by omega,by rw[hl];simp,hI',hc2,⟨rfl,rfl,rfl,rfl,trivial⟩,rfl⟩)
    ·rw[how,hrf,if_pos ⟨rfl,rfl⟩] at hc2
     repeat' (first|refine EL ?_|refine dw gU ?_|refine wr ?_|refine w5 ?_ ?_|((refine bh fun h=>?_) <;> try exact w6 h)|(refine aE fun hA=>?_;subst hA)|intro _|(show aA _ 192 _ _ _;refine CA (h:=gG (l:=s'.l) hI'.sm hat (fun _=>?_)))|(show aA _ 178 _ _ _;refine CA (h:=zH (m:=m) ?_);rw[how])|(show aA _ 253 _ _ _;refine CA (h:=Uc (d:=s'.dr) ?_);rw[hrf])|(show aA _ 254 _ _ _;refine CA (h:=Be (x:=x) (a:=a) (s:=s') (M:=M') (mc:=mc') (m:=m) hI' hat (.inr rfl) (fun _ _=>?_))))
     all_goals(show aW _ _ _ _;exact b9 (n1 - 1) ⟨j+1,s6 m 7 s',acc,_,_,by omega,(by show s'.l.eraseIdx (cE m.id s'.l)=_;rw[hl];exact Ew hml),sE hI' hat,hc2,⟨rfl,rfl,rfl,rfl,trivial⟩,rfl⟩)
  ·have hj0:j=s.l.length:=by omega
   subst hj0
   rw[List.drop_length] at hc hl
   have hc:s'=oH (s.l.map Sm.id) { s with dr:=p9 s.dr la c }:=hc
   subst hc
   repeat' (first|refine EL ?_|refine dw gU ?_|refine wr ?_|refine w5 ?_ ?_|((refine bh fun h=>?_) <;> try exact w6 h)|(refine aE fun hA=>?_;subst hA)|intro _)
   all_goals(refine aC ?_;exact aB (hK _ _))
 ·rw[ho,if_pos rfl] at hK
  refine aH Tryz.func166 ?_
  repeat' (first|refine EL ?_|refine dw gU ?_|refine wr ?_|refine w5 ?_ ?_|((refine bh fun h=>?_) <;> try exact w6 h)|(refine aE fun hA=>?_;subst hA)|intro _|(show aA _ 252 _ _ _;refine CA (h:=T7 (d:=s.dr) ?_))|(show aA _ 78 _ _ _;refine CA (h:=kI (x:=x) (a:=a) (s:= { s with dr:=p9 s.dr la c }) (M:=M) (mc:=mc) ?_);rw[show({ s with dr:=p9 s.dr la c }:Cn).dr.ov=true from ho])|(show aA _ 176 _ _ _;refine CA (h:=IS (x:=x) (a:=a) (s:= { s with dr:=p9 s.dr la c }) hI1 (fun _ _=>?_))))
  all_goals(refine aC ?_;exact aB (hK _ _))
theorem TJ {id on w:Int} {xx:Bool} (h:bU B s):bU B { s with tr:=kT id on w xx s.tr }:= { h with tr:=Afr h.tr }
theorem Vb (h:bU B s):bU B (kY f s):=by
 unfold kY
 split
 ·exact i0 h
 ·cases hm:cB f.st s.l with
  |none=>exact h
  |some m=>
   dsimp only
   split
   ·exact TJ h
   ·split
    ·exact sE h hm
    ·exact PK h hm
end
section
variable {R C:List HP} {K:Value→List HP→Prop} {x mc i b p r:Nat} {a:Ca} {s:Cn} {M:Option Addr} {B B' id code:Int} {own:Bool} {m m':Sm} {f:Fm} {y:Ys} {l acc:List Sm} {cf:Cf} {h3:eJ} {z:Yp}
def cL:List (Nat×Nat):= [(0,0),(1,0),(2,0),(3,0),(4,0),(5,0),(6,1),(7,0),(8,0),(9,0),(10,0),(11,0)]
def cK:List (Nat×Nat):= [(0,0),(1,0),(2,0),(3,0),(4,0),(5,0),(6,0),(7,0),(8,1)]
theorem Qq {st:Int} {e:Bool} {d:ByteArray} {k on w:Int} {xx:Bool} {c la n:Int} {pa:Option Addr} {pn pc:Nat} {ps:List Pr} (hI:bU B s) (hst:1≤st∧st≤2147483647) (hK:∀M mc,K (.tuple #[]) (b7 x a (kY ⟨3,st,e,d,k,on,w,xx,c,la,n,pa,pn,pc,ps⟩ s) M mc R)):aA Tryz.prog 171 #[.pointer (some ⟨x,0,none⟩),.agg #[.int .i64 3,.int .i64 st,.bool e,.string d,.int .i64 k,.int .i64 on,.int .i64 w,.bool xx,.int .i64 c,.int .i64 la,.int .i64 n,.slice pa pn pc]] (b7 x a s M mc R) K:=by
 have htl:=hI.tr.len
 obtain⟨rk,hrk⟩:=hI.tr.rk
 unfold kY at hK
 dsimp only at hK
 dsimp only[b7,mV]
 by_cases h0:on=st
 ·rw[if_pos ⟨rfl,h0⟩] at hK
  cases hm:cB st s.l with
  |none=>
   refine aH Tryz.func171 ?_
   repeat' (first|refine AK ?_|refine dw cL ?_|refine dw cK ?_|refine wr ?_|refine w5 ?_ ?_|((refine bh fun h=>?_) <;> try exact w6 h)|(refine aE fun hA=>?_;subst hA)|intro _|(show aA _ 192 _ _ _;refine CA (h:=nF (l:=s.l) hI.sm hm ?_))|(show aA _ 79 _ _ _;refine CA (h:=dN (x:=x) (a:=a) (s:=s) hI (by decide) (by decide) (fun _ _=>?_))))
   all_goals(refine aC ?_;exact aB (hK _ _))
  |some m=>
   obtain⟨hi,_⟩:=aU hm
   refine aH Tryz.func171 ?_
   repeat' (first|refine AK ?_|refine dw cL ?_|refine dw cK ?_|refine wr ?_|refine w5 ?_ ?_|((refine bh fun h=>?_) <;> try exact w6 h)|(refine aE fun hA=>?_;subst hA)|intro _|(show aA _ 192 _ _ _;refine CA (h:=gG (l:=s.l) hI.sm hm (fun _=>?_)))|(show aA _ 79 _ _ _;refine CA (h:=aA.ent (dD (x:=x) (a:=a) (s:=s) (M:=M) (mc:=mc) (R:=R) hi) (dN hI (by decide) (by decide) (fun _ _=>?_)))))
   all_goals(refine aC ?_;exact aB (hK _ _))
 ·rw[if_neg (fun q=>h0 q.2)] at hK
  cases hm:cB st s.l with
  |none=>
   rw[hm] at hK
   refine aH Tryz.func171 ?_
   repeat' (first|refine AK ?_|refine dw cL ?_|refine dw cK ?_|refine wr ?_|refine w5 ?_ ?_|((refine bh fun h=>?_) <;> try exact w6 h)|(refine aE fun hA=>?_;subst hA)|intro _|(show aA _ 192 _ _ _;refine CA (h:=nF (l:=s.l) hI.sm hm ?_)))
   all_goals(refine aC ?_;exact aB (hK _ _))
  |some m=>
   rw[hm] at hK
   dsimp only at hK
   obtain⟨hi,_⟩:=aU hm
   rw[if_pos rfl] at hK
   refine aH Tryz.func171 ?_
   repeat' (first|refine AK ?_|refine dw cL ?_|refine dw cK ?_|refine wr ?_|refine w5 ?_ ?_|((refine bh fun h=>?_) <;> try exact w6 h)|(refine aE fun hA=>?_;subst hA)|intro _|(show aA _ 192 _ _ _;refine CA (h:=gG (l:=s.l) hI.sm hm (fun _=>?_)))|(show aA _ 262 _ _ _;refine CA (h:=JM (s:=s.tr) hI.tr.kok (by omega) hrk ?_)))
   all_goals(refine aC ?_;exact aL (aG.trans (by exact bA) ((dD (x:=x) (a:=a) (s:= { s with tr:=kT st on w xx s.tr }) (M:=M) (mc:=mc) (R:=R) hi))) (hK _ _))
theorem Qb {st:Int} {e:Bool} {d:ByteArray} {k on w:Int} {xx:Bool} {c la n:Int} {pa:Option Addr} {pn pc:Nat} {ps:List Pr} (hI:bU B s) (hst:1≤st∧st≤2147483647) (hK:∀M mc,K (.tuple #[]) (b7 x a (kY ⟨4,st,e,d,k,on,w,xx,c,la,n,pa,pn,pc,ps⟩ s) M mc R)):aA Tryz.prog 171 #[.pointer (some ⟨x,0,none⟩),.agg #[.int .i64 4,.int .i64 st,.bool e,.string d,.int .i64 k,.int .i64 on,.int .i64 w,.bool xx,.int .i64 c,.int .i64 la,.int .i64 n,.slice pa pn pc]] (b7 x a s M mc R) K:=by
 have htl:=hI.tr.len
 obtain⟨rk,hrk⟩:=hI.tr.rk
 unfold kY at hK
 dsimp only at hK
 dsimp only[b7,mV]
 rw[if_neg (fun q:(4:Int)=3∧_=>absurd q.1 (by decide))] at hK
 cases hm:cB st s.l with
 |none=>
  rw[hm] at hK
  refine aH Tryz.func171 ?_
  repeat' (first|refine AK ?_|refine dw cL ?_|refine dw cK ?_|refine wr ?_|refine w5 ?_ ?_|((refine bh fun h=>?_) <;> try exact w6 h)|(refine aE fun hA=>?_;subst hA)|intro _|(show aA _ 192 _ _ _;refine CA (h:=nF (l:=s.l) hI.sm hm ?_)))
  all_goals(refine aC ?_;exact aB (hK _ _))
 |some m=>
  rw[hm] at hK
  dsimp only at hK
  obtain⟨hi,_⟩:=aU hm
  rw[if_neg (by decide),if_pos rfl] at hK
  refine aH Tryz.func171 ?_
  repeat' (first|refine AK ?_|refine dw cL ?_|refine dw cK ?_|refine wr ?_|refine w5 ?_ ?_|((refine bh fun h=>?_) <;> try exact w6 h)|(refine aE fun hA=>?_;subst hA)|intro _|(show aA _ 192 _ _ _;refine CA (h:=gG (l:=s.l) hI.sm hm (fun _=>?_)))|(show aA _ 254 _ _ _;refine CA (h:=Be (x:=x) (a:=a) (s:=s) (M:=M) (mc:=mc) (m:=m) hI hm (.inr rfl) (fun _ _=>?_))))
  all_goals(refine aC ?_;exact aB (hK _ _))
theorem MR {st:Int} {e:Bool} {d:ByteArray} {k on w:Int} {xx:Bool} {c la n:Int} {pa:Option Addr} {pn pc:Nat} {ps:List Pr} (hI:bU B s) (hst:1≤st∧st≤2147483647) (hK:∀M mc,K (.tuple #[]) (b7 x a (kY ⟨10,st,e,d,k,on,w,xx,c,la,n,pa,pn,pc,ps⟩ s) M mc R)):aA Tryz.prog 171 #[.pointer (some ⟨x,0,none⟩),.agg #[.int .i64 10,.int .i64 st,.bool e,.string d,.int .i64 k,.int .i64 on,.int .i64 w,.bool xx,.int .i64 c,.int .i64 la,.int .i64 n,.slice pa pn pc]] (b7 x a s M mc R) K:=by
 have htl:=hI.tr.len
 obtain⟨rk,hrk⟩:=hI.tr.rk
 unfold kY at hK
 dsimp only at hK
 dsimp only[b7,mV]
 rw[if_neg (fun q:(10:Int)=3∧_=>absurd q.1 (by decide))] at hK
 cases hm:cB st s.l with
 |none=>
  rw[hm] at hK
  refine aH Tryz.func171 ?_
  repeat' (first|refine AK ?_|refine dw cL ?_|refine dw cK ?_|refine wr ?_|refine w5 ?_ ?_|((refine bh fun h=>?_) <;> try exact w6 h)|(refine aE fun hA=>?_;subst hA)|intro _|(show aA _ 192 _ _ _;refine CA (h:=nF (l:=s.l) hI.sm hm ?_)))
  all_goals(refine aC ?_;exact aB (hK _ _))
 |some m=>
  rw[hm] at hK
  dsimp only at hK
  obtain⟨hi,_⟩:=aU hm
  rw[if_neg (by decide),if_neg (by decide)] at hK
  refine aH Tryz.func171 ?_
  repeat' (first|refine AK ?_|refine dw cL ?_|refine dw cK ?_|refine wr ?_|refine w5 ?_ ?_|((refine bh fun h=>?_) <;> try exact w6 h)|(refine aE fun hA=>?_;subst hA)|intro _|(show aA _ 192 _ _ _;refine CA (h:=gG (l:=s.l) hI.sm hm (fun _=>?_)))|(show aA _ 263 _ _ _;refine CA (h:=D4 (x:=x) (a:=a) (s:=s) (M:=M) (mc:=mc) (m:=m) (t:=10) (ps:=ps) hI (by decide) hst hm (fun _ _=>?_))))
  all_goals(refine aC ?_;exact aB (hK _ _))
theorem M7 {st:Int} {e:Bool} {d:ByteArray} {k on w:Int} {xx:Bool} {c la n:Int} {pa:Option Addr} {pn pc:Nat} {ps:List Pr} (hI:bU B s) (hst:1≤st∧st≤2147483647) (hK:∀M mc,K (.tuple #[]) (b7 x a (kY ⟨11,st,e,d,k,on,w,xx,c,la,n,pa,pn,pc,ps⟩ s) M mc R)):aA Tryz.prog 171 #[.pointer (some ⟨x,0,none⟩),.agg #[.int .i64 11,.int .i64 st,.bool e,.string d,.int .i64 k,.int .i64 on,.int .i64 w,.bool xx,.int .i64 c,.int .i64 la,.int .i64 n,.slice pa pn pc]] (b7 x a s M mc R) K:=by
 have htl:=hI.tr.len
 obtain⟨rk,hrk⟩:=hI.tr.rk
 unfold kY at hK
 dsimp only at hK
 dsimp only[b7,mV]
 rw[if_neg (fun q:(11:Int)=3∧_=>absurd q.1 (by decide))] at hK
 cases hm:cB st s.l with
 |none=>
  rw[hm] at hK
  refine aH Tryz.func171 ?_
  repeat' (first|refine AK ?_|refine dw cL ?_|refine dw cK ?_|refine wr ?_|refine w5 ?_ ?_|((refine bh fun h=>?_) <;> try exact w6 h)|(refine aE fun hA=>?_;subst hA)|intro _|(show aA _ 192 _ _ _;refine CA (h:=nF (l:=s.l) hI.sm hm ?_)))
  all_goals(refine aC ?_;exact aB (hK _ _))
 |some m=>
  rw[hm] at hK
  dsimp only at hK
  obtain⟨hi,_⟩:=aU hm
  rw[if_neg (by decide),if_neg (by decide)] at hK
  refine aH Tryz.func171 ?_
  repeat' (first|refine AK ?_|refine dw cL ?_|refine dw cK ?_|refine wr ?_|refine w5 ?_ ?_|((refine bh fun h=>?_) <;> try exact w6 h)|(refine aE fun hA=>?_;subst hA)|intro _|(show aA _ 192 _ _ _;refine CA (h:=gG (l:=s.l) hI.sm hm (fun _=>?_)))|(show aA _ 263 _ _ _;refine CA (h:=D4 (x:=x) (a:=a) (s:=s) (M:=M) (mc:=mc) (m:=m) (t:=11) (ps:=ps) hI (by decide) hst hm (fun _ _=>?_))))
  all_goals(refine aC ?_;exact aB (hK _ _))
theorem iI (h:bU B s):bU B { s with bt:=bQ s.bt s.now }:=
 { h with
   bt:=by
    have h1:=h.bt
    have h2:=h.now
    show(0≤(bQ s.bt s.now).no∧(bQ s.bt s.now).no≤B)∧(0≤(bQ s.bt s.now).he∧(bQ s.bt s.now).he≤B)∧(0≤(bQ s.bt s.now).si∧(bQ s.bt s.now).si≤B)∧0≤(bQ s.bt s.now).nn∧(bQ s.bt s.now).nn≤B
    unfold bQ
    dsimp only
    omega }
theorem Abr {d:ByteArray} (h:bU B s):bU B { s with bt:=lM s.bt s.now d }:=
 { h with
   bt:=by
    have h1:=h.bt
    have h2:=h.now
    show(0≤(lM s.bt s.now d).no∧(lM s.bt s.now d).no≤B)∧(0≤(lM s.bt s.now d).he∧(lM s.bt s.now d).he≤B)∧(0≤(lM s.bt s.now d).si∧(lM s.bt s.now d).si≤B)∧0≤(lM s.bt s.now d).nn∧(lM s.bt s.now d).nn≤B
    unfold lM
    split
    ·dsimp only;omega
    ·omega }
theorem Ahx (h:bU B s):Afc s.bt:=by
 have h1:=h.bt
 have h2:=h.bb
 unfold Afc
 omega
theorem jE (hK:K (.bool (!wC s id)) (b7 x a s M mc R)):aA Tryz.prog 169 #[.pointer (some ⟨x,0,none⟩),.int .i64 id] (b7 x a s M mc R) K:=by
 dsimp only[b7,mV] at hK ⊢
 refine aH Tryz.func169 ?_
 repeat' (first|refine I7 ?_|refine wr ?_|refine w5 ?_ ?_|((refine bh fun h=>?_) <;> try exact w6 h)|(refine aE fun hA=>?_;subst hA)|intro _|(show aA _ 218 _ _ _;refine CA (h:=Cs (sd:=s.sd) (nx:=s.nx) (la:=s.la) ?_)))
 all_goals(refine aC ?_;exact aB (hK))
theorem Cg (h:bU B s) (hB:B+300≤250000000) (hr:dB f):bU (B+300) (bS f s):=by
 have hh:=iI h
 have hm:=hh.mono (B':=B+300) (by omega) hB
 unfold bS f7
 split
 ·exact Yu hm
 ·split
  ·exact XA hm
  ·split
   ·exact GG hm
   ·split
    ·exact Abr hm
    ·split
     ·exact Acp hm
     ·split
      ·exact QD hh hB
      ·split
       ·exact VH hm
       ·split
        ·exact i0 hm
        ·split
         ·rename_i ht
          exact Zq hh hB (hr.2.2.2.2.2.2.2.2.2.2.2.2.1 (by omega))
         ·exact Vb hm
end
section
variable {R C:List HP} {K:Value→List HP→Prop} {x mc i b p r:Nat} {a:Ca} {s:Cn} {M:Option Addr} {B B' id code:Int} {own:Bool} {m m':Sm} {f:Fm} {y:Ys} {l acc:List Sm} {cf:Cf} {h3:eJ} {z:Yp}
def fM:List (Nat×Nat):= [(0,0),(1,0),(2,0),(3,0),(4,0),(5,0),(6,0),(7,0),(8,1)]
def fD:List (Nat×Nat):= [(0,0),(1,0),(2,0),(3,0),(4,0),(5,0),(6,0),(7,0),(8,0),(9,0),(10,1)]
theorem Lh {st:Int} {e:Bool} {d:ByteArray} {k on w:Int} {xx:Bool} {c la n:Int} {pa:Option Addr} {pn pc:Nat} {ps:List Pr} (hI:bU B s) (hB:B+300≤249000000) (hr:dB ⟨5,st,e,d,k,on,w,xx,c,la,n,pa,pn,pc,ps⟩) (hv:cZ R pa nV ps) (hn:ps.length=pn) (hK:∀M mc,K (.tuple #[]) (b7 x a (bS ⟨5,st,e,d,k,on,w,xx,c,la,n,pa,pn,pc,ps⟩ s) M mc R)):aA Tryz.prog 77 #[.pointer (some ⟨x,0,none⟩),.agg #[.int .i64 5,.int .i64 st,.bool e,.string d,.int .i64 k,.int .i64 on,.int .i64 w,.bool xx,.int .i64 c,.int .i64 la,.int .i64 n,.slice pa pn pc]] (b7 x a s M mc R) K:=by
 have hI1:=iI hI
 obtain⟨r1,r2,r3,r4,r5,r6,r7,r8,r9,r10,r11,r12,r13,r14,r15,r16,r17,r18,r19,r20,r21⟩:=hr
 dsimp only at r1 r2 r3 r4 r13 r15 r21
 have hps:pn≤1000000:=by omega
 unfold bS f7 at hK
 dsimp only at hK
 rw[if_pos rfl] at hK
 dsimp only[b7,mV]
 refine aH Tryz.func77 ?_
 repeat' (first|refine zB ?_|refine dw fM ?_|refine dw fD ?_|refine wr ?_|refine w5 ?_ ?_|((refine bh fun h=>?_) <;> try exact w6 h)|(refine aE fun hA=>?_;subst hA)|intro _|(show aA _ 161 _ _ _;refine CA (h:=dI (b:=s.bt) (now:=s.now) ?_))|(show aA _ 162 _ _ _;refine CA (h:=V5 (x:=x) (a:=a) (s:= { s with bt:=bQ s.bt s.now }) (R:=R) (ps:=ps) hI1 hv hn hps (fun _ _=>?_))))
 all_goals(refine aC ?_;exact aB (hK _ _))
theorem Mr {st:Int} {e:Bool} {d:ByteArray} {k on w:Int} {xx:Bool} {c la n:Int} {pa:Option Addr} {pn pc:Nat} {ps:List Pr} (hI:bU B s) (hB:B+300≤249000000) (hr:dB ⟨6,st,e,d,k,on,w,xx,c,la,n,pa,pn,pc,ps⟩) (hv:cZ R pa nV ps) (hn:ps.length=pn) (hK:∀M mc,K (.tuple #[]) (b7 x a (bS ⟨6,st,e,d,k,on,w,xx,c,la,n,pa,pn,pc,ps⟩ s) M mc R)):aA Tryz.prog 77 #[.pointer (some ⟨x,0,none⟩),.agg #[.int .i64 6,.int .i64 st,.bool e,.string d,.int .i64 k,.int .i64 on,.int .i64 w,.bool xx,.int .i64 c,.int .i64 la,.int .i64 n,.slice pa pn pc]] (b7 x a s M mc R) K:=by
 have hI1:=iI hI
 obtain⟨r1,r2,r3,r4,r5,r6,r7,r8,r9,r10,r11,r12,r13,r14,r15,r16,r17,r18,r19,r20,r21⟩:=hr
 dsimp only at r1 r2 r3 r4 r13 r15 r21
 have hps:pn≤1000000:=by omega
 unfold bS f7 at hK
 dsimp only at hK
 rw[if_neg (show ¬(6:Int)=5 by decide),if_pos rfl] at hK
 dsimp only[b7,mV]
 refine aH Tryz.func77 ?_
 repeat' (first|refine zB ?_|refine dw fM ?_|refine dw fD ?_|refine wr ?_|refine w5 ?_ ?_|((refine bh fun h=>?_) <;> try exact w6 h)|(refine aE fun hA=>?_;subst hA)|intro _|(show aA _ 161 _ _ _;refine CA (h:=dI (b:=s.bt) (now:=s.now) ?_))|(show aA _ 163 _ _ _;refine CA (h:=RD (x:=x) (a:=a) (s:= { s with bt:=bQ s.bt s.now }) hI1 (fun _ _=>?_))))
 all_goals(refine aC ?_;exact aB (hK _ _))
theorem L9 {st:Int} {e:Bool} {d:ByteArray} {k on w:Int} {xx:Bool} {c la n:Int} {pa:Option Addr} {pn pc:Nat} {ps:List Pr} (hI:bU B s) (hB:B+300≤249000000) (hr:dB ⟨7,st,e,d,k,on,w,xx,c,la,n,pa,pn,pc,ps⟩) (hv:cZ R pa nV ps) (hn:ps.length=pn) (hK:∀M mc,K (.tuple #[]) (b7 x a (bS ⟨7,st,e,d,k,on,w,xx,c,la,n,pa,pn,pc,ps⟩ s) M mc R)):aA Tryz.prog 77 #[.pointer (some ⟨x,0,none⟩),.agg #[.int .i64 7,.int .i64 st,.bool e,.string d,.int .i64 k,.int .i64 on,.int .i64 w,.bool xx,.int .i64 c,.int .i64 la,.int .i64 n,.slice pa pn pc]] (b7 x a s M mc R) K:=by
 have hI1:=iI hI
 obtain⟨r1,r2,r3,r4,r5,r6,r7,r8,r9,r10,r11,r12,r13,r14,r15,r16,r17,r18,r19,r20,r21⟩:=hr
 dsimp only at r1 r2 r3 r4 r13 r15 r21
 have hps:pn≤1000000:=by omega
 unfold bS f7 at hK
 dsimp only at hK
 rw[if_neg (show ¬(7:Int)=5 by decide),if_neg (show ¬(7:Int)=6 by decide),if_pos rfl] at hK
 dsimp only[b7,mV]
 refine aH Tryz.func77 ?_
 repeat' (first|refine zB ?_|refine dw fM ?_|refine dw fD ?_|refine wr ?_|refine w5 ?_ ?_|((refine bh fun h=>?_) <;> try exact w6 h)|(refine aE fun hA=>?_;subst hA)|intro _|(show aA _ 161 _ _ _;refine CA (h:=dI (b:=s.bt) (now:=s.now) ?_))|(show aA _ 164 _ _ _;refine CA (h:=BA (x:=x) (a:=a) (s:= { s with bt:=bQ s.bt s.now }) (f:=wA 8 0 d false) hI1 rfl rfl rfl (fun _ _=>?_))))
 all_goals(refine aC ?_;exact aB (hK _ _))
theorem Me {st:Int} {e:Bool} {d:ByteArray} {k on w:Int} {xx:Bool} {c la n:Int} {pa:Option Addr} {pn pc:Nat} {ps:List Pr} (hI:bU B s) (hB:B+300≤249000000) (hr:dB ⟨8,st,e,d,k,on,w,xx,c,la,n,pa,pn,pc,ps⟩) (hv:cZ R pa nV ps) (hn:ps.length=pn) (hK:∀M mc,K (.tuple #[]) (b7 x a (bS ⟨8,st,e,d,k,on,w,xx,c,la,n,pa,pn,pc,ps⟩ s) M mc R)):aA Tryz.prog 77 #[.pointer (some ⟨x,0,none⟩),.agg #[.int .i64 8,.int .i64 st,.bool e,.string d,.int .i64 k,.int .i64 on,.int .i64 w,.bool xx,.int .i64 c,.int .i64 la,.int .i64 n,.slice pa pn pc]] (b7 x a s M mc R) K:=by
 have hI1:=iI hI
 obtain⟨r1,r2,r3,r4,r5,r6,r7,r8,r9,r10,r11,r12,r13,r14,r15,r16,r17,r18,r19,r20,r21⟩:=hr
 dsimp only at r1 r2 r3 r4 r13 r15 r21
 have hps:pn≤1000000:=by omega
 unfold bS f7 at hK
 dsimp only at hK
 rw[if_neg (show ¬(8:Int)=5 by decide),if_neg (show ¬(8:Int)=6 by decide),if_neg (show ¬(8:Int)=7 by decide),if_pos rfl] at hK
 dsimp only[b7,mV]
 refine aH Tryz.func77 ?_
 repeat' (first|refine zB ?_|refine dw fM ?_|refine dw fD ?_|refine wr ?_|refine w5 ?_ ?_|((refine bh fun h=>?_) <;> try exact w6 h)|(refine aE fun hA=>?_;subst hA)|intro _|(show aA _ 161 _ _ _;refine CA (h:=dI (b:=s.bt) (now:=s.now) ?_))|(show aA _ 165 _ _ _;refine CA (h:=Xf (b:=bQ s.bt s.now) (Ahx hI1) (fun _=>?_))))
 all_goals(refine aC ?_;exact aB (hK _ _))
theorem Md {st:Int} {e:Bool} {d:ByteArray} {k on w:Int} {xx:Bool} {c la n:Int} {pa:Option Addr} {pn pc:Nat} {ps:List Pr} (hI:bU B s) (hB:B+300≤249000000) (hr:dB ⟨9,st,e,d,k,on,w,xx,c,la,n,pa,pn,pc,ps⟩) (hv:cZ R pa nV ps) (hn:ps.length=pn) (hK:∀M mc,K (.tuple #[]) (b7 x a (bS ⟨9,st,e,d,k,on,w,xx,c,la,n,pa,pn,pc,ps⟩ s) M mc R)):aA Tryz.prog 77 #[.pointer (some ⟨x,0,none⟩),.agg #[.int .i64 9,.int .i64 st,.bool e,.string d,.int .i64 k,.int .i64 on,.int .i64 w,.bool xx,.int .i64 c,.int .i64 la,.int .i64 n,.slice pa pn pc]] (b7 x a s M mc R) K:=by
 have hI1:=iI hI
 obtain⟨r1,r2,r3,r4,r5,r6,r7,r8,r9,r10,r11,r12,r13,r14,r15,r16,r17,r18,r19,r20,r21⟩:=hr
 dsimp only at r1 r2 r3 r4 r13 r15 r21
 have hps:pn≤1000000:=by omega
 unfold bS f7 at hK
 dsimp only at hK
 rw[if_neg (show ¬(9:Int)=5 by decide),if_neg (show ¬(9:Int)=6 by decide),if_neg (show ¬(9:Int)=7 by decide),if_neg (show ¬(9:Int)=8 by decide),if_pos rfl] at hK
 dsimp only[b7,mV]
 refine aH Tryz.func77 ?_
 repeat' (first|refine zB ?_|refine dw fM ?_|refine dw fD ?_|refine wr ?_|refine w5 ?_ ?_|((refine bh fun h=>?_) <;> try exact w6 h)|(refine aE fun hA=>?_;subst hA)|intro _|(show aA _ 161 _ _ _;refine CA (h:=dI (b:=s.bt) (now:=s.now) ?_))|(show aA _ 166 _ _ _;refine CA (h:=VS (x:=x) (a:=a) (s:= { s with bt:=bQ s.bt s.now }) (ps:=ps) hI1 (fun _ _=>?_))))
 all_goals(refine aC ?_;exact aB (hK _ _))
theorem Mh {st:Int} {e:Bool} {d:ByteArray} {k on w:Int} {xx:Bool} {c la n:Int} {pa:Option Addr} {pn pc:Nat} {ps:List Pr} (hI:bU B s) (hB:B+300≤249000000) (hr:dB ⟨2,st,e,d,k,on,w,xx,c,la,n,pa,pn,pc,ps⟩) (hv:cZ R pa nV ps) (hn:ps.length=pn) (hK:∀M mc,K (.tuple #[]) (b7 x a (bS ⟨2,st,e,d,k,on,w,xx,c,la,n,pa,pn,pc,ps⟩ s) M mc R)):aA Tryz.prog 77 #[.pointer (some ⟨x,0,none⟩),.agg #[.int .i64 2,.int .i64 st,.bool e,.string d,.int .i64 k,.int .i64 on,.int .i64 w,.bool xx,.int .i64 c,.int .i64 la,.int .i64 n,.slice pa pn pc]] (b7 x a s M mc R) K:=by
 have hI1:=iI hI
 obtain⟨r1,r2,r3,r4,r5,r6,r7,r8,r9,r10,r11,r12,r13,r14,r15,r16,r17,r18,r19,r20,r21⟩:=hr
 dsimp only at r1 r2 r3 r4 r13 r15 r21
 have hps:pn≤1000000:=by omega
 unfold bS f7 at hK
 dsimp only at hK
 rw[if_neg (show ¬(2:Int)=5 by decide),if_neg (show ¬(2:Int)=6 by decide),if_neg (show ¬(2:Int)=7 by decide),if_neg (show ¬(2:Int)=8 by decide),if_neg (show ¬(2:Int)=9 by decide),if_pos rfl] at hK
 dsimp only[b7,mV]
 refine aH Tryz.func77 ?_
 repeat' (first|refine zB ?_|refine dw fM ?_|refine dw fD ?_|refine wr ?_|refine w5 ?_ ?_|((refine bh fun h=>?_) <;> try exact w6 h)|(refine aE fun hA=>?_;subst hA)|intro _|(show aA _ 161 _ _ _;refine CA (h:=dI (b:=s.bt) (now:=s.now) ?_))|(show aA _ 167 _ _ _;refine CA (h:=Po (x:=x) (a:=a) (s:= { s with bt:=bQ s.bt s.now }) (ps:=ps) hI1 (by omega) (r15 rfl) (by omega) (fun _ _=>?_))))
 all_goals(refine aC ?_;exact aB (hK _ _))
end
section
variable {R C:List HP} {K:Value→List HP→Prop} {x mc i b p r:Nat} {a:Ca} {s:Cn} {M:Option Addr} {B B' id code:Int} {own:Bool} {m m':Sm} {f:Fm} {y:Ys} {l acc:List Sm} {cf:Cf} {h3:eJ} {z:Yp}
def bM:List (Nat×Nat):= [(0,0),(1,0),(2,0),(3,0),(4,0),(5,0),(6,0),(7,0),(8,1)]
def bL:List (Nat×Nat):= [(0,0),(1,0),(2,0),(3,0),(4,0),(5,0),(6,0),(7,0),(8,0),(9,0),(10,1)]
theorem LA {st:Int} {e:Bool} {d:ByteArray} {k on w:Int} {xx:Bool} {c la n:Int} {pa:Option Addr} {pn pc:Nat} {ps:List Pr} (hI:bU B s) (hB:B+300≤249000000) (hr:dB ⟨0,st,e,d,k,on,w,xx,c,la,n,pa,pn,pc,ps⟩) (hv:cZ R pa nV ps) (hn:ps.length=pn) (hK:∀M mc,K (.tuple #[]) (b7 x a (bS ⟨0,st,e,d,k,on,w,xx,c,la,n,pa,pn,pc,ps⟩ s) M mc R)):aA Tryz.prog 77 #[.pointer (some ⟨x,0,none⟩),.agg #[.int .i64 0,.int .i64 st,.bool e,.string d,.int .i64 k,.int .i64 on,.int .i64 w,.bool xx,.int .i64 c,.int .i64 la,.int .i64 n,.slice pa pn pc]] (b7 x a s M mc R) K:=by
 have hI1:=iI hI
 obtain⟨r1,r2,r3,r4,r5,r6,r7,r8,r9,r10,r11,r12,r13,r14,r15,r16,r17,r18,r19,r20,r21⟩:=hr
 dsimp only at r1 r2 r3 r4 r13 r15 r21
 have hps:pn≤1000000:=by omega
 unfold bS f7 at hK
 dsimp only at hK
 rw[if_neg (show ¬(0:Int)=5 by decide),if_neg (show ¬(0:Int)=6 by decide),if_neg (show ¬(0:Int)=7 by decide),if_neg (show ¬(0:Int)=8 by decide),if_neg (show ¬(0:Int)=9 by decide),if_neg (show ¬(0:Int)=2 by decide)] at hK
 dsimp only[b7,mV]
 by_cases h0:st=0
 ·exfalso;omega
 ·rw[if_neg h0] at hK
  cases hp:wC { s with bt:=bQ s.bt s.now } st
  ·rw[if_pos hp] at hK
   refine aH Tryz.func77 ?_
   repeat' (first|refine zB ?_|refine dw bM ?_|refine dw bL ?_|refine wr ?_|refine w5 ?_ ?_|((refine bh fun h=>?_) <;> try exact w6 h)|(refine aE fun hA=>?_;subst hA)|intro _|(show aA _ 161 _ _ _;refine CA (h:=dI (b:=s.bt) (now:=s.now) ?_))|(show aA _ 169 _ _ _;refine CA (h:=jE (x:=x) (a:=a) (s:= { s with bt:=bQ s.bt s.now }) (M:=M) (mc:=mc) ?_);rw[hp])|(show aA _ 79 _ _ _;refine CA (h:=dN (x:=x) (a:=a) (s:= { s with bt:=bQ s.bt s.now }) hI1 (by decide) (by decide) (fun _ _=>?_))))
   all_goals(refine aC ?_;exact aB (hK _ _))
  ·rw[if_neg (by rw[hp];decide)] at hK
   rw[if_pos (by decide)] at hK
   refine aH Tryz.func77 ?_
   repeat' (first|refine zB ?_|refine dw bM ?_|refine dw bL ?_|refine wr ?_|refine w5 ?_ ?_|((refine bh fun h=>?_) <;> try exact w6 h)|(refine aE fun hA=>?_;subst hA)|intro _|(show aA _ 161 _ _ _;refine CA (h:=dI (b:=s.bt) (now:=s.now) ?_))|(show aA _ 169 _ _ _;refine CA (h:=jE (x:=x) (a:=a) (s:= { s with bt:=bQ s.bt s.now }) (M:=M) (mc:=mc) ?_);rw[hp])|(show aA _ 170 _ _ _;refine CA (h:=Ti (x:=x) (a:=a) (s:= { s with bt:=bQ s.bt s.now }) (ps:=ps) hI1 (by omega) (by omega) (r13 (by decide)) (fun _ _=>?_))))
   all_goals(refine aC ?_;exact aB (hK _ _))
theorem Lg {st:Int} {e:Bool} {d:ByteArray} {k on w:Int} {xx:Bool} {c la n:Int} {pa:Option Addr} {pn pc:Nat} {ps:List Pr} (hI:bU B s) (hB:B+300≤249000000) (hr:dB ⟨1,st,e,d,k,on,w,xx,c,la,n,pa,pn,pc,ps⟩) (hv:cZ R pa nV ps) (hn:ps.length=pn) (hK:∀M mc,K (.tuple #[]) (b7 x a (bS ⟨1,st,e,d,k,on,w,xx,c,la,n,pa,pn,pc,ps⟩ s) M mc R)):aA Tryz.prog 77 #[.pointer (some ⟨x,0,none⟩),.agg #[.int .i64 1,.int .i64 st,.bool e,.string d,.int .i64 k,.int .i64 on,.int .i64 w,.bool xx,.int .i64 c,.int .i64 la,.int .i64 n,.slice pa pn pc]] (b7 x a s M mc R) K:=by
 have hI1:=iI hI
 obtain⟨r1,r2,r3,r4,r5,r6,r7,r8,r9,r10,r11,r12,r13,r14,r15,r16,r17,r18,r19,r20,r21⟩:=hr
 dsimp only at r1 r2 r3 r4 r13 r15 r21
 have hps:pn≤1000000:=by omega
 unfold bS f7 at hK
 dsimp only at hK
 rw[if_neg (show ¬(1:Int)=5 by decide),if_neg (show ¬(1:Int)=6 by decide),if_neg (show ¬(1:Int)=7 by decide),if_neg (show ¬(1:Int)=8 by decide),if_neg (show ¬(1:Int)=9 by decide),if_neg (show ¬(1:Int)=2 by decide)] at hK
 dsimp only[b7,mV]
 by_cases h0:st=0
 ·exfalso;omega
 ·rw[if_neg h0] at hK
  cases hp:wC { s with bt:=bQ s.bt s.now } st
  ·rw[if_pos hp] at hK
   refine aH Tryz.func77 ?_
   repeat' (first|refine zB ?_|refine dw bM ?_|refine dw bL ?_|refine wr ?_|refine w5 ?_ ?_|((refine bh fun h=>?_) <;> try exact w6 h)|(refine aE fun hA=>?_;subst hA)|intro _|(show aA _ 161 _ _ _;refine CA (h:=dI (b:=s.bt) (now:=s.now) ?_))|(show aA _ 169 _ _ _;refine CA (h:=jE (x:=x) (a:=a) (s:= { s with bt:=bQ s.bt s.now }) (M:=M) (mc:=mc) ?_);rw[hp])|(show aA _ 79 _ _ _;refine CA (h:=dN (x:=x) (a:=a) (s:= { s with bt:=bQ s.bt s.now }) hI1 (by decide) (by decide) (fun _ _=>?_))))
   all_goals(refine aC ?_;exact aB (hK _ _))
  ·rw[if_neg (by rw[hp];decide)] at hK
   rw[if_pos (by decide)] at hK
   refine aH Tryz.func77 ?_
   repeat' (first|refine zB ?_|refine dw bM ?_|refine dw bL ?_|refine wr ?_|refine w5 ?_ ?_|((refine bh fun h=>?_) <;> try exact w6 h)|(refine aE fun hA=>?_;subst hA)|intro _|(show aA _ 161 _ _ _;refine CA (h:=dI (b:=s.bt) (now:=s.now) ?_))|(show aA _ 169 _ _ _;refine CA (h:=jE (x:=x) (a:=a) (s:= { s with bt:=bQ s.bt s.now }) (M:=M) (mc:=mc) ?_);rw[hp])|(show aA _ 170 _ _ _;refine CA (h:=S6 (x:=x) (a:=a) (s:= { s with bt:=bQ s.bt s.now }) (ps:=ps) hI1 (by omega) (by omega) (r13 (by decide)) (fun _ _=>?_))))
   all_goals(refine aC ?_;exact aB (hK _ _))
theorem My {st:Int} {e:Bool} {d:ByteArray} {k on w:Int} {xx:Bool} {c la n:Int} {pa:Option Addr} {pn pc:Nat} {ps:List Pr} (hI:bU B s) (hB:B+300≤249000000) (hr:dB ⟨3,st,e,d,k,on,w,xx,c,la,n,pa,pn,pc,ps⟩) (hv:cZ R pa nV ps) (hn:ps.length=pn) (hK:∀M mc,K (.tuple #[]) (b7 x a (bS ⟨3,st,e,d,k,on,w,xx,c,la,n,pa,pn,pc,ps⟩ s) M mc R)):aA Tryz.prog 77 #[.pointer (some ⟨x,0,none⟩),.agg #[.int .i64 3,.int .i64 st,.bool e,.string d,.int .i64 k,.int .i64 on,.int .i64 w,.bool xx,.int .i64 c,.int .i64 la,.int .i64 n,.slice pa pn pc]] (b7 x a s M mc R) K:=by
 have hI1:=iI hI
 obtain⟨r1,r2,r3,r4,r5,r6,r7,r8,r9,r10,r11,r12,r13,r14,r15,r16,r17,r18,r19,r20,r21⟩:=hr
 dsimp only at r1 r2 r3 r4 r13 r15 r21
 have hps:pn≤1000000:=by omega
 unfold bS f7 at hK
 dsimp only at hK
 rw[if_neg (show ¬(3:Int)=5 by decide),if_neg (show ¬(3:Int)=6 by decide),if_neg (show ¬(3:Int)=7 by decide),if_neg (show ¬(3:Int)=8 by decide),if_neg (show ¬(3:Int)=9 by decide),if_neg (show ¬(3:Int)=2 by decide)] at hK
 dsimp only[b7,mV]
 by_cases h0:st=0
 ·exfalso;omega
 ·rw[if_neg h0] at hK
  cases hp:wC { s with bt:=bQ s.bt s.now } st
  ·rw[if_pos hp] at hK
   refine aH Tryz.func77 ?_
   repeat' (first|refine zB ?_|refine dw bM ?_|refine dw bL ?_|refine wr ?_|refine w5 ?_ ?_|((refine bh fun h=>?_) <;> try exact w6 h)|(refine aE fun hA=>?_;subst hA)|intro _|(show aA _ 161 _ _ _;refine CA (h:=dI (b:=s.bt) (now:=s.now) ?_))|(show aA _ 169 _ _ _;refine CA (h:=jE (x:=x) (a:=a) (s:= { s with bt:=bQ s.bt s.now }) (M:=M) (mc:=mc) ?_);rw[hp])|(show aA _ 79 _ _ _;refine CA (h:=dN (x:=x) (a:=a) (s:= { s with bt:=bQ s.bt s.now }) hI1 (by decide) (by decide) (fun _ _=>?_))))
   all_goals(refine aC ?_;exact aB (hK _ _))
  ·rw[if_neg (by rw[hp];decide)] at hK
   rw[if_neg (by decide)] at hK
   refine aH Tryz.func77 ?_
   repeat' (first|refine zB ?_|refine dw bM ?_|refine dw bL ?_|refine wr ?_|refine w5 ?_ ?_|((refine bh fun h=>?_) <;> try exact w6 h)|(refine aE fun hA=>?_;subst hA)|intro _|(show aA _ 161 _ _ _;refine CA (h:=dI (b:=s.bt) (now:=s.now) ?_))|(show aA _ 169 _ _ _;refine CA (h:=jE (x:=x) (a:=a) (s:= { s with bt:=bQ s.bt s.now }) (M:=M) (mc:=mc) ?_);rw[hp])|(show aA _ 171 _ _ _;refine CA (h:=Qq (x:=x) (a:=a) (s:= { s with bt:=bQ s.bt s.now }) (ps:=ps) hI1 (by omega) (fun _ _=>?_))))
   all_goals(refine aC ?_;exact aB (hK _ _))
theorem Mi {st:Int} {e:Bool} {d:ByteArray} {k on w:Int} {xx:Bool} {c la n:Int} {pa:Option Addr} {pn pc:Nat} {ps:List Pr} (hI:bU B s) (hB:B+300≤249000000) (hr:dB ⟨4,st,e,d,k,on,w,xx,c,la,n,pa,pn,pc,ps⟩) (hv:cZ R pa nV ps) (hn:ps.length=pn) (hK:∀M mc,K (.tuple #[]) (b7 x a (bS ⟨4,st,e,d,k,on,w,xx,c,la,n,pa,pn,pc,ps⟩ s) M mc R)):aA Tryz.prog 77 #[.pointer (some ⟨x,0,none⟩),.agg #[.int .i64 4,.int .i64 st,.bool e,.string d,.int .i64 k,.int .i64 on,.int .i64 w,.bool xx,.int .i64 c,.int .i64 la,.int .i64 n,.slice pa pn pc]] (b7 x a s M mc R) K:=by
 have hI1:=iI hI
 obtain⟨r1,r2,r3,r4,r5,r6,r7,r8,r9,r10,r11,r12,r13,r14,r15,r16,r17,r18,r19,r20,r21⟩:=hr
 dsimp only at r1 r2 r3 r4 r13 r15 r21
 have hps:pn≤1000000:=by omega
 unfold bS f7 at hK
 dsimp only at hK
 rw[if_neg (show ¬(4:Int)=5 by decide),if_neg (show ¬(4:Int)=6 by decide),if_neg (show ¬(4:Int)=7 by decide),if_neg (show ¬(4:Int)=8 by decide),if_neg (show ¬(4:Int)=9 by decide),if_neg (show ¬(4:Int)=2 by decide)] at hK
 dsimp only[b7,mV]
 by_cases h0:st=0
 ·exfalso;omega
 ·rw[if_neg h0] at hK
  cases hp:wC { s with bt:=bQ s.bt s.now } st
  ·rw[if_pos hp] at hK
   refine aH Tryz.func77 ?_
   repeat' (first|refine zB ?_|refine dw bM ?_|refine dw bL ?_|refine wr ?_|refine w5 ?_ ?_|((refine bh fun h=>?_) <;> try exact w6 h)|(refine aE fun hA=>?_;subst hA)|intro _|(show aA _ 161 _ _ _;refine CA (h:=dI (b:=s.bt) (now:=s.now) ?_))|(show aA _ 169 _ _ _;refine CA (h:=jE (x:=x) (a:=a) (s:= { s with bt:=bQ s.bt s.now }) (M:=M) (mc:=mc) ?_);rw[hp])|(show aA _ 79 _ _ _;refine CA (h:=dN (x:=x) (a:=a) (s:= { s with bt:=bQ s.bt s.now }) hI1 (by decide) (by decide) (fun _ _=>?_))))
   all_goals(refine aC ?_;exact aB (hK _ _))
  ·rw[if_neg (by rw[hp];decide)] at hK
   rw[if_neg (by decide)] at hK
   refine aH Tryz.func77 ?_
   repeat' (first|refine zB ?_|refine dw bM ?_|refine dw bL ?_|refine wr ?_|refine w5 ?_ ?_|((refine bh fun h=>?_) <;> try exact w6 h)|(refine aE fun hA=>?_;subst hA)|intro _|(show aA _ 161 _ _ _;refine CA (h:=dI (b:=s.bt) (now:=s.now) ?_))|(show aA _ 169 _ _ _;refine CA (h:=jE (x:=x) (a:=a) (s:= { s with bt:=bQ s.bt s.now }) (M:=M) (mc:=mc) ?_);rw[hp])|(show aA _ 171 _ _ _;refine CA (h:=Qb (x:=x) (a:=a) (s:= { s with bt:=bQ s.bt s.now }) (ps:=ps) hI1 (by omega) (fun _ _=>?_))))
   all_goals(refine aC ?_;exact aB (hK _ _))
theorem Jy {st:Int} {e:Bool} {d:ByteArray} {k on w:Int} {xx:Bool} {c la n:Int} {pa:Option Addr} {pn pc:Nat} {ps:List Pr} (hI:bU B s) (hB:B+300≤249000000) (hr:dB ⟨10,st,e,d,k,on,w,xx,c,la,n,pa,pn,pc,ps⟩) (hv:cZ R pa nV ps) (hn:ps.length=pn) (hK:∀M mc,K (.tuple #[]) (b7 x a (bS ⟨10,st,e,d,k,on,w,xx,c,la,n,pa,pn,pc,ps⟩ s) M mc R)):aA Tryz.prog 77 #[.pointer (some ⟨x,0,none⟩),.agg #[.int .i64 10,.int .i64 st,.bool e,.string d,.int .i64 k,.int .i64 on,.int .i64 w,.bool xx,.int .i64 c,.int .i64 la,.int .i64 n,.slice pa pn pc]] (b7 x a s M mc R) K:=by
 have hI1:=iI hI
 obtain⟨r1,r2,r3,r4,r5,r6,r7,r8,r9,r10,r11,r12,r13,r14,r15,r16,r17,r18,r19,r20,r21⟩:=hr
 dsimp only at r1 r2 r3 r4 r13 r15 r21
 have hps:pn≤1000000:=by omega
 unfold bS f7 at hK
 dsimp only at hK
 rw[if_neg (show ¬(10:Int)=5 by decide),if_neg (show ¬(10:Int)=6 by decide),if_neg (show ¬(10:Int)=7 by decide),if_neg (show ¬(10:Int)=8 by decide),if_neg (show ¬(10:Int)=9 by decide),if_neg (show ¬(10:Int)=2 by decide)] at hK
 dsimp only[b7,mV]
 by_cases h0:st=0
 ·subst h0
  rw[if_pos rfl] at hK
  refine aH Tryz.func77 ?_
  repeat' (first|refine zB ?_|refine dw bM ?_|refine dw bL ?_|refine wr ?_|refine w5 ?_ ?_|((refine bh fun h=>?_) <;> try exact w6 h)|(refine aE fun hA=>?_;subst hA)|intro _|(show aA _ 161 _ _ _;refine CA (h:=dI (b:=s.bt) (now:=s.now) ?_))|(show aA _ 168 _ _ _;refine CA (h:=Im (x:=x) (a:=a) (s:= { s with bt:=bQ s.bt s.now }) (ps:=ps) hI1 (fun _ _=>?_))))
  all_goals(refine aC ?_;exact aB (hK _ _))
 ·rw[if_neg h0] at hK
  cases hp:wC { s with bt:=bQ s.bt s.now } st
  ·rw[if_pos hp] at hK
   refine aH Tryz.func77 ?_
   repeat' (first|refine zB ?_|refine dw bM ?_|refine dw bL ?_|refine wr ?_|refine w5 ?_ ?_|((refine bh fun h=>?_) <;> try exact w6 h)|(refine aE fun hA=>?_;subst hA)|intro _|(show aA _ 161 _ _ _;refine CA (h:=dI (b:=s.bt) (now:=s.now) ?_))|(show aA _ 169 _ _ _;refine CA (h:=jE (x:=x) (a:=a) (s:= { s with bt:=bQ s.bt s.now }) (M:=M) (mc:=mc) ?_);rw[hp])|(show aA _ 79 _ _ _;refine CA (h:=dN (x:=x) (a:=a) (s:= { s with bt:=bQ s.bt s.now }) hI1 (by decide) (by decide) (fun _ _=>?_))))
   all_goals(refine aC ?_;exact aB (hK _ _))
  ·rw[if_neg (by rw[hp];decide)] at hK
   rw[if_neg (by decide)] at hK
   refine aH Tryz.func77 ?_
   repeat' (first|refine zB ?_|refine dw bM ?_|refine dw bL ?_|refine wr ?_|refine w5 ?_ ?_|((refine bh fun h=>?_) <;> try exact w6 h)|(refine aE fun hA=>?_;subst hA)|intro _|(show aA _ 161 _ _ _;refine CA (h:=dI (b:=s.bt) (now:=s.now) ?_))|(show aA _ 169 _ _ _;refine CA (h:=jE (x:=x) (a:=a) (s:= { s with bt:=bQ s.bt s.now }) (M:=M) (mc:=mc) ?_);rw[hp])|(show aA _ 171 _ _ _;refine CA (h:=MR (x:=x) (a:=a) (s:= { s with bt:=bQ s.bt s.now }) (ps:=ps) hI1 (by omega) (fun _ _=>?_))))
   all_goals(refine aC ?_;exact aB (hK _ _))
theorem Ju {st:Int} {e:Bool} {d:ByteArray} {k on w:Int} {xx:Bool} {c la n:Int} {pa:Option Addr} {pn pc:Nat} {ps:List Pr} (hI:bU B s) (hB:B+300≤249000000) (hr:dB ⟨11,st,e,d,k,on,w,xx,c,la,n,pa,pn,pc,ps⟩) (hv:cZ R pa nV ps) (hn:ps.length=pn) (hK:∀M mc,K (.tuple #[]) (b7 x a (bS ⟨11,st,e,d,k,on,w,xx,c,la,n,pa,pn,pc,ps⟩ s) M mc R)):aA Tryz.prog 77 #[.pointer (some ⟨x,0,none⟩),.agg #[.int .i64 11,.int .i64 st,.bool e,.string d,.int .i64 k,.int .i64 on,.int .i64 w,.bool xx,.int .i64 c,.int .i64 la,.int .i64 n,.slice pa pn pc]] (b7 x a s M mc R) K:=by
 have hI1:=iI hI
 obtain⟨r1,r2,r3,r4,r5,r6,r7,r8,r9,r10,r11,r12,r13,r14,r15,r16,r17,r18,r19,r20,r21⟩:=hr
 dsimp only at r1 r2 r3 r4 r13 r15 r21
 have hps:pn≤1000000:=by omega
 unfold bS f7 at hK
 dsimp only at hK
 rw[if_neg (show ¬(11:Int)=5 by decide),if_neg (show ¬(11:Int)=6 by decide),if_neg (show ¬(11:Int)=7 by decide),if_neg (show ¬(11:Int)=8 by decide),if_neg (show ¬(11:Int)=9 by decide),if_neg (show ¬(11:Int)=2 by decide)] at hK
 dsimp only[b7,mV]
 by_cases h0:st=0
 ·subst h0
  rw[if_pos rfl] at hK
  refine aH Tryz.func77 ?_
  repeat' (first|refine zB ?_|refine dw bM ?_|refine dw bL ?_|refine wr ?_|refine w5 ?_ ?_|((refine bh fun h=>?_) <;> try exact w6 h)|(refine aE fun hA=>?_;subst hA)|intro _|(show aA _ 161 _ _ _;refine CA (h:=dI (b:=s.bt) (now:=s.now) ?_))|(show aA _ 168 _ _ _;refine CA (h:=Im (x:=x) (a:=a) (s:= { s with bt:=bQ s.bt s.now }) (ps:=ps) hI1 (fun _ _=>?_))))
  all_goals(refine aC ?_;exact aB (hK _ _))
 ·rw[if_neg h0] at hK
  cases hp:wC { s with bt:=bQ s.bt s.now } st
  ·rw[if_pos hp] at hK
   refine aH Tryz.func77 ?_
   repeat' (first|refine zB ?_|refine dw bM ?_|refine dw bL ?_|refine wr ?_|refine w5 ?_ ?_|((refine bh fun h=>?_) <;> try exact w6 h)|(refine aE fun hA=>?_;subst hA)|intro _|(show aA _ 161 _ _ _;refine CA (h:=dI (b:=s.bt) (now:=s.now) ?_))|(show aA _ 169 _ _ _;refine CA (h:=jE (x:=x) (a:=a) (s:= { s with bt:=bQ s.bt s.now }) (M:=M) (mc:=mc) ?_);rw[hp])|(show aA _ 79 _ _ _;refine CA (h:=dN (x:=x) (a:=a) (s:= { s with bt:=bQ s.bt s.now }) hI1 (by decide) (by decide) (fun _ _=>?_))))
   all_goals(refine aC ?_;exact aB (hK _ _))
  ·rw[if_neg (by rw[hp];decide)] at hK
   rw[if_neg (by decide)] at hK
   refine aH Tryz.func77 ?_
   repeat' (first|refine zB ?_|refine dw bM ?_|refine dw bL ?_|refine wr ?_|refine w5 ?_ ?_|((refine bh fun h=>?_) <;> try exact w6 h)|(refine aE fun hA=>?_;subst hA)|intro _|(show aA _ 161 _ _ _;refine CA (h:=dI (b:=s.bt) (now:=s.now) ?_))|(show aA _ 169 _ _ _;refine CA (h:=jE (x:=x) (a:=a) (s:= { s with bt:=bQ s.bt s.now }) (M:=M) (mc:=mc) ?_);rw[hp])|(show aA _ 171 _ _ _;refine CA (h:=M7 (x:=x) (a:=a) (s:= { s with bt:=bQ s.bt s.now }) (ps:=ps) hI1 (by omega) (fun _ _=>?_))))
   all_goals(refine aC ?_;exact aB (hK _ _))
end
end Go.Proofs.YtifgibijcmppmaaGreat
