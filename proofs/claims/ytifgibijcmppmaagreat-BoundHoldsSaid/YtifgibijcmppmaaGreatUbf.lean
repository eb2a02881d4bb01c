/- A part of the proof: lemmas; each with the conditions that it states. -/
import Derived.Test.YtifgibijcmppmaaGreatUbe
set_option linter.unusedVariables false
set_option linter.unusedSimpArgs false
set_option maxRecDepth 100000
set_option maxHeartbeats 40000000
namespace Go.Proofs.YtifgibijcmppmaaGreat
open Go Go.Proofs Go.Sl
attribute [local irreducible] aN fN cX bP aM aX aA dS dV aT dU pt ro eV star sep bH
attribute [local irreducible] mp ED
section
variable {R C:List HP} {K:KP} {x mc i b p r:Nat} {a:Ca} {s:Cn} {M:Option Addr} {B B' id code:Int} {own:Bool} {m m':Sm} {f:Fm} {y:Ys} {l:List Sm} {cf:Cf} {h3:eJ} {z:Yp}
def In3 (t:eJ):Prop:=zA t.w∧zA t.st∧zA t.it
theorem Ns:∀ {ps:List Pr} {t u:eJ},In3 t→Yy t ps=some u→In3 u
 | [],t,u,h,e=>by cases e;exact h
 |p::ps,t,u,h,e=>by
  unfold Yy at e
  split at e
  ·rename_i hp
   refine Ns (t:=Ry t p) ?_ e
   obtain⟨h1,h2,h3⟩:=h
   unfold Ry
   split
   ·exact⟨hp,h2,h3⟩
   ·split
    ·exact⟨h1,hp,h3⟩
    ·split
     ·exact⟨h1,h2,hp⟩
     ·exact⟨h1,h2,h3⟩
  ·cases e
theorem Y7 {n:Int} (h:zA n):mF n=true:=by
 unfold zA at h
 unfold mF
 simp only[Bool.and_eq_true,decide_eq_true_eq]
 exact h
theorem MG (h:bU B s) {t:eJ} (ht:In3 t) {q:Ld} (hq:Gn B q):bU B { s with ld:=q,pe:=t }:=
 { h with ld:=hq,pe:=ht }
theorem Aa0 (h:bU B s):bU B (yQ f s):=by
 unfold yQ
 cases hp:Yy s.pe f.ps with
 |none=>exact iU h
 |some t=>
  dsimp only
  split
  ·exact iU h
  ·exact Hi (MG h (Ns h.pe hp) (MW h.ld))
def nZ:Tr:=(.br (.st 0 1 (.st 1 1 (.st 2 1 (.st 3 1 (.st 4 1 (.st 5 1 (.st 6 2 (.st 10 2 (.st 7 1 (.st 8 1 (.st 11 1 (.st 9 2 (.st 12 0 .nil))))))))))))) (.st 10 2 (.st 0 1 (.st 1 1 (.st 2 1 (.st 3 1 (.st 4 1 (.st 5 1 (.st 6 2 (.st 7 1 (.st 8 1 (.st 11 1 (.st 9 2 (.st 12 0 .nil))))))))))))))
def nS:List (Nat×Nat):= [(0,0),(1,0),(2,0),(3,0),(4,0),(5,0),(6,0),(7,0),(8,0),(9,0),(10,0),(11,1),(12,0),(13,0)]
theorem WF {t st:Int} {e:Bool} {d:ByteArray} {k on w:Int} {xx:Bool} {c la n:Int} {pa:Option Addr} {pn pc:Nat} {ps:List Pr} (hI:bU B s) (hv:dT R pa rE ps) (hn:ps.length=pn) (hn2:pn≤1000000) (hK:∀M mc,K (.tuple #[]) (b5 x a (yQ ⟨t,st,e,d,k,on,w,xx,c,la,n,pa,pn,pc,ps⟩ s) M mc R)):CT 162 #[PO x,.agg #[I6 t,I6 st,.bool e,.string d,I6 k,I6 on,I6 w,.bool xx,I6 c,I6 la,I6 n,.slice pa pn pc]] (b5 x a s M mc R) K:=by
 have hbb:=hI.bb
 unfold yQ at hK
 dsimp only at hK
 dsimp only[b5,nW]
 cases hp:Yy s.pe ps with
 |none=>
  rw[hp] at hK
  refine aH Tryz.func162 ?_
  repeat' (first|refine JK ?_|refine JD nZ ?_|refine dw nS ?_|refine w5 ?_ ?_|((refine bh fun h=>?_) <;> try exact w6 h)|(refine aE fun hA=>?_;subst hA)|intro _|(show aA _ 247 _ _ _;refine CA (h:=FK (s:=s.pe) (ps:=ps) (by exact kF) hn hn2 ?_);rw[hp];dsimp only[paV])|(show aA _ 79 _ _ _;refine CA (h:=dO (x:=x) (a:=a) (s:=s) hI (by decide) (by decide) (fun _ _=>?_))))
  all_goals(refine aC ?_;exact aB (hK _ _))
 |some u=>
  rw[hp] at hK
  dsimp only at hK
  have hu:=Ns hI.pe hp
  have hab:mF s.pe.w=true∧mF u.w=true:=⟨Y7 hI.pe.1,Y7 hu.1⟩
  by_cases hg:EN s.pe.w u.w s.ld=0
  ·rw[if_neg (fun q=>q hg)] at hK
   refine aH Tryz.func162 ?_
   repeat' (first|refine JK ?_|refine JD nZ ?_|refine dw nS ?_|refine w5 ?_ ?_|((refine bh fun h=>?_) <;> try exact w6 h)|(refine aE fun hA=>?_;subst hA)|intro _|(show aA _ 247 _ _ _;refine CA (h:=FK (s:=s.pe) (ps:=ps) (by exact kF) hn hn2 ?_);rw[hp];dsimp only[paV])|(show aA _ 248 _ _ _;refine CA (h:=QE (s:=s.ld) (hI.ld.ok (by omega)) hab ?_);rw[hg])|(show aA _ 164 _ _ _;refine CA (h:=Bh (x:=x) (a:=a) (s:= { s with ld:=sV s.pe.w u.w s.ld,pe:=u }) (f:=fr0 6 0) (MG hI hu (MW hI.ld)) rfl rfl rfl (fun _ _=>?_))))
   all_goals(refine aC ?_;exact aB (hK _ _))
  ·rw[if_pos hg] at hK
   have hs:sV s.pe.w u.w s.ld=s.ld:=by unfold sV;rw[if_pos hg]
   refine aH Tryz.func162 ?_
   repeat' (first|(show Br _ _ _;refine Br.t (by first|(simp <;> done)|simpa using hg) ?_)|refine JK ?_|refine JD nZ ?_|refine dw nS ?_|refine w5 ?_ ?_|((refine bh fun h=>?_) <;> try exact w6 h)|(refine aE fun hA=>?_;subst hA)|intro _|(show aA _ 247 _ _ _;refine CA (h:=FK (s:=s.pe) (ps:=ps) (by exact kF) hn hn2 ?_);rw[hp];dsimp only[paV])|(show aA _ 248 _ _ _;refine CA (h:=QE (s:=s.ld) (hI.ld.ok (by omega)) hab ?_);rw[hs])|(show aA _ 79 _ _ _;refine CA (h:=dO (x:=x) (a:=a) (s:=s) hI (by decide) (by decide) (fun _ _=>?_))))
   all_goals(refine aC ?_;exact aB (hK _ _))
theorem VJ {l l':List Sm} (h:Gl l) (e:l'.map Sm.id=l.map Sm.id):Gl l':=by
 obtain⟨h1,h2⟩:=h
 have hl:=congrArg List.length e
 rw[List.length_map,List.length_map] at hl
 refine⟨by omega,?_⟩
 have h3:(l.map Sm.id).Pairwise (·<·):=List.pairwise_map.2 h2
 rw[← e] at h3
 exact List.pairwise_map.1 h3
def Ta (t:eJ) (m:Sm):Sm:= { m with y:=DV m.y t }
theorem NP {g:Sm→Sm} {j:Nat} (hm:l[j]?=some m):((l.take j).map g++l.drop j).set j (g m)=(l.take (j+1)).map g++l.drop (j+1):=by
 have hj:=(List.getElem?_eq_some_iff.1 hm).1
 have hlen:((l.take j).map g).length=j:=by rw[List.length_map,List.length_take];omega
 have hd:l.drop j=m::l.drop (j+1):=by rw[List.drop_eq_getElem_cons hj,(List.getElem?_eq_some_iff.1 hm).2]
 rw[List.set_append_right _ _ (by omega),hlen,Nat.sub_self,hd,List.set_cons_zero,List.take_add_one,hm]
 simp
theorem Vm {g:Sm→Sm} {j:Nat} (hm:l[j]?=some m):((l.take j).map g++l.drop j)[j]?=some m:=by
 have hj:=(List.getElem?_eq_some_iff.1 hm).1
 have hlen:((l.take j).map g).length=j:=by rw[List.length_map,List.length_take];omega
 rw[List.getElem?_append_right (by omega),hlen,Nat.sub_self,List.getElem?_drop]
 simpa using hm
theorem NT {g:Sm→Sm} {j:Nat} (hg:∀m,(g m).id=m.id):((l.take j).map g++l.drop j).map Sm.id=l.map Sm.id:=by
 rw[List.map_append,List.map_map]
 have e:(Sm.id ∘ g)=Sm.id:=funext hg
 rw[e,← List.map_append,List.take_append_drop]
theorem Abt {t:eJ}:kV (DV y t)=kV y:=by cases y <;> rfl
theorem Xq (h:bU B s):bU B (tD s):=by
 unfold tD
 split
 ·exact iU h
 ·have hsh:=h.sh
  have hsh2:(dD s.sh).l.length≤4∧u3 (dD s.sh).h∧u3 (dD s.sh).g∧∀t∈(dD s.sh).l,u3 t:=by
   unfold dD
   cases hl:s.sh.l with
   |nil=>dsimp only;rw[hl] at hsh;rw[hl];exact hsh
   |cons t r=>
    rw[hl] at hsh
    obtain⟨h1,h2,h3,h4⟩:=hsh
    rw[List.length_cons] at h1
    exact⟨by dsimp only;omega,h4 t (List.mem_cons_self ..),h3,fun z hz=>h4 z (List.mem_cons_of_mem _ hz)⟩
  exact { h with
   sh:=hsh2
   sm:=U6 h.sm fun m=>rfl
   st:=fun q hq=>by
    obtain⟨m,hm,rfl⟩:=List.mem_map.1 hq
    obtain⟨h1,h2,h3,h4⟩:=h.st m hm
    refine⟨h1,h2,?_,?_⟩
    ·cases hy:m.y <;> (rw[hy] at h3;exact h3)
    ·cases hy:m.y <;> (rw[hy] at h4;exact h4)
   ids:=fun q hq=>by
    obtain⟨m,hm,rfl⟩:=List.mem_map.1 hq
    exact h.ids m hm
   own:=fun b=>by
    have:=h.own b
    unfold fO at this
    show((s.l.map fun m=>({ m with y:=DV m.y (dD s.sh).h }:Sm)).filter fun m=>m.own == b).length≤32
    rw[nL,List.map_map]
    rw[nL] at this
    exact this
   mv:=by
    have:=h.mv
    show(s.mv.length:Int)+((s.l.map _).length:Int)≤B
    rw[List.length_map];exact this }
def jO:List (Nat×Nat):= [(0,0),(1,1),(2,1),(3,1)]
theorem SD (hI:bU B s) (hK:∀M mc,K (.tuple #[]) (b5 x a (tD s) M mc R)):CT 163 #[PO x] (b5 x a s M mc R) K:=by
 have h64:=hI.sm.1
 unfold tD at hK
 dsimp only[b5,nW]
 by_cases hl:s.sh.l= []
 ·have hE:Ax s.sh=1:=by unfold Ax;rw[if_pos hl]
  have hA:dD s.sh=s.sh:=by unfold dD;rw[hl]
  rw[hE,if_pos (by decide)] at hK
  refine aH Tryz.func163 ?_
  repeat' (first|refine KV ?_|refine dw jO ?_|refine w5 ?_ ?_|((refine bh fun h=>?_) <;> try exact w6 h)|(refine aE fun hA=>?_;subst hA)|intro _|(show aA _ 249 _ _ _;refine CA (h:=PT (s:=s.sh) ?_);rw[hE,hA])|(show aA _ 79 _ _ _;refine CA (h:=dO (x:=x) (a:=a) (s:=s) hI (by decide) (by decide) (fun _ _=>?_))))
  all_goals(refine aC ?_;exact aB (hK _ _))
 ·have hE:Ax s.sh=0:=by unfold Ax;rw[if_neg hl]
  rw[hE,if_neg (by decide)] at hK
  have hch:u3 (dD s.sh).h:=by
   have:=hI.sh
   unfold dD
   cases hq:s.sh.l with
   |nil=>exact absurd hq hl
   |cons t r=>rw[hq] at this;exact this.2.2.2 t (List.mem_cons_self ..)
  refine aH Tryz.func163 ?_
  repeat' (first|refine KV ?_|refine dw jO ?_|refine w5 ?_ ?_|((refine bh fun h=>?_) <;> try exact w6 h)|(refine aE fun hA=>?_;subst hA)|intro _|(show aA _ 249 _ _ _;refine CA (h:=PT (s:=s.sh) ?_);rw[hE];simp only[if_neg hl])|(show aA _ 83 _ _ _;refine CA (h:=BJ (l:=s.l) ?_)))
  rename_i r2 r3
  refine fZ (fun n a' C'=>∃j:Nat,j+n=s.l.length∧cJ a' [(0,PO x),(3,PO r3),(27,I6 s.l.length),(28,I6 j)]∧C'=pt r3 [I6 (dD s.sh).h.w,I6 (dD s.sh).h.st,I6 (dD s.sh).h.it] 23::b5 x a { s with sh:=dD s.sh,l:=(s.l.take j).map (Ta (dD s.sh).h)++s.l.drop j } M mc R) s.l.length (bV s.l.length ⟨0,by omega,⟨rfl,rfl,rfl,rfl,trivial⟩,rfl⟩ (by omega)) ?_
  rintro n a' C' ⟨j,hj,ha,rfl⟩
  refine fP _ ha ?_
  simp only[eP]
  by_cases hlt:j<s.l.length
  ·obtain⟨m,hm⟩:∃m,s.l[j]?=some m:=⟨_,List.getElem?_eq_getElem hlt⟩
   have hat:=Vm (g:=Ta (dD s.sh).h) hm
   have hset:=NP (g:=Ta (dD s.sh).h) hm
   have hS:=VJ hI.sm (NT (g:=Ta (dD s.sh).h) (l:=s.l) (j:=j) fun _=>rfl)
   repeat' (first|refine KV ?_|refine dw jO ?_|refine w5 ?_ ?_|((refine bh fun h=>?_) <;> try exact w6 h)|(refine aE fun hA=>?_;subst hA)|intro _|(show aA _ 85 _ _ _;refine CA (h:=Ie hS hat (fun _=>?_)))|(show aA _ 89 _ _ _;refine CA (h:=l5 (m:=m) (fun _=>?_)))|(show aA _ 250 _ _ _;refine CA (h:=Ag0 (y:=m.y) (s:=(dD s.sh).h) hch ?_)))
   all_goals(show aT _ _ _ _;exact pE (m:=n - 1) (by omega) (aG.trans (by exact aZ) (aG.trans (aG.cons (A:=pt r3 [I6 (dD s.sh).h.w,I6 (dD s.sh).h.st,I6 (dD s.sh).h.it] 23) (jU (m:=m) (y:=DV m.y (dD s.sh).h) Abt)) (aG.cons (A:=pt r3 [I6 (dD s.sh).h.w,I6 (dD s.sh).h.st,I6 (dD s.sh).h.it] 23) (l6 (x:=x) (a:=a) (s:= { s with sh:=dD s.sh,l:=(s.l.take j).map (Ta (dD s.sh).h)++s.l.drop j }) (M:=M) (mc:=mc) (R:=R) (m':=Ta (dD s.sh).h m) hat rfl)))) ⟨j+1,by omega,⟨rfl,rfl,rfl,rfl,trivial⟩,congrArg (fun q=>pt r3 [I6 (dD s.sh).h.w,I6 (dD s.sh).h.st,I6 (dD s.sh).h.it] 23::b5 x a { s with sh:=dD s.sh,l:=q } M mc R) hset⟩)
  ·have hj0:j=s.l.length:=by omega
   subst hj0
   have e:(s.l.take s.l.length).map (Ta (dD s.sh).h)++s.l.drop s.l.length=s.l.map fun m=>({ m with y:=DV m.y (dD s.sh).h }:Sm):=by
    rw[List.take_length,List.drop_length,List.append_nil];rfl
   rw[e]
   repeat' (first|refine KV ?_|refine dw jO ?_|refine w5 ?_ ?_|((refine bh fun h=>?_) <;> try exact w6 h)|(refine aE fun hA=>?_;subst hA)|intro _)
   all_goals(refine aC ?_;exact aB (hK _ _))
end
section
variable {R C:List HP} {K:KP} {x mc i b p r:Nat} {a:Ca} {s:Cn} {M:Option Addr} {B B' id code:Int} {own:Bool} {m m':Sm} {f:Fm} {y:Ys} {l acc:List Sm} {cf:Cf} {h3:eJ} {z:Yp}
theorem Qd (h:∀q∈acc,q.id<m.id):b7 m.id (acc++m::l)=acc.length:=by
 unfold b7
 induction acc with
 |nil=>rw[List.nil_append,List.takeWhile_cons];simp
 |cons q acc ih=>
  rw[List.cons_append,List.takeWhile_cons,if_pos (decide_eq_true (h q (List.mem_cons_self ..))),List.length_cons,List.length_cons,ih fun z hz=>h z (List.mem_cons_of_mem _ hz)]
theorem IL (h:∀q∈acc,q.id<m.id):bY m.id (acc++m::l)=some m:=by
 unfold bY
 rw[Qd h,List.getElem?_append_right (Nat.le_refl _),Nat.sub_self]
 simp
theorem Rs (h:Gl (acc++m::l)):∀q∈acc,q.id<m.id:=fun q hq=>
 (List.pairwise_append.1 h.2).2.2 q hq m (List.mem_cons_self ..)
theorem EH (h:∀q∈acc,q.id<m.id):(acc++m::l).eraseIdx (b7 m.id (acc++m::l))=acc++l:=by
 rw[Qd h,List.eraseIdx_append_of_length_le (Nat.le_refl _),Nat.sub_self];rfl
theorem LF {ids:List Int} (hm:bY id s.l=some m):nY (id::ids) s=nY ids (if m.own=true∧Ln s.dr id=true then sH m 7 s else s):=by
 show nY ids (match bY id s.l with
  |some m=>_
  |none=>s)=_
 rw[hm]
theorem FD (h:bU B s) {d:Dr}:bU B { s with dr:=d }:= { h with }
theorem G3:∀ {l acc:List Sm} {s:Cn},s.l=acc++l→bU B s→bU B (nY (l.map Sm.id) s)
 | [],acc,s,he,h=>h
 |m::l,acc,s,he,h=>by
  have hlt:=Rs (by rw[← he];exact h.sm)
  have hm:bY m.id s.l=some m:=by rw[he];exact IL hlt
  rw[List.map_cons,LF hm]
  split
  ·refine G3 (l:=l) (acc:=acc) ?_ (rW h hm)
   show s.l.eraseIdx (b7 m.id s.l)=acc++l
   rw[he];exact EH hlt
  ·exact G3 (l:=l) (acc:=acc++ [m]) (by rw[he];simp) h
theorem Acs (h:bU B s):bU B (xV f s):=by
 unfold xV
 split
 ·exact Lq (FD h)
 ·exact G3 (acc:= []) rfl (FD h)
def gH:List (Nat×Nat):= [(0,0),(1,0),(2,0),(3,0),(4,0),(5,0),(6,0),(7,0),(8,1)]
theorem W7 {t st:Int} {e:Bool} {d:ByteArray} {k on w:Int} {xx:Bool} {c la n:Int} {pa:Option Addr} {pn pc:Nat} {ps:List Pr} (hI:bU B s) (hK:∀M mc,K (.tuple #[]) (b5 x a (xV ⟨t,st,e,d,k,on,w,xx,c,la,n,pa,pn,pc,ps⟩ s) M mc R)):CT 166 #[PO x,.agg #[I6 t,I6 st,.bool e,.string d,I6 k,I6 on,I6 w,.bool xx,I6 c,I6 la,I6 n,.slice pa pn pc]] (b5 x a s M mc R) K:=by
 have h64:=hI.sm.1
 have hlm:(s.l.map Sm.id).length=s.l.length:=List.length_map ..
 have hI1:=FD (d:=oU s.dr la c) hI
 unfold xV at hK
 dsimp only at hK
 dsimp only[b5,nW]
 cases ho:(oU s.dr la c).ov
 ·rw[ho,if_neg Bool.false_ne_true] at hK
  refine aH Tryz.func166 ?_
  repeat' (first|refine v78 ?_|refine dw gH ?_|refine w5 ?_ ?_|((refine bh fun h=>?_) <;> try exact w6 h)|(refine aE fun hA=>?_;subst hA)|intro _|(show aA _ 252 _ _ _;refine CA (h:=Va (d:=s.dr) ?_))|(show aA _ 78 _ _ _;refine CA (h:=j8 (x:=x) (a:=a) (s:= { s with dr:=oU s.dr la c }) (M:=M) (mc:=mc) ?_);rw[show({ s with dr:=oU s.dr la c }:Cn).dr.ov=false from ho])|(show aA _ 91 _ _ _;refine CA (h:=Mj (l:=s.l) hI.sm (fun Bq dq=>?_))))
  refine fZ (fun n a' C'=>∃(j:Nat) (s':Cn) (acc:List Sm) (M':Option Addr) (mc':Nat),j+n=s.l.length∧s'.l=acc++s.l.drop j∧bU B s'∧nY ((s.l.drop j).map Sm.id) s'=nY (s.l.map Sm.id) { s with dr:=oU s.dr la c }∧cJ a' [(0,PO x),(25,.slice Bq (s.l.map Sm.id).length dq),(26,I6 s.l.length),(27,I6 j)]∧C'=bQ Bq dq 3 jI (s.l.map Sm.id)::b5 x a s' M' mc' R) s.l.length (bV s.l.length ⟨0,{ s with dr:=oU s.dr la c },[],M,mc,by omega,rfl,hI1,rfl,⟨rfl,rfl,(by simp;rfl),rfl,trivial⟩,rfl⟩ (by omega)) ?_
  rintro n1 a' C' ⟨j,s',acc,M',mc',hj,hl,hI',hc,ha,rfl⟩
  refine fP _ ha ?_
  simp only[eP]
  by_cases hlt:j<s.l.length
  ·obtain⟨m,hm,hd⟩:=i7 (l:=s.l) (j:=j) hlt
   rw[hd] at hl hc
   have hml:=Rs (by rw[← hl];exact hI'.sm)
   have hat:bY m.id s'.l=some m:=by rw[hl];exact IL hml
   obtain⟨hi,_⟩:=bA hat
   have hv:(s.l.map Sm.id)[((j:Nat):Int).toNat]?=some m.id:=by rw[Int.toNat_natCast,List.getElem?_map,hm];rfl
   have hc2:nY ((s.l.drop (j+1)).map Sm.id) (if m.own=true∧Ln s'.dr m.id=true then sH m 7 s' else s')=nY (s.l.map Sm.id) { s with dr:=oU s.dr la c }:=by
    rw[← hc]
    show _=nY _ (match bY m.id s'.l with
     |some m=>_
     |none=>s')
    rw[hat]
   cases how:m.own
   ·rw[how,if_neg (fun q=>Bool.false_ne_true q.1)] at hc2
    repeat' (first|refine v78 ?_|refine dw gH ?_|refine w5 ?_ ?_|((refine bh fun h=>?_) <;> try exact w6 h)|(refine aE fun hA=>?_;subst hA)|intro _|(show aA _ 192 _ _ _;refine CA (h:=f5 (l:=s'.l) hI'.sm hat (fun _=>?_)))|(show aA _ 178 _ _ _;refine CA (h:=zN (m:=m) ?_);rw[how]))
    all_goals(show aT _ _ _ _;exact pE (m:=n1 - 1) (by omega) (aG.trans (by exact aZ) (aG.cons (A:=bQ _ dq 3 jI (s.l.map Sm.id)) (d8 (x:=x) (a:=a) (s:=s') (M:=M') (mc:=mc') (R:=R) hi))) ⟨j+1,s',acc++ [m],M',mc',by omega,by rw[hl];simp,hI',hc2,⟨rfl,rfl,rfl,rfl,trivial⟩,rfl⟩)
   ·cases hrf:Ln s'.dr m.id
    ·rw[hrf,if_neg (fun q=>Bool.false_ne_true q.2)] at hc2
     repeat' (first|refine v78 ?_|refine dw gH ?_|refine w5 ?_ ?_|((refine bh fun h=>?_) <;> try exact w6 h)|(refine aE fun hA=>?_;subst hA)|intro _|(show aA _ 192 _ _ _;refine CA (h:=f5 (l:=s'.l) hI'.sm hat (fun _=>?_)))|(show aA _ 178 _ _ _;refine CA (h:=zN (m:=m) ?_);rw[how])|(show aA _ 253 _ _ _;refine CA (h:=UV (d:=s'.dr) ?_);rw[hrf]))
     all_goals(show aT _ _ _ _;exact pE (m:=n1 - 1) (by omega) (aG.trans (by exact aZ) (aG.cons (A:=bQ _ dq 3 jI (s.l.map Sm.id)) (d8 (x:=x) (a:=a) (s:=s') (M:=M') (mc:=mc') (R:=R) hi))) ⟨j+1,s',acc++ [m],M',mc',by omega,by rw[hl];simp,hI',hc2,⟨rfl,rfl,rfl,rfl,trivial⟩,rfl⟩)
    ·rw[how,hrf,if_pos ⟨rfl,rfl⟩] at hc2
     repeat' (first|refine v78 ?_|refine dw gH ?_|refine w5 ?_ ?_|((refine bh fun h=>?_) <;> try exact w6 h)|(refine aE fun hA=>?_;subst hA)|intro _|(show aA _ 192 _ _ _;refine CA (h:=f5 (l:=s'.l) hI'.sm hat (fun _=>?_)))|(show aA _ 178 _ _ _;refine CA (h:=zN (m:=m) ?_);rw[how])|(show aA _ 253 _ _ _;refine CA (h:=UV (d:=s'.dr) ?_);rw[hrf])|(show aA _ 254 _ _ _;refine CA (h:=BL (x:=x) (a:=a) (s:=s') (M:=M') (mc:=mc') (m:=m) hI' hat (.inr rfl) (fun _ _=>?_))))
     all_goals(show aT _ _ _ _;exact bV (n1 - 1) ⟨j+1,sH m 7 s',acc,_,_,by omega,(by show s'.l.eraseIdx (b7 m.id s'.l)=_;rw[hl];exact EH hml),rW hI' hat,hc2,⟨rfl,rfl,rfl,rfl,trivial⟩,rfl⟩)
  ·have hj0:j=s.l.length:=by omega
   subst hj0
   rw[List.drop_length] at hc hl
   have hc:s'=nY (s.l.map Sm.id) { s with dr:=oU s.dr la c }:=hc
   subst hc
   repeat' (first|refine v78 ?_|refine dw gH ?_|refine w5 ?_ ?_|((refine bh fun h=>?_) <;> try exact w6 h)|(refine aE fun hA=>?_;subst hA)|intro _)
   all_goals(refine aC ?_;exact aB (hK _ _))
 ·rw[ho,if_pos rfl] at hK
  refine aH Tryz.func166 ?_
  repeat' (first|refine v78 ?_|refine dw gH ?_|refine w5 ?_ ?_|((refine bh fun h=>?_) <;> try exact w6 h)|(refine aE fun hA=>?_;subst hA)|intro _|(show aA _ 252 _ _ _;refine CA (h:=Va (d:=s.dr) ?_))|(show aA _ 78 _ _ _;refine CA (h:=j8 (x:=x) (a:=a) (s:= { s with dr:=oU s.dr la c }) (M:=M) (mc:=mc) ?_);rw[show({ s with dr:=oU s.dr la c }:Cn).dr.ov=true from ho])|(show aA _ 176 _ _ _;refine CA (h:=Il (x:=x) (a:=a) (s:= { s with dr:=oU s.dr la c }) hI1 (fun _ _=>?_))))
  all_goals(refine aC ?_;exact aB (hK _ _))
theorem Ua {id on w:Int} {xx:Bool} (h:bU B s):bU B { s with tr:=kC id on w xx s.tr }:= { h with tr:=Af5 h.tr }
theorem WA (h:bU B s):bU B (kL f s):=by
 unfold kL
 split
 ·exact iU h
 ·cases hm:bY f.st s.l with
  |none=>exact h
  |some m=>
   dsimp only
   split
   ·exact Ua h
   ·split
    ·exact rW h hm
    ·exact O1 h hm
end
section
variable {R C:List HP} {K:KP} {x mc i b p r:Nat} {a:Ca} {s:Cn} {M:Option Addr} {B B' id code:Int} {own:Bool} {m m':Sm} {f:Fm} {y:Ys} {l acc:List Sm} {cf:Cf} {h3:eJ} {z:Yp}
def cH:List (Nat×Nat):= [(0,0),(1,0),(2,0),(3,0),(4,0),(5,0),(6,1),(7,0),(8,0),(9,0),(10,0),(11,0)]
def cI:List (Nat×Nat):= [(0,0),(1,0),(2,0),(3,0),(4,0),(5,0),(6,0),(7,0),(8,1)]
theorem QC {st:Int} {e:Bool} {d:ByteArray} {k on w:Int} {xx:Bool} {c la n:Int} {pa:Option Addr} {pn pc:Nat} {ps:List Pr} (hI:bU B s) (hst:1≤st∧st≤2147483647) (hK:∀M mc,K (.tuple #[]) (b5 x a (kL ⟨3,st,e,d,k,on,w,xx,c,la,n,pa,pn,pc,ps⟩ s) M mc R)):CT 171 #[PO x,.agg #[I6 3,I6 st,.bool e,.string d,I6 k,I6 on,I6 w,.bool xx,I6 c,I6 la,I6 n,.slice pa pn pc]] (b5 x a s M mc R) K:=by
 have htl:=hI.tr.len
 obtain⟨rk,hrk⟩:=hI.tr.rk
 unfold kL at hK
 dsimp only at hK
 dsimp only[b5,nW]
 by_cases h0:on=st
 ·rw[if_pos ⟨rfl,h0⟩] at hK
  cases hm:bY st s.l with
  |none=>
   refine aH Tryz.func171 ?_
   repeat' (first|refine Bc ?_|refine dw cH ?_|refine dw cI ?_|refine w5 ?_ ?_|((refine bh fun h=>?_) <;> try exact w6 h)|(refine aE fun hA=>?_;subst hA)|intro _|(show aA _ 192 _ _ _;refine CA (h:=mW (l:=s.l) hI.sm hm ?_))|(show aA _ 79 _ _ _;refine CA (h:=dO (x:=x) (a:=a) (s:=s) hI (by decide) (by decide) (fun _ _=>?_))))
   all_goals(refine aC ?_;exact aB (hK _ _))
  |some m=>
   obtain⟨hi,_⟩:=bA hm
   refine aH Tryz.func171 ?_
   repeat' (first|refine Bc ?_|refine dw cH ?_|refine dw cI ?_|refine w5 ?_ ?_|((refine bh fun h=>?_) <;> try exact w6 h)|(refine aE fun hA=>?_;subst hA)|intro _|(show aA _ 192 _ _ _;refine CA (h:=f5 (l:=s.l) hI.sm hm (fun _=>?_)))|(show aA _ 79 _ _ _;refine CA (h:=aA.ent (d8 (x:=x) (a:=a) (s:=s) (M:=M) (mc:=mc) (R:=R) hi) (dO hI (by decide) (by decide) (fun _ _=>?_)))))
   all_goals(refine aC ?_;exact aB (hK _ _))
 ·rw[if_neg (fun q=>h0 q.2)] at hK
  cases hm:bY st s.l with
  |none=>
   rw[hm] at hK
   refine aH Tryz.func171 ?_
   repeat' (first|refine Bc ?_|refine dw cH ?_|refine dw cI ?_|refine w5 ?_ ?_|((refine bh fun h=>?_) <;> try exact w6 h)|(refine aE fun hA=>?_;subst hA)|intro _|(show aA _ 192 _ _ _;refine CA (h:=mW (l:=s.l) hI.sm hm ?_)))
   all_goals(refine aC ?_;exact aB (hK _ _))
  |some m=>
   rw[hm] at hK
   dsimp only at hK
   obtain⟨hi,_⟩:=bA hm
   rw[if_pos rfl] at hK
   refine aH Tryz.func171 ?_
   repeat' (first|refine Bc ?_|refine dw cH ?_|refine dw cI ?_|refine w5 ?_ ?_|((refine bh fun h=>?_) <;> try exact w6 h)|(refine aE fun hA=>?_;subst hA)|intro _|(show aA _ 192 _ _ _;refine CA (h:=f5 (l:=s.l) hI.sm hm (fun _=>?_)))|(show aA _ 262 _ _ _;refine CA (h:=Kl (s:=s.tr) hI.tr.kok (by omega) hrk ?_)))
   all_goals(refine aC ?_;exact aK (aG.trans (by exact aZ) ((d8 (x:=x) (a:=a) (s:= { s with tr:=kC st on w xx s.tr }) (M:=M) (mc:=mc) (R:=R) hi))) (hK _ _))
theorem OV {st:Int} {e:Bool} {d:ByteArray} {k on w:Int} {xx:Bool} {c la n:Int} {pa:Option Addr} {pn pc:Nat} {ps:List Pr} (hI:bU B s) (hst:1≤st∧st≤2147483647) (hK:∀M mc,K (.tuple #[]) (b5 x a (kL ⟨4,st,e,d,k,on,w,xx,c,la,n,pa,pn,pc,ps⟩ s) M mc R)):CT 171 #[PO x,.agg #[I6 4,I6 st,.bool e,.string d,I6 k,I6 on,I6 w,.bool xx,I6 c,I6 la,I6 n,.slice pa pn pc]] (b5 x a s M mc R) K:=by
 have htl:=hI.tr.len
 obtain⟨rk,hrk⟩:=hI.tr.rk
 unfold kL at hK
 dsimp only at hK
 dsimp only[b5,nW]
 rw[if_neg (fun q:(4:Int)=3∧_=>absurd q.1 (by decide))] at hK
 cases hm:bY st s.l with
 |none=>
  rw[hm] at hK
  refine aH Tryz.func171 ?_
  repeat' (first|refine Bc ?_|refine dw cH ?_|refine dw cI ?_|refine w5 ?_ ?_|((refine bh fun h=>?_) <;> try exact w6 h)|(refine aE fun hA=>?_;subst hA)|intro _|(show aA _ 192 _ _ _;refine CA (h:=mW (l:=s.l) hI.sm hm ?_)))
  all_goals(refine aC ?_;exact aB (hK _ _))
 |some m=>
  rw[hm] at hK
  dsimp only at hK
  obtain⟨hi,_⟩:=bA hm
  rw[if_neg (by decide),if_pos rfl] at hK
  refine aH Tryz.func171 ?_
  repeat' (first|refine Bc ?_|refine dw cH ?_|refine dw cI ?_|refine w5 ?_ ?_|((refine bh fun h=>?_) <;> try exact w6 h)|(refine aE fun hA=>?_;subst hA)|intro _|(show aA _ 192 _ _ _;refine CA (h:=f5 (l:=s.l) hI.sm hm (fun _=>?_)))|(show aA _ 254 _ _ _;refine CA (h:=BL (x:=x) (a:=a) (s:=s) (M:=M) (mc:=mc) (m:=m) hI hm (.inr rfl) (fun _ _=>?_))))
  all_goals(refine aC ?_;exact aB (hK _ _))
theorem Mw {st:Int} {e:Bool} {d:ByteArray} {k on w:Int} {xx:Bool} {c la n:Int} {pa:Option Addr} {pn pc:Nat} {ps:List Pr} (hI:bU B s) (hst:1≤st∧st≤2147483647) (hK:∀M mc,K (.tuple #[]) (b5 x a (kL ⟨10,st,e,d,k,on,w,xx,c,la,n,pa,pn,pc,ps⟩ s) M mc R)):CT 171 #[PO x,.agg #[I6 10,I6 st,.bool e,.string d,I6 k,I6 on,I6 w,.bool xx,I6 c,I6 la,I6 n,.slice pa pn pc]] (b5 x a s M mc R) K:=by
 have htl:=hI.tr.len
 obtain⟨rk,hrk⟩:=hI.tr.rk
 unfold kL at hK
 dsimp only at hK
 dsimp only[b5,nW]
 rw[if_neg (fun q:(10:Int)=3∧_=>absurd q.1 (by decide))] at hK
 cases hm:bY st s.l with
 |none=>
  rw[hm] at hK
  refine aH Tryz.func171 ?_
  repeat' (first|refine Bc ?_|refine dw cH ?_|refine dw cI ?_|refine w5 ?_ ?_|((refine bh fun h=>?_) <;> try exact w6 h)|(refine aE fun hA=>?_;subst hA)|intro _|(show aA _ 192 _ _ _;refine CA (h:=mW (l:=s.l) hI.sm hm ?_)))
  all_goals(refine aC ?_;exact aB (hK _ _))
 |some m=>
  rw[hm] at hK
  dsimp only at hK
  obtain⟨hi,_⟩:=bA hm
  rw[if_neg (by decide),if_neg (by decide)] at hK
  refine aH Tryz.func171 ?_
  repeat' (first|refine Bc ?_|refine dw cH ?_|refine dw cI ?_|refine w5 ?_ ?_|((refine bh fun h=>?_) <;> try exact w6 h)|(refine aE fun hA=>?_;subst hA)|intro _|(show aA _ 192 _ _ _;refine CA (h:=f5 (l:=s.l) hI.sm hm (fun _=>?_)))|(show aA _ 263 _ _ _;refine CA (h:=Es (x:=x) (a:=a) (s:=s) (M:=M) (mc:=mc) (m:=m) (t:=10) (ps:=ps) hI (by decide) hst hm (fun _ _=>?_))))
  all_goals(refine aC ?_;exact aB (hK _ _))
theorem Mh {st:Int} {e:Bool} {d:ByteArray} {k on w:Int} {xx:Bool} {c la n:Int} {pa:Option Addr} {pn pc:Nat} {ps:List Pr} (hI:bU B s) (hst:1≤st∧st≤2147483647) (hK:∀M mc,K (.tuple #[]) (b5 x a (kL ⟨11,st,e,d,k,on,w,xx,c,la,n,pa,pn,pc,ps⟩ s) M mc R)):CT 171 #[PO x,.agg #[I6 11,I6 st,.bool e,.string d,I6 k,I6 on,I6 w,.bool xx,I6 c,I6 la,I6 n,.slice pa pn pc]] (b5 x a s M mc R) K:=by
 have htl:=hI.tr.len
 obtain⟨rk,hrk⟩:=hI.tr.rk
 unfold kL at hK
 dsimp only at hK
 dsimp only[b5,nW]
 rw[if_neg (fun q:(11:Int)=3∧_=>absurd q.1 (by decide))] at hK
 cases hm:bY st s.l with
 |none=>
  rw[hm] at hK
  refine aH Tryz.func171 ?_
  repeat' (first|refine Bc ?_|refine dw cH ?_|refine dw cI ?_|refine w5 ?_ ?_|((refine bh fun h=>?_) <;> try exact w6 h)|(refine aE fun hA=>?_;subst hA)|intro _|(show aA _ 192 _ _ _;refine CA (h:=mW (l:=s.l) hI.sm hm ?_)))
  all_goals(refine aC ?_;exact aB (hK _ _))
 |some m=>
  rw[hm] at hK
  dsimp only at hK
  obtain⟨hi,_⟩:=bA hm
  rw[if_neg (by decide),if_neg (by decide)] at hK
  refine aH Tryz.func171 ?_
  repeat' (first|refine Bc ?_|refine dw cH ?_|refine dw cI ?_|refine w5 ?_ ?_|((refine bh fun h=>?_) <;> try exact w6 h)|(refine aE fun hA=>?_;subst hA)|intro _|(show aA _ 192 _ _ _;refine CA (h:=f5 (l:=s.l) hI.sm hm (fun _=>?_)))|(show aA _ 263 _ _ _;refine CA (h:=Es (x:=x) (a:=a) (s:=s) (M:=M) (mc:=mc) (m:=m) (t:=11) (ps:=ps) hI (by decide) hst hm (fun _ _=>?_))))
  all_goals(refine aC ?_;exact aB (hK _ _))
theorem hO (h:bU B s):bU B { s with bt:=bO s.bt s.now }:=
 { h with
   bt:=by
    have h1:=h.bt
    have h2:=h.now
    show(0≤(bO s.bt s.now).no∧(bO s.bt s.now).no≤B)∧(0≤(bO s.bt s.now).he∧(bO s.bt s.now).he≤B)∧(0≤(bO s.bt s.now).si∧(bO s.bt s.now).si≤B)∧0≤(bO s.bt s.now).nn∧(bO s.bt s.now).nn≤B
    unfold bO
    dsimp only
    omega }
theorem Acm {d:ByteArray} (h:bU B s):bU B { s with bt:=k6 s.bt s.now d }:=
 { h with
   bt:=by
    have h1:=h.bt
    have h2:=h.now
    show(0≤(k6 s.bt s.now d).no∧(k6 s.bt s.now d).no≤B)∧(0≤(k6 s.bt s.now d).he∧(k6 s.bt s.now d).he≤B)∧(0≤(k6 s.bt s.now d).si∧(k6 s.bt s.now d).si≤B)∧0≤(k6 s.bt s.now d).nn∧(k6 s.bt s.now d).nn≤B
    unfold k6
    split
    ·dsimp only;omega
    ·omega }
theorem Aii (h:bU B s):Agi s.bt:=by
 have h1:=h.bt
 have h2:=h.bb
 unfold Agi
 omega
theorem i0 (hK:K (.bool (!wD s id)) (b5 x a s M mc R)):CT 169 #[PO x,I6 id] (b5 x a s M mc R) K:=by
 dsimp only[b5,nW] at hK ⊢
 refine aH Tryz.func169 ?_
 repeat' (first|refine Jm ?_|refine w5 ?_ ?_|((refine bh fun h=>?_) <;> try exact w6 h)|(refine aE fun hA=>?_;subst hA)|intro _|(show aA _ 218 _ _ _;refine CA (h:=C6 (sd:=s.sd) (nx:=s.nx) (la:=s.la) ?_)))
 all_goals(refine aC ?_;exact aB (hK))
theorem CU (h:bU B s) (hB:B+300≤250000000) (hr:cZ f):bU (B+300) (bT f s):=by
 have hh:=hO h
 have hm:=hh.mono (B':=B+300) (by omega) hB
 unfold bT fX
 split
 ·exact Aa0 hm
 ·split
  ·exact Xq hm
  ·split
   ·exact Hi hm
   ·split
    ·exact Acm hm
    ·split
     ·exact Acs hm
     ·split
      ·exact Sy hh hB
      ·split
       ·exact X9 hm
       ·split
        ·exact iU hm
        ·split
         ·rename_i ht
          exact Aco hh hB (hr.2.2.2.2.2.2.2.2.2.2.2.2.1 (by omega))
         ·exact WA hm
end
section
variable {R C:List HP} {K:KP} {x mc i b p r:Nat} {a:Ca} {s:Cn} {M:Option Addr} {B B' id code:Int} {own:Bool} {m m':Sm} {f:Fm} {y:Ys} {l acc:List Sm} {cf:Cf} {h3:eJ} {z:Yp}
def fH:List (Nat×Nat):= [(0,0),(1,0),(2,0),(3,0),(4,0),(5,0),(6,0),(7,0),(8,1)]
def eY:List (Nat×Nat):= [(0,0),(1,0),(2,0),(3,0),(4,0),(5,0),(6,0),(7,0),(8,0),(9,0),(10,1)]
theorem NG {st:Int} {e:Bool} {d:ByteArray} {k on w:Int} {xx:Bool} {c la n:Int} {pa:Option Addr} {pn pc:Nat} {ps:List Pr} (hI:bU B s) (hB:B+300≤249000000) (hr:cZ ⟨5,st,e,d,k,on,w,xx,c,la,n,pa,pn,pc,ps⟩) (hv:dT R pa rE ps) (hn:ps.length=pn) (hK:∀M mc,K (.tuple #[]) (b5 x a (bT ⟨5,st,e,d,k,on,w,xx,c,la,n,pa,pn,pc,ps⟩ s) M mc R)):CT 77 #[PO x,.agg #[I6 5,I6 st,.bool e,.string d,I6 k,I6 on,I6 w,.bool xx,I6 c,I6 la,I6 n,.slice pa pn pc]] (b5 x a s M mc R) K:=by
 have hI1:=hO hI
 obtain⟨r1,r2,r3,r4,r5,r6,r7,r8,r9,r10,r11,r12,r13,r14,r15,r16,r17,r18,r19,r20,r21⟩:=hr
 dsimp only at r1 r2 r3 r4 r13 r15 r21
 have hps:pn≤1000000:=by omega
 unfold bT fX at hK
 dsimp only at hK
 rw[if_pos rfl] at hK
 dsimp only[b5,nW]
 refine aH Tryz.func77 ?_
 repeat' (first|refine zQ ?_|refine dw fH ?_|refine dw eY ?_|refine w5 ?_ ?_|((refine bh fun h=>?_) <;> try exact w6 h)|(refine aE fun hA=>?_;subst hA)|intro _|(show aA _ 161 _ _ _;refine CA (h:=dI (b:=s.bt) (now:=s.now) ?_))|(show aA _ 162 _ _ _;refine CA (h:=WF (x:=x) (a:=a) (s:= { s with bt:=bO s.bt s.now }) (R:=R) (ps:=ps) hI1 hv hn hps (fun _ _=>?_))))
 all_goals(refine aC ?_;exact aB (hK _ _))
theorem LX {st:Int} {e:Bool} {d:ByteArray} {k on w:Int} {xx:Bool} {c la n:Int} {pa:Option Addr} {pn pc:Nat} {ps:List Pr} (hI:bU B s) (hB:B+300≤249000000) (hr:cZ ⟨6,st,e,d,k,on,w,xx,c,la,n,pa,pn,pc,ps⟩) (hv:dT R pa rE ps) (hn:ps.length=pn) (hK:∀M mc,K (.tuple #[]) (b5 x a (bT ⟨6,st,e,d,k,on,w,xx,c,la,n,pa,pn,pc,ps⟩ s) M mc R)):CT 77 #[PO x,.agg #[I6 6,I6 st,.bool e,.string d,I6 k,I6 on,I6 w,.bool xx,I6 c,I6 la,I6 n,.slice pa pn pc]] (b5 x a s M mc R) K:=by
 have hI1:=hO hI
 obtain⟨r1,r2,r3,r4,r5,r6,r7,r8,r9,r10,r11,r12,r13,r14,r15,r16,r17,r18,r19,r20,r21⟩:=hr
 dsimp only at r1 r2 r3 r4 r13 r15 r21
 have hps:pn≤1000000:=by omega
 unfold bT fX at hK
 dsimp only at hK
 rw[if_neg (show ¬(6:Int)=5 by decide),if_pos rfl] at hK
 dsimp only[b5,nW]
 refine aH Tryz.func77 ?_
 repeat' (first|refine zQ ?_|refine dw fH ?_|refine dw eY ?_|refine w5 ?_ ?_|((refine bh fun h=>?_) <;> try exact w6 h)|(refine aE fun hA=>?_;subst hA)|intro _|(show aA _ 161 _ _ _;refine CA (h:=dI (b:=s.bt) (now:=s.now) ?_))|(show aA _ 163 _ _ _;refine CA (h:=SD (x:=x) (a:=a) (s:= { s with bt:=bO s.bt s.now }) hI1 (fun _ _=>?_))))
 all_goals(refine aC ?_;exact aB (hK _ _))
theorem LV {st:Int} {e:Bool} {d:ByteArray} {k on w:Int} {xx:Bool} {c la n:Int} {pa:Option Addr} {pn pc:Nat} {ps:List Pr} (hI:bU B s) (hB:B+300≤249000000) (hr:cZ ⟨7,st,e,d,k,on,w,xx,c,la,n,pa,pn,pc,ps⟩) (hv:dT R pa rE ps) (hn:ps.length=pn) (hK:∀M mc,K (.tuple #[]) (b5 x a (bT ⟨7,st,e,d,k,on,w,xx,c,la,n,pa,pn,pc,ps⟩ s) M mc R)):CT 77 #[PO x,.agg #[I6 7,I6 st,.bool e,.string d,I6 k,I6 on,I6 w,.bool xx,I6 c,I6 la,I6 n,.slice pa pn pc]] (b5 x a s M mc R) K:=by
 have hI1:=hO hI
 obtain⟨r1,r2,r3,r4,r5,r6,r7,r8,r9,r10,r11,r12,r13,r14,r15,r16,r17,r18,r19,r20,r21⟩:=hr
 dsimp only at r1 r2 r3 r4 r13 r15 r21
 have hps:pn≤1000000:=by omega
 unfold bT fX at hK
 dsimp only at hK
 rw[if_neg (show ¬(7:Int)=5 by decide),if_neg (show ¬(7:Int)=6 by decide),if_pos rfl] at hK
 dsimp only[b5,nW]
 refine aH Tryz.func77 ?_
 repeat' (first|refine zQ ?_|refine dw fH ?_|refine dw eY ?_|refine w5 ?_ ?_|((refine bh fun h=>?_) <;> try exact w6 h)|(refine aE fun hA=>?_;subst hA)|intro _|(show aA _ 161 _ _ _;refine CA (h:=dI (b:=s.bt) (now:=s.now) ?_))|(show aA _ 164 _ _ _;refine CA (h:=Bh (x:=x) (a:=a) (s:= { s with bt:=bO s.bt s.now }) (f:=wA 8 0 d false) hI1 rfl rfl rfl (fun _ _=>?_))))
 all_goals(refine aC ?_;exact aB (hK _ _))
theorem NH {st:Int} {e:Bool} {d:ByteArray} {k on w:Int} {xx:Bool} {c la n:Int} {pa:Option Addr} {pn pc:Nat} {ps:List Pr} (hI:bU B s) (hB:B+300≤249000000) (hr:cZ ⟨8,st,e,d,k,on,w,xx,c,la,n,pa,pn,pc,ps⟩) (hv:dT R pa rE ps) (hn:ps.length=pn) (hK:∀M mc,K (.tuple #[]) (b5 x a (bT ⟨8,st,e,d,k,on,w,xx,c,la,n,pa,pn,pc,ps⟩ s) M mc R)):CT 77 #[PO x,.agg #[I6 8,I6 st,.bool e,.string d,I6 k,I6 on,I6 w,.bool xx,I6 c,I6 la,I6 n,.slice pa pn pc]] (b5 x a s M mc R) K:=by
 have hI1:=hO hI
 obtain⟨r1,r2,r3,r4,r5,r6,r7,r8,r9,r10,r11,r12,r13,r14,r15,r16,r17,r18,r19,r20,r21⟩:=hr
 dsimp only at r1 r2 r3 r4 r13 r15 r21
 have hps:pn≤1000000:=by omega
 unfold bT fX at hK
 dsimp only at hK
 rw[if_neg (show ¬(8:Int)=5 by decide),if_neg (show ¬(8:Int)=6 by decide),if_neg (show ¬(8:Int)=7 by decide),if_pos rfl] at hK
 dsimp only[b5,nW]
 refine aH Tryz.func77 ?_
 repeat' (first|refine zQ ?_|refine dw fH ?_|refine dw eY ?_|refine w5 ?_ ?_|((refine bh fun h=>?_) <;> try exact w6 h)|(refine aE fun hA=>?_;subst hA)|intro _|(show aA _ 161 _ _ _;refine CA (h:=dI (b:=s.bt) (now:=s.now) ?_))|(show aA _ 165 _ _ _;refine CA (h:=WU (b:=bO s.bt s.now) (Aii hI1) (fun _=>?_))))
 all_goals(refine aC ?_;exact aB (hK _ _))
theorem MU {st:Int} {e:Bool} {d:ByteArray} {k on w:Int} {xx:Bool} {c la n:Int} {pa:Option Addr} {pn pc:Nat} {ps:List Pr} (hI:bU B s) (hB:B+300≤249000000) (hr:cZ ⟨9,st,e,d,k,on,w,xx,c,la,n,pa,pn,pc,ps⟩) (hv:dT R pa rE ps) (hn:ps.length=pn) (hK:∀M mc,K (.tuple #[]) (b5 x a (bT ⟨9,st,e,d,k,on,w,xx,c,la,n,pa,pn,pc,ps⟩ s) M mc R)):CT 77 #[PO x,.agg #[I6 9,I6 st,.bool e,.string d,I6 k,I6 on,I6 w,.bool xx,I6 c,I6 la,I6 n,.slice pa pn pc]] (b5 x a s M mc R) K:=by
 have hI1:=hO hI
 obtain⟨r1,r2,r3,r4,r5,r6,r7,r8,r9,r10,r11,r12,r13,r14,r15,r16,r17,r18,r19,r20,r21⟩:=hr
 dsimp only at r1 r2 r3 r4 r13 r15 r21
 have hps:pn≤1000000:=by omega
 unfold bT fX at hK
 dsimp only at hK
 rw[if_neg (show ¬(9:Int)=5 by decide),if_neg (show ¬(9:Int)=6 by decide),if_neg (show ¬(9:Int)=7 by decide),if_neg (show ¬(9:Int)=8 by decide),if_pos rfl] at hK
 dsimp only[b5,nW]
 refine aH Tryz.func77 ?_
 repeat' (first|refine zQ ?_|refine dw fH ?_|refine dw eY ?_|refine w5 ?_ ?_|((refine bh fun h=>?_) <;> try exact w6 h)|(refine aE fun hA=>?_;subst hA)|intro _|(show aA _ 161 _ _ _;refine CA (h:=dI (b:=s.bt) (now:=s.now) ?_))|(show aA _ 166 _ _ _;refine CA (h:=W7 (x:=x) (a:=a) (s:= { s with bt:=bO s.bt s.now }) (ps:=ps) hI1 (fun _ _=>?_))))
 all_goals(refine aC ?_;exact aB (hK _ _))
theorem Nc {st:Int} {e:Bool} {d:ByteArray} {k on w:Int} {xx:Bool} {c la n:Int} {pa:Option Addr} {pn pc:Nat} {ps:List Pr} (hI:bU B s) (hB:B+300≤249000000) (hr:cZ ⟨2,st,e,d,k,on,w,xx,c,la,n,pa,pn,pc,ps⟩) (hv:dT R pa rE ps) (hn:ps.length=pn) (hK:∀M mc,K (.tuple #[]) (b5 x a (bT ⟨2,st,e,d,k,on,w,xx,c,la,n,pa,pn,pc,ps⟩ s) M mc R)):CT 77 #[PO x,.agg #[I6 2,I6 st,.bool e,.string d,I6 k,I6 on,I6 w,.bool xx,I6 c,I6 la,I6 n,.slice pa pn pc]] (b5 x a s M mc R) K:=by
 have hI1:=hO hI
 obtain⟨r1,r2,r3,r4,r5,r6,r7,r8,r9,r10,r11,r12,r13,r14,r15,r16,r17,r18,r19,r20,r21⟩:=hr
 dsimp only at r1 r2 r3 r4 r13 r15 r21
 have hps:pn≤1000000:=by omega
 unfold bT fX at hK
 dsimp only at hK
 rw[if_neg (show ¬(2:Int)=5 by decide),if_neg (show ¬(2:Int)=6 by decide),if_neg (show ¬(2:Int)=7 by decide),if_neg (show ¬(2:Int)=8 by decide),if_neg (show ¬(2:Int)=9 by decide),if_pos rfl] at hK
 dsimp only[b5,nW]
 refine aH Tryz.func77 ?_
 repeat' (first|refine zQ ?_|refine dw fH ?_|refine dw eY ?_|refine w5 ?_ ?_|((refine bh fun h=>?_) <;> try exact w6 h)|(refine aE fun hA=>?_;subst hA)|intro _|(show aA _ 161 _ _ _;refine CA (h:=dI (b:=s.bt) (now:=s.now) ?_))|(show aA _ 167 _ _ _;refine CA (h:=PI (x:=x) (a:=a) (s:= { s with bt:=bO s.bt s.now }) (ps:=ps) hI1 (by omega) (r15 rfl) (by omega) (fun _ _=>?_))))
 all_goals(refine aC ?_;exact aB (hK _ _))
end
section
variable {R C:List HP} {K:KP} {x mc i b p r:Nat} {a:Ca} {s:Cn} {M:Option Addr} {B B' id code:Int} {own:Bool} {m m':Sm} {f:Fm} {y:Ys} {l acc:List Sm} {cf:Cf} {h3:eJ} {z:Yp}
def bN:List (Nat×Nat):= [(0,0),(1,0),(2,0),(3,0),(4,0),(5,0),(6,0),(7,0),(8,1)]
def bK:List (Nat×Nat):= [(0,0),(1,0),(2,0),(3,0),(4,0),(5,0),(6,0),(7,0),(8,0),(9,0),(10,1)]
theorem LS {st:Int} {e:Bool} {d:ByteArray} {k on w:Int} {xx:Bool} {c la n:Int} {pa:Option Addr} {pn pc:Nat} {ps:List Pr} (hI:bU B s) (hB:B+300≤249000000) (hr:cZ ⟨0,st,e,d,k,on,w,xx,c,la,n,pa,pn,pc,ps⟩) (hv:dT R pa rE ps) (hn:ps.length=pn) (hK:∀M mc,K (.tuple #[]) (b5 x a (bT ⟨0,st,e,d,k,on,w,xx,c,la,n,pa,pn,pc,ps⟩ s) M mc R)):CT 77 #[PO x,.agg #[I6 0,I6 st,.bool e,.string d,I6 k,I6 on,I6 w,.bool xx,I6 c,I6 la,I6 n,.slice pa pn pc]] (b5 x a s M mc R) K:=by
 have hI1:=hO hI
 obtain⟨r1,r2,r3,r4,r5,r6,r7,r8,r9,r10,r11,r12,r13,r14,r15,r16,r17,r18,r19,r20,r21⟩:=hr
 dsimp only at r1 r2 r3 r4 r13 r15 r21
 have hps:pn≤1000000:=by omega
 unfold bT fX at hK
 dsimp only at hK
 rw[if_neg (show ¬(0:Int)=5 by decide),if_neg (show ¬(0:Int)=6 by decide),if_neg (show ¬(0:Int)=7 by decide),if_neg (show ¬(0:Int)=8 by decide),if_neg (show ¬(0:Int)=9 by decide),if_neg (show ¬(0:Int)=2 by decide)] at hK
 dsimp only[b5,nW]
 by_cases h0:st=0
 ·exfalso;omega
 ·rw[if_neg h0] at hK
  cases hp:wD { s with bt:=bO s.bt s.now } st
  ·rw[if_pos hp] at hK
   refine aH Tryz.func77 ?_
   repeat' (first|refine zQ ?_|refine dw bN ?_|refine dw bK ?_|refine w5 ?_ ?_|((refine bh fun h=>?_) <;> try exact w6 h)|(refine aE fun hA=>?_;subst hA)|intro _|(show aA _ 161 _ _ _;refine CA (h:=dI (b:=s.bt) (now:=s.now) ?_))|(show aA _ 169 _ _ _;refine CA (h:=i0 (x:=x) (a:=a) (s:= { s with bt:=bO s.bt s.now }) (M:=M) (mc:=mc) ?_);rw[hp])|(show aA _ 79 _ _ _;refine CA (h:=dO (x:=x) (a:=a) (s:= { s with bt:=bO s.bt s.now }) hI1 (by decide) (by decide) (fun _ _=>?_))))
   all_goals(refine aC ?_;exact aB (hK _ _))
  ·rw[if_neg (by rw[hp];decide)] at hK
   rw[if_pos (by decide)] at hK
   refine aH Tryz.func77 ?_
   repeat' (first|refine zQ ?_|refine dw bN ?_|refine dw bK ?_|refine w5 ?_ ?_|((refine bh fun h=>?_) <;> try exact w6 h)|(refine aE fun hA=>?_;subst hA)|intro _|(show aA _ 161 _ _ _;refine CA (h:=dI (b:=s.bt) (now:=s.now) ?_))|(show aA _ 169 _ _ _;refine CA (h:=i0 (x:=x) (a:=a) (s:= { s with bt:=bO s.bt s.now }) (M:=M) (mc:=mc) ?_);rw[hp])|(show aA _ 170 _ _ _;refine CA (h:=Tp (x:=x) (a:=a) (s:= { s with bt:=bO s.bt s.now }) (ps:=ps) hI1 (by omega) (by omega) (r13 (by decide)) (fun _ _=>?_))))
   all_goals(refine aC ?_;exact aB (hK _ _))
theorem M6 {st:Int} {e:Bool} {d:ByteArray} {k on w:Int} {xx:Bool} {c la n:Int} {pa:Option Addr} {pn pc:Nat} {ps:List Pr} (hI:bU B s) (hB:B+300≤249000000) (hr:cZ ⟨1,st,e,d,k,on,w,xx,c,la,n,pa,pn,pc,ps⟩) (hv:dT R pa rE ps) (hn:ps.length=pn) (hK:∀M mc,K (.tuple #[]) (b5 x a (bT ⟨1,st,e,d,k,on,w,xx,c,la,n,pa,pn,pc,ps⟩ s) M mc R)):CT 77 #[PO x,.agg #[I6 1,I6 st,.bool e,.string d,I6 k,I6 on,I6 w,.bool xx,I6 c,I6 la,I6 n,.slice pa pn pc]] (b5 x a s M mc R) K:=by
 have hI1:=hO hI
 obtain⟨r1,r2,r3,r4,r5,r6,r7,r8,r9,r10,r11,r12,r13,r14,r15,r16,r17,r18,r19,r20,r21⟩:=hr
 dsimp only at r1 r2 r3 r4 r13 r15 r21
 have hps:pn≤1000000:=by omega
 unfold bT fX at hK
 dsimp only at hK
 rw[if_neg (show ¬(1:Int)=5 by decide),if_neg (show ¬(1:Int)=6 by decide),if_neg (show ¬(1:Int)=7 by decide),if_neg (show ¬(1:Int)=8 by decide),if_neg (show ¬(1:Int)=9 by decide),if_neg (show ¬(1:Int)=2 by decide)] at hK
 dsimp only[b5,nW]
 by_cases h0:st=0
 ·exfalso;omega
 ·rw[if_neg h0] at hK
  cases hp:wD { s with bt:=bO s.bt s.now } st
  ·rw[if_pos hp] at hK
   refine aH Tryz.func77 ?_
   repeat' (first|refine zQ ?_|refine dw bN ?_|refine dw bK ?_|refine w5 ?_ ?_|((refine bh fun h=>?_) <;> try exact w6 h)|(refine aE fun hA=>?_;subst hA)|intro _|(show aA _ 161 _ _ _;refine CA (h:=dI (b:=s.bt) (now:=s.now) ?_))|(show aA _ 169 _ _ _;refine CA (h:=i0 (x:=x) (a:=a) (s:= { s with bt:=bO s.bt s.now }) (M:=M) (mc:=mc) ?_);rw[hp])|(show aA _ 79 _ _ _;refine CA (h:=dO (x:=x) (a:=a) (s:= { s with bt:=bO s.bt s.now }) hI1 (by decide) (by decide) (fun _ _=>?_))))
   all_goals(refine aC ?_;exact aB (hK _ _))
  ·rw[if_neg (by rw[hp];decide)] at hK
   rw[if_pos (by decide)] at hK
   refine aH Tryz.func77 ?_
   repeat' (first|refine zQ ?_|refine dw bN ?_|refine dw bK ?_|refine w5 ?_ ?_|((refine bh fun h=>?_) <;> try exact w6 h)|(refine aE fun hA=>?_;subst hA)|intro _|(show aA _ 161 _ _ _;refine CA (h:=dI (b:=s.bt) (now:=s.now) ?_))|(show aA _ 169 _ _ _;refine CA (h:=i0 (x:=x) (a:=a) (s:= { s with bt:=bO s.bt s.now }) (M:=M) (mc:=mc) ?_);rw[hp])|(show aA _ 170 _ _ _;refine CA (h:=Sx (x:=x) (a:=a) (s:= { s with bt:=bO s.bt s.now }) (ps:=ps) hI1 (by omega) (by omega) (r13 (by decide)) (fun _ _=>?_))))
   all_goals(refine aC ?_;exact aB (hK _ _))
theorem LH {st:Int} {e:Bool} {d:ByteArray} {k on w:Int} {xx:Bool} {c la n:Int} {pa:Option Addr} {pn pc:Nat} {ps:List Pr} (hI:bU B s) (hB:B+300≤249000000) (hr:cZ ⟨3,st,e,d,k,on,w,xx,c,la,n,pa,pn,pc,ps⟩) (hv:dT R pa rE ps) (hn:ps.length=pn) (hK:∀M mc,K (.tuple #[]) (b5 x a (bT ⟨3,st,e,d,k,on,w,xx,c,la,n,pa,pn,pc,ps⟩ s) M mc R)):CT 77 #[PO x,.agg #[I6 3,I6 st,.bool e,.string d,I6 k,I6 on,I6 w,.bool xx,I6 c,I6 la,I6 n,.slice pa pn pc]] (b5 x a s M mc R) K:=by
 have hI1:=hO hI
 obtain⟨r1,r2,r3,r4,r5,r6,r7,r8,r9,r10,r11,r12,r13,r14,r15,r16,r17,r18,r19,r20,r21⟩:=hr
 dsimp only at r1 r2 r3 r4 r13 r15 r21
 have hps:pn≤1000000:=by omega
 unfold bT fX at hK
 dsimp only at hK
 rw[if_neg (show ¬(3:Int)=5 by decide),if_neg (show ¬(3:Int)=6 by decide),if_neg (show ¬(3:Int)=7 by decide),if_neg (show ¬(3:Int)=8 by decide),if_neg (show ¬(3:Int)=9 by decide),if_neg (show ¬(3:Int)=2 by decide)] at hK
 dsimp only[b5,nW]
 by_cases h0:st=0
 ·exfalso;omega
 ·rw[if_neg h0] at hK
  cases hp:wD { s with bt:=bO s.bt s.now } st
  ·rw[if_pos hp] at hK
   refine aH Tryz.func77 ?_
   repeat' (first|refine zQ ?_|refine dw bN ?_|refine dw bK ?_|refine w5 ?_ ?_|((refine bh fun h=>?_) <;> try exact w6 h)|(refine aE fun hA=>?_;subst hA)|intro _|(show aA _ 161 _ _ _;refine CA (h:=dI (b:=s.bt) (now:=s.now) ?_))|(show aA _ 169 _ _ _;refine CA (h:=i0 (x:=x) (a:=a) (s:= { s with bt:=bO s.bt s.now }) (M:=M) (mc:=mc) ?_);rw[hp])|(show aA _ 79 _ _ _;refine CA (h:=dO (x:=x) (a:=a) (s:= { s with bt:=bO s.bt s.now }) hI1 (by decide) (by decide) (fun _ _=>?_))))
   all_goals(refine aC ?_;exact aB (hK _ _))
  ·rw[if_neg (by rw[hp];decide)] at hK
   rw[if_neg (by decide)] at hK
   refine aH Tryz.func77 ?_
   repeat' (first|refine zQ ?_|refine dw bN ?_|refine dw bK ?_|refine w5 ?_ ?_|((refine bh fun h=>?_) <;> try exact w6 h)|(refine aE fun hA=>?_;subst hA)|intro _|(show aA _ 161 _ _ _;refine CA (h:=dI (b:=s.bt) (now:=s.now) ?_))|(show aA _ 169 _ _ _;refine CA (h:=i0 (x:=x) (a:=a) (s:= { s with bt:=bO s.bt s.now }) (M:=M) (mc:=mc) ?_);rw[hp])|(show aA _ 171 _ _ _;refine CA (h:=QC (x:=x) (a:=a) (s:= { s with bt:=bO s.bt s.now }) (ps:=ps) hI1 (by omega) (fun _ _=>?_))))
   all_goals(refine aC ?_;exact aB (hK _ _))
theorem Ms {st:Int} {e:Bool} {d:ByteArray} {k on w:Int} {xx:Bool} {c la n:Int} {pa:Option Addr} {pn pc:Nat} {ps:List Pr} (hI:bU B s) (hB:B+300≤249000000) (hr:cZ ⟨4,st,e,d,k,on,w,xx,c,la,n,pa,pn,pc,ps⟩) (hv:dT R pa rE ps) (hn:ps.length=pn) (hK:∀M mc,K (.tuple #[]) (b5 x a (bT ⟨4,st,e,d,k,on,w,xx,c,la,n,pa,pn,pc,ps⟩ s) M mc R)):CT 77 #[PO x,.agg #[I6 4,I6 st,.bool e,.string d,I6 k,I6 on,I6 w,.bool xx,I6 c,I6 la,I6 n,.slice pa pn pc]] (b5 x a s M mc R) K:=by
 have hI1:=hO hI
 obtain⟨r1,r2,r3,r4,r5,r6,r7,r8,r9,r10,r11,r12,r13,r14,r15,r16,r17,r18,r19,r20,r21⟩:=hr
 dsimp only at r1 r2 r3 r4 r13 r15 r21
 have hps:pn≤1000000:=by omega
 unfold bT fX at hK
 dsimp only at hK
 rw[if_neg (show ¬(4:Int)=5 by decide),if_neg (show ¬(4:Int)=6 by decide),if_neg (show ¬(4:Int)=7 by decide),if_neg (show ¬(4:Int)=8 by decide),if_neg (show ¬(4:Int)=9 by decide),if_neg (show ¬(4:Int)=2 by decide)] at hK
 dsimp only[b5,nW]
 by_cases h0:st=0
 ·exfalso;omega
 ·rw[if_neg h0] at hK
  cases hp:wD { s with bt:=bO s.bt s.now } st
  ·rw[if_pos hp] at hK
   refine aH Tryz.func77 ?_
   repeat' (first|refine zQ ?_|refine dw bN ?_|refine dw bK ?_|refine w5 ?_ ?_|((refine bh fun h=>?_) <;> try exact w6 h)|(refine aE fun hA=>?_;subst hA)|intro _|(show aA _ 161 _ _ _;refine CA (h:=dI (b:=s.bt) (now:=s.now) ?_))|(show aA _ 169 _ _ _;refine CA (h:=i0 (x:=x) (a:=a) (s:= { s with bt:=bO s.bt s.now }) (M:=M) (mc:=mc) ?_);rw[hp])|(show aA _ 79 _ _ _;refine CA (h:=dO (x:=x) (a:=a) (s:= { s with bt:=bO s.bt s.now }) hI1 (by decide) (by decide) (fun _ _=>?_))))
   all_goals(refine aC ?_;exact aB (hK _ _))
  ·rw[if_neg (by rw[hp];decide)] at hK
   rw[if_neg (by decide)] at hK
   refine aH Tryz.func77 ?_
   repeat' (first|refine zQ ?_|refine dw bN ?_|refine dw bK ?_|refine w5 ?_ ?_|((refine bh fun h=>?_) <;> try exact w6 h)|(refine aE fun hA=>?_;subst hA)|intro _|(show aA _ 161 _ _ _;refine CA (h:=dI (b:=s.bt) (now:=s.now) ?_))|(show aA _ 169 _ _ _;refine CA (h:=i0 (x:=x) (a:=a) (s:= { s with bt:=bO s.bt s.now }) (M:=M) (mc:=mc) ?_);rw[hp])|(show aA _ 171 _ _ _;refine CA (h:=OV (x:=x) (a:=a) (s:= { s with bt:=bO s.bt s.now }) (ps:=ps) hI1 (by omega) (fun _ _=>?_))))
   all_goals(refine aC ?_;exact aB (hK _ _))
theorem J1 {st:Int} {e:Bool} {d:ByteArray} {k on w:Int} {xx:Bool} {c la n:Int} {pa:Option Addr} {pn pc:Nat} {ps:List Pr} (hI:bU B s) (hB:B+300≤249000000) (hr:cZ ⟨10,st,e,d,k,on,w,xx,c,la,n,pa,pn,pc,ps⟩) (hv:dT R pa rE ps) (hn:ps.length=pn) (hK:∀M mc,K (.tuple #[]) (b5 x a (bT ⟨10,st,e,d,k,on,w,xx,c,la,n,pa,pn,pc,ps⟩ s) M mc R)):CT 77 #[PO x,.agg #[I6 10,I6 st,.bool e,.string d,I6 k,I6 on,I6 w,.bool xx,I6 c,I6 la,I6 n,.slice pa pn pc]] (b5 x a s M mc R) K:=by
 have hI1:=hO hI
 obtain⟨r1,r2,r3,r4,r5,r6,r7,r8,r9,r10,r11,r12,r13,r14,r15,r16,r17,r18,r19,r20,r21⟩:=hr
 dsimp only at r1 r2 r3 r4 r13 r15 r21
 have hps:pn≤1000000:=by omega
 unfold bT fX at hK
 dsimp only at hK
 rw[if_neg (show ¬(10:Int)=5 by decide),if_neg (show ¬(10:Int)=6 by decide),if_neg (show ¬(10:Int)=7 by decide),if_neg (show ¬(10:Int)=8 by decide),if_neg (show ¬(10:Int)=9 by decide),if_neg (show ¬(10:Int)=2 by decide)] at hK
 dsimp only[b5,nW]
 by_cases h0:st=0
 ·subst h0
  rw[if_pos rfl] at hK
  refine aH Tryz.func77 ?_
  repeat' (first|refine zQ ?_|refine dw bN ?_|refine dw bK ?_|refine w5 ?_ ?_|((refine bh fun h=>?_) <;> try exact w6 h)|(refine aE fun hA=>?_;subst hA)|intro _|(show aA _ 161 _ _ _;refine CA (h:=dI (b:=s.bt) (now:=s.now) ?_))|(show aA _ 168 _ _ _;refine CA (h:=II (x:=x) (a:=a) (s:= { s with bt:=bO s.bt s.now }) (ps:=ps) hI1 (fun _ _=>?_))))
  all_goals(refine aC ?_;exact aB (hK _ _))
 ·rw[if_neg h0] at hK
  cases hp:wD { s with bt:=bO s.bt s.now } st
  ·rw[if_pos hp] at hK
   refine aH Tryz.func77 ?_
   repeat' (first|refine zQ ?_|refine dw bN ?_|refine dw bK ?_|refine w5 ?_ ?_|((refine bh fun h=>?_) <;> try exact w6 h)|(refine aE fun hA=>?_;subst hA)|intro _|(show aA _ 161 _ _ _;refine CA (h:=dI (b:=s.bt) (now:=s.now) ?_))|(show aA _ 169 _ _ _;refine CA (h:=i0 (x:=x) (a:=a) (s:= { s with bt:=bO s.bt s.now }) (M:=M) (mc:=mc) ?_);rw[hp])|(show aA _ 79 _ _ _;refine CA (h:=dO (x:=x) (a:=a) (s:= { s with bt:=bO s.bt s.now }) hI1 (by decide) (by decide) (fun _ _=>?_))))
   all_goals(refine aC ?_;exact aB (hK _ _))
  ·rw[if_neg (by rw[hp];decide)] at hK
   rw[if_neg (by decide)] at hK
   refine aH Tryz.func77 ?_
   repeat' (first|refine zQ ?_|refine dw bN ?_|refine dw bK ?_|refine w5 ?_ ?_|((refine bh fun h=>?_) <;> try exact w6 h)|(refine aE fun hA=>?_;subst hA)|intro _|(show aA _ 161 _ _ _;refine CA (h:=dI (b:=s.bt) (now:=s.now) ?_))|(show aA _ 169 _ _ _;refine CA (h:=i0 (x:=x) (a:=a) (s:= { s with bt:=bO s.bt s.now }) (M:=M) (mc:=mc) ?_);rw[hp])|(show aA _ 171 _ _ _;refine CA (h:=Mw (x:=x) (a:=a) (s:= { s with bt:=bO s.bt s.now }) (ps:=ps) hI1 (by omega) (fun _ _=>?_))))
   all_goals(refine aC ?_;exact aB (hK _ _))
theorem JL {st:Int} {e:Bool} {d:ByteArray} {k on w:Int} {xx:Bool} {c la n:Int} {pa:Option Addr} {pn pc:Nat} {ps:List Pr} (hI:bU B s) (hB:B+300≤249000000) (hr:cZ ⟨11,st,e,d,k,on,w,xx,c,la,n,pa,pn,pc,ps⟩) (hv:dT R pa rE ps) (hn:ps.length=pn) (hK:∀M mc,K (.tuple #[]) (b5 x a (bT ⟨11,st,e,d,k,on,w,xx,c,la,n,pa,pn,pc,ps⟩ s) M mc R)):CT 77 #[PO x,.agg #[I6 11,I6 st,.bool e,.string d,I6 k,I6 on,I6 w,.bool xx,I6 c,I6 la,I6 n,.slice pa pn pc]] (b5 x a s M mc R) K:=by
 have hI1:=hO hI
 obtain⟨r1,r2,r3,r4,r5,r6,r7,r8,r9,r10,r11,r12,r13,r14,r15,r16,r17,r18,r19,r20,r21⟩:=hr
 dsimp only at r1 r2 r3 r4 r13 r15 r21
 have hps:pn≤1000000:=by omega
 unfold bT fX at hK
 dsimp only at hK
 rw[if_neg (show ¬(11:Int)=5 by decide),if_neg (show ¬(11:Int)=6 by decide),if_neg (show ¬(11:Int)=7 by decide),if_neg (show ¬(11:Int)=8 by decide),if_neg (show ¬(11:Int)=9 by decide),if_neg (show ¬(11:Int)=2 by decide)] at hK
 dsimp only[b5,nW]
 by_cases h0:st=0
 ·subst h0
  rw[if_pos rfl] at hK
  refine aH Tryz.func77 ?_
  repeat' (first|refine zQ ?_|refine dw bN ?_|refine dw bK ?_|refine w5 ?_ ?_|((refine bh fun h=>?_) <;> try exact w6 h)|(refine aE fun hA=>?_;subst hA)|intro _|(show aA _ 161 _ _ _;refine CA (h:=dI (b:=s.bt) (now:=s.now) ?_))|(show aA _ 168 _ _ _;refine CA (h:=II (x:=x) (a:=a) (s:= { s with bt:=bO s.bt s.now }) (ps:=ps) hI1 (fun _ _=>?_))))
  all_goals(refine aC ?_;exact aB (hK _ _))
 ·rw[if_neg h0] at hK
  cases hp:wD { s with bt:=bO s.bt s.now } st
  ·rw[if_pos hp] at hK
   refine aH Tryz.func77 ?_
   repeat' (first|refine zQ ?_|refine dw bN ?_|refine dw bK ?_|refine w5 ?_ ?_|((refine bh fun h=>?_) <;> try exact w6 h)|(refine aE fun hA=>?_;subst hA)|intro _|(show aA _ 161 _ _ _;refine CA (h:=dI (b:=s.bt) (now:=s.now) ?_))|(show aA _ 169 _ _ _;refine CA (h:=i0 (x:=x) (a:=a) (s:= { s with bt:=bO s.bt s.now }) (M:=M) (mc:=mc) ?_);rw[hp])|(show aA _ 79 _ _ _;refine CA (h:=dO (x:=x) (a:=a) (s:= { s with bt:=bO s.bt s.now }) hI1 (by decide) (by decide) (fun _ _=>?_))))
   all_goals(refine aC ?_;exact aB (hK _ _))
  ·rw[if_neg (by rw[hp];decide)] at hK
   rw[if_neg (by decide)] at hK
   refine aH Tryz.func77 ?_
   repeat' (first|refine zQ ?_|refine dw bN ?_|refine dw bK ?_|refine w5 ?_ ?_|((refine bh fun h=>?_) <;> try exact w6 h)|(refine aE fun hA=>?_;subst hA)|intro _|(show aA _ 161 _ _ _;refine CA (h:=dI (b:=s.bt) (now:=s.now) ?_))|(show aA _ 169 _ _ _;refine CA (h:=i0 (x:=x) (a:=a) (s:= { s with bt:=bO s.bt s.now }) (M:=M) (mc:=mc) ?_);rw[hp])|(show aA _ 171 _ _ _;refine CA (h:=Mh (x:=x) (a:=a) (s:= { s with bt:=bO s.bt s.now }) (ps:=ps) hI1 (by omega) (fun _ _=>?_))))
   all_goals(refine aC ?_;exact aB (hK _ _))
end
end Go.Proofs.YtifgibijcmppmaaGreat
