/- A part of the proof: lemmas; each with the conditions that it states. -/
import Derived.Test.YtepnmcipkangkaaGreatPbc
set_option linter.unusedVariables false
set_option linter.unusedSimpArgs false
set_option maxRecDepth 100000
set_option maxHeartbeats 40000000
namespace Go.Proofs.YtepnmcipkangkaaGreat
open Go Go.Proofs Go.Sl
attribute [local irreducible] aN fJ cY bN aM aS aA dM dN aV dL pt ro fB star sep bF
attribute [local irreducible] mp CV
variable {R C:List HP} {K:KP} {x mc i b p r pn pc j:Nat} {a:Ca} {s:Cn} {M pa:Option Addr} {B B' id code n st k on w c la:Int} {own e xx:Bool} {m m':Sm} {f:Fm} {y:Ys} {l acc:List Sm} {cf:Cf} {h3 t:dZ} {z:Yp} {d:ByteArray} {ps:List Pr} {g:Sm->Sm}
def In3 (t:dZ):Prop:=AG t.w/\AG t.st/\AG t.it
theorem OF:∀ {ps:List Pr} {t u:dZ},In3 t->WG t ps=some u->In3 u
 | [],t,u,h,e=>by cases e;exact h
 |p::ps,t,u,h,e=>by
  unfold WG at e
  split at e
  ·rename_i hp
   refine OF (t:=Nu t p) ?_ e
   obtain⟨h1,h2,h3⟩:=h
   unfold Nu
   split
   ·exact⟨hp,h2,h3⟩
   ·split
    ·exact⟨h1,hp,h3⟩
    ·split
     ·exact⟨h1,h2,hp⟩
     ·exact⟨h1,h2,h3⟩
  ·cases e
theorem Aga (h:AG n):lZ n=true:=by
 unfold AG at h
 unfold lZ
 simp only[Bool.and_eq_true,decide_eq_true_eq]
 exact h
theorem Ob (h:bO B s) (ht:In3 t) {q:Ld} (hq:G7 B q):bO B { s with ld:=q,pe:=t }:=
 { h with ld:=hq,pe:=ht }
theorem Aai (h:bO B s):bO B (vV f s):=by
 unfold vV
 cases hp:WG s.pe f.ps with
 |none=>exact jF h
 |some t=>
  dsimp only
  split
  ·exact jF h
  ·exact J8 (Ob h (OF h.pe hp) (NA h.ld))
def pB:Tr:=(.br (.st 0 1 (.st 1 1 (.st 2 1 (.st 3 1 (.st 4 1 (.st 5 1 (.st 6 2 (.st 10 2 (.st 7 1 (.st 8 1 (.st 11 1 (.st 9 2 (.st 12 0 .nil))))))))))))) (.st 10 2 (.st 0 1 (.st 1 1 (.st 2 1 (.st 3 1 (.st 4 1 (.st 5 1 (.st 6 2 (.st 7 1 (.st 8 1 (.st 11 1 (.st 9 2 (.st 12 0 .nil))))))))))))))
def pJ:List (Nat×Nat):= [(0,0),(1,0),(2,0),(3,0),(4,0),(5,0),(6,0),(7,0),(8,0),(9,0),(10,0),(11,1),(12,0),(13,0)]
theorem Xo {t:Int} (hI:bO B s) (hv:d4 R pa tI ps) (hn:ps.length=pn) (hn2:pn<=1000000) (hK:∀M mc,K (.tuple #[]) (cB x a (vV ⟨t,st,e,d,k,on,w,xx,c,la,n,pa,pn,pc,ps⟩ s) M mc R)):CT 207 #[PO x,.agg #[I6 t,I6 st,.bool e,.string d,I6 k,I6 on,I6 w,.bool xx,I6 c,I6 la,I6 n,.slice pa pn pc]] (cB x a s M mc R) K:=by
 have hbb:=hI.bb
 unfold vV at hK
 dsimp only at hK
 dsimp only[cB,rI]
 cases hp:WG s.pe ps with
 |none=>
  rw[hp] at hK
  refine aH Tryz.func207 ?_
  repeat' (first|refine KM ?_|refine SK pB ?_|refine dw pJ ?_|refine w5 ?_ ?_|((refine bh fun h=>?_) <;> try exact w6 h)|(refine aE fun hA=>?_;subst hA)|intro _|(show aA _ 292 _ _ _;refine CA (h:=Gz (s:=s.pe) (ps:=ps) (by exact lF) hn hn2 ?_);rw[hp];dsimp only[paV])|(show aA _ 118 _ _ _;refine CA (h:=dU (x:=x) (a:=a) (s:=s) hI (by decide) (by decide) (fun _ _=>?_))))
  all_goals(refine aC ?_;exact aB (hK _ _))
 |some u=>
  rw[hp] at hK
  dsimp only at hK
  have hu:=OF hI.pe hp
  have hab:lZ s.pe.w=true/\lZ u.w=true:=⟨Aga hI.pe.1,Aga hu.1⟩
  by_cases hg:Bd s.pe.w u.w s.ld=0
  ·rw[if_neg (fun q=>q hg)] at hK
   refine aH Tryz.func207 ?_
   repeat' (first|refine KM ?_|refine SK pB ?_|refine dw pJ ?_|refine w5 ?_ ?_|((refine bh fun h=>?_) <;> try exact w6 h)|(refine aE fun hA=>?_;subst hA)|intro _|(show aA _ 292 _ _ _;refine CA (h:=Gz (s:=s.pe) (ps:=ps) (by exact lF) hn hn2 ?_);rw[hp];dsimp only[paV])|(show aA _ 295 _ _ _;refine CA (h:=RF (s:=s.ld) (hI.ld.ok (by omega)) hab ?_);rw[hg])|(show aA _ 209 _ _ _;refine CA (h:=Cp (x:=x) (a:=a) (s:= { s with ld:=mA s.pe.w u.w s.ld,pe:=u }) (f:=fr0 6 0) (Ob hI hu (NA hI.ld)) rfl rfl rfl (fun _ _=>?_))))
   all_goals(refine aC ?_;exact aB (hK _ _))
  ·rw[if_pos hg] at hK
   have hs:mA s.pe.w u.w s.ld=s.ld:=by unfold mA;rw[if_pos hg]
   refine aH Tryz.func207 ?_
   repeat' (first|(show Br _ _ _;refine Br.t (by first|(simp <;> done)|simpa using hg) ?_)|refine KM ?_|refine SK pB ?_|refine dw pJ ?_|refine w5 ?_ ?_|((refine bh fun h=>?_) <;> try exact w6 h)|(refine aE fun hA=>?_;subst hA)|intro _|(show aA _ 292 _ _ _;refine CA (h:=Gz (s:=s.pe) (ps:=ps) (by exact lF) hn hn2 ?_);rw[hp];dsimp only[paV])|(show aA _ 295 _ _ _;refine CA (h:=RF (s:=s.ld) (hI.ld.ok (by omega)) hab ?_);rw[hs])|(show aA _ 118 _ _ _;refine CA (h:=dU (x:=x) (a:=a) (s:=s) hI (by decide) (by decide) (fun _ _=>?_))))
   all_goals(refine aC ?_;exact aB (hK _ _))
theorem WN {l':List Sm} (h:Hq l) (e:l'.map Sm.id=l.map Sm.id):Hq l':=by
 obtain⟨h1,h2⟩:=h
 have hl:=congrArg List.length e
 rw[List.length_map,List.length_map] at hl
 refine⟨by omega,?_⟩
 have h3:(l.map Sm.id).Pairwise (·<·):=List.pairwise_map.2 h2
 rw[<- e] at h3
 exact List.pairwise_map.1 h3
def TK (t:dZ) (m:Sm):Sm:= { m with y:=Fv m.y t }
theorem Qu (hm:l[j]?=some m):((l.take j).map g++l.drop j).set j (g m)=(l.take (j+1)).map g++l.drop (j+1):=by
 have hj:=(List.getElem?_eq_some_iff.1 hm).1
 have hlen:((l.take j).map g).length=j:=by rw[List.length_map,List.length_take];omega
 have hd:l.drop j=m::l.drop (j+1):=by rw[List.drop_eq_getElem_cons hj,(List.getElem?_eq_some_iff.1 hm).2]
 rw[List.set_append_right _ _ (by omega),hlen,Nat.sub_self,hd,List.set_cons_zero,List.take_add_one,hm]
 simp
theorem WS (hm:l[j]?=some m):((l.take j).map g++l.drop j)[j]?=some m:=by
 have hj:=(List.getElem?_eq_some_iff.1 hm).1
 have hlen:((l.take j).map g).length=j:=by rw[List.length_map,List.length_take];omega
 rw[List.getElem?_append_right (by omega),hlen,Nat.sub_self,List.getElem?_drop]
 simpa using hm
theorem R9 (hg:∀m,(g m).id=m.id):((l.take j).map g++l.drop j).map Sm.id=l.map Sm.id:=by
 rw[List.map_append,List.map_map]
 have e:(Sm.id ∘ g)=Sm.id:=funext hg
 rw[e,<- List.map_append,List.take_append_drop]
theorem Ag7:lO (Fv y t)=lO y:=by cases y <;> rfl
theorem XJ (h:bO B s):bO B (qM s):=by
 unfold qM
 split
 ·exact jF h
 ·have hsh:=h.sh
  have hsh2:(dG s.sh).l.length<=4/\tM (dG s.sh).h/\tM (dG s.sh).g/\∀t∈(dG s.sh).l,tM t:=by
   unfold dG
   cases hl:s.sh.l with
   |nil=>dsimp only;rw[hl] at hsh;rw[hl];exact hsh
   |cons t r=>
    rw[hl] at hsh
    obtain⟨h1,h2,h3,h4⟩:=hsh
    rw[List.length_cons] at h1
    exact⟨by dsimp only;omega,h4 t (List.mem_cons_self ..),h3,fun z hz=>h4 z (List.mem_cons_of_mem _ hz)⟩
  exact { h with
   sh:=hsh2
   sm:=W6 h.sm fun m=>rfl
   st:=fun q hq=>by
    obtain⟨m,hm,rfl⟩:=List.mem_map.1 hq
    obtain⟨h1,h2,h3,h4⟩:=h.st m hm
    refine⟨h1,h2,?_,?_⟩
    ·cases hy:m.y <;> (rw[hy] at h3;exact h3)
    ·cases hy:m.y <;> (rw[hy] at h4;exact h4)
   ids:=fun q hq=>by
    obtain⟨m,hm,rfl⟩:=List.mem_map.1 hq
    exact h.ids m hm
   own:=fun b=>by
    have:=h.own b
    unfold fW at this
    show((s.l.map fun m=>({ m with y:=Fv m.y (dG s.sh).h }:Sm)).filter fun m=>m.own == b).length<=32
    rw[oZ,List.map_map]
    rw[oZ] at this
    exact this
   mv:=by
    have:=h.mv
    show(s.mv.length:Int)+((s.l.map _).length:Int)<=B
    rw[List.length_map];exact this }
def kE:List (Nat×Nat):= [(0,0),(1,1),(2,1),(3,1)]
theorem Ve (hI:bO B s) (hK:∀M mc,K (.tuple #[]) (cB x a (qM s) M mc R)):CT 208 #[PO x] (cB x a s M mc R) K:=by
 have h64:=hI.sm.1
 unfold qM at hK
 dsimp only[cB,rI]
 by_cases hl:s.sh.l= []
 ·have hE:Ak s.sh=1:=by unfold Ak;rw[if_pos hl]
  have hA:dG s.sh=s.sh:=by unfold dG;rw[hl]
  rw[hE,if_pos (by decide)] at hK
  refine aH Tryz.func208 ?_
  repeat' (first|refine Lc ?_|refine dw kE ?_|refine w5 ?_ ?_|((refine bh fun h=>?_) <;> try exact w6 h)|(refine aE fun hA=>?_;subst hA)|intro _|(show aA _ 296 _ _ _;refine CA (h:=R4 (s:=s.sh) ?_);rw[hE,hA])|(show aA _ 118 _ _ _;refine CA (h:=dU (x:=x) (a:=a) (s:=s) hI (by decide) (by decide) (fun _ _=>?_))))
  all_goals(refine aC ?_;exact aB (hK _ _))
 ·have hE:Ak s.sh=0:=by unfold Ak;rw[if_neg hl]
  rw[hE,if_neg (by decide)] at hK
  have hch:tM (dG s.sh).h:=by
   have:=hI.sh
   unfold dG
   cases hq:s.sh.l with
   |nil=>exact absurd hq hl
   |cons t r=>rw[hq] at this;exact this.2.2.2 t (List.mem_cons_self ..)
  refine aH Tryz.func208 ?_
  repeat' (first|refine Lc ?_|refine dw kE ?_|refine w5 ?_ ?_|((refine bh fun h=>?_) <;> try exact w6 h)|(refine aE fun hA=>?_;subst hA)|intro _|(show aA _ 296 _ _ _;refine CA (h:=R4 (s:=s.sh) ?_);rw[hE];simp only[if_neg hl])|(show aA _ 60 _ _ _;refine CA (h:=Ae (l:=s.l) ?_)))
  rename_i r2 r3
  refine jG (fun n a' C'=>∃j:Nat,j+n=s.l.length/\dP a' [(0,PO x),(3,PO r3),(27,I6 s.l.length),(28,I6 j)]/\C'=pt r3 [I6 (dG s.sh).h.w,I6 (dG s.sh).h.st,I6 (dG s.sh).h.it] 23::cB x a { s with sh:=dG s.sh,l:=(s.l.take j).map (TK (dG s.sh).h)++s.l.drop j } M mc R) s.l.length (cN s.l.length ⟨0,by omega,⟨rfl,rfl,rfl,rfl,trivial⟩,rfl⟩ (by omega)) ?_
  rintro n a' C' ⟨j,hj,ha,rfl⟩
  refine iT _ ha ?_
  simp only[gH]
  by_cases hlt:j<s.l.length
  ·obtain⟨m,hm⟩:∃m,s.l[j]?=some m:=⟨_,List.getElem?_eq_getElem hlt⟩
   have hat:=WS (g:=TK (dG s.sh).h) hm
   have hset:=Qu (g:=TK (dG s.sh).h) hm
   have hS:=WN hI.sm (R9 (g:=TK (dG s.sh).h) (l:=s.l) (j:=j) fun _=>rfl)
   repeat' (first|refine Lc ?_|refine dw kE ?_|refine w5 ?_ ?_|((refine bh fun h=>?_) <;> try exact w6 h)|(refine aE fun hA=>?_;subst hA)|intro _|(show aA _ 62 _ _ _;refine CA (h:=Ge hS hat (fun _=>?_)))|(show aA _ 63 _ _ _;refine CA (h:=sR (m:=m) (fun _=>?_)))|(show aA _ 297 _ _ _;refine CA (h:=Ajj (y:=m.y) (s:=(dG s.sh).h) hch ?_)))
   all_goals(show aV _ _ _ _;exact uF (m:=n - 1) (by omega) (aG.trans (by exact aZ) (aG.trans (aG.cons (A:=pt r3 [I6 (dG s.sh).h.w,I6 (dG s.sh).h.st,I6 (dG s.sh).h.it] 23) (nX (m:=m) (y:=Fv m.y (dG s.sh).h) Ag7)) (aG.cons (A:=pt r3 [I6 (dG s.sh).h.w,I6 (dG s.sh).h.st,I6 (dG s.sh).h.it] 23) (nA (x:=x) (a:=a) (s:= { s with sh:=dG s.sh,l:=(s.l.take j).map (TK (dG s.sh).h)++s.l.drop j }) (M:=M) (mc:=mc) (R:=R) (m':=TK (dG s.sh).h m) hat rfl)))) ⟨j+1,by omega,⟨rfl,rfl,rfl,rfl,trivial⟩,congrArg (fun q=>pt r3 [I6 (dG s.sh).h.w,I6 (dG s.sh).h.st,I6 (dG s.sh).h.it] 23::cB x a { s with sh:=dG s.sh,l:=q } M mc R) hset⟩)
  ·have hj0:j=s.l.length:=by omega
   subst hj0
   have e:(s.l.take s.l.length).map (TK (dG s.sh).h)++s.l.drop s.l.length=s.l.map fun m=>({ m with y:=Fv m.y (dG s.sh).h }:Sm):=by
    rw[List.take_length,List.drop_length,List.append_nil];rfl
   rw[e]
   repeat' (first|refine Lc ?_|refine dw kE ?_|refine w5 ?_ ?_|((refine bh fun h=>?_) <;> try exact w6 h)|(refine aE fun hA=>?_;subst hA)|intro _)
   all_goals(refine aC ?_;exact aB (hK _ _))
theorem QY (h:∀q∈acc,q.id<m.id):cI m.id (acc++m::l)=acc.length:=by
 unfold cI
 induction acc with
 |nil=>rw[List.nil_append,List.takeWhile_cons];simp
 |cons q acc ih=>
  rw[List.cons_append,List.takeWhile_cons,if_pos (decide_eq_true (h q (List.mem_cons_self ..))),List.length_cons,List.length_cons,ih fun z hz=>h z (List.mem_cons_of_mem _ hz)]
theorem Ir (h:∀q∈acc,q.id<m.id):bY m.id (acc++m::l)=some m:=by
 unfold bY
 rw[QY h,List.getElem?_append_right (Nat.le_refl _),Nat.sub_self]
 simp
theorem S8 (h:Hq (acc++m::l)):∀q∈acc,q.id<m.id:=fun q hq=>
 (List.pairwise_append.1 h.2).2.2 q hq m (List.mem_cons_self ..)
theorem GG (h:∀q∈acc,q.id<m.id):(acc++m::l).eraseIdx (cI m.id (acc++m::l))=acc++l:=by
 rw[QY h,List.eraseIdx_append_of_length_le (Nat.le_refl _),Nat.sub_self];rfl
theorem L8 {ids:List Int} (hm:bY id s.l=some m):mS (id::ids) s=mS ids (if m.own=true/\IB s.dr id=true then qI m 7 s else s):=by
 show mS ids (match bY id s.l with
  |some m=>_
  |none=>s)=_
 rw[hm]
theorem Gg (h:bO B s) {d:Dr}:bO B { s with dr:=d }:= { h with }
theorem JK:∀ {l acc:List Sm} {s:Cn},s.l=acc++l->bO B s->bO B (mS (l.map Sm.id) s)
 | [],acc,s,he,h=>h
 |m::l,acc,s,he,h=>by
  have hlt:=S8 (by rw[<- he];exact h.sm)
  have hm:bY m.id s.l=some m:=by rw[he];exact Ir hlt
  rw[List.map_cons,L8 hm]
  split
  ·refine JK (l:=l) (acc:=acc) ?_ (tN h hm)
   show s.l.eraseIdx (cI m.id s.l)=acc++l
   rw[he];exact GG hlt
  ·exact JK (l:=l) (acc:=acc++ [m]) (by rw[he];simp) h
theorem Adq (h:bO B s):bO B (vP f s):=by
 unfold vP
 split
 ·exact Lw (Gg h)
 ·exact JK (acc:= []) rfl (Gg h)
def gR:List (Nat×Nat):= [(0,0),(1,0),(2,0),(3,0),(4,0),(5,0),(6,0),(7,0),(8,1)]
theorem ZE {t:Int} (hI:bO B s) (hK:∀M mc,K (.tuple #[]) (cB x a (vP ⟨t,st,e,d,k,on,w,xx,c,la,n,pa,pn,pc,ps⟩ s) M mc R)):CT 211 #[PO x,.agg #[I6 t,I6 st,.bool e,.string d,I6 k,I6 on,I6 w,.bool xx,I6 c,I6 la,I6 n,.slice pa pn pc]] (cB x a s M mc R) K:=by
 have h64:=hI.sm.1
 have hlm:(s.l.map Sm.id).length=s.l.length:=List.length_map ..
 have hI1:=Gg (d:=mC s.dr la c) hI
 unfold vP at hK
 dsimp only at hK
 dsimp only[cB,rI]
 cases ho:(mC s.dr la c).ov
 ·rw[ho,if_neg Bool.false_ne_true] at hK
  refine aH Tryz.func211 ?_
  repeat' (first|refine v78 ?_|refine dw gR ?_|refine w5 ?_ ?_|((refine bh fun h=>?_) <;> try exact w6 h)|(refine aE fun hA=>?_;subst hA)|intro _|(show aA _ 298 _ _ _;refine CA (h:=Vy (d:=s.dr) ?_))|(show aA _ 105 _ _ _;refine CA (h:=kU (x:=x) (a:=a) (s:= { s with dr:=mC s.dr la c }) (M:=M) (mc:=mc) ?_);rw[show({ s with dr:=mC s.dr la c }:Cn).dr.ov=false from ho])|(show aA _ 125 _ _ _;refine CA (h:=W5 (l:=s.l) hI.sm (fun Bq dq=>?_))))
  refine jG (fun n a' C'=>∃(j:Nat) (s':Cn) (acc:List Sm) (M':Option Addr) (mc':Nat),j+n=s.l.length/\s'.l=acc++s.l.drop j/\bO B s'/\mS ((s.l.drop j).map Sm.id) s'=mS (s.l.map Sm.id) { s with dr:=mC s.dr la c }/\dP a' [(0,PO x),(25,.slice Bq (s.l.map Sm.id).length dq),(26,I6 s.l.length),(27,I6 j)]/\C'=bV Bq dq 3 pM (s.l.map Sm.id)::cB x a s' M' mc' R) s.l.length (cN s.l.length ⟨0,{ s with dr:=mC s.dr la c },[],M,mc,by omega,rfl,hI1,rfl,⟨rfl,rfl,(by simp;rfl),rfl,trivial⟩,rfl⟩ (by omega)) ?_
  rintro n1 a' C' ⟨j,s',acc,M',mc',hj,hl,hI',hc,ha,rfl⟩
  refine iT _ ha ?_
  simp only[gH]
  by_cases hlt:j<s.l.length
  ·obtain⟨m,hm,hd⟩:=lH (l:=s.l) (j:=j) hlt
   rw[hd] at hl hc
   have hml:=S8 (by rw[<- hl];exact hI'.sm)
   have hat:bY m.id s'.l=some m:=by rw[hl];exact Ir hml
   obtain⟨hi,_⟩:=aX hat
   have hv:(s.l.map Sm.id)[((j:Nat):Int).toNat]?=some m.id:=by rw[Int.toNat_natCast,List.getElem?_map,hm];rfl
   have hc2:mS ((s.l.drop (j+1)).map Sm.id) (if m.own=true/\IB s'.dr m.id=true then qI m 7 s' else s')=mS (s.l.map Sm.id) { s with dr:=mC s.dr la c }:=by
    rw[<- hc]
    show _=mS _ (match bY m.id s'.l with
     |some m=>_
     |none=>s')
    rw[hat]
   cases how:m.own
   ·rw[how,if_neg (fun q=>Bool.false_ne_true q.1)] at hc2
    repeat' (first|refine v78 ?_|refine dw gR ?_|refine w5 ?_ ?_|((refine bh fun h=>?_) <;> try exact w6 h)|(refine aE fun hA=>?_;subst hA)|intro _|(show aA _ 126 _ _ _;refine CA (h:=g9 (l:=s'.l) hI'.sm hat (fun _=>?_)))|(show aA _ 156 _ _ _;refine CA (h:=BM (m:=m) ?_);rw[how]))
    all_goals(show aV _ _ _ _;exact uF (m:=n1 - 1) (by omega) (aG.trans (by exact aZ) (aG.cons (A:=bV _ dq 3 pM (s.l.map Sm.id)) (eD (x:=x) (a:=a) (s:=s') (M:=M') (mc:=mc') (R:=R) hi))) ⟨j+1,s',acc++ [m],M',mc',by omega,by rw[hl];simp,hI',hc2,⟨rfl,rfl,rfl,rfl,trivial⟩,rfl⟩)
   ·cases hrf:IB s'.dr m.id
    ·rw[hrf,if_neg (fun q=>Bool.false_ne_true q.2)] at hc2
     repeat' (first|refine v78 ?_|refine dw gR ?_|refine w5 ?_ ?_|((refine bh fun h=>?_) <;> try exact w6 h)|(refine aE fun hA=>?_;subst hA)|intro _|(show aA _ 126 _ _ _;refine CA (h:=g9 (l:=s'.l) hI'.sm hat (fun _=>?_)))|(show aA _ 156 _ _ _;refine CA (h:=BM (m:=m) ?_);rw[how])|(show aA _ 299 _ _ _;refine CA (h:=VD (d:=s'.dr) ?_);rw[hrf]))
     all_goals(show aV _ _ _ _;exact uF (m:=n1 - 1) (by omega) (aG.trans (by exact aZ) (aG.cons (A:=bV _ dq 3 pM (s.l.map Sm.id)) (eD (x:=x) (a:=a) (s:=s') (M:=M') (mc:=mc') (R:=R) hi))) ⟨j+1,s',acc++ [m],M',mc',by omega,by rw[hl];simp,hI',hc2,⟨rfl,rfl,rfl,rfl,trivial⟩,rfl⟩)
    ·rw[how,hrf,if_pos ⟨rfl,rfl⟩] at hc2
     repeat' (first|refine v78 ?_|refine dw gR ?_|refine w5 ?_ ?_|((refine bh fun h=>?_) <;> try exact w6 h)|(refine aE fun hA=>?_;subst hA)|intro _|(show aA _ 126 _ _ _;refine CA (h:=g9 (l:=s'.l) hI'.sm hat (fun _=>?_)))|(show aA _ 156 _ _ _;refine CA (h:=BM (m:=m) ?_);rw[how])|(show aA _ 299 _ _ _;refine CA (h:=VD (d:=s'.dr) ?_);rw[hrf])|(show aA _ 250 _ _ _;refine CA (h:=Ch (x:=x) (a:=a) (s:=s') (M:=M') (mc:=mc') (m:=m) hI' hat (.inr rfl) (fun _ _=>?_))))
     all_goals(show aV _ _ _ _;exact cN (n1 - 1) ⟨j+1,qI m 7 s',acc,_,_,by omega,(by show s'.l.eraseIdx (cI m.id s'.l)=_;rw[hl];exact GG hml),tN hI' hat,hc2,⟨rfl,rfl,rfl,rfl,trivial⟩,rfl⟩)
  ·have hj0:j=s.l.length:=by omega
   subst hj0
   rw[List.drop_length] at hc hl
   have hc:s'=mS (s.l.map Sm.id) { s with dr:=mC s.dr la c }:=hc
   subst hc
   repeat' (first|refine v78 ?_|refine dw gR ?_|refine w5 ?_ ?_|((refine bh fun h=>?_) <;> try exact w6 h)|(refine aE fun hA=>?_;subst hA)|intro _)
   all_goals(refine aC ?_;exact aB (hK _ _))
 ·rw[ho,if_pos rfl] at hK
  refine aH Tryz.func211 ?_
  repeat' (first|refine v78 ?_|refine dw gR ?_|refine w5 ?_ ?_|((refine bh fun h=>?_) <;> try exact w6 h)|(refine aE fun hA=>?_;subst hA)|intro _|(show aA _ 298 _ _ _;refine CA (h:=Vy (d:=s.dr) ?_))|(show aA _ 105 _ _ _;refine CA (h:=kU (x:=x) (a:=a) (s:= { s with dr:=mC s.dr la c }) (M:=M) (mc:=mc) ?_);rw[show({ s with dr:=mC s.dr la c }:Cn).dr.ov=true from ho])|(show aA _ 219 _ _ _;refine CA (h:=Js (x:=x) (a:=a) (s:= { s with dr:=mC s.dr la c }) hI1 (fun _ _=>?_))))
  all_goals(refine aC ?_;exact aB (hK _ _))
theorem WP (h:bO B s):bO B { s with tr:=lC id on w xx s.tr }:= { h with tr:=Aks h.tr }
theorem YG (h:bO B s):bO B (jU f s):=by
 unfold jU
 split
 ·exact jF h
 ·cases hm:bY f.st s.l with
  |none=>exact h
  |some m=>
   dsimp only
   split
   ·exact WP h
   ·split
    ·exact tN h hm
    ·exact QN h hm
def cS:List (Nat×Nat):= [(0,0),(1,0),(2,0),(3,0),(4,0),(5,0),(6,1),(7,0),(8,0),(9,0),(10,0),(11,0)]
def cT:List (Nat×Nat):= [(0,0),(1,0),(2,0),(3,0),(4,0),(5,0),(6,0),(7,0),(8,1)]
theorem Sk (hI:bO B s) (hst:1<=st/\st<=2147483647) (hK:∀M mc,K (.tuple #[]) (cB x a (jU ⟨3,st,e,d,k,on,w,xx,c,la,n,pa,pn,pc,ps⟩ s) M mc R)):CT 216 #[PO x,.agg #[I6 3,I6 st,.bool e,.string d,I6 k,I6 on,I6 w,.bool xx,I6 c,I6 la,I6 n,.slice pa pn pc]] (cB x a s M mc R) K:=by
 have htl:=hI.tr.len
 obtain⟨rk,hrk⟩:=hI.tr.rk
 unfold jU at hK
 dsimp only at hK
 dsimp only[cB,rI]
 by_cases h0:on=st
 ·rw[if_pos ⟨rfl,h0⟩] at hK
  cases hm:bY st s.l with
  |none=>
   refine aH Tryz.func216 ?_
   repeat' (first|refine Cc ?_|refine dw cS ?_|refine dw cT ?_|refine w5 ?_ ?_|((refine bh fun h=>?_) <;> try exact w6 h)|(refine aE fun hA=>?_;subst hA)|intro _|(show aA _ 126 _ _ _;refine CA (h:=oA (l:=s.l) hI.sm hm ?_))|(show aA _ 118 _ _ _;refine CA (h:=dU (x:=x) (a:=a) (s:=s) hI (by decide) (by decide) (fun _ _=>?_))))
   all_goals(refine aC ?_;exact aB (hK _ _))
  |some m=>
   obtain⟨hi,_⟩:=aX hm
   refine aH Tryz.func216 ?_
   repeat' (first|refine Cc ?_|refine dw cS ?_|refine dw cT ?_|refine w5 ?_ ?_|((refine bh fun h=>?_) <;> try exact w6 h)|(refine aE fun hA=>?_;subst hA)|intro _|(show aA _ 126 _ _ _;refine CA (h:=g9 (l:=s.l) hI.sm hm (fun _=>?_)))|(show aA _ 118 _ _ _;refine CA (h:=aA.ent (eD (x:=x) (a:=a) (s:=s) (M:=M) (mc:=mc) (R:=R) hi) (dU hI (by decide) (by decide) (fun _ _=>?_)))))
   all_goals(refine aC ?_;exact aB (hK _ _))
 ·rw[if_neg (fun q=>h0 q.2)] at hK
  cases hm:bY st s.l with
  |none=>
   rw[hm] at hK
   refine aH Tryz.func216 ?_
   repeat' (first|refine Cc ?_|refine dw cS ?_|refine dw cT ?_|refine w5 ?_ ?_|((refine bh fun h=>?_) <;> try exact w6 h)|(refine aE fun hA=>?_;subst hA)|intro _|(show aA _ 126 _ _ _;refine CA (h:=oA (l:=s.l) hI.sm hm ?_)))
   all_goals(refine aC ?_;exact aB (hK _ _))
  |some m=>
   rw[hm] at hK
   dsimp only at hK
   obtain⟨hi,_⟩:=aX hm
   rw[if_pos rfl] at hK
   refine aH Tryz.func216 ?_
   repeat' (first|refine Cc ?_|refine dw cS ?_|refine dw cT ?_|refine w5 ?_ ?_|((refine bh fun h=>?_) <;> try exact w6 h)|(refine aE fun hA=>?_;subst hA)|intro _|(show aA _ 126 _ _ _;refine CA (h:=g9 (l:=s.l) hI.sm hm (fun _=>?_)))|(show aA _ 249 _ _ _;refine CA (h:=Mn (s:=s.tr) hI.tr.kok (by omega) hrk ?_)))
   all_goals(refine aC ?_;exact aK (aG.trans (by exact aZ) ((eD (x:=x) (a:=a) (s:= { s with tr:=lC st on w xx s.tr }) (M:=M) (mc:=mc) (R:=R) hi))) (hK _ _))
theorem QM (hI:bO B s) (hst:1<=st/\st<=2147483647) (hK:∀M mc,K (.tuple #[]) (cB x a (jU ⟨4,st,e,d,k,on,w,xx,c,la,n,pa,pn,pc,ps⟩ s) M mc R)):CT 216 #[PO x,.agg #[I6 4,I6 st,.bool e,.string d,I6 k,I6 on,I6 w,.bool xx,I6 c,I6 la,I6 n,.slice pa pn pc]] (cB x a s M mc R) K:=by
 have htl:=hI.tr.len
 obtain⟨rk,hrk⟩:=hI.tr.rk
 unfold jU at hK
 dsimp only at hK
 dsimp only[cB,rI]
 rw[if_neg (fun q:(4:Int)=3/\_=>absurd q.1 (by decide))] at hK
 cases hm:bY st s.l with
 |none=>
  rw[hm] at hK
  refine aH Tryz.func216 ?_
  repeat' (first|refine Cc ?_|refine dw cS ?_|refine dw cT ?_|refine w5 ?_ ?_|((refine bh fun h=>?_) <;> try exact w6 h)|(refine aE fun hA=>?_;subst hA)|intro _|(show aA _ 126 _ _ _;refine CA (h:=oA (l:=s.l) hI.sm hm ?_)))
  all_goals(refine aC ?_;exact aB (hK _ _))
 |some m=>
  rw[hm] at hK
  dsimp only at hK
  obtain⟨hi,_⟩:=aX hm
  rw[if_neg (by decide),if_pos rfl] at hK
  refine aH Tryz.func216 ?_
  repeat' (first|refine Cc ?_|refine dw cS ?_|refine dw cT ?_|refine w5 ?_ ?_|((refine bh fun h=>?_) <;> try exact w6 h)|(refine aE fun hA=>?_;subst hA)|intro _|(show aA _ 126 _ _ _;refine CA (h:=g9 (l:=s.l) hI.sm hm (fun _=>?_)))|(show aA _ 250 _ _ _;refine CA (h:=Ch (x:=x) (a:=a) (s:=s) (M:=M) (mc:=mc) (m:=m) hI hm (.inr rfl) (fun _ _=>?_))))
  all_goals(refine aC ?_;exact aB (hK _ _))
theorem NQ (hI:bO B s) (hst:1<=st/\st<=2147483647) (hK:∀M mc,K (.tuple #[]) (cB x a (jU ⟨10,st,e,d,k,on,w,xx,c,la,n,pa,pn,pc,ps⟩ s) M mc R)):CT 216 #[PO x,.agg #[I6 10,I6 st,.bool e,.string d,I6 k,I6 on,I6 w,.bool xx,I6 c,I6 la,I6 n,.slice pa pn pc]] (cB x a s M mc R) K:=by
 have htl:=hI.tr.len
 obtain⟨rk,hrk⟩:=hI.tr.rk
 unfold jU at hK
 dsimp only at hK
 dsimp only[cB,rI]
 rw[if_neg (fun q:(10:Int)=3/\_=>absurd q.1 (by decide))] at hK
 cases hm:bY st s.l with
 |none=>
  rw[hm] at hK
  refine aH Tryz.func216 ?_
  repeat' (first|refine Cc ?_|refine dw cS ?_|refine dw cT ?_|refine w5 ?_ ?_|((refine bh fun h=>?_) <;> try exact w6 h)|(refine aE fun hA=>?_;subst hA)|intro _|(show aA _ 126 _ _ _;refine CA (h:=oA (l:=s.l) hI.sm hm ?_)))
  all_goals(refine aC ?_;exact aB (hK _ _))
 |some m=>
  rw[hm] at hK
  dsimp only at hK
  obtain⟨hi,_⟩:=aX hm
  rw[if_neg (by decide),if_neg (by decide)] at hK
  refine aH Tryz.func216 ?_
  repeat' (first|refine Cc ?_|refine dw cS ?_|refine dw cT ?_|refine w5 ?_ ?_|((refine bh fun h=>?_) <;> try exact w6 h)|(refine aE fun hA=>?_;subst hA)|intro _|(show aA _ 126 _ _ _;refine CA (h:=g9 (l:=s.l) hI.sm hm (fun _=>?_)))|(show aA _ 307 _ _ _;refine CA (h:=E3 (x:=x) (a:=a) (s:=s) (M:=M) (mc:=mc) (m:=m) (t:=10) (ps:=ps) hI (by decide) hst hm (fun _ _=>?_))))
  all_goals(refine aC ?_;exact aB (hK _ _))
theorem NI (hI:bO B s) (hst:1<=st/\st<=2147483647) (hK:∀M mc,K (.tuple #[]) (cB x a (jU ⟨11,st,e,d,k,on,w,xx,c,la,n,pa,pn,pc,ps⟩ s) M mc R)):CT 216 #[PO x,.agg #[I6 11,I6 st,.bool e,.string d,I6 k,I6 on,I6 w,.bool xx,I6 c,I6 la,I6 n,.slice pa pn pc]] (cB x a s M mc R) K:=by
 have htl:=hI.tr.len
 obtain⟨rk,hrk⟩:=hI.tr.rk
 unfold jU at hK
 dsimp only at hK
 dsimp only[cB,rI]
 rw[if_neg (fun q:(11:Int)=3/\_=>absurd q.1 (by decide))] at hK
 cases hm:bY st s.l with
 |none=>
  rw[hm] at hK
  refine aH Tryz.func216 ?_
  repeat' (first|refine Cc ?_|refine dw cS ?_|refine dw cT ?_|refine w5 ?_ ?_|((refine bh fun h=>?_) <;> try exact w6 h)|(refine aE fun hA=>?_;subst hA)|intro _|(show aA _ 126 _ _ _;refine CA (h:=oA (l:=s.l) hI.sm hm ?_)))
  all_goals(refine aC ?_;exact aB (hK _ _))
 |some m=>
  rw[hm] at hK
  dsimp only at hK
  obtain⟨hi,_⟩:=aX hm
  rw[if_neg (by decide),if_neg (by decide)] at hK
  refine aH Tryz.func216 ?_
  repeat' (first|refine Cc ?_|refine dw cS ?_|refine dw cT ?_|refine w5 ?_ ?_|((refine bh fun h=>?_) <;> try exact w6 h)|(refine aE fun hA=>?_;subst hA)|intro _|(show aA _ 126 _ _ _;refine CA (h:=g9 (l:=s.l) hI.sm hm (fun _=>?_)))|(show aA _ 307 _ _ _;refine CA (h:=E3 (x:=x) (a:=a) (s:=s) (M:=M) (mc:=mc) (m:=m) (t:=11) (ps:=ps) hI (by decide) hst hm (fun _ _=>?_))))
  all_goals(refine aC ?_;exact aB (hK _ _))
theorem iL (h:bO B s):bO B { s with bt:=bQ s.bt s.now }:=
 { h with
   bt:=by
    have h1:=h.bt
    have h2:=h.now
    show(0<=(bQ s.bt s.now).no/\(bQ s.bt s.now).no<=B)/\(0<=(bQ s.bt s.now).he/\(bQ s.bt s.now).he<=B)/\(0<=(bQ s.bt s.now).si/\(bQ s.bt s.now).si<=B)/\0<=(bQ s.bt s.now).nn/\(bQ s.bt s.now).nn<=B
    unfold bQ
    dsimp only
    omega }
theorem Aah (h:bO B s):bO B { s with bt:=kA s.bt s.now d }:=
 { h with
   bt:=by
    have h1:=h.bt
    have h2:=h.now
    show(0<=(kA s.bt s.now d).no/\(kA s.bt s.now d).no<=B)/\(0<=(kA s.bt s.now d).he/\(kA s.bt s.now d).he<=B)/\(0<=(kA s.bt s.now d).si/\(kA s.bt s.now d).si<=B)/\0<=(kA s.bt s.now d).nn/\(kA s.bt s.now d).nn<=B
    unfold kA
    split
    ·dsimp only;omega
    ·omega }
theorem Ama (h:bO B s):Ahp s.bt:=by
 have h1:=h.bt
 have h2:=h.bb
 unfold Ahp
 omega
theorem jM (hK:K (.bool (!vU s id)) (cB x a s M mc R)):CT 214 #[PO x,I6 id] (cB x a s M mc R) K:=by
 dsimp only[cB,rI] at hK ⊢
 refine aH Tryz.func214 ?_
 repeat' (first|refine Kv ?_|refine w5 ?_ ?_|((refine bh fun h=>?_) <;> try exact w6 h)|(refine aE fun hA=>?_;subst hA)|intro _|(show aA _ 236 _ _ _;refine CA (h:=DU (sd:=s.sd) (nx:=s.nx) (la:=s.la) ?_)))
 all_goals(refine aC ?_;exact aB (hK))
theorem Aa (h:bO B s) (hB:B+300<=250000000) (hr:bR f):bO (B+300) (bD f s):=by
 have hh:=iL h
 have hm:=hh.mono (B':=B+300) (by omega) hB
 unfold bD fG
 split
 ·exact Aai hm
 ·split
  ·exact XJ hm
  ·split
   ·exact J8 hm
   ·split
    ·exact Aah hm
    ·split
     ·exact Adq hm
     ·split
      ·exact Uq hh hB
      ·split
       ·exact Y7 hm
       ·split
        ·exact jF hm
        ·split
         ·rename_i ht
          exact Adt hh hB (hr.2.2.2.2.2.2.2.2.2.2.2.2.1 (by omega))
         ·exact YG hm
def fE:List (Nat×Nat):= [(0,0),(1,0),(2,0),(3,0),(4,0),(5,0),(6,0),(7,0),(8,1)]
def eR:List (Nat×Nat):= [(0,0),(1,0),(2,0),(3,0),(4,0),(5,0),(6,0),(7,0),(8,0),(9,0),(10,1)]
theorem OP (hI:bO B s) (hB:B+300<=249000000) (hr:bR ⟨5,st,e,d,k,on,w,xx,c,la,n,pa,pn,pc,ps⟩) (hv:d4 R pa tI ps) (hn:ps.length=pn) (hK:∀M mc,K (.tuple #[]) (cB x a (bD ⟨5,st,e,d,k,on,w,xx,c,la,n,pa,pn,pc,ps⟩ s) M mc R)):CT 117 #[PO x,.agg #[I6 5,I6 st,.bool e,.string d,I6 k,I6 on,I6 w,.bool xx,I6 c,I6 la,I6 n,.slice pa pn pc]] (cB x a s M mc R) K:=by
 have hI1:=iL hI
 obtain⟨r1,r2,r3,r4,r5,r6,r7,r8,r9,r10,r11,r12,r13,r14,r15,r16,r17,r18,r19,r20,r21⟩:=hr
 dsimp only at r1 r2 r3 r4 r13 r15 r21
 have hps:pn<=1000000:=by omega
 unfold bD fG at hK
 dsimp only at hK
 rw[if_pos rfl] at hK
 dsimp only[cB,rI]
 refine aH Tryz.func117 ?_
 repeat' (first|refine Bw ?_|refine dw fE ?_|refine dw eR ?_|refine w5 ?_ ?_|((refine bh fun h=>?_) <;> try exact w6 h)|(refine aE fun hA=>?_;subst hA)|intro _|(show aA _ 206 _ _ _;refine CA (h:=dO (b:=s.bt) (now:=s.now) ?_))|(show aA _ 207 _ _ _;refine CA (h:=Xo (x:=x) (a:=a) (s:= { s with bt:=bQ s.bt s.now }) (R:=R) (ps:=ps) hI1 hv hn hps (fun _ _=>?_))))
 all_goals(refine aC ?_;exact aB (hK _ _))
theorem Ot (hI:bO B s) (hB:B+300<=249000000) (hr:bR ⟨6,st,e,d,k,on,w,xx,c,la,n,pa,pn,pc,ps⟩) (hv:d4 R pa tI ps) (hn:ps.length=pn) (hK:∀M mc,K (.tuple #[]) (cB x a (bD ⟨6,st,e,d,k,on,w,xx,c,la,n,pa,pn,pc,ps⟩ s) M mc R)):CT 117 #[PO x,.agg #[I6 6,I6 st,.bool e,.string d,I6 k,I6 on,I6 w,.bool xx,I6 c,I6 la,I6 n,.slice pa pn pc]] (cB x a s M mc R) K:=by
 have hI1:=iL hI
 obtain⟨r1,r2,r3,r4,r5,r6,r7,r8,r9,r10,r11,r12,r13,r14,r15,r16,r17,r18,r19,r20,r21⟩:=hr
 dsimp only at r1 r2 r3 r4 r13 r15 r21
 have hps:pn<=1000000:=by omega
 unfold bD fG at hK
 dsimp only at hK
 rw[if_neg (show ¬(6:Int)=5 by decide),if_pos rfl] at hK
 dsimp only[cB,rI]
 refine aH Tryz.func117 ?_
 repeat' (first|refine Bw ?_|refine dw fE ?_|refine dw eR ?_|refine w5 ?_ ?_|((refine bh fun h=>?_) <;> try exact w6 h)|(refine aE fun hA=>?_;subst hA)|intro _|(show aA _ 206 _ _ _;refine CA (h:=dO (b:=s.bt) (now:=s.now) ?_))|(show aA _ 208 _ _ _;refine CA (h:=Ve (x:=x) (a:=a) (s:= { s with bt:=bQ s.bt s.now }) hI1 (fun _ _=>?_))))
 all_goals(refine aC ?_;exact aB (hK _ _))
theorem NU (hI:bO B s) (hB:B+300<=249000000) (hr:bR ⟨7,st,e,d,k,on,w,xx,c,la,n,pa,pn,pc,ps⟩) (hv:d4 R pa tI ps) (hn:ps.length=pn) (hK:∀M mc,K (.tuple #[]) (cB x a (bD ⟨7,st,e,d,k,on,w,xx,c,la,n,pa,pn,pc,ps⟩ s) M mc R)):CT 117 #[PO x,.agg #[I6 7,I6 st,.bool e,.string d,I6 k,I6 on,I6 w,.bool xx,I6 c,I6 la,I6 n,.slice pa pn pc]] (cB x a s M mc R) K:=by
 have hI1:=iL hI
 obtain⟨r1,r2,r3,r4,r5,r6,r7,r8,r9,r10,r11,r12,r13,r14,r15,r16,r17,r18,r19,r20,r21⟩:=hr
 dsimp only at r1 r2 r3 r4 r13 r15 r21
 have hps:pn<=1000000:=by omega
 unfold bD fG at hK
 dsimp only at hK
 rw[if_neg (show ¬(7:Int)=5 by decide),if_neg (show ¬(7:Int)=6 by decide),if_pos rfl] at hK
 dsimp only[cB,rI]
 refine aH Tryz.func117 ?_
 repeat' (first|refine Bw ?_|refine dw fE ?_|refine dw eR ?_|refine w5 ?_ ?_|((refine bh fun h=>?_) <;> try exact w6 h)|(refine aE fun hA=>?_;subst hA)|intro _|(show aA _ 206 _ _ _;refine CA (h:=dO (b:=s.bt) (now:=s.now) ?_))|(show aA _ 209 _ _ _;refine CA (h:=Cp (x:=x) (a:=a) (s:= { s with bt:=bQ s.bt s.now }) (f:=tQ 8 0 d false) hI1 rfl rfl rfl (fun _ _=>?_))))
 all_goals(refine aC ?_;exact aB (hK _ _))
theorem Oa (hI:bO B s) (hB:B+300<=249000000) (hr:bR ⟨8,st,e,d,k,on,w,xx,c,la,n,pa,pn,pc,ps⟩) (hv:d4 R pa tI ps) (hn:ps.length=pn) (hK:∀M mc,K (.tuple #[]) (cB x a (bD ⟨8,st,e,d,k,on,w,xx,c,la,n,pa,pn,pc,ps⟩ s) M mc R)):CT 117 #[PO x,.agg #[I6 8,I6 st,.bool e,.string d,I6 k,I6 on,I6 w,.bool xx,I6 c,I6 la,I6 n,.slice pa pn pc]] (cB x a s M mc R) K:=by
 have hI1:=iL hI
 obtain⟨r1,r2,r3,r4,r5,r6,r7,r8,r9,r10,r11,r12,r13,r14,r15,r16,r17,r18,r19,r20,r21⟩:=hr
 dsimp only at r1 r2 r3 r4 r13 r15 r21
 have hps:pn<=1000000:=by omega
 unfold bD fG at hK
 dsimp only at hK
 rw[if_neg (show ¬(8:Int)=5 by decide),if_neg (show ¬(8:Int)=6 by decide),if_neg (show ¬(8:Int)=7 by decide),if_pos rfl] at hK
 dsimp only[cB,rI]
 refine aH Tryz.func117 ?_
 repeat' (first|refine Bw ?_|refine dw fE ?_|refine dw eR ?_|refine w5 ?_ ?_|((refine bh fun h=>?_) <;> try exact w6 h)|(refine aE fun hA=>?_;subst hA)|intro _|(show aA _ 206 _ _ _;refine CA (h:=dO (b:=s.bt) (now:=s.now) ?_))|(show aA _ 210 _ _ _;refine CA (h:=Zw (b:=bQ s.bt s.now) (Ama hI1) (fun _=>?_))))
 all_goals(refine aC ?_;exact aB (hK _ _))
theorem N1 (hI:bO B s) (hB:B+300<=249000000) (hr:bR ⟨9,st,e,d,k,on,w,xx,c,la,n,pa,pn,pc,ps⟩) (hv:d4 R pa tI ps) (hn:ps.length=pn) (hK:∀M mc,K (.tuple #[]) (cB x a (bD ⟨9,st,e,d,k,on,w,xx,c,la,n,pa,pn,pc,ps⟩ s) M mc R)):CT 117 #[PO x,.agg #[I6 9,I6 st,.bool e,.string d,I6 k,I6 on,I6 w,.bool xx,I6 c,I6 la,I6 n,.slice pa pn pc]] (cB x a s M mc R) K:=by
 have hI1:=iL hI
 obtain⟨r1,r2,r3,r4,r5,r6,r7,r8,r9,r10,r11,r12,r13,r14,r15,r16,r17,r18,r19,r20,r21⟩:=hr
 dsimp only at r1 r2 r3 r4 r13 r15 r21
 have hps:pn<=1000000:=by omega
 unfold bD fG at hK
 dsimp only at hK
 rw[if_neg (show ¬(9:Int)=5 by decide),if_neg (show ¬(9:Int)=6 by decide),if_neg (show ¬(9:Int)=7 by decide),if_neg (show ¬(9:Int)=8 by decide),if_pos rfl] at hK
 dsimp only[cB,rI]
 refine aH Tryz.func117 ?_
 repeat' (first|refine Bw ?_|refine dw fE ?_|refine dw eR ?_|refine w5 ?_ ?_|((refine bh fun h=>?_) <;> try exact w6 h)|(refine aE fun hA=>?_;subst hA)|intro _|(show aA _ 206 _ _ _;refine CA (h:=dO (b:=s.bt) (now:=s.now) ?_))|(show aA _ 211 _ _ _;refine CA (h:=ZE (x:=x) (a:=a) (s:= { s with bt:=bQ s.bt s.now }) (ps:=ps) hI1 (fun _ _=>?_))))
 all_goals(refine aC ?_;exact aB (hK _ _))
theorem NV (hI:bO B s) (hB:B+300<=249000000) (hr:bR ⟨2,st,e,d,k,on,w,xx,c,la,n,pa,pn,pc,ps⟩) (hv:d4 R pa tI ps) (hn:ps.length=pn) (hK:∀M mc,K (.tuple #[]) (cB x a (bD ⟨2,st,e,d,k,on,w,xx,c,la,n,pa,pn,pc,ps⟩ s) M mc R)):CT 117 #[PO x,.agg #[I6 2,I6 st,.bool e,.string d,I6 k,I6 on,I6 w,.bool xx,I6 c,I6 la,I6 n,.slice pa pn pc]] (cB x a s M mc R) K:=by
 have hI1:=iL hI
 obtain⟨r1,r2,r3,r4,r5,r6,r7,r8,r9,r10,r11,r12,r13,r14,r15,r16,r17,r18,r19,r20,r21⟩:=hr
 dsimp only at r1 r2 r3 r4 r13 r15 r21
 have hps:pn<=1000000:=by omega
 unfold bD fG at hK
 dsimp only at hK
 rw[if_neg (show ¬(2:Int)=5 by decide),if_neg (show ¬(2:Int)=6 by decide),if_neg (show ¬(2:Int)=7 by decide),if_neg (show ¬(2:Int)=8 by decide),if_neg (show ¬(2:Int)=9 by decide),if_pos rfl] at hK
 dsimp only[cB,rI]
 refine aH Tryz.func117 ?_
 repeat' (first|refine Bw ?_|refine dw fE ?_|refine dw eR ?_|refine w5 ?_ ?_|((refine bh fun h=>?_) <;> try exact w6 h)|(refine aE fun hA=>?_;subst hA)|intro _|(show aA _ 206 _ _ _;refine CA (h:=dO (b:=s.bt) (now:=s.now) ?_))|(show aA _ 212 _ _ _;refine CA (h:=RS (x:=x) (a:=a) (s:= { s with bt:=bQ s.bt s.now }) (ps:=ps) hI1 (by omega) (r15 rfl) (by omega) (fun _ _=>?_))))
 all_goals(refine aC ?_;exact aB (hK _ _))
def bL:List (Nat×Nat):= [(0,0),(1,0),(2,0),(3,0),(4,0),(5,0),(6,0),(7,0),(8,1)]
def bJ:List (Nat×Nat):= [(0,0),(1,0),(2,0),(3,0),(4,0),(5,0),(6,0),(7,0),(8,0),(9,0),(10,1)]
theorem NC (hI:bO B s) (hB:B+300<=249000000) (hr:bR ⟨0,st,e,d,k,on,w,xx,c,la,n,pa,pn,pc,ps⟩) (hv:d4 R pa tI ps) (hn:ps.length=pn) (hK:∀M mc,K (.tuple #[]) (cB x a (bD ⟨0,st,e,d,k,on,w,xx,c,la,n,pa,pn,pc,ps⟩ s) M mc R)):CT 117 #[PO x,.agg #[I6 0,I6 st,.bool e,.string d,I6 k,I6 on,I6 w,.bool xx,I6 c,I6 la,I6 n,.slice pa pn pc]] (cB x a s M mc R) K:=by
 have hI1:=iL hI
 obtain⟨r1,r2,r3,r4,r5,r6,r7,r8,r9,r10,r11,r12,r13,r14,r15,r16,r17,r18,r19,r20,r21⟩:=hr
 dsimp only at r1 r2 r3 r4 r13 r15 r21
 have hps:pn<=1000000:=by omega
 unfold bD fG at hK
 dsimp only at hK
 rw[if_neg (show ¬(0:Int)=5 by decide),if_neg (show ¬(0:Int)=6 by decide),if_neg (show ¬(0:Int)=7 by decide),if_neg (show ¬(0:Int)=8 by decide),if_neg (show ¬(0:Int)=9 by decide),if_neg (show ¬(0:Int)=2 by decide)] at hK
 dsimp only[cB,rI]
 by_cases h0:st=0
 ·exfalso;omega
 ·rw[if_neg h0] at hK
  cases hp:vU { s with bt:=bQ s.bt s.now } st
  ·rw[if_pos hp] at hK
   refine aH Tryz.func117 ?_
   repeat' (first|refine Bw ?_|refine dw bL ?_|refine dw bJ ?_|refine w5 ?_ ?_|((refine bh fun h=>?_) <;> try exact w6 h)|(refine aE fun hA=>?_;subst hA)|intro _|(show aA _ 206 _ _ _;refine CA (h:=dO (b:=s.bt) (now:=s.now) ?_))|(show aA _ 214 _ _ _;refine CA (h:=jM (x:=x) (a:=a) (s:= { s with bt:=bQ s.bt s.now }) (M:=M) (mc:=mc) ?_);rw[hp])|(show aA _ 118 _ _ _;refine CA (h:=dU (x:=x) (a:=a) (s:= { s with bt:=bQ s.bt s.now }) hI1 (by decide) (by decide) (fun _ _=>?_))))
   all_goals(refine aC ?_;exact aB (hK _ _))
  ·rw[if_neg (by rw[hp];decide)] at hK
   rw[if_pos (by decide)] at hK
   refine aH Tryz.func117 ?_
   repeat' (first|refine Bw ?_|refine dw bL ?_|refine dw bJ ?_|refine w5 ?_ ?_|((refine bh fun h=>?_) <;> try exact w6 h)|(refine aE fun hA=>?_;subst hA)|intro _|(show aA _ 206 _ _ _;refine CA (h:=dO (b:=s.bt) (now:=s.now) ?_))|(show aA _ 214 _ _ _;refine CA (h:=jM (x:=x) (a:=a) (s:= { s with bt:=bQ s.bt s.now }) (M:=M) (mc:=mc) ?_);rw[hp])|(show aA _ 215 _ _ _;refine CA (h:=U3 (x:=x) (a:=a) (s:= { s with bt:=bQ s.bt s.now }) (ps:=ps) hI1 (by omega) (by omega) (r13 (by decide)) (fun _ _=>?_))))
   all_goals(refine aC ?_;exact aB (hK _ _))
theorem Na (hI:bO B s) (hB:B+300<=249000000) (hr:bR ⟨1,st,e,d,k,on,w,xx,c,la,n,pa,pn,pc,ps⟩) (hv:d4 R pa tI ps) (hn:ps.length=pn) (hK:∀M mc,K (.tuple #[]) (cB x a (bD ⟨1,st,e,d,k,on,w,xx,c,la,n,pa,pn,pc,ps⟩ s) M mc R)):CT 117 #[PO x,.agg #[I6 1,I6 st,.bool e,.string d,I6 k,I6 on,I6 w,.bool xx,I6 c,I6 la,I6 n,.slice pa pn pc]] (cB x a s M mc R) K:=by
 have hI1:=iL hI
 obtain⟨r1,r2,r3,r4,r5,r6,r7,r8,r9,r10,r11,r12,r13,r14,r15,r16,r17,r18,r19,r20,r21⟩:=hr
 dsimp only at r1 r2 r3 r4 r13 r15 r21
 have hps:pn<=1000000:=by omega
 unfold bD fG at hK
 dsimp only at hK
 rw[if_neg (show ¬(1:Int)=5 by decide),if_neg (show ¬(1:Int)=6 by decide),if_neg (show ¬(1:Int)=7 by decide),if_neg (show ¬(1:Int)=8 by decide),if_neg (show ¬(1:Int)=9 by decide),if_neg (show ¬(1:Int)=2 by decide)] at hK
 dsimp only[cB,rI]
 by_cases h0:st=0
 ·exfalso;omega
 ·rw[if_neg h0] at hK
  cases hp:vU { s with bt:=bQ s.bt s.now } st
  ·rw[if_pos hp] at hK
   refine aH Tryz.func117 ?_
   repeat' (first|refine Bw ?_|refine dw bL ?_|refine dw bJ ?_|refine w5 ?_ ?_|((refine bh fun h=>?_) <;> try exact w6 h)|(refine aE fun hA=>?_;subst hA)|intro _|(show aA _ 206 _ _ _;refine CA (h:=dO (b:=s.bt) (now:=s.now) ?_))|(show aA _ 214 _ _ _;refine CA (h:=jM (x:=x) (a:=a) (s:= { s with bt:=bQ s.bt s.now }) (M:=M) (mc:=mc) ?_);rw[hp])|(show aA _ 118 _ _ _;refine CA (h:=dU (x:=x) (a:=a) (s:= { s with bt:=bQ s.bt s.now }) hI1 (by decide) (by decide) (fun _ _=>?_))))
   all_goals(refine aC ?_;exact aB (hK _ _))
  ·rw[if_neg (by rw[hp];decide)] at hK
   rw[if_pos (by decide)] at hK
   refine aH Tryz.func117 ?_
   repeat' (first|refine Bw ?_|refine dw bL ?_|refine dw bJ ?_|refine w5 ?_ ?_|((refine bh fun h=>?_) <;> try exact w6 h)|(refine aE fun hA=>?_;subst hA)|intro _|(show aA _ 206 _ _ _;refine CA (h:=dO (b:=s.bt) (now:=s.now) ?_))|(show aA _ 214 _ _ _;refine CA (h:=jM (x:=x) (a:=a) (s:= { s with bt:=bQ s.bt s.now }) (M:=M) (mc:=mc) ?_);rw[hp])|(show aA _ 215 _ _ _;refine CA (h:=Un (x:=x) (a:=a) (s:= { s with bt:=bQ s.bt s.now }) (ps:=ps) hI1 (by omega) (by omega) (r13 (by decide)) (fun _ _=>?_))))
   all_goals(refine aC ?_;exact aB (hK _ _))
theorem On (hI:bO B s) (hB:B+300<=249000000) (hr:bR ⟨3,st,e,d,k,on,w,xx,c,la,n,pa,pn,pc,ps⟩) (hv:d4 R pa tI ps) (hn:ps.length=pn) (hK:∀M mc,K (.tuple #[]) (cB x a (bD ⟨3,st,e,d,k,on,w,xx,c,la,n,pa,pn,pc,ps⟩ s) M mc R)):CT 117 #[PO x,.agg #[I6 3,I6 st,.bool e,.string d,I6 k,I6 on,I6 w,.bool xx,I6 c,I6 la,I6 n,.slice pa pn pc]] (cB x a s M mc R) K:=by
 have hI1:=iL hI
 obtain⟨r1,r2,r3,r4,r5,r6,r7,r8,r9,r10,r11,r12,r13,r14,r15,r16,r17,r18,r19,r20,r21⟩:=hr
 dsimp only at r1 r2 r3 r4 r13 r15 r21
 have hps:pn<=1000000:=by omega
 unfold bD fG at hK
 dsimp only at hK
 rw[if_neg (show ¬(3:Int)=5 by decide),if_neg (show ¬(3:Int)=6 by decide),if_neg (show ¬(3:Int)=7 by decide),if_neg (show ¬(3:Int)=8 by decide),if_neg (show ¬(3:Int)=9 by decide),if_neg (show ¬(3:Int)=2 by decide)] at hK
 dsimp only[cB,rI]
 by_cases h0:st=0
 ·exfalso;omega
 ·rw[if_neg h0] at hK
  cases hp:vU { s with bt:=bQ s.bt s.now } st
  ·rw[if_pos hp] at hK
   refine aH Tryz.func117 ?_
   repeat' (first|refine Bw ?_|refine dw bL ?_|refine dw bJ ?_|refine w5 ?_ ?_|((refine bh fun h=>?_) <;> try exact w6 h)|(refine aE fun hA=>?_;subst hA)|intro _|(show aA _ 206 _ _ _;refine CA (h:=dO (b:=s.bt) (now:=s.now) ?_))|(show aA _ 214 _ _ _;refine CA (h:=jM (x:=x) (a:=a) (s:= { s with bt:=bQ s.bt s.now }) (M:=M) (mc:=mc) ?_);rw[hp])|(show aA _ 118 _ _ _;refine CA (h:=dU (x:=x) (a:=a) (s:= { s with bt:=bQ s.bt s.now }) hI1 (by decide) (by decide) (fun _ _=>?_))))
   all_goals(refine aC ?_;exact aB (hK _ _))
  ·rw[if_neg (by rw[hp];decide)] at hK
   rw[if_neg (by decide)] at hK
   refine aH Tryz.func117 ?_
   repeat' (first|refine Bw ?_|refine dw bL ?_|refine dw bJ ?_|refine w5 ?_ ?_|((refine bh fun h=>?_) <;> try exact w6 h)|(refine aE fun hA=>?_;subst hA)|intro _|(show aA _ 206 _ _ _;refine CA (h:=dO (b:=s.bt) (now:=s.now) ?_))|(show aA _ 214 _ _ _;refine CA (h:=jM (x:=x) (a:=a) (s:= { s with bt:=bQ s.bt s.now }) (M:=M) (mc:=mc) ?_);rw[hp])|(show aA _ 216 _ _ _;refine CA (h:=Sk (x:=x) (a:=a) (s:= { s with bt:=bQ s.bt s.now }) (ps:=ps) hI1 (by omega) (fun _ _=>?_))))
   all_goals(refine aC ?_;exact aB (hK _ _))
theorem Nv (hI:bO B s) (hB:B+300<=249000000) (hr:bR ⟨4,st,e,d,k,on,w,xx,c,la,n,pa,pn,pc,ps⟩) (hv:d4 R pa tI ps) (hn:ps.length=pn) (hK:∀M mc,K (.tuple #[]) (cB x a (bD ⟨4,st,e,d,k,on,w,xx,c,la,n,pa,pn,pc,ps⟩ s) M mc R)):CT 117 #[PO x,.agg #[I6 4,I6 st,.bool e,.string d,I6 k,I6 on,I6 w,.bool xx,I6 c,I6 la,I6 n,.slice pa pn pc]] (cB x a s M mc R) K:=by
 have hI1:=iL hI
 obtain⟨r1,r2,r3,r4,r5,r6,r7,r8,r9,r10,r11,r12,r13,r14,r15,r16,r17,r18,r19,r20,r21⟩:=hr
 dsimp only at r1 r2 r3 r4 r13 r15 r21
 have hps:pn<=1000000:=by omega
 unfold bD fG at hK
 dsimp only at hK
 rw[if_neg (show ¬(4:Int)=5 by decide),if_neg (show ¬(4:Int)=6 by decide),if_neg (show ¬(4:Int)=7 by decide),if_neg (show ¬(4:Int)=8 by decide),if_neg (show ¬(4:Int)=9 by decide),if_neg (show ¬(4:Int)=2 by decide)] at hK
 dsimp only[cB,rI]
 by_cases h0:st=0
 ·exfalso;omega
 ·rw[if_neg h0] at hK
  cases hp:vU { s with bt:=bQ s.bt s.now } st
  ·rw[if_pos hp] at hK
   refine aH Tryz.func117 ?_
   repeat' (first|refine Bw ?_|refine dw bL ?_|refine dw bJ ?_|refine w5 ?_ ?_|((refine bh fun h=>?_) <;> try exact w6 h)|(refine aE fun hA=>?_;subst hA)|intro _|(show aA _ 206 _ _ _;refine CA (h:=dO (b:=s.bt) (now:=s.now) ?_))|(show aA _ 214 _ _ _;refine CA (h:=jM (x:=x) (a:=a) (s:= { s with bt:=bQ s.bt s.now }) (M:=M) (mc:=mc) ?_);rw[hp])|(show aA _ 118 _ _ _;refine CA (h:=dU (x:=x) (a:=a) (s:= { s with bt:=bQ s.bt s.now }) hI1 (by decide) (by decide) (fun _ _=>?_))))
   all_goals(refine aC ?_;exact aB (hK _ _))
  ·rw[if_neg (by rw[hp];decide)] at hK
   rw[if_neg (by decide)] at hK
   refine aH Tryz.func117 ?_
   repeat' (first|refine Bw ?_|refine dw bL ?_|refine dw bJ ?_|refine w5 ?_ ?_|((refine bh fun h=>?_) <;> try exact w6 h)|(refine aE fun hA=>?_;subst hA)|intro _|(show aA _ 206 _ _ _;refine CA (h:=dO (b:=s.bt) (now:=s.now) ?_))|(show aA _ 214 _ _ _;refine CA (h:=jM (x:=x) (a:=a) (s:= { s with bt:=bQ s.bt s.now }) (M:=M) (mc:=mc) ?_);rw[hp])|(show aA _ 216 _ _ _;refine CA (h:=QM (x:=x) (a:=a) (s:= { s with bt:=bQ s.bt s.now }) (ps:=ps) hI1 (by omega) (fun _ _=>?_))))
   all_goals(refine aC ?_;exact aB (hK _ _))
theorem K3 (hI:bO B s) (hB:B+300<=249000000) (hr:bR ⟨10,st,e,d,k,on,w,xx,c,la,n,pa,pn,pc,ps⟩) (hv:d4 R pa tI ps) (hn:ps.length=pn) (hK:∀M mc,K (.tuple #[]) (cB x a (bD ⟨10,st,e,d,k,on,w,xx,c,la,n,pa,pn,pc,ps⟩ s) M mc R)):CT 117 #[PO x,.agg #[I6 10,I6 st,.bool e,.string d,I6 k,I6 on,I6 w,.bool xx,I6 c,I6 la,I6 n,.slice pa pn pc]] (cB x a s M mc R) K:=by
 have hI1:=iL hI
 obtain⟨r1,r2,r3,r4,r5,r6,r7,r8,r9,r10,r11,r12,r13,r14,r15,r16,r17,r18,r19,r20,r21⟩:=hr
 dsimp only at r1 r2 r3 r4 r13 r15 r21
 have hps:pn<=1000000:=by omega
 unfold bD fG at hK
 dsimp only at hK
 rw[if_neg (show ¬(10:Int)=5 by decide),if_neg (show ¬(10:Int)=6 by decide),if_neg (show ¬(10:Int)=7 by decide),if_neg (show ¬(10:Int)=8 by decide),if_neg (show ¬(10:Int)=9 by decide),if_neg (show ¬(10:Int)=2 by decide)] at hK
 dsimp only[cB,rI]
 by_cases h0:st=0
 ·subst h0
  rw[if_pos rfl] at hK
  refine aH Tryz.func117 ?_
  repeat' (first|refine Bw ?_|refine dw bL ?_|refine dw bJ ?_|refine w5 ?_ ?_|((refine bh fun h=>?_) <;> try exact w6 h)|(refine aE fun hA=>?_;subst hA)|intro _|(show aA _ 206 _ _ _;refine CA (h:=dO (b:=s.bt) (now:=s.now) ?_))|(show aA _ 213 _ _ _;refine CA (h:=IU (x:=x) (a:=a) (s:= { s with bt:=bQ s.bt s.now }) (ps:=ps) hI1 (fun _ _=>?_))))
  all_goals(refine aC ?_;exact aB (hK _ _))
 ·rw[if_neg h0] at hK
  cases hp:vU { s with bt:=bQ s.bt s.now } st
  ·rw[if_pos hp] at hK
   refine aH Tryz.func117 ?_
   repeat' (first|refine Bw ?_|refine dw bL ?_|refine dw bJ ?_|refine w5 ?_ ?_|((refine bh fun h=>?_) <;> try exact w6 h)|(refine aE fun hA=>?_;subst hA)|intro _|(show aA _ 206 _ _ _;refine CA (h:=dO (b:=s.bt) (now:=s.now) ?_))|(show aA _ 214 _ _ _;refine CA (h:=jM (x:=x) (a:=a) (s:= { s with bt:=bQ s.bt s.now }) (M:=M) (mc:=mc) ?_);rw[hp])|(show aA _ 118 _ _ _;refine CA (h:=dU (x:=x) (a:=a) (s:= { s with bt:=bQ s.bt s.now }) hI1 (by decide) (by decide) (fun _ _=>?_))))
   all_goals(refine aC ?_;exact aB (hK _ _))
  ·rw[if_neg (by rw[hp];decide)] at hK
   rw[if_neg (by decide)] at hK
   refine aH Tryz.func117 ?_
   repeat' (first|refine Bw ?_|refine dw bL ?_|refine dw bJ ?_|refine w5 ?_ ?_|((refine bh fun h=>?_) <;> try exact w6 h)|(refine aE fun hA=>?_;subst hA)|intro _|(show aA _ 206 _ _ _;refine CA (h:=dO (b:=s.bt) (now:=s.now) ?_))|(show aA _ 214 _ _ _;refine CA (h:=jM (x:=x) (a:=a) (s:= { s with bt:=bQ s.bt s.now }) (M:=M) (mc:=mc) ?_);rw[hp])|(show aA _ 216 _ _ _;refine CA (h:=NQ (x:=x) (a:=a) (s:= { s with bt:=bQ s.bt s.now }) (ps:=ps) hI1 (by omega) (fun _ _=>?_))))
   all_goals(refine aC ?_;exact aB (hK _ _))
theorem K2 (hI:bO B s) (hB:B+300<=249000000) (hr:bR ⟨11,st,e,d,k,on,w,xx,c,la,n,pa,pn,pc,ps⟩) (hv:d4 R pa tI ps) (hn:ps.length=pn) (hK:∀M mc,K (.tuple #[]) (cB x a (bD ⟨11,st,e,d,k,on,w,xx,c,la,n,pa,pn,pc,ps⟩ s) M mc R)):CT 117 #[PO x,.agg #[I6 11,I6 st,.bool e,.string d,I6 k,I6 on,I6 w,.bool xx,I6 c,I6 la,I6 n,.slice pa pn pc]] (cB x a s M mc R) K:=by
 have hI1:=iL hI
 obtain⟨r1,r2,r3,r4,r5,r6,r7,r8,r9,r10,r11,r12,r13,r14,r15,r16,r17,r18,r19,r20,r21⟩:=hr
 dsimp only at r1 r2 r3 r4 r13 r15 r21
 have hps:pn<=1000000:=by omega
 unfold bD fG at hK
 dsimp only at hK
 rw[if_neg (show ¬(11:Int)=5 by decide),if_neg (show ¬(11:Int)=6 by decide),if_neg (show ¬(11:Int)=7 by decide),if_neg (show ¬(11:Int)=8 by decide),if_neg (show ¬(11:Int)=9 by decide),if_neg (show ¬(11:Int)=2 by decide)] at hK
 dsimp only[cB,rI]
 by_cases h0:st=0
 ·subst h0
  rw[if_pos rfl] at hK
  refine aH Tryz.func117 ?_
  repeat' (first|refine Bw ?_|refine dw bL ?_|refine dw bJ ?_|refine w5 ?_ ?_|((refine bh fun h=>?_) <;> try exact w6 h)|(refine aE fun hA=>?_;subst hA)|intro _|(show aA _ 206 _ _ _;refine CA (h:=dO (b:=s.bt) (now:=s.now) ?_))|(show aA _ 213 _ _ _;refine CA (h:=IU (x:=x) (a:=a) (s:= { s with bt:=bQ s.bt s.now }) (ps:=ps) hI1 (fun _ _=>?_))))
  all_goals(refine aC ?_;exact aB (hK _ _))
 ·rw[if_neg h0] at hK
  cases hp:vU { s with bt:=bQ s.bt s.now } st
  ·rw[if_pos hp] at hK
   refine aH Tryz.func117 ?_
   repeat' (first|refine Bw ?_|refine dw bL ?_|refine dw bJ ?_|refine w5 ?_ ?_|((refine bh fun h=>?_) <;> try exact w6 h)|(refine aE fun hA=>?_;subst hA)|intro _|(show aA _ 206 _ _ _;refine CA (h:=dO (b:=s.bt) (now:=s.now) ?_))|(show aA _ 214 _ _ _;refine CA (h:=jM (x:=x) (a:=a) (s:= { s with bt:=bQ s.bt s.now }) (M:=M) (mc:=mc) ?_);rw[hp])|(show aA _ 118 _ _ _;refine CA (h:=dU (x:=x) (a:=a) (s:= { s with bt:=bQ s.bt s.now }) hI1 (by decide) (by decide) (fun _ _=>?_))))
   all_goals(refine aC ?_;exact aB (hK _ _))
  ·rw[if_neg (by rw[hp];decide)] at hK
   rw[if_neg (by decide)] at hK
   refine aH Tryz.func117 ?_
   repeat' (first|refine Bw ?_|refine dw bL ?_|refine dw bJ ?_|refine w5 ?_ ?_|((refine bh fun h=>?_) <;> try exact w6 h)|(refine aE fun hA=>?_;subst hA)|intro _|(show aA _ 206 _ _ _;refine CA (h:=dO (b:=s.bt) (now:=s.now) ?_))|(show aA _ 214 _ _ _;refine CA (h:=jM (x:=x) (a:=a) (s:= { s with bt:=bQ s.bt s.now }) (M:=M) (mc:=mc) ?_);rw[hp])|(show aA _ 216 _ _ _;refine CA (h:=NI (x:=x) (a:=a) (s:= { s with bt:=bQ s.bt s.now }) (ps:=ps) hI1 (by omega) (fun _ _=>?_))))
   all_goals(refine aC ?_;exact aB (hK _ _))
end Go.Proofs.YtepnmcipkangkaaGreat
