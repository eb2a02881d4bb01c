/- A part of the proof: lemmas; each with the conditions that it states. -/
import Derived.Test.YtepnmcipkangkaaGreatCbd
set_option linter.unusedVariables false
set_option linter.unusedSimpArgs false
set_option maxRecDepth 100000
set_option maxHeartbeats 40000000
namespace Go.Proofs.YtepnmcipkangkaaGreat
open Go Go.Proofs Go.Sl
attribute [local irreducible] aN fL cL bM aL aR aA dJ dK aU dI pt ro fC star sep bF
attribute [local irreducible] mp DG
variable {R C:List HP} {K:KP} {x mc i b p r pn pc j:Nat} {a:Ca} {s:Cn} {M pa:Option Addr} {B B' id code n st k on w c la:Int} {own e xx:Bool} {m m':Sm} {f:Fm} {y:Ys} {l acc:List Sm} {cf:Cf} {h3 t:dR} {z:Yp} {d:ByteArray} {ps:List Pr} {g:Sm->Sm}
def In3 (t:dR):Prop:=AD t.w/\AD t.st/\AD t.it
theorem MU:∀ {ps:List Pr} {t u:dR},In3 t->Vg t ps=some u->In3 u
 | [],t,u,h,e=>by cases e;exact h
 |p::ps,t,u,h,e=>by
  unfold Vg at e
  split at e
  ·rename_i hp
   refine MU (t:=Mp t p) ?_ e
   obtain⟨h1,h2,h3⟩:=h
   unfold Mp
   split
   ·exact⟨hp,h2,h3⟩
   ·split
    ·exact⟨h1,hp,h3⟩
    ·split
     ·exact⟨h1,h2,hp⟩
     ·exact⟨h1,h2,h3⟩
  ·cases e
theorem Afu (h:AD n):mG n=true:=by
 unfold AD at h
 unfold mG
 simp only[Bool.and_eq_true,decide_eq_true_eq]
 exact h
theorem NT (h:bO B s) (ht:In3 t) {q:Ld} (hq:GH B q):bO B { s with ld:=q,pe:=t }:=
 { h with ld:=hq,pe:=ht }
theorem Abu (h:bO B s):bO B (wJ f s):=by
 unfold wJ
 cases hp:Vg s.pe f.ps with
 |none=>exact jN h
 |some t=>
  dsimp only
  split
  ·exact jN h
  ·exact IC (NT h (MU h.pe hp) (MW h.ld))
def pT:Tr:=(.br (.st 0 1 (.st 1 1 (.st 2 1 (.st 3 1 (.st 4 1 (.st 5 1 (.st 6 2 (.st 10 2 (.st 7 1 (.st 8 1 (.st 11 1 (.st 9 2 (.st 12 0 .nil))))))))))))) (.st 10 2 (.st 0 1 (.st 1 1 (.st 2 1 (.st 3 1 (.st 4 1 (.st 5 1 (.st 6 2 (.st 7 1 (.st 8 1 (.st 11 1 (.st 9 2 (.st 12 0 .nil))))))))))))))
def pP:List (Nat×Nat):= [(0,0),(1,0),(2,0),(3,0),(4,0),(5,0),(6,0),(7,0),(8,0),(9,0),(10,0),(11,1),(12,0),(13,0)]
theorem YU {t:Int} (hI:bO B s) (hv:dW R pa tX ps) (hn:ps.length=pn) (hn2:pn<=1000000) (hK:∀M mc,K (.tuple #[]) (cA x a (wJ ⟨t,st,e,d,k,on,w,xx,c,la,n,pa,pn,pc,ps⟩ s) M mc R)):CT 207 #[PO x,.agg #[I6 t,I6 st,.bool e,.string d,I6 k,I6 on,I6 w,.bool xx,I6 c,I6 la,I6 n,.slice pa pn pc]] (cA x a s M mc R) K:=by
 have hbb:=hI.bb
 unfold wJ at hK
 dsimp only at hK
 dsimp only[cA,nF]
 cases hp:Vg s.pe ps with
 |none=>
  rw[hp] at hK
  refine aH Tryz.func207 ?_
  repeat' (first|refine ZO ?_|refine Sf pT ?_|refine dw pP ?_|refine w5 ?_ ?_|((refine bh fun h=>?_) <;> try exact w6 h)|(refine aE fun hA=>?_;subst hA)|intro _|(show aA _ 292 _ _ _;refine CA (h:=FV (s:=s.pe) (ps:=ps) (by exact lL) hn hn2 ?_);rw[hp];dsimp only[paV])|(show aA _ 118 _ _ _;refine CA (h:=dQ (x:=x) (a:=a) (s:=s) hI (by decide) (by decide) (fun _ _=>?_))))
  all_goals(refine aC ?_;exact aB (hK _ _))
 |some u=>
  rw[hp] at hK
  dsimp only at hK
  have hu:=MU hI.pe hp
  have hab:mG s.pe.w=true/\mG u.w=true:=⟨Afu hI.pe.1,Afu hu.1⟩
  by_cases hg:AQ s.pe.w u.w s.ld=0
  ·rw[if_neg (fun q=>q hg)] at hK
   refine aH Tryz.func207 ?_
   repeat' (first|refine ZO ?_|refine Sf pT ?_|refine dw pP ?_|refine w5 ?_ ?_|((refine bh fun h=>?_) <;> try exact w6 h)|(refine aE fun hA=>?_;subst hA)|intro _|(show aA _ 292 _ _ _;refine CA (h:=FV (s:=s.pe) (ps:=ps) (by exact lL) hn hn2 ?_);rw[hp];dsimp only[paV])|(show aA _ 295 _ _ _;refine CA (h:=R7 (s:=s.ld) (hI.ld.ok (by omega)) hab ?_);rw[hg])|(show aA _ 209 _ _ _;refine CA (h:=Ce (x:=x) (a:=a) (s:= { s with ld:=mO s.pe.w u.w s.ld,pe:=u }) (f:=fr0 6 0) (NT hI hu (MW hI.ld)) rfl rfl rfl (fun _ _=>?_))))
   all_goals(refine aC ?_;exact aB (hK _ _))
  ·rw[if_pos hg] at hK
   have hs:mO s.pe.w u.w s.ld=s.ld:=by unfold mO;rw[if_pos hg]
   refine aH Tryz.func207 ?_
   repeat' (first|(show Br _ _ _;refine Br.t (by first|(simp <;> done)|simpa using hg) ?_)|refine ZO ?_|refine Sf pT ?_|refine dw pP ?_|refine w5 ?_ ?_|((refine bh fun h=>?_) <;> try exact w6 h)|(refine aE fun hA=>?_;subst hA)|intro _|(show aA _ 292 _ _ _;refine CA (h:=FV (s:=s.pe) (ps:=ps) (by exact lL) hn hn2 ?_);rw[hp];dsimp only[paV])|(show aA _ 295 _ _ _;refine CA (h:=R7 (s:=s.ld) (hI.ld.ok (by omega)) hab ?_);rw[hs])|(show aA _ 118 _ _ _;refine CA (h:=dQ (x:=x) (a:=a) (s:=s) hI (by decide) (by decide) (fun _ _=>?_))))
   all_goals(refine aC ?_;exact aB (hK _ _))
theorem WJ {l':List Sm} (h:G6 l) (e:l'.map Sm.id=l.map Sm.id):G6 l':=by
 obtain⟨h1,h2⟩:=h
 have hl:=congrArg List.length e
 rw[List.length_map,List.length_map] at hl
 refine⟨by omega,?_⟩
 have h3:(l.map Sm.id).Pairwise (·<·):=List.pairwise_map.2 h2
 rw[<- e] at h3
 exact List.pairwise_map.1 h3
def Uv (t:dR) (m:Sm):Sm:= { m with y:=Ex m.y t }
theorem QQ (hm:l[j]?=some m):((l.take j).map g++l.drop j).set j (g m)=(l.take (j+1)).map g++l.drop (j+1):=by
 have hj:=(List.getElem?_eq_some_iff.1 hm).1
 have hlen:((l.take j).map g).length=j:=by rw[List.length_map,List.length_take];omega
 have hd:l.drop j=m::l.drop (j+1):=by rw[List.drop_eq_getElem_cons hj,(List.getElem?_eq_some_iff.1 hm).2]
 rw[List.set_append_right _ _ (by omega),hlen,Nat.sub_self,hd,List.set_cons_zero,List.take_add_one,hm]
 simp
theorem V3 (hm:l[j]?=some m):((l.take j).map g++l.drop j)[j]?=some m:=by
 have hj:=(List.getElem?_eq_some_iff.1 hm).1
 have hlen:((l.take j).map g).length=j:=by rw[List.length_map,List.length_take];omega
 rw[List.getElem?_append_right (by omega),hlen,Nat.sub_self,List.getElem?_drop]
 simpa using hm
theorem OR (hg:∀m,(g m).id=m.id):((l.take j).map g++l.drop j).map Sm.id=l.map Sm.id:=by
 rw[List.map_append,List.map_map]
 have e:(Sm.id ∘ g)=Sm.id:=funext hg
 rw[e,<- List.map_append,List.take_append_drop]
theorem Acg:jZ (Ex y t)=jZ y:=by cases y <;> rfl
theorem YK (h:bO B s):bO B (rD s):=by
 unfold rD
 split
 ·exact jN h
 ·have hsh:=h.sh
  have hsh2:(dE s.sh).l.length<=4/\tC (dE s.sh).h/\tC (dE s.sh).g/\∀t∈(dE s.sh).l,tC t:=by
   unfold dE
   cases hl:s.sh.l with
   |nil=>dsimp only;rw[hl] at hsh;rw[hl];exact hsh
   |cons t r=>
    rw[hl] at hsh
    obtain⟨h1,h2,h3,h4⟩:=hsh
    rw[List.length_cons] at h1
    exact⟨by dsimp only;omega,h4 t (List.mem_cons_self ..),h3,fun z hz=>h4 z (List.mem_cons_of_mem _ hz)⟩
  exact { h with
   sh:=hsh2
   sm:=U8 h.sm fun m=>rfl
   st:=fun q hq=>by
    obtain⟨m,hm,rfl⟩:=List.mem_map.1 hq
    obtain⟨h1,h2,h3,h4⟩:=h.st m hm
    refine⟨h1,h2,?_,?_⟩
    ·cases hy:m.y <;> (rw[hy] at h3;exact h3)
    ·cases hy:m.y <;> (rw[hy] at h4;exact h4)
   ids:=fun q hq=>by
    obtain⟨m,hm,rfl⟩:=List.mem_map.1 hq
    exact h.ids m hm
   own:=fun b=>by
    have:=h.own b
    unfold fQ at this
    show((s.l.map fun m=>({ m with y:=Ex m.y (dE s.sh).h }:Sm)).filter fun m=>m.own == b).length<=32
    rw[pA,List.map_map]
    rw[pA] at this
    exact this
   mv:=by
    have:=h.mv
    show(s.mv.length:Int)+((s.l.map _).length:Int)<=B
    rw[List.length_map];exact this }
def kV:List (Nat×Nat):= [(0,0),(1,1),(2,1),(3,1)]
theorem UC (hI:bO B s) (hK:∀M mc,K (.tuple #[]) (cA x a (rD s) M mc R)):CT 208 #[PO x] (cA x a s M mc R) K:=by
 have h64:=hI.sm.1
 unfold rD at hK
 dsimp only[cA,nF]
 by_cases hl:s.sh.l= []
 ·have hE:zW s.sh=1:=by unfold zW;rw[if_pos hl]
  have hA:dE s.sh=s.sh:=by unfold dE;rw[hl]
  rw[hE,if_pos (by decide)] at hK
  refine aH Tryz.func208 ?_
  repeat' (first|refine Ng ?_|refine dw kV ?_|refine w5 ?_ ?_|((refine bh fun h=>?_) <;> try exact w6 h)|(refine aE fun hA=>?_;subst hA)|intro _|(show aA _ 296 _ _ _;refine CA (h:=PC (s:=s.sh) ?_);rw[hE,hA])|(show aA _ 118 _ _ _;refine CA (h:=dQ (x:=x) (a:=a) (s:=s) hI (by decide) (by decide) (fun _ _=>?_))))
  all_goals(refine aC ?_;exact aB (hK _ _))
 ·have hE:zW s.sh=0:=by unfold zW;rw[if_neg hl]
  rw[hE,if_neg (by decide)] at hK
  have hch:tC (dE s.sh).h:=by
   have:=hI.sh
   unfold dE
   cases hq:s.sh.l with
   |nil=>exact absurd hq hl
   |cons t r=>rw[hq] at this;exact this.2.2.2 t (List.mem_cons_self ..)
  refine aH Tryz.func208 ?_
  repeat' (first|refine Ng ?_|refine dw kV ?_|refine w5 ?_ ?_|((refine bh fun h=>?_) <;> try exact w6 h)|(refine aE fun hA=>?_;subst hA)|intro _|(show aA _ 296 _ _ _;refine CA (h:=PC (s:=s.sh) ?_);rw[hE];simp only[if_neg hl])|(show aA _ 60 _ _ _;refine CA (h:=Ad (l:=s.l) ?_)))
  rename_i r2 r3
  refine jA (fun n a' C'=>∃j:Nat,j+n=s.l.length/\dH a' [(0,PO x),(3,PO r3),(27,I6 s.l.length),(28,I6 j)]/\C'=pt r3 [I6 (dE s.sh).h.w,I6 (dE s.sh).h.st,I6 (dE s.sh).h.it] 23::cA x a { s with sh:=dE s.sh,l:=(s.l.take j).map (Uv (dE s.sh).h)++s.l.drop j } M mc R) s.l.length (cJ s.l.length ⟨0,by omega,⟨rfl,rfl,rfl,rfl,trivial⟩,rfl⟩ (by omega)) ?_
  rintro n a' C' ⟨j,hj,ha,rfl⟩
  refine i6 _ ha ?_
  simp only[gJ]
  by_cases hlt:j<s.l.length
  ·obtain⟨m,hm⟩:∃m,s.l[j]?=some m:=⟨_,List.getElem?_eq_getElem hlt⟩
   have hat:=V3 (g:=Uv (dE s.sh).h) hm
   have hset:=QQ (g:=Uv (dE s.sh).h) hm
   have hS:=WJ hI.sm (OR (g:=Uv (dE s.sh).h) (l:=s.l) (j:=j) fun _=>rfl)
   repeat' (first|refine Ng ?_|refine dw kV ?_|refine w5 ?_ ?_|((refine bh fun h=>?_) <;> try exact w6 h)|(refine aE fun hA=>?_;subst hA)|intro _|(show aA _ 62 _ _ _;refine CA (h:=FM hS hat (fun _=>?_)))|(show aA _ 63 _ _ _;refine CA (h:=o9 (m:=m) (fun _=>?_)))|(show aA _ 297 _ _ _;refine CA (h:=Ajc (y:=m.y) (s:=(dE s.sh).h) hch ?_)))
   all_goals(show aU _ _ _ _;exact qK (m:=n - 1) (by omega) (aG.trans (by exact aY) (aG.trans (aG.cons (A:=pt r3 [I6 (dE s.sh).h.w,I6 (dE s.sh).h.st,I6 (dE s.sh).h.it] 23) (lX (m:=m) (y:=Ex m.y (dE s.sh).h) Acg)) (aG.cons (A:=pt r3 [I6 (dE s.sh).h.w,I6 (dE s.sh).h.st,I6 (dE s.sh).h.it] 23) (nL (x:=x) (a:=a) (s:= { s with sh:=dE s.sh,l:=(s.l.take j).map (Uv (dE s.sh).h)++s.l.drop j }) (M:=M) (mc:=mc) (R:=R) (m':=Uv (dE s.sh).h m) hat rfl)))) ⟨j+1,by omega,⟨rfl,rfl,rfl,rfl,trivial⟩,congrArg (fun q=>pt r3 [I6 (dE s.sh).h.w,I6 (dE s.sh).h.st,I6 (dE s.sh).h.it] 23::cA x a { s with sh:=dE s.sh,l:=q } M mc R) hset⟩)
  ·have hj0:j=s.l.length:=by omega
   subst hj0
   have e:(s.l.take s.l.length).map (Uv (dE s.sh).h)++s.l.drop s.l.length=s.l.map fun m=>({ m with y:=Ex m.y (dE s.sh).h }:Sm):=by
    rw[List.take_length,List.drop_length,List.append_nil];rfl
   rw[e]
   repeat' (first|refine Ng ?_|refine dw kV ?_|refine w5 ?_ ?_|((refine bh fun h=>?_) <;> try exact w6 h)|(refine aE fun hA=>?_;subst hA)|intro _)
   all_goals(refine aC ?_;exact aB (hK _ _))
theorem Sa (h:∀q∈acc,q.id<m.id):cI m.id (acc++m::l)=acc.length:=by
 unfold cI
 induction acc with
 |nil=>rw[List.nil_append,List.takeWhile_cons];simp
 |cons q acc ih=>
  rw[List.cons_append,List.takeWhile_cons,if_pos (decide_eq_true (h q (List.mem_cons_self ..))),List.length_cons,List.length_cons,ih fun z hz=>h z (List.mem_cons_of_mem _ hz)]
theorem Iv (h:∀q∈acc,q.id<m.id):bX m.id (acc++m::l)=some m:=by
 unfold bX
 rw[Sa h,List.getElem?_append_right (Nat.le_refl _),Nat.sub_self]
 simp
theorem SB (h:G6 (acc++m::l)):∀q∈acc,q.id<m.id:=fun q hq=>
 (List.pairwise_append.1 h.2).2.2 q hq m (List.mem_cons_self ..)
theorem Gq (h:∀q∈acc,q.id<m.id):(acc++m::l).eraseIdx (cI m.id (acc++m::l))=acc++l:=by
 rw[Sa h,List.eraseIdx_append_of_length_le (Nat.le_refl _),Nat.sub_self];rfl
theorem LB {ids:List Int} (hm:bX id s.l=some m):nB (id::ids) s=nB ids (if m.own=true/\Ih s.dr id=true then qF m 7 s else s):=by
 show nB ids (match bX id s.l with
  |some m=>_
  |none=>s)=_
 rw[hm]
theorem FN (h:bO B s) {d:Dr}:bO B { s with dr:=d }:= { h with }
theorem Jq:∀ {l acc:List Sm} {s:Cn},s.l=acc++l->bO B s->bO B (nB (l.map Sm.id) s)
 | [],acc,s,he,h=>h
 |m::l,acc,s,he,h=>by
  have hlt:=SB (by rw[<- he];exact h.sm)
  have hm:bX m.id s.l=some m:=by rw[he];exact Iv hlt
  rw[List.map_cons,LB hm]
  split
  ·refine Jq (l:=l) (acc:=acc) ?_ (tJ h hm)
   show s.l.eraseIdx (cI m.id s.l)=acc++l
   rw[he];exact Gq hlt
  ·exact Jq (l:=l) (acc:=acc++ [m]) (by rw[he];simp) h
theorem Ad6 (h:bO B s):bO B (vK f s):=by
 unfold vK
 split
 ·exact LV (FN h)
 ·exact Jq (acc:= []) rfl (FN h)
def hZ:List (Nat×Nat):= [(0,0),(1,0),(2,0),(3,0),(4,0),(5,0),(6,0),(7,0),(8,1)]
theorem Zm {t:Int} (hI:bO B s) (hK:∀M mc,K (.tuple #[]) (cA x a (vK ⟨t,st,e,d,k,on,w,xx,c,la,n,pa,pn,pc,ps⟩ s) M mc R)):CT 211 #[PO x,.agg #[I6 t,I6 st,.bool e,.string d,I6 k,I6 on,I6 w,.bool xx,I6 c,I6 la,I6 n,.slice pa pn pc]] (cA x a s M mc R) K:=by
 have h64:=hI.sm.1
 have hlm:(s.l.map Sm.id).length=s.l.length:=List.length_map ..
 have hI1:=FN (d:=mI s.dr la c) hI
 unfold vK at hK
 dsimp only at hK
 dsimp only[cA,nF]
 cases ho:(mI s.dr la c).ov
 ·rw[ho,if_neg Bool.false_ne_true] at hK
  refine aH Tryz.func211 ?_
  repeat' (first|refine v78 ?_|refine dw hZ ?_|refine w5 ?_ ?_|((refine bh fun h=>?_) <;> try exact w6 h)|(refine aE fun hA=>?_;subst hA)|intro _|(show aA _ 298 _ _ _;refine CA (h:=V1 (d:=s.dr) ?_))|(show aA _ 105 _ _ _;refine CA (h:=lC (x:=x) (a:=a) (s:= { s with dr:=mI s.dr la c }) (M:=M) (mc:=mc) ?_);rw[show({ s with dr:=mI s.dr la c }:Cn).dr.ov=false from ho])|(show aA _ 125 _ _ _;refine CA (h:=M6 (l:=s.l) hI.sm (fun Bq dq=>?_))))
  refine jA (fun n a' C'=>∃(j:Nat) (s':Cn) (acc:List Sm) (M':Option Addr) (mc':Nat),j+n=s.l.length/\s'.l=acc++s.l.drop j/\bO B s'/\nB ((s.l.drop j).map Sm.id) s'=nB (s.l.map Sm.id) { s with dr:=mI s.dr la c }/\dH a' [(0,PO x),(25,.slice Bq (s.l.map Sm.id).length dq),(26,I6 s.l.length),(27,I6 j)]/\C'=bT Bq dq 3 k8 (s.l.map Sm.id)::cA x a s' M' mc' R) s.l.length (cJ s.l.length ⟨0,{ s with dr:=mI s.dr la c },[],M,mc,by omega,rfl,hI1,rfl,⟨rfl,rfl,(by simp;rfl),rfl,trivial⟩,rfl⟩ (by omega)) ?_
  rintro n1 a' C' ⟨j,s',acc,M',mc',hj,hl,hI',hc,ha,rfl⟩
  refine i6 _ ha ?_
  simp only[gJ]
  by_cases hlt:j<s.l.length
  ·obtain⟨m,hm,hd⟩:=lS (l:=s.l) (j:=j) hlt
   rw[hd] at hl hc
   have hml:=SB (by rw[<- hl];exact hI'.sm)
   have hat:bX m.id s'.l=some m:=by rw[hl];exact Iv hml
   obtain⟨hi,_⟩:=aS hat
   have hv:(s.l.map Sm.id)[((j:Nat):Int).toNat]?=some m.id:=by rw[Int.toNat_natCast,List.getElem?_map,hm];rfl
   have hc2:nB ((s.l.drop (j+1)).map Sm.id) (if m.own=true/\Ih s'.dr m.id=true then qF m 7 s' else s')=nB (s.l.map Sm.id) { s with dr:=mI s.dr la c }:=by
    rw[<- hc]
    show _=nB _ (match bX m.id s'.l with
     |some m=>_
     |none=>s')
    rw[hat]
   cases how:m.own
   ·rw[how,if_neg (fun q=>Bool.false_ne_true q.1)] at hc2
    repeat' (first|refine v78 ?_|refine dw hZ ?_|refine w5 ?_ ?_|((refine bh fun h=>?_) <;> try exact w6 h)|(refine aE fun hA=>?_;subst hA)|intro _|(show aA _ 126 _ _ _;refine CA (h:=gR (l:=s'.l) hI'.sm hat (fun _=>?_)))|(show aA _ 156 _ _ _;refine CA (h:=BC (m:=m) ?_);rw[how]))
    all_goals(show aU _ _ _ _;exact qK (m:=n1 - 1) (by omega) (aG.trans (by exact aY) (aG.cons (A:=bT _ dq 3 k8 (s.l.map Sm.id)) (dF (x:=x) (a:=a) (s:=s') (M:=M') (mc:=mc') (R:=R) hi))) ⟨j+1,s',acc++ [m],M',mc',by omega,by rw[hl];simp,hI',hc2,⟨rfl,rfl,rfl,rfl,trivial⟩,rfl⟩)
   ·cases hrf:Ih s'.dr m.id
    ·rw[hrf,if_neg (fun q=>Bool.false_ne_true q.2)] at hc2
     repeat' (first|refine v78 ?_|refine dw hZ ?_|refine w5 ?_ ?_|((refine bh fun h=>?_) <;> try exact w6 h)|(refine aE fun hA=>?_;subst hA)|intro _|(show aA _ 126 _ _ _;refine CA (h:=gR (l:=s'.l) hI'.sm hat (fun _=>?_)))|(show aA _ 156 _ _ _;refine CA (h:=BC (m:=m) ?_);rw[how])|(show aA _ 299 _ _ _;refine CA (h:=Vy (d:=s'.dr) ?_);rw[hrf]))
     all_goals(show aU _ _ _ _;exact qK (m:=n1 - 1) (by omega) (aG.trans (by exact aY) (aG.cons (A:=bT _ dq 3 k8 (s.l.map Sm.id)) (dF (x:=x) (a:=a) (s:=s') (M:=M') (mc:=mc') (R:=R) hi))) ⟨j+1,s',acc++ [m],M',mc',by omega,by rw[hl];simp,hI',hc2,⟨rfl,rfl,rfl,rfl,trivial⟩,rfl⟩)
    ·rw[how,hrf,if_pos ⟨rfl,rfl⟩] at hc2
     repeat' (first|refine v78 ?_|refine dw hZ ?_|refine w5 ?_ ?_|((refine bh fun h=>?_) <;> try exact w6 h)|(refine aE fun hA=>?_;subst hA)|intro _|(show aA _ 126 _ _ _;refine CA (h:=gR (l:=s'.l) hI'.sm hat (fun _=>?_)))|(show aA _ 156 _ _ _;refine CA (h:=BC (m:=m) ?_);rw[how])|(show aA _ 299 _ _ _;refine CA (h:=Vy (d:=s'.dr) ?_);rw[hrf])|(show aA _ 250 _ _ _;refine CA (h:=Cj (x:=x) (a:=a) (s:=s') (M:=M') (mc:=mc') (m:=m) hI' hat (.inr rfl) (fun _ _=>?_))))
     all_goals(show aU _ _ _ _;exact cJ (n1 - 1) ⟨j+1,qF m 7 s',acc,_,_,by omega,(by show s'.l.eraseIdx (cI m.id s'.l)=_;rw[hl];exact Gq hml),tJ hI' hat,hc2,⟨rfl,rfl,rfl,rfl,trivial⟩,rfl⟩)
  ·have hj0:j=s.l.length:=by omega
   subst hj0
   rw[List.drop_length] at hc hl
   have hc:s'=nB (s.l.map Sm.id) { s with dr:=mI s.dr la c }:=hc
   subst hc
   repeat' (first|refine v78 ?_|refine dw hZ ?_|refine w5 ?_ ?_|((refine bh fun h=>?_) <;> try exact w6 h)|(refine aE fun hA=>?_;subst hA)|intro _)
   all_goals(refine aC ?_;exact aB (hK _ _))
 ·rw[ho,if_pos rfl] at hK
  refine aH Tryz.func211 ?_
  repeat' (first|refine v78 ?_|refine dw hZ ?_|refine w5 ?_ ?_|((refine bh fun h=>?_) <;> try exact w6 h)|(refine aE fun hA=>?_;subst hA)|intro _|(show aA _ 298 _ _ _;refine CA (h:=V1 (d:=s.dr) ?_))|(show aA _ 105 _ _ _;refine CA (h:=lC (x:=x) (a:=a) (s:= { s with dr:=mI s.dr la c }) (M:=M) (mc:=mc) ?_);rw[show({ s with dr:=mI s.dr la c }:Cn).dr.ov=true from ho])|(show aA _ 219 _ _ _;refine CA (h:=JH (x:=x) (a:=a) (s:= { s with dr:=mI s.dr la c }) hI1 (fun _ _=>?_))))
  all_goals(refine aC ?_;exact aB (hK _ _))
theorem Vx (h:bO B s):bO B { s with tr:=lO id on w xx s.tr }:= { h with tr:=Ahf h.tr }
theorem XH (h:bO B s):bO B (kE f s):=by
 unfold kE
 split
 ·exact jN h
 ·cases hm:bX f.st s.l with
  |none=>exact h
  |some m=>
   dsimp only
   split
   ·exact Vx h
   ·split
    ·exact tJ h hm
    ·exact O5 h hm
def cR:List (Nat×Nat):= [(0,0),(1,0),(2,0),(3,0),(4,0),(5,0),(6,1),(7,0),(8,0),(9,0),(10,0),(11,0)]
def cQ:List (Nat×Nat):= [(0,0),(1,0),(2,0),(3,0),(4,0),(5,0),(6,0),(7,0),(8,1)]
theorem Pm (hI:bO B s) (hst:1<=st/\st<=2147483647) (hK:∀M mc,K (.tuple #[]) (cA x a (kE ⟨3,st,e,d,k,on,w,xx,c,la,n,pa,pn,pc,ps⟩ s) M mc R)):CT 216 #[PO x,.agg #[I6 3,I6 st,.bool e,.string d,I6 k,I6 on,I6 w,.bool xx,I6 c,I6 la,I6 n,.slice pa pn pc]] (cA x a s M mc R) K:=by
 have htl:=hI.tr.len
 obtain⟨rk,hrk⟩:=hI.tr.rk
 unfold kE at hK
 dsimp only at hK
 dsimp only[cA,nF]
 by_cases h0:on=st
 ·rw[if_pos ⟨rfl,h0⟩] at hK
  cases hm:bX st s.l with
  |none=>
   refine aH Tryz.func216 ?_
   repeat' (first|refine B8 ?_|refine dw cR ?_|refine dw cQ ?_|refine w5 ?_ ?_|((refine bh fun h=>?_) <;> try exact w6 h)|(refine aE fun hA=>?_;subst hA)|intro _|(show aA _ 126 _ _ _;refine CA (h:=oU (l:=s.l) hI.sm hm ?_))|(show aA _ 118 _ _ _;refine CA (h:=dQ (x:=x) (a:=a) (s:=s) hI (by decide) (by decide) (fun _ _=>?_))))
   all_goals(refine aC ?_;exact aB (hK _ _))
  |some m=>
   obtain⟨hi,_⟩:=aS hm
   refine aH Tryz.func216 ?_
   repeat' (first|refine B8 ?_|refine dw cR ?_|refine dw cQ ?_|refine w5 ?_ ?_|((refine bh fun h=>?_) <;> try exact w6 h)|(refine aE fun hA=>?_;subst hA)|intro _|(show aA _ 126 _ _ _;refine CA (h:=gR (l:=s.l) hI.sm hm (fun _=>?_)))|(show aA _ 118 _ _ _;refine CA (h:=aA.ent (dF (x:=x) (a:=a) (s:=s) (M:=M) (mc:=mc) (R:=R) hi) (dQ hI (by decide) (by decide) (fun _ _=>?_)))))
   all_goals(refine aC ?_;exact aB (hK _ _))
 ·rw[if_neg (fun q=>h0 q.2)] at hK
  cases hm:bX st s.l with
  |none=>
   rw[hm] at hK
   refine aH Tryz.func216 ?_
   repeat' (first|refine B8 ?_|refine dw cR ?_|refine dw cQ ?_|refine w5 ?_ ?_|((refine bh fun h=>?_) <;> try exact w6 h)|(refine aE fun hA=>?_;subst hA)|intro _|(show aA _ 126 _ _ _;refine CA (h:=oU (l:=s.l) hI.sm hm ?_)))
   all_goals(refine aC ?_;exact aB (hK _ _))
  |some m=>
   rw[hm] at hK
   dsimp only at hK
   obtain⟨hi,_⟩:=aS hm
   rw[if_pos rfl] at hK
   refine aH Tryz.func216 ?_
   repeat' (first|refine B8 ?_|refine dw cR ?_|refine dw cQ ?_|refine w5 ?_ ?_|((refine bh fun h=>?_) <;> try exact w6 h)|(refine aE fun hA=>?_;subst hA)|intro _|(show aA _ 126 _ _ _;refine CA (h:=gR (l:=s.l) hI.sm hm (fun _=>?_)))|(show aA _ 249 _ _ _;refine CA (h:=LR (s:=s.tr) hI.tr.kok (by omega) hrk ?_)))
   all_goals(refine aC ?_;exact aM (aG.trans (by exact aY) ((dF (x:=x) (a:=a) (s:= { s with tr:=lO st on w xx s.tr }) (M:=M) (mc:=mc) (R:=R) hi))) (hK _ _))
theorem PP (hI:bO B s) (hst:1<=st/\st<=2147483647) (hK:∀M mc,K (.tuple #[]) (cA x a (kE ⟨4,st,e,d,k,on,w,xx,c,la,n,pa,pn,pc,ps⟩ s) M mc R)):CT 216 #[PO x,.agg #[I6 4,I6 st,.bool e,.string d,I6 k,I6 on,I6 w,.bool xx,I6 c,I6 la,I6 n,.slice pa pn pc]] (cA x a s M mc R) K:=by
 have htl:=hI.tr.len
 obtain⟨rk,hrk⟩:=hI.tr.rk
 unfold kE at hK
 dsimp only at hK
 dsimp only[cA,nF]
 rw[if_neg (fun q:(4:Int)=3/\_=>absurd q.1 (by decide))] at hK
 cases hm:bX st s.l with
 |none=>
  rw[hm] at hK
  refine aH Tryz.func216 ?_
  repeat' (first|refine B8 ?_|refine dw cR ?_|refine dw cQ ?_|refine w5 ?_ ?_|((refine bh fun h=>?_) <;> try exact w6 h)|(refine aE fun hA=>?_;subst hA)|intro _|(show aA _ 126 _ _ _;refine CA (h:=oU (l:=s.l) hI.sm hm ?_)))
  all_goals(refine aC ?_;exact aB (hK _ _))
 |some m=>
  rw[hm] at hK
  dsimp only at hK
  obtain⟨hi,_⟩:=aS hm
  rw[if_neg (by decide),if_pos rfl] at hK
  refine aH Tryz.func216 ?_
  repeat' (first|refine B8 ?_|refine dw cR ?_|refine dw cQ ?_|refine w5 ?_ ?_|((refine bh fun h=>?_) <;> try exact w6 h)|(refine aE fun hA=>?_;subst hA)|intro _|(show aA _ 126 _ _ _;refine CA (h:=gR (l:=s.l) hI.sm hm (fun _=>?_)))|(show aA _ 250 _ _ _;refine CA (h:=Cj (x:=x) (a:=a) (s:=s) (M:=M) (mc:=mc) (m:=m) hI hm (.inr rfl) (fun _ _=>?_))))
  all_goals(refine aC ?_;exact aB (hK _ _))
theorem OA (hI:bO B s) (hst:1<=st/\st<=2147483647) (hK:∀M mc,K (.tuple #[]) (cA x a (kE ⟨10,st,e,d,k,on,w,xx,c,la,n,pa,pn,pc,ps⟩ s) M mc R)):CT 216 #[PO x,.agg #[I6 10,I6 st,.bool e,.string d,I6 k,I6 on,I6 w,.bool xx,I6 c,I6 la,I6 n,.slice pa pn pc]] (cA x a s M mc R) K:=by
 have htl:=hI.tr.len
 obtain⟨rk,hrk⟩:=hI.tr.rk
 unfold kE at hK
 dsimp only at hK
 dsimp only[cA,nF]
 rw[if_neg (fun q:(10:Int)=3/\_=>absurd q.1 (by decide))] at hK
 cases hm:bX st s.l with
 |none=>
  rw[hm] at hK
  refine aH Tryz.func216 ?_
  repeat' (first|refine B8 ?_|refine dw cR ?_|refine dw cQ ?_|refine w5 ?_ ?_|((refine bh fun h=>?_) <;> try exact w6 h)|(refine aE fun hA=>?_;subst hA)|intro _|(show aA _ 126 _ _ _;refine CA (h:=oU (l:=s.l) hI.sm hm ?_)))
  all_goals(refine aC ?_;exact aB (hK _ _))
 |some m=>
  rw[hm] at hK
  dsimp only at hK
  obtain⟨hi,_⟩:=aS hm
  rw[if_neg (by decide),if_neg (by decide)] at hK
  refine aH Tryz.func216 ?_
  repeat' (first|refine B8 ?_|refine dw cR ?_|refine dw cQ ?_|refine w5 ?_ ?_|((refine bh fun h=>?_) <;> try exact w6 h)|(refine aE fun hA=>?_;subst hA)|intro _|(show aA _ 126 _ _ _;refine CA (h:=gR (l:=s.l) hI.sm hm (fun _=>?_)))|(show aA _ 307 _ _ _;refine CA (h:=Fg (x:=x) (a:=a) (s:=s) (M:=M) (mc:=mc) (m:=m) (t:=10) (ps:=ps) hI (by decide) hst hm (fun _ _=>?_))))
  all_goals(refine aC ?_;exact aB (hK _ _))
theorem Oc (hI:bO B s) (hst:1<=st/\st<=2147483647) (hK:∀M mc,K (.tuple #[]) (cA x a (kE ⟨11,st,e,d,k,on,w,xx,c,la,n,pa,pn,pc,ps⟩ s) M mc R)):CT 216 #[PO x,.agg #[I6 11,I6 st,.bool e,.string d,I6 k,I6 on,I6 w,.bool xx,I6 c,I6 la,I6 n,.slice pa pn pc]] (cA x a s M mc R) K:=by
 have htl:=hI.tr.len
 obtain⟨rk,hrk⟩:=hI.tr.rk
 unfold kE at hK
 dsimp only at hK
 dsimp only[cA,nF]
 rw[if_neg (fun q:(11:Int)=3/\_=>absurd q.1 (by decide))] at hK
 cases hm:bX st s.l with
 |none=>
  rw[hm] at hK
  refine aH Tryz.func216 ?_
  repeat' (first|refine B8 ?_|refine dw cR ?_|refine dw cQ ?_|refine w5 ?_ ?_|((refine bh fun h=>?_) <;> try exact w6 h)|(refine aE fun hA=>?_;subst hA)|intro _|(show aA _ 126 _ _ _;refine CA (h:=oU (l:=s.l) hI.sm hm ?_)))
  all_goals(refine aC ?_;exact aB (hK _ _))
 |some m=>
  rw[hm] at hK
  dsimp only at hK
  obtain⟨hi,_⟩:=aS hm
  rw[if_neg (by decide),if_neg (by decide)] at hK
  refine aH Tryz.func216 ?_
  repeat' (first|refine B8 ?_|refine dw cR ?_|refine dw cQ ?_|refine w5 ?_ ?_|((refine bh fun h=>?_) <;> try exact w6 h)|(refine aE fun hA=>?_;subst hA)|intro _|(show aA _ 126 _ _ _;refine CA (h:=gR (l:=s.l) hI.sm hm (fun _=>?_)))|(show aA _ 307 _ _ _;refine CA (h:=Fg (x:=x) (a:=a) (s:=s) (M:=M) (mc:=mc) (m:=m) (t:=11) (ps:=ps) hI (by decide) hst hm (fun _ _=>?_))))
  all_goals(refine aC ?_;exact aB (hK _ _))
theorem iS (h:bO B s):bO B { s with bt:=bQ s.bt s.now }:=
 { h with
   bt:=by
    have h1:=h.bt
    have h2:=h.now
    show(0<=(bQ s.bt s.now).no/\(bQ s.bt s.now).no<=B)/\(0<=(bQ s.bt s.now).he/\(bQ s.bt s.now).he<=B)/\(0<=(bQ s.bt s.now).si/\(bQ s.bt s.now).si<=B)/\0<=(bQ s.bt s.now).nn/\(bQ s.bt s.now).nn<=B
    unfold bQ
    dsimp only
    omega }
theorem Agh (h:bO B s):bO B { s with bt:=kJ s.bt s.now d }:=
 { h with
   bt:=by
    have h1:=h.bt
    have h2:=h.now
    show(0<=(kJ s.bt s.now d).no/\(kJ s.bt s.now d).no<=B)/\(0<=(kJ s.bt s.now d).he/\(kJ s.bt s.now d).he<=B)/\(0<=(kJ s.bt s.now d).si/\(kJ s.bt s.now d).si<=B)/\0<=(kJ s.bt s.now d).nn/\(kJ s.bt s.now d).nn<=B
    unfold kJ
    split
    ·dsimp only;omega
    ·omega }
theorem Al5 (h:bO B s):Ahy s.bt:=by
 have h1:=h.bt
 have h2:=h.bb
 unfold Ahy
 omega
theorem jW (hK:K (.bool (!vH s id)) (cA x a s M mc R)):CT 214 #[PO x,I6 id] (cA x a s M mc R) K:=by
 dsimp only[cA,nF] at hK ⊢
 refine aH Tryz.func214 ?_
 repeat' (first|refine J5 ?_|refine w5 ?_ ?_|((refine bh fun h=>?_) <;> try exact w6 h)|(refine aE fun hA=>?_;subst hA)|intro _|(show aA _ 236 _ _ _;refine CA (h:=Dm (sd:=s.sd) (nx:=s.nx) (la:=s.la) ?_)))
 all_goals(refine aC ?_;exact aB (hK))
theorem zS (h:bO B s) (hB:B+300<=250000000) (hr:bR f):bO (B+300) (bC f s):=by
 have hh:=iS h
 have hm:=hh.mono (B':=B+300) (by omega) hB
 unfold bC fG
 split
 ·exact Abu hm
 ·split
  ·exact YK hm
  ·split
   ·exact IC hm
   ·split
    ·exact Agh hm
    ·split
     ·exact Ad6 hm
     ·split
      ·exact UW hh hB
      ·split
       ·exact Zx hm
       ·split
        ·exact jN hm
        ·split
         ·rename_i ht
          exact Agj hh hB (hr.2.2.2.2.2.2.2.2.2.2.2.2.1 (by omega))
         ·exact XH hm
def fF:List (Nat×Nat):= [(0,0),(1,0),(2,0),(3,0),(4,0),(5,0),(6,0),(7,0),(8,1)]
def eS:List (Nat×Nat):= [(0,0),(1,0),(2,0),(3,0),(4,0),(5,0),(6,0),(7,0),(8,0),(9,0),(10,1)]
theorem MG (hI:bO B s) (hB:B+300<=249000000) (hr:bR ⟨5,st,e,d,k,on,w,xx,c,la,n,pa,pn,pc,ps⟩) (hv:dW R pa tX ps) (hn:ps.length=pn) (hK:∀M mc,K (.tuple #[]) (cA x a (bC ⟨5,st,e,d,k,on,w,xx,c,la,n,pa,pn,pc,ps⟩ s) M mc R)):CT 117 #[PO x,.agg #[I6 5,I6 st,.bool e,.string d,I6 k,I6 on,I6 w,.bool xx,I6 c,I6 la,I6 n,.slice pa pn pc]] (cA x a s M mc R) K:=by
 have hI1:=iS hI
 obtain⟨r1,r2,r3,r4,r5,r6,r7,r8,r9,r10,r11,r12,r13,r14,r15,r16,r17,r18,r19,r20,r21⟩:=hr
 dsimp only at r1 r2 r3 r4 r13 r15 r21
 have hps:pn<=1000000:=by omega
 unfold bC fG at hK
 dsimp only at hK
 rw[if_pos rfl] at hK
 dsimp only[cA,nF]
 refine aH Tryz.func117 ?_
 repeat' (first|refine AB ?_|refine dw fF ?_|refine dw eS ?_|refine w5 ?_ ?_|((refine bh fun h=>?_) <;> try exact w6 h)|(refine aE fun hA=>?_;subst hA)|intro _|(show aA _ 206 _ _ _;refine CA (h:=dN (b:=s.bt) (now:=s.now) ?_))|(show aA _ 207 _ _ _;refine CA (h:=YU (x:=x) (a:=a) (s:= { s with bt:=bQ s.bt s.now }) (R:=R) (ps:=ps) hI1 hv hn hps (fun _ _=>?_))))
 all_goals(refine aC ?_;exact aB (hK _ _))
theorem Mb (hI:bO B s) (hB:B+300<=249000000) (hr:bR ⟨6,st,e,d,k,on,w,xx,c,la,n,pa,pn,pc,ps⟩) (hv:dW R pa tX ps) (hn:ps.length=pn) (hK:∀M mc,K (.tuple #[]) (cA x a (bC ⟨6,st,e,d,k,on,w,xx,c,la,n,pa,pn,pc,ps⟩ s) M mc R)):CT 117 #[PO x,.agg #[I6 6,I6 st,.bool e,.string d,I6 k,I6 on,I6 w,.bool xx,I6 c,I6 la,I6 n,.slice pa pn pc]] (cA x a s M mc R) K:=by
 have hI1:=iS hI
 obtain⟨r1,r2,r3,r4,r5,r6,r7,r8,r9,r10,r11,r12,r13,r14,r15,r16,r17,r18,r19,r20,r21⟩:=hr
 dsimp only at r1 r2 r3 r4 r13 r15 r21
 have hps:pn<=1000000:=by omega
 unfold bC fG at hK
 dsimp only at hK
 rw[if_neg (show ¬(6:Int)=5 by decide),if_pos rfl] at hK
 dsimp only[cA,nF]
 refine aH Tryz.func117 ?_
 repeat' (first|refine AB ?_|refine dw fF ?_|refine dw eS ?_|refine w5 ?_ ?_|((refine bh fun h=>?_) <;> try exact w6 h)|(refine aE fun hA=>?_;subst hA)|intro _|(show aA _ 206 _ _ _;refine CA (h:=dN (b:=s.bt) (now:=s.now) ?_))|(show aA _ 208 _ _ _;refine CA (h:=UC (x:=x) (a:=a) (s:= { s with bt:=bQ s.bt s.now }) hI1 (fun _ _=>?_))))
 all_goals(refine aC ?_;exact aB (hK _ _))
theorem NC (hI:bO B s) (hB:B+300<=249000000) (hr:bR ⟨7,st,e,d,k,on,w,xx,c,la,n,pa,pn,pc,ps⟩) (hv:dW R pa tX ps) (hn:ps.length=pn) (hK:∀M mc,K (.tuple #[]) (cA x a (bC ⟨7,st,e,d,k,on,w,xx,c,la,n,pa,pn,pc,ps⟩ s) M mc R)):CT 117 #[PO x,.agg #[I6 7,I6 st,.bool e,.string d,I6 k,I6 on,I6 w,.bool xx,I6 c,I6 la,I6 n,.slice pa pn pc]] (cA x a s M mc R) K:=by
 have hI1:=iS hI
 obtain⟨r1,r2,r3,r4,r5,r6,r7,r8,r9,r10,r11,r12,r13,r14,r15,r16,r17,r18,r19,r20,r21⟩:=hr
 dsimp only at r1 r2 r3 r4 r13 r15 r21
 have hps:pn<=1000000:=by omega
 unfold bC fG at hK
 dsimp only at hK
 rw[if_neg (show ¬(7:Int)=5 by decide),if_neg (show ¬(7:Int)=6 by decide),if_pos rfl] at hK
 dsimp only[cA,nF]
 refine aH Tryz.func117 ?_
 repeat' (first|refine AB ?_|refine dw fF ?_|refine dw eS ?_|refine w5 ?_ ?_|((refine bh fun h=>?_) <;> try exact w6 h)|(refine aE fun hA=>?_;subst hA)|intro _|(show aA _ 206 _ _ _;refine CA (h:=dN (b:=s.bt) (now:=s.now) ?_))|(show aA _ 209 _ _ _;refine CA (h:=Ce (x:=x) (a:=a) (s:= { s with bt:=bQ s.bt s.now }) (f:=uD 8 0 d false) hI1 rfl rfl rfl (fun _ _=>?_))))
 all_goals(refine aC ?_;exact aB (hK _ _))
theorem NV (hI:bO B s) (hB:B+300<=249000000) (hr:bR ⟨8,st,e,d,k,on,w,xx,c,la,n,pa,pn,pc,ps⟩) (hv:dW R pa tX ps) (hn:ps.length=pn) (hK:∀M mc,K (.tuple #[]) (cA x a (bC ⟨8,st,e,d,k,on,w,xx,c,la,n,pa,pn,pc,ps⟩ s) M mc R)):CT 117 #[PO x,.agg #[I6 8,I6 st,.bool e,.string d,I6 k,I6 on,I6 w,.bool xx,I6 c,I6 la,I6 n,.slice pa pn pc]] (cA x a s M mc R) K:=by
 have hI1:=iS hI
 obtain⟨r1,r2,r3,r4,r5,r6,r7,r8,r9,r10,r11,r12,r13,r14,r15,r16,r17,r18,r19,r20,r21⟩:=hr
 dsimp only at r1 r2 r3 r4 r13 r15 r21
 have hps:pn<=1000000:=by omega
 unfold bC fG at hK
 dsimp only at hK
 rw[if_neg (show ¬(8:Int)=5 by decide),if_neg (show ¬(8:Int)=6 by decide),if_neg (show ¬(8:Int)=7 by decide),if_pos rfl] at hK
 dsimp only[cA,nF]
 refine aH Tryz.func117 ?_
 repeat' (first|refine AB ?_|refine dw fF ?_|refine dw eS ?_|refine w5 ?_ ?_|((refine bh fun h=>?_) <;> try exact w6 h)|(refine aE fun hA=>?_;subst hA)|intro _|(show aA _ 206 _ _ _;refine CA (h:=dN (b:=s.bt) (now:=s.now) ?_))|(show aA _ 210 _ _ _;refine CA (h:=Yb (b:=bQ s.bt s.now) (Al5 hI1) (fun _=>?_))))
 all_goals(refine aC ?_;exact aB (hK _ _))
theorem N9 (hI:bO B s) (hB:B+300<=249000000) (hr:bR ⟨9,st,e,d,k,on,w,xx,c,la,n,pa,pn,pc,ps⟩) (hv:dW R pa tX ps) (hn:ps.length=pn) (hK:∀M mc,K (.tuple #[]) (cA x a (bC ⟨9,st,e,d,k,on,w,xx,c,la,n,pa,pn,pc,ps⟩ s) M mc R)):CT 117 #[PO x,.agg #[I6 9,I6 st,.bool e,.string d,I6 k,I6 on,I6 w,.bool xx,I6 c,I6 la,I6 n,.slice pa pn pc]] (cA x a s M mc R) K:=by
 have hI1:=iS hI
 obtain⟨r1,r2,r3,r4,r5,r6,r7,r8,r9,r10,r11,r12,r13,r14,r15,r16,r17,r18,r19,r20,r21⟩:=hr
 dsimp only at r1 r2 r3 r4 r13 r15 r21
 have hps:pn<=1000000:=by omega
 unfold bC fG at hK
 dsimp only at hK
 rw[if_neg (show ¬(9:Int)=5 by decide),if_neg (show ¬(9:Int)=6 by decide),if_neg (show ¬(9:Int)=7 by decide),if_neg (show ¬(9:Int)=8 by decide),if_pos rfl] at hK
 dsimp only[cA,nF]
 refine aH Tryz.func117 ?_
 repeat' (first|refine AB ?_|refine dw fF ?_|refine dw eS ?_|refine w5 ?_ ?_|((refine bh fun h=>?_) <;> try exact w6 h)|(refine aE fun hA=>?_;subst hA)|intro _|(show aA _ 206 _ _ _;refine CA (h:=dN (b:=s.bt) (now:=s.now) ?_))|(show aA _ 211 _ _ _;refine CA (h:=Zm (x:=x) (a:=a) (s:= { s with bt:=bQ s.bt s.now }) (ps:=ps) hI1 (fun _ _=>?_))))
 all_goals(refine aC ?_;exact aB (hK _ _))
theorem Nk (hI:bO B s) (hB:B+300<=249000000) (hr:bR ⟨2,st,e,d,k,on,w,xx,c,la,n,pa,pn,pc,ps⟩) (hv:dW R pa tX ps) (hn:ps.length=pn) (hK:∀M mc,K (.tuple #[]) (cA x a (bC ⟨2,st,e,d,k,on,w,xx,c,la,n,pa,pn,pc,ps⟩ s) M mc R)):CT 117 #[PO x,.agg #[I6 2,I6 st,.bool e,.string d,I6 k,I6 on,I6 w,.bool xx,I6 c,I6 la,I6 n,.slice pa pn pc]] (cA x a s M mc R) K:=by
 have hI1:=iS hI
 obtain⟨r1,r2,r3,r4,r5,r6,r7,r8,r9,r10,r11,r12,r13,r14,r15,r16,r17,r18,r19,r20,r21⟩:=hr
 dsimp only at r1 r2 r3 r4 r13 r15 r21
 have hps:pn<=1000000:=by omega
 unfold bC fG at hK
 dsimp only at hK
 rw[if_neg (show ¬(2:Int)=5 by decide),if_neg (show ¬(2:Int)=6 by decide),if_neg (show ¬(2:Int)=7 by decide),if_neg (show ¬(2:Int)=8 by decide),if_neg (show ¬(2:Int)=9 by decide),if_pos rfl] at hK
 dsimp only[cA,nF]
 refine aH Tryz.func117 ?_
 repeat' (first|refine AB ?_|refine dw fF ?_|refine dw eS ?_|refine w5 ?_ ?_|((refine bh fun h=>?_) <;> try exact w6 h)|(refine aE fun hA=>?_;subst hA)|intro _|(show aA _ 206 _ _ _;refine CA (h:=dN (b:=s.bt) (now:=s.now) ?_))|(show aA _ 212 _ _ _;refine CA (h:=Q3 (x:=x) (a:=a) (s:= { s with bt:=bQ s.bt s.now }) (ps:=ps) hI1 (by omega) (r15 rfl) (by omega) (fun _ _=>?_))))
 all_goals(refine aC ?_;exact aB (hK _ _))
def bK:List (Nat×Nat):= [(0,0),(1,0),(2,0),(3,0),(4,0),(5,0),(6,0),(7,0),(8,1)]
def bJ:List (Nat×Nat):= [(0,0),(1,0),(2,0),(3,0),(4,0),(5,0),(6,0),(7,0),(8,0),(9,0),(10,1)]
theorem Nv (hI:bO B s) (hB:B+300<=249000000) (hr:bR ⟨0,st,e,d,k,on,w,xx,c,la,n,pa,pn,pc,ps⟩) (hv:dW R pa tX ps) (hn:ps.length=pn) (hK:∀M mc,K (.tuple #[]) (cA x a (bC ⟨0,st,e,d,k,on,w,xx,c,la,n,pa,pn,pc,ps⟩ s) M mc R)):CT 117 #[PO x,.agg #[I6 0,I6 st,.bool e,.string d,I6 k,I6 on,I6 w,.bool xx,I6 c,I6 la,I6 n,.slice pa pn pc]] (cA x a s M mc R) K:=by
 have hI1:=iS hI
 obtain⟨r1,r2,r3,r4,r5,r6,r7,r8,r9,r10,r11,r12,r13,r14,r15,r16,r17,r18,r19,r20,r21⟩:=hr
 dsimp only at r1 r2 r3 r4 r13 r15 r21
 have hps:pn<=1000000:=by omega
 unfold bC fG at hK
 dsimp only at hK
 rw[if_neg (show ¬(0:Int)=5 by decide),if_neg (show ¬(0:Int)=6 by decide),if_neg (show ¬(0:Int)=7 by decide),if_neg (show ¬(0:Int)=8 by decide),if_neg (show ¬(0:Int)=9 by decide),if_neg (show ¬(0:Int)=2 by decide)] at hK
 dsimp only[cA,nF]
 by_cases h0:st=0
 ·exfalso;omega
 ·rw[if_neg h0] at hK
  cases hp:vH { s with bt:=bQ s.bt s.now } st
  ·rw[if_pos hp] at hK
   refine aH Tryz.func117 ?_
   repeat' (first|refine AB ?_|refine dw bK ?_|refine dw bJ ?_|refine w5 ?_ ?_|((refine bh fun h=>?_) <;> try exact w6 h)|(refine aE fun hA=>?_;subst hA)|intro _|(show aA _ 206 _ _ _;refine CA (h:=dN (b:=s.bt) (now:=s.now) ?_))|(show aA _ 214 _ _ _;refine CA (h:=jW (x:=x) (a:=a) (s:= { s with bt:=bQ s.bt s.now }) (M:=M) (mc:=mc) ?_);rw[hp])|(show aA _ 118 _ _ _;refine CA (h:=dQ (x:=x) (a:=a) (s:= { s with bt:=bQ s.bt s.now }) hI1 (by decide) (by decide) (fun _ _=>?_))))
   all_goals(refine aC ?_;exact aB (hK _ _))
  ·rw[if_neg (by rw[hp];decide)] at hK
   rw[if_pos (by decide)] at hK
   refine aH Tryz.func117 ?_
   repeat' (first|refine AB ?_|refine dw bK ?_|refine dw bJ ?_|refine w5 ?_ ?_|((refine bh fun h=>?_) <;> try exact w6 h)|(refine aE fun hA=>?_;subst hA)|intro _|(show aA _ 206 _ _ _;refine CA (h:=dN (b:=s.bt) (now:=s.now) ?_))|(show aA _ 214 _ _ _;refine CA (h:=jW (x:=x) (a:=a) (s:= { s with bt:=bQ s.bt s.now }) (M:=M) (mc:=mc) ?_);rw[hp])|(show aA _ 215 _ _ _;refine CA (h:=Ut (x:=x) (a:=a) (s:= { s with bt:=bQ s.bt s.now }) (ps:=ps) hI1 (by omega) (by omega) (r13 (by decide)) (fun _ _=>?_))))
   all_goals(refine aC ?_;exact aB (hK _ _))
theorem MJ (hI:bO B s) (hB:B+300<=249000000) (hr:bR ⟨1,st,e,d,k,on,w,xx,c,la,n,pa,pn,pc,ps⟩) (hv:dW R pa tX ps) (hn:ps.length=pn) (hK:∀M mc,K (.tuple #[]) (cA x a (bC ⟨1,st,e,d,k,on,w,xx,c,la,n,pa,pn,pc,ps⟩ s) M mc R)):CT 117 #[PO x,.agg #[I6 1,I6 st,.bool e,.string d,I6 k,I6 on,I6 w,.bool xx,I6 c,I6 la,I6 n,.slice pa pn pc]] (cA x a s M mc R) K:=by
 have hI1:=iS hI
 obtain⟨r1,r2,r3,r4,r5,r6,r7,r8,r9,r10,r11,r12,r13,r14,r15,r16,r17,r18,r19,r20,r21⟩:=hr
 dsimp only at r1 r2 r3 r4 r13 r15 r21
 have hps:pn<=1000000:=by omega
 unfold bC fG at hK
 dsimp only at hK
 rw[if_neg (show ¬(1:Int)=5 by decide),if_neg (show ¬(1:Int)=6 by decide),if_neg (show ¬(1:Int)=7 by decide),if_neg (show ¬(1:Int)=8 by decide),if_neg (show ¬(1:Int)=9 by decide),if_neg (show ¬(1:Int)=2 by decide)] at hK
 dsimp only[cA,nF]
 by_cases h0:st=0
 ·exfalso;omega
 ·rw[if_neg h0] at hK
  cases hp:vH { s with bt:=bQ s.bt s.now } st
  ·rw[if_pos hp] at hK
   refine aH Tryz.func117 ?_
   repeat' (first|refine AB ?_|refine dw bK ?_|refine dw bJ ?_|refine w5 ?_ ?_|((refine bh fun h=>?_) <;> try exact w6 h)|(refine aE fun hA=>?_;subst hA)|intro _|(show aA _ 206 _ _ _;refine CA (h:=dN (b:=s.bt) (now:=s.now) ?_))|(show aA _ 214 _ _ _;refine CA (h:=jW (x:=x) (a:=a) (s:= { s with bt:=bQ s.bt s.now }) (M:=M) (mc:=mc) ?_);rw[hp])|(show aA _ 118 _ _ _;refine CA (h:=dQ (x:=x) (a:=a) (s:= { s with bt:=bQ s.bt s.now }) hI1 (by decide) (by decide) (fun _ _=>?_))))
   all_goals(refine aC ?_;exact aB (hK _ _))
  ·rw[if_neg (by rw[hp];decide)] at hK
   rw[if_pos (by decide)] at hK
   refine aH Tryz.func117 ?_
   repeat' (first|refine AB ?_|refine dw bK ?_|refine dw bJ ?_|refine w5 ?_ ?_|((refine bh fun h=>?_) <;> try exact w6 h)|(refine aE fun hA=>?_;subst hA)|intro _|(show aA _ 206 _ _ _;refine CA (h:=dN (b:=s.bt) (now:=s.now) ?_))|(show aA _ 214 _ _ _;refine CA (h:=jW (x:=x) (a:=a) (s:= { s with bt:=bQ s.bt s.now }) (M:=M) (mc:=mc) ?_);rw[hp])|(show aA _ 215 _ _ _;refine CA (h:=Tn (x:=x) (a:=a) (s:= { s with bt:=bQ s.bt s.now }) (ps:=ps) hI1 (by omega) (by omega) (r13 (by decide)) (fun _ _=>?_))))
   all_goals(refine aC ?_;exact aB (hK _ _))
theorem Nh (hI:bO B s) (hB:B+300<=249000000) (hr:bR ⟨3,st,e,d,k,on,w,xx,c,la,n,pa,pn,pc,ps⟩) (hv:dW R pa tX ps) (hn:ps.length=pn) (hK:∀M mc,K (.tuple #[]) (cA x a (bC ⟨3,st,e,d,k,on,w,xx,c,la,n,pa,pn,pc,ps⟩ s) M mc R)):CT 117 #[PO x,.agg #[I6 3,I6 st,.bool e,.string d,I6 k,I6 on,I6 w,.bool xx,I6 c,I6 la,I6 n,.slice pa pn pc]] (cA x a s M mc R) K:=by
 have hI1:=iS hI
 obtain⟨r1,r2,r3,r4,r5,r6,r7,r8,r9,r10,r11,r12,r13,r14,r15,r16,r17,r18,r19,r20,r21⟩:=hr
 dsimp only at r1 r2 r3 r4 r13 r15 r21
 have hps:pn<=1000000:=by omega
 unfold bC fG at hK
 dsimp only at hK
 rw[if_neg (show ¬(3:Int)=5 by decide),if_neg (show ¬(3:Int)=6 by decide),if_neg (show ¬(3:Int)=7 by decide),if_neg (show ¬(3:Int)=8 by decide),if_neg (show ¬(3:Int)=9 by decide),if_neg (show ¬(3:Int)=2 by decide)] at hK
 dsimp only[cA,nF]
 by_cases h0:st=0
 ·exfalso;omega
 ·rw[if_neg h0] at hK
  cases hp:vH { s with bt:=bQ s.bt s.now } st
  ·rw[if_pos hp] at hK
   refine aH Tryz.func117 ?_
   repeat' (first|refine AB ?_|refine dw bK ?_|refine dw bJ ?_|refine w5 ?_ ?_|((refine bh fun h=>?_) <;> try exact w6 h)|(refine aE fun hA=>?_;subst hA)|intro _|(show aA _ 206 _ _ _;refine CA (h:=dN (b:=s.bt) (now:=s.now) ?_))|(show aA _ 214 _ _ _;refine CA (h:=jW (x:=x) (a:=a) (s:= { s with bt:=bQ s.bt s.now }) (M:=M) (mc:=mc) ?_);rw[hp])|(show aA _ 118 _ _ _;refine CA (h:=dQ (x:=x) (a:=a) (s:= { s with bt:=bQ s.bt s.now }) hI1 (by decide) (by decide) (fun _ _=>?_))))
   all_goals(refine aC ?_;exact aB (hK _ _))
  ·rw[if_neg (by rw[hp];decide)] at hK
   rw[if_neg (by decide)] at hK
   refine aH Tryz.func117 ?_
   repeat' (first|refine AB ?_|refine dw bK ?_|refine dw bJ ?_|refine w5 ?_ ?_|((refine bh fun h=>?_) <;> try exact w6 h)|(refine aE fun hA=>?_;subst hA)|intro _|(show aA _ 206 _ _ _;refine CA (h:=dN (b:=s.bt) (now:=s.now) ?_))|(show aA _ 214 _ _ _;refine CA (h:=jW (x:=x) (a:=a) (s:= { s with bt:=bQ s.bt s.now }) (M:=M) (mc:=mc) ?_);rw[hp])|(show aA _ 216 _ _ _;refine CA (h:=Pm (x:=x) (a:=a) (s:= { s with bt:=bQ s.bt s.now }) (ps:=ps) hI1 (by omega) (fun _ _=>?_))))
   all_goals(refine aC ?_;exact aB (hK _ _))
theorem NF (hI:bO B s) (hB:B+300<=249000000) (hr:bR ⟨4,st,e,d,k,on,w,xx,c,la,n,pa,pn,pc,ps⟩) (hv:dW R pa tX ps) (hn:ps.length=pn) (hK:∀M mc,K (.tuple #[]) (cA x a (bC ⟨4,st,e,d,k,on,w,xx,c,la,n,pa,pn,pc,ps⟩ s) M mc R)):CT 117 #[PO x,.agg #[I6 4,I6 st,.bool e,.string d,I6 k,I6 on,I6 w,.bool xx,I6 c,I6 la,I6 n,.slice pa pn pc]] (cA x a s M mc R) K:=by
 have hI1:=iS hI
 obtain⟨r1,r2,r3,r4,r5,r6,r7,r8,r9,r10,r11,r12,r13,r14,r15,r16,r17,r18,r19,r20,r21⟩:=hr
 dsimp only at r1 r2 r3 r4 r13 r15 r21
 have hps:pn<=1000000:=by omega
 unfold bC fG at hK
 dsimp only at hK
 rw[if_neg (show ¬(4:Int)=5 by decide),if_neg (show ¬(4:Int)=6 by decide),if_neg (show ¬(4:Int)=7 by decide),if_neg (show ¬(4:Int)=8 by decide),if_neg (show ¬(4:Int)=9 by decide),if_neg (show ¬(4:Int)=2 by decide)] at hK
 dsimp only[cA,nF]
 by_cases h0:st=0
 ·exfalso;omega
 ·rw[if_neg h0] at hK
  cases hp:vH { s with bt:=bQ s.bt s.now } st
  ·rw[if_pos hp] at hK
   refine aH Tryz.func117 ?_
   repeat' (first|refine AB ?_|refine dw bK ?_|refine dw bJ ?_|refine w5 ?_ ?_|((refine bh fun h=>?_) <;> try exact w6 h)|(refine aE fun hA=>?_;subst hA)|intro _|(show aA _ 206 _ _ _;refine CA (h:=dN (b:=s.bt) (now:=s.now) ?_))|(show aA _ 214 _ _ _;refine CA (h:=jW (x:=x) (a:=a) (s:= { s with bt:=bQ s.bt s.now }) (M:=M) (mc:=mc) ?_);rw[hp])|(show aA _ 118 _ _ _;refine CA (h:=dQ (x:=x) (a:=a) (s:= { s with bt:=bQ s.bt s.now }) hI1 (by decide) (by decide) (fun _ _=>?_))))
   all_goals(refine aC ?_;exact aB (hK _ _))
  ·rw[if_neg (by rw[hp];decide)] at hK
   rw[if_neg (by decide)] at hK
   refine aH Tryz.func117 ?_
   repeat' (first|refine AB ?_|refine dw bK ?_|refine dw bJ ?_|refine w5 ?_ ?_|((refine bh fun h=>?_) <;> try exact w6 h)|(refine aE fun hA=>?_;subst hA)|intro _|(show aA _ 206 _ _ _;refine CA (h:=dN (b:=s.bt) (now:=s.now) ?_))|(show aA _ 214 _ _ _;refine CA (h:=jW (x:=x) (a:=a) (s:= { s with bt:=bQ s.bt s.now }) (M:=M) (mc:=mc) ?_);rw[hp])|(show aA _ 216 _ _ _;refine CA (h:=PP (x:=x) (a:=a) (s:= { s with bt:=bQ s.bt s.now }) (ps:=ps) hI1 (by omega) (fun _ _=>?_))))
   all_goals(refine aC ?_;exact aB (hK _ _))
theorem Kp (hI:bO B s) (hB:B+300<=249000000) (hr:bR ⟨10,st,e,d,k,on,w,xx,c,la,n,pa,pn,pc,ps⟩) (hv:dW R pa tX ps) (hn:ps.length=pn) (hK:∀M mc,K (.tuple #[]) (cA x a (bC ⟨10,st,e,d,k,on,w,xx,c,la,n,pa,pn,pc,ps⟩ s) M mc R)):CT 117 #[PO x,.agg #[I6 10,I6 st,.bool e,.string d,I6 k,I6 on,I6 w,.bool xx,I6 c,I6 la,I6 n,.slice pa pn pc]] (cA x a s M mc R) K:=by
 have hI1:=iS hI
 obtain⟨r1,r2,r3,r4,r5,r6,r7,r8,r9,r10,r11,r12,r13,r14,r15,r16,r17,r18,r19,r20,r21⟩:=hr
 dsimp only at r1 r2 r3 r4 r13 r15 r21
 have hps:pn<=1000000:=by omega
 unfold bC fG at hK
 dsimp only at hK
 rw[if_neg (show ¬(10:Int)=5 by decide),if_neg (show ¬(10:Int)=6 by decide),if_neg (show ¬(10:Int)=7 by decide),if_neg (show ¬(10:Int)=8 by decide),if_neg (show ¬(10:Int)=9 by decide),if_neg (show ¬(10:Int)=2 by decide)] at hK
 dsimp only[cA,nF]
 by_cases h0:st=0
 ·subst h0
  rw[if_pos rfl] at hK
  refine aH Tryz.func117 ?_
  repeat' (first|refine AB ?_|refine dw bK ?_|refine dw bJ ?_|refine w5 ?_ ?_|((refine bh fun h=>?_) <;> try exact w6 h)|(refine aE fun hA=>?_;subst hA)|intro _|(show aA _ 206 _ _ _;refine CA (h:=dN (b:=s.bt) (now:=s.now) ?_))|(show aA _ 213 _ _ _;refine CA (h:=JA (x:=x) (a:=a) (s:= { s with bt:=bQ s.bt s.now }) (ps:=ps) hI1 (fun _ _=>?_))))
  all_goals(refine aC ?_;exact aB (hK _ _))
 ·rw[if_neg h0] at hK
  cases hp:vH { s with bt:=bQ s.bt s.now } st
  ·rw[if_pos hp] at hK
   refine aH Tryz.func117 ?_
   repeat' (first|refine AB ?_|refine dw bK ?_|refine dw bJ ?_|refine w5 ?_ ?_|((refine bh fun h=>?_) <;> try exact w6 h)|(refine aE fun hA=>?_;subst hA)|intro _|(show aA _ 206 _ _ _;refine CA (h:=dN (b:=s.bt) (now:=s.now) ?_))|(show aA _ 214 _ _ _;refine CA (h:=jW (x:=x) (a:=a) (s:= { s with bt:=bQ s.bt s.now }) (M:=M) (mc:=mc) ?_);rw[hp])|(show aA _ 118 _ _ _;refine CA (h:=dQ (x:=x) (a:=a) (s:= { s with bt:=bQ s.bt s.now }) hI1 (by decide) (by decide) (fun _ _=>?_))))
   all_goals(refine aC ?_;exact aB (hK _ _))
  ·rw[if_neg (by rw[hp];decide)] at hK
   rw[if_neg (by decide)] at hK
   refine aH Tryz.func117 ?_
   repeat' (first|refine AB ?_|refine dw bK ?_|refine dw bJ ?_|refine w5 ?_ ?_|((refine bh fun h=>?_) <;> try exact w6 h)|(refine aE fun hA=>?_;subst hA)|intro _|(show aA _ 206 _ _ _;refine CA (h:=dN (b:=s.bt) (now:=s.now) ?_))|(show aA _ 214 _ _ _;refine CA (h:=jW (x:=x) (a:=a) (s:= { s with bt:=bQ s.bt s.now }) (M:=M) (mc:=mc) ?_);rw[hp])|(show aA _ 216 _ _ _;refine CA (h:=OA (x:=x) (a:=a) (s:= { s with bt:=bQ s.bt s.now }) (ps:=ps) hI1 (by omega) (fun _ _=>?_))))
   all_goals(refine aC ?_;exact aB (hK _ _))
theorem Kr (hI:bO B s) (hB:B+300<=249000000) (hr:bR ⟨11,st,e,d,k,on,w,xx,c,la,n,pa,pn,pc,ps⟩) (hv:dW R pa tX ps) (hn:ps.length=pn) (hK:∀M mc,K (.tuple #[]) (cA x a (bC ⟨11,st,e,d,k,on,w,xx,c,la,n,pa,pn,pc,ps⟩ s) M mc R)):CT 117 #[PO x,.agg #[I6 11,I6 st,.bool e,.string d,I6 k,I6 on,I6 w,.bool xx,I6 c,I6 la,I6 n,.slice pa pn pc]] (cA x a s M mc R) K:=by
 have hI1:=iS hI
 obtain⟨r1,r2,r3,r4,r5,r6,r7,r8,r9,r10,r11,r12,r13,r14,r15,r16,r17,r18,r19,r20,r21⟩:=hr
 dsimp only at r1 r2 r3 r4 r13 r15 r21
 have hps:pn<=1000000:=by omega
 unfold bC fG at hK
 dsimp only at hK
 rw[if_neg (show ¬(11:Int)=5 by decide),if_neg (show ¬(11:Int)=6 by decide),if_neg (show ¬(11:Int)=7 by decide),if_neg (show ¬(11:Int)=8 by decide),if_neg (show ¬(11:Int)=9 by decide),if_neg (show ¬(11:Int)=2 by decide)] at hK
 dsimp only[cA,nF]
 by_cases h0:st=0
 ·subst h0
  rw[if_pos rfl] at hK
  refine aH Tryz.func117 ?_
  repeat' (first|refine AB ?_|refine dw bK ?_|refine dw bJ ?_|refine w5 ?_ ?_|((refine bh fun h=>?_) <;> try exact w6 h)|(refine aE fun hA=>?_;subst hA)|intro _|(show aA _ 206 _ _ _;refine CA (h:=dN (b:=s.bt) (now:=s.now) ?_))|(show aA _ 213 _ _ _;refine CA (h:=JA (x:=x) (a:=a) (s:= { s with bt:=bQ s.bt s.now }) (ps:=ps) hI1 (fun _ _=>?_))))
  all_goals(refine aC ?_;exact aB (hK _ _))
 ·rw[if_neg h0] at hK
  cases hp:vH { s with bt:=bQ s.bt s.now } st
  ·rw[if_pos hp] at hK
   refine aH Tryz.func117 ?_
   repeat' (first|refine AB ?_|refine dw bK ?_|refine dw bJ ?_|refine w5 ?_ ?_|((refine bh fun h=>?_) <;> try exact w6 h)|(refine aE fun hA=>?_;subst hA)|intro _|(show aA _ 206 _ _ _;refine CA (h:=dN (b:=s.bt) (now:=s.now) ?_))|(show aA _ 214 _ _ _;refine CA (h:=jW (x:=x) (a:=a) (s:= { s with bt:=bQ s.bt s.now }) (M:=M) (mc:=mc) ?_);rw[hp])|(show aA _ 118 _ _ _;refine CA (h:=dQ (x:=x) (a:=a) (s:= { s with bt:=bQ s.bt s.now }) hI1 (by decide) (by decide) (fun _ _=>?_))))
   all_goals(refine aC ?_;exact aB (hK _ _))
  ·rw[if_neg (by rw[hp];decide)] at hK
   rw[if_neg (by decide)] at hK
   refine aH Tryz.func117 ?_
   repeat' (first|refine AB ?_|refine dw bK ?_|refine dw bJ ?_|refine w5 ?_ ?_|((refine bh fun h=>?_) <;> try exact w6 h)|(refine aE fun hA=>?_;subst hA)|intro _|(show aA _ 206 _ _ _;refine CA (h:=dN (b:=s.bt) (now:=s.now) ?_))|(show aA _ 214 _ _ _;refine CA (h:=jW (x:=x) (a:=a) (s:= { s with bt:=bQ s.bt s.now }) (M:=M) (mc:=mc) ?_);rw[hp])|(show aA _ 216 _ _ _;refine CA (h:=Oc (x:=x) (a:=a) (s:= { s with bt:=bQ s.bt s.now }) (ps:=ps) hI1 (by omega) (fun _ _=>?_))))
   all_goals(refine aC ?_;exact aB (hK _ _))
end Go.Proofs.YtepnmcipkangkaaGreat
