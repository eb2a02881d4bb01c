/- A part of the proof: lemmas; each with the conditions that it states. -/
import Derived.Test.YtifgibijcmppmaaGreatMbb
set_option linter.unusedVariables false
set_option linter.unusedSimpArgs false
namespace Go.Proofs.YtifgibijcmppmaaGreat
open Go Go.Proofs Go.Sl
set_option maxRecDepth 100000
set_option maxHeartbeats 40000000
attribute [local irreducible] aM fG cV bP aN aW aA dP dX aV dO pt ro eW star sep bH
attribute [local irreducible] mp Ec
section
variable {R C:List HP} {K:Value→List HP→Prop} {x mc i b p r:Nat} {a:Ca} {s:Cn} {M:Option Addr} {B B' id code:Int} {own:Bool} {m m':Sm} {f:Fm} {y:Ys} {l:List Sm} {cf:Cf} {h3:eE} {z:Yp}
def In3 (t:eE):Prop:=yT t.w∧yT t.st∧yT t.it
theorem LD:∀ {ps:List Pr} {t u:eE},In3 t→XC t ps=some u→In3 u
 | [],t,u,h,e=>by cases e;exact h
 |p::ps,t,u,h,e=>by
  unfold XC at e
  split at e
  ·rename_i hp
   refine LD (t:=S5 t p) ?_ e
   obtain⟨h1,h2,h3⟩:=h
   unfold S5
   split
   ·exact⟨hp,h2,h3⟩
   ·split
    ·exact⟨h1,hp,h3⟩
    ·split
     ·exact⟨h1,h2,hp⟩
     ·exact⟨h1,h2,h3⟩
  ·cases e
theorem Acd {n:Int} (h:yT n):lQ n=true:=by
 unfold yT at h
 unfold lQ
 simp only[Bool.and_eq_true,decide_eq_true_eq]
 exact h
theorem MO (h:bS B s) {t:eE} (ht:In3 t) {q:Ld} (hq:F1 B q):bS B { s with ld:=q,pe:=t }:=
 { h with ld:=hq,pe:=ht }
theorem Ac0 (h:bS B s):bS B (x6 f s):=by
 unfold x6
 cases hp:XC s.pe f.ps with
 |none=>exact iM h
 |some t=>
  dsimp only
  split
  ·exact iM h
  ·exact It (MO h (LD h.pe hp) (Mg h.ld))
def nF:Tr:=(.br (.st 0 1 (.st 1 1 (.st 2 1 (.st 3 1 (.st 4 1 (.st 5 1 (.st 6 2 (.st 10 2 (.st 7 1 (.st 8 1 (.st 11 1 (.st 9 2 (.st 12 0 .nil))))))))))))) (.st 10 2 (.st 0 1 (.st 1 1 (.st 2 1 (.st 3 1 (.st 4 1 (.st 5 1 (.st 6 2 (.st 7 1 (.st 8 1 (.st 11 1 (.st 9 2 (.st 12 0 .nil))))))))))))))
def m8:List (Nat×Nat):= [(0,0),(1,0),(2,0),(3,0),(4,0),(5,0),(6,0),(7,0),(8,0),(9,0),(10,0),(11,1),(12,0),(13,0)]
theorem Vz {t st:Int} {e:Bool} {d:ByteArray} {k on w:Int} {xx:Bool} {c la n:Int} {pa:Option Addr} {pn pc:Nat} {ps:List Pr} (hI:bS B s) (hv:dL R pa rN ps) (hn:ps.length=pn) (hn2:pn≤1000000) (hK:∀M mc,K (.tuple #[]) (bY x a (x6 ⟨t,st,e,d,k,on,w,xx,c,la,n,pa,pn,pc,ps⟩ s) M mc R)):aA Tryz.prog 162 #[.pointer (some ⟨x,0,none⟩),.agg #[.int .i64 t,.int .i64 st,.bool e,.string d,.int .i64 k,.int .i64 on,.int .i64 w,.bool xx,.int .i64 c,.int .i64 la,.int .i64 n,.slice pa pn pc]] (bY x a s M mc R) K:=by
 have hbb:=hI.bb
 unfold x6 at hK
 dsimp only at hK
 dsimp only[bY,pM]
 cases hp:XC s.pe ps with
 |none=>
  rw[hp] at hK
  refine aH Tryz.func162 ?_
  repeat' (first|refine Jc ?_|refine Gm nF ?_|refine dw m8 ?_|refine wr ?_|refine w5 ?_ ?_|((refine bh fun h=>?_) <;> try exact w6 h)|(refine aE fun hA=>?_;subst hA)|intro _|(show aA _ 247 _ _ _;refine CA (h:=Ff (s:=s.pe) (ps:=ps) (by exact jY) hn hn2 ?_);rw[hp];dsimp only[paV])|(show aA _ 79 _ _ _;refine CA (h:=dH (x:=x) (a:=a) (s:=s) hI (by decide) (by decide) (fun _ _=>?_))))
  all_goals(refine aC ?_;exact aB (hK _ _))
 |some u=>
  rw[hp] at hK
  dsimp only at hK
  have hu:=LD hI.pe hp
  have hab:lQ s.pe.w=true∧lQ u.w=true:=⟨Acd hI.pe.1,Acd hu.1⟩
  by_cases hg:Ey s.pe.w u.w s.ld=0
  ·rw[if_neg (fun q=>q hg)] at hK
   refine aH Tryz.func162 ?_
   repeat' (first|refine Jc ?_|refine Gm nF ?_|refine dw m8 ?_|refine wr ?_|refine w5 ?_ ?_|((refine bh fun h=>?_) <;> try exact w6 h)|(refine aE fun hA=>?_;subst hA)|intro _|(show aA _ 247 _ _ _;refine CA (h:=Ff (s:=s.pe) (ps:=ps) (by exact jY) hn hn2 ?_);rw[hp];dsimp only[paV])|(show aA _ 248 _ _ _;refine CA (h:=P3 (s:=s.ld) (hI.ld.ok (by omega)) hab ?_);rw[hg])|(show aA _ 164 _ _ _;refine CA (h:=Bc (x:=x) (a:=a) (s:= { s with ld:=sG s.pe.w u.w s.ld,pe:=u }) (f:=fr0 6 0) (MO hI hu (Mg hI.ld)) rfl rfl rfl (fun _ _=>?_))))
   all_goals(refine aC ?_;exact aB (hK _ _))
  ·rw[if_pos hg] at hK
   have hs:sG s.pe.w u.w s.ld=s.ld:=by unfold sG;rw[if_pos hg]
   refine aH Tryz.func162 ?_
   repeat' (first|(show Br _ _ _;refine Br.t (by first | (simp <;> done) | simpa using hg) ?_)|refine Jc ?_|refine Gm nF ?_|refine dw m8 ?_|refine wr ?_|refine w5 ?_ ?_|((refine bh fun h=>?_) <;> try exact w6 h)|(refine aE fun hA=>?_;subst hA)|intro _|(show aA _ 247 _ _ _;refine CA (h:=Ff (s:=s.pe) (ps:=ps) (by exact jY) hn hn2 ?_);rw[hp];dsimp only[paV])|(show aA _ 248 _ _ _;refine CA (h:=P3 (s:=s.ld) (hI.ld.ok (by omega)) hab ?_);rw[hs])|(show aA _ 79 _ _ _;refine CA (h:=dH (x:=x) (a:=a) (s:=s) hI (by decide) (by decide) (fun _ _=>?_))))
   all_goals(refine aC ?_;exact aB (hK _ _))
theorem Ty {l l':List Sm} (h:FY l) (e:l'.map Sm.id=l.map Sm.id):FY l':=by
 obtain⟨h1,h2⟩:=h
 have hl:=congrArg List.length e
 rw[List.length_map,List.length_map] at hl
 refine⟨by omega,?_⟩
 have h3:(l.map Sm.id).Pairwise (·<·):=List.pairwise_map.2 h2
 rw[← e] at h3
 exact List.pairwise_map.1 h3
def Rf (t:eE) (m:Sm):Sm:= { m with y:=C9 m.y t }
theorem OQ {g:Sm→Sm} {j:Nat} (hm:l[j]?=some m):((l.take j).map g++l.drop j).set j (g m)=(l.take (j+1)).map g++l.drop (j+1):=by
 have hj:=(List.getElem?_eq_some_iff.1 hm).1
 have hlen:((l.take j).map g).length=j:=by rw[List.length_map,List.length_take];omega
 have hd:l.drop j=m::l.drop (j+1):=by rw[List.drop_eq_getElem_cons hj,(List.getElem?_eq_some_iff.1 hm).2]
 rw[List.set_append_right _ _ (by omega),hlen,Nat.sub_self,hd,List.set_cons_zero,List.take_add_one,hm]
 simp
theorem Uy {g:Sm→Sm} {j:Nat} (hm:l[j]?=some m):((l.take j).map g++l.drop j)[j]?=some m:=by
 have hj:=(List.getElem?_eq_some_iff.1 hm).1
 have hlen:((l.take j).map g).length=j:=by rw[List.length_map,List.length_take];omega
 rw[List.getElem?_append_right (by omega),hlen,Nat.sub_self,List.getElem?_drop]
 simpa using hm
theorem No {g:Sm→Sm} {j:Nat} (hg:∀m,(g m).id=m.id):((l.take j).map g++l.drop j).map Sm.id=l.map Sm.id:=by
 rw[List.map_append,List.map_map]
 have e:(Sm.id ∘ g)=Sm.id:=funext hg
 rw[e,← List.map_append,List.take_append_drop]
theorem Zj {t:eE}:kG (C9 y t)=kG y:=by cases y <;> rfl
theorem V4 (h:bS B s):bS B (sV s):=by
 unfold sV
 split
 ·exact iM h
 ·have hsh:=h.sh
  have hsh2:(dA s.sh).l.length≤4∧vT (dA s.sh).h∧vT (dA s.sh).g∧∀t∈(dA s.sh).l,vT t:=by
   unfold dA
   cases hl:s.sh.l with
   |nil=>dsimp only;rw[hl] at hsh;rw[hl];exact hsh
   |cons t r=>
    rw[hl] at hsh
    obtain⟨h1,h2,h3,h4⟩:=hsh
    rw[List.length_cons] at h1
    exact⟨by dsimp only;omega,h4 t (List.mem_cons_self ..),h3,fun z hz=>h4 z (List.mem_cons_of_mem _ hz)⟩
  exact { h with
   sh:=hsh2
   sm:=TL h.sm fun m=>rfl
   st:=fun q hq=>by
    obtain⟨m,hm,rfl⟩:=List.mem_map.1 hq
    obtain⟨h1,h2,h3,h4⟩:=h.st m hm
    refine⟨h1,h2,?_,?_⟩
    ·cases hy:m.y <;> (rw[hy] at h3;exact h3)
    ·cases hy:m.y <;> (rw[hy] at h4;exact h4)
   ids:=fun q hq=>by
    obtain⟨m,hm,rfl⟩:=List.mem_map.1 hq
    exact h.ids m hm
   own:=fun b=>by
    have:=h.own b
    unfold fH at this
    show((s.l.map fun m=>({ m with y:=C9 m.y (dA s.sh).h }:Sm)).filter fun m=>m.own == b).length≤32
    rw[m7,List.map_map]
    rw[m7] at this
    exact this
   mv:=by
    have:=h.mv
    show(s.mv.length:Int)+((s.l.map _).length:Int)≤B
    rw[List.length_map];exact this }
def jH:List (Nat×Nat):= [(0,0),(1,1),(2,1),(3,1)]
theorem Sq (hI:bS B s) (hK:∀M mc,K (.tuple #[]) (bY x a (sV s) M mc R)):aA Tryz.prog 163 #[.pointer (some ⟨x,0,none⟩)] (bY x a s M mc R) K:=by
 have h64:=hI.sm.1
 unfold sV at hK
 dsimp only[bY,pM]
 by_cases hl:s.sh.l= []
 ·have hE:zS s.sh=1:=by unfold zS;rw[if_pos hl]
  have hA:dA s.sh=s.sh:=by unfold dA;rw[hl]
  rw[hE,if_pos (by decide)] at hK
  refine aH Tryz.func163 ?_
  repeat' (first|refine JC ?_|refine dw jH ?_|refine wr ?_|refine w5 ?_ ?_|((refine bh fun h=>?_) <;> try exact w6 h)|(refine aE fun hA=>?_;subst hA)|intro _|(show aA _ 249 _ _ _;refine CA (h:=NJ (s:=s.sh) ?_);rw[hE,hA])|(show aA _ 79 _ _ _;refine CA (h:=dH (x:=x) (a:=a) (s:=s) hI (by decide) (by decide) (fun _ _=>?_))))
  all_goals(refine aC ?_;exact aB (hK _ _))
 ·have hE:zS s.sh=0:=by unfold zS;rw[if_neg hl]
  rw[hE,if_neg (by decide)] at hK
  have hch:vT (dA s.sh).h:=by
   have:=hI.sh
   unfold dA
   cases hq:s.sh.l with
   |nil=>exact absurd hq hl
   |cons t r=>rw[hq] at this;exact this.2.2.2 t (List.mem_cons_self ..)
  refine aH Tryz.func163 ?_
  repeat' (first|refine JC ?_|refine dw jH ?_|refine wr ?_|refine w5 ?_ ?_|((refine bh fun h=>?_) <;> try exact w6 h)|(refine aE fun hA=>?_;subst hA)|intro _|(show aA _ 249 _ _ _;refine CA (h:=NJ (s:=s.sh) ?_);rw[hE];simp only[if_neg hl])|(show aA _ 83 _ _ _;refine CA (h:=x8 (l:=s.l) ?_)))
  rename_i r2 r3
  refine iL (fun n a' C'=>∃j:Nat,j+n=s.l.length∧dC a' [(0,.pointer (some ⟨x,0,none⟩)),(3,.pointer (some ⟨r3,0,none⟩)),(27,.int .i64 s.l.length),(28,.int .i64 j)]∧C'=pt r3 [.int .i64 (dA s.sh).h.w,.int .i64 (dA s.sh).h.st,.int .i64 (dA s.sh).h.it] 23::bY x a { s with sh:=dA s.sh,l:=(s.l.take j).map (Rf (dA s.sh).h)++s.l.drop j } M mc R) s.l.length (cC s.l.length ⟨0,by omega,⟨rfl,rfl,rfl,rfl,trivial⟩,rfl⟩ (by omega)) ?_
  rintro n a' C' ⟨j,hj,ha,rfl⟩
  refine gV _ ha ?_
  simp only[fN]
  by_cases hlt:j<s.l.length
  ·obtain⟨m,hm⟩:∃m,s.l[j]?=some m:=⟨_,List.getElem?_eq_getElem hlt⟩
   have hat:=Uy (g:=Rf (dA s.sh).h) hm
   have hset:=OQ (g:=Rf (dA s.sh).h) hm
   have hS:=Ty hI.sm (No (g:=Rf (dA s.sh).h) (l:=s.l) (j:=j) fun _=>rfl)
   repeat' (first|refine JC ?_|refine dw jH ?_|refine wr ?_|refine w5 ?_ ?_|((refine bh fun h=>?_) <;> try exact w6 h)|(refine aE fun hA=>?_;subst hA)|intro _|(show aA _ 85 _ _ _;refine CA (h:=Em hS hat (fun _=>?_)))|(show aA _ 89 _ _ _;refine CA (h:=qP (m:=m) (fun _=>?_)))|(show aA _ 250 _ _ _;refine CA (h:=Aez (y:=m.y) (s:=(dA s.sh).h) hch ?_)))
   all_goals(show aV _ _ _ _;exact sO (m:=n - 1) (by omega) (aG.trans (by exact aY) (aG.trans (aG.cons (A:=pt r3 [.int .i64 (dA s.sh).h.w,.int .i64 (dA s.sh).h.st,.int .i64 (dA s.sh).h.it] 23) (mM (m:=m) (y:=C9 m.y (dA s.sh).h) Zj)) (aG.cons (A:=pt r3 [.int .i64 (dA s.sh).h.w,.int .i64 (dA s.sh).h.st,.int .i64 (dA s.sh).h.it] 23) (lP (x:=x) (a:=a) (s:= { s with sh:=dA s.sh,l:=(s.l.take j).map (Rf (dA s.sh).h)++s.l.drop j }) (M:=M) (mc:=mc) (R:=R) (m':=Rf (dA s.sh).h m) hat rfl)))) ⟨j+1,by omega,⟨rfl,rfl,rfl,rfl,trivial⟩,congrArg (fun q=>pt r3 [.int .i64 (dA s.sh).h.w,.int .i64 (dA s.sh).h.st,.int .i64 (dA s.sh).h.it] 23::bY x a { s with sh:=dA s.sh,l:=q } M mc R) hset⟩)
  ·have hj0:j=s.l.length:=by omega
   subst hj0
   have e:(s.l.take s.l.length).map (Rf (dA s.sh).h)++s.l.drop s.l.length=s.l.map fun m=>({ m with y:=C9 m.y (dA s.sh).h }:Sm):=by
    rw[List.take_length,List.drop_length,List.append_nil];rfl
   rw[e]
   repeat' (first|refine JC ?_|refine dw jH ?_|refine wr ?_|refine w5 ?_ ?_|((refine bh fun h=>?_) <;> try exact w6 h)|(refine aE fun hA=>?_;subst hA)|intro _)
   all_goals(refine aC ?_;exact aB (hK _ _))
end
section
variable {R C:List HP} {K:Value→List HP→Prop} {x mc i b p r:Nat} {a:Ca} {s:Cn} {M:Option Addr} {B B' id code:Int} {own:Bool} {m m':Sm} {f:Fm} {y:Ys} {l acc:List Sm} {cf:Cf} {h3:eE} {z:Yp}
theorem Pk (h:∀q∈acc,q.id<m.id):cB m.id (acc++m::l)=acc.length:=by
 unfold cB
 induction acc with
 |nil=>rw[List.nil_append,List.takeWhile_cons];simp
 |cons q acc ih=>
  rw[List.cons_append,List.takeWhile_cons,if_pos (decide_eq_true (h q (List.mem_cons_self ..))),List.length_cons,List.length_cons,ih fun z hz=>h z (List.mem_cons_of_mem _ hz)]
theorem Hw (h:∀q∈acc,q.id<m.id):b7 m.id (acc++m::l)=some m:=by
 unfold b7
 rw[Pk h,List.getElem?_append_right (Nat.le_refl _),Nat.sub_self]
 simp
theorem Q6 (h:FY (acc++m::l)):∀q∈acc,q.id<m.id:=fun q hq=>
 (List.pairwise_append.1 h.2).2.2 q hq m (List.mem_cons_self ..)
theorem EU (h:∀q∈acc,q.id<m.id):(acc++m::l).eraseIdx (cB m.id (acc++m::l))=acc++l:=by
 rw[Pk h,List.eraseIdx_append_of_length_le (Nat.le_refl _),Nat.sub_self];rfl
theorem Kc {ids:List Int} (hm:b7 id s.l=some m):nL (id::ids) s=nL ids (if m.own=true∧JJ s.dr id=true then sB m 7 s else s):=by
 show nL ids (match b7 id s.l with
  |some m=>_
  |none=>s)=_
 rw[hm]
theorem Eu (h:bS B s) {d:Dr}:bS B { s with dr:=d }:= { h with }
theorem GI:∀ {l acc:List Sm} {s:Cn},s.l=acc++l→bS B s→bS B (nL (l.map Sm.id) s)
 | [],acc,s,he,h=>h
 |m::l,acc,s,he,h=>by
  have hlt:=Q6 (by rw[← he];exact h.sm)
  have hm:b7 m.id s.l=some m:=by rw[he];exact Hw hlt
  rw[List.map_cons,Kc hm]
  split
  ·refine GI (l:=l) (acc:=acc) ?_ (rS h hm)
   show s.l.eraseIdx (cB m.id s.l)=acc++l
   rw[he];exact EU hlt
  ·exact GI (l:=l) (acc:=acc++ [m]) (by rw[he];simp) h
theorem YS (h:bS B s):bS B (yA f s):=by
 unfold yA
 split
 ·exact JH (Eu h)
 ·exact GI (acc:= []) rfl (Eu h)
def f4:List (Nat×Nat):= [(0,0),(1,0),(2,0),(3,0),(4,0),(5,0),(6,0),(7,0),(8,1)]
theorem W9 {t st:Int} {e:Bool} {d:ByteArray} {k on w:Int} {xx:Bool} {c la n:Int} {pa:Option Addr} {pn pc:Nat} {ps:List Pr} (hI:bS B s) (hK:∀M mc,K (.tuple #[]) (bY x a (yA ⟨t,st,e,d,k,on,w,xx,c,la,n,pa,pn,pc,ps⟩ s) M mc R)):aA Tryz.prog 166 #[.pointer (some ⟨x,0,none⟩),.agg #[.int .i64 t,.int .i64 st,.bool e,.string d,.int .i64 k,.int .i64 on,.int .i64 w,.bool xx,.int .i64 c,.int .i64 la,.int .i64 n,.slice pa pn pc]] (bY x a s M mc R) K:=by
 have h64:=hI.sm.1
 have hlm:(s.l.map Sm.id).length=s.l.length:=List.length_map ..
 have hI1:=Eu (d:=o4 s.dr la c) hI
 unfold yA at hK
 dsimp only at hK
 dsimp only[bY,pM]
 cases ho:(o4 s.dr la c).ov
 ·rw[ho,if_neg Bool.false_ne_true] at hK
  refine aH Tryz.func166 ?_
  repeat' (first|refine v78 ?_|refine dw f4 ?_|refine wr ?_|refine w5 ?_ ?_|((refine bh fun h=>?_) <;> try exact w6 h)|(refine aE fun hA=>?_;subst hA)|intro _|(show aA _ 252 _ _ _;refine CA (h:=TH (d:=s.dr) ?_))|(show aA _ 78 _ _ _;refine CA (h:=jN (x:=x) (a:=a) (s:= { s with dr:=o4 s.dr la c }) (M:=M) (mc:=mc) ?_);rw[show({ s with dr:=o4 s.dr la c }:Cn).dr.ov=false from ho])|(show aA _ 91 _ _ _;refine CA (h:=UH (l:=s.l) hI.sm (fun Bq dq=>?_))))
  refine iL (fun n a' C'=>∃(j:Nat) (s':Cn) (acc:List Sm) (M':Option Addr) (mc':Nat),j+n=s.l.length∧s'.l=acc++s.l.drop j∧bS B s'∧nL ((s.l.drop j).map Sm.id) s'=nL (s.l.map Sm.id) { s with dr:=o4 s.dr la c }∧dC a' [(0,.pointer (some ⟨x,0,none⟩)),(25,.slice Bq (s.l.map Sm.id).length dq),(26,.int .i64 s.l.length),(27,.int .i64 j)]∧C'=bU Bq dq 3 nI (s.l.map Sm.id)::bY x a s' M' mc' R) s.l.length (cC s.l.length ⟨0,{ s with dr:=o4 s.dr la c },[],M,mc,by omega,rfl,hI1,rfl,⟨rfl,rfl,(by simp;rfl),rfl,trivial⟩,rfl⟩ (by omega)) ?_
  rintro n1 a' C' ⟨j,s',acc,M',mc',hj,hl,hI',hc,ha,rfl⟩
  refine gV _ ha ?_
  simp only[fN]
  by_cases hlt:j<s.l.length
  ·obtain⟨m,hm,hd⟩:=iS (l:=s.l) (j:=j) hlt
   rw[hd] at hl hc
   have hml:=Q6 (by rw[← hl];exact hI'.sm)
   have hat:b7 m.id s'.l=some m:=by rw[hl];exact Hw hml
   obtain⟨hi,_⟩:=aZ hat
   have hv:(s.l.map Sm.id)[((j:Nat):Int).toNat]?=some m.id:=by rw[Int.toNat_natCast,List.getElem?_map,hm];rfl
   have hc2:nL ((s.l.drop (j+1)).map Sm.id) (if m.own=true∧JJ s'.dr m.id=true then sB m 7 s' else s')=nL (s.l.map Sm.id) { s with dr:=o4 s.dr la c }:=by
    rw[← hc]
    show _=nL _ (match b7 m.id s'.l with
     |some m=>_
     |none=>s')
    rw[hat]
   cases how:m.own
   ·rw[how,if_neg (fun q=>Bool.false_ne_true q.1)] at hc2
    repeat' (first|refine v78 ?_|refine dw f4 ?_|refine wr ?_|refine w5 ?_ ?_|((refine bh fun h=>?_) <;> try exact w6 h)|(refine aE fun hA=>?_;subst hA)|intro _|(show aA _ 192 _ _ _;refine CA (h:=f7 (l:=s'.l) hI'.sm hat (fun _=>?_)))|(show aA _ 178 _ _ _;refine CA (h:=z6 (m:=m) ?_);rw[how]))
    all_goals(show aV _ _ _ _;exact sO (m:=n1 - 1) (by omega) (aG.trans (by exact aY) (aG.cons (A:=bU _ dq 3 nI (s.l.map Sm.id)) (dY (x:=x) (a:=a) (s:=s') (M:=M') (mc:=mc') (R:=R) hi))) ⟨j+1,s',acc++ [m],M',mc',by omega,by rw[hl];simp,hI',hc2,⟨rfl,rfl,rfl,rfl,trivial⟩,rfl⟩)
   ·cases hrf:JJ s'.dr m.id
    ·rw[hrf,if_neg (fun q=>Bool.false_ne_true q.2)] at hc2
     repeat' (first|refine v78 ?_|refine dw f4 ?_|refine wr ?_|refine w5 ?_ ?_|((refine bh fun h=>?_) <;> try exact w6 h)|(refine aE fun hA=>?_;subst hA)|intro _|(show aA _ 192 _ _ _;refine CA (h:=f7 (l:=s'.l) hI'.sm hat (fun _=>?_)))|(show aA _ 178 _ _ _;refine CA (h:=z6 (m:=m) ?_);rw[how])|(show aA _ 253 _ _ _;refine CA (h:=Ue (d:=s'.dr) ?_);rw[hrf]))
     all_goals(show aV _ _ _ _;exact sO (m:=n1 - 1) (by omega) (aG.trans (by exact aY) (aG.cons (A:=bU _ dq 3 nI (s.l.map Sm.id)) (dY (x:=x) (a:=a) (s:=s') (M:=M') (mc:=mc') (R:=R) hi))) ⟨j+1,s',acc++ [m],M',mc',by omega,by rw[hl];simp,hI',hc2,⟨rfl,rfl,rfl,rfl,trivial⟩,rfl⟩)
    ·rw[how,hrf,if_pos ⟨rfl,rfl⟩] at hc2
     repeat' (first|refine v78 ?_|refine dw f4 ?_|refine wr ?_|refine w5 ?_ ?_|((refine bh fun h=>?_) <;> try exact w6 h)|(refine aE fun hA=>?_;subst hA)|intro _|(show aA _ 192 _ _ _;refine CA (h:=f7 (l:=s'.l) hI'.sm hat (fun _=>?_)))|(show aA _ 178 _ _ _;refine CA (h:=z6 (m:=m) ?_);rw[how])|(show aA _ 253 _ _ _;refine CA (h:=Ue (d:=s'.dr) ?_);rw[hrf])|(show aA _ 254 _ _ _;refine CA (h:=AJ (x:=x) (a:=a) (s:=s') (M:=M') (mc:=mc') (m:=m) hI' hat (.inr rfl) (fun _ _=>?_))))
     all_goals(show aV _ _ _ _;exact cC (n1 - 1) ⟨j+1,sB m 7 s',acc,_,_,by omega,(by show s'.l.eraseIdx (cB m.id s'.l)=_;rw[hl];exact EU hml),rS hI' hat,hc2,⟨rfl,rfl,rfl,rfl,trivial⟩,rfl⟩)
  ·have hj0:j=s.l.length:=by omega
   subst hj0
   rw[List.drop_length] at hc hl
   have hc:s'=nL (s.l.map Sm.id) { s with dr:=o4 s.dr la c }:=hc
   subst hc
   repeat' (first|refine v78 ?_|refine dw f4 ?_|refine wr ?_|refine w5 ?_ ?_|((refine bh fun h=>?_) <;> try exact w6 h)|(refine aE fun hA=>?_;subst hA)|intro _)
   all_goals(refine aC ?_;exact aB (hK _ _))
 ·rw[ho,if_pos rfl] at hK
  refine aH Tryz.func166 ?_
  repeat' (first|refine v78 ?_|refine dw f4 ?_|refine wr ?_|refine w5 ?_ ?_|((refine bh fun h=>?_) <;> try exact w6 h)|(refine aE fun hA=>?_;subst hA)|intro _|(show aA _ 252 _ _ _;refine CA (h:=TH (d:=s.dr) ?_))|(show aA _ 78 _ _ _;refine CA (h:=jN (x:=x) (a:=a) (s:= { s with dr:=o4 s.dr la c }) (M:=M) (mc:=mc) ?_);rw[show({ s with dr:=o4 s.dr la c }:Cn).dr.ov=true from ho])|(show aA _ 176 _ _ _;refine CA (h:=GV (x:=x) (a:=a) (s:= { s with dr:=o4 s.dr la c }) hI1 (fun _ _=>?_))))
  all_goals(refine aC ?_;exact aB (hK _ _))
theorem Tl {id on w:Int} {xx:Bool} (h:bS B s):bS B { s with tr:=jZ id on w xx s.tr }:= { h with tr:=Adv h.tr }
theorem Wr (h:bS B s):bS B (j7 f s):=by
 unfold j7
 split
 ·exact iM h
 ·cases hm:b7 f.st s.l with
  |none=>exact h
  |some m=>
   dsimp only
   split
   ·exact Tl h
   ·split
    ·exact rS h hm
    ·exact NA h hm
end
section
variable {R C:List HP} {K:Value→List HP→Prop} {x mc i b p r:Nat} {a:Ca} {s:Cn} {M:Option Addr} {B B' id code:Int} {own:Bool} {m m':Sm} {f:Fm} {y:Ys} {l acc:List Sm} {cf:Cf} {h3:eE} {z:Yp}
def cG:List (Nat×Nat):= [(0,0),(1,0),(2,0),(3,0),(4,0),(5,0),(6,1),(7,0),(8,0),(9,0),(10,0),(11,0)]
def cH:List (Nat×Nat):= [(0,0),(1,0),(2,0),(3,0),(4,0),(5,0),(6,0),(7,0),(8,1)]
theorem NX {st:Int} {e:Bool} {d:ByteArray} {k on w:Int} {xx:Bool} {c la n:Int} {pa:Option Addr} {pn pc:Nat} {ps:List Pr} (hI:bS B s) (hst:1≤st∧st≤2147483647) (hK:∀M mc,K (.tuple #[]) (bY x a (j7 ⟨3,st,e,d,k,on,w,xx,c,la,n,pa,pn,pc,ps⟩ s) M mc R)):aA Tryz.prog 171 #[.pointer (some ⟨x,0,none⟩),.agg #[.int .i64 3,.int .i64 st,.bool e,.string d,.int .i64 k,.int .i64 on,.int .i64 w,.bool xx,.int .i64 c,.int .i64 la,.int .i64 n,.slice pa pn pc]] (bY x a s M mc R) K:=by
 have htl:=hI.tr.len
 obtain⟨rk,hrk⟩:=hI.tr.rk
 unfold j7 at hK
 dsimp only at hK
 dsimp only[bY,pM]
 by_cases h0:on=st
 ·rw[if_pos ⟨rfl,h0⟩] at hK
  cases hm:b7 st s.l with
  |none=>
   refine aH Tryz.func171 ?_
   repeat' (first|refine Bf ?_|refine dw cG ?_|refine dw cH ?_|refine wr ?_|refine w5 ?_ ?_|((refine bh fun h=>?_) <;> try exact w6 h)|(refine aE fun hA=>?_;subst hA)|intro _|(show aA _ 192 _ _ _;refine CA (h:=mO (l:=s.l) hI.sm hm ?_))|(show aA _ 79 _ _ _;refine CA (h:=dH (x:=x) (a:=a) (s:=s) hI (by decide) (by decide) (fun _ _=>?_))))
   all_goals(refine aC ?_;exact aB (hK _ _))
  |some m=>
   obtain⟨hi,_⟩:=aZ hm
   refine aH Tryz.func171 ?_
   repeat' (first|refine Bf ?_|refine dw cG ?_|refine dw cH ?_|refine wr ?_|refine w5 ?_ ?_|((refine bh fun h=>?_) <;> try exact w6 h)|(refine aE fun hA=>?_;subst hA)|intro _|(show aA _ 192 _ _ _;refine CA (h:=f7 (l:=s.l) hI.sm hm (fun _=>?_)))|(show aA _ 79 _ _ _;refine CA (h:=aA.ent (dY (x:=x) (a:=a) (s:=s) (M:=M) (mc:=mc) (R:=R) hi) (dH hI (by decide) (by decide) (fun _ _=>?_)))))
   all_goals(refine aC ?_;exact aB (hK _ _))
 ·rw[if_neg (fun q=>h0 q.2)] at hK
  cases hm:b7 st s.l with
  |none=>
   rw[hm] at hK
   refine aH Tryz.func171 ?_
   repeat' (first|refine Bf ?_|refine dw cG ?_|refine dw cH ?_|refine wr ?_|refine w5 ?_ ?_|((refine bh fun h=>?_) <;> try exact w6 h)|(refine aE fun hA=>?_;subst hA)|intro _|(show aA _ 192 _ _ _;refine CA (h:=mO (l:=s.l) hI.sm hm ?_)))
   all_goals(refine aC ?_;exact aB (hK _ _))
  |some m=>
   rw[hm] at hK
   dsimp only at hK
   obtain⟨hi,_⟩:=aZ hm
   rw[if_pos rfl] at hK
   refine aH Tryz.func171 ?_
   repeat' (first|refine Bf ?_|refine dw cG ?_|refine dw cH ?_|refine wr ?_|refine w5 ?_ ?_|((refine bh fun h=>?_) <;> try exact w6 h)|(refine aE fun hA=>?_;subst hA)|intro _|(show aA _ 192 _ _ _;refine CA (h:=f7 (l:=s.l) hI.sm hm (fun _=>?_)))|(show aA _ 262 _ _ _;refine CA (h:=J7 (s:=s.tr) hI.tr.kok (by omega) hrk ?_)))
   all_goals(refine aC ?_;exact aK (aG.trans (by exact aY) ((dY (x:=x) (a:=a) (s:= { s with tr:=jZ st on w xx s.tr }) (M:=M) (mc:=mc) (R:=R) hi))) (hK _ _))
theorem Oh {st:Int} {e:Bool} {d:ByteArray} {k on w:Int} {xx:Bool} {c la n:Int} {pa:Option Addr} {pn pc:Nat} {ps:List Pr} (hI:bS B s) (hst:1≤st∧st≤2147483647) (hK:∀M mc,K (.tuple #[]) (bY x a (j7 ⟨4,st,e,d,k,on,w,xx,c,la,n,pa,pn,pc,ps⟩ s) M mc R)):aA Tryz.prog 171 #[.pointer (some ⟨x,0,none⟩),.agg #[.int .i64 4,.int .i64 st,.bool e,.string d,.int .i64 k,.int .i64 on,.int .i64 w,.bool xx,.int .i64 c,.int .i64 la,.int .i64 n,.slice pa pn pc]] (bY x a s M mc R) K:=by
 have htl:=hI.tr.len
 obtain⟨rk,hrk⟩:=hI.tr.rk
 unfold j7 at hK
 dsimp only at hK
 dsimp only[bY,pM]
 rw[if_neg (fun q:(4:Int)=3∧_=>absurd q.1 (by decide))] at hK
 cases hm:b7 st s.l with
 |none=>
  rw[hm] at hK
  refine aH Tryz.func171 ?_
  repeat' (first|refine Bf ?_|refine dw cG ?_|refine dw cH ?_|refine wr ?_|refine w5 ?_ ?_|((refine bh fun h=>?_) <;> try exact w6 h)|(refine aE fun hA=>?_;subst hA)|intro _|(show aA _ 192 _ _ _;refine CA (h:=mO (l:=s.l) hI.sm hm ?_)))
  all_goals(refine aC ?_;exact aB (hK _ _))
 |some m=>
  rw[hm] at hK
  dsimp only at hK
  obtain⟨hi,_⟩:=aZ hm
  rw[if_neg (by decide),if_pos rfl] at hK
  refine aH Tryz.func171 ?_
  repeat' (first|refine Bf ?_|refine dw cG ?_|refine dw cH ?_|refine wr ?_|refine w5 ?_ ?_|((refine bh fun h=>?_) <;> try exact w6 h)|(refine aE fun hA=>?_;subst hA)|intro _|(show aA _ 192 _ _ _;refine CA (h:=f7 (l:=s.l) hI.sm hm (fun _=>?_)))|(show aA _ 254 _ _ _;refine CA (h:=AJ (x:=x) (a:=a) (s:=s) (M:=M) (mc:=mc) (m:=m) hI hm (.inr rfl) (fun _ _=>?_))))
  all_goals(refine aC ?_;exact aB (hK _ _))
theorem LO {st:Int} {e:Bool} {d:ByteArray} {k on w:Int} {xx:Bool} {c la n:Int} {pa:Option Addr} {pn pc:Nat} {ps:List Pr} (hI:bS B s) (hst:1≤st∧st≤2147483647) (hK:∀M mc,K (.tuple #[]) (bY x a (j7 ⟨10,st,e,d,k,on,w,xx,c,la,n,pa,pn,pc,ps⟩ s) M mc R)):aA Tryz.prog 171 #[.pointer (some ⟨x,0,none⟩),.agg #[.int .i64 10,.int .i64 st,.bool e,.string d,.int .i64 k,.int .i64 on,.int .i64 w,.bool xx,.int .i64 c,.int .i64 la,.int .i64 n,.slice pa pn pc]] (bY x a s M mc R) K:=by
 have htl:=hI.tr.len
 obtain⟨rk,hrk⟩:=hI.tr.rk
 unfold j7 at hK
 dsimp only at hK
 dsimp only[bY,pM]
 rw[if_neg (fun q:(10:Int)=3∧_=>absurd q.1 (by decide))] at hK
 cases hm:b7 st s.l with
 |none=>
  rw[hm] at hK
  refine aH Tryz.func171 ?_
  repeat' (first|refine Bf ?_|refine dw cG ?_|refine dw cH ?_|refine wr ?_|refine w5 ?_ ?_|((refine bh fun h=>?_) <;> try exact w6 h)|(refine aE fun hA=>?_;subst hA)|intro _|(show aA _ 192 _ _ _;refine CA (h:=mO (l:=s.l) hI.sm hm ?_)))
  all_goals(refine aC ?_;exact aB (hK _ _))
 |some m=>
  rw[hm] at hK
  dsimp only at hK
  obtain⟨hi,_⟩:=aZ hm
  rw[if_neg (by decide),if_neg (by decide)] at hK
  refine aH Tryz.func171 ?_
  repeat' (first|refine Bf ?_|refine dw cG ?_|refine dw cH ?_|refine wr ?_|refine w5 ?_ ?_|((refine bh fun h=>?_) <;> try exact w6 h)|(refine aE fun hA=>?_;subst hA)|intro _|(show aA _ 192 _ _ _;refine CA (h:=f7 (l:=s.l) hI.sm hm (fun _=>?_)))|(show aA _ 263 _ _ _;refine CA (h:=DW (x:=x) (a:=a) (s:=s) (M:=M) (mc:=mc) (m:=m) (t:=10) (ps:=ps) hI (by decide) hst hm (fun _ _=>?_))))
  all_goals(refine aC ?_;exact aB (hK _ _))
theorem Mr {st:Int} {e:Bool} {d:ByteArray} {k on w:Int} {xx:Bool} {c la n:Int} {pa:Option Addr} {pn pc:Nat} {ps:List Pr} (hI:bS B s) (hst:1≤st∧st≤2147483647) (hK:∀M mc,K (.tuple #[]) (bY x a (j7 ⟨11,st,e,d,k,on,w,xx,c,la,n,pa,pn,pc,ps⟩ s) M mc R)):aA Tryz.prog 171 #[.pointer (some ⟨x,0,none⟩),.agg #[.int .i64 11,.int .i64 st,.bool e,.string d,.int .i64 k,.int .i64 on,.int .i64 w,.bool xx,.int .i64 c,.int .i64 la,.int .i64 n,.slice pa pn pc]] (bY x a s M mc R) K:=by
 have htl:=hI.tr.len
 obtain⟨rk,hrk⟩:=hI.tr.rk
 unfold j7 at hK
 dsimp only at hK
 dsimp only[bY,pM]
 rw[if_neg (fun q:(11:Int)=3∧_=>absurd q.1 (by decide))] at hK
 cases hm:b7 st s.l with
 |none=>
  rw[hm] at hK
  refine aH Tryz.func171 ?_
  repeat' (first|refine Bf ?_|refine dw cG ?_|refine dw cH ?_|refine wr ?_|refine w5 ?_ ?_|((refine bh fun h=>?_) <;> try exact w6 h)|(refine aE fun hA=>?_;subst hA)|intro _|(show aA _ 192 _ _ _;refine CA (h:=mO (l:=s.l) hI.sm hm ?_)))
  all_goals(refine aC ?_;exact aB (hK _ _))
 |some m=>
  rw[hm] at hK
  dsimp only at hK
  obtain⟨hi,_⟩:=aZ hm
  rw[if_neg (by decide),if_neg (by decide)] at hK
  refine aH Tryz.func171 ?_
  repeat' (first|refine Bf ?_|refine dw cG ?_|refine dw cH ?_|refine wr ?_|refine w5 ?_ ?_|((refine bh fun h=>?_) <;> try exact w6 h)|(refine aE fun hA=>?_;subst hA)|intro _|(show aA _ 192 _ _ _;refine CA (h:=f7 (l:=s.l) hI.sm hm (fun _=>?_)))|(show aA _ 263 _ _ _;refine CA (h:=DW (x:=x) (a:=a) (s:=s) (M:=M) (mc:=mc) (m:=m) (t:=11) (ps:=ps) hI (by decide) hst hm (fun _ _=>?_))))
  all_goals(refine aC ?_;exact aB (hK _ _))
theorem gT (h:bS B s):bS B { s with bt:=bN s.bt s.now }:=
 { h with
   bt:=by
    have h1:=h.bt
    have h2:=h.now
    show(0≤(bN s.bt s.now).no∧(bN s.bt s.now).no≤B)∧(0≤(bN s.bt s.now).he∧(bN s.bt s.now).he≤B)∧(0≤(bN s.bt s.now).si∧(bN s.bt s.now).si≤B)∧0≤(bN s.bt s.now).nn∧(bN s.bt s.now).nn≤B
    unfold bN
    dsimp only
    omega }
theorem XM {d:ByteArray} (h:bS B s):bS B { s with bt:=kR s.bt s.now d }:=
 { h with
   bt:=by
    have h1:=h.bt
    have h2:=h.now
    show(0≤(kR s.bt s.now d).no∧(kR s.bt s.now d).no≤B)∧(0≤(kR s.bt s.now d).he∧(kR s.bt s.now d).he≤B)∧(0≤(kR s.bt s.now d).si∧(kR s.bt s.now d).si≤B)∧0≤(kR s.bt s.now d).nn∧(kR s.bt s.now d).nn≤B
    unfold kR
    split
    ·dsimp only;omega
    ·omega }
theorem Ag4 (h:bS B s):Ags s.bt:=by
 have h1:=h.bt
 have h2:=h.bb
 unfold Ags
 omega
theorem iW (hK:K (.bool (!vU s id)) (bY x a s M mc R)):aA Tryz.prog 169 #[.pointer (some ⟨x,0,none⟩),.int .i64 id] (bY x a s M mc R) K:=by
 dsimp only[bY,pM] at hK ⊢
 refine aH Tryz.func169 ?_
 repeat' (first|refine I1 ?_|refine wr ?_|refine w5 ?_ ?_|((refine bh fun h=>?_) <;> try exact w6 h)|(refine aE fun hA=>?_;subst hA)|intro _|(show aA _ 218 _ _ _;refine CA (h:=CG (sd:=s.sd) (nx:=s.nx) (la:=s.la) ?_)))
 all_goals(refine aC ?_;exact aB (hK))
theorem Cx (h:bS B s) (hB:B+300≤250000000) (hr:cX f):bS (B+300) (bQ f s):=by
 have hh:=gT h
 have hm:=hh.mono (B':=B+300) (by omega) hB
 unfold bQ fP
 split
 ·exact Ac0 hm
 ·split
  ·exact V4 hm
  ·split
   ·exact It hm
   ·split
    ·exact XM hm
    ·split
     ·exact YS hm
     ·split
      ·exact RP hh hB
      ·split
       ·exact WS hm
       ·split
        ·exact iM hm
        ·split
         ·rename_i ht
          exact ZU hh hB (hr.2.2.2.2.2.2.2.2.2.2.2.2.1 (by omega))
         ·exact Wr hm
end
section
variable {R C:List HP} {K:Value→List HP→Prop} {x mc i b p r:Nat} {a:Ca} {s:Cn} {M:Option Addr} {B B' id code:Int} {own:Bool} {m m':Sm} {f:Fm} {y:Ys} {l acc:List Sm} {cf:Cf} {h3:eE} {z:Yp}
def fA:List (Nat×Nat):= [(0,0),(1,0),(2,0),(3,0),(4,0),(5,0),(6,0),(7,0),(8,1)]
def eQ:List (Nat×Nat):= [(0,0),(1,0),(2,0),(3,0),(4,0),(5,0),(6,0),(7,0),(8,0),(9,0),(10,1)]
theorem MB {st:Int} {e:Bool} {d:ByteArray} {k on w:Int} {xx:Bool} {c la n:Int} {pa:Option Addr} {pn pc:Nat} {ps:List Pr} (hI:bS B s) (hB:B+300≤249000000) (hr:cX ⟨5,st,e,d,k,on,w,xx,c,la,n,pa,pn,pc,ps⟩) (hv:dL R pa rN ps) (hn:ps.length=pn) (hK:∀M mc,K (.tuple #[]) (bY x a (bQ ⟨5,st,e,d,k,on,w,xx,c,la,n,pa,pn,pc,ps⟩ s) M mc R)):aA Tryz.prog 77 #[.pointer (some ⟨x,0,none⟩),.agg #[.int .i64 5,.int .i64 st,.bool e,.string d,.int .i64 k,.int .i64 on,.int .i64 w,.bool xx,.int .i64 c,.int .i64 la,.int .i64 n,.slice pa pn pc]] (bY x a s M mc R) K:=by
 have hI1:=gT hI
 obtain⟨r1,r2,r3,r4,r5,r6,r7,r8,r9,r10,r11,r12,r13,r14,r15,r16,r17,r18,r19,r20,r21⟩:=hr
 dsimp only at r1 r2 r3 r4 r13 r15 r21
 have hps:pn≤1000000:=by omega
 unfold bQ fP at hK
 dsimp only at hK
 rw[if_pos rfl] at hK
 dsimp only[bY,pM]
 refine aH Tryz.func77 ?_
 repeat' (first|refine z8 ?_|refine dw fA ?_|refine dw eQ ?_|refine wr ?_|refine w5 ?_ ?_|((refine bh fun h=>?_) <;> try exact w6 h)|(refine aE fun hA=>?_;subst hA)|intro _|(show aA _ 161 _ _ _;refine CA (h:=dD (b:=s.bt) (now:=s.now) ?_))|(show aA _ 162 _ _ _;refine CA (h:=Vz (x:=x) (a:=a) (s:= { s with bt:=bN s.bt s.now }) (R:=R) (ps:=ps) hI1 hv hn hps (fun _ _=>?_))))
 all_goals(refine aC ?_;exact aB (hK _ _))
theorem MU {st:Int} {e:Bool} {d:ByteArray} {k on w:Int} {xx:Bool} {c la n:Int} {pa:Option Addr} {pn pc:Nat} {ps:List Pr} (hI:bS B s) (hB:B+300≤249000000) (hr:cX ⟨6,st,e,d,k,on,w,xx,c,la,n,pa,pn,pc,ps⟩) (hv:dL R pa rN ps) (hn:ps.length=pn) (hK:∀M mc,K (.tuple #[]) (bY x a (bQ ⟨6,st,e,d,k,on,w,xx,c,la,n,pa,pn,pc,ps⟩ s) M mc R)):aA Tryz.prog 77 #[.pointer (some ⟨x,0,none⟩),.agg #[.int .i64 6,.int .i64 st,.bool e,.string d,.int .i64 k,.int .i64 on,.int .i64 w,.bool xx,.int .i64 c,.int .i64 la,.int .i64 n,.slice pa pn pc]] (bY x a s M mc R) K:=by
 have hI1:=gT hI
 obtain⟨r1,r2,r3,r4,r5,r6,r7,r8,r9,r10,r11,r12,r13,r14,r15,r16,r17,r18,r19,r20,r21⟩:=hr
 dsimp only at r1 r2 r3 r4 r13 r15 r21
 have hps:pn≤1000000:=by omega
 unfold bQ fP at hK
 dsimp only at hK
 rw[if_neg (show ¬(6:Int)=5 by decide),if_pos rfl] at hK
 dsimp only[bY,pM]
 refine aH Tryz.func77 ?_
 repeat' (first|refine z8 ?_|refine dw fA ?_|refine dw eQ ?_|refine wr ?_|refine w5 ?_ ?_|((refine bh fun h=>?_) <;> try exact w6 h)|(refine aE fun hA=>?_;subst hA)|intro _|(show aA _ 161 _ _ _;refine CA (h:=dD (b:=s.bt) (now:=s.now) ?_))|(show aA _ 163 _ _ _;refine CA (h:=Sq (x:=x) (a:=a) (s:= { s with bt:=bN s.bt s.now }) hI1 (fun _ _=>?_))))
 all_goals(refine aC ?_;exact aB (hK _ _))
theorem LQ {st:Int} {e:Bool} {d:ByteArray} {k on w:Int} {xx:Bool} {c la n:Int} {pa:Option Addr} {pn pc:Nat} {ps:List Pr} (hI:bS B s) (hB:B+300≤249000000) (hr:cX ⟨7,st,e,d,k,on,w,xx,c,la,n,pa,pn,pc,ps⟩) (hv:dL R pa rN ps) (hn:ps.length=pn) (hK:∀M mc,K (.tuple #[]) (bY x a (bQ ⟨7,st,e,d,k,on,w,xx,c,la,n,pa,pn,pc,ps⟩ s) M mc R)):aA Tryz.prog 77 #[.pointer (some ⟨x,0,none⟩),.agg #[.int .i64 7,.int .i64 st,.bool e,.string d,.int .i64 k,.int .i64 on,.int .i64 w,.bool xx,.int .i64 c,.int .i64 la,.int .i64 n,.slice pa pn pc]] (bY x a s M mc R) K:=by
 have hI1:=gT hI
 obtain⟨r1,r2,r3,r4,r5,r6,r7,r8,r9,r10,r11,r12,r13,r14,r15,r16,r17,r18,r19,r20,r21⟩:=hr
 dsimp only at r1 r2 r3 r4 r13 r15 r21
 have hps:pn≤1000000:=by omega
 unfold bQ fP at hK
 dsimp only at hK
 rw[if_neg (show ¬(7:Int)=5 by decide),if_neg (show ¬(7:Int)=6 by decide),if_pos rfl] at hK
 dsimp only[bY,pM]
 refine aH Tryz.func77 ?_
 repeat' (first|refine z8 ?_|refine dw fA ?_|refine dw eQ ?_|refine wr ?_|refine w5 ?_ ?_|((refine bh fun h=>?_) <;> try exact w6 h)|(refine aE fun hA=>?_;subst hA)|intro _|(show aA _ 161 _ _ _;refine CA (h:=dD (b:=s.bt) (now:=s.now) ?_))|(show aA _ 164 _ _ _;refine CA (h:=Bc (x:=x) (a:=a) (s:= { s with bt:=bN s.bt s.now }) (f:=vW 8 0 d false) hI1 rfl rfl rfl (fun _ _=>?_))))
 all_goals(refine aC ?_;exact aB (hK _ _))
theorem Ma {st:Int} {e:Bool} {d:ByteArray} {k on w:Int} {xx:Bool} {c la n:Int} {pa:Option Addr} {pn pc:Nat} {ps:List Pr} (hI:bS B s) (hB:B+300≤249000000) (hr:cX ⟨8,st,e,d,k,on,w,xx,c,la,n,pa,pn,pc,ps⟩) (hv:dL R pa rN ps) (hn:ps.length=pn) (hK:∀M mc,K (.tuple #[]) (bY x a (bQ ⟨8,st,e,d,k,on,w,xx,c,la,n,pa,pn,pc,ps⟩ s) M mc R)):aA Tryz.prog 77 #[.pointer (some ⟨x,0,none⟩),.agg #[.int .i64 8,.int .i64 st,.bool e,.string d,.int .i64 k,.int .i64 on,.int .i64 w,.bool xx,.int .i64 c,.int .i64 la,.int .i64 n,.slice pa pn pc]] (bY x a s M mc R) K:=by
 have hI1:=gT hI
 obtain⟨r1,r2,r3,r4,r5,r6,r7,r8,r9,r10,r11,r12,r13,r14,r15,r16,r17,r18,r19,r20,r21⟩:=hr
 dsimp only at r1 r2 r3 r4 r13 r15 r21
 have hps:pn≤1000000:=by omega
 unfold bQ fP at hK
 dsimp only at hK
 rw[if_neg (show ¬(8:Int)=5 by decide),if_neg (show ¬(8:Int)=6 by decide),if_neg (show ¬(8:Int)=7 by decide),if_pos rfl] at hK
 dsimp only[bY,pM]
 refine aH Tryz.func77 ?_
 repeat' (first|refine z8 ?_|refine dw fA ?_|refine dw eQ ?_|refine wr ?_|refine w5 ?_ ?_|((refine bh fun h=>?_) <;> try exact w6 h)|(refine aE fun hA=>?_;subst hA)|intro _|(show aA _ 161 _ _ _;refine CA (h:=dD (b:=s.bt) (now:=s.now) ?_))|(show aA _ 165 _ _ _;refine CA (h:=Wn (b:=bN s.bt s.now) (Ag4 hI1) (fun _=>?_))))
 all_goals(refine aC ?_;exact aB (hK _ _))
theorem Mh {st:Int} {e:Bool} {d:ByteArray} {k on w:Int} {xx:Bool} {c la n:Int} {pa:Option Addr} {pn pc:Nat} {ps:List Pr} (hI:bS B s) (hB:B+300≤249000000) (hr:cX ⟨9,st,e,d,k,on,w,xx,c,la,n,pa,pn,pc,ps⟩) (hv:dL R pa rN ps) (hn:ps.length=pn) (hK:∀M mc,K (.tuple #[]) (bY x a (bQ ⟨9,st,e,d,k,on,w,xx,c,la,n,pa,pn,pc,ps⟩ s) M mc R)):aA Tryz.prog 77 #[.pointer (some ⟨x,0,none⟩),.agg #[.int .i64 9,.int .i64 st,.bool e,.string d,.int .i64 k,.int .i64 on,.int .i64 w,.bool xx,.int .i64 c,.int .i64 la,.int .i64 n,.slice pa pn pc]] (bY x a s M mc R) K:=by
 have hI1:=gT hI
 obtain⟨r1,r2,r3,r4,r5,r6,r7,r8,r9,r10,r11,r12,r13,r14,r15,r16,r17,r18,r19,r20,r21⟩:=hr
 dsimp only at r1 r2 r3 r4 r13 r15 r21
 have hps:pn≤1000000:=by omega
 unfold bQ fP at hK
 dsimp only at hK
 rw[if_neg (show ¬(9:Int)=5 by decide),if_neg (show ¬(9:Int)=6 by decide),if_neg (show ¬(9:Int)=7 by decide),if_neg (show ¬(9:Int)=8 by decide),if_pos rfl] at hK
 dsimp only[bY,pM]
 refine aH Tryz.func77 ?_
 repeat' (first|refine z8 ?_|refine dw fA ?_|refine dw eQ ?_|refine wr ?_|refine w5 ?_ ?_|((refine bh fun h=>?_) <;> try exact w6 h)|(refine aE fun hA=>?_;subst hA)|intro _|(show aA _ 161 _ _ _;refine CA (h:=dD (b:=s.bt) (now:=s.now) ?_))|(show aA _ 166 _ _ _;refine CA (h:=W9 (x:=x) (a:=a) (s:= { s with bt:=bN s.bt s.now }) (ps:=ps) hI1 (fun _ _=>?_))))
 all_goals(refine aC ?_;exact aB (hK _ _))
theorem ME {st:Int} {e:Bool} {d:ByteArray} {k on w:Int} {xx:Bool} {c la n:Int} {pa:Option Addr} {pn pc:Nat} {ps:List Pr} (hI:bS B s) (hB:B+300≤249000000) (hr:cX ⟨2,st,e,d,k,on,w,xx,c,la,n,pa,pn,pc,ps⟩) (hv:dL R pa rN ps) (hn:ps.length=pn) (hK:∀M mc,K (.tuple #[]) (bY x a (bQ ⟨2,st,e,d,k,on,w,xx,c,la,n,pa,pn,pc,ps⟩ s) M mc R)):aA Tryz.prog 77 #[.pointer (some ⟨x,0,none⟩),.agg #[.int .i64 2,.int .i64 st,.bool e,.string d,.int .i64 k,.int .i64 on,.int .i64 w,.bool xx,.int .i64 c,.int .i64 la,.int .i64 n,.slice pa pn pc]] (bY x a s M mc R) K:=by
 have hI1:=gT hI
 obtain⟨r1,r2,r3,r4,r5,r6,r7,r8,r9,r10,r11,r12,r13,r14,r15,r16,r17,r18,r19,r20,r21⟩:=hr
 dsimp only at r1 r2 r3 r4 r13 r15 r21
 have hps:pn≤1000000:=by omega
 unfold bQ fP at hK
 dsimp only at hK
 rw[if_neg (show ¬(2:Int)=5 by decide),if_neg (show ¬(2:Int)=6 by decide),if_neg (show ¬(2:Int)=7 by decide),if_neg (show ¬(2:Int)=8 by decide),if_neg (show ¬(2:Int)=9 by decide),if_pos rfl] at hK
 dsimp only[bY,pM]
 refine aH Tryz.func77 ?_
 repeat' (first|refine z8 ?_|refine dw fA ?_|refine dw eQ ?_|refine wr ?_|refine w5 ?_ ?_|((refine bh fun h=>?_) <;> try exact w6 h)|(refine aE fun hA=>?_;subst hA)|intro _|(show aA _ 161 _ _ _;refine CA (h:=dD (b:=s.bt) (now:=s.now) ?_))|(show aA _ 167 _ _ _;refine CA (h:=Pf (x:=x) (a:=a) (s:= { s with bt:=bN s.bt s.now }) (ps:=ps) hI1 (by omega) (r15 rfl) (by omega) (fun _ _=>?_))))
 all_goals(refine aC ?_;exact aB (hK _ _))
end
section
variable {R C:List HP} {K:Value→List HP→Prop} {x mc i b p r:Nat} {a:Ca} {s:Cn} {M:Option Addr} {B B' id code:Int} {own:Bool} {m m':Sm} {f:Fm} {y:Ys} {l acc:List Sm} {cf:Cf} {h3:eE} {z:Yp}
def bL:List (Nat×Nat):= [(0,0),(1,0),(2,0),(3,0),(4,0),(5,0),(6,0),(7,0),(8,1)]
def bK:List (Nat×Nat):= [(0,0),(1,0),(2,0),(3,0),(4,0),(5,0),(6,0),(7,0),(8,0),(9,0),(10,1)]
theorem MJ {st:Int} {e:Bool} {d:ByteArray} {k on w:Int} {xx:Bool} {c la n:Int} {pa:Option Addr} {pn pc:Nat} {ps:List Pr} (hI:bS B s) (hB:B+300≤249000000) (hr:cX ⟨0,st,e,d,k,on,w,xx,c,la,n,pa,pn,pc,ps⟩) (hv:dL R pa rN ps) (hn:ps.length=pn) (hK:∀M mc,K (.tuple #[]) (bY x a (bQ ⟨0,st,e,d,k,on,w,xx,c,la,n,pa,pn,pc,ps⟩ s) M mc R)):aA Tryz.prog 77 #[.pointer (some ⟨x,0,none⟩),.agg #[.int .i64 0,.int .i64 st,.bool e,.string d,.int .i64 k,.int .i64 on,.int .i64 w,.bool xx,.int .i64 c,.int .i64 la,.int .i64 n,.slice pa pn pc]] (bY x a s M mc R) K:=by
 have hI1:=gT hI
 obtain⟨r1,r2,r3,r4,r5,r6,r7,r8,r9,r10,r11,r12,r13,r14,r15,r16,r17,r18,r19,r20,r21⟩:=hr
 dsimp only at r1 r2 r3 r4 r13 r15 r21
 have hps:pn≤1000000:=by omega
 unfold bQ fP at hK
 dsimp only at hK
 rw[if_neg (show ¬(0:Int)=5 by decide),if_neg (show ¬(0:Int)=6 by decide),if_neg (show ¬(0:Int)=7 by decide),if_neg (show ¬(0:Int)=8 by decide),if_neg (show ¬(0:Int)=9 by decide),if_neg (show ¬(0:Int)=2 by decide)] at hK
 dsimp only[bY,pM]
 by_cases h0:st=0
 ·exfalso;omega
 ·rw[if_neg h0] at hK
  cases hp:vU { s with bt:=bN s.bt s.now } st
  ·rw[if_pos hp] at hK
   refine aH Tryz.func77 ?_
   repeat' (first|refine z8 ?_|refine dw bL ?_|refine dw bK ?_|refine wr ?_|refine w5 ?_ ?_|((refine bh fun h=>?_) <;> try exact w6 h)|(refine aE fun hA=>?_;subst hA)|intro _|(show aA _ 161 _ _ _;refine CA (h:=dD (b:=s.bt) (now:=s.now) ?_))|(show aA _ 169 _ _ _;refine CA (h:=iW (x:=x) (a:=a) (s:= { s with bt:=bN s.bt s.now }) (M:=M) (mc:=mc) ?_);rw[hp])|(show aA _ 79 _ _ _;refine CA (h:=dH (x:=x) (a:=a) (s:= { s with bt:=bN s.bt s.now }) hI1 (by decide) (by decide) (fun _ _=>?_))))
   all_goals(refine aC ?_;exact aB (hK _ _))
  ·rw[if_neg (by rw[hp];decide)] at hK
   rw[if_pos (by decide)] at hK
   refine aH Tryz.func77 ?_
   repeat' (first|refine z8 ?_|refine dw bL ?_|refine dw bK ?_|refine wr ?_|refine w5 ?_ ?_|((refine bh fun h=>?_) <;> try exact w6 h)|(refine aE fun hA=>?_;subst hA)|intro _|(show aA _ 161 _ _ _;refine CA (h:=dD (b:=s.bt) (now:=s.now) ?_))|(show aA _ 169 _ _ _;refine CA (h:=iW (x:=x) (a:=a) (s:= { s with bt:=bN s.bt s.now }) (M:=M) (mc:=mc) ?_);rw[hp])|(show aA _ 170 _ _ _;refine CA (h:=SA (x:=x) (a:=a) (s:= { s with bt:=bN s.bt s.now }) (ps:=ps) hI1 (by omega) (by omega) (r13 (by decide)) (fun _ _=>?_))))
   all_goals(refine aC ?_;exact aB (hK _ _))
theorem Mz {st:Int} {e:Bool} {d:ByteArray} {k on w:Int} {xx:Bool} {c la n:Int} {pa:Option Addr} {pn pc:Nat} {ps:List Pr} (hI:bS B s) (hB:B+300≤249000000) (hr:cX ⟨1,st,e,d,k,on,w,xx,c,la,n,pa,pn,pc,ps⟩) (hv:dL R pa rN ps) (hn:ps.length=pn) (hK:∀M mc,K (.tuple #[]) (bY x a (bQ ⟨1,st,e,d,k,on,w,xx,c,la,n,pa,pn,pc,ps⟩ s) M mc R)):aA Tryz.prog 77 #[.pointer (some ⟨x,0,none⟩),.agg #[.int .i64 1,.int .i64 st,.bool e,.string d,.int .i64 k,.int .i64 on,.int .i64 w,.bool xx,.int .i64 c,.int .i64 la,.int .i64 n,.slice pa pn pc]] (bY x a s M mc R) K:=by
 have hI1:=gT hI
 obtain⟨r1,r2,r3,r4,r5,r6,r7,r8,r9,r10,r11,r12,r13,r14,r15,r16,r17,r18,r19,r20,r21⟩:=hr
 dsimp only at r1 r2 r3 r4 r13 r15 r21
 have hps:pn≤1000000:=by omega
 unfold bQ fP at hK
 dsimp only at hK
 rw[if_neg (show ¬(1:Int)=5 by decide),if_neg (show ¬(1:Int)=6 by decide),if_neg (show ¬(1:Int)=7 by decide),if_neg (show ¬(1:Int)=8 by decide),if_neg (show ¬(1:Int)=9 by decide),if_neg (show ¬(1:Int)=2 by decide)] at hK
 dsimp only[bY,pM]
 by_cases h0:st=0
 ·exfalso;omega
 ·rw[if_neg h0] at hK
  cases hp:vU { s with bt:=bN s.bt s.now } st
  ·rw[if_pos hp] at hK
   refine aH Tryz.func77 ?_
   repeat' (first|refine z8 ?_|refine dw bL ?_|refine dw bK ?_|refine wr ?_|refine w5 ?_ ?_|((refine bh fun h=>?_) <;> try exact w6 h)|(refine aE fun hA=>?_;subst hA)|intro _|(show aA _ 161 _ _ _;refine CA (h:=dD (b:=s.bt) (now:=s.now) ?_))|(show aA _ 169 _ _ _;refine CA (h:=iW (x:=x) (a:=a) (s:= { s with bt:=bN s.bt s.now }) (M:=M) (mc:=mc) ?_);rw[hp])|(show aA _ 79 _ _ _;refine CA (h:=dH (x:=x) (a:=a) (s:= { s with bt:=bN s.bt s.now }) hI1 (by decide) (by decide) (fun _ _=>?_))))
   all_goals(refine aC ?_;exact aB (hK _ _))
  ·rw[if_neg (by rw[hp];decide)] at hK
   rw[if_pos (by decide)] at hK
   refine aH Tryz.func77 ?_
   repeat' (first|refine z8 ?_|refine dw bL ?_|refine dw bK ?_|refine wr ?_|refine w5 ?_ ?_|((refine bh fun h=>?_) <;> try exact w6 h)|(refine aE fun hA=>?_;subst hA)|intro _|(show aA _ 161 _ _ _;refine CA (h:=dD (b:=s.bt) (now:=s.now) ?_))|(show aA _ 169 _ _ _;refine CA (h:=iW (x:=x) (a:=a) (s:= { s with bt:=bN s.bt s.now }) (M:=M) (mc:=mc) ?_);rw[hp])|(show aA _ 170 _ _ _;refine CA (h:=Rb (x:=x) (a:=a) (s:= { s with bt:=bN s.bt s.now }) (ps:=ps) hI1 (by omega) (by omega) (r13 (by decide)) (fun _ _=>?_))))
   all_goals(refine aC ?_;exact aB (hK _ _))
theorem Ml {st:Int} {e:Bool} {d:ByteArray} {k on w:Int} {xx:Bool} {c la n:Int} {pa:Option Addr} {pn pc:Nat} {ps:List Pr} (hI:bS B s) (hB:B+300≤249000000) (hr:cX ⟨3,st,e,d,k,on,w,xx,c,la,n,pa,pn,pc,ps⟩) (hv:dL R pa rN ps) (hn:ps.length=pn) (hK:∀M mc,K (.tuple #[]) (bY x a (bQ ⟨3,st,e,d,k,on,w,xx,c,la,n,pa,pn,pc,ps⟩ s) M mc R)):aA Tryz.prog 77 #[.pointer (some ⟨x,0,none⟩),.agg #[.int .i64 3,.int .i64 st,.bool e,.string d,.int .i64 k,.int .i64 on,.int .i64 w,.bool xx,.int .i64 c,.int .i64 la,.int .i64 n,.slice pa pn pc]] (bY x a s M mc R) K:=by
 have hI1:=gT hI
 obtain⟨r1,r2,r3,r4,r5,r6,r7,r8,r9,r10,r11,r12,r13,r14,r15,r16,r17,r18,r19,r20,r21⟩:=hr
 dsimp only at r1 r2 r3 r4 r13 r15 r21
 have hps:pn≤1000000:=by omega
 unfold bQ fP at hK
 dsimp only at hK
 rw[if_neg (show ¬(3:Int)=5 by decide),if_neg (show ¬(3:Int)=6 by decide),if_neg (show ¬(3:Int)=7 by decide),if_neg (show ¬(3:Int)=8 by decide),if_neg (show ¬(3:Int)=9 by decide),if_neg (show ¬(3:Int)=2 by decide)] at hK
 dsimp only[bY,pM]
 by_cases h0:st=0
 ·exfalso;omega
 ·rw[if_neg h0] at hK
  cases hp:vU { s with bt:=bN s.bt s.now } st
  ·rw[if_pos hp] at hK
   refine aH Tryz.func77 ?_
   repeat' (first|refine z8 ?_|refine dw bL ?_|refine dw bK ?_|refine wr ?_|refine w5 ?_ ?_|((refine bh fun h=>?_) <;> try exact w6 h)|(refine aE fun hA=>?_;subst hA)|intro _|(show aA _ 161 _ _ _;refine CA (h:=dD (b:=s.bt) (now:=s.now) ?_))|(show aA _ 169 _ _ _;refine CA (h:=iW (x:=x) (a:=a) (s:= { s with bt:=bN s.bt s.now }) (M:=M) (mc:=mc) ?_);rw[hp])|(show aA _ 79 _ _ _;refine CA (h:=dH (x:=x) (a:=a) (s:= { s with bt:=bN s.bt s.now }) hI1 (by decide) (by decide) (fun _ _=>?_))))
   all_goals(refine aC ?_;exact aB (hK _ _))
  ·rw[if_neg (by rw[hp];decide)] at hK
   rw[if_neg (by decide)] at hK
   refine aH Tryz.func77 ?_
   repeat' (first|refine z8 ?_|refine dw bL ?_|refine dw bK ?_|refine wr ?_|refine w5 ?_ ?_|((refine bh fun h=>?_) <;> try exact w6 h)|(refine aE fun hA=>?_;subst hA)|intro _|(show aA _ 161 _ _ _;refine CA (h:=dD (b:=s.bt) (now:=s.now) ?_))|(show aA _ 169 _ _ _;refine CA (h:=iW (x:=x) (a:=a) (s:= { s with bt:=bN s.bt s.now }) (M:=M) (mc:=mc) ?_);rw[hp])|(show aA _ 171 _ _ _;refine CA (h:=NX (x:=x) (a:=a) (s:= { s with bt:=bN s.bt s.now }) (ps:=ps) hI1 (by omega) (fun _ _=>?_))))
   all_goals(refine aC ?_;exact aB (hK _ _))
theorem LP {st:Int} {e:Bool} {d:ByteArray} {k on w:Int} {xx:Bool} {c la n:Int} {pa:Option Addr} {pn pc:Nat} {ps:List Pr} (hI:bS B s) (hB:B+300≤249000000) (hr:cX ⟨4,st,e,d,k,on,w,xx,c,la,n,pa,pn,pc,ps⟩) (hv:dL R pa rN ps) (hn:ps.length=pn) (hK:∀M mc,K (.tuple #[]) (bY x a (bQ ⟨4,st,e,d,k,on,w,xx,c,la,n,pa,pn,pc,ps⟩ s) M mc R)):aA Tryz.prog 77 #[.pointer (some ⟨x,0,none⟩),.agg #[.int .i64 4,.int .i64 st,.bool e,.string d,.int .i64 k,.int .i64 on,.int .i64 w,.bool xx,.int .i64 c,.int .i64 la,.int .i64 n,.slice pa pn pc]] (bY x a s M mc R) K:=by
 have hI1:=gT hI
 obtain⟨r1,r2,r3,r4,r5,r6,r7,r8,r9,r10,r11,r12,r13,r14,r15,r16,r17,r18,r19,r20,r21⟩:=hr
 dsimp only at r1 r2 r3 r4 r13 r15 r21
 have hps:pn≤1000000:=by omega
 unfold bQ fP at hK
 dsimp only at hK
 rw[if_neg (show ¬(4:Int)=5 by decide),if_neg (show ¬(4:Int)=6 by decide),if_neg (show ¬(4:Int)=7 by decide),if_neg (show ¬(4:Int)=8 by decide),if_neg (show ¬(4:Int)=9 by decide),if_neg (show ¬(4:Int)=2 by decide)] at hK
 dsimp only[bY,pM]
 by_cases h0:st=0
 ·exfalso;omega
 ·rw[if_neg h0] at hK
  cases hp:vU { s with bt:=bN s.bt s.now } st
  ·rw[if_pos hp] at hK
   refine aH Tryz.func77 ?_
   repeat' (first|refine z8 ?_|refine dw bL ?_|refine dw bK ?_|refine wr ?_|refine w5 ?_ ?_|((refine bh fun h=>?_) <;> try exact w6 h)|(refine aE fun hA=>?_;subst hA)|intro _|(show aA _ 161 _ _ _;refine CA (h:=dD (b:=s.bt) (now:=s.now) ?_))|(show aA _ 169 _ _ _;refine CA (h:=iW (x:=x) (a:=a) (s:= { s with bt:=bN s.bt s.now }) (M:=M) (mc:=mc) ?_);rw[hp])|(show aA _ 79 _ _ _;refine CA (h:=dH (x:=x) (a:=a) (s:= { s with bt:=bN s.bt s.now }) hI1 (by decide) (by decide) (fun _ _=>?_))))
   all_goals(refine aC ?_;exact aB (hK _ _))
  ·rw[if_neg (by rw[hp];decide)] at hK
   rw[if_neg (by decide)] at hK
   refine aH Tryz.func77 ?_
   repeat' (first|refine z8 ?_|refine dw bL ?_|refine dw bK ?_|refine wr ?_|refine w5 ?_ ?_|((refine bh fun h=>?_) <;> try exact w6 h)|(refine aE fun hA=>?_;subst hA)|intro _|(show aA _ 161 _ _ _;refine CA (h:=dD (b:=s.bt) (now:=s.now) ?_))|(show aA _ 169 _ _ _;refine CA (h:=iW (x:=x) (a:=a) (s:= { s with bt:=bN s.bt s.now }) (M:=M) (mc:=mc) ?_);rw[hp])|(show aA _ 171 _ _ _;refine CA (h:=Oh (x:=x) (a:=a) (s:= { s with bt:=bN s.bt s.now }) (ps:=ps) hI1 (by omega) (fun _ _=>?_))))
   all_goals(refine aC ?_;exact aB (hK _ _))
theorem Jo {st:Int} {e:Bool} {d:ByteArray} {k on w:Int} {xx:Bool} {c la n:Int} {pa:Option Addr} {pn pc:Nat} {ps:List Pr} (hI:bS B s) (hB:B+300≤249000000) (hr:cX ⟨10,st,e,d,k,on,w,xx,c,la,n,pa,pn,pc,ps⟩) (hv:dL R pa rN ps) (hn:ps.length=pn) (hK:∀M mc,K (.tuple #[]) (bY x a (bQ ⟨10,st,e,d,k,on,w,xx,c,la,n,pa,pn,pc,ps⟩ s) M mc R)):aA Tryz.prog 77 #[.pointer (some ⟨x,0,none⟩),.agg #[.int .i64 10,.int .i64 st,.bool e,.string d,.int .i64 k,.int .i64 on,.int .i64 w,.bool xx,.int .i64 c,.int .i64 la,.int .i64 n,.slice pa pn pc]] (bY x a s M mc R) K:=by
 have hI1:=gT hI
 obtain⟨r1,r2,r3,r4,r5,r6,r7,r8,r9,r10,r11,r12,r13,r14,r15,r16,r17,r18,r19,r20,r21⟩:=hr
 dsimp only at r1 r2 r3 r4 r13 r15 r21
 have hps:pn≤1000000:=by omega
 unfold bQ fP at hK
 dsimp only at hK
 rw[if_neg (show ¬(10:Int)=5 by decide),if_neg (show ¬(10:Int)=6 by decide),if_neg (show ¬(10:Int)=7 by decide),if_neg (show ¬(10:Int)=8 by decide),if_neg (show ¬(10:Int)=9 by decide),if_neg (show ¬(10:Int)=2 by decide)] at hK
 dsimp only[bY,pM]
 by_cases h0:st=0
 ·subst h0
  rw[if_pos rfl] at hK
  refine aH Tryz.func77 ?_
  repeat' (first|refine z8 ?_|refine dw bL ?_|refine dw bK ?_|refine wr ?_|refine w5 ?_ ?_|((refine bh fun h=>?_) <;> try exact w6 h)|(refine aE fun hA=>?_;subst hA)|intro _|(show aA _ 161 _ _ _;refine CA (h:=dD (b:=s.bt) (now:=s.now) ?_))|(show aA _ 168 _ _ _;refine CA (h:=Hk (x:=x) (a:=a) (s:= { s with bt:=bN s.bt s.now }) (ps:=ps) hI1 (fun _ _=>?_))))
  all_goals(refine aC ?_;exact aB (hK _ _))
 ·rw[if_neg h0] at hK
  cases hp:vU { s with bt:=bN s.bt s.now } st
  ·rw[if_pos hp] at hK
   refine aH Tryz.func77 ?_
   repeat' (first|refine z8 ?_|refine dw bL ?_|refine dw bK ?_|refine wr ?_|refine w5 ?_ ?_|((refine bh fun h=>?_) <;> try exact w6 h)|(refine aE fun hA=>?_;subst hA)|intro _|(show aA _ 161 _ _ _;refine CA (h:=dD (b:=s.bt) (now:=s.now) ?_))|(show aA _ 169 _ _ _;refine CA (h:=iW (x:=x) (a:=a) (s:= { s with bt:=bN s.bt s.now }) (M:=M) (mc:=mc) ?_);rw[hp])|(show aA _ 79 _ _ _;refine CA (h:=dH (x:=x) (a:=a) (s:= { s with bt:=bN s.bt s.now }) hI1 (by decide) (by decide) (fun _ _=>?_))))
   all_goals(refine aC ?_;exact aB (hK _ _))
  ·rw[if_neg (by rw[hp];decide)] at hK
   rw[if_neg (by decide)] at hK
   refine aH Tryz.func77 ?_
   repeat' (first|refine z8 ?_|refine dw bL ?_|refine dw bK ?_|refine wr ?_|refine w5 ?_ ?_|((refine bh fun h=>?_) <;> try exact w6 h)|(refine aE fun hA=>?_;subst hA)|intro _|(show aA _ 161 _ _ _;refine CA (h:=dD (b:=s.bt) (now:=s.now) ?_))|(show aA _ 169 _ _ _;refine CA (h:=iW (x:=x) (a:=a) (s:= { s with bt:=bN s.bt s.now }) (M:=M) (mc:=mc) ?_);rw[hp])|(show aA _ 171 _ _ _;refine CA (h:=LO (x:=x) (a:=a) (s:= { s with bt:=bN s.bt s.now }) (ps:=ps) hI1 (by omega) (fun _ _=>?_))))
   all_goals(refine aC ?_;exact aB (hK _ _))
theorem Jf {st:Int} {e:Bool} {d:ByteArray} {k on w:Int} {xx:Bool} {c la n:Int} {pa:Option Addr} {pn pc:Nat} {ps:List Pr} (hI:bS B s) (hB:B+300≤249000000) (hr:cX ⟨11,st,e,d,k,on,w,xx,c,la,n,pa,pn,pc,ps⟩) (hv:dL R pa rN ps) (hn:ps.length=pn) (hK:∀M mc,K (.tuple #[]) (bY x a (bQ ⟨11,st,e,d,k,on,w,xx,c,la,n,pa,pn,pc,ps⟩ s) M mc R)):aA Tryz.prog 77 #[.pointer (some ⟨x,0,none⟩),.agg #[.int .i64 11,.int .i64 st,.bool e,.string d,.int .i64 k,.int .i64 on,.int .i64 w,.bool xx,.int .i64 c,.int .i64 la,.int .i64 n,.slice pa pn pc]] (bY x a s M mc R) K:=by
 have hI1:=gT hI
 obtain⟨r1,r2,r3,r4,r5,r6,r7,r8,r9,r10,r11,r12,r13,r14,r15,r16,r17,r18,r19,r20,r21⟩:=hr
 dsimp only at r1 r2 r3 r4 r13 r15 r21
 have hps:pn≤1000000:=by omega
 unfold bQ fP at hK
 dsimp only at hK
 rw[if_neg (show ¬(11:Int)=5 by decide),if_neg (show ¬(11:Int)=6 by decide),if_neg (show ¬(11:Int)=7 by decide),if_neg (show ¬(11:Int)=8 by decide),if_neg (show ¬(11:Int)=9 by decide),if_neg (show ¬(11:Int)=2 by decide)] at hK
 dsimp only[bY,pM]
 by_cases h0:st=0
 ·subst h0
  rw[if_pos rfl] at hK
  refine aH Tryz.func77 ?_
  repeat' (first|refine z8 ?_|refine dw bL ?_|refine dw bK ?_|refine wr ?_|refine w5 ?_ ?_|((refine bh fun h=>?_) <;> try exact w6 h)|(refine aE fun hA=>?_;subst hA)|intro _|(show aA _ 161 _ _ _;refine CA (h:=dD (b:=s.bt) (now:=s.now) ?_))|(show aA _ 168 _ _ _;refine CA (h:=Hk (x:=x) (a:=a) (s:= { s with bt:=bN s.bt s.now }) (ps:=ps) hI1 (fun _ _=>?_))))
  all_goals(refine aC ?_;exact aB (hK _ _))
 ·rw[if_neg h0] at hK
  cases hp:vU { s with bt:=bN s.bt s.now } st
  ·rw[if_pos hp] at hK
   refine aH Tryz.func77 ?_
   repeat' (first|refine z8 ?_|refine dw bL ?_|refine dw bK ?_|refine wr ?_|refine w5 ?_ ?_|((refine bh fun h=>?_) <;> try exact w6 h)|(refine aE fun hA=>?_;subst hA)|intro _|(show aA _ 161 _ _ _;refine CA (h:=dD (b:=s.bt) (now:=s.now) ?_))|(show aA _ 169 _ _ _;refine CA (h:=iW (x:=x) (a:=a) (s:= { s with bt:=bN s.bt s.now }) (M:=M) (mc:=mc) ?_);rw[hp])|(show aA _ 79 _ _ _;refine CA (h:=dH (x:=x) (a:=a) (s:= { s with bt:=bN s.bt s.now }) hI1 (by decide) (by decide) (fun _ _=>?_))))
   all_goals(refine aC ?_;exact aB (hK _ _))
  ·rw[if_neg (by rw[hp];decide)] at hK
   rw[if_neg (by decide)] at hK
   refine aH Tryz.func77 ?_
   repeat' (first|refine z8 ?_|refine dw bL ?_|refine dw bK ?_|refine wr ?_|refine w5 ?_ ?_|((refine bh fun h=>?_) <;> try exact w6 h)|(refine aE fun hA=>?_;subst hA)|intro _|(show aA _ 161 _ _ _;refine CA (h:=dD (b:=s.bt) (now:=s.now) ?_))|(show aA _ 169 _ _ _;refine CA (h:=iW (x:=x) (a:=a) (s:= { s with bt:=bN s.bt s.now }) (M:=M) (mc:=mc) ?_);rw[hp])|(show aA _ 171 _ _ _;refine CA (h:=Mr (x:=x) (a:=a) (s:= { s with bt:=bN s.bt s.now }) (ps:=ps) hI1 (by omega) (fun _ _=>?_))))
   all_goals(refine aC ?_;exact aB (hK _ _))
end
end Go.Proofs.YtifgibijcmppmaaGreat
