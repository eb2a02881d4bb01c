/- The document's endpoint: its streams, found, taken out, set: lemmas; each with the conditions that it states. -/
import Derived.Test.YtffnpejdkkohcaaGreatBag
import Derived.Test.YtffnpejdkkohcaaGreatCR0
import Derived.Test.YtffnpejdkkohcaaGreatQx
namespace Go.Proofs.YtffnpejdkkohcaaGreat
open Go Go.Proofs Go.Sl
set_option maxRecDepth 100000
set_option maxHeartbeats 40000000
set_option linter.unusedSimpArgs false
set_option linter.unusedVariables false
attribute [local irreducible] aM eY cU bQ aL aW aA dS dT aZ dR pt ro fN star sep bH
variable {R C:List HP} {K:Value→List HP→Prop} {p c rv wc oc i:Nat} {A W O:Option Addr} {x:Rc} {s s':Rs} {id:Int}
theorem rs_set_eq {l:List Rs} (hp:l.Pairwise fun a b=>a.id<b.id) (h:l[i]?=some s) (he:s'.id=s.id):(l.map fun z=>if z.id=s'.id then s' else z)=l.set i s':=by
 rw[he]
 induction l generalizing i with
 |nil=>cases h
 |cons y l ih=>
  obtain⟨p1,p2⟩:=List.pairwise_cons.1 hp
  cases i with
  |zero=>
   have e:y=s:=by simpa using h
   subst e
   rw[List.map_cons,if_pos rfl,List.set_cons_zero]
   congr 1
   exact(List.map_congr_left fun z hz=>by have:=p1 z hz;rw[if_neg (by omega)]).trans (List.map_id' l)
  |succ i=>
   have h:l[i]?=some s:=by simpa using h
   have:=p1 s (List.mem_of_getElem? h)
   rw[List.map_cons,if_neg (by omega),List.set_cons_succ,ih p2 h]
theorem rq_at {l:List Rs} {j:Nat} (h:j<l.length):∃z,l[j]?=some z∧(l.map rqe)[j]?=some (rqe z)∧(l.map rqe)[((j:Nat):Int).toNat]?=some (rqe z):=by
 have h1:l[j]?=some l[j]:=List.getElem?_eq_getElem h
 have h2:(l.map rqe)[j]?=some (rqe l[j]):=by rw[List.getElem?_map,h1];rfl
 exact⟨_,h1,h2,by rw[Int.toNat_natCast];exact h2⟩
theorem rcfindN_ok (hl:x.l.length≤64) (hn:∀z∈x.l,z.id≠id) (hK:K (.int .i64 (-1)) (rcX p A c rv W wc O oc x R)):aA Tryz.prog 104 #[.pointer (some ⟨p,0,none⟩),.int .i64 id] (rcX p A c rv W wc O oc x R) K:=by
 have hlen:(x.l.map rqe).length=x.l.length:=List.length_map ..
 dsimp only[rcX]
 refine aJ Tryz.func104 ?_
 repeat' (first|refine v29 ?_|refine w5 ?_ ?_|((refine bh fun h=>?_) <;> try exact w6 h)|(refine aF fun hA=>?_;subst hA)|intro _)
 refine iH (fun m a C'=>∃j:Nat,j+m=x.l.length∧cW a [(0,.pointer (some ⟨p,0,none⟩)),(1,.int .i64 id),(5,.int .i64 j)]∧C'=rcX p A c rv W wc O oc x R) x.l.length (cG x.l.length ⟨0,by omega,⟨rfl,rfl,rfl,trivial⟩,rfl⟩ (by omega)) ?_
 rintro m a C' ⟨j,hj,ha,rfl⟩
 dsimp only[rcX]
 refine gJ _ ha ?_
 simp only[fF]
 by_cases hlt:j<x.l.length
 ·obtain⟨z,hz1,hz2,hz3⟩:=rq_at hlt
  have hne:=hn z (List.mem_of_getElem? hz1)
  have hne2:(rqe z).id≠id:=hne
  repeat' (first|refine v29 ?_|refine w5 ?_ ?_|((refine bh fun h=>?_) <;> try exact w6 h)|(refine aF fun hA=>?_;subst hA)|intro _)
  all_goals(show aZ _ _ _ _;exact cG (m - 1) ⟨j+1,by omega,⟨rfl,rfl,rfl,trivial⟩,rfl⟩)
 ·repeat' (first|refine v29 ?_|refine w5 ?_ ?_|((refine bh fun h=>?_) <;> try exact w6 h)|(refine aF fun hA=>?_;subst hA)|intro _)
  all_goals(refine aC ?_;exact aB (hK))
theorem rcfindY_ok (hl:x.l.length≤64) (hi:x.l[i]?=some s) (he:s.id=id) (hu:∀(j:Nat) (z:Rs),j<i→x.l[j]?=some z→z.id≠id) (hK:K (.int .i64 ((i:Nat):Int)) (rcX p A c rv W wc O oc x R)):aA Tryz.prog 104 #[.pointer (some ⟨p,0,none⟩),.int .i64 id] (rcX p A c rv W wc O oc x R) K:=by
 have hlen:(x.l.map rqe).length=x.l.length:=List.length_map ..
 have hil:=(List.getElem?_eq_some_iff.1 hi).1
 dsimp only[rcX]
 refine aJ Tryz.func104 ?_
 repeat' (first|refine v29 ?_|refine w5 ?_ ?_|((refine bh fun h=>?_) <;> try exact w6 h)|(refine aF fun hA=>?_;subst hA)|intro _)
 refine iH (fun m a C'=>∃j:Nat,j+m=x.l.length∧j≤i∧cW a [(0,.pointer (some ⟨p,0,none⟩)),(1,.int .i64 id),(5,.int .i64 j)]∧C'=rcX p A c rv W wc O oc x R) x.l.length (cG x.l.length ⟨0,by omega,by omega,⟨rfl,rfl,rfl,trivial⟩,rfl⟩ (by omega)) ?_
 rintro m a C' ⟨j,hj,hji,ha,rfl⟩
 dsimp only[rcX]
 refine gJ _ ha ?_
 simp only[fF]
 obtain⟨z,hz1,hz2,hz3⟩:=rq_at (l:=x.l) (j:=j) (by omega)
 by_cases hlt:j<i
 ·have hne:=hu j z hlt hz1
  have hne2:(rqe z).id≠id:=hne
  repeat' (first|refine v29 ?_|refine w5 ?_ ?_|((refine bh fun h=>?_) <;> try exact w6 h)|(refine aF fun hA=>?_;subst hA)|intro _)
  all_goals(show aZ _ _ _ _;exact cG (m - 1) ⟨j+1,by omega,by omega,⟨rfl,rfl,rfl,trivial⟩,rfl⟩)
 ·have hji2:j=i:=by omega
  subst hji2
  have hzs:z=s:=Option.some.inj (hz1.symm.trans hi)
  subst hzs
  have he2:(rqe z).id=id:=he
  repeat' (first|refine v29 ?_|refine w5 ?_ ?_|((refine bh fun h=>?_) <;> try exact w6 h)|(refine aF fun hA=>?_;subst hA)|intro _)
  all_goals(refine aC ?_;exact aB (hK))
theorem rcdel_ok (hl:x.l.length≤64) (hK:∀A' c',K (.tuple #[]) (rcX p A' c' rv W wc O oc (Ale id x) R)):aA Tryz.prog 179 #[.pointer (some ⟨p,0,none⟩),.int .i64 id] (rcX p A c rv W wc O oc x R) K:=by
 have hlen:(x.l.map rqe).length=x.l.length:=List.length_map ..
 dsimp only[rcX,Ale] at hK ⊢
 refine aJ Tryz.func179 ?_
 repeat' (first|refine v70 ?_|refine w5 ?_ ?_|((refine bh fun h=>?_) <;> try exact w6 h)|(refine aF fun hA=>?_;subst hA)|intro _)
 refine iH (fun m a C'=>∃(j:Nat) (A':Option Addr) (c':Nat) (w:List Rqq0),j+m=x.l.length∧w=((x.l.take j).filter fun s=>decide (s.id≠id)).map rqe∧cW a [(0,.pointer (some ⟨p,0,none⟩)),(1,.int .i64 id),(4,.slice A' w.length c'),(5,.int .i64 j)]∧C'=bU A' c' 51 rqC w::rcX p A c rv W wc O oc x R) x.l.length (cG x.l.length ⟨0,none,0,[],by omega,rfl,⟨rfl,rfl,rfl,rfl,trivial⟩,rfl⟩ (by omega)) ?_
 rintro m a C' ⟨j,A',c',w,hj,hw,ha,rfl⟩
 dsimp only[rcX]
 refine gJ _ ha ?_
 simp only[fF]
 have hwl:w.length≤64:=by
  have h1:=List.length_filter_le (fun s:Rs=>decide (s.id≠id)) (x.l.take j)
  have h2:=List.length_take_le j x.l
  rw[hw,List.length_map];omega
 by_cases hlt:j<x.l.length
 ·obtain⟨z,hz1,hz2,hz3⟩:=rq_at hlt
  by_cases hne:z.id=id
  ·have hne2:(rqe z).id=id:=hne
   have hw2:w=((x.l.take (j+1)).filter fun s=>decide (s.id≠id)).map rqe:=by
    rw[List.take_add_one,hz1,List.filter_append,hw]
    simp[hne]
   repeat' (first|refine v70 ?_|refine w5 ?_ ?_|((refine bh fun h=>?_) <;> try exact w6 h)|(refine aF fun hA=>?_;subst hA)|intro _)
   all_goals(show aZ _ _ _ _;exact cG (m - 1) ⟨j+1,_,_,w,by omega,hw2,⟨rfl,rfl,rfl,rfl,trivial⟩,rfl⟩)
  ·have hne2:(rqe z).id≠id:=hne
   have hw2:w++ [rqe z]=((x.l.take (j+1)).filter fun s=>decide (s.id≠id)).map rqe:=by
    rw[List.take_add_one,hz1,List.filter_append,hw]
    simp[hne]
   repeat' (first|(show aM _ _ _ _ _ _ _;refine mD ?_;intro _ _)|refine v70 ?_|refine w5 ?_ ?_|((refine bh fun h=>?_) <;> try exact w6 h)|(refine aF fun hA=>?_;subst hA)|intro _)
   all_goals(show aZ _ _ _ _;exact cG (m - 1) ⟨j+1,_,_,w++ [rqe z],by omega,hw2,⟨rfl,rfl,rfl,rfl,trivial⟩,rfl⟩)
 ·rw[List.take_of_length_le (by omega)] at hw
  subst hw
  repeat' (first|refine v70 ?_|refine w5 ?_ ?_|((refine bh fun h=>?_) <;> try exact w6 h)|(refine aF fun hA=>?_;subst hA)|intro _)
  all_goals(refine aC ?_;exact aB (hK _ _))
def d106_2_0_rcset_ok:List (Nat×Nat):= [(1,0),(2,0),(3,0),(4,1),(0,1),(5,1),(6,0),(7,1)]
theorem rcset_ok (hl:x.l.length≤64) (hp:x.l.Pairwise fun a b=>a.id<b.id) (hm:∃z∈x.l,z.id=s.id) (hK:∀A' c',K (.tuple #[]) (rcX p A' c' rv W wc O oc (Ahr s x) R)):aA Tryz.prog 106 #[.pointer (some ⟨p,0,none⟩),.agg #[.int .i64 s.id,.int .i64 s.k,.pointer (some ⟨s.p,0,none⟩),.bool s.en,.int .i64 s.n]] (rcX p A c rv W wc O oc x R) K:=by
 have hlen:(x.l.map rqe).length=x.l.length:=List.length_map ..
 cases hs:zR s.id x.l with
 |none=>
  obtain⟨z,hz1,hz2⟩:=hm
  exact absurd hz2 (rs_at.2 hs z hz1)
 |some y=>
  obtain⟨i,h1,h2,h3⟩:=rs_at.1 y hs
  have hil:=(List.getElem?_eq_some_iff.1 h1).1
  obtain⟨z,hz1,hz2,hz3⟩:=rq_at hil
  have e:(Ahr s x).l.map rqe=(x.l.map rqe).set i (rqe s):=by
   show(x.l.map fun z=>if z.id=s.id then s else z).map rqe=_
   rw[rs_set_eq hp h1 h2.symm,List.map_set]
  dsimp only[rcX] at hK ⊢
  rw[e,List.length_set] at hK
  dsimp only[Ahr] at hK
  refine aJ Tryz.func106 ?_
  repeat' (first|(show aM _ _ _ _ _ _ _;first|refine tN ?_|(refine Ajs ?_;intro _ _)|(refine Acv ?_;intro _))|refine v54 ?_|refine dw d106_2_0_rcset_ok ?_|refine w5 ?_ ?_|((refine bh fun h=>?_) <;> try exact w6 h)|(refine aF fun hA=>?_;subst hA)|intro _|(show aA _ 104 _ _ _;refine CA (h:=rcfindY_ok (x:=x) hl h1 h2 h3 ?_)))
  all_goals(refine aC ?_;exact aB (hK _ _))
end Go.Proofs.YtffnpejdkkohcaaGreat
