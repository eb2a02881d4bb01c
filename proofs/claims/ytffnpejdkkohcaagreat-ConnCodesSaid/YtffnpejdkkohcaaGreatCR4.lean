/- The document's endpoint: settings that come: lemmas; each with the conditions that it states. -/
import Derived.Test.YtffnpejdkkohcaaGreatBag
import Derived.Test.YtffnpejdkkohcaaGreatCR2
import Derived.Test.YtffnpejdkkohcaaGreatQx
namespace Go.Proofs.YtffnpejdkkohcaaGreat
open Go Go.Proofs Go.Sl
set_option maxRecDepth 100000
set_option maxHeartbeats 40000000
set_option linter.unusedSimpArgs false
set_option linter.unusedVariables false
attribute [local irreducible] aM eY cU bQ aL aW aA dS dT aZ dR pt ro fN star sep bH
attribute [local irreducible] mp FV
variable {R C:List HP} {K:Value→List HP→Prop} {p c rv wc oc i:Nat} {A W O:Option Addr} {x:Rc} {s s':Rs} {id:Int} {f:Fm}
theorem r16apply_ok {s t:dI} {A:Option Addr} {n c:Nat} {ps:List Pr} (hv:dE R A oG ps) (hn:ps.length=n) (hs:n≤1000000) (ht:Qg s ps=some t) (hK:K (.tuple #[.agg #[.int .i64 t.w,.int .i64 t.st,.int .i64 t.it],.int .i64 0]) R):aA Tryz.prog 100 #[.agg #[.int .i64 s.w,.int .i64 s.st,.int .i64 s.it],.slice A n c] R K:=by
 subst hn
 refine aJ Tryz.func100 ?_
 repeat' (first|refine TJ ?_|refine w5 ?_ ?_|((refine bh fun h=>?_) <;> try exact w6 h)|(refine aF fun hA=>?_;subst hA)|intro _)
 rename_i r2 r4
 refine iH (fun kk a C'=>∃(j:Nat) (z:dI),j+kk=ps.length∧Qg z (ps.drop j)=some t∧cW a [(1,.slice A ps.length c),(2,.pointer (some ⟨r2,0,none⟩)),(4,.pointer (some ⟨r4,0,none⟩)),(6,.int .i64 j)]∧C'=pt r4 [.int .i64 0,.int .i64 0,.int .i64 0] 23::pt r2 [.int .i64 z.w,.int .i64 z.st,.int .i64 z.it] 23::R) ps.length (cG ps.length ⟨0,s,by omega,ht,⟨rfl,rfl,rfl,rfl,trivial⟩,rfl⟩ (by omega)) ?_
 rintro kk a C' ⟨j,z,hj,hap,ha,rfl⟩
 have hv':dE (pt r4 [.int .i64 0,.int .i64 0,.int .i64 0] 23::pt r2 [.int .i64 z.w,.int .i64 z.st,.int .i64 z.it] 23::R) A oG ps:=bF (bF hv)
 refine gJ _ ha ?_
 simp only[fF]
 by_cases hlt:j<ps.length
 ·obtain⟨p,hp⟩:∃p,ps[j]?=some p:=⟨_,List.getElem?_eq_getElem hlt⟩
  rw[Aig hp] at hap
  by_cases hw:0≤p.v∧p.v≤2147483647
  ·rw[if_pos hw] at hap
   obtain⟨hw1,hw2⟩:=hw
   by_cases h1:p.i=1
   ·have e:Nb z p=⟨p.v,z.st,z.it⟩:=by unfold Nb;rw[if_pos h1]
    rw[e] at hap
    repeat' (first|(show aM _ _ _ _ _ _ _;refine wT ?_ (hv:=hv');intro _ _ hA;subst hA)|refine TJ ?_|refine w5 ?_ ?_|((refine bh fun h=>?_) <;> try exact w6 h)|(refine aF fun hA=>?_;subst hA)|intro _)
    all_goals(show aZ _ _ _ _;exact cG (kk - 1) ⟨j+1,_,by omega,hap,⟨rfl,rfl,rfl,rfl,trivial⟩,rfl⟩)
   ·by_cases h2:p.i=2
    ·have e:Nb z p=⟨z.w,p.v,z.it⟩:=by unfold Nb;rw[if_neg h1,if_pos h2]
     rw[e] at hap
     repeat' (first|(show aM _ _ _ _ _ _ _;refine wT ?_ (hv:=hv');intro _ _ hA;subst hA)|refine TJ ?_|refine w5 ?_ ?_|((refine bh fun h=>?_) <;> try exact w6 h)|(refine aF fun hA=>?_;subst hA)|intro _)
     all_goals(show aZ _ _ _ _;exact cG (kk - 1) ⟨j+1,_,by omega,hap,⟨rfl,rfl,rfl,rfl,trivial⟩,rfl⟩)
    ·by_cases h3:p.i=3
     ·have e:Nb z p=⟨z.w,z.st,p.v⟩:=by unfold Nb;rw[if_neg h1,if_neg h2,if_pos h3]
      rw[e] at hap
      repeat' (first|(show aM _ _ _ _ _ _ _;refine wT ?_ (hv:=hv');intro _ _ hA;subst hA)|refine TJ ?_|refine w5 ?_ ?_|((refine bh fun h=>?_) <;> try exact w6 h)|(refine aF fun hA=>?_;subst hA)|intro _)
      all_goals(show aZ _ _ _ _;exact cG (kk - 1) ⟨j+1,_,by omega,hap,⟨rfl,rfl,rfl,rfl,trivial⟩,rfl⟩)
     ·have e:Nb z p=z:=by unfold Nb;rw[if_neg h1,if_neg h2,if_neg h3]
      rw[e] at hap
      repeat' (first|(show aM _ _ _ _ _ _ _;refine wT ?_ (hv:=hv');intro _ _ hA;subst hA)|refine TJ ?_|refine w5 ?_ ?_|((refine bh fun h=>?_) <;> try exact w6 h)|(refine aF fun hA=>?_;subst hA)|intro _)
      all_goals(show aZ _ _ _ _;exact cG (kk - 1) ⟨j+1,_,by omega,hap,⟨rfl,rfl,rfl,rfl,trivial⟩,rfl⟩)
  ·rw[if_neg hw] at hap
   cases hap
 ·have hjl:j=ps.length:=by omega
  rw[List.drop_eq_nil_of_le (by omega)] at hap
  cases hap
  repeat' (first|refine TJ ?_|refine w5 ?_ ?_|((refine bh fun h=>?_) <;> try exact w6 h)|(refine aF fun hA=>?_;subst hA)|intro _)
  all_goals(refine aC ?_;exact aB (hK))
theorem res_star {a b:Int} {l:List Rs}:eC rsP (l.map (wW a b))=eC rsP l:=by
 unfold eC
 rw[List.map_map]
 congr 1
 refine List.map_congr_left fun z _=>?_
 show rsP (wW a b z)=rsP z
 unfold wW
 split <;> rfl
def d46_1_0_rcsets_ok:Tr:=(.br (.st 0 1 (.st 1 1 (.st 2 1 (.st 3 1 (.st 4 1 (.st 5 1 (.st 6 2 (.st 10 2 (.st 7 1 (.st 8 1 (.st 11 1 (.st 9 2 (.st 12 0 .nil))))))))))))) (.st 10 2 (.st 0 1 (.st 1 1 (.st 2 1 (.st 3 1 (.st 4 1 (.st 5 1 (.st 6 2 (.st 7 1 (.st 8 1 (.st 11 1 (.st 9 2 (.st 12 0 .nil))))))))))))))
def d46_7_0_rcsets_ok:List (Nat×Nat):= [(0,0),(1,0),(2,0),(3,0),(4,0),(5,0),(6,0),(7,0),(8,0),(9,1),(10,0),(11,0),(12,0),(13,0),(14,0)]
theorem rcsets_ok {t:dI} (hl:x.l.length≤64) (ho:x.o.length≤64) (hv:dE R f.pa oG f.ps) (hpn:f.ps.length=f.pn) (I8:f.pn≤1000000) (hn:∀s∈x.l,-2147483647≤s.n∧s.n≤2147483647) (hpe:0≤x.pe.w∧x.pe.w≤2147483647) (ht:Qg x.pe f.ps=some t) (htw:0≤t.w∧t.w≤2147483647) (hK:∀A c O oc,K (.tuple #[]) (rcL p A c rv W wc O oc (Ri f x) R)):aA Tryz.prog 46 #[.pointer (some ⟨p,0,none⟩),.agg #[.int .i64 f.t,.int .i64 f.st,.bool f.e,.string f.d,.int .i64 f.k,.int .i64 f.on,.int .i64 f.w,.bool f.x,.int .i64 f.c,.int .i64 f.la,.int .i64 f.n,.slice f.pa f.pn f.pc]] (rcL p A c rv W wc O oc x R) K:=by
 have hlen:(x.l.map rqe).length=x.l.length:=List.length_map ..
 have e0:Ri f x=if(∃s∈x.l,s.k=1∧gR s.n x.pe.w t.w≠0) then rK 3 x else AN 6 { x with l:=x.l.map (wW x.pe.w t.w),pe:=t }:=by unfold Ri;rw[ht]
 rw[e0] at hK
 dsimp only[rcL,rcX]
 refine aJ Tryz.func46 ?_
 repeat' (first|refine Uk ?_|refine Hq d46_1_0_rcsets_ok ?_|refine dw d46_7_0_rcsets_ok ?_|refine w5 ?_ ?_|((refine bh fun h=>?_) <;> try exact w6 h)|(refine aF fun hA=>?_;subst hA)|intro _|(show aA _ 100 _ _ _;first|refine CA (h:=r16apply_ok (A:=f.pa) (ps:=f.ps) (s:=x.pe) (bF (bF (bF (bF (bF (bF (bF (bF hv)))))))) hpn I8 ht ?_)|refine CA (h:=r16apply_ok (A:=f.pa) (ps:=f.ps) (s:=x.pe) (bF (bF (bF (bF (bF (bF (bF hv))))))) hpn I8 ht ?_)))
 all_goals
  rename_i r4
  refine iH (fun m a C'=>∃(j:Nat) (A':Option Addr) (c':Nat) (w:List Rqq0),j+m=x.l.length∧w=((x.l.take j).map (wW x.pe.w t.w)).map rqe∧(∀z∈x.l.take j,z.k=1→gR z.n x.pe.w t.w=0)∧cW a [(0,.pointer (some ⟨p,0,none⟩)),(4,.pointer (some ⟨r4,0,none⟩)),(6,.slice A' w.length c'),(7,.int .i64 j)]∧C'=bU A' c' 51 rqC w::pt r4 [.int .i64 t.w,.int .i64 t.st,.int .i64 t.it] 23::rcL p A c rv W wc O oc x R) x.l.length (cG x.l.length ⟨0,none,0,[],by omega,rfl,(fun z hz=>by cases hz),⟨rfl,rfl,rfl,rfl,trivial⟩,rfl⟩ (by omega)) ?_
  rintro m a C' ⟨j,A',c',w,hj,hw,hno,ha,rfl⟩
  dsimp only[rcL,rcX]
  refine gJ _ ha ?_
  simp only[fF]
  have hwl:w.length≤64:=by
   have h2:=List.length_take_le j x.l
   rw[hw,List.length_map,List.length_map];omega
  by_cases hlt:j<x.l.length
  ·obtain⟨z,hz1,hz2,hz3⟩:=rq_at hlt
   have hzm:=List.mem_of_getElem? hz1
   have hzn:=hn z hzm
   have hno2:(z.k=1→gR z.n x.pe.w t.w=0)→∀z∈x.l.take (j+1),z.k=1→gR z.n x.pe.w t.w=0:=fun h y hy=>by
    rw[List.take_add_one,hz1] at hy
    rcases List.mem_append.1 hy with hy|hy
    ·exact hno y hy
    ·have hy:y=z:=by simpa using hy
     subst hy;exact h
   have hw2:w++ [rqe (wW x.pe.w t.w z)]=((x.l.take (j+1)).map (wW x.pe.w t.w)).map rqe:=by
    rw[List.take_add_one,hz1,hw]
    simp
   by_cases hk:z.k=1
   ·have hk2:(rqe z).k=1:=hk
    by_cases hE:gR z.n x.pe.w t.w=0
    ·have er:rqe (wW x.pe.w t.w z)=⟨z.id,z.k,z.p,z.en,vR z.n x.pe.w t.w⟩:=by unfold wW;rw[if_pos hk];rfl
     rw[er] at hw2
     repeat' (first|(show aM _ _ _ _ _ _ _;refine mD ?_;intro _ _)|refine Uk ?_|refine Hq d46_1_0_rcsets_ok ?_|refine dw d46_7_0_rcsets_ok ?_|refine w5 ?_ ?_|((refine bh fun h=>?_) <;> try exact w6 h)|(refine aF fun hA=>?_;subst hA)|intro _|(show aA _ 101 _ _ _;refine CA (h:=r05res_ok (n:=z.n) hzn hpe htw ?_);rw[hE]))
     all_goals(show aZ _ _ _ _;exact cG (m - 1) ⟨j+1,_,_,_,by omega,hw2,hno2 (fun _=>hE),⟨rfl,rfl,rfl,rfl,trivial⟩,rfl⟩)
    ·rw[if_pos ⟨z,hzm,hk,hE⟩] at hK
     repeat' (first|(show aM _ _ _ _ _ _ _;refine mD ?_;intro _ _)|refine Uk ?_|refine Hq d46_1_0_rcsets_ok ?_|refine dw d46_7_0_rcsets_ok ?_|refine w5 ?_ ?_|((refine bh fun h=>?_) <;> try exact w6 h)|(refine aF fun hA=>?_;subst hA)|intro _|(show aA _ 101 _ _ _;refine CA (h:=r05res_ok (n:=z.n) hzn hpe htw ?_))|(show aA _ 49 _ _ _;refine CA (h:=rcfail_ok (x:=x) ?_)))
     all_goals(refine aC ?_;exact aB (hK _ _ _ _))
   ·have hk2:(rqe z).k≠1:=hk
    have er:wW x.pe.w t.w z=z:=by unfold wW;rw[if_neg hk]
    rw[er] at hw2
    repeat' (first|(show aM _ _ _ _ _ _ _;refine mD ?_;intro _ _)|refine Uk ?_|refine Hq d46_1_0_rcsets_ok ?_|refine dw d46_7_0_rcsets_ok ?_|refine w5 ?_ ?_|((refine bh fun h=>?_) <;> try exact w6 h)|(refine aF fun hA=>?_;subst hA)|intro _|(show aA _ 101 _ _ _;refine CA (h:=r05res_ok (n:=z.n) hzn hpe htw ?_)))
    all_goals(show aZ _ _ _ _;exact cG (m - 1) ⟨j+1,_,_,w++ [rqe z],by omega,hw2,hno2 (fun h=>absurd h hk),⟨rfl,rfl,rfl,rfl,trivial⟩,rfl⟩)
  ·have hjl:j=x.l.length:=by omega
   subst hjl
   rw[List.take_length] at hw hno
   rw[if_neg (fun⟨z,h1,h2,h3⟩=>h3 (hno z h1 h2))] at hK
   subst hw
   repeat' (first|refine Uk ?_|refine Hq d46_1_0_rcsets_ok ?_|refine dw d46_7_0_rcsets_ok ?_|refine w5 ?_ ?_|((refine bh fun h=>?_) <;> try exact w6 h)|(refine aF fun hA=>?_;subst hA)|intro _|(show aA _ 48 _ _ _;rw[← res_star (l:=x.l) (a:=x.pe.w) (b:=t.w)];refine CA (h:=rcpush_ok (x:= { x with l:=x.l.map (wW x.pe.w t.w),pe:=t }) (by dsimp only;omega) (fun _ _ _ _=>?_))))
   all_goals(refine aC ?_;exact aB (hK _ _ _ _))
end Go.Proofs.YtffnpejdkkohcaaGreat
