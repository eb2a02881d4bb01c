/- The document's endpoint: windows: lemmas; each with the conditions that it states. -/
import Derived.Test.YtffnpejdkkohcaaGreatBag
import Derived.Test.YtffnpejdkkohcaaGreatCR2
import Derived.Test.YtffnpejdkkohcaaGreatQx
namespace Go.Proofs.YtffnpejdkkohcaaGreat
open Go Go.Proofs Go.Sl
set_option maxRecDepth 100000
set_option maxHeartbeats 40000000
set_option linter.unusedSimpArgs false
set_option linter.unusedVariables false
attribute [local irreducible] aM eY cU bQ aL aW aA dS dT aZ dR pt ro fN star sep bH
variable {R C:List HP} {K:Value→List HP→Prop} {p c rv wc oc i:Nat} {A W O:Option Addr} {x:Rc} {s s':Rs} {id:Int} {f:Fm}
def d50_3_0_rcwhole_ok:List (Nat×Nat):= [(0,0),(1,0),(2,0),(3,0),(4,0),(5,0),(6,1),(7,0),(8,0),(9,0),(10,0),(11,0)]
theorem rcwhole_ok (hn:0≤f.n∧f.n≤2147483647) (hs:-2147483647≤x.sd∧x.sd≤2147483647) (hK:∀A c O oc,K (.tuple #[]) (rcL p A c rv W wc O oc (LX f x) R)):aA Tryz.prog 50 #[.pointer (some ⟨p,0,none⟩),.agg #[.int .i64 f.t,.int .i64 f.st,.bool f.e,.string f.d,.int .i64 f.k,.int .i64 f.on,.int .i64 f.w,.bool f.x,.int .i64 f.c,.int .i64 f.la,.int .i64 f.n,.slice f.pa f.pn f.pc]] (rcL p A c rv W wc O oc x R) K:=by
 unfold LX at hK
 by_cases h0:f.n=0
 ·rw[if_pos h0] at hK
  dsimp only[rcL,rcX]
  refine aJ Tryz.func50 ?_
  repeat' (first|refine zB ?_|refine dw d50_3_0_rcwhole_ok ?_|refine w5 ?_ ?_|((refine bh fun h=>?_) <;> try exact w6 h)|(refine aF fun hA=>?_;subst hA)|intro _|(show aA _ 49 _ _ _;refine CA (h:=rcfail_ok (x:=x) ?_)))
  all_goals(refine aC ?_;exact aB (hK _ _ _ _))
 ·rw[if_neg h0] at hK
  by_cases hE:j5 x.sd f.n=0
  ·rw[if_neg (fun h=>h hE)] at hK
   dsimp only[rcL,rcX] at hK ⊢
   refine aJ Tryz.func50 ?_
   repeat' (first|refine zB ?_|refine dw d50_3_0_rcwhole_ok ?_|refine w5 ?_ ?_|((refine bh fun h=>?_) <;> try exact w6 h)|(refine aF fun hA=>?_;subst hA)|intro _|(show aA _ 103 _ _ _;refine CA (h:=r05grow_ok hs hn ?_);rw[hE]))
   all_goals(refine aC ?_;exact aB (hK _ _ _ _))
  ·rw[if_pos hE] at hK
   dsimp only[rcL,rcX]
   refine aJ Tryz.func50 ?_
   repeat' (first|refine zB ?_|refine dw d50_3_0_rcwhole_ok ?_|refine w5 ?_ ?_|((refine bh fun h=>?_) <;> try exact w6 h)|(refine aF fun hA=>?_;subst hA)|intro _|(show aA _ 103 _ _ _;refine CA (h:=r05grow_ok hs hn ?_))|(show aA _ 49 _ _ _;refine CA (h:=rcfail_ok (x:= { x with sd:=gA x.sd f.n }) ?_)))
   all_goals(refine aC ?_;exact aB (hK _ _ _ _))
theorem rs_set_star (hp:x.l.Pairwise fun a b=>a.id<b.id) (h:x.l[i]?=some s) (he:s'.id=s.id) (hP:rsP s'=rsP s):aG (eC rsP x.l::R) (eC rsP (x.l.map fun z=>if z.id=s'.id then s' else z)::R):=by
 rw[rs_set_eq hp h he]
 have:=Ej (f:=rsP) (b':=s') (R:=R) h
 rw[hP] at this
 exact aG.trans (tO (f:=rsP) h) this
def d108_1_0_rcgrant_ok:Tr:=(.br (.st 4 1 (.st 5 1 (.st 6 1 (.st 7 2 (.st 10 2 (.st 0 2 (.st 1 2 (.st 2 2 (.st 3 2 (.st 8 1 (.st 9 1 (.st 11 1 .nil)))))))))))) (.st 10 2 (.st 4 1 (.st 5 1 (.st 6 1 (.st 7 2 (.st 0 2 (.st 1 2 (.st 2 2 (.st 3 2 (.st 8 1 (.st 9 1 (.st 11 1 .nil)))))))))))))
theorem rcgrant_ok (hN:RcN x) (hn:0≤f.n∧f.n≤2147483647) (hs:zR f.st x.l=some s) (hb:-2147483647≤s.n∧s.n≤2147483647) (hk:s.k=1∨s.k=2) (ht:f.t=10∨f.t=11) (hK:∀A c O oc,K (.tuple #[]) (rcL p A c rv W wc O oc (LE f s x) R)):aA Tryz.prog 108 #[.pointer (some ⟨p,0,none⟩),.agg #[.int .i64 f.t,.int .i64 f.st,.bool f.e,.string f.d,.int .i64 f.k,.int .i64 f.on,.int .i64 f.w,.bool f.x,.int .i64 f.c,.int .i64 f.la,.int .i64 f.n,.slice f.pa f.pn f.pc]] (rcL p A c rv W wc O oc x R) K:=by
 obtain⟨i,h1,h2,h3⟩:=rs_at.1 s hs
 have hlen:(x.l.map rqe).length≤64:=by rw[List.length_map];exact hN.len
 have hil:i<(x.l.map rqe).length:=by rw[List.length_map];exact(List.getElem?_eq_some_iff.1 h1).1
 have hz:(x.l.map rqe)[((i:Nat):Int).toNat]?=some (rqe s):=by rw[Int.toNat_natCast,List.getElem?_map,h1];rfl
 have hz0:(x.l.map rqe)[i]?=some (rqe s):=by rw[List.getElem?_map,h1];rfl
 have hks:(rqe s).k=s.k:=rfl
 unfold LE at hK
 by_cases c1:f.n=0
 ·rw[if_pos (.inl c1)] at hK
  rcases hk with hk|hk <;> rcases ht with ht|ht
  all_goals
   dsimp only[rcL,rcX]
   refine aJ Tryz.func108 ?_
   repeat' (first|refine v82 ?_|refine Hq d108_1_0_rcgrant_ok ?_|refine w5 ?_ ?_|((refine bh fun h=>?_) <;> try exact w6 h)|(refine aF fun hA=>?_;subst hA)|intro _|(show aA _ 104 _ _ _;refine CA (h:=rcfindY_ok (x:=x) hN.len h1 h2 h3 ?_))|(show aA _ 105 _ _ _;refine CA (h:=rcreset_ok (x:=x) hN (fun _ _ _ _=>?_))))
   all_goals(refine aC ?_;exact aB (hK _ _ _ _))
 rcases hk with hk|hk
 ·rcases ht with ht|ht
  ·have e:¬(f.n=0∨(s.k=1)≠(f.t=10)):=fun h=>h.elim c1 fun h=>h (by rw[hk,ht];simp)
   have hq:((rqe s).k == 1)=(f.t == 10):=by rw[show(rqe s).k=s.k from rfl,hk,ht];rfl
   rw[if_neg e,if_neg (show ¬s.k=2 by omega)] at hK
   by_cases hE:j5 s.n f.n=0
   ·rw[if_neg (fun h=>h hE)] at hK
    have hp:=hN.l
    have hm:∃z∈x.l,z.id=s.id:=⟨s,List.mem_of_getElem? h1,rfl⟩
    dsimp only[rcL,rcX]
    refine aJ Tryz.func108 ?_
    repeat' (first|refine v82 ?_|refine Hq d108_1_0_rcgrant_ok ?_|refine w5 ?_ ?_|((refine bh fun h=>?_) <;> try exact w6 h)|(refine aF fun hA=>?_;subst hA)|intro _|(show aA _ 104 _ _ _;refine CA (h:=rcfindY_ok (x:=x) hN.len h1 h2 h3 ?_))|(show aA _ 103 _ _ _;refine CA (h:=r05grow_ok (n:=s.n) hb hn ?_);rw[hE])|(show aA _ 106 _ _ _;refine CA (h:=rcset_ok (x:=x) (s:= { s with n:=gA s.n f.n }) hN.len hp hm (fun A' c'=>?_))))
    all_goals(refine aC ?_;exact aQ (aG.trans (by exact bE) ((aG.cons (aG.cons (rs_set_star (s':= { s with n:=gA s.n f.n }) hp h1 rfl rfl))))) ((hK _ _ _ _)))
   ·rw[if_pos hE] at hK
    dsimp only[rcL,rcX]
    refine aJ Tryz.func108 ?_
    repeat' (first|refine v82 ?_|refine Hq d108_1_0_rcgrant_ok ?_|refine w5 ?_ ?_|((refine bh fun h=>?_) <;> try exact w6 h)|(refine aF fun hA=>?_;subst hA)|intro _|(show aA _ 104 _ _ _;refine CA (h:=rcfindY_ok (x:=x) hN.len h1 h2 h3 ?_))|(show aA _ 103 _ _ _;refine CA (h:=r05grow_ok (n:=s.n) hb hn ?_))|(show aA _ 105 _ _ _;refine CA (h:=rcreset_ok (x:=x) hN (fun _ _ _ _=>?_))))
    all_goals(refine aC ?_;exact aB (hK _ _ _ _))
  ·have e:f.n=0∨(s.k=1)≠(f.t=10):=.inr fun h=>by rw[eq_iff_iff] at h;have:=h.1 hk;omega
   have hq:¬((rqe s).k == 1)=(f.t == 10):=by rw[show(rqe s).k=s.k from rfl,hk,ht];decide
   rw[if_pos e] at hK
   dsimp only[rcL,rcX]
   refine aJ Tryz.func108 ?_
   repeat' (first|refine v82 ?_|refine Hq d108_1_0_rcgrant_ok ?_|refine w5 ?_ ?_|((refine bh fun h=>?_) <;> try exact w6 h)|(refine aF fun hA=>?_;subst hA)|intro _|(show aA _ 104 _ _ _;refine CA (h:=rcfindY_ok (x:=x) hN.len h1 h2 h3 ?_))|(show aA _ 105 _ _ _;refine CA (h:=rcreset_ok (x:=x) hN (fun _ _ _ _=>?_))))
   all_goals(refine aC ?_;exact aB (hK _ _ _ _))
 ·rcases ht with ht|ht
  ·have e:f.n=0∨(s.k=1)≠(f.t=10):=.inr fun h=>by rw[eq_iff_iff] at h;have:=h.2 ht;omega
   have hq:¬((rqe s).k == 1)=(f.t == 10):=by rw[show(rqe s).k=s.k from rfl,hk,ht];decide
   rw[if_pos e] at hK
   dsimp only[rcL,rcX]
   refine aJ Tryz.func108 ?_
   repeat' (first|refine v82 ?_|refine Hq d108_1_0_rcgrant_ok ?_|refine w5 ?_ ?_|((refine bh fun h=>?_) <;> try exact w6 h)|(refine aF fun hA=>?_;subst hA)|intro _|(show aA _ 104 _ _ _;refine CA (h:=rcfindY_ok (x:=x) hN.len h1 h2 h3 ?_))|(show aA _ 105 _ _ _;refine CA (h:=rcreset_ok (x:=x) hN (fun _ _ _ _=>?_))))
   all_goals(refine aC ?_;exact aB (hK _ _ _ _))
  ·have e:¬(f.n=0∨(s.k=1)≠(f.t=10)):=fun h=>h.elim c1 fun h=>h (by rw[hk,ht];simp)
   have hq:((rqe s).k == 1)=(f.t == 10):=by rw[show(rqe s).k=s.k from rfl,hk,ht];rfl
   rw[if_neg e,if_pos hk] at hK
   dsimp only[rcL,rcX]
   refine aJ Tryz.func108 ?_
   repeat' (first|refine v82 ?_|refine Hq d108_1_0_rcgrant_ok ?_|refine w5 ?_ ?_|((refine bh fun h=>?_) <;> try exact w6 h)|(refine aF fun hA=>?_;subst hA)|intro _|(show aA _ 104 _ _ _;refine CA (h:=rcfindY_ok (x:=x) hN.len h1 h2 h3 ?_)))
   all_goals(refine aC ?_;exact aB (hK _ _ _ _))
end Go.Proofs.YtffnpejdkkohcaaGreat
