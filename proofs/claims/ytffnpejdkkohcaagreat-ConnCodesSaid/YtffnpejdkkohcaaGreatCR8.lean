/- The document's endpoint: any frame: lemmas; each with the conditions that it states. -/
import Derived.Test.YtffnpejdkkohcaaGreatBag
import Derived.Test.YtffnpejdkkohcaaGreatCR3
import Derived.Test.YtffnpejdkkohcaaGreatCR4
import Derived.Test.YtffnpejdkkohcaaGreatCR5
import Derived.Test.YtffnpejdkkohcaaGreatCR7
import Derived.Test.YtffnpejdkkohcaaGreatBbl
import Derived.Test.YtffnpejdkkohcaaGreatQx
namespace Go.Proofs.YtffnpejdkkohcaaGreat
open Go Go.Proofs Go.Sl
set_option maxRecDepth 100000
set_option maxHeartbeats 40000000
set_option linter.unusedSimpArgs false
set_option linter.unusedVariables false
attribute [local irreducible] aM eY cU bQ aL aW aA dS dT aZ dR pt ro fN star sep bH
attribute [local irreducible] mp FV
variable {R C:List HP} {K:Value→List HP→Prop} {p c rv wc oc i:Nat} {A W O:Option Addr} {x:Rc} {s s':Rs} {id co k:Int} {f:Fm}
theorem RcB.nN (h:RcB x):RcN x:=⟨h.l,h.len,h.o,by have:=h.rv;omega,fun s hs hk=>(h.b s hs hk).2.2⟩
def d10_4_0_rctake_ok:List (Nat×Nat):= [(0,0),(1,0),(2,0),(3,0),(4,0),(5,0),(6,0),(7,0),(8,0),(9,0),(10,0),(11,0),(12,0)]
theorem rctake_ok (hB:RcB x) (hR:bV f) (hv:dE R f.pa oG f.ps) (hpn:f.ps.length=f.pn) (hK:∀A c W wc O oc i,K (.tuple #[]) (rcL p A c rv W wc O oc (SE f i x) R)):aA Tryz.prog 10 #[.pointer (some ⟨p,0,none⟩),.agg #[.int .i64 f.t,.int .i64 f.st,.bool f.e,.string f.d,.int .i64 f.k,.int .i64 f.on,.int .i64 f.w,.bool f.x,.int .i64 f.c,.int .i64 f.la,.int .i64 f.n,.slice f.pa f.pn f.pc]] (rcL p A c rv W wc O oc x R) K:=by
 have hN:=hB.nN
 have hlen:=hB.len
 have ho:=hB.o
 have hrv:=hB.rv
 have hsd:=hB.sd
 have hps:BF f.ps=true:=hR.2.2.2.2.2.2.2.2.2.2.2.2.2.2.2.2.1
 obtain⟨t,e1,e2⟩:=Aac (s:=x.pe) hps hB.pe
 obtain⟨r1,r2,r3,r4,r5,r6,r7,r8,r9,r10,r11,r12,r13,r14,r15,r16,r17,r18,r19,r20,r21⟩:=hR
 have hn:=(gI _).1 r20
 have h8:f.pn≤1000000:=by omega
 unfold SE at hK
 by_cases t2:f.t=2
 ·simp only[if_pos t2] at hK
  refine aJ Tryz.func10 ?_
  repeat' (first|refine v58 ?_|refine dw d10_4_0_rctake_ok ?_|refine w5 ?_ ?_|((refine bh fun h=>?_) <;> try exact w6 h)|(refine aF fun hA=>?_;subst hA)|intro _|(show aA _ 45 _ _ _;refine CA (h:=rcopen_ok (f:=f) (x:=x) (by omega) hlen ho (fun _ _ _ _ _=>?_))))
  all_goals(refine aC ?_;exact aB (hK _ _ _ _ _ _ _))
 simp only[if_neg t2] at hK
 replace hK:=fun A c W wc O oc=>hK A c W wc O oc 0
 by_cases t5:f.t=5
 ·simp only[if_pos t5] at hK
  refine aJ Tryz.func10 ?_
  repeat' (first|refine v58 ?_|refine dw d10_4_0_rctake_ok ?_|refine w5 ?_ ?_|((refine bh fun h=>?_) <;> try exact w6 h)|(refine aF fun hA=>?_;subst hA)|intro _|(show aA _ 46 _ _ _;refine CA (h:=rcsets_ok (f:=f) (x:=x) (t:=t) hlen ho hv hpn h8 hB.n hB.pe e1 e2 (fun _ _ _ _=>?_))))
  all_goals(refine aC ?_;exact aB (hK _ _ _ _ _ _))
 simp only[if_neg t5] at hK
 by_cases t6:f.t=6
 ·simp only[if_pos t6] at hK
  refine aJ Tryz.func10 ?_
  repeat' (first|refine v58 ?_|refine dw d10_4_0_rctake_ok ?_|refine w5 ?_ ?_|((refine bh fun h=>?_) <;> try exact w6 h)|(refine aF fun hA=>?_;subst hA)|intro _|(show aA _ 47 _ _ _;refine CA (h:=rcack_ok (x:=x) hlen hB.w (fun s hs hk=>by have:=hB.b s hs hk;omega) (fun _ _ _ _ _ _=>?_))))
  all_goals(refine aC ?_;exact aB (hK _ _ _ _ _ _))
 simp only[if_neg t6] at hK
 by_cases t7:f.t=7
 ·simp only[if_pos t7] at hK
  refine aJ Tryz.func10 ?_
  repeat' (first|refine v58 ?_|refine dw d10_4_0_rctake_ok ?_|refine w5 ?_ ?_|((refine bh fun h=>?_) <;> try exact w6 h)|(refine aF fun hA=>?_;subst hA)|intro _|(show aA _ 48 _ _ _;refine CA (h:=rcpush_ok (x:=x) (by omega) (fun _ _ _ _=>?_))))
  all_goals(refine aC ?_;exact aB (hK _ _ _ _ _ _))
 simp only[if_neg t7] at hK
 by_cases t8:f.t=8
 ·simp only[if_pos t8] at hK
  refine aJ Tryz.func10 ?_
  repeat' (first|refine v58 ?_|refine dw d10_4_0_rctake_ok ?_|refine w5 ?_ ?_|((refine bh fun h=>?_) <;> try exact w6 h)|(refine aF fun hA=>?_;subst hA)|intro _)
  all_goals(refine aC ?_;exact aB (hK _ _ _ _ _ _))
 simp only[if_neg t8] at hK
 by_cases t9:f.t=9
 ·simp only[if_pos t9] at hK
  by_cases hc:f.c=0
  ·rw[hc] at hK
   simp only[ne_eq,not_true_eq_false,if_false] at hK
   refine aJ Tryz.func10 ?_
   repeat' (first|refine v58 ?_|refine dw d10_4_0_rctake_ok ?_|refine w5 ?_ ?_|((refine bh fun h=>?_) <;> try exact w6 h)|(refine aF fun hA=>?_;subst hA)|intro _)
   all_goals(refine aC ?_;exact aB (hK _ _ _ _ _ _))
  ·simp only[ne_eq,hc,not_false_eq_true,if_true] at hK
   refine aJ Tryz.func10 ?_
   repeat' (first|refine v58 ?_|refine dw d10_4_0_rctake_ok ?_|refine w5 ?_ ?_|((refine bh fun h=>?_) <;> try exact w6 h)|(refine aF fun hA=>?_;subst hA)|intro _|(show aA _ 49 _ _ _;refine CA (h:=rcfail_ok (x:=x) ?_)))
   all_goals(refine aC ?_;exact aB (hK _ _ _ _ _ _))
 simp only[if_neg t9] at hK
 by_cases h0:f.st=0
 ·simp only[if_pos h0] at hK
  refine aJ Tryz.func10 ?_
  repeat' (first|refine v58 ?_|refine dw d10_4_0_rctake_ok ?_|refine w5 ?_ ?_|((refine bh fun h=>?_) <;> try exact w6 h)|(refine aF fun hA=>?_;subst hA)|intro _|(show aA _ 50 _ _ _;refine CA (h:=rcwhole_ok (f:=f) (x:=x) hn hsd (fun _ _ _ _=>?_))))
  all_goals(refine aC ?_;exact aB (hK _ _ _ _ _ _))
 simp only[if_neg h0] at hK
 by_cases hq:f.st % 2≠1∨x.la<f.st
 ·simp only[if_pos hq] at hK
  refine aJ Tryz.func10 ?_
  repeat' (first|refine v58 ?_|refine dw d10_4_0_rctake_ok ?_|refine w5 ?_ ?_|((refine bh fun h=>?_) <;> try exact w6 h)|(refine aF fun hA=>?_;subst hA)|intro _|(show aA _ 49 _ _ _;refine CA (h:=rcfail_ok (x:=x) ?_)))
  all_goals(refine aC ?_;exact aB (hK _ _ _ _ _ _))
 simp only[if_neg hq] at hK
 by_cases t01:f.t<2
 ·simp only[if_pos t01] at hK
  refine aJ Tryz.func10 ?_
  repeat' (first|refine v58 ?_|refine dw d10_4_0_rctake_ok ?_|refine w5 ?_ ?_|((refine bh fun h=>?_) <;> try exact w6 h)|(refine aF fun hA=>?_;subst hA)|intro _|(show aA _ 51 _ _ _;refine CA (h:=rcdata_ok (f:=f) (x:=x) hN (by omega) (by omega) (by omega) (fun s hs hk=>(hB.b s hs hk).2.1) (by omega) (fun _ _ _ _=>?_))))
  all_goals(refine aC ?_;exact aB (hK _ _ _ _ _ _))
 ·simp only[if_neg t01] at hK
  refine aJ Tryz.func10 ?_
  repeat' (first|refine v58 ?_|refine dw d10_4_0_rctake_ok ?_|refine w5 ?_ ?_|((refine bh fun h=>?_) <;> try exact w6 h)|(refine aF fun hA=>?_;subst hA)|intro _|(show aA _ 52 _ _ _;refine CA (h:=rcrest_ok (f:=f) (x:=x) hN hn hB.n hB.k (by omega) (fun _ _ _ _=>?_))))
  all_goals(refine aC ?_;exact aB (hK _ _ _ _ _ _))
def LCq0 (x:Rc):Prop:=(0≤x.la∧x.la≤2147483647)∧0≤x.co∧x.co≤2147483647
theorem lc_new {s:dI}:LCq0 (Alg s):=⟨show(0:Int)≤0∧(0:Int)≤2147483647 by decide,show(0:Int)≤0∧(0:Int)≤2147483647 by decide⟩
theorem lc_fail (h:LCq0 x) (hc:0≤co∧co≤2147483647):LCq0 (rK co x):=⟨h.1,hc⟩
theorem lc_push (h:LCq0 x):LCq0 (AN k x):=by
 unfold AN
 split
 ·exact lc_fail h (by decide)
 ·exact h
theorem lc_kill (h:LCq0 x):LCq0 (CH id x):=by
 unfold CH
 split
 ·exact h
 ·split <;> exact h
theorem lc_take (h:LCq0 x) (hs:0≤f.st∧f.st≤2147483647) (hc:0≤f.c∧f.c≤2147483647):LCq0 (SE f i x):=by
 have hr:∀ {x:Rc} {id:Int},LCq0 x→LCq0 (tA id x):=fun h=>lc_push (lc_kill h)
 unfold SE
 repeat' split
 ·unfold QJ
  repeat' split
  ·exact lc_fail h (by decide)
  ·exact lc_fail ⟨hs,h.2⟩ (by decide)
  ·exact lc_push (x:= { x with la:=f.st }) ⟨hs,h.2⟩
  ·exact⟨hs,h.2⟩
 ·unfold Ri
  repeat' split
  ·exact h
  ·exact lc_fail h (by decide)
  ·exact lc_push h
 ·unfold Abm
  split
  ·exact lc_fail h (by decide)
  ·exact h
 ·exact lc_push h
 ·exact h
 ·exact lc_fail h hc
 ·exact h
 ·unfold LX
  repeat' split
  ·exact lc_fail h (by decide)
  ·exact lc_fail (x:= { x with sd:=gA x.sd f.n }) h (by decide)
  ·exact h
 ·exact lc_fail h (by decide)
 ·unfold Ru
  repeat' split
  ·exact lc_fail h (by decide)
  ·exact h
  ·exact hr (x:= { x with got:=x.got+dN f,us:=x.us+dN f }) h
  ·exact h
 ·unfold QQ
  repeat' split
  ·exact lc_fail h (by decide)
  ·exact h
  ·exact h
  ·exact lc_kill h
  ·unfold LE
   repeat' split
   ·exact hr h
   ·exact h
   ·exact hr h
   ·exact h
end Go.Proofs.YtffnpejdkkohcaaGreat
