/- The document's endpoint: frames of a stream: lemmas; each with the conditions that it states. -/
import Derived.Test.YtffnpejdkkohcaaGreatBag
import Derived.Test.YtffnpejdkkohcaaGreatCR6
import Derived.Test.YtffnpejdkkohcaaGreatQx
namespace Go.Proofs.YtffnpejdkkohcaaGreat
open Go Go.Proofs Go.Sl
set_option maxRecDepth 100000
set_option maxHeartbeats 40000000
set_option linter.unusedSimpArgs false
set_option linter.unusedVariables false
attribute [local irreducible] aM eY cU bQ aL aW aA dS dT aZ dR pt ro fN star sep bH
variable {R C:List HP} {K:Value→List HP→Prop} {p c rv wc oc i:Nat} {A W O:Option Addr} {x:Rc} {s s':Rs} {id:Int} {f:Fm}
theorem rcrest_ok (hN:RcN x) (hn:0≤f.n∧f.n≤2147483647) (hb:∀s∈x.l,-2147483647≤s.n∧s.n≤2147483647) (hk:∀s∈x.l,s.k=1∨s.k=2) (ht:f.t=3∨f.t=4∨f.t=10∨f.t=11) (hK:∀A c O oc,K (.tuple #[]) (rcL p A c rv W wc O oc (QQ f x) R)):aA Tryz.prog 52 #[.pointer (some ⟨p,0,none⟩),.agg #[.int .i64 f.t,.int .i64 f.st,.bool f.e,.string f.d,.int .i64 f.k,.int .i64 f.on,.int .i64 f.w,.bool f.x,.int .i64 f.c,.int .i64 f.la,.int .i64 f.n,.slice f.pa f.pn f.pc]] (rcL p A c rv W wc O oc x R) K:=by
 unfold QQ at hK
 by_cases h3:f.t=3∧f.on=f.st
 ·rw[if_pos h3] at hK
  obtain⟨h31,h32⟩:=h3
  refine aJ Tryz.func52 ?_
  repeat' (first|refine v44 ?_|refine w5 ?_ ?_|((refine bh fun h=>?_) <;> try exact w6 h)|(refine aF fun hA=>?_;subst hA)|intro _|(show aA _ 49 _ _ _;refine CA (h:=rcfail_ok (x:=x) ?_)))
  all_goals(refine aC ?_;exact aB (hK _ _ _ _))
 rw[if_neg h3] at hK
 cases hs:zR f.st x.l with
 |none=>
  rw[hs] at hK
  dsimp only at hK
  refine aJ Tryz.func52 ?_
  repeat' (first|refine v44 ?_|refine w5 ?_ ?_|((refine bh fun h=>?_) <;> try exact w6 h)|(refine aF fun hA=>?_;subst hA)|intro _|(show aA _ 104 _ _ _;refine CA (h:=rcfindN_ok (x:=x) hN.len (rs_at.2 hs) ?_)))
  all_goals(refine aC ?_;exact aB (hK _ _ _ _))
 |some s=>
  rw[hs] at hK
  dsimp only at hK
  obtain⟨i,h1,h2,h4⟩:=rs_at.1 s hs
  have hbs:=hb s (List.mem_of_getElem? h1)
  have hks:=hk s (List.mem_of_getElem? h1)
  by_cases t3:f.t=3
  ·rw[if_pos t3] at hK
   refine aJ Tryz.func52 ?_
   repeat' (first|refine v44 ?_|refine w5 ?_ ?_|((refine bh fun h=>?_) <;> try exact w6 h)|(refine aF fun hA=>?_;subst hA)|intro _|(show aA _ 104 _ _ _;refine CA (h:=rcfindY_ok (x:=x) hN.len h1 h2 h4 ?_)))
   all_goals(refine aC ?_;exact aB (hK _ _ _ _))
  rw[if_neg t3] at hK
  by_cases t4:f.t=4
  ·rw[if_pos t4] at hK
   refine aJ Tryz.func52 ?_
   repeat' (first|refine v44 ?_|refine w5 ?_ ?_|((refine bh fun h=>?_) <;> try exact w6 h)|(refine aF fun hA=>?_;subst hA)|intro _|(show aA _ 104 _ _ _;refine CA (h:=rcfindY_ok (x:=x) hN.len h1 h2 h4 ?_))|(show aA _ 107 _ _ _;refine CA (h:=rckill_ok (x:=x) hN (fun _ _=>?_))))
   all_goals(refine aC ?_;exact aB (hK _ _ _ _))
  rw[if_neg t4] at hK
  refine aJ Tryz.func52 ?_
  repeat' (first|refine v44 ?_|refine w5 ?_ ?_|((refine bh fun h=>?_) <;> try exact w6 h)|(refine aF fun hA=>?_;subst hA)|intro _|(show aA _ 104 _ _ _;refine CA (h:=rcfindY_ok (x:=x) hN.len h1 h2 h4 ?_))|(show aA _ 108 _ _ _;refine CA (h:=rcgrant_ok (x:=x) (f:=f) hN hn hs hbs hks (by omega) (fun _ _ _ _=>?_))))
  all_goals(refine aC ?_;exact aB (hK _ _ _ _))
theorem rs_got (hp:x.l.Pairwise fun a b=>a.id<b.id) (h:x.l[i]?=some s) (he:s'.id=s.id):aG (rsP s'::eC rsP (x.l.eraseIdx i)::R) (eC rsP (x.l.map fun z=>if z.id=s'.id then s' else z)::R):=by
 rw[rs_set_eq hp h he]
 exact Ej (f:=rsP) (b':=s') (R:=R) h
def d51_4_0_rcdata_ok:List Nat:= [0,1,3,7,7,23,55,119,247,503,1015,7,2055,6151,14343,30727,63495,129031,262135,524287,1048575]
def d51_4_1_rcdata_ok:List Nat:= [1048575,524287,262135,129031,63495,30727,14343,6151,2055,7,1015,503,247,119,55,23,7,7,3,1,0]
def d51_4_2_rcdata_ok:List (Nat×Nat):= [(0,0),(1,0),(2,0),(3,0),(4,0),(5,0),(6,0),(7,0),(8,0),(9,0),(10,0),(11,0),(12,0),(13,0),(14,0),(15,0),(16,0),(17,0),(18,0),(19,0),(20,0)]
def d51_6_0_rcdata_ok:List (Nat×Nat):= [(0,0),(1,0),(2,0),(3,0),(4,0),(5,0),(6,0),(7,0),(8,0),(9,0),(10,0),(11,0),(12,0),(13,0),(14,0),(15,1)]
def d51_9_0_rcdata_ok:List (Nat×Nat):= [(0,0),(1,0),(2,0),(3,0),(4,0),(5,0),(6,0),(7,0),(8,0),(9,0),(10,0),(11,0),(12,0),(13,0),(14,0),(15,1)]
def d51_13_0_rcdata_ok:List (Nat×Nat):= [(0,0),(1,0),(2,0),(3,0),(4,0),(5,0),(6,0),(7,0),(8,0),(9,0),(10,0),(11,0),(12,0),(13,0),(14,0),(15,0),(16,0),(17,0)]
def d51_17_0_rcdata_ok:List (Nat×Nat):= [(0,0),(1,0),(2,0),(3,0),(4,0),(5,0),(6,0),(7,0),(8,0),(9,0),(10,0),(11,0),(12,0),(13,0),(14,0),(15,1)]
def d51_20_0_rcdata_ok:List (Nat×Nat):= [(0,0),(1,0),(2,0),(3,0),(4,0),(5,0),(6,0),(7,0),(8,0),(9,0),(10,0),(11,1)]
theorem rcdata_ok (hN:RcN x) (hd:f.d.size≤1000000) (hg:(0≤x.gr∧x.gr≤900000000)∧0≤x.got∧x.got≤900000000) (hu:x.us≤900000000) (hb:∀s∈x.l,s.k=1→0≤s.gr∧s.gr≤900000000) (ht:f.t=0∨f.t=1) (hK:∀A c O oc,K (.tuple #[]) (rcL p A c rv W wc O oc (Ru f x) R)):aA Tryz.prog 51 #[.pointer (some ⟨p,0,none⟩),.agg #[.int .i64 f.t,.int .i64 f.st,.bool f.e,.string f.d,.int .i64 f.k,.int .i64 f.on,.int .i64 f.w,.bool f.x,.int .i64 f.c,.int .i64 f.la,.int .i64 f.n,.slice f.pa f.pn f.pc]] (rcL p A c rv W wc O oc x R) K:=by
 have hus:=hN.us
 have hlen:(x.l.map rqe).length≤64:=by rw[List.length_map];exact hN.len
 unfold Ru at hK
 have hdn:dN f=if f.t=0 then((f.d.size:Nat):Int) else 0:=rfl
 rcases ht with ht|ht
 ·rw[if_pos ht] at hdn
  rw[hdn] at hK
  by_cases hE:0<((f.d.size:Nat):Int)∧x.gr - x.got<((f.d.size:Nat):Int)
  ·rw[if_pos hE] at hK
   dsimp only[rcL,rcX]
   refine aJ Tryz.func51 ?_
   repeat' (first|refine TJ ?_|refine ON d51_4_0_rcdata_ok d51_4_1_rcdata_ok d51_4_2_rcdata_ok ?_|refine dw d51_6_0_rcdata_ok ?_|refine dw d51_9_0_rcdata_ok ?_|refine dw d51_13_0_rcdata_ok ?_|refine dw d51_17_0_rcdata_ok ?_|refine dw d51_20_0_rcdata_ok ?_|refine w5 ?_ ?_|((refine bh fun h=>?_) <;> try exact w6 h)|(refine aF fun hA=>?_;subst hA)|intro _|(show aA _ 49 _ _ _;refine CA (h:=rcfail_ok (x:=x) ?_)))
   all_goals(refine aC ?_;exact aB (hK _ _ _ _))
  rw[if_neg hE] at hK
  cases hs:zR f.st x.l with
  |none=>
   rw[hs] at hK
   dsimp only[rcL,rcX] at hK ⊢
   refine aJ Tryz.func51 ?_
   repeat' (first|refine TJ ?_|refine ON d51_4_0_rcdata_ok d51_4_1_rcdata_ok d51_4_2_rcdata_ok ?_|refine dw d51_6_0_rcdata_ok ?_|refine dw d51_9_0_rcdata_ok ?_|refine dw d51_13_0_rcdata_ok ?_|refine dw d51_17_0_rcdata_ok ?_|refine dw d51_20_0_rcdata_ok ?_|refine w5 ?_ ?_|((refine bh fun h=>?_) <;> try exact w6 h)|(refine aF fun hA=>?_;subst hA)|intro _|(show aA _ 104 _ _ _;refine CA (h:=rcfindN_ok (x:= { x with got:=x.got+((f.d.size:Nat):Int) }) hN.len (rs_at.2 hs) ?_)))
   all_goals(refine aC ?_;exact aB (hK _ _ _ _))
  |some s=>
   rw[hs] at hK
   dsimp only at hK
   obtain⟨i,h1,h2,h3⟩:=rs_at.1 s hs
   have hks:(rqe s).k=s.k:=rfl
   have hil:i<(x.l.map rqe).length:=by rw[List.length_map];exact(List.getElem?_eq_some_iff.1 h1).1
   have hz:(x.l.map rqe)[((i:Nat):Int).toNat]?=some (rqe s):=by rw[Int.toNat_natCast,List.getElem?_map,h1];rfl
   have hz0:(x.l.map rqe)[i]?=some (rqe s):=by rw[List.getElem?_map,h1];rfl
   have hN2:RcN { x with got:=x.got+((f.d.size:Nat):Int),us:=x.us+((f.d.size:Nat):Int) }:= { hN with us:=by dsimp only;omega }
   by_cases hk:s.k=1
   rotate_left
   ·rw[if_pos (show Kx s f from .inl (by omega))] at hK
    dsimp only[rcL,rcX]
    refine aJ Tryz.func51 ?_
    repeat' (first|refine TJ ?_|refine ON d51_4_0_rcdata_ok d51_4_1_rcdata_ok d51_4_2_rcdata_ok ?_|refine dw d51_6_0_rcdata_ok ?_|refine dw d51_9_0_rcdata_ok ?_|refine dw d51_13_0_rcdata_ok ?_|refine dw d51_17_0_rcdata_ok ?_|refine dw d51_20_0_rcdata_ok ?_|refine w5 ?_ ?_|((refine bh fun h=>?_) <;> try exact w6 h)|(refine aF fun hA=>?_;subst hA)|intro _|(show aA _ 104 _ _ _;refine CA (h:=rcfindY_ok (x:= { x with got:=x.got+((f.d.size:Nat):Int) }) hN.len h1 h2 h3 ?_);dsimp only[rcX])|(show aA _ 105 _ _ _;refine CA (h:=rcreset_ok (x:= { x with got:=x.got+((f.d.size:Nat):Int),us:=x.us+((f.d.size:Nat):Int) }) hN2 (fun _ _ _ _=>?_))))
    all_goals(refine aC ?_;exact aB (hK _ _ _ _))
   have hbb:=hN.b s (List.mem_of_getElem? h1) hk
   have hbg:=hb s (List.mem_of_getElem? h1) hk
   cases hen:s.en with
   |true=>
    rw[if_pos (show Kx s f from .inr (.inl hen))] at hK
    have hz1:(rqe s).en=true:=hen
    dsimp only[rcL,rcX]
    refine aJ Tryz.func51 ?_
    repeat' (first|(show Br _ _ _;first|refine Br.t hen ?_|refine Br.t hz1 ?_)|(show cU _ _ _;first|rw[hen]|rw[hz1])|refine TJ ?_|refine ON d51_4_0_rcdata_ok d51_4_1_rcdata_ok d51_4_2_rcdata_ok ?_|refine dw d51_6_0_rcdata_ok ?_|refine dw d51_9_0_rcdata_ok ?_|refine dw d51_13_0_rcdata_ok ?_|refine dw d51_17_0_rcdata_ok ?_|refine dw d51_20_0_rcdata_ok ?_|refine w5 ?_ ?_|((refine bh fun h=>?_) <;> try exact w6 h)|(refine aF fun hA=>?_;subst hA)|intro _|(show aA _ 104 _ _ _;refine CA (h:=rcfindY_ok (x:= { x with got:=x.got+((f.d.size:Nat):Int) }) hN.len h1 h2 h3 ?_);dsimp only[rcX])|(show aA _ 105 _ _ _;refine CA (h:=rcreset_ok (x:= { x with got:=x.got+((f.d.size:Nat):Int),us:=x.us+((f.d.size:Nat):Int) }) hN2 (fun _ _ _ _=>?_))))
    all_goals(refine aC ?_;exact aB (hK _ _ _ _))
   |false=>
    have hz1:(rqe s).en=false:=hen
    by_cases hq:0<((f.d.size:Nat):Int)∧s.gr - s.got<((f.d.size:Nat):Int)
    ·rw[if_pos (show Kx s f from .inr (.inr (.inl ⟨ht,by rw[hdn];exact hq⟩)))] at hK
     dsimp only[rcL,rcX]
     refine aA.ent (aG.cons (aG.cons (tO (f:=rsP) h1))) ?_
     dsimp only[rsP]
     refine aJ Tryz.func51 ?_
     repeat' (first|(show Br _ _ _;first|refine Br.f hen ?_|refine Br.f hz1 ?_)|(show cU _ _ _;first|rw[hen]|rw[hz1])|refine TJ ?_|refine ON d51_4_0_rcdata_ok d51_4_1_rcdata_ok d51_4_2_rcdata_ok ?_|refine dw d51_6_0_rcdata_ok ?_|refine dw d51_9_0_rcdata_ok ?_|refine dw d51_13_0_rcdata_ok ?_|refine dw d51_17_0_rcdata_ok ?_|refine dw d51_20_0_rcdata_ok ?_|refine w5 ?_ ?_|((refine bh fun h=>?_) <;> try exact w6 h)|(refine aF fun hA=>?_;subst hA)|intro _|(show aA _ 104 _ _ _;refine CA (h:=rcfindY_ok (x:= { x with got:=x.got+((f.d.size:Nat):Int) }) hN.len h1 h2 h3 ?_);dsimp only[rcX])|(show aA _ 105 _ _ _;refine aA.ent (aG.trans (by exact bE) (rs_put (x:=x) h1)) ?_;refine CA (h:=rcreset_ok (x:= { x with got:=x.got+((f.d.size:Nat):Int),us:=x.us+((f.d.size:Nat):Int) }) hN2 (fun _ _ _ _=>?_))))
     all_goals(refine aC ?_;exact aB (hK _ _ _ _))
    ·have hnb:¬Kx s f:=fun h=>by
      rcases h with h|h|h|h
      ·omega
      ·rw[hen] at h;cases h
      ·rw[hdn] at h;exact hq h.2
      ·omega
     rw[if_neg hnb] at hK
     have hp:=hN.l
     have hm:∃z∈x.l,z.id=s.id:=⟨s,List.mem_of_getElem? h1,rfl⟩
     dsimp only[rcL,rcX]
     refine aA.ent (aG.cons (aG.cons (tO (f:=rsP) h1))) ?_
     dsimp only[rsP]
     refine aJ Tryz.func51 ?_
     repeat' (first|(show Br _ _ _;first|refine Br.f hen ?_|refine Br.f hz1 ?_)|(show cU _ _ _;first|rw[hen]|rw[hz1])|refine TJ ?_|refine ON d51_4_0_rcdata_ok d51_4_1_rcdata_ok d51_4_2_rcdata_ok ?_|refine dw d51_6_0_rcdata_ok ?_|refine dw d51_9_0_rcdata_ok ?_|refine dw d51_13_0_rcdata_ok ?_|refine dw d51_17_0_rcdata_ok ?_|refine dw d51_20_0_rcdata_ok ?_|refine w5 ?_ ?_|((refine bh fun h=>?_) <;> try exact w6 h)|(refine aF fun hA=>?_;subst hA)|intro _|(show aA _ 104 _ _ _;refine CA (h:=rcfindY_ok (x:= { x with got:=x.got+((f.d.size:Nat):Int) }) hN.len h1 h2 h3 ?_);dsimp only[rcX])|(show aA _ 106 _ _ _;refine CA (h:=rcset_ok (x:= { x with got:=x.got+((f.d.size:Nat):Int) }) (s:= { s with got:=s.got+((f.d.size:Nat):Int),en:=f.e }) hN.len hp hm (fun A' c'=>?_))))
     all_goals(refine aC ?_;exact aQ (aG.trans (by exact bE) ((aG.cons (aG.cons (rs_got (s':= { s with got:=s.got+((f.d.size:Nat):Int),en:=f.e }) hp h1 rfl))))) ((hK _ _ _ _)))
 ·rw[if_neg (by omega)] at hdn
  rw[hdn] at hK
  rw[if_neg (fun h=>by omega)] at hK
  cases hs:zR f.st x.l with
  |none=>
   rw[hs] at hK
   dsimp only[rcL,rcX] at hK ⊢
   refine aJ Tryz.func51 ?_
   repeat' (first|refine TJ ?_|refine ON d51_4_0_rcdata_ok d51_4_1_rcdata_ok d51_4_2_rcdata_ok ?_|refine dw d51_6_0_rcdata_ok ?_|refine dw d51_9_0_rcdata_ok ?_|refine dw d51_13_0_rcdata_ok ?_|refine dw d51_17_0_rcdata_ok ?_|refine dw d51_20_0_rcdata_ok ?_|refine w5 ?_ ?_|((refine bh fun h=>?_) <;> try exact w6 h)|(refine aF fun hA=>?_;subst hA)|intro _|(show aA _ 104 _ _ _;refine CA (h:=rcfindN_ok (x:= { x with got:=x.got+0 }) hN.len (rs_at.2 hs) ?_)))
   all_goals(refine aC ?_;exact aB (hK _ _ _ _))
  |some s=>
   rw[hs] at hK
   dsimp only at hK
   obtain⟨i,h1,h2,h3⟩:=rs_at.1 s hs
   have hks:(rqe s).k=s.k:=rfl
   have hil:i<(x.l.map rqe).length:=by rw[List.length_map];exact(List.getElem?_eq_some_iff.1 h1).1
   have hz:(x.l.map rqe)[((i:Nat):Int).toNat]?=some (rqe s):=by rw[Int.toNat_natCast,List.getElem?_map,h1];rfl
   have hz0:(x.l.map rqe)[i]?=some (rqe s):=by rw[List.getElem?_map,h1];rfl
   have hN2:RcN { x with got:=x.got+0,us:=x.us+0 }:= { hN with us:=by dsimp only;omega }
   by_cases hk:s.k=2
   rotate_left
   ·rw[if_pos (show Kx s f from .inl (by omega))] at hK
    dsimp only[rcL,rcX]
    refine aJ Tryz.func51 ?_
    repeat' (first|refine TJ ?_|refine ON d51_4_0_rcdata_ok d51_4_1_rcdata_ok d51_4_2_rcdata_ok ?_|refine dw d51_6_0_rcdata_ok ?_|refine dw d51_9_0_rcdata_ok ?_|refine dw d51_13_0_rcdata_ok ?_|refine dw d51_17_0_rcdata_ok ?_|refine dw d51_20_0_rcdata_ok ?_|refine w5 ?_ ?_|((refine bh fun h=>?_) <;> try exact w6 h)|(refine aF fun hA=>?_;subst hA)|intro _|(show aA _ 104 _ _ _;refine CA (h:=rcfindY_ok (x:= { x with got:=x.got+0 }) hN.len h1 h2 h3 ?_);dsimp only[rcX])|(show aA _ 105 _ _ _;refine CA (h:=rcreset_ok (x:= { x with got:=x.got+0,us:=x.us+0 }) hN2 (fun _ _ _ _=>?_))))
    all_goals(refine aC ?_;exact aB (hK _ _ _ _))
   cases hen:s.en with
   |true=>
    rw[if_pos (show Kx s f from .inr (.inl hen))] at hK
    have hz1:(rqe s).en=true:=hen
    dsimp only[rcL,rcX]
    refine aJ Tryz.func51 ?_
    repeat' (first|(show Br _ _ _;first|refine Br.t hen ?_|refine Br.t hz1 ?_)|(show cU _ _ _;first|rw[hen]|rw[hz1])|refine TJ ?_|refine ON d51_4_0_rcdata_ok d51_4_1_rcdata_ok d51_4_2_rcdata_ok ?_|refine dw d51_6_0_rcdata_ok ?_|refine dw d51_9_0_rcdata_ok ?_|refine dw d51_13_0_rcdata_ok ?_|refine dw d51_17_0_rcdata_ok ?_|refine dw d51_20_0_rcdata_ok ?_|refine w5 ?_ ?_|((refine bh fun h=>?_) <;> try exact w6 h)|(refine aF fun hA=>?_;subst hA)|intro _|(show aA _ 104 _ _ _;refine CA (h:=rcfindY_ok (x:= { x with got:=x.got+0 }) hN.len h1 h2 h3 ?_);dsimp only[rcX])|(show aA _ 105 _ _ _;refine CA (h:=rcreset_ok (x:= { x with got:=x.got+0,us:=x.us+0 }) hN2 (fun _ _ _ _=>?_))))
    all_goals(refine aC ?_;exact aB (hK _ _ _ _))
   |false=>
    have hz1:(rqe s).en=false:=hen
    by_cases hde:f.d≠⟨#[]⟩
    ·rw[if_pos (show Kx s f from .inr (.inr (.inr ⟨ht,.inl hde⟩)))] at hK
     have hbq:=Ry hde
     dsimp only[rcL,rcX]
     refine aJ Tryz.func51 ?_
     repeat' (first|(show Br _ _ _;first|refine Br.t hbq ?_|refine Br.f hen ?_|refine Br.f hz1 ?_)|(show cU _ _ _;first|rw[hbq]|rw[hen]|rw[hz1])|refine TJ ?_|refine ON d51_4_0_rcdata_ok d51_4_1_rcdata_ok d51_4_2_rcdata_ok ?_|refine dw d51_6_0_rcdata_ok ?_|refine dw d51_9_0_rcdata_ok ?_|refine dw d51_13_0_rcdata_ok ?_|refine dw d51_17_0_rcdata_ok ?_|refine dw d51_20_0_rcdata_ok ?_|refine w5 ?_ ?_|((refine bh fun h=>?_) <;> try exact w6 h)|(refine aF fun hA=>?_;subst hA)|intro _|(show aA _ 104 _ _ _;refine CA (h:=rcfindY_ok (x:= { x with got:=x.got+0 }) hN.len h1 h2 h3 ?_);dsimp only[rcX])|(show aA _ 105 _ _ _;refine CA (h:=rcreset_ok (x:= { x with got:=x.got+0,us:=x.us+0 }) hN2 (fun _ _ _ _=>?_))))
     all_goals(refine aC ?_;exact aB (hK _ _ _ _))
    have hde:f.d=⟨#[]⟩:=Classical.byContradiction hde
    cases hfe:f.e with
    |false=>
     rw[if_pos (show Kx s f from .inr (.inr (.inr ⟨ht,.inr hfe⟩)))] at hK
     rw[hde]
     dsimp only[rcL,rcX]
     refine aJ Tryz.func51 ?_
     repeat' (first|(show Br _ _ _;first|refine Br.f hen ?_|refine Br.f hz1 ?_)|(show cU _ _ _;first|rw[hen]|rw[hz1])|refine TJ ?_|refine ON d51_4_0_rcdata_ok d51_4_1_rcdata_ok d51_4_2_rcdata_ok ?_|refine dw d51_6_0_rcdata_ok ?_|refine dw d51_9_0_rcdata_ok ?_|refine dw d51_13_0_rcdata_ok ?_|refine dw d51_17_0_rcdata_ok ?_|refine dw d51_20_0_rcdata_ok ?_|refine w5 ?_ ?_|((refine bh fun h=>?_) <;> try exact w6 h)|(refine aF fun hA=>?_;subst hA)|intro _|(show aA _ 104 _ _ _;refine CA (h:=rcfindY_ok (x:= { x with got:=x.got+0 }) hN.len h1 h2 h3 ?_);dsimp only[rcX])|(show aA _ 105 _ _ _;refine CA (h:=rcreset_ok (x:= { x with got:=x.got+0,us:=x.us+0 }) hN2 (fun _ _ _ _=>?_))))
     all_goals(refine aC ?_;exact aB (hK _ _ _ _))
    |true=>
     have hnb:¬Kx s f:=fun h=>by
      rcases h with h|h|h|h
      ·omega
      ·rw[hen] at h;cases h
      ·omega
      ·rcases h.2 with h|h
       ·exact h hde
       ·rw[hfe] at h;cases h
     rw[if_neg hnb,hfe] at hK
     have hp:=hN.l
     have hm:∃z∈x.l,z.id=s.id:=⟨s,List.mem_of_getElem? h1,rfl⟩
     rw[hde]
     have hPe:rsP { s with got:=s.got+0,en:=true }=rsP s:=by show pt _ _ _=pt _ _ _;rw[show s.got+0=s.got by omega]
     dsimp only[rcL,rcX]
     refine aJ Tryz.func51 ?_
     repeat' (first|(show Br _ _ _;first|refine Br.f hen ?_|refine Br.f hz1 ?_)|(show cU _ _ _;first|rw[hen]|rw[hz1])|refine TJ ?_|refine ON d51_4_0_rcdata_ok d51_4_1_rcdata_ok d51_4_2_rcdata_ok ?_|refine dw d51_6_0_rcdata_ok ?_|refine dw d51_9_0_rcdata_ok ?_|refine dw d51_13_0_rcdata_ok ?_|refine dw d51_17_0_rcdata_ok ?_|refine dw d51_20_0_rcdata_ok ?_|refine w5 ?_ ?_|((refine bh fun h=>?_) <;> try exact w6 h)|(refine aF fun hA=>?_;subst hA)|intro _|(show aA _ 104 _ _ _;refine CA (h:=rcfindY_ok (x:= { x with got:=x.got+0 }) hN.len h1 h2 h3 ?_);dsimp only[rcX])|(show aA _ 106 _ _ _;refine CA (h:=rcset_ok (x:= { x with got:=x.got+0 }) (s:= { s with got:=s.got+0,en:=true }) hN.len hp hm (fun A' c'=>?_))))
     all_goals(refine aC ?_;exact aQ (aG.trans (by exact bE) ((aG.cons (aG.cons (rs_set_star (s':= { s with got:=s.got+0,en:=true }) hp h1 rfl hPe))))) ((hK _ _ _ _)))
end Go.Proofs.YtffnpejdkkohcaaGreat
