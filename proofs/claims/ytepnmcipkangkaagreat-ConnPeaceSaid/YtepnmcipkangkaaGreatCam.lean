/- A part of the proof: lemmas; each with the conditions that it states. -/
import Derived.Test.YtepnmcipkangkaaGreatCak
set_option linter.unusedVariables false
set_option linter.unusedSimpArgs false
set_option maxRecDepth 100000
set_option maxHeartbeats 40000000
namespace Go.Proofs.YtepnmcipkangkaaGreat
open Go Go.Proofs Go.Sl
attribute [local irreducible] aN fL cL bM aL aR aA dJ dK aU dI pt ro fC star sep bF
variable {R C:List HP} {K:KP} {s li tt r cap pn pc:Nat} {id sta ac se dr rcap most gr got us t st k on w c la n w0 sg mr room open_ ask a1 t1 d1 ev:Int} {own en ou ren e x:Bool} {bs rb:List UInt8} {d:ByteArray} {pa:Option Addr} {l rl:List ByteArray}
def pW (sta:Int) (e:Bool):Int:=if e=true then(if sta=1 then 3 else 4) else sta
def gH:List (Nat×Nat):= [(2,0),(3,1),(0,1),(1,1),(4,0),(5,0)]
def gG:List (Nat×Nat):= [(0,0),(1,0),(2,0),(3,0),(4,0),(5,0),(6,0),(7,0),(8,1),(9,0),(10,0),(11,0),(12,0),(13,0)]
theorem Tw (ht:t≠0) (hK:K (.tuple #[I6 6,.bool false]) (pt s [PO li,PO tt,PO r,I6 id,.bool own] 223::zF tt cap bs en ou ac se dr::R)):CT 306 #[PO s,.agg #[I6 t,I6 st,.bool e,.string d,I6 k,I6 on,I6 w,.bool x,I6 c,I6 la,I6 n,.slice pa pn pc]] (pt s [PO li,PO tt,PO r,I6 id,.bool own] 223::zF tt cap bs en ou ac se dr::R) K:=by
 refine aH Tryz.func306 ?_
 repeat' (first|refine B8 ?_|refine dw gH ?_|refine dw gG ?_|refine w5 ?_ ?_|((refine bh fun h=>?_) <;> try exact w6 h)|(refine aE fun hA=>?_;subst hA)|intro _|(show aA _ 284 _ _ _;refine CA (h:=sG ?_)))
 (refine aC ?_;exact aB (hK))
theorem SZ (hm:¬(sta=1\/sta=2)) (hK:K (.tuple #[I6 7,.bool false]) (pt s [PO li,PO tt,PO r,I6 id,.bool own] 223::qU li sta::zF tt cap bs en ou ac se dr::R)):CT 306 #[PO s,.agg #[I6 0,I6 st,.bool e,.string d,I6 k,I6 on,I6 w,.bool x,I6 c,I6 la,I6 n,.slice pa pn pc]] (pt s [PO li,PO tt,PO r,I6 id,.bool own] 223::qU li sta::zF tt cap bs en ou ac se dr::R) K:=by
 have hd:decide (sta=1\/sta=2)=false:=decide_eq_false hm
 refine aH Tryz.func306 ?_
 repeat' (first|(show cL _ _ _;rw[hd])|refine B8 ?_|refine dw gH ?_|refine dw gG ?_|refine w5 ?_ ?_|((refine bh fun h=>?_) <;> try exact w6 h)|(refine aE fun hA=>?_;subst hA)|intro _|(show aA _ 284 _ _ _;refine CA (h:=sG ?_))|(show aA _ 186 _ _ _;refine CA (h:=eR ?_)))
 (refine aC ?_;exact aB (hK))
theorem Tl (hm:sta=1\/sta=2) (hr:ren=true) (hK:K (.tuple #[I6 7,.bool false]) (pt s [PO li,PO tt,PO r,I6 id,.bool own] 223::qU li sta::zF tt cap bs en ou ac se dr::xN r rcap most gr got us rb ren::R)):CT 306 #[PO s,.agg #[I6 0,I6 st,.bool e,.string d,I6 k,I6 on,I6 w,.bool x,I6 c,I6 la,I6 n,.slice pa pn pc]] (pt s [PO li,PO tt,PO r,I6 id,.bool own] 223::qU li sta::zF tt cap bs en ou ac se dr::xN r rcap most gr got us rb ren::R) K:=by
 have hd:decide (sta=1\/sta=2)=true:=decide_eq_true hm
 refine aH Tryz.func306 ?_
 repeat' (first|(show cL _ _ _;rw[hd])|refine B8 ?_|refine dw gH ?_|refine dw gG ?_|refine w5 ?_ ?_|((refine bh fun h=>?_) <;> try exact w6 h)|(refine aE fun hA=>?_;subst hA)|intro _|(show aA _ 284 _ _ _;refine CA (h:=sG ?_))|(show aA _ 186 _ _ _;refine CA (h:=eR ?_))|(show aA _ 389 _ _ _;refine CA (h:=Kw hr ?_)))
 (refine aC ?_;exact aB (hK))
theorem S6 (hm:sta=1\/sta=2) (hr:ren=false) (hs:max (gr - got) 0<d.size) (hK:K (.tuple #[I6 8,.bool false]) (pt s [PO li,PO tt,PO r,I6 id,.bool own] 223::qU li sta::zF tt cap bs en ou ac se dr::xN r rcap most gr got us rb ren::R)):CT 306 #[PO s,.agg #[I6 0,I6 st,.bool e,.string d,I6 k,I6 on,I6 w,.bool x,I6 c,I6 la,I6 n,.slice pa pn pc]] (pt s [PO li,PO tt,PO r,I6 id,.bool own] 223::qU li sta::zF tt cap bs en ou ac se dr::xN r rcap most gr got us rb ren::R) K:=by
 have hd:decide (sta=1\/sta=2)=true:=decide_eq_true hm
 refine aH Tryz.func306 ?_
 repeat' (first|(show cL _ _ _;rw[hd])|refine B8 ?_|refine dw gH ?_|refine dw gG ?_|refine w5 ?_ ?_|((refine bh fun h=>?_) <;> try exact w6 h)|(refine aE fun hA=>?_;subst hA)|intro _|(show aA _ 284 _ _ _;refine CA (h:=sG ?_))|(show aA _ 186 _ _ _;refine CA (h:=eR ?_))|(show aA _ 389 _ _ _;refine CA (h:=Kl hr hs ?_)))
 (refine aC ?_;exact aB (hK))
theorem Za (hm:sta=1\/sta=2) (hr:ren=false) (hs:d.size<=max (gr - got) 0) (hb:got+d.size<=400000000) (hK:K (.tuple #[I6 0,.bool true]) (pt s [PO li,PO tt,PO r,I6 id,.bool own] 223::qU li (pW sta e)::zF tt cap bs en ou ac se dr::xN r rcap most gr (got+d.size) us (rb++d.data.toList) e::R)):CT 306 #[PO s,.agg #[I6 0,I6 st,.bool e,.string d,I6 k,I6 on,I6 w,.bool x,I6 c,I6 la,I6 n,.slice pa pn pc]] (pt s [PO li,PO tt,PO r,I6 id,.bool own] 223::qU li sta::zF tt cap bs en ou ac se dr::xN r rcap most gr got us rb ren::R) K:=by
 have hd:decide (sta=1\/sta=2)=true:=decide_eq_true hm
 cases e
 ·rw[pW,if_neg (by simp)] at hK
  refine aH Tryz.func306 ?_
  repeat' (first|(show cL _ _ _;rw[hd])|refine B8 ?_|refine dw gH ?_|refine dw gG ?_|refine w5 ?_ ?_|((refine bh fun h=>?_) <;> try exact w6 h)|(refine aE fun hA=>?_;subst hA)|intro _|(show aA _ 284 _ _ _;refine CA (h:=sG ?_))|(show aA _ 186 _ _ _;refine CA (h:=eR ?_))|(show aA _ 389 _ _ _;refine CA (h:=Ey hr hs hb ?_)))
  (refine aC ?_;exact aB (hK))
 ·have hl:y6 sta 3=pW sta true:=by rcases hm with rfl|rfl <;> rfl
  have hl1:pW sta true≠-1:=by rcases hm with rfl|rfl <;> decide
  refine aH Tryz.func306 ?_
  repeat' (first|(show cL _ _ _;rw[hd])|refine B8 ?_|refine dw gH ?_|refine dw gG ?_|refine w5 ?_ ?_|((refine bh fun h=>?_) <;> try exact w6 h)|(refine aE fun hA=>?_;subst hA)|intro _|(show aA _ 284 _ _ _;refine CA (h:=sG ?_))|(show aA _ 186 _ _ _;refine CA (h:=eR ?_))|(show aA _ 389 _ _ _;refine CA (h:=Ey hr hs hb ?_))|(show aA _ 258 _ _ _;refine CA (h:=mE (by omega) (by omega) hl hl1 ?_)))
  (refine aC ?_;exact aB (hK))
theorem pU (hK:K (I6 1) (pt s [PO li,PO tt,PO r,I6 id,.bool own] 223::rV tt cap sg l w0 en ou ac se dr::R)):CT 284 #[PO s] (pt s [PO li,PO tt,PO r,I6 id,.bool own] 223::rV tt cap sg l w0 en ou ac se dr::R) K:=by
 refine aH Tryz.func284 ?_
 repeat' (first|refine v3 ?_|refine w5 ?_ ?_|((refine bh fun h=>?_) <;> try exact w6 h)|(refine aE fun hA=>?_;subst hA)|intro _|(show aA _ 70 _ _ _;refine CA (h:=Gf ?_)))
 (refine aC ?_;exact aB (hK))
def fA:List (Nat×Nat):= [(2,0),(3,1),(0,1),(1,1),(4,0),(5,0)]
def eW:List (Nat×Nat):= [(0,0),(1,0),(2,0),(3,0),(4,0),(5,0),(6,0),(7,0),(8,1),(9,0),(10,0),(11,0),(12,0),(13,0)]
theorem UZ (ht:t≠1) (hK:K (.tuple #[I6 6,.bool false]) (pt s [PO li,PO tt,PO r,I6 id,.bool own] 223::rV tt cap sg l w0 en ou ac se dr::R)):CT 306 #[PO s,.agg #[I6 t,I6 st,.bool e,.string d,I6 k,I6 on,I6 w,.bool x,I6 c,I6 la,I6 n,.slice pa pn pc]] (pt s [PO li,PO tt,PO r,I6 id,.bool own] 223::rV tt cap sg l w0 en ou ac se dr::R) K:=by
 refine aH Tryz.func306 ?_
 repeat' (first|refine B8 ?_|refine dw fA ?_|refine dw eW ?_|refine w5 ?_ ?_|((refine bh fun h=>?_) <;> try exact w6 h)|(refine aE fun hA=>?_;subst hA)|intro _|(show aA _ 284 _ _ _;refine CA (h:=pU ?_)))
 (refine aC ?_;exact aB (hK))
theorem S7 (hm:¬(sta=1\/sta=2)) (hK:K (.tuple #[I6 7,.bool false]) (pt s [PO li,PO tt,PO r,I6 id,.bool own] 223::qU li sta::rV tt cap sg l w0 en ou ac se dr::R)):CT 306 #[PO s,.agg #[I6 1,I6 st,.bool e,.string d,I6 k,I6 on,I6 w,.bool x,I6 c,I6 la,I6 n,.slice pa pn pc]] (pt s [PO li,PO tt,PO r,I6 id,.bool own] 223::qU li sta::rV tt cap sg l w0 en ou ac se dr::R) K:=by
 have hd:decide (sta=1\/sta=2)=false:=decide_eq_false hm
 refine aH Tryz.func306 ?_
 repeat' (first|(show cL _ _ _;rw[hd])|refine B8 ?_|refine dw fA ?_|refine dw eW ?_|refine w5 ?_ ?_|((refine bh fun h=>?_) <;> try exact w6 h)|(refine aE fun hA=>?_;subst hA)|intro _|(show aA _ 284 _ _ _;refine CA (h:=pU ?_))|(show aA _ 186 _ _ _;refine CA (h:=eR ?_)))
 (refine aC ?_;exact aB (hK))
theorem Tk (hm:sta=1\/sta=2) (hr:ren=true) (hK:K (.tuple #[I6 7,.bool false]) (pt s [PO li,PO tt,PO r,I6 id,.bool own] 223::qU li sta::rV tt cap sg l w0 en ou ac se dr::uB r mr room open_ ask rl a1 t1 d1 ren::R)):CT 306 #[PO s,.agg #[I6 1,I6 st,.bool e,.string d,I6 k,I6 on,I6 w,.bool x,I6 c,I6 la,I6 n,.slice pa pn pc]] (pt s [PO li,PO tt,PO r,I6 id,.bool own] 223::qU li sta::rV tt cap sg l w0 en ou ac se dr::uB r mr room open_ ask rl a1 t1 d1 ren::R) K:=by
 have hd:decide (sta=1\/sta=2)=true:=decide_eq_true hm
 refine aH Tryz.func306 ?_
 repeat' (first|(show cL _ _ _;rw[hd])|refine B8 ?_|refine dw fA ?_|refine dw eW ?_|refine w5 ?_ ?_|((refine bh fun h=>?_) <;> try exact w6 h)|(refine aE fun hA=>?_;subst hA)|intro _|(show aA _ 284 _ _ _;refine CA (h:=pU ?_))|(show aA _ 186 _ _ _;refine CA (h:=eR ?_))|(show aA _ 389 _ _ _;refine CA (h:=Km hr ?_)))
 (refine aC ?_;exact aB (hK))
theorem Up (hm:sta=1\/sta=2) (hr:ren=false) (hs:d≠⟨#[]⟩\/e=false) (ho:open_<1) (hK:K (.tuple #[I6 10,.bool false]) (pt s [PO li,PO tt,PO r,I6 id,.bool own] 223::qU li sta::rV tt cap sg l w0 en ou ac se dr::uB r mr room open_ ask rl a1 t1 d1 ren::R)):CT 306 #[PO s,.agg #[I6 1,I6 st,.bool e,.string d,I6 k,I6 on,I6 w,.bool x,I6 c,I6 la,I6 n,.slice pa pn pc]] (pt s [PO li,PO tt,PO r,I6 id,.bool own] 223::qU li sta::rV tt cap sg l w0 en ou ac se dr::uB r mr room open_ ask rl a1 t1 d1 ren::R) K:=by
 have hd:decide (sta=1\/sta=2)=true:=decide_eq_true hm
 refine aH Tryz.func306 ?_
 repeat' (first|(show cL _ _ _;rw[hd])|refine B8 ?_|refine dw fA ?_|refine dw eW ?_|refine w5 ?_ ?_|((refine bh fun h=>?_) <;> try exact w6 h)|(refine aE fun hA=>?_;subst hA)|intro _|(show aA _ 284 _ _ _;refine CA (h:=pU ?_))|(show aA _ 186 _ _ _;refine CA (h:=eR ?_))|(show aA _ 389 _ _ _;refine CA (h:=KB hr hs ho ?_)))
 (refine aC ?_;exact aB (hK))
theorem TF (hm:sta=1\/sta=2) (hr:ren=false) (hK:K (.tuple #[I6 0,.bool true]) (pt s [PO li,PO tt,PO r,I6 id,.bool own] 223::qU li (pW sta true)::rV tt cap sg l w0 en ou ac se dr::uB r mr room open_ ask rl a1 t1 d1 true::R)):CT 306 #[PO s,.agg #[I6 1,I6 st,.bool true,.string ⟨#[]⟩,I6 k,I6 on,I6 w,.bool x,I6 c,I6 la,I6 n,.slice pa pn pc]] (pt s [PO li,PO tt,PO r,I6 id,.bool own] 223::qU li sta::rV tt cap sg l w0 en ou ac se dr::uB r mr room open_ ask rl a1 t1 d1 ren::R) K:=by
 have hd:decide (sta=1\/sta=2)=true:=decide_eq_true hm
 have hl:y6 sta 3=pW sta true:=by rcases hm with rfl|rfl <;> rfl
 have hl1:pW sta true≠-1:=by rcases hm with rfl|rfl <;> decide
 refine aH Tryz.func306 ?_
 repeat' (first|(show cL _ _ _;rw[hd])|refine B8 ?_|refine dw fA ?_|refine dw eW ?_|refine w5 ?_ ?_|((refine bh fun h=>?_) <;> try exact w6 h)|(refine aE fun hA=>?_;subst hA)|intro _|(show aA _ 284 _ _ _;refine CA (h:=pU ?_))|(show aA _ 186 _ _ _;refine CA (h:=eR ?_))|(show aA _ 389 _ _ _;refine CA (h:=Ky hr ?_))|(show aA _ 258 _ _ _;refine CA (h:=mE (by omega) (by omega) hl hl1 ?_)))
 (refine aC ?_;exact aB (hK))
theorem Zf (hm:sta=1\/sta=2) (hr:ren=false) (hs:d≠⟨#[]⟩\/e=false) (ho:1<=open_) (hb:a1<=300000000) (hK:K (.tuple #[I6 0,.bool true]) (pt s [PO li,PO tt,PO r,I6 id,.bool own] 223::qU li (pW sta e)::rV tt cap sg l w0 en ou ac se dr::uB r mr room (open_ - 1) ask (rl++ [d]) (a1+1) t1 d1 e::R)):CT 306 #[PO s,.agg #[I6 1,I6 st,.bool e,.string d,I6 k,I6 on,I6 w,.bool x,I6 c,I6 la,I6 n,.slice pa pn pc]] (pt s [PO li,PO tt,PO r,I6 id,.bool own] 223::qU li sta::rV tt cap sg l w0 en ou ac se dr::uB r mr room open_ ask rl a1 t1 d1 ren::R) K:=by
 have hd:decide (sta=1\/sta=2)=true:=decide_eq_true hm
 cases e
 ·rw[pW,if_neg (by simp)] at hK
  refine aH Tryz.func306 ?_
  repeat' (first|(show cL _ _ _;rw[hd])|refine B8 ?_|refine dw fA ?_|refine dw eW ?_|refine w5 ?_ ?_|((refine bh fun h=>?_) <;> try exact w6 h)|(refine aE fun hA=>?_;subst hA)|intro _|(show aA _ 284 _ _ _;refine CA (h:=pU ?_))|(show aA _ 186 _ _ _;refine CA (h:=eR ?_))|(show aA _ 389 _ _ _;refine CA (h:=Fh hr hs ho hb ?_)))
  (refine aC ?_;exact aB (hK))
 ·have hl:y6 sta 3=pW sta true:=by rcases hm with rfl|rfl <;> rfl
  have hl1:pW sta true≠-1:=by rcases hm with rfl|rfl <;> decide
  refine aH Tryz.func306 ?_
  repeat' (first|(show cL _ _ _;rw[hd])|refine B8 ?_|refine dw fA ?_|refine dw eW ?_|refine w5 ?_ ?_|((refine bh fun h=>?_) <;> try exact w6 h)|(refine aE fun hA=>?_;subst hA)|intro _|(show aA _ 284 _ _ _;refine CA (h:=pU ?_))|(show aA _ 186 _ _ _;refine CA (h:=eR ?_))|(show aA _ 389 _ _ _;refine CA (h:=Fh hr hs ho hb ?_))|(show aA _ 258 _ _ _;refine CA (h:=mE (by omega) (by omega) hl hl1 ?_)))
  (refine aC ?_;exact aB (hK))
theorem Ad3 (he:ev=4\/ev=5) (hs:sta=4) (hK:K (I6 0) (pt s [PO li,PO tt,PO r,I6 id,.bool own] 223::qU li sta::R)):CT 358 #[PO s,I6 ev] (pt s [PO li,PO tt,PO r,I6 id,.bool own] 223::qU li sta::R) K:=by
 subst hs
 have hl:y6 4 ev=-1:=by rcases he with rfl|rfl <;> rfl
 refine aH Tryz.func358 ?_
 repeat' (first|refine AB ?_|refine w5 ?_ ?_|((refine bh fun h=>?_) <;> try exact w6 h)|(refine aE fun hA=>?_;subst hA)|intro _|(show aA _ 258 _ _ _;refine CA (h:=Uy (by omega) (by omega) hl ?_)))
 all_goals(refine aC ?_;exact aB (hK))
theorem Aal (he:ev=4\/ev=5) (hs:sta=1\/sta=2\/sta=3) (hK:K (I6 0) (pt s [PO li,PO tt,PO r,I6 id,.bool own] 223::qU li 4::rV tt cap sg [] w0 en ou ac se (dr+l.length)::uB r mr room open_ ask [] a1 t1 (d1+rl.length) ren::R)):CT 358 #[PO s,I6 ev] (pt s [PO li,PO tt,PO r,I6 id,.bool own] 223::qU li sta::rV tt cap sg l w0 en ou ac se dr::uB r mr room open_ ask rl a1 t1 d1 ren::R) K:=by
 have hl:y6 sta ev=4:=by rcases hs with rfl|rfl|rfl <;> rcases he with rfl|rfl <;> rfl
 refine aH Tryz.func358 ?_
 repeat' (first|refine AB ?_|refine w5 ?_ ?_|((refine bh fun h=>?_) <;> try exact w6 h)|(refine aE fun hA=>?_;subst hA)|intro _|(show aA _ 258 _ _ _;refine CA (h:=mE (by omega) (by omega) hl (by omega) ?_))|(show aA _ 425 _ _ _;refine CA (h:=R3 ?_))|(show aA _ 359 _ _ _;refine CA (h:=GW ?_))|(show aA _ 70 _ _ _;refine CA (h:=Gf ?_)))
 all_goals(refine aC ?_;exact aB (hK))
theorem Aaz (he:ev=4\/ev=5) (hs:sta=1\/sta=2\/sta=3) (hK:K (I6 rb.length) (pt s [PO li,PO tt,PO r,I6 id,.bool own] 223::qU li 4::zF tt cap [] en ou ac se (dr+bs.length)::xN r rcap most gr got (us+rb.length) [] ren::R)):CT 358 #[PO s,I6 ev] (pt s [PO li,PO tt,PO r,I6 id,.bool own] 223::qU li sta::zF tt cap bs en ou ac se dr::xN r rcap most gr got us rb ren::R) K:=by
 have hl:y6 sta ev=4:=by rcases hs with rfl|rfl|rfl <;> rcases he with rfl|rfl <;> rfl
 refine aH Tryz.func358 ?_
 repeat' (first|refine AB ?_|refine w5 ?_ ?_|((refine bh fun h=>?_) <;> try exact w6 h)|(refine aE fun hA=>?_;subst hA)|intro _|(show aA _ 258 _ _ _;refine CA (h:=mE (by omega) (by omega) hl (by omega) ?_))|(show aA _ 425 _ _ _;refine CA (h:=RQ ?_))|(show aA _ 359 _ _ _;refine CA (h:=GP ?_))|(show aA _ 70 _ _ _;refine CA (h:=Gl ?_)))
 all_goals(refine aC ?_;exact aB (hK))
end Go.Proofs.YtepnmcipkangkaaGreat
