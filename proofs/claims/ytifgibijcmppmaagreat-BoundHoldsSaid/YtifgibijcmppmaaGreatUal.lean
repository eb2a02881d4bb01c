/- A part of the proof: lemmas; each with the conditions that it states. -/
import Derived.Test.YtifgibijcmppmaaGreatUaj
set_option linter.unusedVariables false
set_option linter.unusedSimpArgs false
set_option maxRecDepth 100000
set_option maxHeartbeats 40000000
namespace Go.Proofs.YtifgibijcmppmaaGreat
open Go Go.Proofs Go.Sl
attribute [local irreducible] aN fN cX bP aM aX aA dS dV aT dU pt ro eV star sep bH
section
variable {R C:List HP} {K:KP}
section
variable {s li tt r cap:Nat} {id sta ac se dr rcap most gr got us:Int} {own en ou ren:Bool} {bs rb:List UInt8}
variable {t st k on w c la n:Int} {e x:Bool} {d:ByteArray} {pa:Option Addr} {pn pc:Nat}
def oB (sta:Int) (e:Bool):Int:=if e=true then(if sta=1 then 3 else 4) else sta
def fU:List (Nat×Nat):= [(2,0),(3,1),(0,1),(1,1),(4,0),(5,0)]
def fW:List (Nat×Nat):= [(0,0),(1,0),(2,0),(3,0),(4,0),(5,0),(6,0),(7,0),(8,1),(9,0),(10,0),(11,0),(12,0),(13,0)]
theorem Sp (ht:t≠0) (hK:K (.tuple #[I6 6,.bool false]) (pt s [PO li,PO tt,PO r,I6 id,.bool own] 258::yN tt cap bs en ou ac se dr::R)):CT 261 #[PO s,.agg #[I6 t,I6 st,.bool e,.string d,I6 k,I6 on,I6 w,.bool x,I6 c,I6 la,I6 n,.slice pa pn pc]] (pt s [PO li,PO tt,PO r,I6 id,.bool own] 258::yN tt cap bs en ou ac se dr::R) K:=by
 refine aH Tryz.func261 ?_
 repeat' (first|refine Bc ?_|refine dw fU ?_|refine dw fW ?_|refine w5 ?_ ?_|((refine bh fun h=>?_) <;> try exact w6 h)|(refine aE fun hA=>?_;subst hA)|intro _|(show aA _ 293 _ _ _;refine CA (h:=p6 ?_)))
 (refine aC ?_;exact aB (hK))
theorem RZ (hm:¬(sta=1∨sta=2)) (hK:K (.tuple #[I6 7,.bool false]) (pt s [PO li,PO tt,PO r,I6 id,.bool own] 258::o6 li sta::yN tt cap bs en ou ac se dr::R)):CT 261 #[PO s,.agg #[I6 0,I6 st,.bool e,.string d,I6 k,I6 on,I6 w,.bool x,I6 c,I6 la,I6 n,.slice pa pn pc]] (pt s [PO li,PO tt,PO r,I6 id,.bool own] 258::o6 li sta::yN tt cap bs en ou ac se dr::R) K:=by
 have hd:decide (sta=1∨sta=2)=false:=decide_eq_false hm
 refine aH Tryz.func261 ?_
 repeat' (first|(show cX _ _ _;rw[hd])|refine Bc ?_|refine dw fU ?_|refine dw fW ?_|refine w5 ?_ ?_|((refine bh fun h=>?_) <;> try exact w6 h)|(refine aE fun hA=>?_;subst hA)|intro _|(show aA _ 293 _ _ _;refine CA (h:=p6 ?_))|(show aA _ 188 _ _ _;refine CA (h:=eH ?_)))
 (refine aC ?_;exact aB (hK))
theorem SP (hm:sta=1∨sta=2) (hr:ren=true) (hK:K (.tuple #[I6 7,.bool false]) (pt s [PO li,PO tt,PO r,I6 id,.bool own] 258::o6 li sta::yN tt cap bs en ou ac se dr::yF r rcap most gr got us rb ren::R)):CT 261 #[PO s,.agg #[I6 0,I6 st,.bool e,.string d,I6 k,I6 on,I6 w,.bool x,I6 c,I6 la,I6 n,.slice pa pn pc]] (pt s [PO li,PO tt,PO r,I6 id,.bool own] 258::o6 li sta::yN tt cap bs en ou ac se dr::yF r rcap most gr got us rb ren::R) K:=by
 have hd:decide (sta=1∨sta=2)=true:=decide_eq_true hm
 refine aH Tryz.func261 ?_
 repeat' (first|(show cX _ _ _;rw[hd])|refine Bc ?_|refine dw fU ?_|refine dw fW ?_|refine w5 ?_ ?_|((refine bh fun h=>?_) <;> try exact w6 h)|(refine aE fun hA=>?_;subst hA)|intro _|(show aA _ 293 _ _ _;refine CA (h:=p6 ?_))|(show aA _ 188 _ _ _;refine CA (h:=eH ?_))|(show aA _ 341 _ _ _;refine CA (h:=JO hr ?_)))
 (refine aC ?_;exact aB (hK))
theorem TM (hm:sta=1∨sta=2) (hr:ren=false) (hs:max (gr - got) 0<d.size) (hK:K (.tuple #[I6 8,.bool false]) (pt s [PO li,PO tt,PO r,I6 id,.bool own] 258::o6 li sta::yN tt cap bs en ou ac se dr::yF r rcap most gr got us rb ren::R)):CT 261 #[PO s,.agg #[I6 0,I6 st,.bool e,.string d,I6 k,I6 on,I6 w,.bool x,I6 c,I6 la,I6 n,.slice pa pn pc]] (pt s [PO li,PO tt,PO r,I6 id,.bool own] 258::o6 li sta::yN tt cap bs en ou ac se dr::yF r rcap most gr got us rb ren::R) K:=by
 have hd:decide (sta=1∨sta=2)=true:=decide_eq_true hm
 refine aH Tryz.func261 ?_
 repeat' (first|(show cX _ _ _;rw[hd])|refine Bc ?_|refine dw fU ?_|refine dw fW ?_|refine w5 ?_ ?_|((refine bh fun h=>?_) <;> try exact w6 h)|(refine aE fun hA=>?_;subst hA)|intro _|(show aA _ 293 _ _ _;refine CA (h:=p6 ?_))|(show aA _ 188 _ _ _;refine CA (h:=eH ?_))|(show aA _ 341 _ _ _;refine CA (h:=JH hr hs ?_)))
 (refine aC ?_;exact aB (hK))
theorem VM (hm:sta=1∨sta=2) (hr:ren=false) (hs:d.size≤max (gr - got) 0) (hb:got+d.size≤400000000) (hK:K (.tuple #[I6 0,.bool true]) (pt s [PO li,PO tt,PO r,I6 id,.bool own] 258::o6 li (oB sta e)::yN tt cap bs en ou ac se dr::yF r rcap most gr (got+d.size) us (rb++d.data.toList) e::R)):CT 261 #[PO s,.agg #[I6 0,I6 st,.bool e,.string d,I6 k,I6 on,I6 w,.bool x,I6 c,I6 la,I6 n,.slice pa pn pc]] (pt s [PO li,PO tt,PO r,I6 id,.bool own] 258::o6 li sta::yN tt cap bs en ou ac se dr::yF r rcap most gr got us rb ren::R) K:=by
 have hd:decide (sta=1∨sta=2)=true:=decide_eq_true hm
 cases e
 ·rw[oB,if_neg (by simp)] at hK
  refine aH Tryz.func261 ?_
  repeat' (first|(show cX _ _ _;rw[hd])|refine Bc ?_|refine dw fU ?_|refine dw fW ?_|refine w5 ?_ ?_|((refine bh fun h=>?_) <;> try exact w6 h)|(refine aE fun hA=>?_;subst hA)|intro _|(show aA _ 293 _ _ _;refine CA (h:=p6 ?_))|(show aA _ 188 _ _ _;refine CA (h:=eH ?_))|(show aA _ 341 _ _ _;refine CA (h:=DF hr hs hb ?_)))
  (refine aC ?_;exact aB (hK))
 ·have hl:wS sta 3=oB sta true:=by rcases hm with rfl|rfl <;> rfl
  have hl1:oB sta true≠-1:=by rcases hm with rfl|rfl <;> decide
  refine aH Tryz.func261 ?_
  repeat' (first|(show cX _ _ _;rw[hd])|refine Bc ?_|refine dw fU ?_|refine dw fW ?_|refine w5 ?_ ?_|((refine bh fun h=>?_) <;> try exact w6 h)|(refine aE fun hA=>?_;subst hA)|intro _|(show aA _ 293 _ _ _;refine CA (h:=p6 ?_))|(show aA _ 188 _ _ _;refine CA (h:=eH ?_))|(show aA _ 341 _ _ _;refine CA (h:=DF hr hs hb ?_))|(show aA _ 237 _ _ _;refine CA (h:=kY (by omega) (by omega) hl hl1 ?_)))
  (refine aC ?_;exact aB (hK))
end
end
section
variable {R C:List HP} {K:KP}
section
variable {s li tt r cap:Nat} {id sta ac se dr w0 sg mr room open_ ask a1 t1 d1:Int} {own en ou ren:Bool} {l rl:List ByteArray}
variable {t st k on w c la n:Int} {e x:Bool} {d:ByteArray} {pa:Option Addr} {pn pc:Nat}
theorem nX (hK:K (I6 1) (pt s [PO li,PO tt,PO r,I6 id,.bool own] 258::pY tt cap sg l w0 en ou ac se dr::R)):CT 293 #[PO s] (pt s [PO li,PO tt,PO r,I6 id,.bool own] 258::pY tt cap sg l w0 en ou ac se dr::R) K:=by
 refine aH Tryz.func293 ?_
 repeat' (first|refine v3 ?_|refine w5 ?_ ?_|((refine bh fun h=>?_) <;> try exact w6 h)|(refine aE fun hA=>?_;subst hA)|intro _|(show aA _ 107 _ _ _;refine CA (h:=ES ?_)))
 (refine aC ?_;exact aB (hK))
def eM:List (Nat×Nat):= [(2,0),(3,1),(0,1),(1,1),(4,0),(5,0)]
def eQ:List (Nat×Nat):= [(0,0),(1,0),(2,0),(3,0),(4,0),(5,0),(6,0),(7,0),(8,1),(9,0),(10,0),(11,0),(12,0),(13,0)]
theorem TU (ht:t≠1) (hK:K (.tuple #[I6 6,.bool false]) (pt s [PO li,PO tt,PO r,I6 id,.bool own] 258::pY tt cap sg l w0 en ou ac se dr::R)):CT 261 #[PO s,.agg #[I6 t,I6 st,.bool e,.string d,I6 k,I6 on,I6 w,.bool x,I6 c,I6 la,I6 n,.slice pa pn pc]] (pt s [PO li,PO tt,PO r,I6 id,.bool own] 258::pY tt cap sg l w0 en ou ac se dr::R) K:=by
 refine aH Tryz.func261 ?_
 repeat' (first|refine Bc ?_|refine dw eM ?_|refine dw eQ ?_|refine w5 ?_ ?_|((refine bh fun h=>?_) <;> try exact w6 h)|(refine aE fun hA=>?_;subst hA)|intro _|(show aA _ 293 _ _ _;refine CA (h:=nX ?_)))
 (refine aC ?_;exact aB (hK))
theorem TX (hm:¬(sta=1∨sta=2)) (hK:K (.tuple #[I6 7,.bool false]) (pt s [PO li,PO tt,PO r,I6 id,.bool own] 258::o6 li sta::pY tt cap sg l w0 en ou ac se dr::R)):CT 261 #[PO s,.agg #[I6 1,I6 st,.bool e,.string d,I6 k,I6 on,I6 w,.bool x,I6 c,I6 la,I6 n,.slice pa pn pc]] (pt s [PO li,PO tt,PO r,I6 id,.bool own] 258::o6 li sta::pY tt cap sg l w0 en ou ac se dr::R) K:=by
 have hd:decide (sta=1∨sta=2)=false:=decide_eq_false hm
 refine aH Tryz.func261 ?_
 repeat' (first|(show cX _ _ _;rw[hd])|refine Bc ?_|refine dw eM ?_|refine dw eQ ?_|refine w5 ?_ ?_|((refine bh fun h=>?_) <;> try exact w6 h)|(refine aE fun hA=>?_;subst hA)|intro _|(show aA _ 293 _ _ _;refine CA (h:=nX ?_))|(show aA _ 188 _ _ _;refine CA (h:=eH ?_)))
 (refine aC ?_;exact aB (hK))
theorem S9 (hm:sta=1∨sta=2) (hr:ren=true) (hK:K (.tuple #[I6 7,.bool false]) (pt s [PO li,PO tt,PO r,I6 id,.bool own] 258::o6 li sta::pY tt cap sg l w0 en ou ac se dr::uC r mr room open_ ask rl a1 t1 d1 ren::R)):CT 261 #[PO s,.agg #[I6 1,I6 st,.bool e,.string d,I6 k,I6 on,I6 w,.bool x,I6 c,I6 la,I6 n,.slice pa pn pc]] (pt s [PO li,PO tt,PO r,I6 id,.bool own] 258::o6 li sta::pY tt cap sg l w0 en ou ac se dr::uC r mr room open_ ask rl a1 t1 d1 ren::R) K:=by
 have hd:decide (sta=1∨sta=2)=true:=decide_eq_true hm
 refine aH Tryz.func261 ?_
 repeat' (first|(show cX _ _ _;rw[hd])|refine Bc ?_|refine dw eM ?_|refine dw eQ ?_|refine w5 ?_ ?_|((refine bh fun h=>?_) <;> try exact w6 h)|(refine aE fun hA=>?_;subst hA)|intro _|(show aA _ 293 _ _ _;refine CA (h:=nX ?_))|(show aA _ 188 _ _ _;refine CA (h:=eH ?_))|(show aA _ 341 _ _ _;refine CA (h:=JA hr ?_)))
 (refine aC ?_;exact aB (hK))
theorem RU (hm:sta=1∨sta=2) (hr:ren=false) (hs:d≠⟨#[]⟩∨e=false) (ho:open_<1) (hK:K (.tuple #[I6 10,.bool false]) (pt s [PO li,PO tt,PO r,I6 id,.bool own] 258::o6 li sta::pY tt cap sg l w0 en ou ac se dr::uC r mr room open_ ask rl a1 t1 d1 ren::R)):CT 261 #[PO s,.agg #[I6 1,I6 st,.bool e,.string d,I6 k,I6 on,I6 w,.bool x,I6 c,I6 la,I6 n,.slice pa pn pc]] (pt s [PO li,PO tt,PO r,I6 id,.bool own] 258::o6 li sta::pY tt cap sg l w0 en ou ac se dr::uC r mr room open_ ask rl a1 t1 d1 ren::R) K:=by
 have hd:decide (sta=1∨sta=2)=true:=decide_eq_true hm
 refine aH Tryz.func261 ?_
 repeat' (first|(show cX _ _ _;rw[hd])|refine Bc ?_|refine dw eM ?_|refine dw eQ ?_|refine w5 ?_ ?_|((refine bh fun h=>?_) <;> try exact w6 h)|(refine aE fun hA=>?_;subst hA)|intro _|(show aA _ 293 _ _ _;refine CA (h:=nX ?_))|(show aA _ 188 _ _ _;refine CA (h:=eH ?_))|(show aA _ 341 _ _ _;refine CA (h:=JS hr hs ho ?_)))
 (refine aC ?_;exact aB (hK))
theorem Sq (hm:sta=1∨sta=2) (hr:ren=false) (hK:K (.tuple #[I6 0,.bool true]) (pt s [PO li,PO tt,PO r,I6 id,.bool own] 258::o6 li (oB sta true)::pY tt cap sg l w0 en ou ac se dr::uC r mr room open_ ask rl a1 t1 d1 true::R)):CT 261 #[PO s,.agg #[I6 1,I6 st,.bool true,.string ⟨#[]⟩,I6 k,I6 on,I6 w,.bool x,I6 c,I6 la,I6 n,.slice pa pn pc]] (pt s [PO li,PO tt,PO r,I6 id,.bool own] 258::o6 li sta::pY tt cap sg l w0 en ou ac se dr::uC r mr room open_ ask rl a1 t1 d1 ren::R) K:=by
 have hd:decide (sta=1∨sta=2)=true:=decide_eq_true hm
 have hl:wS sta 3=oB sta true:=by rcases hm with rfl|rfl <;> rfl
 have hl1:oB sta true≠-1:=by rcases hm with rfl|rfl <;> decide
 refine aH Tryz.func261 ?_
 repeat' (first|(show cX _ _ _;rw[hd])|refine Bc ?_|refine dw eM ?_|refine dw eQ ?_|refine w5 ?_ ?_|((refine bh fun h=>?_) <;> try exact w6 h)|(refine aE fun hA=>?_;subst hA)|intro _|(show aA _ 293 _ _ _;refine CA (h:=nX ?_))|(show aA _ 188 _ _ _;refine CA (h:=eH ?_))|(show aA _ 341 _ _ _;refine CA (h:=JC hr ?_))|(show aA _ 237 _ _ _;refine CA (h:=kY (by omega) (by omega) hl hl1 ?_)))
 (refine aC ?_;exact aB (hK))
theorem XF (hm:sta=1∨sta=2) (hr:ren=false) (hs:d≠⟨#[]⟩∨e=false) (ho:1≤open_) (hb:a1≤300000000) (hK:K (.tuple #[I6 0,.bool true]) (pt s [PO li,PO tt,PO r,I6 id,.bool own] 258::o6 li (oB sta e)::pY tt cap sg l w0 en ou ac se dr::uC r mr room (open_ - 1) ask (rl++ [d]) (a1+1) t1 d1 e::R)):CT 261 #[PO s,.agg #[I6 1,I6 st,.bool e,.string d,I6 k,I6 on,I6 w,.bool x,I6 c,I6 la,I6 n,.slice pa pn pc]] (pt s [PO li,PO tt,PO r,I6 id,.bool own] 258::o6 li sta::pY tt cap sg l w0 en ou ac se dr::uC r mr room open_ ask rl a1 t1 d1 ren::R) K:=by
 have hd:decide (sta=1∨sta=2)=true:=decide_eq_true hm
 cases e
 ·rw[oB,if_neg (by simp)] at hK
  refine aH Tryz.func261 ?_
  repeat' (first|(show cX _ _ _;rw[hd])|refine Bc ?_|refine dw eM ?_|refine dw eQ ?_|refine w5 ?_ ?_|((refine bh fun h=>?_) <;> try exact w6 h)|(refine aE fun hA=>?_;subst hA)|intro _|(show aA _ 293 _ _ _;refine CA (h:=nX ?_))|(show aA _ 188 _ _ _;refine CA (h:=eH ?_))|(show aA _ 341 _ _ _;refine CA (h:=D7 hr hs ho hb ?_)))
  (refine aC ?_;exact aB (hK))
 ·have hl:wS sta 3=oB sta true:=by rcases hm with rfl|rfl <;> rfl
  have hl1:oB sta true≠-1:=by rcases hm with rfl|rfl <;> decide
  refine aH Tryz.func261 ?_
  repeat' (first|(show cX _ _ _;rw[hd])|refine Bc ?_|refine dw eM ?_|refine dw eQ ?_|refine w5 ?_ ?_|((refine bh fun h=>?_) <;> try exact w6 h)|(refine aE fun hA=>?_;subst hA)|intro _|(show aA _ 293 _ _ _;refine CA (h:=nX ?_))|(show aA _ 188 _ _ _;refine CA (h:=eH ?_))|(show aA _ 341 _ _ _;refine CA (h:=D7 hr hs ho hb ?_))|(show aA _ 237 _ _ _;refine CA (h:=kY (by omega) (by omega) hl hl1 ?_)))
  (refine aC ?_;exact aB (hK))
theorem Abu {ev:Int} (he:ev=4∨ev=5) (hs:sta=4) (hK:K (I6 0) (pt s [PO li,PO tt,PO r,I6 id,.bool own] 258::o6 li sta::R)):CT 337 #[PO s,I6 ev] (pt s [PO li,PO tt,PO r,I6 id,.bool own] 258::o6 li sta::R) K:=by
 subst hs
 have hl:wS 4 ev=-1:=by rcases he with rfl|rfl <;> rfl
 refine aH Tryz.func337 ?_
 repeat' (first|refine zQ ?_|refine w5 ?_ ?_|((refine bh fun h=>?_) <;> try exact w6 h)|(refine aE fun hA=>?_;subst hA)|intro _|(show aA _ 237 _ _ _;refine CA (h:=Tn (by omega) (by omega) hl ?_)))
 all_goals(refine aC ?_;exact aB (hK))
theorem Adu {ev:Int} (he:ev=4∨ev=5) (hs:sta=1∨sta=2∨sta=3) (hK:K (I6 0) (pt s [PO li,PO tt,PO r,I6 id,.bool own] 258::o6 li 4::pY tt cap sg [] w0 en ou ac se (dr+l.length)::uC r mr room open_ ask [] a1 t1 (d1+rl.length) ren::R)):CT 337 #[PO s,I6 ev] (pt s [PO li,PO tt,PO r,I6 id,.bool own] 258::o6 li sta::pY tt cap sg l w0 en ou ac se dr::uC r mr room open_ ask rl a1 t1 d1 ren::R) K:=by
 have hl:wS sta ev=4:=by rcases hs with rfl|rfl|rfl <;> rcases he with rfl|rfl <;> rfl
 refine aH Tryz.func337 ?_
 repeat' (first|refine zQ ?_|refine w5 ?_ ?_|((refine bh fun h=>?_) <;> try exact w6 h)|(refine aE fun hA=>?_;subst hA)|intro _|(show aA _ 237 _ _ _;refine CA (h:=kY (by omega) (by omega) hl (by omega) ?_))|(show aA _ 385 _ _ _;refine CA (h:=Ol ?_))|(show aA _ 338 _ _ _;refine CA (h:=FX ?_))|(show aA _ 107 _ _ _;refine CA (h:=ES ?_)))
 all_goals(refine aC ?_;exact aB (hK))
end
section
variable {s li tt r cap:Nat} {id sta ac se dr rcap most gr got us:Int} {own en ou ren:Bool} {bs rb:List UInt8}
theorem ZQ {ev:Int} (he:ev=4∨ev=5) (hs:sta=1∨sta=2∨sta=3) (hK:K (I6 rb.length) (pt s [PO li,PO tt,PO r,I6 id,.bool own] 258::o6 li 4::yN tt cap [] en ou ac se (dr+bs.length)::yF r rcap most gr got (us+rb.length) [] ren::R)):CT 337 #[PO s,I6 ev] (pt s [PO li,PO tt,PO r,I6 id,.bool own] 258::o6 li sta::yN tt cap bs en ou ac se dr::yF r rcap most gr got us rb ren::R) K:=by
 have hl:wS sta ev=4:=by rcases hs with rfl|rfl|rfl <;> rcases he with rfl|rfl <;> rfl
 refine aH Tryz.func337 ?_
 repeat' (first|refine zQ ?_|refine w5 ?_ ?_|((refine bh fun h=>?_) <;> try exact w6 h)|(refine aE fun hA=>?_;subst hA)|intro _|(show aA _ 237 _ _ _;refine CA (h:=kY (by omega) (by omega) hl (by omega) ?_))|(show aA _ 385 _ _ _;refine CA (h:=OL ?_))|(show aA _ 338 _ _ _;refine CA (h:=F3 ?_))|(show aA _ 107 _ _ _;refine CA (h:=Ff ?_)))
 all_goals(refine aC ?_;exact aB (hK))
end
end
end Go.Proofs.YtifgibijcmppmaaGreat
