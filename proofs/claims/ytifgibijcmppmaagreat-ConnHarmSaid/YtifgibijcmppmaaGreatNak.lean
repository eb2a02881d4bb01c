/- A part of the proof: lemmas; each with the conditions that it states. -/
import Derived.Test.YtifgibijcmppmaaGreatNai
set_option linter.unusedVariables false
set_option linter.unusedSimpArgs false
namespace Go.Proofs.YtifgibijcmppmaaGreat
open Go Go.Proofs Go.Sl
set_option maxRecDepth 100000
set_option maxHeartbeats 40000000
attribute [local irreducible] aN fB cJ bO aM aY aA dM dQ aW dK pt ro fF star sep bI
section
variable {R C:List HP} {K:Value→List HP→Prop}
section
variable {s li tt r cap:Nat} {id sta ac se dr rcap most gr got us:Int} {own en ou ren:Bool} {bs rb:List UInt8}
variable {t st k on w c la n:Int} {e x:Bool} {d:ByteArray} {pa:Option Addr} {pn pc:Nat}
def oW (sta:Int) (e:Bool):Int:=if e=true then(if sta=1 then 3 else 4) else sta
def f6:List (Nat×Nat):= [(2,0),(3,1),(0,1),(1,1),(4,0),(5,0)]
def f8:List (Nat×Nat):= [(0,0),(1,0),(2,0),(3,0),(4,0),(5,0),(6,0),(7,0),(8,1),(9,0),(10,0),(11,0),(12,0),(13,0)]
theorem SD (ht:t≠0) (hK:K (.tuple #[.int .i64 6,.bool false]) (pt s [.pointer (some ⟨li,0,none⟩),.pointer (some ⟨tt,0,none⟩),.pointer (some ⟨r,0,none⟩),.int .i64 id,.bool own] 258::yA tt cap bs en ou ac se dr::R)):aA Tryz.prog 261 #[.pointer (some ⟨s,0,none⟩),.agg #[.int .i64 t,.int .i64 st,.bool e,.string d,.int .i64 k,.int .i64 on,.int .i64 w,.bool x,.int .i64 c,.int .i64 la,.int .i64 n,.slice pa pn pc]] (pt s [.pointer (some ⟨li,0,none⟩),.pointer (some ⟨tt,0,none⟩),.pointer (some ⟨r,0,none⟩),.int .i64 id,.bool own] 258::yA tt cap bs en ou ac se dr::R) K:=by
 refine aH Tryz.func261 ?_
 repeat' (first|refine AK ?_|refine dw f6 ?_|refine dw f8 ?_|refine wr ?_|refine w5 ?_ ?_|((refine bh fun h=>?_) <;> try exact w6 h)|(refine aE fun hA=>?_;subst hA)|intro _|(show aA _ 293 _ _ _;refine CA (h:=qX ?_)))
 (refine aC ?_;exact aB (hK))
theorem Rq (hm:¬(sta=1∨sta=2)) (hK:K (.tuple #[.int .i64 7,.bool false]) (pt s [.pointer (some ⟨li,0,none⟩),.pointer (some ⟨tt,0,none⟩),.pointer (some ⟨r,0,none⟩),.int .i64 id,.bool own] 258::pG li sta::yA tt cap bs en ou ac se dr::R)):aA Tryz.prog 261 #[.pointer (some ⟨s,0,none⟩),.agg #[.int .i64 0,.int .i64 st,.bool e,.string d,.int .i64 k,.int .i64 on,.int .i64 w,.bool x,.int .i64 c,.int .i64 la,.int .i64 n,.slice pa pn pc]] (pt s [.pointer (some ⟨li,0,none⟩),.pointer (some ⟨tt,0,none⟩),.pointer (some ⟨r,0,none⟩),.int .i64 id,.bool own] 258::pG li sta::yA tt cap bs en ou ac se dr::R) K:=by
 have hd:decide (sta=1∨sta=2)=false:=decide_eq_false hm
 refine aH Tryz.func261 ?_
 repeat' (first|(show cJ _ _ _;rw[hd])|refine AK ?_|refine dw f6 ?_|refine dw f8 ?_|refine wr ?_|refine w5 ?_ ?_|((refine bh fun h=>?_) <;> try exact w6 h)|(refine aE fun hA=>?_;subst hA)|intro _|(show aA _ 293 _ _ _;refine CA (h:=qX ?_))|(show aA _ 188 _ _ _;refine CA (h:=eI ?_)))
 (refine aC ?_;exact aB (hK))
theorem Tc (hm:sta=1∨sta=2) (hr:ren=true) (hK:K (.tuple #[.int .i64 7,.bool false]) (pt s [.pointer (some ⟨li,0,none⟩),.pointer (some ⟨tt,0,none⟩),.pointer (some ⟨r,0,none⟩),.int .i64 id,.bool own] 258::pG li sta::yA tt cap bs en ou ac se dr::vY r rcap most gr got us rb ren::R)):aA Tryz.prog 261 #[.pointer (some ⟨s,0,none⟩),.agg #[.int .i64 0,.int .i64 st,.bool e,.string d,.int .i64 k,.int .i64 on,.int .i64 w,.bool x,.int .i64 c,.int .i64 la,.int .i64 n,.slice pa pn pc]] (pt s [.pointer (some ⟨li,0,none⟩),.pointer (some ⟨tt,0,none⟩),.pointer (some ⟨r,0,none⟩),.int .i64 id,.bool own] 258::pG li sta::yA tt cap bs en ou ac se dr::vY r rcap most gr got us rb ren::R) K:=by
 have hd:decide (sta=1∨sta=2)=true:=decide_eq_true hm
 refine aH Tryz.func261 ?_
 repeat' (first|(show cJ _ _ _;rw[hd])|refine AK ?_|refine dw f6 ?_|refine dw f8 ?_|refine wr ?_|refine w5 ?_ ?_|((refine bh fun h=>?_) <;> try exact w6 h)|(refine aE fun hA=>?_;subst hA)|intro _|(show aA _ 293 _ _ _;refine CA (h:=qX ?_))|(show aA _ 188 _ _ _;refine CA (h:=eI ?_))|(show aA _ 341 _ _ _;refine CA (h:=Jn hr ?_)))
 (refine aC ?_;exact aB (hK))
theorem Rt (hm:sta=1∨sta=2) (hr:ren=false) (hs:max (gr - got) 0<d.size) (hK:K (.tuple #[.int .i64 8,.bool false]) (pt s [.pointer (some ⟨li,0,none⟩),.pointer (some ⟨tt,0,none⟩),.pointer (some ⟨r,0,none⟩),.int .i64 id,.bool own] 258::pG li sta::yA tt cap bs en ou ac se dr::vY r rcap most gr got us rb ren::R)):aA Tryz.prog 261 #[.pointer (some ⟨s,0,none⟩),.agg #[.int .i64 0,.int .i64 st,.bool e,.string d,.int .i64 k,.int .i64 on,.int .i64 w,.bool x,.int .i64 c,.int .i64 la,.int .i64 n,.slice pa pn pc]] (pt s [.pointer (some ⟨li,0,none⟩),.pointer (some ⟨tt,0,none⟩),.pointer (some ⟨r,0,none⟩),.int .i64 id,.bool own] 258::pG li sta::yA tt cap bs en ou ac se dr::vY r rcap most gr got us rb ren::R) K:=by
 have hd:decide (sta=1∨sta=2)=true:=decide_eq_true hm
 refine aH Tryz.func261 ?_
 repeat' (first|(show cJ _ _ _;rw[hd])|refine AK ?_|refine dw f6 ?_|refine dw f8 ?_|refine wr ?_|refine w5 ?_ ?_|((refine bh fun h=>?_) <;> try exact w6 h)|(refine aE fun hA=>?_;subst hA)|intro _|(show aA _ 293 _ _ _;refine CA (h:=qX ?_))|(show aA _ 188 _ _ _;refine CA (h:=eI ?_))|(show aA _ 341 _ _ _;refine CA (h:=Ji hr hs ?_)))
 (refine aC ?_;exact aB (hK))
theorem WU (hm:sta=1∨sta=2) (hr:ren=false) (hs:d.size≤max (gr - got) 0) (hb:got+d.size≤400000000) (hK:K (.tuple #[.int .i64 0,.bool true]) (pt s [.pointer (some ⟨li,0,none⟩),.pointer (some ⟨tt,0,none⟩),.pointer (some ⟨r,0,none⟩),.int .i64 id,.bool own] 258::pG li (oW sta e)::yA tt cap bs en ou ac se dr::vY r rcap most gr (got+d.size) us (rb++d.data.toList) e::R)):aA Tryz.prog 261 #[.pointer (some ⟨s,0,none⟩),.agg #[.int .i64 0,.int .i64 st,.bool e,.string d,.int .i64 k,.int .i64 on,.int .i64 w,.bool x,.int .i64 c,.int .i64 la,.int .i64 n,.slice pa pn pc]] (pt s [.pointer (some ⟨li,0,none⟩),.pointer (some ⟨tt,0,none⟩),.pointer (some ⟨r,0,none⟩),.int .i64 id,.bool own] 258::pG li sta::yA tt cap bs en ou ac se dr::vY r rcap most gr got us rb ren::R) K:=by
 have hd:decide (sta=1∨sta=2)=true:=decide_eq_true hm
 cases e
 ·rw[oW,if_neg (by simp)] at hK
  refine aH Tryz.func261 ?_
  repeat' (first|(show cJ _ _ _;rw[hd])|refine AK ?_|refine dw f6 ?_|refine dw f8 ?_|refine wr ?_|refine w5 ?_ ?_|((refine bh fun h=>?_) <;> try exact w6 h)|(refine aE fun hA=>?_;subst hA)|intro _|(show aA _ 293 _ _ _;refine CA (h:=qX ?_))|(show aA _ 188 _ _ _;refine CA (h:=eI ?_))|(show aA _ 341 _ _ _;refine CA (h:=Eb hr hs hb ?_)))
  (refine aC ?_;exact aB (hK))
 ·have hl:xB sta 3=oW sta true:=by rcases hm with rfl|rfl <;> rfl
  have hl1:oW sta true≠-1:=by rcases hm with rfl|rfl <;> decide
  refine aH Tryz.func261 ?_
  repeat' (first|(show cJ _ _ _;rw[hd])|refine AK ?_|refine dw f6 ?_|refine dw f8 ?_|refine wr ?_|refine w5 ?_ ?_|((refine bh fun h=>?_) <;> try exact w6 h)|(refine aE fun hA=>?_;subst hA)|intro _|(show aA _ 293 _ _ _;refine CA (h:=qX ?_))|(show aA _ 188 _ _ _;refine CA (h:=eI ?_))|(show aA _ 341 _ _ _;refine CA (h:=Eb hr hs hb ?_))|(show aA _ 237 _ _ _;refine CA (h:=lI (by omega) (by omega) hl hl1 ?_)))
  (refine aC ?_;exact aB (hK))
end
end
section
variable {R C:List HP} {K:Value→List HP→Prop}
section
variable {s li tt r cap:Nat} {id sta ac se dr w0 sg mr room open_ ask a1 t1 d1:Int} {own en ou ren:Bool} {l rl:List ByteArray}
variable {t st k on w c la n:Int} {e x:Bool} {d:ByteArray} {pa:Option Addr} {pn pc:Nat}
theorem oP (hK:K (.int .i64 1) (pt s [.pointer (some ⟨li,0,none⟩),.pointer (some ⟨tt,0,none⟩),.pointer (some ⟨r,0,none⟩),.int .i64 id,.bool own] 258::qF tt cap sg l w0 en ou ac se dr::R)):aA Tryz.prog 293 #[.pointer (some ⟨s,0,none⟩)] (pt s [.pointer (some ⟨li,0,none⟩),.pointer (some ⟨tt,0,none⟩),.pointer (some ⟨r,0,none⟩),.int .i64 id,.bool own] 258::qF tt cap sg l w0 en ou ac se dr::R) K:=by
 refine aH Tryz.func293 ?_
 repeat' (first|refine v3 ?_|refine wr ?_|refine w5 ?_ ?_|((refine bh fun h=>?_) <;> try exact w6 h)|(refine aE fun hA=>?_;subst hA)|intro _|(show aA _ 107 _ _ _;refine CA (h:=EW ?_)))
 (refine aC ?_;exact aB (hK))
def eU:List (Nat×Nat):= [(2,0),(3,1),(0,1),(1,1),(4,0),(5,0)]
def eW:List (Nat×Nat):= [(0,0),(1,0),(2,0),(3,0),(4,0),(5,0),(6,0),(7,0),(8,1),(9,0),(10,0),(11,0),(12,0),(13,0)]
theorem Sj (ht:t≠1) (hK:K (.tuple #[.int .i64 6,.bool false]) (pt s [.pointer (some ⟨li,0,none⟩),.pointer (some ⟨tt,0,none⟩),.pointer (some ⟨r,0,none⟩),.int .i64 id,.bool own] 258::qF tt cap sg l w0 en ou ac se dr::R)):aA Tryz.prog 261 #[.pointer (some ⟨s,0,none⟩),.agg #[.int .i64 t,.int .i64 st,.bool e,.string d,.int .i64 k,.int .i64 on,.int .i64 w,.bool x,.int .i64 c,.int .i64 la,.int .i64 n,.slice pa pn pc]] (pt s [.pointer (some ⟨li,0,none⟩),.pointer (some ⟨tt,0,none⟩),.pointer (some ⟨r,0,none⟩),.int .i64 id,.bool own] 258::qF tt cap sg l w0 en ou ac se dr::R) K:=by
 refine aH Tryz.func261 ?_
 repeat' (first|refine AK ?_|refine dw eU ?_|refine dw eW ?_|refine wr ?_|refine w5 ?_ ?_|((refine bh fun h=>?_) <;> try exact w6 h)|(refine aE fun hA=>?_;subst hA)|intro _|(show aA _ 293 _ _ _;refine CA (h:=oP ?_)))
 (refine aC ?_;exact aB (hK))
theorem R9 (hm:¬(sta=1∨sta=2)) (hK:K (.tuple #[.int .i64 7,.bool false]) (pt s [.pointer (some ⟨li,0,none⟩),.pointer (some ⟨tt,0,none⟩),.pointer (some ⟨r,0,none⟩),.int .i64 id,.bool own] 258::pG li sta::qF tt cap sg l w0 en ou ac se dr::R)):aA Tryz.prog 261 #[.pointer (some ⟨s,0,none⟩),.agg #[.int .i64 1,.int .i64 st,.bool e,.string d,.int .i64 k,.int .i64 on,.int .i64 w,.bool x,.int .i64 c,.int .i64 la,.int .i64 n,.slice pa pn pc]] (pt s [.pointer (some ⟨li,0,none⟩),.pointer (some ⟨tt,0,none⟩),.pointer (some ⟨r,0,none⟩),.int .i64 id,.bool own] 258::pG li sta::qF tt cap sg l w0 en ou ac se dr::R) K:=by
 have hd:decide (sta=1∨sta=2)=false:=decide_eq_false hm
 refine aH Tryz.func261 ?_
 repeat' (first|(show cJ _ _ _;rw[hd])|refine AK ?_|refine dw eU ?_|refine dw eW ?_|refine wr ?_|refine w5 ?_ ?_|((refine bh fun h=>?_) <;> try exact w6 h)|(refine aE fun hA=>?_;subst hA)|intro _|(show aA _ 293 _ _ _;refine CA (h:=oP ?_))|(show aA _ 188 _ _ _;refine CA (h:=eI ?_)))
 (refine aC ?_;exact aB (hK))
theorem QH (hm:sta=1∨sta=2) (hr:ren=true) (hK:K (.tuple #[.int .i64 7,.bool false]) (pt s [.pointer (some ⟨li,0,none⟩),.pointer (some ⟨tt,0,none⟩),.pointer (some ⟨r,0,none⟩),.int .i64 id,.bool own] 258::pG li sta::qF tt cap sg l w0 en ou ac se dr::sX r mr room open_ ask rl a1 t1 d1 ren::R)):aA Tryz.prog 261 #[.pointer (some ⟨s,0,none⟩),.agg #[.int .i64 1,.int .i64 st,.bool e,.string d,.int .i64 k,.int .i64 on,.int .i64 w,.bool x,.int .i64 c,.int .i64 la,.int .i64 n,.slice pa pn pc]] (pt s [.pointer (some ⟨li,0,none⟩),.pointer (some ⟨tt,0,none⟩),.pointer (some ⟨r,0,none⟩),.int .i64 id,.bool own] 258::pG li sta::qF tt cap sg l w0 en ou ac se dr::sX r mr room open_ ask rl a1 t1 d1 ren::R) K:=by
 have hd:decide (sta=1∨sta=2)=true:=decide_eq_true hm
 refine aH Tryz.func261 ?_
 repeat' (first|(show cJ _ _ _;rw[hd])|refine AK ?_|refine dw eU ?_|refine dw eW ?_|refine wr ?_|refine w5 ?_ ?_|((refine bh fun h=>?_) <;> try exact w6 h)|(refine aE fun hA=>?_;subst hA)|intro _|(show aA _ 293 _ _ _;refine CA (h:=oP ?_))|(show aA _ 188 _ _ _;refine CA (h:=eI ?_))|(show aA _ 341 _ _ _;refine CA (h:=Jc hr ?_)))
 (refine aC ?_;exact aB (hK))
theorem Su (hm:sta=1∨sta=2) (hr:ren=false) (hs:d≠⟨#[]⟩∨e=false) (ho:open_<1) (hK:K (.tuple #[.int .i64 10,.bool false]) (pt s [.pointer (some ⟨li,0,none⟩),.pointer (some ⟨tt,0,none⟩),.pointer (some ⟨r,0,none⟩),.int .i64 id,.bool own] 258::pG li sta::qF tt cap sg l w0 en ou ac se dr::sX r mr room open_ ask rl a1 t1 d1 ren::R)):aA Tryz.prog 261 #[.pointer (some ⟨s,0,none⟩),.agg #[.int .i64 1,.int .i64 st,.bool e,.string d,.int .i64 k,.int .i64 on,.int .i64 w,.bool x,.int .i64 c,.int .i64 la,.int .i64 n,.slice pa pn pc]] (pt s [.pointer (some ⟨li,0,none⟩),.pointer (some ⟨tt,0,none⟩),.pointer (some ⟨r,0,none⟩),.int .i64 id,.bool own] 258::pG li sta::qF tt cap sg l w0 en ou ac se dr::sX r mr room open_ ask rl a1 t1 d1 ren::R) K:=by
 have hd:decide (sta=1∨sta=2)=true:=decide_eq_true hm
 refine aH Tryz.func261 ?_
 repeat' (first|(show cJ _ _ _;rw[hd])|refine AK ?_|refine dw eU ?_|refine dw eW ?_|refine wr ?_|refine w5 ?_ ?_|((refine bh fun h=>?_) <;> try exact w6 h)|(refine aE fun hA=>?_;subst hA)|intro _|(show aA _ 293 _ _ _;refine CA (h:=oP ?_))|(show aA _ 188 _ _ _;refine CA (h:=eI ?_))|(show aA _ 341 _ _ _;refine CA (h:=Jo hr hs ho ?_)))
 (refine aC ?_;exact aB (hK))
theorem S3 (hm:sta=1∨sta=2) (hr:ren=false) (hK:K (.tuple #[.int .i64 0,.bool true]) (pt s [.pointer (some ⟨li,0,none⟩),.pointer (some ⟨tt,0,none⟩),.pointer (some ⟨r,0,none⟩),.int .i64 id,.bool own] 258::pG li (oW sta true)::qF tt cap sg l w0 en ou ac se dr::sX r mr room open_ ask rl a1 t1 d1 true::R)):aA Tryz.prog 261 #[.pointer (some ⟨s,0,none⟩),.agg #[.int .i64 1,.int .i64 st,.bool true,.string ⟨#[]⟩,.int .i64 k,.int .i64 on,.int .i64 w,.bool x,.int .i64 c,.int .i64 la,.int .i64 n,.slice pa pn pc]] (pt s [.pointer (some ⟨li,0,none⟩),.pointer (some ⟨tt,0,none⟩),.pointer (some ⟨r,0,none⟩),.int .i64 id,.bool own] 258::pG li sta::qF tt cap sg l w0 en ou ac se dr::sX r mr room open_ ask rl a1 t1 d1 ren::R) K:=by
 have hd:decide (sta=1∨sta=2)=true:=decide_eq_true hm
 have hl:xB sta 3=oW sta true:=by rcases hm with rfl|rfl <;> rfl
 have hl1:oW sta true≠-1:=by rcases hm with rfl|rfl <;> decide
 refine aH Tryz.func261 ?_
 repeat' (first|(show cJ _ _ _;rw[hd])|refine AK ?_|refine dw eU ?_|refine dw eW ?_|refine wr ?_|refine w5 ?_ ?_|((refine bh fun h=>?_) <;> try exact w6 h)|(refine aE fun hA=>?_;subst hA)|intro _|(show aA _ 293 _ _ _;refine CA (h:=oP ?_))|(show aA _ 188 _ _ _;refine CA (h:=eI ?_))|(show aA _ 341 _ _ _;refine CA (h:=Jl hr ?_))|(show aA _ 237 _ _ _;refine CA (h:=lI (by omega) (by omega) hl hl1 ?_)))
 (refine aC ?_;exact aB (hK))
theorem Vz (hm:sta=1∨sta=2) (hr:ren=false) (hs:d≠⟨#[]⟩∨e=false) (ho:1≤open_) (hb:a1≤300000000) (hK:K (.tuple #[.int .i64 0,.bool true]) (pt s [.pointer (some ⟨li,0,none⟩),.pointer (some ⟨tt,0,none⟩),.pointer (some ⟨r,0,none⟩),.int .i64 id,.bool own] 258::pG li (oW sta e)::qF tt cap sg l w0 en ou ac se dr::sX r mr room (open_ - 1) ask (rl++ [d]) (a1+1) t1 d1 e::R)):aA Tryz.prog 261 #[.pointer (some ⟨s,0,none⟩),.agg #[.int .i64 1,.int .i64 st,.bool e,.string d,.int .i64 k,.int .i64 on,.int .i64 w,.bool x,.int .i64 c,.int .i64 la,.int .i64 n,.slice pa pn pc]] (pt s [.pointer (some ⟨li,0,none⟩),.pointer (some ⟨tt,0,none⟩),.pointer (some ⟨r,0,none⟩),.int .i64 id,.bool own] 258::pG li sta::qF tt cap sg l w0 en ou ac se dr::sX r mr room open_ ask rl a1 t1 d1 ren::R) K:=by
 have hd:decide (sta=1∨sta=2)=true:=decide_eq_true hm
 cases e
 ·rw[oW,if_neg (by simp)] at hK
  refine aH Tryz.func261 ?_
  repeat' (first|(show cJ _ _ _;rw[hd])|refine AK ?_|refine dw eU ?_|refine dw eW ?_|refine wr ?_|refine w5 ?_ ?_|((refine bh fun h=>?_) <;> try exact w6 h)|(refine aE fun hA=>?_;subst hA)|intro _|(show aA _ 293 _ _ _;refine CA (h:=oP ?_))|(show aA _ 188 _ _ _;refine CA (h:=eI ?_))|(show aA _ 341 _ _ _;refine CA (h:=C4 hr hs ho hb ?_)))
  (refine aC ?_;exact aB (hK))
 ·have hl:xB sta 3=oW sta true:=by rcases hm with rfl|rfl <;> rfl
  have hl1:oW sta true≠-1:=by rcases hm with rfl|rfl <;> decide
  refine aH Tryz.func261 ?_
  repeat' (first|(show cJ _ _ _;rw[hd])|refine AK ?_|refine dw eU ?_|refine dw eW ?_|refine wr ?_|refine w5 ?_ ?_|((refine bh fun h=>?_) <;> try exact w6 h)|(refine aE fun hA=>?_;subst hA)|intro _|(show aA _ 293 _ _ _;refine CA (h:=oP ?_))|(show aA _ 188 _ _ _;refine CA (h:=eI ?_))|(show aA _ 341 _ _ _;refine CA (h:=C4 hr hs ho hb ?_))|(show aA _ 237 _ _ _;refine CA (h:=lI (by omega) (by omega) hl hl1 ?_)))
  (refine aC ?_;exact aB (hK))
theorem Abl {ev:Int} (he:ev=4∨ev=5) (hs:sta=4) (hK:K (.int .i64 0) (pt s [.pointer (some ⟨li,0,none⟩),.pointer (some ⟨tt,0,none⟩),.pointer (some ⟨r,0,none⟩),.int .i64 id,.bool own] 258::pG li sta::R)):aA Tryz.prog 337 #[.pointer (some ⟨s,0,none⟩),.int .i64 ev] (pt s [.pointer (some ⟨li,0,none⟩),.pointer (some ⟨tt,0,none⟩),.pointer (some ⟨r,0,none⟩),.int .i64 id,.bool own] 258::pG li sta::R) K:=by
 subst hs
 have hl:xB 4 ev=-1:=by rcases he with rfl|rfl <;> rfl
 refine aH Tryz.func337 ?_
 repeat' (first|refine zB ?_|refine wr ?_|refine w5 ?_ ?_|((refine bh fun h=>?_) <;> try exact w6 h)|(refine aE fun hA=>?_;subst hA)|intro _|(show aA _ 237 _ _ _;refine CA (h:=Sa (by omega) (by omega) hl ?_)))
 all_goals(refine aC ?_;exact aB (hK))
theorem Z1 {ev:Int} (he:ev=4∨ev=5) (hs:sta=1∨sta=2∨sta=3) (hK:K (.int .i64 0) (pt s [.pointer (some ⟨li,0,none⟩),.pointer (some ⟨tt,0,none⟩),.pointer (some ⟨r,0,none⟩),.int .i64 id,.bool own] 258::pG li 4::qF tt cap sg [] w0 en ou ac se (dr+l.length)::sX r mr room open_ ask [] a1 t1 (d1+rl.length) ren::R)):aA Tryz.prog 337 #[.pointer (some ⟨s,0,none⟩),.int .i64 ev] (pt s [.pointer (some ⟨li,0,none⟩),.pointer (some ⟨tt,0,none⟩),.pointer (some ⟨r,0,none⟩),.int .i64 id,.bool own] 258::pG li sta::qF tt cap sg l w0 en ou ac se dr::sX r mr room open_ ask rl a1 t1 d1 ren::R) K:=by
 have hl:xB sta ev=4:=by rcases hs with rfl|rfl|rfl <;> rcases he with rfl|rfl <;> rfl
 refine aH Tryz.func337 ?_
 repeat' (first|refine zB ?_|refine wr ?_|refine w5 ?_ ?_|((refine bh fun h=>?_) <;> try exact w6 h)|(refine aE fun hA=>?_;subst hA)|intro _|(show aA _ 237 _ _ _;refine CA (h:=lI (by omega) (by omega) hl (by omega) ?_))|(show aA _ 385 _ _ _;refine CA (h:=OT ?_))|(show aA _ 338 _ _ _;refine CA (h:=FD ?_))|(show aA _ 107 _ _ _;refine CA (h:=EW ?_)))
 all_goals(refine aC ?_;exact aB (hK))
end
section
variable {s li tt r cap:Nat} {id sta ac se dr rcap most gr got us:Int} {own en ou ren:Bool} {bs rb:List UInt8}
theorem Ach {ev:Int} (he:ev=4∨ev=5) (hs:sta=1∨sta=2∨sta=3) (hK:K (.int .i64 rb.length) (pt s [.pointer (some ⟨li,0,none⟩),.pointer (some ⟨tt,0,none⟩),.pointer (some ⟨r,0,none⟩),.int .i64 id,.bool own] 258::pG li 4::yA tt cap [] en ou ac se (dr+bs.length)::vY r rcap most gr got (us+rb.length) [] ren::R)):aA Tryz.prog 337 #[.pointer (some ⟨s,0,none⟩),.int .i64 ev] (pt s [.pointer (some ⟨li,0,none⟩),.pointer (some ⟨tt,0,none⟩),.pointer (some ⟨r,0,none⟩),.int .i64 id,.bool own] 258::pG li sta::yA tt cap bs en ou ac se dr::vY r rcap most gr got us rb ren::R) K:=by
 have hl:xB sta ev=4:=by rcases hs with rfl|rfl|rfl <;> rcases he with rfl|rfl <;> rfl
 refine aH Tryz.func337 ?_
 repeat' (first|refine zB ?_|refine wr ?_|refine w5 ?_ ?_|((refine bh fun h=>?_) <;> try exact w6 h)|(refine aE fun hA=>?_;subst hA)|intro _|(show aA _ 237 _ _ _;refine CA (h:=lI (by omega) (by omega) hl (by omega) ?_))|(show aA _ 385 _ _ _;refine CA (h:=NW ?_))|(show aA _ 338 _ _ _;refine CA (h:=FW ?_))|(show aA _ 107 _ _ _;refine CA (h:=Ff ?_)))
 all_goals(refine aC ?_;exact aB (hK))
end
end
end Go.Proofs.YtifgibijcmppmaaGreat
