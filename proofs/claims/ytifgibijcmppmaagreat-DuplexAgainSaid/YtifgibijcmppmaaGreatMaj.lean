/- A part of the proof: lemmas; each with the conditions that it states. -/
import Derived.Test.YtifgibijcmppmaaGreatMai
set_option linter.unusedVariables false
set_option linter.unusedSimpArgs false
namespace Go.Proofs.YtifgibijcmppmaaGreat
open Go Go.Proofs Go.Sl
set_option maxRecDepth 100000
set_option maxHeartbeats 40000000
attribute [local irreducible] aM fG cV bP aN aW aA dP dX aV dO pt ro eW star sep bH
section
variable {R C:List HP} {K:Value→List HP→Prop}
def y4 (p:Nat) (cap most gr got us:Int):HP:=pt p [.int .i64 cap,.int .i64 most,.int .i64 gr,.int .i64 got,.int .i64 us] 237
theorem FU {n:Int} (hK:K (.bool (decide (0≤n) && decide (n≤2147483647))) R):aA Tryz.prog 142 #[.int .i64 n] R K:=by
 refine aH Tryz.func142 ?_
 repeat' (first|refine v1 ?_|refine wr ?_|refine w5 ?_ ?_|((refine bh fun h=>?_) <;> try exact w6 h)|(refine aE fun hA=>?_;subst hA)|intro _)
 all_goals(refine aC ?_;exact aB (kb hK (by simp <;> omega)))
theorem Py {n:Int} (h:0≤n∧n≤4096) (hK:∀p,K (.tuple #[.pointer (some ⟨p,0,none⟩),.int .i64 0]) (y4 p n n n 0 0::R)):aA Tryz.prog 58 #[.int .i64 n] R K:=by
 have e:(decide (0≤n) && decide (n≤2147483647))=true:=by simp;omega
 refine aH Tryz.func58 ?_
 repeat' (first|(show cV _ _ _;rw[e])|refine v21 ?_|refine wr ?_|refine w5 ?_ ?_|((refine bh fun h=>?_) <;> try exact w6 h)|(refine aE fun hA=>?_;subst hA)|intro _|(show aA _ 142 _ _ _;refine CA (h:=FU ?_)))
 (refine aC ?_;exact aB (hK _))
section
variable {p:Nat} {cap most gr got us:Int}
def BB:List (Nat×Nat):= [(0,0),(1,0),(2,0),(3,0),(4,0),(5,0),(6,0),(7,0),(8,0),(9,0)]
def tX:List (Nat×Nat):= [(0,0),(1,0),(2,0),(3,0),(4,0),(5,0),(6,0),(7,0),(8,0),(9,0),(10,0),(11,0)]
theorem Wd {n:Int} (hK:K (.int .i64 1) R):aA Tryz.prog 118 #[.pointer none,.int .i64 n] R K:=by
 refine aH Tryz.func118 ?_
 repeat' (first|refine v33 ?_|refine dw tX ?_|refine wr ?_|refine w5 ?_ ?_|((refine bh fun h=>?_) <;> try exact w6 h)|(refine aE fun hA=>?_;subst hA)|intro _)
 (refine aC ?_;exact aB (hK))
def u7:List (Nat×Nat):= [(0,0),(1,0),(2,0),(3,0),(4,0),(5,0),(6,0),(7,0),(8,0),(9,0),(10,0),(11,0),(12,0)]
theorem H7 {k:Int} (h:0≤k∧k≤max (gr - got) 0) (hb:-900000000≤gr∧gr≤900000000∧0≤got∧got≤900000000∧k≤900000000) (hK:K (.int .i64 0) (y4 p cap most gr (got+k) us::R)):aA Tryz.prog 260 #[.pointer (some ⟨p,0,none⟩),.int .i64 k] (y4 p cap most gr got us::R) K:=by
 unfold y4 at *
 refine aH Tryz.func260 ?_
 repeat' (first|refine v66 ?_|refine dw u7 ?_|refine wr ?_|refine w5 ?_ ?_|((refine bh fun h=>?_) <;> try exact w6 h)|(refine aE fun hA=>?_;subst hA)|intro _)
 all_goals(refine aC ?_;exact aB (hK))
theorem K1 {k:Int} (h:max (gr - got) 0<k) (hb:-900000000≤gr∧gr≤900000000∧0≤got∧got≤900000000) (hK:K (.int .i64 9) (y4 p cap most gr got us::R)):aA Tryz.prog 260 #[.pointer (some ⟨p,0,none⟩),.int .i64 k] (y4 p cap most gr got us::R) K:=by
 unfold y4 at *
 refine aH Tryz.func260 ?_
 repeat' (first|refine v66 ?_|refine dw u7 ?_|refine wr ?_|refine w5 ?_ ?_|((refine bh fun h=>?_) <;> try exact w6 h)|(refine aE fun hA=>?_;subst hA)|intro _)
 all_goals(refine aC ?_;exact aB (hK))
theorem HG {k:Int} (h:0≤k∧k≤got - us) (hb:0≤us∧got≤900000000) (hK:K (.int .i64 0) (y4 p cap most gr got (us+k)::R)):aA Tryz.prog 118 #[.pointer (some ⟨p,0,none⟩),.int .i64 k] (y4 p cap most gr got us::R) K:=by
 unfold y4 at *
 refine aH Tryz.func118 ?_
 repeat' (first|refine v33 ?_|refine dw tX ?_|refine wr ?_|refine w5 ?_ ?_|((refine bh fun h=>?_) <;> try exact w6 h)|(refine aE fun hA=>?_;subst hA)|intro _)
 all_goals(refine aC ?_;exact aB (hK))
theorem KS (hb:-900000000≤gr∧gr≤900000000∧0≤us∧us≤900000000) (hK:K (.int .i64 (gr - us)) (y4 p cap most gr got us::R)):aA Tryz.prog 109 #[.pointer (some ⟨p,0,none⟩)] (y4 p cap most gr got us::R) K:=by
 unfold y4 at *
 refine aH Tryz.func109 ?_
 repeat' (first|refine v22 ?_|refine dw BB ?_|refine wr ?_|refine w5 ?_ ?_|((refine bh fun h=>?_) <;> try exact w6 h)|(refine aE fun hA=>?_;subst hA)|intro _)
 (refine aC ?_;exact aB (hK))
theorem KR {r2:Nat} (hb:0≤cap∧cap≤900000000) (hK:K (.int .i64 ((cap+1) / 2)) (pt r2 [.pointer (some ⟨p,0,none⟩)] 120::y4 p cap most gr got us::R)):aA Tryz.prog 352 #[.pointer (some ⟨r2,0,none⟩)] (pt r2 [.pointer (some ⟨p,0,none⟩)] 120::y4 p cap most gr got us::R) K:=by
 unfold y4 at *
 refine aH Tryz.func352 ?_
 repeat' (first|refine v43 ?_|refine wr ?_|refine w5 ?_ ?_|((refine bh fun h=>?_) <;> try exact w6 h)|(refine aE fun hA=>?_;subst hA)|intro _)
 (refine aC ?_;exact aB (hK))
def uE (cap gr us:Int):Int:=if 0<cap - (gr - us)∧cap≤2 * (cap - (gr - us)) then cap - (gr - us) else 0
def uX:List (Nat×Nat):= [(4,0),(5,1),(0,1),(1,1),(2,1),(3,1),(6,0),(7,0)]
theorem Pu (hc:0≤cap∧cap≤900000000) (hb:-900000000≤gr∧gr≤900000000∧0≤us∧us≤900000000) (hK:K (.int .i64 (uE cap gr us)) (y4 p cap most gr got us::R)):aA Tryz.prog 279 #[.pointer (some ⟨p,0,none⟩)] (y4 p cap most gr got us::R) K:=by
 unfold uE at hK
 have hh:∀m:Int,((cap+1) / 2≤m)↔cap≤2 * m:=fun m=>by omega
 by_cases c1:0<cap - (gr - us)∧cap≤2 * (cap - (gr - us))
 ·rw[if_pos c1] at hK
  unfold y4 at *
  refine aH Tryz.func279 ?_
  repeat' (first|refine v84 ?_|refine dw uX ?_|refine wr ?_|refine w5 ?_ ?_|((refine bh fun h=>?_) <;> try exact w6 h)|(refine aE fun hA=>?_;subst hA)|intro _|(show aA _ 109 _ _ _;refine CA (h:=KS hb ?_))|(show aA _ 352 _ _ _;refine CA (h:=KR hc ?_)))
  all_goals first|(exfalso;omega)|skip
  all_goals(refine aC ?_;exact aB (hK))
 ·rw[if_neg c1] at hK
  unfold y4 at *
  refine aH Tryz.func279 ?_
  repeat' (first|refine v84 ?_|refine dw uX ?_|refine wr ?_|refine w5 ?_ ?_|((refine bh fun h=>?_) <;> try exact w6 h)|(refine aE fun hA=>?_;subst hA)|intro _|(show aA _ 109 _ _ _;refine CA (h:=KS hb ?_))|(show aA _ 352 _ _ _;refine CA (h:=KR hc ?_)))
  all_goals first|(exfalso;omega)|skip
  all_goals(refine aC ?_;exact aB (hK))
theorem GZ (hc:0≤cap∧cap≤900000000) (hb:-900000000≤gr∧gr≤900000000∧0≤us∧us≤900000000) (hK:K (.int .i64 (uE cap gr us)) (y4 p cap most (gr+uE cap gr us) got us::R)):aA Tryz.prog 187 #[.pointer (some ⟨p,0,none⟩)] (y4 p cap most gr got us::R) K:=by
 have h0:0≤uE cap gr us∧uE cap gr us≤3000000000:=by unfold uE;split <;> omega
 refine aH Tryz.func187 ?_
 repeat' (first|refine v37 ?_|refine wr ?_|refine w5 ?_ ?_|((refine bh fun h=>?_) <;> try exact w6 h)|(refine aE fun hA=>?_;subst hA)|intro _|(show aA _ 279 _ _ _;refine CA (h:=Pu hc hb ?_)))
 ·(refine aC ?_;exact aB (hK))
 ·have e:uE cap gr us=0:=by omega
  rw[e] at hK
  rw[e]
  (refine aC ?_;exact aB ((by simpa using hK)))
def Ab:List (Nat×Nat):= [(0,0),(1,0),(2,0),(3,0),(4,0),(5,0),(6,0),(7,0),(8,0),(9,0),(10,0),(11,0),(12,0),(13,1)]
theorem Nz {to:Int} (h:0≤to∧to≤4096) (hc:0≤cap∧cap≤4096) (hb:-900000000≤gr∧gr≤900000000) (hK:K (.int .i64 0) (y4 p to (max most to) (gr+(to - cap)) got us::R)):aA Tryz.prog 334 #[.pointer (some ⟨p,0,none⟩),.int .i64 to] (y4 p cap most gr got us::R) K:=by
 have e:(decide (0≤to) && decide (to≤2147483647))=true:=by simp;omega
 unfold y4 at *
 refine aH Tryz.func334 ?_
 repeat' (first|(show cV _ _ _;rw[e])|refine v68 ?_|refine dw Ab ?_|refine wr ?_|refine w5 ?_ ?_|((refine bh fun h=>?_) <;> try exact w6 h)|(refine aE fun hA=>?_;subst hA)|intro _|(show aA _ 142 _ _ _;refine CA (h:=FU ?_)))
 (refine aC ?_;exact aB (hK))
end
def rY (w st it:Int):Bool:=decide (0≤w∧w≤4096∧0≤st∧st≤32∧0≤it∧it≤64)
theorem Oo {n m:Int} (hK:K (.bool (decide (0≤n∧n≤m))) R):aA Tryz.prog 239 #[.int .i64 n,.int .i64 m] R K:=by
 refine aH Tryz.func239 ?_
 repeat' (first|refine v1 ?_|refine wr ?_|refine w5 ?_ ?_|((refine bh fun h=>?_) <;> try exact w6 h)|(refine aE fun hA=>?_;subst hA)|intro _)
 all_goals(refine aC ?_;exact aB (kb hK (by simp <;> omega)))
theorem uJ {w st it v:Int} (hv:(if rY w st it=true then 0 else 3)=v) (hK:K (.int .i64 v) R):aA Tryz.prog 143 #[.agg #[.int .i64 w,.int .i64 st,.int .i64 it]] R K:=by
 subst hv
 unfold rY at hK
 refine aH Tryz.func143 ?_
 repeat' (first|refine v44 ?_|refine wr ?_|refine w5 ?_ ?_|((refine bh fun h=>?_) <;> try exact w6 h)|(refine aE fun hA=>?_;subst hA)|intro _|(show aA _ 239 _ _ _;refine CA (h:=Oo ?_)))
 all_goals(refine aC ?_;exact aB (ki hK (by simp only[decide_eq_true_eq];split <;> first|rfl|omega)))
end
section
variable {R C:List HP} {K:Value→List HP→Prop}
def Cr:List (Nat×Nat):= [(0,0),(1,0),(2,0),(3,0),(4,1),(5,1),(6,1),(7,1),(8,1),(9,1),(10,0),(11,0)]
def yW:List (Nat×Nat):= [(0,0),(1,0),(2,0),(3,0),(4,0),(5,0),(6,1),(7,0)]
def RB (cap most gr got us:Int) (bs:List UInt8):Prop:=got=us+bs.length∧0≤us∧cap≤gr∧gr - us≤cap∧0≤cap∧cap≤most∧most≤4096∧(bs.length:Int)≤most∧got≤400000000
def xX (r:Nat) (cap most gr got us:Int) (bs:List UInt8) (en:Bool):HP:=eW fun g=>eW fun p=>sep (pt r [.int .i64 1,.pointer (some ⟨g,0,none⟩),.pointer (some ⟨p,0,none⟩),.pointer none,.pointer none,.int .i64 0,.int .i64 0,.bool en] 265) (sep (jP g 4096 bs) (sep (y4 p cap most gr got us) (bH (RB cap most gr got us bs))))
section
variable {r:Nat} {cap most gr got us:Int} {bs:List UInt8} {en:Bool} {n:Int} {s:ByteArray}
theorem jQ {g p:Nat} (h:RB cap most gr got us bs):aG (pt r [.int .i64 1,.pointer (some ⟨g,0,none⟩),.pointer (some ⟨p,0,none⟩),.pointer none,.pointer none,.int .i64 0,.int .i64 0,.bool en] 265::jP g 4096 bs::y4 p cap most gr got us::R) (xX r cap most gr got us bs en::R):=
 aG.ex g (aG.ex p (pY h))
theorem mP {f:FuncId} {args:Array Value} (h:∀g p,RB cap most gr got us bs→aA Tryz.prog f args (pt r [.int .i64 1,.pointer (some ⟨g,0,none⟩),.pointer (some ⟨p,0,none⟩),.pointer none,.pointer none,.int .i64 0,.int .i64 0,.bool en] 265::jP g 4096 bs::y4 p cap most gr got us::R) K):aA Tryz.prog f args (xX r cap most gr got us bs en::R) K:=
 aA.ex fun g=>aA.ex fun p=>Cb fun hI=>h g p hI
theorem Kr {w st it:Int} (hs:rY w st it=true) (hK:∀r,K (.tuple #[.pointer (some ⟨r,0,none⟩),.int .i64 0]) (xX r w w w 0 0 [] false::R)):aA Tryz.prog 235 #[.int .i64 1,.agg #[.int .i64 w,.int .i64 st,.int .i64 it]] R K:=by
 have hs2:=hs
 unfold rY at hs2
 rw[decide_eq_true_eq] at hs2
 refine aH Tryz.func235 ?_
 repeat' (first|refine z8 ?_|refine wr ?_|refine w5 ?_ ?_|((refine bh fun h=>?_) <;> try exact w6 h)|(refine aE fun hA=>?_;subst hA)|intro _|(show aA _ 143 _ _ _;refine CA (h:=uJ (v:=0) (by rw[if_pos hs]) ?_))|(show aA _ 322 _ _ _;refine CA (h:=Te (cap:=4096) (by omega) (fun g=>?_)))|(show aA _ 58 _ _ _;refine CA (h:=Py (by omega) (fun p=>?_))))
 (refine aC ?_;exact aK (aG.trans (by exact aY) ((jQ ⟨by simp,by omega,by omega,by omega,by omega,by omega,by omega,by simp;omega,by omega⟩))) (hK _))
theorem yH {g p:Nat} (hK:K (.bool en) (pt r [.int .i64 1,.pointer (some ⟨g,0,none⟩),.pointer (some ⟨p,0,none⟩),.pointer none,.pointer none,.int .i64 0,.int .i64 0,.bool en] 265::R)):aA Tryz.prog 221 #[.pointer (some ⟨r,0,none⟩)] (pt r [.int .i64 1,.pointer (some ⟨g,0,none⟩),.pointer (some ⟨p,0,none⟩),.pointer none,.pointer none,.int .i64 0,.int .i64 0,.bool en] 265::R) K:=by
 refine aH Tryz.func221 ?_
 repeat' (first|refine v23 ?_|refine wr ?_|refine w5 ?_ ?_|((refine bh fun h=>?_) <;> try exact w6 h)|(refine aE fun hA=>?_;subst hA)|intro _)
 (refine aC ?_;exact aB (hK))
theorem Am (hK:K (.bool en) (xX r cap most gr got us bs en::R)):aA Tryz.prog 221 #[.pointer (some ⟨r,0,none⟩)] (xX r cap most gr got us bs en::R) K:=by
 refine mP fun g p hT=>?_
 refine aH Tryz.func221 ?_
 repeat' (first|refine v23 ?_|refine wr ?_|refine w5 ?_ ?_|((refine bh fun h=>?_) <;> try exact w6 h)|(refine aE fun hA=>?_;subst hA)|intro _)
 (refine aC ?_;exact aK (aG.trans (by exact aY) ((jQ hT))) (hK))
theorem tN (hK:K (.int .i64 bs.length) (xX r cap most gr got us bs en::R)):aA Tryz.prog 90 #[.pointer (some ⟨r,0,none⟩)] (xX r cap most gr got us bs en::R) K:=by
 refine mP fun g p hT=>?_
 have hT':=hT
 obtain⟨h1,h2,h3,h4,h5,h6,h7,h8,h9⟩:=hT'
 refine aH Tryz.func90 ?_
 repeat' (first|refine Ga ?_|refine dw Cr ?_|refine wr ?_|refine w5 ?_ ?_|((refine bh fun h=>?_) <;> try exact w6 h)|(refine aE fun hA=>?_;subst hA)|intro _|(show aA _ 179 _ _ _;refine CA (h:=Uo ?_))|(show aA _ 180 _ _ _;refine CA (h:=JE ?_)))
 rw[show((bs.length:Nat):Int)+0=bs.length by omega]
 (refine aC ?_;exact aK (aG.trans (by exact aY) ((jQ hT))) (hK))
theorem S0 (hK:K (.bool (en && decide (bs= []))) (xX r cap most gr got us bs en::R)):aA Tryz.prog 119 #[.pointer (some ⟨r,0,none⟩)] (xX r cap most gr got us bs en::R) K:=by
 cases en
 ·refine aH Tryz.func119 ?_
  repeat' (first|refine v15 ?_|refine wr ?_|refine w5 ?_ ?_|((refine bh fun h=>?_) <;> try exact w6 h)|(refine aE fun hA=>?_;subst hA)|intro _|(show aA _ 221 _ _ _;refine CA (h:=Am ?_))|(show aA _ 90 _ _ _;refine CA (h:=tN ?_)))
  (refine aC ?_;exact aB (hK))
 ·refine aH Tryz.func119 ?_
  repeat' (first|refine v15 ?_|refine wr ?_|refine w5 ?_ ?_|((refine bh fun h=>?_) <;> try exact w6 h)|(refine aE fun hA=>?_;subst hA)|intro _|(show aA _ 221 _ _ _;refine CA (h:=Am ?_))|(show aA _ 90 _ _ _;refine CA (h:=tN ?_)))
  all_goals(refine aC ?_;exact aB (kb hK (by cases bs <;> simp <;> omega)))
theorem G3 {g p:Nat} {k:Int} (hK:K (.int .i64 (if k=1 then 0 else 13)) (pt r [.int .i64 1,.pointer (some ⟨g,0,none⟩),.pointer (some ⟨p,0,none⟩),.pointer none,.pointer none,.int .i64 0,.int .i64 0,.bool en] 265::R)):aA Tryz.prog 219 #[.pointer (some ⟨r,0,none⟩),.int .i64 k] (pt r [.int .i64 1,.pointer (some ⟨g,0,none⟩),.pointer (some ⟨p,0,none⟩),.pointer none,.pointer none,.int .i64 0,.int .i64 0,.bool en] 265::R) K:=by
 by_cases h:k=1
 ·rw[if_pos h] at hK
  refine aH Tryz.func219 ?_
  repeat' (first|refine v29 ?_|refine wr ?_|refine w5 ?_ ?_|((refine bh fun h=>?_) <;> try exact w6 h)|(refine aE fun hA=>?_;subst hA)|intro _)
  all_goals(refine aC ?_;exact aB (hK))
 ·rw[if_neg h] at hK
  refine aH Tryz.func219 ?_
  repeat' (first|refine v29 ?_|refine wr ?_|refine w5 ?_ ?_|((refine bh fun h=>?_) <;> try exact w6 h)|(refine aE fun hA=>?_;subst hA)|intro _)
  all_goals(refine aC ?_;exact aB (hK))
theorem S7 (hK:K (.tuple #[.string ⟨#[]⟩,.bool false,.int .i64 13]) (xX r cap most gr got us bs en::R)):aA Tryz.prog 121 #[.pointer (some ⟨r,0,none⟩)] (xX r cap most gr got us bs en::R) K:=by
 refine mP fun g p hT=>?_
 refine aH Tryz.func121 ?_
 repeat' (first|refine I2 ?_|refine wr ?_|refine w5 ?_ ?_|((refine bh fun h=>?_) <;> try exact w6 h)|(refine aE fun hA=>?_;subst hA)|intro _|(show aA _ 219 _ _ _;refine CA (h:=G3 ?_)))
 (refine aC ?_;exact aK (aG.trans (by exact aY) ((jQ hT))) (hK))
theorem W5 (hK:K (.int .i64 13) (xX r cap most gr got us bs en::R)):aA Tryz.prog 296 #[.pointer (some ⟨r,0,none⟩),.int .i64 n] (xX r cap most gr got us bs en::R) K:=by
 refine mP fun g p hT=>?_
 refine aH Tryz.func296 ?_
 repeat' (first|refine I2 ?_|refine wr ?_|refine w5 ?_ ?_|((refine bh fun h=>?_) <;> try exact w6 h)|(refine aE fun hA=>?_;subst hA)|intro _|(show aA _ 219 _ _ _;refine CA (h:=G3 ?_)))
 (refine aC ?_;exact aK (aG.trans (by exact aY) ((jQ hT))) (hK))
theorem HA {g p:Nat} (hT:RB cap most gr got us bs) (hK:K (.int .i64 (uE cap gr us)) (pt r [.int .i64 1,.pointer (some ⟨g,0,none⟩),.pointer (some ⟨p,0,none⟩),.pointer none,.pointer none,.int .i64 0,.int .i64 0,.bool en] 265::y4 p cap most gr got us::R)):aA Tryz.prog 280 #[.pointer (some ⟨r,0,none⟩)] (pt r [.int .i64 1,.pointer (some ⟨g,0,none⟩),.pointer (some ⟨p,0,none⟩),.pointer none,.pointer none,.int .i64 0,.int .i64 0,.bool en] 265::y4 p cap most gr got us::R) K:=by
 obtain⟨h1,h2,h3,h4,h5,h6,h7,h8,h9⟩:=hT
 refine aH Tryz.func280 ?_
 repeat' (first|refine v47 ?_|refine wr ?_|refine w5 ?_ ?_|((refine bh fun h=>?_) <;> try exact w6 h)|(refine aE fun hA=>?_;subst hA)|intro _|(show aA _ 279 _ _ _;refine CA (h:=Pu (by omega) (by omega) ?_)))
 (refine aC ?_;exact aB (hK))
theorem Aa8 (hT:RB cap most gr got us bs):RB cap most (gr+uE cap gr us) got us bs:=by
 obtain⟨h1,h2,h3,h4,h5,h6,h7,h8,h9⟩:=hT
 have:0≤uE cap gr us∧gr+uE cap gr us - us≤cap:=by unfold uE;split <;> omega
 exact⟨h1,h2,by omega,by omega,h5,h6,h7,h8,h9⟩
theorem Oc (hK:K (.int .i64 (uE cap gr us)) (xX r cap most (gr+uE cap gr us) got us bs en::R)):aA Tryz.prog 189 #[.pointer (some ⟨r,0,none⟩)] (xX r cap most gr got us bs en::R) K:=by
 refine mP fun g p hT=>?_
 have hw:=Aa8 hT
 have hT':=hT
 obtain⟨h1,h2,h3,h4,h5,h6,h7,h8,h9⟩:=hT'
 by_cases h0:uE cap gr us=0
 ·rw[h0,Int.add_zero] at hK
  refine aH Tryz.func189 ?_
  repeat' (first|refine Ga ?_|refine wr ?_|refine w5 ?_ ?_|((refine bh fun h=>?_) <;> try exact w6 h)|(refine aE fun hA=>?_;subst hA)|intro _|(show aA _ 280 _ _ _;refine CA (h:=HA hT ?_)))
  (refine aC ?_;exact aK (aG.trans (by exact aY) ((jQ hT))) (hK))
 ·refine aH Tryz.func189 ?_
  repeat' (first|refine Ga ?_|refine wr ?_|refine w5 ?_ ?_|((refine bh fun h=>?_) <;> try exact w6 h)|(refine aE fun hA=>?_;subst hA)|intro _|(show aA _ 280 _ _ _;refine CA (h:=HA hT ?_))|(show aA _ 187 _ _ _;refine CA (h:=GZ (by omega) (by omega) ?_)))
  (refine aC ?_;exact aK (aG.trans (by exact aY) ((jQ hw))) (hK))
theorem M7 {w st it:Int} (hs:rY w st it=true) (hK:K (.int .i64 0) (xX r w (max most w) (gr+(w - cap)) got us bs en::R)):aA Tryz.prog 250 #[.pointer (some ⟨r,0,none⟩),.agg #[.int .i64 w,.int .i64 st,.int .i64 it]] (xX r cap most gr got us bs en::R) K:=by
 refine mP fun g p hT=>?_
 obtain⟨h1,h2,h3,h4,h5,h6,h7,h8,h9⟩:=hT
 have hs2:=hs
 unfold rY at hs2
 rw[decide_eq_true_eq] at hs2
 have hw:RB w (max most w) (gr+(w - cap)) got us bs:=⟨h1,h2,by omega,by omega,by omega,by omega,by omega,by omega,h9⟩
 refine aH Tryz.func250 ?_
 repeat' (first|refine z8 ?_|refine dw yW ?_|refine wr ?_|refine w5 ?_ ?_|((refine bh fun h=>?_) <;> try exact w6 h)|(refine aE fun hA=>?_;subst hA)|intro _|(show aA _ 143 _ _ _;refine CA (h:=uJ (v:=0) (by rw[if_pos hs]) ?_))|(show aA _ 334 _ _ _;refine CA (h:=Nz (by omega) (by omega) (by omega) ?_)))
 (refine aC ?_;exact aK (aG.trans (by exact aY) ((jQ hw))) (hK))
theorem Jh {e:Bool} (he:en=true) (hK:K (.tuple #[.int .i64 7,.bool false]) (xX r cap most gr got us bs en::R)):aA Tryz.prog 341 #[.pointer (some ⟨r,0,none⟩),.string s,.bool e] (xX r cap most gr got us bs en::R) K:=by
 subst he
 refine aH Tryz.func341 ?_
 repeat' (first|refine L2 ?_|refine wr ?_|refine w5 ?_ ?_|((refine bh fun h=>?_) <;> try exact w6 h)|(refine aE fun hA=>?_;subst hA)|intro _|(show aA _ 221 _ _ _;refine CA (h:=Am ?_)))
 (refine aC ?_;exact aB (hK))
theorem JA {e:Bool} (he:en=false) (hs:max (gr - got) 0<s.size) (hK:K (.tuple #[.int .i64 8,.bool false]) (xX r cap most gr got us bs en::R)):aA Tryz.prog 341 #[.pointer (some ⟨r,0,none⟩),.string s,.bool e] (xX r cap most gr got us bs en::R) K:=by
 subst he
 refine mP fun g p hT=>?_
 have hT':=hT
 obtain⟨h1,h2,h3,h4,h5,h6,h7,h8,h9⟩:=hT'
 refine aH Tryz.func341 ?_
 repeat' (first|refine L2 ?_|refine wr ?_|refine w5 ?_ ?_|((refine bh fun h=>?_) <;> try exact w6 h)|(refine aE fun hA=>?_;subst hA)|intro _|(show aA _ 221 _ _ _;refine CA (h:=yH ?_))|(show aA _ 260 _ _ _;refine CA (h:=K1 hs (by omega) ?_)))
 (refine aC ?_;exact aK (aG.trans (by exact aY) ((jQ hT))) (hK))
theorem Dq {e:Bool} (he:en=false) (hs:s.size≤max (gr - got) 0) (hb:got+s.size≤400000000) (hK:K (.tuple #[.int .i64 0,.bool true]) (xX r cap most gr (got+s.size) us (bs++s.data.toList) e::R)):aA Tryz.prog 341 #[.pointer (some ⟨r,0,none⟩),.string s,.bool e] (xX r cap most gr got us bs en::R) K:=by
 subst he
 refine mP fun g p hT=>?_
 obtain⟨h1,h2,h3,h4,h5,h6,h7,h8,h9⟩:=hT
 have hsl:s.data.toList.length=s.size:=by simp
 have hw:RB cap most gr (got+s.size) us (bs++s.data.toList):=⟨by rw[List.length_append,hsl];omega,h2,h3,h4,h5,h6,h7,by rw[List.length_append,hsl];omega,hb⟩
 by_cases h0:s.size=0
 ·have e0:s.data.toList= []:=List.length_eq_zero_iff.1 (by omega)
  rw[e0,List.append_nil] at hw hK
  refine aH Tryz.func341 ?_
  repeat' (first|refine L2 ?_|refine wr ?_|refine w5 ?_ ?_|((refine bh fun h=>?_) <;> try exact w6 h)|(refine aE fun hA=>?_;subst hA)|intro _|(show aA _ 221 _ _ _;refine CA (h:=yH ?_))|(show aA _ 260 _ _ _;refine CA (h:=H7 (by omega) (by omega) ?_))|(show aA _ 320 _ _ _;refine CA (h:=G5 (by omega) (.inl h0) ?_)))
  (refine aC ?_;exact aK (aG.trans (by exact aY) ((jQ hw))) (hK))
 ·have et:s.data.toList.take s.size=s.data.toList:=List.take_of_length_le (by omega)
  refine aH Tryz.func341 ?_
  repeat' (first|refine L2 ?_|refine wr ?_|refine w5 ?_ ?_|((refine bh fun h=>?_) <;> try exact w6 h)|(refine aE fun hA=>?_;subst hA)|intro _|(show aA _ 221 _ _ _;refine CA (h:=yH ?_))|(show aA _ 260 _ _ _;refine CA (h:=H7 (by omega) (by omega) ?_))|(show aA _ 320 _ _ _;refine CA (h:=Ki (n:=s.size) (by omega) (by omega) (by omega) ?_)))
  rw[et]
  (refine aC ?_;exact aK (aG.trans (by exact aY) ((jQ hw))) (hK))
theorem Si {kk:Nat} (hk:(kk:Int)=max (min n bs.length) 0) (hK:K (.tuple #[.string ⟨(bs.take kk).toArray⟩,.int .i64 0]) (xX r cap most gr got (us+kk) (bs.drop kk) en::R)):aA Tryz.prog 117 #[.pointer (some ⟨r,0,none⟩),.int .i64 n] (xX r cap most gr got us bs en::R) K:=by
 refine mP fun g p hT=>?_
 obtain⟨h1,h2,h3,h4,h5,h6,h7,h8,h9⟩:=hT
 have hs:(ByteArray.mk (bs.take kk).toArray).size=kk:=by simp[u3];omega
 have hw:RB cap most gr got (us+kk) (bs.drop kk):=⟨by rw[List.length_drop];omega,by omega,h3,by omega,h5,h6,h7,by rw[List.length_drop];omega,h9⟩
 refine aH Tryz.func117 ?_
 repeat' (first|refine I2 ?_|refine wr ?_|refine w5 ?_ ?_|((refine bh fun h=>?_) <;> try exact w6 h)|(refine aE fun hA=>?_;subst hA)|intro _|(show aA _ 219 _ _ _;refine CA (h:=G3 ?_))|(show aA _ 220 _ _ _;refine CA (h:=Fb (kk:=kk) (by omega) hk ?_))|(show aA _ 118 _ _ _;refine CA (h:=HG (by rw[hs];omega) (by omega) ?_)))
 rw[hs]
 (refine aC ?_;exact aK (aG.trans (by exact aY) ((jQ hw))) (hK))
theorem Fx (hK:K (.int .i64 bs.length) (xX r cap most gr got (us+bs.length) [] en::R)):aA Tryz.prog 338 #[.pointer (some ⟨r,0,none⟩)] (xX r cap most gr got us bs en::R) K:=by
 refine mP fun g p hT=>?_
 obtain⟨h1,h2,h3,h4,h5,h6,h7,h8,h9⟩:=hT
 have hw:RB cap most gr got (us+bs.length) []:=⟨by simp;omega,by omega,h3,by omega,h5,h6,h7,by simp;omega,h9⟩
 refine aH Tryz.func338 ?_
 repeat' (first|refine Ga ?_|refine wr ?_|refine w5 ?_ ?_|((refine bh fun h=>?_) <;> try exact w6 h)|(refine aE fun hA=>?_;subst hA)|intro _|(show aA _ 386 _ _ _;refine CA (h:=Kq (by omega) ?_))|(show aA _ 118 _ _ _;refine CA (h:=HG (by omega) (by omega) ?_))|(show aA _ 387 _ _ _;refine CA (h:=FP ?_)))
 rw[show((bs.length:Nat):Int)+0=bs.length by omega]
 (refine aC ?_;exact aK (aG.trans (by exact aY) ((jQ hw))) (hK))
end
end
section
variable {R C:List HP} {K:Value→List HP→Prop}
def RI (mr room open_ ask:Int) (l:List ByteArray) (ac tk dr:Int):Prop:=ac=tk+dr+l.length∧0≤tk∧0≤dr∧ac≤400000000∧0≤open_∧open_+l.length≤mr∧0≤room∧room≤mr∧mr≤64∧0≤ask∧ask≤2147483647
def uF (r:Nat) (mr room open_ ask:Int) (l:List ByteArray) (ac tk dr:Int) (en:Bool):HP:=eW fun q=>eW fun d=>sep (pt r [.int .i64 2,.pointer none,.pointer none,.pointer (some ⟨q,0,none⟩),.pointer (some ⟨d,0,none⟩),.int .i64 room,.int .i64 open_,.bool en] 265) (sep (wX q 64 0 l ac tk dr) (sep (oF d ask 2147483647) (bH (RI mr room open_ ask l ac tk dr))))
section
variable {r:Nat} {mr room open_ ask ac tk dr:Int} {l:List ByteArray} {en:Bool} {n:Int} {s:ByteArray}
theorem f8 {q d:Nat} (h:RI mr room open_ ask l ac tk dr):aG (pt r [.int .i64 2,.pointer none,.pointer none,.pointer (some ⟨q,0,none⟩),.pointer (some ⟨d,0,none⟩),.int .i64 room,.int .i64 open_,.bool en] 265::wX q 64 0 l ac tk dr::oF d ask 2147483647::R) (uF r mr room open_ ask l ac tk dr en::R):=
 aG.ex q (aG.ex d (pY h))
theorem jV {f:FuncId} {args:Array Value} (h:∀q d,RI mr room open_ ask l ac tk dr→aA Tryz.prog f args (pt r [.int .i64 2,.pointer none,.pointer none,.pointer (some ⟨q,0,none⟩),.pointer (some ⟨d,0,none⟩),.int .i64 room,.int .i64 open_,.bool en] 265::wX q 64 0 l ac tk dr::oF d ask 2147483647::R) K):aA Tryz.prog f args (uF r mr room open_ ask l ac tk dr en::R) K:=
 aA.ex fun q=>aA.ex fun d=>Cb fun hI=>h q d hI
theorem KI {w st it:Int} (hs:rY w st it=true) (hK:∀r,K (.tuple #[.pointer (some ⟨r,0,none⟩),.int .i64 0]) (uF r it it 0 0 [] 0 0 0 false::R)):aA Tryz.prog 235 #[.int .i64 2,.agg #[.int .i64 w,.int .i64 st,.int .i64 it]] R K:=by
 have hs2:=hs
 unfold rY at hs2
 rw[decide_eq_true_eq] at hs2
 refine aH Tryz.func235 ?_
 repeat' (first|refine z8 ?_|refine wr ?_|refine w5 ?_ ?_|((refine bh fun h=>?_) <;> try exact w6 h)|(refine aE fun hA=>?_;subst hA)|intro _|(show aA _ 143 _ _ _;refine CA (h:=uJ (v:=0) (by rw[if_pos hs]) ?_))|(show aA _ 323 _ _ _;refine CA (h:=NG (by omega) (by omega) (fun q=>?_)))|(show aA _ 324 _ _ _;refine CA (h:=Tq (by omega) (fun d=>?_))))
 (refine aC ?_;exact aK (aG.trans (by exact aY) ((f8 ⟨by simp,by omega,by omega,by omega,by omega,by simp;omega,by omega,by omega,by omega,by omega,by omega⟩))) (hK _))
theorem oI {q d:Nat} (hK:K (.bool en) (pt r [.int .i64 2,.pointer none,.pointer none,.pointer (some ⟨q,0,none⟩),.pointer (some ⟨d,0,none⟩),.int .i64 room,.int .i64 open_,.bool en] 265::R)):aA Tryz.prog 221 #[.pointer (some ⟨r,0,none⟩)] (pt r [.int .i64 2,.pointer none,.pointer none,.pointer (some ⟨q,0,none⟩),.pointer (some ⟨d,0,none⟩),.int .i64 room,.int .i64 open_,.bool en] 265::R) K:=by
 refine aH Tryz.func221 ?_
 repeat' (first|refine v23 ?_|refine wr ?_|refine w5 ?_ ?_|((refine bh fun h=>?_) <;> try exact w6 h)|(refine aE fun hA=>?_;subst hA)|intro _)
 (refine aC ?_;exact aB (hK))
theorem zR (hK:K (.bool en) (uF r mr room open_ ask l ac tk dr en::R)):aA Tryz.prog 221 #[.pointer (some ⟨r,0,none⟩)] (uF r mr room open_ ask l ac tk dr en::R) K:=by
 refine jV fun q d hT=>?_
 refine aH Tryz.func221 ?_
 repeat' (first|refine v23 ?_|refine wr ?_|refine w5 ?_ ?_|((refine bh fun h=>?_) <;> try exact w6 h)|(refine aE fun hA=>?_;subst hA)|intro _)
 (refine aC ?_;exact aK (aG.trans (by exact aY) ((f8 hT))) (hK))
def Cv:List (Nat×Nat):= [(0,0),(1,0),(2,0),(3,0),(4,1),(5,1),(6,1),(7,1),(8,1),(9,1),(10,0),(11,0)]
theorem uD (hK:K (.int .i64 l.length) (uF r mr room open_ ask l ac tk dr en::R)):aA Tryz.prog 90 #[.pointer (some ⟨r,0,none⟩)] (uF r mr room open_ ask l ac tk dr en::R) K:=by
 refine jV fun q d hT=>?_
 have hT':=hT
 obtain⟨h1,h2,h3,h4,h5,h6,h7,h8,h9,h10,h11⟩:=hT'
 refine aH Tryz.func90 ?_
 repeat' (first|refine Ga ?_|refine dw Cv ?_|refine wr ?_|refine w5 ?_ ?_|((refine bh fun h=>?_) <;> try exact w6 h)|(refine aE fun hA=>?_;subst hA)|intro _|(show aA _ 179 _ _ _;refine CA (h:=Ia ?_))|(show aA _ 180 _ _ _;refine CA (h:=IP ?_)))
 rw[show(0:Int)+((l.length:Nat):Int)=l.length by omega]
 (refine aC ?_;exact aK (aG.trans (by exact aY) ((f8 hT))) (hK))
theorem QE (hK:K (.bool (en && decide (l= []))) (uF r mr room open_ ask l ac tk dr en::R)):aA Tryz.prog 119 #[.pointer (some ⟨r,0,none⟩)] (uF r mr room open_ ask l ac tk dr en::R) K:=by
 cases en
 ·refine aH Tryz.func119 ?_
  repeat' (first|refine v15 ?_|refine wr ?_|refine w5 ?_ ?_|((refine bh fun h=>?_) <;> try exact w6 h)|(refine aE fun hA=>?_;subst hA)|intro _|(show aA _ 221 _ _ _;refine CA (h:=zR ?_))|(show aA _ 90 _ _ _;refine CA (h:=uD ?_)))
  (refine aC ?_;exact aB (hK))
 ·refine aH Tryz.func119 ?_
  repeat' (first|refine v15 ?_|refine wr ?_|refine w5 ?_ ?_|((refine bh fun h=>?_) <;> try exact w6 h)|(refine aE fun hA=>?_;subst hA)|intro _|(show aA _ 221 _ _ _;refine CA (h:=zR ?_))|(show aA _ 90 _ _ _;refine CA (h:=uD ?_)))
  all_goals(refine aC ?_;exact aB (kb hK (by cases l <;> simp <;> omega)))
theorem y8 {q d:Nat} {k:Int} (hK:K (.int .i64 (if k=2 then 0 else 13)) (pt r [.int .i64 2,.pointer none,.pointer none,.pointer (some ⟨q,0,none⟩),.pointer (some ⟨d,0,none⟩),.int .i64 room,.int .i64 open_,.bool en] 265::R)):aA Tryz.prog 219 #[.pointer (some ⟨r,0,none⟩),.int .i64 k] (pt r [.int .i64 2,.pointer none,.pointer none,.pointer (some ⟨q,0,none⟩),.pointer (some ⟨d,0,none⟩),.int .i64 room,.int .i64 open_,.bool en] 265::R) K:=by
 by_cases h:k=2
 ·rw[if_pos h] at hK
  refine aH Tryz.func219 ?_
  repeat' (first|refine v29 ?_|refine wr ?_|refine w5 ?_ ?_|((refine bh fun h=>?_) <;> try exact w6 h)|(refine aE fun hA=>?_;subst hA)|intro _)
  all_goals(refine aC ?_;exact aB (hK))
 ·rw[if_neg h] at hK
  refine aH Tryz.func219 ?_
  repeat' (first|refine v29 ?_|refine wr ?_|refine w5 ?_ ?_|((refine bh fun h=>?_) <;> try exact w6 h)|(refine aE fun hA=>?_;subst hA)|intro _)
  all_goals(refine aC ?_;exact aB (hK))
theorem R6 (hK:K (.tuple #[.string ⟨#[]⟩,.int .i64 13]) (uF r mr room open_ ask l ac tk dr en::R)):aA Tryz.prog 117 #[.pointer (some ⟨r,0,none⟩),.int .i64 n] (uF r mr room open_ ask l ac tk dr en::R) K:=by
 refine jV fun q d hT=>?_
 refine aH Tryz.func117 ?_
 repeat' (first|refine I2 ?_|refine wr ?_|refine w5 ?_ ?_|((refine bh fun h=>?_) <;> try exact w6 h)|(refine aE fun hA=>?_;subst hA)|intro _|(show aA _ 219 _ _ _;refine CA (h:=y8 ?_)))
 (refine aC ?_;exact aK (aG.trans (by exact aY) ((f8 hT))) (hK))
theorem O8 (hK:K (.tuple #[.string ⟨#[]⟩,.bool false,.int .i64 0]) (uF r mr room open_ ask [] ac tk dr en::R)):aA Tryz.prog 121 #[.pointer (some ⟨r,0,none⟩)] (uF r mr room open_ ask [] ac tk dr en::R) K:=by
 refine jV fun q d hT=>?_
 refine aH Tryz.func121 ?_
 repeat' (first|refine I2 ?_|refine wr ?_|refine w5 ?_ ?_|((refine bh fun h=>?_) <;> try exact w6 h)|(refine aE fun hA=>?_;subst hA)|intro _|(show aA _ 219 _ _ _;refine CA (h:=y8 ?_))|(show aA _ 225 _ _ _;refine CA (h:=Ij ?_)))
 (refine aC ?_;exact aK (aG.trans (by exact aY) ((f8 hT))) (hK))
theorem QG (hK:K (.tuple #[.string s,.bool true,.int .i64 0]) (uF r mr room open_ ask l ac (tk+1) dr en::R)):aA Tryz.prog 121 #[.pointer (some ⟨r,0,none⟩)] (uF r mr room open_ ask (s::l) ac tk dr en::R) K:=by
 refine jV fun q d hT=>?_
 obtain⟨h1,h2,h3,h4,h5,h6,h7,h8,h9,h10,h11⟩:=hT
 have hl:(s::l).length=l.length+1:=rfl
 have hw:RI mr room open_ ask l ac (tk+1) dr:=⟨by omega,by omega,h3,h4,h5,by omega,h7,h8,h9,h10,h11⟩
 refine aH Tryz.func121 ?_
 repeat' (first|refine I2 ?_|refine wr ?_|refine w5 ?_ ?_|((refine bh fun h=>?_) <;> try exact w6 h)|(refine aE fun hA=>?_;subst hA)|intro _|(show aA _ 219 _ _ _;refine CA (h:=y8 ?_))|(show aA _ 225 _ _ _;refine CA (h:=J6 (by omega) (by omega) ?_)))
 (refine aC ?_;exact aK (aG.trans (by exact aY) ((f8 hw))) (hK))
theorem Xv (h:1≤n) (hK:K (.int .i64 0) (uF r mr room open_ (ask+min n (2147483647 - ask)) l ac tk dr en::R)):aA Tryz.prog 296 #[.pointer (some ⟨r,0,none⟩),.int .i64 n] (uF r mr room open_ ask l ac tk dr en::R) K:=by
 refine jV fun q d hT=>?_
 obtain⟨h1,h2,h3,h4,h5,h6,h7,h8,h9,h10,h11⟩:=hT
 have hw:RI mr room open_ (ask+min n (2147483647 - ask)) l ac tk dr:=⟨h1,h2,h3,h4,h5,h6,h7,h8,h9,by omega,by omega⟩
 refine aH Tryz.func296 ?_
 repeat' (first|refine I2 ?_|refine wr ?_|refine w5 ?_ ?_|((refine bh fun h=>?_) <;> try exact w6 h)|(refine aE fun hA=>?_;subst hA)|intro _|(show aA _ 219 _ _ _;refine CA (h:=y8 ?_))|(show aA _ 360 _ _ _;refine CA (h:=Uj h ⟨h10,h11⟩ (by omega) ?_)))
 (refine aC ?_;exact aK (aG.trans (by exact aY) ((f8 hw))) (hK))
theorem Rz (h:n<1) (hK:K (.int .i64 2) (uF r mr room open_ ask l ac tk dr en::R)):aA Tryz.prog 296 #[.pointer (some ⟨r,0,none⟩),.int .i64 n] (uF r mr room open_ ask l ac tk dr en::R) K:=by
 refine jV fun q d hT=>?_
 refine aH Tryz.func296 ?_
 repeat' (first|refine I2 ?_|refine wr ?_|refine w5 ?_ ?_|((refine bh fun h=>?_) <;> try exact w6 h)|(refine aE fun hA=>?_;subst hA)|intro _|(show aA _ 219 _ _ _;refine CA (h:=y8 ?_))|(show aA _ 360 _ _ _;refine CA (h:=OH (by simp) h ?_)))
 (refine aC ?_;exact aK (aG.trans (by exact aY) ((f8 hT))) (hK))
def xQ (room open_ ask:Int) (l:List ByteArray):Int:=max (min ask (room - open_ - l.length)) 0
def Bv:List Nat:= [0,1,3,7,15,0,32,96,224,0,512,1536,3584,8160,0,16384,49152,114688,245791,524287,1048575,2097151,4194303]
def Bw:List Nat:= [4194303,2097151,1048575,524287,245791,114688,49152,16384,0,8160,3584,1536,512,0,224,96,32,0,15,7,3,1,0]
def BI:List (Nat×Nat):= [(0,0),(1,0),(2,0),(3,0),(4,1),(14,1),(15,1),(16,1),(17,1),(18,1),(5,2),(6,2),(7,2),(8,2),(9,2),(10,2),(11,2),(12,2),(13,2),(19,0),(20,0),(21,0),(22,0)]
theorem Q4 {q d r2:Nat} (hT:RI mr room open_ ask l ac tk dr) (hK:K (.int .i64 (xQ room open_ ask l)) (pt r2 [.pointer (some ⟨r,0,none⟩)] 170::pt r [.int .i64 2,.pointer none,.pointer none,.pointer (some ⟨q,0,none⟩),.pointer (some ⟨d,0,none⟩),.int .i64 room,.int .i64 open_,.bool en] 265::wX q 64 0 l ac tk dr::oF d ask 2147483647::R)):aA Tryz.prog 353 #[.pointer (some ⟨r2,0,none⟩)] (pt r2 [.pointer (some ⟨r,0,none⟩)] 170::pt r [.int .i64 2,.pointer none,.pointer none,.pointer (some ⟨q,0,none⟩),.pointer (some ⟨d,0,none⟩),.int .i64 room,.int .i64 open_,.bool en] 265::wX q 64 0 l ac tk dr::oF d ask 2147483647::R) K:=by
 obtain⟨h1,h2,h3,h4,h5,h6,h7,h8,h9,h10,h11⟩:=hT
 unfold xQ at hK
 refine aH Tryz.func353 ?_
 repeat' (first|refine v67 ?_|refine PX Bv Bw BI ?_|refine wr ?_|refine w5 ?_ ?_|((refine bh fun h=>?_) <;> try exact w6 h)|(refine aE fun hA=>?_;subst hA)|intro _|(show aA _ 354 _ _ _;refine CA (h:=PO ?_))|(show aA _ 180 _ _ _;refine CA (h:=IP ?_)))
 (refine aC ?_;exact aB (hK))
theorem GH {q d:Nat} (hT:RI mr room open_ ask l ac tk dr) (hK:K (.int .i64 (xQ room open_ ask l)) (pt r [.int .i64 2,.pointer none,.pointer none,.pointer (some ⟨q,0,none⟩),.pointer (some ⟨d,0,none⟩),.int .i64 room,.int .i64 open_,.bool en] 265::wX q 64 0 l ac tk dr::oF d ask 2147483647::R)):aA Tryz.prog 280 #[.pointer (some ⟨r,0,none⟩)] (pt r [.int .i64 2,.pointer none,.pointer none,.pointer (some ⟨q,0,none⟩),.pointer (some ⟨d,0,none⟩),.int .i64 room,.int .i64 open_,.bool en] 265::wX q 64 0 l ac tk dr::oF d ask 2147483647::R) K:=by
 refine aH Tryz.func280 ?_
 repeat' (first|refine v47 ?_|refine wr ?_|refine w5 ?_ ?_|((refine bh fun h=>?_) <;> try exact w6 h)|(refine aE fun hA=>?_;subst hA)|intro _|(show aA _ 353 _ _ _;refine CA (h:=Q4 hT ?_)))
 (refine aC ?_;exact aB (hK))
theorem O0 (hK:K (.int .i64 (xQ room open_ ask l)) (uF r mr room (open_+xQ room open_ ask l) (ask - xQ room open_ ask l) l ac tk dr en::R)):aA Tryz.prog 189 #[.pointer (some ⟨r,0,none⟩)] (uF r mr room open_ ask l ac tk dr en::R) K:=by
 refine jV fun q d hT=>?_
 have hT':=hT
 obtain⟨h1,h2,h3,h4,h5,h6,h7,h8,h9,h10,h11⟩:=hT'
 have hd:0≤xQ room open_ ask l∧xQ room open_ ask l≤ask∧(xQ room open_ ask l=0∨open_+xQ room open_ ask l+l.length≤room):=by unfold xQ;omega
 have hw:RI mr room (open_+xQ room open_ ask l) (ask - xQ room open_ ask l) l ac tk dr:=⟨h1,h2,h3,h4,by omega,by omega,h7,h8,h9,by omega,by omega⟩
 by_cases h0:xQ room open_ ask l=0
 ·rw[h0,Int.add_zero,Int.sub_zero] at hK
  refine aH Tryz.func189 ?_
  repeat' (first|refine Ga ?_|refine wr ?_|refine w5 ?_ ?_|((refine bh fun h=>?_) <;> try exact w6 h)|(refine aE fun hA=>?_;subst hA)|intro _|(show aA _ 280 _ _ _;refine CA (h:=GH hT ?_)))
  (refine aC ?_;exact aK (aG.trans (by exact aY) ((f8 hT))) (hK))
 ·refine aH Tryz.func189 ?_
  repeat' (first|refine Ga ?_|refine wr ?_|refine w5 ?_ ?_|((refine bh fun h=>?_) <;> try exact w6 h)|(refine aE fun hA=>?_;subst hA)|intro _|(show aA _ 280 _ _ _;refine CA (h:=GH hT ?_))|(show aA _ 281 _ _ _;refine CA (h:=PN (by omega) (by omega) (by omega) ?_)))
  (refine aC ?_;exact aK (aG.trans (by exact aY) ((f8 hw))) (hK))
def yV:List (Nat×Nat):= [(0,0),(1,0),(2,0),(3,0),(4,0),(5,0),(6,1),(7,0)]
theorem Mc {w st it:Int} (hs:rY w st it=true) (hK:K (.int .i64 0) (uF r (max mr it) it open_ ask l ac tk dr en::R)):aA Tryz.prog 250 #[.pointer (some ⟨r,0,none⟩),.agg #[.int .i64 w,.int .i64 st,.int .i64 it]] (uF r mr room open_ ask l ac tk dr en::R) K:=by
 refine jV fun q d hT=>?_
 obtain⟨h1,h2,h3,h4,h5,h6,h7,h8,h9,h10,h11⟩:=hT
 have hs2:=hs
 unfold rY at hs2
 rw[decide_eq_true_eq] at hs2
 have hw:RI (max mr it) it open_ ask l ac tk dr:=⟨h1,h2,h3,h4,h5,by omega,by omega,by omega,by omega,h10,h11⟩
 refine aH Tryz.func250 ?_
 repeat' (first|refine z8 ?_|refine dw yV ?_|refine wr ?_|refine w5 ?_ ?_|((refine bh fun h=>?_) <;> try exact w6 h)|(refine aE fun hA=>?_;subst hA)|intro _|(show aA _ 143 _ _ _;refine CA (h:=uJ (v:=0) (by rw[if_pos hs]) ?_)))
 (refine aC ?_;exact aK (aG.trans (by exact aY) ((f8 hw))) (hK))
theorem Jj {e:Bool} (he:en=true) (hK:K (.tuple #[.int .i64 7,.bool false]) (uF r mr room open_ ask l ac tk dr en::R)):aA Tryz.prog 341 #[.pointer (some ⟨r,0,none⟩),.string s,.bool e] (uF r mr room open_ ask l ac tk dr en::R) K:=by
 subst he
 refine aH Tryz.func341 ?_
 repeat' (first|refine L2 ?_|refine wr ?_|refine w5 ?_ ?_|((refine bh fun h=>?_) <;> try exact w6 h)|(refine aE fun hA=>?_;subst hA)|intro _|(show aA _ 221 _ _ _;refine CA (h:=zR ?_)))
 (refine aC ?_;exact aB (hK))
theorem RN {s:ByteArray} (h:s≠⟨#[]⟩):(!(s.toList == (ByteArray.mk #[]).toList))=true:=by
 rw[Bool.not_eq_true',beq_eq_false_iff_ne]
 intro e
 apply h
 rw[ByteArray.toList_eq,ByteArray.toList_eq] at e
 exact ByteArray.ext (Array.toList_inj.1 e)
theorem Jv {e:Bool} (he:en=false) (hs:s≠⟨#[]⟩∨e=false) (ho:open_<1) (hK:K (.tuple #[.int .i64 10,.bool false]) (uF r mr room open_ ask l ac tk dr en::R)):aA Tryz.prog 341 #[.pointer (some ⟨r,0,none⟩),.string s,.bool e] (uF r mr room open_ ask l ac tk dr en::R) K:=by
 subst he
 refine jV fun q d hT=>?_
 by_cases h0:s=⟨#[]⟩
 ·subst h0
  rcases hs with h|rfl
  ·exact absurd rfl h
  ·refine aH Tryz.func341 ?_
   repeat' (first|refine L2 ?_|refine wr ?_|refine w5 ?_ ?_|((refine bh fun h=>?_) <;> try exact w6 h)|(refine aE fun hA=>?_;subst hA)|intro _|(show aA _ 221 _ _ _;refine CA (h:=oI ?_)))
   (refine aC ?_;exact aK (aG.trans (by exact aY) ((f8 hT))) (hK))
 ·have hb:=RN h0
  refine aH Tryz.func341 ?_
  repeat' (first|(show Br _ _ _;refine Br.t hb ?_)|refine L2 ?_|refine wr ?_|refine w5 ?_ ?_|((refine bh fun h=>?_) <;> try exact w6 h)|(refine aE fun hA=>?_;subst hA)|intro _|(show aA _ 221 _ _ _;refine CA (h:=oI ?_)))
  (refine aC ?_;exact aK (aG.trans (by exact aY) ((f8 hT))) (hK))
theorem Jr (he:en=false) (hK:K (.tuple #[.int .i64 0,.bool true]) (uF r mr room open_ ask l ac tk dr true::R)):aA Tryz.prog 341 #[.pointer (some ⟨r,0,none⟩),.string ⟨#[]⟩,.bool true] (uF r mr room open_ ask l ac tk dr en::R) K:=by
 subst he
 refine jV fun q d hT=>?_
 refine aH Tryz.func341 ?_
 repeat' (first|refine L2 ?_|refine wr ?_|refine w5 ?_ ?_|((refine bh fun h=>?_) <;> try exact w6 h)|(refine aE fun hA=>?_;subst hA)|intro _|(show aA _ 221 _ _ _;refine CA (h:=oI ?_)))
 (refine aC ?_;exact aK (aG.trans (by exact aY) ((f8 hT))) (hK))
theorem D5 {e:Bool} (he:en=false) (hs:s≠⟨#[]⟩∨e=false) (ho:1≤open_) (hb:ac≤300000000) (hK:K (.tuple #[.int .i64 0,.bool true]) (uF r mr room (open_ - 1) ask (l++ [s]) (ac+1) tk dr e::R)):aA Tryz.prog 341 #[.pointer (some ⟨r,0,none⟩),.string s,.bool e] (uF r mr room open_ ask l ac tk dr en::R) K:=by
 subst he
 refine jV fun q d hT=>?_
 obtain⟨h1,h2,h3,h4,h5,h6,h7,h8,h9,h10,h11⟩:=hT
 have hw:RI mr room (open_ - 1) ask (l++ [s]) (ac+1) tk dr:=⟨by simp;omega,h2,h3,by omega,by omega,by simp;omega,h7,h8,h9,h10,h11⟩
 by_cases h0:s=⟨#[]⟩
 ·subst h0
  rcases hs with h|rfl
  ·exact absurd rfl h
  ·refine aH Tryz.func341 ?_
   repeat' (first|refine L2 ?_|refine wr ?_|refine w5 ?_ ?_|((refine bh fun h=>?_) <;> try exact w6 h)|(refine aE fun hA=>?_;subst hA)|intro _|(show aA _ 221 _ _ _;refine CA (h:=oI ?_))|(show aA _ 321 _ _ _;refine CA (h:=Ev (by omega) (by omega) (by omega) ?_)))
   (refine aC ?_;exact aK (aG.trans (by exact aY) ((f8 hw))) (hK))
 ·have hb:=RN h0
  refine aH Tryz.func341 ?_
  repeat' (first|(show Br _ _ _;refine Br.t hb ?_)|refine L2 ?_|refine wr ?_|refine w5 ?_ ?_|((refine bh fun h=>?_) <;> try exact w6 h)|(refine aE fun hA=>?_;subst hA)|intro _|(show aA _ 221 _ _ _;refine CA (h:=oI ?_))|(show aA _ 321 _ _ _;refine CA (h:=Ev (by omega) (by omega) (by omega) ?_)))
  (refine aC ?_;exact aK (aG.trans (by exact aY) ((f8 hw))) (hK))
theorem FT (hK:K (.int .i64 l.length) (uF r mr room open_ ask [] ac tk (dr+l.length) en::R)):aA Tryz.prog 338 #[.pointer (some ⟨r,0,none⟩)] (uF r mr room open_ ask l ac tk dr en::R) K:=by
 refine jV fun q d hT=>?_
 obtain⟨h1,h2,h3,h4,h5,h6,h7,h8,h9,h10,h11⟩:=hT
 have hw:RI mr room open_ ask [] ac tk (dr+l.length):=⟨by simp;omega,h2,by omega,h4,h5,by simp;omega,h7,h8,h9,h10,h11⟩
 refine aH Tryz.func338 ?_
 repeat' (first|refine Ga ?_|refine wr ?_|refine w5 ?_ ?_|((refine bh fun h=>?_) <;> try exact w6 h)|(refine aE fun hA=>?_;subst hA)|intro _|(show aA _ 386 _ _ _;refine CA (h:=IV ?_))|(show aA _ 118 _ _ _;refine CA (h:=Wd ?_))|(show aA _ 387 _ _ _;refine CA (h:=Is (by omega) (by omega) ?_)))
 rw[show(0:Int)+((l.length:Nat):Int)=l.length by omega]
 (refine aC ?_;exact aK (aG.trans (by exact aY) ((f8 hw))) (hK))
end
end
end Go.Proofs.YtifgibijcmppmaaGreat
