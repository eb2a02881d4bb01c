/- A part of the proof: lemmas; each with the conditions that it states. -/
import Derived.Test.YtifgibijcmppmaaGreatUah
set_option linter.unusedVariables false
set_option linter.unusedSimpArgs false
set_option maxRecDepth 100000
set_option maxHeartbeats 40000000
namespace Go.Proofs.YtifgibijcmppmaaGreat
open Go Go.Proofs Go.Sl
attribute [local irreducible] aN fN cX bP aM aX aA dS dV aT dU pt ro eV star sep bH
section
variable {R C:List HP} {K:KP}
def zG (p:Nat) (cap most gr got us:Int):HP:=pt p [I6 cap,I6 most,I6 gr,I6 got,I6 us] 237
theorem FT {n:Int} (hK:K (.bool (decide (0≤n) && decide (n≤2147483647))) R):CT 142 #[I6 n] R K:=by
 refine aH Tryz.func142 ?_
 repeat' (first|refine v1 ?_|refine w5 ?_ ?_|((refine bh fun h=>?_) <;> try exact w6 h)|(refine aE fun hA=>?_;subst hA)|intro _)
 all_goals(refine aC ?_;exact aB (kb hK (by simp <;> omega)))
theorem Ph {n:Int} (h:0≤n∧n≤4096) (hK:∀p,K (.tuple #[PO p,I6 0]) (zG p n n n 0 0::R)):CT 58 #[I6 n] R K:=by
 have e:(decide (0≤n) && decide (n≤2147483647))=true:=by simp;omega
 refine aH Tryz.func58 ?_
 repeat' (first|(show cX _ _ _;rw[e])|refine v21 ?_|refine w5 ?_ ?_|((refine bh fun h=>?_) <;> try exact w6 h)|(refine aE fun hA=>?_;subst hA)|intro _|(show aA _ 142 _ _ _;refine CA (h:=FT ?_)))
 (refine aC ?_;exact aB (hK _))
section
variable {p:Nat} {cap most gr got us:Int}
def BQ:List (Nat×Nat):= [(0,0),(1,0),(2,0),(3,0),(4,0),(5,0),(6,0),(7,0),(8,0),(9,0)]
def tY:List (Nat×Nat):= [(0,0),(1,0),(2,0),(3,0),(4,0),(5,0),(6,0),(7,0),(8,0),(9,0),(10,0),(11,0)]
theorem XE {n:Int} (hK:K (I6 1) R):CT 118 #[.pointer none,I6 n] R K:=by
 refine aH Tryz.func118 ?_
 repeat' (first|refine v33 ?_|refine dw tY ?_|refine w5 ?_ ?_|((refine bh fun h=>?_) <;> try exact w6 h)|(refine aE fun hA=>?_;subst hA)|intro _)
 (refine aC ?_;exact aB (hK))
def vL:List (Nat×Nat):= [(0,0),(1,0),(2,0),(3,0),(4,0),(5,0),(6,0),(7,0),(8,0),(9,0),(10,0),(11,0),(12,0)]
theorem Hw {k:Int} (h:0≤k∧k≤max (gr - got) 0) (hb:-900000000≤gr∧gr≤900000000∧0≤got∧got≤900000000∧k≤900000000) (hK:K (I6 0) (zG p cap most gr (got+k) us::R)):CT 260 #[PO p,I6 k] (zG p cap most gr got us::R) K:=by
 unfold zG at *
 refine aH Tryz.func260 ?_
 repeat' (first|refine v66 ?_|refine dw vL ?_|refine w5 ?_ ?_|((refine bh fun h=>?_) <;> try exact w6 h)|(refine aE fun hA=>?_;subst hA)|intro _)
 all_goals(refine aC ?_;exact aB (hK))
theorem K0 {k:Int} (h:max (gr - got) 0<k) (hb:-900000000≤gr∧gr≤900000000∧0≤got∧got≤900000000) (hK:K (I6 9) (zG p cap most gr got us::R)):CT 260 #[PO p,I6 k] (zG p cap most gr got us::R) K:=by
 unfold zG at *
 refine aH Tryz.func260 ?_
 repeat' (first|refine v66 ?_|refine dw vL ?_|refine w5 ?_ ?_|((refine bh fun h=>?_) <;> try exact w6 h)|(refine aE fun hA=>?_;subst hA)|intro _)
 all_goals(refine aC ?_;exact aB (hK))
theorem IN {k:Int} (h:0≤k∧k≤got - us) (hb:0≤us∧got≤900000000) (hK:K (I6 0) (zG p cap most gr got (us+k)::R)):CT 118 #[PO p,I6 k] (zG p cap most gr got us::R) K:=by
 unfold zG at *
 refine aH Tryz.func118 ?_
 repeat' (first|refine v33 ?_|refine dw tY ?_|refine w5 ?_ ?_|((refine bh fun h=>?_) <;> try exact w6 h)|(refine aE fun hA=>?_;subst hA)|intro _)
 all_goals(refine aC ?_;exact aB (hK))
theorem K3 (hb:-900000000≤gr∧gr≤900000000∧0≤us∧us≤900000000) (hK:K (I6 (gr - us)) (zG p cap most gr got us::R)):CT 109 #[PO p] (zG p cap most gr got us::R) K:=by
 unfold zG at *
 refine aH Tryz.func109 ?_
 repeat' (first|refine v22 ?_|refine dw BQ ?_|refine w5 ?_ ?_|((refine bh fun h=>?_) <;> try exact w6 h)|(refine aE fun hA=>?_;subst hA)|intro _)
 (refine aC ?_;exact aB (hK))
theorem KJ {r2:Nat} (hb:0≤cap∧cap≤900000000) (hK:K (I6 ((cap+1) / 2)) (pt r2 [PO p] 120::zG p cap most gr got us::R)):CT 352 #[PO r2] (pt r2 [PO p] 120::zG p cap most gr got us::R) K:=by
 unfold zG at *
 refine aH Tryz.func352 ?_
 repeat' (first|refine v43 ?_|refine w5 ?_ ?_|((refine bh fun h=>?_) <;> try exact w6 h)|(refine aE fun hA=>?_;subst hA)|intro _)
 (refine aC ?_;exact aB (hK))
def tQ (cap gr us:Int):Int:=if 0<cap - (gr - us)∧cap≤2 * (cap - (gr - us)) then cap - (gr - us) else 0
def vG:List (Nat×Nat):= [(4,0),(5,1),(0,1),(1,1),(2,1),(3,1),(6,0),(7,0)]
theorem NV (hc:0≤cap∧cap≤900000000) (hb:-900000000≤gr∧gr≤900000000∧0≤us∧us≤900000000) (hK:K (I6 (tQ cap gr us)) (zG p cap most gr got us::R)):CT 279 #[PO p] (zG p cap most gr got us::R) K:=by
 unfold tQ at hK
 have hh:∀m:Int,((cap+1) / 2≤m)↔cap≤2 * m:=fun m=>by omega
 by_cases c1:0<cap - (gr - us)∧cap≤2 * (cap - (gr - us))
 ·rw[if_pos c1] at hK
  unfold zG at *
  refine aH Tryz.func279 ?_
  repeat' (first|refine v84 ?_|refine dw vG ?_|refine w5 ?_ ?_|((refine bh fun h=>?_) <;> try exact w6 h)|(refine aE fun hA=>?_;subst hA)|intro _|(show aA _ 109 _ _ _;refine CA (h:=K3 hb ?_))|(show aA _ 352 _ _ _;refine CA (h:=KJ hc ?_)))
  all_goals first|(exfalso;omega)|skip
  all_goals(refine aC ?_;exact aB (hK))
 ·rw[if_neg c1] at hK
  unfold zG at *
  refine aH Tryz.func279 ?_
  repeat' (first|refine v84 ?_|refine dw vG ?_|refine w5 ?_ ?_|((refine bh fun h=>?_) <;> try exact w6 h)|(refine aE fun hA=>?_;subst hA)|intro _|(show aA _ 109 _ _ _;refine CA (h:=K3 hb ?_))|(show aA _ 352 _ _ _;refine CA (h:=KJ hc ?_)))
  all_goals first|(exfalso;omega)|skip
  all_goals(refine aC ?_;exact aB (hK))
theorem IB (hc:0≤cap∧cap≤900000000) (hb:-900000000≤gr∧gr≤900000000∧0≤us∧us≤900000000) (hK:K (I6 (tQ cap gr us)) (zG p cap most (gr+tQ cap gr us) got us::R)):CT 187 #[PO p] (zG p cap most gr got us::R) K:=by
 have h0:0≤tQ cap gr us∧tQ cap gr us≤3000000000:=by unfold tQ;split <;> omega
 refine aH Tryz.func187 ?_
 repeat' (first|refine v37 ?_|refine w5 ?_ ?_|((refine bh fun h=>?_) <;> try exact w6 h)|(refine aE fun hA=>?_;subst hA)|intro _|(show aA _ 279 _ _ _;refine CA (h:=NV hc hb ?_)))
 ·(refine aC ?_;exact aB (hK))
 ·have e:tQ cap gr us=0:=by omega
  rw[e] at hK
  rw[e]
  (refine aC ?_;exact aB ((by simpa using hK)))
def zS:List (Nat×Nat):= [(0,0),(1,0),(2,0),(3,0),(4,0),(5,0),(6,0),(7,0),(8,0),(9,0),(10,0),(11,0),(12,0),(13,1)]
theorem Pj {to:Int} (h:0≤to∧to≤4096) (hc:0≤cap∧cap≤4096) (hb:-900000000≤gr∧gr≤900000000) (hK:K (I6 0) (zG p to (max most to) (gr+(to - cap)) got us::R)):CT 334 #[PO p,I6 to] (zG p cap most gr got us::R) K:=by
 have e:(decide (0≤to) && decide (to≤2147483647))=true:=by simp;omega
 unfold zG at *
 refine aH Tryz.func334 ?_
 repeat' (first|(show cX _ _ _;rw[e])|refine v68 ?_|refine dw zS ?_|refine w5 ?_ ?_|((refine bh fun h=>?_) <;> try exact w6 h)|(refine aE fun hA=>?_;subst hA)|intro _|(show aA _ 142 _ _ _;refine CA (h:=FT ?_)))
 (refine aC ?_;exact aB (hK))
end
def rY (w st it:Int):Bool:=decide (0≤w∧w≤4096∧0≤st∧st≤32∧0≤it∧it≤64)
theorem Qj {n m:Int} (hK:K (.bool (decide (0≤n∧n≤m))) R):CT 239 #[I6 n,I6 m] R K:=by
 refine aH Tryz.func239 ?_
 repeat' (first|refine v1 ?_|refine w5 ?_ ?_|((refine bh fun h=>?_) <;> try exact w6 h)|(refine aE fun hA=>?_;subst hA)|intro _)
 all_goals(refine aC ?_;exact aB (kb hK (by simp <;> omega)))
theorem uL {w st it v:Int} (hv:(if rY w st it=true then 0 else 3)=v) (hK:K (I6 v) R):CT 143 #[.agg #[I6 w,I6 st,I6 it]] R K:=by
 subst hv
 unfold rY at hK
 refine aH Tryz.func143 ?_
 repeat' (first|refine v44 ?_|refine w5 ?_ ?_|((refine bh fun h=>?_) <;> try exact w6 h)|(refine aE fun hA=>?_;subst hA)|intro _|(show aA _ 239 _ _ _;refine CA (h:=Qj ?_)))
 all_goals(refine aC ?_;exact aB (ki hK (by simp only[decide_eq_true_eq];split <;> first|rfl|omega)))
end
section
variable {R C:List HP} {K:KP}
def Cw:List (Nat×Nat):= [(0,0),(1,0),(2,0),(3,0),(4,1),(5,1),(6,1),(7,1),(8,1),(9,1),(10,0),(11,0)]
def y7:List (Nat×Nat):= [(0,0),(1,0),(2,0),(3,0),(4,0),(5,0),(6,1),(7,0)]
def RB (cap most gr got us:Int) (bs:List UInt8):Prop:=got=us+bs.length∧0≤us∧cap≤gr∧gr - us≤cap∧0≤cap∧cap≤most∧most≤4096∧(bs.length:Int)≤most∧got≤400000000
def yF (r:Nat) (cap most gr got us:Int) (bs:List UInt8) (en:Bool):HP:=eV fun g=>eV fun p=>sep (pt r [I6 1,PO g,PO p,.pointer none,.pointer none,I6 0,I6 0,.bool en] 265) (sep (j1 g 4096 bs) (sep (zG p cap most gr got us) (bH (RB cap most gr got us bs))))
section
variable {r:Nat} {cap most gr got us:Int} {bs:List UInt8} {en:Bool} {n:Int} {s:ByteArray}
theorem jV {g p:Nat} (h:RB cap most gr got us bs):aG (pt r [I6 1,PO g,PO p,.pointer none,.pointer none,I6 0,I6 0,.bool en] 265::j1 g 4096 bs::zG p cap most gr got us::R) (yF r cap most gr got us bs en::R):=
 aG.ex g (aG.ex p (qS h))
theorem mY {f:FuncId} {args:Array Value} (h:∀g p,RB cap most gr got us bs→CT f args (pt r [I6 1,PO g,PO p,.pointer none,.pointer none,I6 0,I6 0,.bool en] 265::j1 g 4096 bs::zG p cap most gr got us::R) K):CT f args (yF r cap most gr got us bs en::R) K:=
 aA.ex fun g=>aA.ex fun p=>C5 fun hI=>h g p hI
theorem Kc {w st it:Int} (hs:rY w st it=true) (hK:∀r,K (.tuple #[PO r,I6 0]) (yF r w w w 0 0 [] false::R)):CT 235 #[I6 1,.agg #[I6 w,I6 st,I6 it]] R K:=by
 have hs2:=hs
 unfold rY at hs2
 rw[decide_eq_true_eq] at hs2
 refine aH Tryz.func235 ?_
 repeat' (first|refine zQ ?_|refine w5 ?_ ?_|((refine bh fun h=>?_) <;> try exact w6 h)|(refine aE fun hA=>?_;subst hA)|intro _|(show aA _ 143 _ _ _;refine CA (h:=uL (v:=0) (by rw[if_pos hs]) ?_))|(show aA _ 322 _ _ _;refine CA (h:=VC (cap:=4096) (by omega) (fun g=>?_)))|(show aA _ 58 _ _ _;refine CA (h:=Ph (by omega) (fun p=>?_))))
 (refine aC ?_;exact aK (aG.trans (by exact aZ) ((jV ⟨by simp,by omega,by omega,by omega,by omega,by omega,by omega,by simp;omega,by omega⟩))) (hK _))
theorem yE {g p:Nat} (hK:K (.bool en) (pt r [I6 1,PO g,PO p,.pointer none,.pointer none,I6 0,I6 0,.bool en] 265::R)):CT 221 #[PO r] (pt r [I6 1,PO g,PO p,.pointer none,.pointer none,I6 0,I6 0,.bool en] 265::R) K:=by
 refine aH Tryz.func221 ?_
 repeat' (first|refine v23 ?_|refine w5 ?_ ?_|((refine bh fun h=>?_) <;> try exact w6 h)|(refine aE fun hA=>?_;subst hA)|intro _)
 (refine aC ?_;exact aB (hK))
theorem AH (hK:K (.bool en) (yF r cap most gr got us bs en::R)):CT 221 #[PO r] (yF r cap most gr got us bs en::R) K:=by
 refine mY fun g p hT=>?_
 refine aH Tryz.func221 ?_
 repeat' (first|refine v23 ?_|refine w5 ?_ ?_|((refine bh fun h=>?_) <;> try exact w6 h)|(refine aE fun hA=>?_;subst hA)|intro _)
 (refine aC ?_;exact aK (aG.trans (by exact aZ) ((jV hT))) (hK))
theorem uE (hK:K (I6 bs.length) (yF r cap most gr got us bs en::R)):CT 90 #[PO r] (yF r cap most gr got us bs en::R) K:=by
 refine mY fun g p hT=>?_
 have hT':=hT
 obtain⟨h1,h2,h3,h4,h5,h6,h7,h8,h9⟩:=hT'
 refine aH Tryz.func90 ?_
 repeat' (first|refine Gt ?_|refine dw Cw ?_|refine w5 ?_ ?_|((refine bh fun h=>?_) <;> try exact w6 h)|(refine aE fun hA=>?_;subst hA)|intro _|(show aA _ 179 _ _ _;refine CA (h:=UB ?_))|(show aA _ 180 _ _ _;refine CA (h:=J5 ?_)))
 rw[show((bs.length:Nat):Int)+0=bs.length by omega]
 (refine aC ?_;exact aK (aG.trans (by exact aZ) ((jV hT))) (hK))
theorem RV (hK:K (.bool (en && decide (bs= []))) (yF r cap most gr got us bs en::R)):CT 119 #[PO r] (yF r cap most gr got us bs en::R) K:=by
 cases en
 ·refine aH Tryz.func119 ?_
  repeat' (first|refine v15 ?_|refine w5 ?_ ?_|((refine bh fun h=>?_) <;> try exact w6 h)|(refine aE fun hA=>?_;subst hA)|intro _|(show aA _ 221 _ _ _;refine CA (h:=AH ?_))|(show aA _ 90 _ _ _;refine CA (h:=uE ?_)))
  (refine aC ?_;exact aB (hK))
 ·refine aH Tryz.func119 ?_
  repeat' (first|refine v15 ?_|refine w5 ?_ ?_|((refine bh fun h=>?_) <;> try exact w6 h)|(refine aE fun hA=>?_;subst hA)|intro _|(show aA _ 221 _ _ _;refine CA (h:=AH ?_))|(show aA _ 90 _ _ _;refine CA (h:=uE ?_)))
  all_goals(refine aC ?_;exact aB (kb hK (by cases bs <;> simp <;> omega)))
theorem HH {g p:Nat} {k:Int} (hK:K (I6 (if k=1 then 0 else 13)) (pt r [I6 1,PO g,PO p,.pointer none,.pointer none,I6 0,I6 0,.bool en] 265::R)):CT 219 #[PO r,I6 k] (pt r [I6 1,PO g,PO p,.pointer none,.pointer none,I6 0,I6 0,.bool en] 265::R) K:=by
 by_cases h:k=1
 ·rw[if_pos h] at hK
  refine aH Tryz.func219 ?_
  repeat' (first|refine v29 ?_|refine w5 ?_ ?_|((refine bh fun h=>?_) <;> try exact w6 h)|(refine aE fun hA=>?_;subst hA)|intro _)
  all_goals(refine aC ?_;exact aB (hK))
 ·rw[if_neg h] at hK
  refine aH Tryz.func219 ?_
  repeat' (first|refine v29 ?_|refine w5 ?_ ?_|((refine bh fun h=>?_) <;> try exact w6 h)|(refine aE fun hA=>?_;subst hA)|intro _)
  all_goals(refine aC ?_;exact aB (hK))
theorem Sf (hK:K (.tuple #[.string ⟨#[]⟩,.bool false,I6 13]) (yF r cap most gr got us bs en::R)):CT 121 #[PO r] (yF r cap most gr got us bs en::R) K:=by
 refine mY fun g p hT=>?_
 refine aH Tryz.func121 ?_
 repeat' (first|refine Jo ?_|refine w5 ?_ ?_|((refine bh fun h=>?_) <;> try exact w6 h)|(refine aE fun hA=>?_;subst hA)|intro _|(show aA _ 219 _ _ _;refine CA (h:=HH ?_)))
 (refine aC ?_;exact aK (aG.trans (by exact aZ) ((jV hT))) (hK))
theorem Yi (hK:K (I6 13) (yF r cap most gr got us bs en::R)):CT 296 #[PO r,I6 n] (yF r cap most gr got us bs en::R) K:=by
 refine mY fun g p hT=>?_
 refine aH Tryz.func296 ?_
 repeat' (first|refine Jo ?_|refine w5 ?_ ?_|((refine bh fun h=>?_) <;> try exact w6 h)|(refine aE fun hA=>?_;subst hA)|intro _|(show aA _ 219 _ _ _;refine CA (h:=HH ?_)))
 (refine aC ?_;exact aK (aG.trans (by exact aZ) ((jV hT))) (hK))
theorem IA {g p:Nat} (hT:RB cap most gr got us bs) (hK:K (I6 (tQ cap gr us)) (pt r [I6 1,PO g,PO p,.pointer none,.pointer none,I6 0,I6 0,.bool en] 265::zG p cap most gr got us::R)):CT 280 #[PO r] (pt r [I6 1,PO g,PO p,.pointer none,.pointer none,I6 0,I6 0,.bool en] 265::zG p cap most gr got us::R) K:=by
 obtain⟨h1,h2,h3,h4,h5,h6,h7,h8,h9⟩:=hT
 refine aH Tryz.func280 ?_
 repeat' (first|refine v47 ?_|refine w5 ?_ ?_|((refine bh fun h=>?_) <;> try exact w6 h)|(refine aE fun hA=>?_;subst hA)|intro _|(show aA _ 279 _ _ _;refine CA (h:=NV (by omega) (by omega) ?_)))
 (refine aC ?_;exact aB (hK))
theorem Aeb (hT:RB cap most gr got us bs):RB cap most (gr+tQ cap gr us) got us bs:=by
 obtain⟨h1,h2,h3,h4,h5,h6,h7,h8,h9⟩:=hT
 have:0≤tQ cap gr us∧gr+tQ cap gr us - us≤cap:=by unfold tQ;split <;> omega
 exact⟨h1,h2,by omega,by omega,h5,h6,h7,h8,h9⟩
theorem QP (hK:K (I6 (tQ cap gr us)) (yF r cap most (gr+tQ cap gr us) got us bs en::R)):CT 189 #[PO r] (yF r cap most gr got us bs en::R) K:=by
 refine mY fun g p hT=>?_
 have hw:=Aeb hT
 have hT':=hT
 obtain⟨h1,h2,h3,h4,h5,h6,h7,h8,h9⟩:=hT'
 by_cases h0:tQ cap gr us=0
 ·rw[h0,Int.add_zero] at hK
  refine aH Tryz.func189 ?_
  repeat' (first|refine Gt ?_|refine w5 ?_ ?_|((refine bh fun h=>?_) <;> try exact w6 h)|(refine aE fun hA=>?_;subst hA)|intro _|(show aA _ 280 _ _ _;refine CA (h:=IA hT ?_)))
  (refine aC ?_;exact aK (aG.trans (by exact aZ) ((jV hT))) (hK))
 ·refine aH Tryz.func189 ?_
  repeat' (first|refine Gt ?_|refine w5 ?_ ?_|((refine bh fun h=>?_) <;> try exact w6 h)|(refine aE fun hA=>?_;subst hA)|intro _|(show aA _ 280 _ _ _;refine CA (h:=IA hT ?_))|(show aA _ 187 _ _ _;refine CA (h:=IB (by omega) (by omega) ?_)))
  (refine aC ?_;exact aK (aG.trans (by exact aZ) ((jV hw))) (hK))
theorem Ng {w st it:Int} (hs:rY w st it=true) (hK:K (I6 0) (yF r w (max most w) (gr+(w - cap)) got us bs en::R)):CT 250 #[PO r,.agg #[I6 w,I6 st,I6 it]] (yF r cap most gr got us bs en::R) K:=by
 refine mY fun g p hT=>?_
 obtain⟨h1,h2,h3,h4,h5,h6,h7,h8,h9⟩:=hT
 have hs2:=hs
 unfold rY at hs2
 rw[decide_eq_true_eq] at hs2
 have hw:RB w (max most w) (gr+(w - cap)) got us bs:=⟨h1,h2,by omega,by omega,by omega,by omega,by omega,by omega,h9⟩
 refine aH Tryz.func250 ?_
 repeat' (first|refine zQ ?_|refine dw y7 ?_|refine w5 ?_ ?_|((refine bh fun h=>?_) <;> try exact w6 h)|(refine aE fun hA=>?_;subst hA)|intro _|(show aA _ 143 _ _ _;refine CA (h:=uL (v:=0) (by rw[if_pos hs]) ?_))|(show aA _ 334 _ _ _;refine CA (h:=Pj (by omega) (by omega) (by omega) ?_)))
 (refine aC ?_;exact aK (aG.trans (by exact aZ) ((jV hw))) (hK))
theorem JO {e:Bool} (he:en=true) (hK:K (.tuple #[I6 7,.bool false]) (yF r cap most gr got us bs en::R)):CT 341 #[PO r,.string s,.bool e] (yF r cap most gr got us bs en::R) K:=by
 subst he
 refine aH Tryz.func341 ?_
 repeat' (first|refine MA ?_|refine w5 ?_ ?_|((refine bh fun h=>?_) <;> try exact w6 h)|(refine aE fun hA=>?_;subst hA)|intro _|(show aA _ 221 _ _ _;refine CA (h:=AH ?_)))
 (refine aC ?_;exact aB (hK))
theorem JH {e:Bool} (he:en=false) (hs:max (gr - got) 0<s.size) (hK:K (.tuple #[I6 8,.bool false]) (yF r cap most gr got us bs en::R)):CT 341 #[PO r,.string s,.bool e] (yF r cap most gr got us bs en::R) K:=by
 subst he
 refine mY fun g p hT=>?_
 have hT':=hT
 obtain⟨h1,h2,h3,h4,h5,h6,h7,h8,h9⟩:=hT'
 refine aH Tryz.func341 ?_
 repeat' (first|refine MA ?_|refine w5 ?_ ?_|((refine bh fun h=>?_) <;> try exact w6 h)|(refine aE fun hA=>?_;subst hA)|intro _|(show aA _ 221 _ _ _;refine CA (h:=yE ?_))|(show aA _ 260 _ _ _;refine CA (h:=K0 hs (by omega) ?_)))
 (refine aC ?_;exact aK (aG.trans (by exact aZ) ((jV hT))) (hK))
theorem DF {e:Bool} (he:en=false) (hs:s.size≤max (gr - got) 0) (hb:got+s.size≤400000000) (hK:K (.tuple #[I6 0,.bool true]) (yF r cap most gr (got+s.size) us (bs++s.data.toList) e::R)):CT 341 #[PO r,.string s,.bool e] (yF r cap most gr got us bs en::R) K:=by
 subst he
 refine mY fun g p hT=>?_
 obtain⟨h1,h2,h3,h4,h5,h6,h7,h8,h9⟩:=hT
 have hsl:s.data.toList.length=s.size:=by simp
 have hw:RB cap most gr (got+s.size) us (bs++s.data.toList):=⟨by rw[List.length_append,hsl];omega,h2,h3,h4,h5,h6,h7,by rw[List.length_append,hsl];omega,hb⟩
 by_cases h0:s.size=0
 ·have e0:s.data.toList= []:=List.length_eq_zero_iff.1 (by omega)
  rw[e0,List.append_nil] at hw hK
  refine aH Tryz.func341 ?_
  repeat' (first|refine MA ?_|refine w5 ?_ ?_|((refine bh fun h=>?_) <;> try exact w6 h)|(refine aE fun hA=>?_;subst hA)|intro _|(show aA _ 221 _ _ _;refine CA (h:=yE ?_))|(show aA _ 260 _ _ _;refine CA (h:=Hw (by omega) (by omega) ?_))|(show aA _ 320 _ _ _;refine CA (h:=GY (by omega) (.inl h0) ?_)))
  (refine aC ?_;exact aK (aG.trans (by exact aZ) ((jV hw))) (hK))
 ·have et:s.data.toList.take s.size=s.data.toList:=List.take_of_length_le (by omega)
  refine aH Tryz.func341 ?_
  repeat' (first|refine MA ?_|refine w5 ?_ ?_|((refine bh fun h=>?_) <;> try exact w6 h)|(refine aE fun hA=>?_;subst hA)|intro _|(show aA _ 221 _ _ _;refine CA (h:=yE ?_))|(show aA _ 260 _ _ _;refine CA (h:=Hw (by omega) (by omega) ?_))|(show aA _ 320 _ _ _;refine CA (h:=KU (n:=s.size) (by omega) (by omega) (by omega) ?_)))
  rw[et]
  (refine aC ?_;exact aK (aG.trans (by exact aZ) ((jV hw))) (hK))
theorem RE {kk:Nat} (hk:(kk:Int)=max (min n bs.length) 0) (hK:K (.tuple #[.string ⟨(bs.take kk).toArray⟩,I6 0]) (yF r cap most gr got (us+kk) (bs.drop kk) en::R)):CT 117 #[PO r,I6 n] (yF r cap most gr got us bs en::R) K:=by
 refine mY fun g p hT=>?_
 obtain⟨h1,h2,h3,h4,h5,h6,h7,h8,h9⟩:=hT
 have hs:(ByteArray.mk (bs.take kk).toArray).size=kk:=by simp[vR];omega
 have hw:RB cap most gr got (us+kk) (bs.drop kk):=⟨by rw[List.length_drop];omega,by omega,h3,by omega,h5,h6,h7,by rw[List.length_drop];omega,h9⟩
 refine aH Tryz.func117 ?_
 repeat' (first|refine Jo ?_|refine w5 ?_ ?_|((refine bh fun h=>?_) <;> try exact w6 h)|(refine aE fun hA=>?_;subst hA)|intro _|(show aA _ 219 _ _ _;refine CA (h:=HH ?_))|(show aA _ 220 _ _ _;refine CA (h:=EM (kk:=kk) (by omega) hk ?_))|(show aA _ 118 _ _ _;refine CA (h:=IN (by rw[hs];omega) (by omega) ?_)))
 rw[hs]
 (refine aC ?_;exact aK (aG.trans (by exact aZ) ((jV hw))) (hK))
theorem F3 (hK:K (I6 bs.length) (yF r cap most gr got (us+bs.length) [] en::R)):CT 338 #[PO r] (yF r cap most gr got us bs en::R) K:=by
 refine mY fun g p hT=>?_
 obtain⟨h1,h2,h3,h4,h5,h6,h7,h8,h9⟩:=hT
 have hw:RB cap most gr got (us+bs.length) []:=⟨by simp;omega,by omega,h3,by omega,h5,h6,h7,by simp;omega,h9⟩
 refine aH Tryz.func338 ?_
 repeat' (first|refine Gt ?_|refine w5 ?_ ?_|((refine bh fun h=>?_) <;> try exact w6 h)|(refine aE fun hA=>?_;subst hA)|intro _|(show aA _ 386 _ _ _;refine CA (h:=KA (by omega) ?_))|(show aA _ 118 _ _ _;refine CA (h:=IN (by omega) (by omega) ?_))|(show aA _ 387 _ _ _;refine CA (h:=Gb ?_)))
 rw[show((bs.length:Nat):Int)+0=bs.length by omega]
 (refine aC ?_;exact aK (aG.trans (by exact aZ) ((jV hw))) (hK))
end
end
section
variable {R C:List HP} {K:KP}
def RI (mr room open_ ask:Int) (l:List ByteArray) (ac tk dr:Int):Prop:=ac=tk+dr+l.length∧0≤tk∧0≤dr∧ac≤400000000∧0≤open_∧open_+l.length≤mr∧0≤room∧room≤mr∧mr≤64∧0≤ask∧ask≤2147483647
def uC (r:Nat) (mr room open_ ask:Int) (l:List ByteArray) (ac tk dr:Int) (en:Bool):HP:=eV fun q=>eV fun d=>sep (pt r [I6 2,.pointer none,.pointer none,PO q,PO d,I6 room,I6 open_,.bool en] 265) (sep (wH q 64 0 l ac tk dr) (sep (oS d ask 2147483647) (bH (RI mr room open_ ask l ac tk dr))))
section
variable {r:Nat} {mr room open_ ask ac tk dr:Int} {l:List ByteArray} {en:Bool} {n:Int} {s:ByteArray}
theorem gR {q d:Nat} (h:RI mr room open_ ask l ac tk dr):aG (pt r [I6 2,.pointer none,.pointer none,PO q,PO d,I6 room,I6 open_,.bool en] 265::wH q 64 0 l ac tk dr::oS d ask 2147483647::R) (uC r mr room open_ ask l ac tk dr en::R):=
 aG.ex q (aG.ex d (qS h))
theorem j2 {f:FuncId} {args:Array Value} (h:∀q d,RI mr room open_ ask l ac tk dr→CT f args (pt r [I6 2,.pointer none,.pointer none,PO q,PO d,I6 room,I6 open_,.bool en] 265::wH q 64 0 l ac tk dr::oS d ask 2147483647::R) K):CT f args (uC r mr room open_ ask l ac tk dr en::R) K:=
 aA.ex fun q=>aA.ex fun d=>C5 fun hI=>h q d hI
theorem KQ {w st it:Int} (hs:rY w st it=true) (hK:∀r,K (.tuple #[PO r,I6 0]) (uC r it it 0 0 [] 0 0 0 false::R)):CT 235 #[I6 2,.agg #[I6 w,I6 st,I6 it]] R K:=by
 have hs2:=hs
 unfold rY at hs2
 rw[decide_eq_true_eq] at hs2
 refine aH Tryz.func235 ?_
 repeat' (first|refine zQ ?_|refine w5 ?_ ?_|((refine bh fun h=>?_) <;> try exact w6 h)|(refine aE fun hA=>?_;subst hA)|intro _|(show aA _ 143 _ _ _;refine CA (h:=uL (v:=0) (by rw[if_pos hs]) ?_))|(show aA _ 323 _ _ _;refine CA (h:=N0 (by omega) (by omega) (fun q=>?_)))|(show aA _ 324 _ _ _;refine CA (h:=Uw (by omega) (fun d=>?_))))
 (refine aC ?_;exact aK (aG.trans (by exact aZ) ((gR ⟨by simp,by omega,by omega,by omega,by omega,by simp;omega,by omega,by omega,by omega,by omega,by omega⟩))) (hK _))
theorem pB {q d:Nat} (hK:K (.bool en) (pt r [I6 2,.pointer none,.pointer none,PO q,PO d,I6 room,I6 open_,.bool en] 265::R)):CT 221 #[PO r] (pt r [I6 2,.pointer none,.pointer none,PO q,PO d,I6 room,I6 open_,.bool en] 265::R) K:=by
 refine aH Tryz.func221 ?_
 repeat' (first|refine v23 ?_|refine w5 ?_ ?_|((refine bh fun h=>?_) <;> try exact w6 h)|(refine aE fun hA=>?_;subst hA)|intro _)
 (refine aC ?_;exact aB (hK))
theorem zT (hK:K (.bool en) (uC r mr room open_ ask l ac tk dr en::R)):CT 221 #[PO r] (uC r mr room open_ ask l ac tk dr en::R) K:=by
 refine j2 fun q d hT=>?_
 refine aH Tryz.func221 ?_
 repeat' (first|refine v23 ?_|refine w5 ?_ ?_|((refine bh fun h=>?_) <;> try exact w6 h)|(refine aE fun hA=>?_;subst hA)|intro _)
 (refine aC ?_;exact aK (aG.trans (by exact aZ) ((gR hT))) (hK))
def C7:List (Nat×Nat):= [(0,0),(1,0),(2,0),(3,0),(4,1),(5,1),(6,1),(7,1),(8,1),(9,1),(10,0),(11,0)]
theorem uU (hK:K (I6 l.length) (uC r mr room open_ ask l ac tk dr en::R)):CT 90 #[PO r] (uC r mr room open_ ask l ac tk dr en::R) K:=by
 refine j2 fun q d hT=>?_
 have hT':=hT
 obtain⟨h1,h2,h3,h4,h5,h6,h7,h8,h9,h10,h11⟩:=hT'
 refine aH Tryz.func90 ?_
 repeat' (first|refine Gt ?_|refine dw C7 ?_|refine w5 ?_ ?_|((refine bh fun h=>?_) <;> try exact w6 h)|(refine aE fun hA=>?_;subst hA)|intro _|(show aA _ 179 _ _ _;refine CA (h:=Jb ?_))|(show aA _ 180 _ _ _;refine CA (h:=GX ?_)))
 rw[show(0:Int)+((l.length:Nat):Int)=l.length by omega]
 (refine aC ?_;exact aK (aG.trans (by exact aZ) ((gR hT))) (hK))
theorem TE (hK:K (.bool (en && decide (l= []))) (uC r mr room open_ ask l ac tk dr en::R)):CT 119 #[PO r] (uC r mr room open_ ask l ac tk dr en::R) K:=by
 cases en
 ·refine aH Tryz.func119 ?_
  repeat' (first|refine v15 ?_|refine w5 ?_ ?_|((refine bh fun h=>?_) <;> try exact w6 h)|(refine aE fun hA=>?_;subst hA)|intro _|(show aA _ 221 _ _ _;refine CA (h:=zT ?_))|(show aA _ 90 _ _ _;refine CA (h:=uU ?_)))
  (refine aC ?_;exact aB (hK))
 ·refine aH Tryz.func119 ?_
  repeat' (first|refine v15 ?_|refine w5 ?_ ?_|((refine bh fun h=>?_) <;> try exact w6 h)|(refine aE fun hA=>?_;subst hA)|intro _|(show aA _ 221 _ _ _;refine CA (h:=zT ?_))|(show aA _ 90 _ _ _;refine CA (h:=uU ?_)))
  all_goals(refine aC ?_;exact aB (kb hK (by cases l <;> simp <;> omega)))
theorem zW {q d:Nat} {k:Int} (hK:K (I6 (if k=2 then 0 else 13)) (pt r [I6 2,.pointer none,.pointer none,PO q,PO d,I6 room,I6 open_,.bool en] 265::R)):CT 219 #[PO r,I6 k] (pt r [I6 2,.pointer none,.pointer none,PO q,PO d,I6 room,I6 open_,.bool en] 265::R) K:=by
 by_cases h:k=2
 ·rw[if_pos h] at hK
  refine aH Tryz.func219 ?_
  repeat' (first|refine v29 ?_|refine w5 ?_ ?_|((refine bh fun h=>?_) <;> try exact w6 h)|(refine aE fun hA=>?_;subst hA)|intro _)
  all_goals(refine aC ?_;exact aB (hK))
 ·rw[if_neg h] at hK
  refine aH Tryz.func219 ?_
  repeat' (first|refine v29 ?_|refine w5 ?_ ?_|((refine bh fun h=>?_) <;> try exact w6 h)|(refine aE fun hA=>?_;subst hA)|intro _)
  all_goals(refine aC ?_;exact aB (hK))
theorem Tt (hK:K (.tuple #[.string ⟨#[]⟩,I6 13]) (uC r mr room open_ ask l ac tk dr en::R)):CT 117 #[PO r,I6 n] (uC r mr room open_ ask l ac tk dr en::R) K:=by
 refine j2 fun q d hT=>?_
 refine aH Tryz.func117 ?_
 repeat' (first|refine Jo ?_|refine w5 ?_ ?_|((refine bh fun h=>?_) <;> try exact w6 h)|(refine aE fun hA=>?_;subst hA)|intro _|(show aA _ 219 _ _ _;refine CA (h:=zW ?_)))
 (refine aC ?_;exact aK (aG.trans (by exact aZ) ((gR hT))) (hK))
theorem Qb (hK:K (.tuple #[.string ⟨#[]⟩,.bool false,I6 0]) (uC r mr room open_ ask [] ac tk dr en::R)):CT 121 #[PO r] (uC r mr room open_ ask [] ac tk dr en::R) K:=by
 refine j2 fun q d hT=>?_
 refine aH Tryz.func121 ?_
 repeat' (first|refine Jo ?_|refine w5 ?_ ?_|((refine bh fun h=>?_) <;> try exact w6 h)|(refine aE fun hA=>?_;subst hA)|intro _|(show aA _ 219 _ _ _;refine CA (h:=zW ?_))|(show aA _ 225 _ _ _;refine CA (h:=I4 ?_)))
 (refine aC ?_;exact aK (aG.trans (by exact aZ) ((gR hT))) (hK))
theorem Rl (hK:K (.tuple #[.string s,.bool true,I6 0]) (uC r mr room open_ ask l ac (tk+1) dr en::R)):CT 121 #[PO r] (uC r mr room open_ ask (s::l) ac tk dr en::R) K:=by
 refine j2 fun q d hT=>?_
 obtain⟨h1,h2,h3,h4,h5,h6,h7,h8,h9,h10,h11⟩:=hT
 have hl:(s::l).length=l.length+1:=rfl
 have hw:RI mr room open_ ask l ac (tk+1) dr:=⟨by omega,by omega,h3,h4,h5,by omega,h7,h8,h9,h10,h11⟩
 refine aH Tryz.func121 ?_
 repeat' (first|refine Jo ?_|refine w5 ?_ ?_|((refine bh fun h=>?_) <;> try exact w6 h)|(refine aE fun hA=>?_;subst hA)|intro _|(show aA _ 219 _ _ _;refine CA (h:=zW ?_))|(show aA _ 225 _ _ _;refine CA (h:=Ka (by omega) (by omega) ?_)))
 (refine aC ?_;exact aK (aG.trans (by exact aZ) ((gR hw))) (hK))
theorem X1 (h:1≤n) (hK:K (I6 0) (uC r mr room open_ (ask+min n (2147483647 - ask)) l ac tk dr en::R)):CT 296 #[PO r,I6 n] (uC r mr room open_ ask l ac tk dr en::R) K:=by
 refine j2 fun q d hT=>?_
 obtain⟨h1,h2,h3,h4,h5,h6,h7,h8,h9,h10,h11⟩:=hT
 have hw:RI mr room open_ (ask+min n (2147483647 - ask)) l ac tk dr:=⟨h1,h2,h3,h4,h5,h6,h7,h8,h9,by omega,by omega⟩
 refine aH Tryz.func296 ?_
 repeat' (first|refine Jo ?_|refine w5 ?_ ?_|((refine bh fun h=>?_) <;> try exact w6 h)|(refine aE fun hA=>?_;subst hA)|intro _|(show aA _ 219 _ _ _;refine CA (h:=zW ?_))|(show aA _ 360 _ _ _;refine CA (h:=Vu h ⟨h10,h11⟩ (by omega) ?_)))
 (refine aC ?_;exact aK (aG.trans (by exact aZ) ((gR hw))) (hK))
theorem SR (h:n<1) (hK:K (I6 2) (uC r mr room open_ ask l ac tk dr en::R)):CT 296 #[PO r,I6 n] (uC r mr room open_ ask l ac tk dr en::R) K:=by
 refine j2 fun q d hT=>?_
 refine aH Tryz.func296 ?_
 repeat' (first|refine Jo ?_|refine w5 ?_ ?_|((refine bh fun h=>?_) <;> try exact w6 h)|(refine aE fun hA=>?_;subst hA)|intro _|(show aA _ 219 _ _ _;refine CA (h:=zW ?_))|(show aA _ 360 _ _ _;refine CA (h:=Qz (by simp) h ?_)))
 (refine aC ?_;exact aK (aG.trans (by exact aZ) ((gR hT))) (hK))
def yI (room open_ ask:Int) (l:List ByteArray):Int:=max (min ask (room - open_ - l.length)) 0
def BN:List Nat:= [0,1,3,7,15,0,32,96,224,0,512,1536,3584,8160,0,16384,49152,114688,245791,524287,1048575,2097151,4194303]
def BW:List Nat:= [4194303,2097151,1048575,524287,245791,114688,49152,16384,0,8160,3584,1536,512,0,224,96,32,0,15,7,3,1,0]
def BX:List (Nat×Nat):= [(0,0),(1,0),(2,0),(3,0),(4,1),(14,1),(15,1),(16,1),(17,1),(18,1),(5,2),(6,2),(7,2),(8,2),(9,2),(10,2),(11,2),(12,2),(13,2),(19,0),(20,0),(21,0),(22,0)]
theorem Tw {q d r2:Nat} (hT:RI mr room open_ ask l ac tk dr) (hK:K (I6 (yI room open_ ask l)) (pt r2 [PO r] 170::pt r [I6 2,.pointer none,.pointer none,PO q,PO d,I6 room,I6 open_,.bool en] 265::wH q 64 0 l ac tk dr::oS d ask 2147483647::R)):CT 353 #[PO r2] (pt r2 [PO r] 170::pt r [I6 2,.pointer none,.pointer none,PO q,PO d,I6 room,I6 open_,.bool en] 265::wH q 64 0 l ac tk dr::oS d ask 2147483647::R) K:=by
 obtain⟨h1,h2,h3,h4,h5,h6,h7,h8,h9,h10,h11⟩:=hT
 unfold yI at hK
 refine aH Tryz.func353 ?_
 repeat' (first|refine v67 ?_|refine Gp BN BW BX ?_|refine w5 ?_ ?_|((refine bh fun h=>?_) <;> try exact w6 h)|(refine aE fun hA=>?_;subst hA)|intro _|(show aA _ 354 _ _ _;refine CA (h:=Qf ?_))|(show aA _ 180 _ _ _;refine CA (h:=GX ?_)))
 (refine aC ?_;exact aB (hK))
theorem Jc {q d:Nat} (hT:RI mr room open_ ask l ac tk dr) (hK:K (I6 (yI room open_ ask l)) (pt r [I6 2,.pointer none,.pointer none,PO q,PO d,I6 room,I6 open_,.bool en] 265::wH q 64 0 l ac tk dr::oS d ask 2147483647::R)):CT 280 #[PO r] (pt r [I6 2,.pointer none,.pointer none,PO q,PO d,I6 room,I6 open_,.bool en] 265::wH q 64 0 l ac tk dr::oS d ask 2147483647::R) K:=by
 refine aH Tryz.func280 ?_
 repeat' (first|refine v47 ?_|refine w5 ?_ ?_|((refine bh fun h=>?_) <;> try exact w6 h)|(refine aE fun hA=>?_;subst hA)|intro _|(show aA _ 353 _ _ _;refine CA (h:=Tw hT ?_)))
 (refine aC ?_;exact aB (hK))
theorem OI (hK:K (I6 (yI room open_ ask l)) (uC r mr room (open_+yI room open_ ask l) (ask - yI room open_ ask l) l ac tk dr en::R)):CT 189 #[PO r] (uC r mr room open_ ask l ac tk dr en::R) K:=by
 refine j2 fun q d hT=>?_
 have hT':=hT
 obtain⟨h1,h2,h3,h4,h5,h6,h7,h8,h9,h10,h11⟩:=hT'
 have hd:0≤yI room open_ ask l∧yI room open_ ask l≤ask∧(yI room open_ ask l=0∨open_+yI room open_ ask l+l.length≤room):=by unfold yI;omega
 have hw:RI mr room (open_+yI room open_ ask l) (ask - yI room open_ ask l) l ac tk dr:=⟨h1,h2,h3,h4,by omega,by omega,h7,h8,h9,by omega,by omega⟩
 by_cases h0:yI room open_ ask l=0
 ·rw[h0,Int.add_zero,Int.sub_zero] at hK
  refine aH Tryz.func189 ?_
  repeat' (first|refine Gt ?_|refine w5 ?_ ?_|((refine bh fun h=>?_) <;> try exact w6 h)|(refine aE fun hA=>?_;subst hA)|intro _|(show aA _ 280 _ _ _;refine CA (h:=Jc hT ?_)))
  (refine aC ?_;exact aK (aG.trans (by exact aZ) ((gR hT))) (hK))
 ·refine aH Tryz.func189 ?_
  repeat' (first|refine Gt ?_|refine w5 ?_ ?_|((refine bh fun h=>?_) <;> try exact w6 h)|(refine aE fun hA=>?_;subst hA)|intro _|(show aA _ 280 _ _ _;refine CA (h:=Jc hT ?_))|(show aA _ 281 _ _ _;refine CA (h:=Of (by omega) (by omega) (by omega) ?_)))
  (refine aC ?_;exact aK (aG.trans (by exact aZ) ((gR hw))) (hK))
def zB:List (Nat×Nat):= [(0,0),(1,0),(2,0),(3,0),(4,0),(5,0),(6,1),(7,0)]
theorem L5 {w st it:Int} (hs:rY w st it=true) (hK:K (I6 0) (uC r (max mr it) it open_ ask l ac tk dr en::R)):CT 250 #[PO r,.agg #[I6 w,I6 st,I6 it]] (uC r mr room open_ ask l ac tk dr en::R) K:=by
 refine j2 fun q d hT=>?_
 obtain⟨h1,h2,h3,h4,h5,h6,h7,h8,h9,h10,h11⟩:=hT
 have hs2:=hs
 unfold rY at hs2
 rw[decide_eq_true_eq] at hs2
 have hw:RI (max mr it) it open_ ask l ac tk dr:=⟨h1,h2,h3,h4,h5,by omega,by omega,by omega,by omega,h10,h11⟩
 refine aH Tryz.func250 ?_
 repeat' (first|refine zQ ?_|refine dw zB ?_|refine w5 ?_ ?_|((refine bh fun h=>?_) <;> try exact w6 h)|(refine aE fun hA=>?_;subst hA)|intro _|(show aA _ 143 _ _ _;refine CA (h:=uL (v:=0) (by rw[if_pos hs]) ?_)))
 (refine aC ?_;exact aK (aG.trans (by exact aZ) ((gR hw))) (hK))
theorem JA {e:Bool} (he:en=true) (hK:K (.tuple #[I6 7,.bool false]) (uC r mr room open_ ask l ac tk dr en::R)):CT 341 #[PO r,.string s,.bool e] (uC r mr room open_ ask l ac tk dr en::R) K:=by
 subst he
 refine aH Tryz.func341 ?_
 repeat' (first|refine MA ?_|refine w5 ?_ ?_|((refine bh fun h=>?_) <;> try exact w6 h)|(refine aE fun hA=>?_;subst hA)|intro _|(show aA _ 221 _ _ _;refine CA (h:=zT ?_)))
 (refine aC ?_;exact aB (hK))
theorem TO {s:ByteArray} (h:s≠⟨#[]⟩):(!(s.toList == (ByteArray.mk #[]).toList))=true:=by
 rw[Bool.not_eq_true',beq_eq_false_iff_ne]
 intro e
 apply h
 rw[ByteArray.toList_eq,ByteArray.toList_eq] at e
 exact ByteArray.ext (Array.toList_inj.1 e)
theorem JS {e:Bool} (he:en=false) (hs:s≠⟨#[]⟩∨e=false) (ho:open_<1) (hK:K (.tuple #[I6 10,.bool false]) (uC r mr room open_ ask l ac tk dr en::R)):CT 341 #[PO r,.string s,.bool e] (uC r mr room open_ ask l ac tk dr en::R) K:=by
 subst he
 refine j2 fun q d hT=>?_
 by_cases h0:s=⟨#[]⟩
 ·subst h0
  rcases hs with h|rfl
  ·exact absurd rfl h
  ·refine aH Tryz.func341 ?_
   repeat' (first|refine MA ?_|refine w5 ?_ ?_|((refine bh fun h=>?_) <;> try exact w6 h)|(refine aE fun hA=>?_;subst hA)|intro _|(show aA _ 221 _ _ _;refine CA (h:=pB ?_)))
   (refine aC ?_;exact aK (aG.trans (by exact aZ) ((gR hT))) (hK))
 ·have hb:=TO h0
  refine aH Tryz.func341 ?_
  repeat' (first|(show Br _ _ _;refine Br.t hb ?_)|refine MA ?_|refine w5 ?_ ?_|((refine bh fun h=>?_) <;> try exact w6 h)|(refine aE fun hA=>?_;subst hA)|intro _|(show aA _ 221 _ _ _;refine CA (h:=pB ?_)))
  (refine aC ?_;exact aK (aG.trans (by exact aZ) ((gR hT))) (hK))
theorem JC (he:en=false) (hK:K (.tuple #[I6 0,.bool true]) (uC r mr room open_ ask l ac tk dr true::R)):CT 341 #[PO r,.string ⟨#[]⟩,.bool true] (uC r mr room open_ ask l ac tk dr en::R) K:=by
 subst he
 refine j2 fun q d hT=>?_
 refine aH Tryz.func341 ?_
 repeat' (first|refine MA ?_|refine w5 ?_ ?_|((refine bh fun h=>?_) <;> try exact w6 h)|(refine aE fun hA=>?_;subst hA)|intro _|(show aA _ 221 _ _ _;refine CA (h:=pB ?_)))
 (refine aC ?_;exact aK (aG.trans (by exact aZ) ((gR hT))) (hK))
theorem D7 {e:Bool} (he:en=false) (hs:s≠⟨#[]⟩∨e=false) (ho:1≤open_) (hb:ac≤300000000) (hK:K (.tuple #[I6 0,.bool true]) (uC r mr room (open_ - 1) ask (l++ [s]) (ac+1) tk dr e::R)):CT 341 #[PO r,.string s,.bool e] (uC r mr room open_ ask l ac tk dr en::R) K:=by
 subst he
 refine j2 fun q d hT=>?_
 obtain⟨h1,h2,h3,h4,h5,h6,h7,h8,h9,h10,h11⟩:=hT
 have hw:RI mr room (open_ - 1) ask (l++ [s]) (ac+1) tk dr:=⟨by simp;omega,h2,h3,by omega,by omega,by simp;omega,h7,h8,h9,h10,h11⟩
 by_cases h0:s=⟨#[]⟩
 ·subst h0
  rcases hs with h|rfl
  ·exact absurd rfl h
  ·refine aH Tryz.func341 ?_
   repeat' (first|refine MA ?_|refine w5 ?_ ?_|((refine bh fun h=>?_) <;> try exact w6 h)|(refine aE fun hA=>?_;subst hA)|intro _|(show aA _ 221 _ _ _;refine CA (h:=pB ?_))|(show aA _ 321 _ _ _;refine CA (h:=EW (by omega) (by omega) (by omega) ?_)))
   (refine aC ?_;exact aK (aG.trans (by exact aZ) ((gR hw))) (hK))
 ·have hb:=TO h0
  refine aH Tryz.func341 ?_
  repeat' (first|(show Br _ _ _;refine Br.t hb ?_)|refine MA ?_|refine w5 ?_ ?_|((refine bh fun h=>?_) <;> try exact w6 h)|(refine aE fun hA=>?_;subst hA)|intro _|(show aA _ 221 _ _ _;refine CA (h:=pB ?_))|(show aA _ 321 _ _ _;refine CA (h:=EW (by omega) (by omega) (by omega) ?_)))
  (refine aC ?_;exact aK (aG.trans (by exact aZ) ((gR hw))) (hK))
theorem FX (hK:K (I6 l.length) (uC r mr room open_ ask [] ac tk (dr+l.length) en::R)):CT 338 #[PO r] (uC r mr room open_ ask l ac tk dr en::R) K:=by
 refine j2 fun q d hT=>?_
 obtain⟨h1,h2,h3,h4,h5,h6,h7,h8,h9,h10,h11⟩:=hT
 have hw:RI mr room open_ ask [] ac tk (dr+l.length):=⟨by simp;omega,h2,by omega,h4,h5,by simp;omega,h7,h8,h9,h10,h11⟩
 refine aH Tryz.func338 ?_
 repeat' (first|refine Gt ?_|refine w5 ?_ ?_|((refine bh fun h=>?_) <;> try exact w6 h)|(refine aE fun hA=>?_;subst hA)|intro _|(show aA _ 386 _ _ _;refine CA (h:=HF ?_))|(show aA _ 118 _ _ _;refine CA (h:=XE ?_))|(show aA _ 387 _ _ _;refine CA (h:=Jg (by omega) (by omega) ?_)))
 rw[show(0:Int)+((l.length:Nat):Int)=l.length by omega]
 (refine aC ?_;exact aK (aG.trans (by exact aZ) ((gR hw))) (hK))
end
end
end Go.Proofs.YtifgibijcmppmaaGreat
