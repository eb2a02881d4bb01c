/- A part of the proof: lemmas; each with the conditions that it states. -/
import Derived.Test.YtifgibijcmppmaaGreatNag
set_option linter.unusedVariables false
set_option linter.unusedSimpArgs false
namespace Go.Proofs.YtifgibijcmppmaaGreat
open Go Go.Proofs Go.Sl
set_option maxRecDepth 100000
set_option maxHeartbeats 40000000
attribute [local irreducible] aN fB cJ bO aM aY aA dM dQ aW dK pt ro fF star sep bI
section
variable {R C:List HP} {K:Value→List HP→Prop}
def zD (p:Nat) (cap most gr got us:Int):HP:=pt p [.int .i64 cap,.int .i64 most,.int .i64 gr,.int .i64 got,.int .i64 us] 237
theorem FV {n:Int} (hK:K (.bool (decide (0≤n) && decide (n≤2147483647))) R):aA Tryz.prog 142 #[.int .i64 n] R K:=by
 refine aH Tryz.func142 ?_
 repeat' (first|refine v1 ?_|refine wr ?_|refine w5 ?_ ?_|((refine bh fun h=>?_) <;> try exact w6 h)|(refine aE fun hA=>?_;subst hA)|intro _)
 all_goals(refine aC ?_;exact aB (kb hK (by simp <;> omega)))
theorem NO {n:Int} (h:0≤n∧n≤4096) (hK:∀p,K (.tuple #[.pointer (some ⟨p,0,none⟩),.int .i64 0]) (zD p n n n 0 0::R)):aA Tryz.prog 58 #[.int .i64 n] R K:=by
 have e:(decide (0≤n) && decide (n≤2147483647))=true:=by simp;omega
 refine aH Tryz.func58 ?_
 repeat' (first|(show cJ _ _ _;rw[e])|refine v21 ?_|refine wr ?_|refine w5 ?_ ?_|((refine bh fun h=>?_) <;> try exact w6 h)|(refine aE fun hA=>?_;subst hA)|intro _|(show aA _ 142 _ _ _;refine CA (h:=FV ?_)))
 (refine aC ?_;exact aB (hK _))
section
variable {p:Nat} {cap most gr got us:Int}
def s8:List (Nat×Nat):= [(0,0),(1,0),(2,0),(3,0),(4,0),(5,0),(6,0),(7,0),(8,0),(9,0)]
theorem Q1 (hK:K (.int .i64 0) R):aA Tryz.prog 109 #[.pointer none] R K:=by
 refine aH Tryz.func109 ?_
 repeat' (first|refine v22 ?_|refine dw s8 ?_|refine wr ?_|refine w5 ?_ ?_|((refine bh fun h=>?_) <;> try exact w6 h)|(refine aE fun hA=>?_;subst hA)|intro _)
 (refine aC ?_;exact aB (hK))
def uR:List (Nat×Nat):= [(0,0),(1,0),(2,0),(3,0),(4,0),(5,0),(6,0),(7,0),(8,0),(9,0),(10,0),(11,0)]
theorem W7 {n:Int} (hK:K (.int .i64 1) R):aA Tryz.prog 118 #[.pointer none,.int .i64 n] R K:=by
 refine aH Tryz.func118 ?_
 repeat' (first|refine v33 ?_|refine dw uR ?_|refine wr ?_|refine w5 ?_ ?_|((refine bh fun h=>?_) <;> try exact w6 h)|(refine aE fun hA=>?_;subst hA)|intro _)
 (refine aC ?_;exact aB (hK))
def vT:List (Nat×Nat):= [(0,0),(1,0),(2,0),(3,0),(4,0),(5,0),(6,0),(7,0),(8,0),(9,0),(10,0),(11,0),(12,0)]
theorem Ih {k:Int} (h:0≤k∧k≤max (gr - got) 0) (hb:-900000000≤gr∧gr≤900000000∧0≤got∧got≤900000000∧k≤900000000) (hK:K (.int .i64 0) (zD p cap most gr (got+k) us::R)):aA Tryz.prog 260 #[.pointer (some ⟨p,0,none⟩),.int .i64 k] (zD p cap most gr got us::R) K:=by
 unfold zD at *
 refine aH Tryz.func260 ?_
 repeat' (first|refine v66 ?_|refine dw vT ?_|refine wr ?_|refine w5 ?_ ?_|((refine bh fun h=>?_) <;> try exact w6 h)|(refine aE fun hA=>?_;subst hA)|intro _)
 all_goals(refine aC ?_;exact aB (hK))
theorem Ky {k:Int} (h:max (gr - got) 0<k) (hb:-900000000≤gr∧gr≤900000000∧0≤got∧got≤900000000) (hK:K (.int .i64 9) (zD p cap most gr got us::R)):aA Tryz.prog 260 #[.pointer (some ⟨p,0,none⟩),.int .i64 k] (zD p cap most gr got us::R) K:=by
 unfold zD at *
 refine aH Tryz.func260 ?_
 repeat' (first|refine v66 ?_|refine dw vT ?_|refine wr ?_|refine w5 ?_ ?_|((refine bh fun h=>?_) <;> try exact w6 h)|(refine aE fun hA=>?_;subst hA)|intro _)
 all_goals(refine aC ?_;exact aB (hK))
theorem H8 {k:Int} (h:0≤k∧k≤got - us) (hb:0≤us∧got≤900000000) (hK:K (.int .i64 0) (zD p cap most gr got (us+k)::R)):aA Tryz.prog 118 #[.pointer (some ⟨p,0,none⟩),.int .i64 k] (zD p cap most gr got us::R) K:=by
 unfold zD at *
 refine aH Tryz.func118 ?_
 repeat' (first|refine v33 ?_|refine dw uR ?_|refine wr ?_|refine w5 ?_ ?_|((refine bh fun h=>?_) <;> try exact w6 h)|(refine aE fun hA=>?_;subst hA)|intro _)
 all_goals(refine aC ?_;exact aB (hK))
theorem AQ (hb:-900000000≤gr∧gr≤900000000∧0≤us∧us≤900000000) (hK:K (.int .i64 (gr - us)) (zD p cap most gr got us::R)):aA Tryz.prog 109 #[.pointer (some ⟨p,0,none⟩)] (zD p cap most gr got us::R) K:=by
 unfold zD at *
 refine aH Tryz.func109 ?_
 repeat' (first|refine v22 ?_|refine dw s8 ?_|refine wr ?_|refine w5 ?_ ?_|((refine bh fun h=>?_) <;> try exact w6 h)|(refine aE fun hA=>?_;subst hA)|intro _)
 (refine aC ?_;exact aB (hK))
theorem KR {r2:Nat} (hb:0≤cap∧cap≤900000000) (hK:K (.int .i64 ((cap+1) / 2)) (pt r2 [.pointer (some ⟨p,0,none⟩)] 120::zD p cap most gr got us::R)):aA Tryz.prog 352 #[.pointer (some ⟨r2,0,none⟩)] (pt r2 [.pointer (some ⟨p,0,none⟩)] 120::zD p cap most gr got us::R) K:=by
 unfold zD at *
 refine aH Tryz.func352 ?_
 repeat' (first|refine v43 ?_|refine wr ?_|refine w5 ?_ ?_|((refine bh fun h=>?_) <;> try exact w6 h)|(refine aE fun hA=>?_;subst hA)|intro _)
 (refine aC ?_;exact aB (hK))
def uZ (cap gr us:Int):Int:=if 0<cap - (gr - us)∧cap≤2 * (cap - (gr - us)) then cap - (gr - us) else 0
def vL:List (Nat×Nat):= [(4,0),(5,1),(0,1),(1,1),(2,1),(3,1),(6,0),(7,0)]
theorem OW (hc:0≤cap∧cap≤900000000) (hb:-900000000≤gr∧gr≤900000000∧0≤us∧us≤900000000) (hK:K (.int .i64 (uZ cap gr us)) (zD p cap most gr got us::R)):aA Tryz.prog 279 #[.pointer (some ⟨p,0,none⟩)] (zD p cap most gr got us::R) K:=by
 unfold uZ at hK
 have hh:∀m:Int,((cap+1) / 2≤m)↔cap≤2 * m:=fun m=>by omega
 by_cases c1:0<cap - (gr - us)∧cap≤2 * (cap - (gr - us))
 ·rw[if_pos c1] at hK
  unfold zD at *
  refine aH Tryz.func279 ?_
  repeat' (first|refine v84 ?_|refine dw vL ?_|refine wr ?_|refine w5 ?_ ?_|((refine bh fun h=>?_) <;> try exact w6 h)|(refine aE fun hA=>?_;subst hA)|intro _|(show aA _ 109 _ _ _;refine CA (h:=AQ hb ?_))|(show aA _ 352 _ _ _;refine CA (h:=KR hc ?_)))
  all_goals first|(exfalso;omega)|skip
  all_goals(refine aC ?_;exact aB (hK))
 ·rw[if_neg c1] at hK
  unfold zD at *
  refine aH Tryz.func279 ?_
  repeat' (first|refine v84 ?_|refine dw vL ?_|refine wr ?_|refine w5 ?_ ?_|((refine bh fun h=>?_) <;> try exact w6 h)|(refine aE fun hA=>?_;subst hA)|intro _|(show aA _ 109 _ _ _;refine CA (h:=AQ hb ?_))|(show aA _ 352 _ _ _;refine CA (h:=KR hc ?_)))
  all_goals first|(exfalso;omega)|skip
  all_goals(refine aC ?_;exact aB (hK))
theorem Hy (hc:0≤cap∧cap≤900000000) (hb:-900000000≤gr∧gr≤900000000∧0≤us∧us≤900000000) (hK:K (.int .i64 (uZ cap gr us)) (zD p cap most (gr+uZ cap gr us) got us::R)):aA Tryz.prog 187 #[.pointer (some ⟨p,0,none⟩)] (zD p cap most gr got us::R) K:=by
 have h0:0≤uZ cap gr us∧uZ cap gr us≤3000000000:=by unfold uZ;split <;> omega
 refine aH Tryz.func187 ?_
 repeat' (first|refine v37 ?_|refine wr ?_|refine w5 ?_ ?_|((refine bh fun h=>?_) <;> try exact w6 h)|(refine aE fun hA=>?_;subst hA)|intro _|(show aA _ 279 _ _ _;refine CA (h:=OW hc hb ?_)))
 ·(refine aC ?_;exact aB (hK))
 ·have e:uZ cap gr us=0:=by omega
  rw[e] at hK
  rw[e]
  (refine aC ?_;exact aB ((by simpa using hK)))
def Ax:List (Nat×Nat):= [(0,0),(1,0),(2,0),(3,0),(4,0),(5,0),(6,0),(7,0),(8,0),(9,0),(10,0),(11,0),(12,0),(13,1)]
theorem OE {to:Int} (h:0≤to∧to≤4096) (hc:0≤cap∧cap≤4096) (hb:-900000000≤gr∧gr≤900000000) (hK:K (.int .i64 0) (zD p to (max most to) (gr+(to - cap)) got us::R)):aA Tryz.prog 334 #[.pointer (some ⟨p,0,none⟩),.int .i64 to] (zD p cap most gr got us::R) K:=by
 have e:(decide (0≤to) && decide (to≤2147483647))=true:=by simp;omega
 unfold zD at *
 refine aH Tryz.func334 ?_
 repeat' (first|(show cJ _ _ _;rw[e])|refine v68 ?_|refine dw Ax ?_|refine wr ?_|refine w5 ?_ ?_|((refine bh fun h=>?_) <;> try exact w6 h)|(refine aE fun hA=>?_;subst hA)|intro _|(show aA _ 142 _ _ _;refine CA (h:=FV ?_)))
 (refine aC ?_;exact aB (hK))
end
def sW (w st it:Int):Bool:=decide (0≤w∧w≤4096∧0≤st∧st≤32∧0≤it∧it≤64)
theorem NK {n m:Int} (hK:K (.bool (decide (0≤n∧n≤m))) R):aA Tryz.prog 239 #[.int .i64 n,.int .i64 m] R K:=by
 refine aH Tryz.func239 ?_
 repeat' (first|refine v1 ?_|refine wr ?_|refine w5 ?_ ?_|((refine bh fun h=>?_) <;> try exact w6 h)|(refine aE fun hA=>?_;subst hA)|intro _)
 all_goals(refine aC ?_;exact aB (kb hK (by simp <;> omega)))
theorem u5 {w st it v:Int} (hv:(if sW w st it=true then 0 else 3)=v) (hK:K (.int .i64 v) R):aA Tryz.prog 143 #[.agg #[.int .i64 w,.int .i64 st,.int .i64 it]] R K:=by
 subst hv
 unfold sW at hK
 refine aH Tryz.func143 ?_
 repeat' (first|refine v44 ?_|refine wr ?_|refine w5 ?_ ?_|((refine bh fun h=>?_) <;> try exact w6 h)|(refine aE fun hA=>?_;subst hA)|intro _|(show aA _ 239 _ _ _;refine CA (h:=NK ?_)))
 all_goals(refine aC ?_;exact aB (ki hK (by simp only[decide_eq_true_eq];split <;> first|rfl|omega)))
end
section
variable {R C:List HP} {K:Value→List HP→Prop}
def CP:List (Nat×Nat):= [(0,0),(1,0),(2,0),(3,0),(4,1),(5,1),(6,1),(7,1),(8,1),(9,1),(10,0),(11,0)]
def BF:List (Nat×Nat):= [(0,0),(1,0),(2,0),(3,0),(4,1),(5,1),(6,1),(7,1),(8,1),(9,0),(10,0)]
def y6:List (Nat×Nat):= [(0,0),(1,0),(2,0),(3,0),(4,0),(5,0),(6,1),(7,0)]
def RB (cap most gr got us:Int) (bs:List UInt8):Prop:=got=us+bs.length∧0≤us∧cap≤gr∧gr - us≤cap∧0≤cap∧cap≤most∧most≤4096∧(bs.length:Int)≤most∧got≤400000000
def vY (r:Nat) (cap most gr got us:Int) (bs:List UInt8) (en:Bool):HP:=fF fun g=>fF fun p=>sep (pt r [.int .i64 1,.pointer (some ⟨g,0,none⟩),.pointer (some ⟨p,0,none⟩),.pointer none,.pointer none,.int .i64 0,.int .i64 0,.bool en] 265) (sep (kK g 4096 bs) (sep (zD p cap most gr got us) (bI (RB cap most gr got us bs))))
section
variable {r:Nat} {cap most gr got us:Int} {bs:List UInt8} {en:Bool} {n:Int} {s:ByteArray}
theorem i6 {g p:Nat} (h:RB cap most gr got us bs):aG (pt r [.int .i64 1,.pointer (some ⟨g,0,none⟩),.pointer (some ⟨p,0,none⟩),.pointer none,.pointer none,.int .i64 0,.int .i64 0,.bool en] 265::kK g 4096 bs::zD p cap most gr got us::R) (vY r cap most gr got us bs en::R):=
 aG.ex g (aG.ex p (qN h))
theorem lF {f:FuncId} {args:Array Value} (h:∀g p,RB cap most gr got us bs→aA Tryz.prog f args (pt r [.int .i64 1,.pointer (some ⟨g,0,none⟩),.pointer (some ⟨p,0,none⟩),.pointer none,.pointer none,.int .i64 0,.int .i64 0,.bool en] 265::kK g 4096 bs::zD p cap most gr got us::R) K):aA Tryz.prog f args (vY r cap most gr got us bs en::R) K:=
 aA.ex fun g=>aA.ex fun p=>CG fun hI=>h g p hI
theorem J8 {w st it:Int} (hs:sW w st it=true) (hK:∀r,K (.tuple #[.pointer (some ⟨r,0,none⟩),.int .i64 0]) (vY r w w w 0 0 [] false::R)):aA Tryz.prog 235 #[.int .i64 1,.agg #[.int .i64 w,.int .i64 st,.int .i64 it]] R K:=by
 have hs2:=hs
 unfold sW at hs2
 rw[decide_eq_true_eq] at hs2
 refine aH Tryz.func235 ?_
 repeat' (first|refine zB ?_|refine wr ?_|refine w5 ?_ ?_|((refine bh fun h=>?_) <;> try exact w6 h)|(refine aE fun hA=>?_;subst hA)|intro _|(show aA _ 143 _ _ _;refine CA (h:=u5 (v:=0) (by rw[if_pos hs]) ?_))|(show aA _ 322 _ _ _;refine CA (h:=T5 (cap:=4096) (by omega) (fun g=>?_)))|(show aA _ 58 _ _ _;refine CA (h:=NO (by omega) (fun p=>?_))))
 (refine aC ?_;exact aL (aG.trans (by exact bA) ((i6 ⟨by simp,by omega,by omega,by omega,by omega,by omega,by omega,by simp;omega,by omega⟩))) (hK _))
theorem SN (hK:K (.int .i64 1) (vY r cap most gr got us bs en::R)):aA Tryz.prog 105 #[.pointer (some ⟨r,0,none⟩)] (vY r cap most gr got us bs en::R) K:=by
 refine lF fun g p hT=>?_
 refine aH Tryz.func105 ?_
 repeat' (first|refine v4 ?_|refine wr ?_|refine w5 ?_ ?_|((refine bh fun h=>?_) <;> try exact w6 h)|(refine aE fun hA=>?_;subst hA)|intro _)
 (refine aC ?_;exact aL (aG.trans (by exact bA) ((i6 hT))) (hK))
theorem x7 {g p:Nat} (hK:K (.bool en) (pt r [.int .i64 1,.pointer (some ⟨g,0,none⟩),.pointer (some ⟨p,0,none⟩),.pointer none,.pointer none,.int .i64 0,.int .i64 0,.bool en] 265::R)):aA Tryz.prog 221 #[.pointer (some ⟨r,0,none⟩)] (pt r [.int .i64 1,.pointer (some ⟨g,0,none⟩),.pointer (some ⟨p,0,none⟩),.pointer none,.pointer none,.int .i64 0,.int .i64 0,.bool en] 265::R) K:=by
 refine aH Tryz.func221 ?_
 repeat' (first|refine v23 ?_|refine wr ?_|refine w5 ?_ ?_|((refine bh fun h=>?_) <;> try exact w6 h)|(refine aE fun hA=>?_;subst hA)|intro _)
 (refine aC ?_;exact aB (hK))
theorem zJ (hK:K (.bool en) (vY r cap most gr got us bs en::R)):aA Tryz.prog 221 #[.pointer (some ⟨r,0,none⟩)] (vY r cap most gr got us bs en::R) K:=by
 refine lF fun g p hT=>?_
 refine aH Tryz.func221 ?_
 repeat' (first|refine v23 ?_|refine wr ?_|refine w5 ?_ ?_|((refine bh fun h=>?_) <;> try exact w6 h)|(refine aE fun hA=>?_;subst hA)|intro _)
 (refine aC ?_;exact aL (aG.trans (by exact bA) ((i6 hT))) (hK))
theorem u0 (hK:K (.int .i64 bs.length) (vY r cap most gr got us bs en::R)):aA Tryz.prog 90 #[.pointer (some ⟨r,0,none⟩)] (vY r cap most gr got us bs en::R) K:=by
 refine lF fun g p hT=>?_
 have hT':=hT
 obtain⟨h1,h2,h3,h4,h5,h6,h7,h8,h9⟩:=hT'
 refine aH Tryz.func90 ?_
 repeat' (first|refine FL ?_|refine dw CP ?_|refine wr ?_|refine w5 ?_ ?_|((refine bh fun h=>?_) <;> try exact w6 h)|(refine aE fun hA=>?_;subst hA)|intro _|(show aA _ 179 _ _ _;refine CA (h:=Us ?_))|(show aA _ 180 _ _ _;refine CA (h:=J1 ?_)))
 rw[show((bs.length:Nat):Int)+0=bs.length by omega]
 (refine aC ?_;exact aL (aG.trans (by exact bA) ((i6 hT))) (hK))
theorem S8 (hK:K (.bool (en && decide (bs= []))) (vY r cap most gr got us bs en::R)):aA Tryz.prog 119 #[.pointer (some ⟨r,0,none⟩)] (vY r cap most gr got us bs en::R) K:=by
 cases en
 ·refine aH Tryz.func119 ?_
  repeat' (first|refine v15 ?_|refine wr ?_|refine w5 ?_ ?_|((refine bh fun h=>?_) <;> try exact w6 h)|(refine aE fun hA=>?_;subst hA)|intro _|(show aA _ 221 _ _ _;refine CA (h:=zJ ?_))|(show aA _ 90 _ _ _;refine CA (h:=u0 ?_)))
  (refine aC ?_;exact aB (hK))
 ·refine aH Tryz.func119 ?_
  repeat' (first|refine v15 ?_|refine wr ?_|refine w5 ?_ ?_|((refine bh fun h=>?_) <;> try exact w6 h)|(refine aE fun hA=>?_;subst hA)|intro _|(show aA _ 221 _ _ _;refine CA (h:=zJ ?_))|(show aA _ 90 _ _ _;refine CA (h:=u0 ?_)))
  all_goals(refine aC ?_;exact aB (kb hK (by cases bs <;> simp <;> omega)))
theorem RJ (hK:K (.int .i64 (gr - us)) (vY r cap most gr got us bs en::R)):aA Tryz.prog 106 #[.pointer (some ⟨r,0,none⟩)] (vY r cap most gr got us bs en::R) K:=by
 refine lF fun g p hT=>?_
 have hT':=hT
 obtain⟨h1,h2,h3,h4,h5,h6,h7,h8,h9⟩:=hT'
 refine aH Tryz.func106 ?_
 repeat' (first|refine FL ?_|refine dw BF ?_|refine wr ?_|refine w5 ?_ ?_|((refine bh fun h=>?_) <;> try exact w6 h)|(refine aE fun hA=>?_;subst hA)|intro _|(show aA _ 109 _ _ _;refine CA (h:=AQ (by omega) ?_)))
 rw[Int.add_zero]
 (refine aC ?_;exact aL (aG.trans (by exact bA) ((i6 hT))) (hK))
theorem Hg {g p:Nat} {k:Int} (hK:K (.int .i64 (if k=1 then 0 else 13)) (pt r [.int .i64 1,.pointer (some ⟨g,0,none⟩),.pointer (some ⟨p,0,none⟩),.pointer none,.pointer none,.int .i64 0,.int .i64 0,.bool en] 265::R)):aA Tryz.prog 219 #[.pointer (some ⟨r,0,none⟩),.int .i64 k] (pt r [.int .i64 1,.pointer (some ⟨g,0,none⟩),.pointer (some ⟨p,0,none⟩),.pointer none,.pointer none,.int .i64 0,.int .i64 0,.bool en] 265::R) K:=by
 by_cases h:k=1
 ·rw[if_pos h] at hK
  refine aH Tryz.func219 ?_
  repeat' (first|refine v29 ?_|refine wr ?_|refine w5 ?_ ?_|((refine bh fun h=>?_) <;> try exact w6 h)|(refine aE fun hA=>?_;subst hA)|intro _)
  all_goals(refine aC ?_;exact aB (hK))
 ·rw[if_neg h] at hK
  refine aH Tryz.func219 ?_
  repeat' (first|refine v29 ?_|refine wr ?_|refine w5 ?_ ?_|((refine bh fun h=>?_) <;> try exact w6 h)|(refine aE fun hA=>?_;subst hA)|intro _)
  all_goals(refine aC ?_;exact aB (hK))
theorem Q7 (hK:K (.tuple #[.string ⟨#[]⟩,.bool false,.int .i64 13]) (vY r cap most gr got us bs en::R)):aA Tryz.prog 121 #[.pointer (some ⟨r,0,none⟩)] (vY r cap most gr got us bs en::R) K:=by
 refine lF fun g p hT=>?_
 refine aH Tryz.func121 ?_
 repeat' (first|refine I6 ?_|refine wr ?_|refine w5 ?_ ?_|((refine bh fun h=>?_) <;> try exact w6 h)|(refine aE fun hA=>?_;subst hA)|intro _|(show aA _ 219 _ _ _;refine CA (h:=Hg ?_)))
 (refine aC ?_;exact aL (aG.trans (by exact bA) ((i6 hT))) (hK))
theorem Wb (hK:K (.int .i64 13) (vY r cap most gr got us bs en::R)):aA Tryz.prog 296 #[.pointer (some ⟨r,0,none⟩),.int .i64 n] (vY r cap most gr got us bs en::R) K:=by
 refine lF fun g p hT=>?_
 refine aH Tryz.func296 ?_
 repeat' (first|refine I6 ?_|refine wr ?_|refine w5 ?_ ?_|((refine bh fun h=>?_) <;> try exact w6 h)|(refine aE fun hA=>?_;subst hA)|intro _|(show aA _ 219 _ _ _;refine CA (h:=Hg ?_)))
 (refine aC ?_;exact aL (aG.trans (by exact bA) ((i6 hT))) (hK))
theorem GN {g p:Nat} (hT:RB cap most gr got us bs) (hK:K (.int .i64 (uZ cap gr us)) (pt r [.int .i64 1,.pointer (some ⟨g,0,none⟩),.pointer (some ⟨p,0,none⟩),.pointer none,.pointer none,.int .i64 0,.int .i64 0,.bool en] 265::zD p cap most gr got us::R)):aA Tryz.prog 280 #[.pointer (some ⟨r,0,none⟩)] (pt r [.int .i64 1,.pointer (some ⟨g,0,none⟩),.pointer (some ⟨p,0,none⟩),.pointer none,.pointer none,.int .i64 0,.int .i64 0,.bool en] 265::zD p cap most gr got us::R) K:=by
 obtain⟨h1,h2,h3,h4,h5,h6,h7,h8,h9⟩:=hT
 refine aH Tryz.func280 ?_
 repeat' (first|refine v47 ?_|refine wr ?_|refine w5 ?_ ?_|((refine bh fun h=>?_) <;> try exact w6 h)|(refine aE fun hA=>?_;subst hA)|intro _|(show aA _ 279 _ _ _;refine CA (h:=OW (by omega) (by omega) ?_)))
 (refine aC ?_;exact aB (hK))
theorem ZF (hT:RB cap most gr got us bs):RB cap most (gr+uZ cap gr us) got us bs:=by
 obtain⟨h1,h2,h3,h4,h5,h6,h7,h8,h9⟩:=hT
 have:0≤uZ cap gr us∧gr+uZ cap gr us - us≤cap:=by unfold uZ;split <;> omega
 exact⟨h1,h2,by omega,by omega,h5,h6,h7,h8,h9⟩
theorem PV (hK:K (.int .i64 (uZ cap gr us)) (vY r cap most (gr+uZ cap gr us) got us bs en::R)):aA Tryz.prog 189 #[.pointer (some ⟨r,0,none⟩)] (vY r cap most gr got us bs en::R) K:=by
 refine lF fun g p hT=>?_
 have hw:=ZF hT
 have hT':=hT
 obtain⟨h1,h2,h3,h4,h5,h6,h7,h8,h9⟩:=hT'
 by_cases h0:uZ cap gr us=0
 ·rw[h0,Int.add_zero] at hK
  refine aH Tryz.func189 ?_
  repeat' (first|refine FL ?_|refine wr ?_|refine w5 ?_ ?_|((refine bh fun h=>?_) <;> try exact w6 h)|(refine aE fun hA=>?_;subst hA)|intro _|(show aA _ 280 _ _ _;refine CA (h:=GN hT ?_)))
  (refine aC ?_;exact aL (aG.trans (by exact bA) ((i6 hT))) (hK))
 ·refine aH Tryz.func189 ?_
  repeat' (first|refine FL ?_|refine wr ?_|refine w5 ?_ ?_|((refine bh fun h=>?_) <;> try exact w6 h)|(refine aE fun hA=>?_;subst hA)|intro _|(show aA _ 280 _ _ _;refine CA (h:=GN hT ?_))|(show aA _ 187 _ _ _;refine CA (h:=Hy (by omega) (by omega) ?_)))
  (refine aC ?_;exact aL (aG.trans (by exact bA) ((i6 hw))) (hK))
theorem MP {w st it:Int} (hs:sW w st it=true) (hK:K (.int .i64 0) (vY r w (max most w) (gr+(w - cap)) got us bs en::R)):aA Tryz.prog 250 #[.pointer (some ⟨r,0,none⟩),.agg #[.int .i64 w,.int .i64 st,.int .i64 it]] (vY r cap most gr got us bs en::R) K:=by
 refine lF fun g p hT=>?_
 obtain⟨h1,h2,h3,h4,h5,h6,h7,h8,h9⟩:=hT
 have hs2:=hs
 unfold sW at hs2
 rw[decide_eq_true_eq] at hs2
 have hw:RB w (max most w) (gr+(w - cap)) got us bs:=⟨h1,h2,by omega,by omega,by omega,by omega,by omega,by omega,h9⟩
 refine aH Tryz.func250 ?_
 repeat' (first|refine zB ?_|refine dw y6 ?_|refine wr ?_|refine w5 ?_ ?_|((refine bh fun h=>?_) <;> try exact w6 h)|(refine aE fun hA=>?_;subst hA)|intro _|(show aA _ 143 _ _ _;refine CA (h:=u5 (v:=0) (by rw[if_pos hs]) ?_))|(show aA _ 334 _ _ _;refine CA (h:=OE (by omega) (by omega) (by omega) ?_)))
 (refine aC ?_;exact aL (aG.trans (by exact bA) ((i6 hw))) (hK))
theorem Jn {e:Bool} (he:en=true) (hK:K (.tuple #[.int .i64 7,.bool false]) (vY r cap most gr got us bs en::R)):aA Tryz.prog 341 #[.pointer (some ⟨r,0,none⟩),.string s,.bool e] (vY r cap most gr got us bs en::R) K:=by
 subst he
 refine aH Tryz.func341 ?_
 repeat' (first|refine MU ?_|refine wr ?_|refine w5 ?_ ?_|((refine bh fun h=>?_) <;> try exact w6 h)|(refine aE fun hA=>?_;subst hA)|intro _|(show aA _ 221 _ _ _;refine CA (h:=zJ ?_)))
 (refine aC ?_;exact aB (hK))
theorem Ji {e:Bool} (he:en=false) (hs:max (gr - got) 0<s.size) (hK:K (.tuple #[.int .i64 8,.bool false]) (vY r cap most gr got us bs en::R)):aA Tryz.prog 341 #[.pointer (some ⟨r,0,none⟩),.string s,.bool e] (vY r cap most gr got us bs en::R) K:=by
 subst he
 refine lF fun g p hT=>?_
 have hT':=hT
 obtain⟨h1,h2,h3,h4,h5,h6,h7,h8,h9⟩:=hT'
 refine aH Tryz.func341 ?_
 repeat' (first|refine MU ?_|refine wr ?_|refine w5 ?_ ?_|((refine bh fun h=>?_) <;> try exact w6 h)|(refine aE fun hA=>?_;subst hA)|intro _|(show aA _ 221 _ _ _;refine CA (h:=x7 ?_))|(show aA _ 260 _ _ _;refine CA (h:=Ky hs (by omega) ?_)))
 (refine aC ?_;exact aL (aG.trans (by exact bA) ((i6 hT))) (hK))
theorem Eb {e:Bool} (he:en=false) (hs:s.size≤max (gr - got) 0) (hb:got+s.size≤400000000) (hK:K (.tuple #[.int .i64 0,.bool true]) (vY r cap most gr (got+s.size) us (bs++s.data.toList) e::R)):aA Tryz.prog 341 #[.pointer (some ⟨r,0,none⟩),.string s,.bool e] (vY r cap most gr got us bs en::R) K:=by
 subst he
 refine lF fun g p hT=>?_
 obtain⟨h1,h2,h3,h4,h5,h6,h7,h8,h9⟩:=hT
 have hsl:s.data.toList.length=s.size:=by simp
 have hw:RB cap most gr (got+s.size) us (bs++s.data.toList):=⟨by rw[List.length_append,hsl];omega,h2,h3,h4,h5,h6,h7,by rw[List.length_append,hsl];omega,hb⟩
 by_cases h0:s.size=0
 ·have e0:s.data.toList= []:=List.length_eq_zero_iff.1 (by omega)
  rw[e0,List.append_nil] at hw hK
  refine aH Tryz.func341 ?_
  repeat' (first|refine MU ?_|refine wr ?_|refine w5 ?_ ?_|((refine bh fun h=>?_) <;> try exact w6 h)|(refine aE fun hA=>?_;subst hA)|intro _|(show aA _ 221 _ _ _;refine CA (h:=x7 ?_))|(show aA _ 260 _ _ _;refine CA (h:=Ih (by omega) (by omega) ?_))|(show aA _ 320 _ _ _;refine CA (h:=II (by omega) (.inl h0) ?_)))
  (refine aC ?_;exact aL (aG.trans (by exact bA) ((i6 hw))) (hK))
 ·have et:s.data.toList.take s.size=s.data.toList:=List.take_of_length_le (by omega)
  refine aH Tryz.func341 ?_
  repeat' (first|refine MU ?_|refine wr ?_|refine w5 ?_ ?_|((refine bh fun h=>?_) <;> try exact w6 h)|(refine aE fun hA=>?_;subst hA)|intro _|(show aA _ 221 _ _ _;refine CA (h:=x7 ?_))|(show aA _ 260 _ _ _;refine CA (h:=Ih (by omega) (by omega) ?_))|(show aA _ 320 _ _ _;refine CA (h:=J3 (n:=s.size) (by omega) (by omega) (by omega) ?_)))
  rw[et]
  (refine aC ?_;exact aL (aG.trans (by exact bA) ((i6 hw))) (hK))
theorem QV {kk:Nat} (hk:(kk:Int)=max (min n bs.length) 0) (hK:K (.tuple #[.string ⟨(bs.take kk).toArray⟩,.int .i64 0]) (vY r cap most gr got (us+kk) (bs.drop kk) en::R)):aA Tryz.prog 117 #[.pointer (some ⟨r,0,none⟩),.int .i64 n] (vY r cap most gr got us bs en::R) K:=by
 refine lF fun g p hT=>?_
 obtain⟨h1,h2,h3,h4,h5,h6,h7,h8,h9⟩:=hT
 have hs:(ByteArray.mk (bs.take kk).toArray).size=kk:=by simp[o9];omega
 have hw:RB cap most gr got (us+kk) (bs.drop kk):=⟨by rw[List.length_drop];omega,by omega,h3,by omega,h5,h6,h7,by rw[List.length_drop];omega,h9⟩
 refine aH Tryz.func117 ?_
 repeat' (first|refine I6 ?_|refine wr ?_|refine w5 ?_ ?_|((refine bh fun h=>?_) <;> try exact w6 h)|(refine aE fun hA=>?_;subst hA)|intro _|(show aA _ 219 _ _ _;refine CA (h:=Hg ?_))|(show aA _ 220 _ _ _;refine CA (h:=EU (kk:=kk) (by omega) hk ?_))|(show aA _ 118 _ _ _;refine CA (h:=H8 (by rw[hs];omega) (by omega) ?_)))
 rw[hs]
 (refine aC ?_;exact aL (aG.trans (by exact bA) ((i6 hw))) (hK))
theorem FW (hK:K (.int .i64 bs.length) (vY r cap most gr got (us+bs.length) [] en::R)):aA Tryz.prog 338 #[.pointer (some ⟨r,0,none⟩)] (vY r cap most gr got us bs en::R) K:=by
 refine lF fun g p hT=>?_
 obtain⟨h1,h2,h3,h4,h5,h6,h7,h8,h9⟩:=hT
 have hw:RB cap most gr got (us+bs.length) []:=⟨by simp;omega,by omega,h3,by omega,h5,h6,h7,by simp;omega,h9⟩
 refine aH Tryz.func338 ?_
 repeat' (first|refine FL ?_|refine wr ?_|refine w5 ?_ ?_|((refine bh fun h=>?_) <;> try exact w6 h)|(refine aE fun hA=>?_;subst hA)|intro _|(show aA _ 386 _ _ _;refine CA (h:=K5 (by omega) ?_))|(show aA _ 118 _ _ _;refine CA (h:=H8 (by omega) (by omega) ?_))|(show aA _ 387 _ _ _;refine CA (h:=FF ?_)))
 rw[show((bs.length:Nat):Int)+0=bs.length by omega]
 (refine aC ?_;exact aL (aG.trans (by exact bA) ((i6 hw))) (hK))
end
end
section
variable {R C:List HP} {K:Value→List HP→Prop}
def RI (mr room open_ ask:Int) (l:List ByteArray) (ac tk dr:Int):Prop:=ac=tk+dr+l.length∧0≤tk∧0≤dr∧ac≤400000000∧0≤open_∧open_+l.length≤mr∧0≤room∧room≤mr∧mr≤64∧0≤ask∧ask≤2147483647
def sX (r:Nat) (mr room open_ ask:Int) (l:List ByteArray) (ac tk dr:Int) (en:Bool):HP:=fF fun q=>fF fun d=>sep (pt r [.int .i64 2,.pointer none,.pointer none,.pointer (some ⟨q,0,none⟩),.pointer (some ⟨d,0,none⟩),.int .i64 room,.int .i64 open_,.bool en] 265) (sep (xD q 64 0 l ac tk dr) (sep (pC d ask 2147483647) (bI (RI mr room open_ ask l ac tk dr))))
section
variable {r:Nat} {mr room open_ ask ac tk dr:Int} {l:List ByteArray} {en:Bool} {n:Int} {s:ByteArray}
theorem fU {q d:Nat} (h:RI mr room open_ ask l ac tk dr):aG (pt r [.int .i64 2,.pointer none,.pointer none,.pointer (some ⟨q,0,none⟩),.pointer (some ⟨d,0,none⟩),.int .i64 room,.int .i64 open_,.bool en] 265::xD q 64 0 l ac tk dr::pC d ask 2147483647::R) (sX r mr room open_ ask l ac tk dr en::R):=
 aG.ex q (aG.ex d (qN h))
theorem i8 {f:FuncId} {args:Array Value} (h:∀q d,RI mr room open_ ask l ac tk dr→aA Tryz.prog f args (pt r [.int .i64 2,.pointer none,.pointer none,.pointer (some ⟨q,0,none⟩),.pointer (some ⟨d,0,none⟩),.int .i64 room,.int .i64 open_,.bool en] 265::xD q 64 0 l ac tk dr::pC d ask 2147483647::R) K):aA Tryz.prog f args (sX r mr room open_ ask l ac tk dr en::R) K:=
 aA.ex fun q=>aA.ex fun d=>CG fun hI=>h q d hI
theorem KO {w st it:Int} (hs:sW w st it=true) (hK:∀r,K (.tuple #[.pointer (some ⟨r,0,none⟩),.int .i64 0]) (sX r it it 0 0 [] 0 0 0 false::R)):aA Tryz.prog 235 #[.int .i64 2,.agg #[.int .i64 w,.int .i64 st,.int .i64 it]] R K:=by
 have hs2:=hs
 unfold sW at hs2
 rw[decide_eq_true_eq] at hs2
 refine aH Tryz.func235 ?_
 repeat' (first|refine zB ?_|refine wr ?_|refine w5 ?_ ?_|((refine bh fun h=>?_) <;> try exact w6 h)|(refine aE fun hA=>?_;subst hA)|intro _|(show aA _ 143 _ _ _;refine CA (h:=u5 (v:=0) (by rw[if_pos hs]) ?_))|(show aA _ 323 _ _ _;refine CA (h:=Ot (by omega) (by omega) (fun q=>?_)))|(show aA _ 324 _ _ _;refine CA (h:=TO (by omega) (fun d=>?_))))
 (refine aC ?_;exact aL (aG.trans (by exact bA) ((fU ⟨by simp,by omega,by omega,by omega,by omega,by simp;omega,by omega,by omega,by omega,by omega,by omega⟩))) (hK _))
theorem Se (hK:K (.int .i64 2) (sX r mr room open_ ask l ac tk dr en::R)):aA Tryz.prog 105 #[.pointer (some ⟨r,0,none⟩)] (sX r mr room open_ ask l ac tk dr en::R) K:=by
 refine i8 fun q d hT=>?_
 refine aH Tryz.func105 ?_
 repeat' (first|refine v4 ?_|refine wr ?_|refine w5 ?_ ?_|((refine bh fun h=>?_) <;> try exact w6 h)|(refine aE fun hA=>?_;subst hA)|intro _)
 (refine aC ?_;exact aL (aG.trans (by exact bA) ((fU hT))) (hK))
theorem pS {q d:Nat} (hK:K (.bool en) (pt r [.int .i64 2,.pointer none,.pointer none,.pointer (some ⟨q,0,none⟩),.pointer (some ⟨d,0,none⟩),.int .i64 room,.int .i64 open_,.bool en] 265::R)):aA Tryz.prog 221 #[.pointer (some ⟨r,0,none⟩)] (pt r [.int .i64 2,.pointer none,.pointer none,.pointer (some ⟨q,0,none⟩),.pointer (some ⟨d,0,none⟩),.int .i64 room,.int .i64 open_,.bool en] 265::R) K:=by
 refine aH Tryz.func221 ?_
 repeat' (first|refine v23 ?_|refine wr ?_|refine w5 ?_ ?_|((refine bh fun h=>?_) <;> try exact w6 h)|(refine aE fun hA=>?_;subst hA)|intro _)
 (refine aC ?_;exact aB (hK))
theorem AB (hK:K (.bool en) (sX r mr room open_ ask l ac tk dr en::R)):aA Tryz.prog 221 #[.pointer (some ⟨r,0,none⟩)] (sX r mr room open_ ask l ac tk dr en::R) K:=by
 refine i8 fun q d hT=>?_
 refine aH Tryz.func221 ?_
 repeat' (first|refine v23 ?_|refine wr ?_|refine w5 ?_ ?_|((refine bh fun h=>?_) <;> try exact w6 h)|(refine aE fun hA=>?_;subst hA)|intro _)
 (refine aC ?_;exact aL (aG.trans (by exact bA) ((fU hT))) (hK))
def CN:List (Nat×Nat):= [(0,0),(1,0),(2,0),(3,0),(4,1),(5,1),(6,1),(7,1),(8,1),(9,1),(10,0),(11,0)]
theorem uP (hK:K (.int .i64 l.length) (sX r mr room open_ ask l ac tk dr en::R)):aA Tryz.prog 90 #[.pointer (some ⟨r,0,none⟩)] (sX r mr room open_ ask l ac tk dr en::R) K:=by
 refine i8 fun q d hT=>?_
 have hT':=hT
 obtain⟨h1,h2,h3,h4,h5,h6,h7,h8,h9,h10,h11⟩:=hT'
 refine aH Tryz.func90 ?_
 repeat' (first|refine FL ?_|refine dw CN ?_|refine wr ?_|refine w5 ?_ ?_|((refine bh fun h=>?_) <;> try exact w6 h)|(refine aE fun hA=>?_;subst hA)|intro _|(show aA _ 179 _ _ _;refine CA (h:=HV ?_))|(show aA _ 180 _ _ _;refine CA (h:=It ?_)))
 rw[show(0:Int)+((l.length:Nat):Int)=l.length by omega]
 (refine aC ?_;exact aL (aG.trans (by exact bA) ((fU hT))) (hK))
theorem Q9 (hK:K (.bool (en && decide (l= []))) (sX r mr room open_ ask l ac tk dr en::R)):aA Tryz.prog 119 #[.pointer (some ⟨r,0,none⟩)] (sX r mr room open_ ask l ac tk dr en::R) K:=by
 cases en
 ·refine aH Tryz.func119 ?_
  repeat' (first|refine v15 ?_|refine wr ?_|refine w5 ?_ ?_|((refine bh fun h=>?_) <;> try exact w6 h)|(refine aE fun hA=>?_;subst hA)|intro _|(show aA _ 221 _ _ _;refine CA (h:=AB ?_))|(show aA _ 90 _ _ _;refine CA (h:=uP ?_)))
  (refine aC ?_;exact aB (hK))
 ·refine aH Tryz.func119 ?_
  repeat' (first|refine v15 ?_|refine wr ?_|refine w5 ?_ ?_|((refine bh fun h=>?_) <;> try exact w6 h)|(refine aE fun hA=>?_;subst hA)|intro _|(show aA _ 221 _ _ _;refine CA (h:=AB ?_))|(show aA _ 90 _ _ _;refine CA (h:=uP ?_)))
  all_goals(refine aC ?_;exact aB (kb hK (by cases l <;> simp <;> omega)))
def BD:List (Nat×Nat):= [(0,0),(1,0),(2,0),(3,0),(4,1),(5,1),(6,1),(7,1),(8,1),(9,0),(10,0)]
theorem Rm (hK:K (.int .i64 open_) (sX r mr room open_ ask l ac tk dr en::R)):aA Tryz.prog 106 #[.pointer (some ⟨r,0,none⟩)] (sX r mr room open_ ask l ac tk dr en::R) K:=by
 refine i8 fun q d hT=>?_
 have hT':=hT
 obtain⟨h1,h2,h3,h4,h5,h6,h7,h8,h9,h10,h11⟩:=hT'
 refine aH Tryz.func106 ?_
 repeat' (first|refine FL ?_|refine dw BD ?_|refine wr ?_|refine w5 ?_ ?_|((refine bh fun h=>?_) <;> try exact w6 h)|(refine aE fun hA=>?_;subst hA)|intro _|(show aA _ 109 _ _ _;refine CA (h:=Q1 ?_)))
 rw[Int.zero_add]
 (refine aC ?_;exact aL (aG.trans (by exact bA) ((fU hT))) (hK))
theorem Ae {q d:Nat} {k:Int} (hK:K (.int .i64 (if k=2 then 0 else 13)) (pt r [.int .i64 2,.pointer none,.pointer none,.pointer (some ⟨q,0,none⟩),.pointer (some ⟨d,0,none⟩),.int .i64 room,.int .i64 open_,.bool en] 265::R)):aA Tryz.prog 219 #[.pointer (some ⟨r,0,none⟩),.int .i64 k] (pt r [.int .i64 2,.pointer none,.pointer none,.pointer (some ⟨q,0,none⟩),.pointer (some ⟨d,0,none⟩),.int .i64 room,.int .i64 open_,.bool en] 265::R) K:=by
 by_cases h:k=2
 ·rw[if_pos h] at hK
  refine aH Tryz.func219 ?_
  repeat' (first|refine v29 ?_|refine wr ?_|refine w5 ?_ ?_|((refine bh fun h=>?_) <;> try exact w6 h)|(refine aE fun hA=>?_;subst hA)|intro _)
  all_goals(refine aC ?_;exact aB (hK))
 ·rw[if_neg h] at hK
  refine aH Tryz.func219 ?_
  repeat' (first|refine v29 ?_|refine wr ?_|refine w5 ?_ ?_|((refine bh fun h=>?_) <;> try exact w6 h)|(refine aE fun hA=>?_;subst hA)|intro _)
  all_goals(refine aC ?_;exact aB (hK))
theorem SV (hK:K (.tuple #[.string ⟨#[]⟩,.int .i64 13]) (sX r mr room open_ ask l ac tk dr en::R)):aA Tryz.prog 117 #[.pointer (some ⟨r,0,none⟩),.int .i64 n] (sX r mr room open_ ask l ac tk dr en::R) K:=by
 refine i8 fun q d hT=>?_
 refine aH Tryz.func117 ?_
 repeat' (first|refine I6 ?_|refine wr ?_|refine w5 ?_ ?_|((refine bh fun h=>?_) <;> try exact w6 h)|(refine aE fun hA=>?_;subst hA)|intro _|(show aA _ 219 _ _ _;refine CA (h:=Ae ?_)))
 (refine aC ?_;exact aL (aG.trans (by exact bA) ((fU hT))) (hK))
theorem Px (hK:K (.tuple #[.string ⟨#[]⟩,.bool false,.int .i64 0]) (sX r mr room open_ ask [] ac tk dr en::R)):aA Tryz.prog 121 #[.pointer (some ⟨r,0,none⟩)] (sX r mr room open_ ask [] ac tk dr en::R) K:=by
 refine i8 fun q d hT=>?_
 refine aH Tryz.func121 ?_
 repeat' (first|refine I6 ?_|refine wr ?_|refine w5 ?_ ?_|((refine bh fun h=>?_) <;> try exact w6 h)|(refine aE fun hA=>?_;subst hA)|intro _|(show aA _ 219 _ _ _;refine CA (h:=Ae ?_))|(show aA _ 225 _ _ _;refine CA (h:=Hu ?_)))
 (refine aC ?_;exact aL (aG.trans (by exact bA) ((fU hT))) (hK))
theorem RX (hK:K (.tuple #[.string s,.bool true,.int .i64 0]) (sX r mr room open_ ask l ac (tk+1) dr en::R)):aA Tryz.prog 121 #[.pointer (some ⟨r,0,none⟩)] (sX r mr room open_ ask (s::l) ac tk dr en::R) K:=by
 refine i8 fun q d hT=>?_
 obtain⟨h1,h2,h3,h4,h5,h6,h7,h8,h9,h10,h11⟩:=hT
 have hl:(s::l).length=l.length+1:=rfl
 have hw:RI mr room open_ ask l ac (tk+1) dr:=⟨by omega,by omega,h3,h4,h5,by omega,h7,h8,h9,h10,h11⟩
 refine aH Tryz.func121 ?_
 repeat' (first|refine I6 ?_|refine wr ?_|refine w5 ?_ ?_|((refine bh fun h=>?_) <;> try exact w6 h)|(refine aE fun hA=>?_;subst hA)|intro _|(show aA _ 219 _ _ _;refine CA (h:=Ae ?_))|(show aA _ 225 _ _ _;refine CA (h:=JF (by omega) (by omega) ?_)))
 (refine aC ?_;exact aL (aG.trans (by exact bA) ((fU hw))) (hK))
theorem Xh (h:1≤n) (hK:K (.int .i64 0) (sX r mr room open_ (ask+min n (2147483647 - ask)) l ac tk dr en::R)):aA Tryz.prog 296 #[.pointer (some ⟨r,0,none⟩),.int .i64 n] (sX r mr room open_ ask l ac tk dr en::R) K:=by
 refine i8 fun q d hT=>?_
 obtain⟨h1,h2,h3,h4,h5,h6,h7,h8,h9,h10,h11⟩:=hT
 have hw:RI mr room open_ (ask+min n (2147483647 - ask)) l ac tk dr:=⟨h1,h2,h3,h4,h5,h6,h7,h8,h9,by omega,by omega⟩
 refine aH Tryz.func296 ?_
 repeat' (first|refine I6 ?_|refine wr ?_|refine w5 ?_ ?_|((refine bh fun h=>?_) <;> try exact w6 h)|(refine aE fun hA=>?_;subst hA)|intro _|(show aA _ 219 _ _ _;refine CA (h:=Ae ?_))|(show aA _ 360 _ _ _;refine CA (h:=UU h ⟨h10,h11⟩ (by omega) ?_)))
 (refine aC ?_;exact aL (aG.trans (by exact bA) ((fU hw))) (hK))
theorem R4 (h:n<1) (hK:K (.int .i64 2) (sX r mr room open_ ask l ac tk dr en::R)):aA Tryz.prog 296 #[.pointer (some ⟨r,0,none⟩),.int .i64 n] (sX r mr room open_ ask l ac tk dr en::R) K:=by
 refine i8 fun q d hT=>?_
 refine aH Tryz.func296 ?_
 repeat' (first|refine I6 ?_|refine wr ?_|refine w5 ?_ ?_|((refine bh fun h=>?_) <;> try exact w6 h)|(refine aE fun hA=>?_;subst hA)|intro _|(show aA _ 219 _ _ _;refine CA (h:=Ae ?_))|(show aA _ 360 _ _ _;refine CA (h:=NF (by simp) h ?_)))
 (refine aC ?_;exact aL (aG.trans (by exact bA) ((fU hT))) (hK))
def yI (room open_ ask:Int) (l:List ByteArray):Int:=max (min ask (room - open_ - l.length)) 0
def BP:List Nat:= [0,1,3,7,15,0,32,96,224,0,512,1536,3584,8160,0,16384,49152,114688,245791,524287,1048575,2097151,4194303]
def BB:List Nat:= [4194303,2097151,1048575,524287,245791,114688,49152,16384,0,8160,3584,1536,512,0,224,96,32,0,15,7,3,1,0]
def BH:List (Nat×Nat):= [(0,0),(1,0),(2,0),(3,0),(4,1),(14,1),(15,1),(16,1),(17,1),(18,1),(5,2),(6,2),(7,2),(8,2),(9,2),(10,2),(11,2),(12,2),(13,2),(19,0),(20,0),(21,0),(22,0)]
theorem Rj {q d r2:Nat} (hT:RI mr room open_ ask l ac tk dr) (hK:K (.int .i64 (yI room open_ ask l)) (pt r2 [.pointer (some ⟨r,0,none⟩)] 170::pt r [.int .i64 2,.pointer none,.pointer none,.pointer (some ⟨q,0,none⟩),.pointer (some ⟨d,0,none⟩),.int .i64 room,.int .i64 open_,.bool en] 265::xD q 64 0 l ac tk dr::pC d ask 2147483647::R)):aA Tryz.prog 353 #[.pointer (some ⟨r2,0,none⟩)] (pt r2 [.pointer (some ⟨r,0,none⟩)] 170::pt r [.int .i64 2,.pointer none,.pointer none,.pointer (some ⟨q,0,none⟩),.pointer (some ⟨d,0,none⟩),.int .i64 room,.int .i64 open_,.bool en] 265::xD q 64 0 l ac tk dr::pC d ask 2147483647::R) K:=by
 obtain⟨h1,h2,h3,h4,h5,h6,h7,h8,h9,h10,h11⟩:=hT
 unfold yI at hK
 refine aH Tryz.func353 ?_
 repeat' (first|refine v67 ?_|refine Iu BP BB BH ?_|refine wr ?_|refine w5 ?_ ?_|((refine bh fun h=>?_) <;> try exact w6 h)|(refine aE fun hA=>?_;subst hA)|intro _|(show aA _ 354 _ _ _;refine CA (h:=OI ?_))|(show aA _ 180 _ _ _;refine CA (h:=It ?_)))
 (refine aC ?_;exact aB (hK))
theorem GV {q d:Nat} (hT:RI mr room open_ ask l ac tk dr) (hK:K (.int .i64 (yI room open_ ask l)) (pt r [.int .i64 2,.pointer none,.pointer none,.pointer (some ⟨q,0,none⟩),.pointer (some ⟨d,0,none⟩),.int .i64 room,.int .i64 open_,.bool en] 265::xD q 64 0 l ac tk dr::pC d ask 2147483647::R)):aA Tryz.prog 280 #[.pointer (some ⟨r,0,none⟩)] (pt r [.int .i64 2,.pointer none,.pointer none,.pointer (some ⟨q,0,none⟩),.pointer (some ⟨d,0,none⟩),.int .i64 room,.int .i64 open_,.bool en] 265::xD q 64 0 l ac tk dr::pC d ask 2147483647::R) K:=by
 refine aH Tryz.func280 ?_
 repeat' (first|refine v47 ?_|refine wr ?_|refine w5 ?_ ?_|((refine bh fun h=>?_) <;> try exact w6 h)|(refine aE fun hA=>?_;subst hA)|intro _|(show aA _ 353 _ _ _;refine CA (h:=Rj hT ?_)))
 (refine aC ?_;exact aB (hK))
theorem NE (hK:K (.int .i64 (yI room open_ ask l)) (sX r mr room (open_+yI room open_ ask l) (ask - yI room open_ ask l) l ac tk dr en::R)):aA Tryz.prog 189 #[.pointer (some ⟨r,0,none⟩)] (sX r mr room open_ ask l ac tk dr en::R) K:=by
 refine i8 fun q d hT=>?_
 have hT':=hT
 obtain⟨h1,h2,h3,h4,h5,h6,h7,h8,h9,h10,h11⟩:=hT'
 have hd:0≤yI room open_ ask l∧yI room open_ ask l≤ask∧(yI room open_ ask l=0∨open_+yI room open_ ask l+l.length≤room):=by unfold yI;omega
 have hw:RI mr room (open_+yI room open_ ask l) (ask - yI room open_ ask l) l ac tk dr:=⟨h1,h2,h3,h4,by omega,by omega,h7,h8,h9,by omega,by omega⟩
 by_cases h0:yI room open_ ask l=0
 ·rw[h0,Int.add_zero,Int.sub_zero] at hK
  refine aH Tryz.func189 ?_
  repeat' (first|refine FL ?_|refine wr ?_|refine w5 ?_ ?_|((refine bh fun h=>?_) <;> try exact w6 h)|(refine aE fun hA=>?_;subst hA)|intro _|(show aA _ 280 _ _ _;refine CA (h:=GV hT ?_)))
  (refine aC ?_;exact aL (aG.trans (by exact bA) ((fU hT))) (hK))
 ·refine aH Tryz.func189 ?_
  repeat' (first|refine FL ?_|refine wr ?_|refine w5 ?_ ?_|((refine bh fun h=>?_) <;> try exact w6 h)|(refine aE fun hA=>?_;subst hA)|intro _|(show aA _ 280 _ _ _;refine CA (h:=GV hT ?_))|(show aA _ 281 _ _ _;refine CA (h:=Pq (by omega) (by omega) (by omega) ?_)))
  (refine aC ?_;exact aL (aG.trans (by exact bA) ((fU hw))) (hK))
def y7:List (Nat×Nat):= [(0,0),(1,0),(2,0),(3,0),(4,0),(5,0),(6,1),(7,0)]
theorem L3 {w st it:Int} (hs:sW w st it=true) (hK:K (.int .i64 0) (sX r (max mr it) it open_ ask l ac tk dr en::R)):aA Tryz.prog 250 #[.pointer (some ⟨r,0,none⟩),.agg #[.int .i64 w,.int .i64 st,.int .i64 it]] (sX r mr room open_ ask l ac tk dr en::R) K:=by
 refine i8 fun q d hT=>?_
 obtain⟨h1,h2,h3,h4,h5,h6,h7,h8,h9,h10,h11⟩:=hT
 have hs2:=hs
 unfold sW at hs2
 rw[decide_eq_true_eq] at hs2
 have hw:RI (max mr it) it open_ ask l ac tk dr:=⟨h1,h2,h3,h4,h5,by omega,by omega,by omega,by omega,h10,h11⟩
 refine aH Tryz.func250 ?_
 repeat' (first|refine zB ?_|refine dw y7 ?_|refine wr ?_|refine w5 ?_ ?_|((refine bh fun h=>?_) <;> try exact w6 h)|(refine aE fun hA=>?_;subst hA)|intro _|(show aA _ 143 _ _ _;refine CA (h:=u5 (v:=0) (by rw[if_pos hs]) ?_)))
 (refine aC ?_;exact aL (aG.trans (by exact bA) ((fU hw))) (hK))
theorem Jc {e:Bool} (he:en=true) (hK:K (.tuple #[.int .i64 7,.bool false]) (sX r mr room open_ ask l ac tk dr en::R)):aA Tryz.prog 341 #[.pointer (some ⟨r,0,none⟩),.string s,.bool e] (sX r mr room open_ ask l ac tk dr en::R) K:=by
 subst he
 refine aH Tryz.func341 ?_
 repeat' (first|refine MU ?_|refine wr ?_|refine w5 ?_ ?_|((refine bh fun h=>?_) <;> try exact w6 h)|(refine aE fun hA=>?_;subst hA)|intro _|(show aA _ 221 _ _ _;refine CA (h:=AB ?_)))
 (refine aC ?_;exact aB (hK))
theorem Rn {s:ByteArray} (h:s≠⟨#[]⟩):(!(s.toList == (ByteArray.mk #[]).toList))=true:=by
 rw[Bool.not_eq_true',beq_eq_false_iff_ne]
 intro e
 apply h
 rw[ByteArray.toList_eq,ByteArray.toList_eq] at e
 exact ByteArray.ext (Array.toList_inj.1 e)
theorem Jo {e:Bool} (he:en=false) (hs:s≠⟨#[]⟩∨e=false) (ho:open_<1) (hK:K (.tuple #[.int .i64 10,.bool false]) (sX r mr room open_ ask l ac tk dr en::R)):aA Tryz.prog 341 #[.pointer (some ⟨r,0,none⟩),.string s,.bool e] (sX r mr room open_ ask l ac tk dr en::R) K:=by
 subst he
 refine i8 fun q d hT=>?_
 by_cases h0:s=⟨#[]⟩
 ·subst h0
  rcases hs with h|rfl
  ·exact absurd rfl h
  ·refine aH Tryz.func341 ?_
   repeat' (first|refine MU ?_|refine wr ?_|refine w5 ?_ ?_|((refine bh fun h=>?_) <;> try exact w6 h)|(refine aE fun hA=>?_;subst hA)|intro _|(show aA _ 221 _ _ _;refine CA (h:=pS ?_)))
   (refine aC ?_;exact aL (aG.trans (by exact bA) ((fU hT))) (hK))
 ·have hb:=Rn h0
  refine aH Tryz.func341 ?_
  repeat' (first|(show Br _ _ _;refine Br.t hb ?_)|refine MU ?_|refine wr ?_|refine w5 ?_ ?_|((refine bh fun h=>?_) <;> try exact w6 h)|(refine aE fun hA=>?_;subst hA)|intro _|(show aA _ 221 _ _ _;refine CA (h:=pS ?_)))
  (refine aC ?_;exact aL (aG.trans (by exact bA) ((fU hT))) (hK))
theorem Jl (he:en=false) (hK:K (.tuple #[.int .i64 0,.bool true]) (sX r mr room open_ ask l ac tk dr true::R)):aA Tryz.prog 341 #[.pointer (some ⟨r,0,none⟩),.string ⟨#[]⟩,.bool true] (sX r mr room open_ ask l ac tk dr en::R) K:=by
 subst he
 refine i8 fun q d hT=>?_
 refine aH Tryz.func341 ?_
 repeat' (first|refine MU ?_|refine wr ?_|refine w5 ?_ ?_|((refine bh fun h=>?_) <;> try exact w6 h)|(refine aE fun hA=>?_;subst hA)|intro _|(show aA _ 221 _ _ _;refine CA (h:=pS ?_)))
 (refine aC ?_;exact aL (aG.trans (by exact bA) ((fU hT))) (hK))
theorem C4 {e:Bool} (he:en=false) (hs:s≠⟨#[]⟩∨e=false) (ho:1≤open_) (hb:ac≤300000000) (hK:K (.tuple #[.int .i64 0,.bool true]) (sX r mr room (open_ - 1) ask (l++ [s]) (ac+1) tk dr e::R)):aA Tryz.prog 341 #[.pointer (some ⟨r,0,none⟩),.string s,.bool e] (sX r mr room open_ ask l ac tk dr en::R) K:=by
 subst he
 refine i8 fun q d hT=>?_
 obtain⟨h1,h2,h3,h4,h5,h6,h7,h8,h9,h10,h11⟩:=hT
 have hw:RI mr room (open_ - 1) ask (l++ [s]) (ac+1) tk dr:=⟨by simp;omega,h2,h3,by omega,by omega,by simp;omega,h7,h8,h9,h10,h11⟩
 by_cases h0:s=⟨#[]⟩
 ·subst h0
  rcases hs with h|rfl
  ·exact absurd rfl h
  ·refine aH Tryz.func341 ?_
   repeat' (first|refine MU ?_|refine wr ?_|refine w5 ?_ ?_|((refine bh fun h=>?_) <;> try exact w6 h)|(refine aE fun hA=>?_;subst hA)|intro _|(show aA _ 221 _ _ _;refine CA (h:=pS ?_))|(show aA _ 321 _ _ _;refine CA (h:=Eo (by omega) (by omega) (by omega) ?_)))
   (refine aC ?_;exact aL (aG.trans (by exact bA) ((fU hw))) (hK))
 ·have hb:=Rn h0
  refine aH Tryz.func341 ?_
  repeat' (first|(show Br _ _ _;refine Br.t hb ?_)|refine MU ?_|refine wr ?_|refine w5 ?_ ?_|((refine bh fun h=>?_) <;> try exact w6 h)|(refine aE fun hA=>?_;subst hA)|intro _|(show aA _ 221 _ _ _;refine CA (h:=pS ?_))|(show aA _ 321 _ _ _;refine CA (h:=Eo (by omega) (by omega) (by omega) ?_)))
  (refine aC ?_;exact aL (aG.trans (by exact bA) ((fU hw))) (hK))
theorem FD (hK:K (.int .i64 l.length) (sX r mr room open_ ask [] ac tk (dr+l.length) en::R)):aA Tryz.prog 338 #[.pointer (some ⟨r,0,none⟩)] (sX r mr room open_ ask l ac tk dr en::R) K:=by
 refine i8 fun q d hT=>?_
 obtain⟨h1,h2,h3,h4,h5,h6,h7,h8,h9,h10,h11⟩:=hT
 have hw:RI mr room open_ ask [] ac tk (dr+l.length):=⟨by simp;omega,h2,by omega,h4,h5,by simp;omega,h7,h8,h9,h10,h11⟩
 refine aH Tryz.func338 ?_
 repeat' (first|refine FL ?_|refine wr ?_|refine w5 ?_ ?_|((refine bh fun h=>?_) <;> try exact w6 h)|(refine aE fun hA=>?_;subst hA)|intro _|(show aA _ 386 _ _ _;refine CA (h:=HQ ?_))|(show aA _ 118 _ _ _;refine CA (h:=W7 ?_))|(show aA _ 387 _ _ _;refine CA (h:=GE (by omega) (by omega) ?_)))
 rw[show(0:Int)+((l.length:Nat):Int)=l.length by omega]
 (refine aC ?_;exact aL (aG.trans (by exact bA) ((fU hw))) (hK))
end
end
end Go.Proofs.YtifgibijcmppmaaGreat
