/- A part of the proof: lemmas; each with the conditions that it states. -/
import Derived.Test.YtepnmcipkangkaaGreatPah
set_option linter.unusedVariables false
set_option linter.unusedSimpArgs false
set_option maxRecDepth 100000
set_option maxHeartbeats 40000000
namespace Go.Proofs.YtepnmcipkangkaaGreat
open Go Go.Proofs Go.Sl
attribute [local irreducible] aN fJ cY bN aM aS aA dM dN aV dL pt ro fB star sep bF
variable {R C:List HP} {K:KP} {n cap most gr got us k w st it mr room open_ ask ac tk dr:Int} {p r2 r g q d:Nat} {bs:List UInt8} {en e:Bool} {s:ByteArray} {f:FuncId} {args:Array Value} {l:List ByteArray}
def AO (p:Nat) (cap most gr got us:Int):HP:=pt p [I6 cap,I6 most,I6 gr,I6 got,I6 us] 141
theorem GU (hK:K (.bool (decide (0<=n) && decide (n<=2147483647))) R):CT 169 #[I6 n] R K:=by
 refine aH Tryz.func169 ?_
 repeat' (first|refine v1 ?_|refine w5 ?_ ?_|((refine bh fun h=>?_) <;> try exact w6 h)|(refine aE fun hA=>?_;subst hA)|intro _)
 all_goals(refine aC ?_;exact aB (kb hK (by simp <;> omega)))
theorem Qk (h:0<=n/\n<=4096) (hK:∀p,K (.tuple #[PO p,I6 0]) (AO p n n n 0 0::R)):CT 98 #[I6 n] R K:=by
 have e:(decide (0<=n) && decide (n<=2147483647))=true:=by simp;omega
 refine aH Tryz.func98 ?_
 repeat' (first|(show cY _ _ _;rw[e])|refine v21 ?_|refine w5 ?_ ?_|((refine bh fun h=>?_) <;> try exact w6 h)|(refine aE fun hA=>?_;subst hA)|intro _|(show aA _ 169 _ _ _;refine CA (h:=GU ?_)))
 (refine aC ?_;exact aB (hK _))
def DV:List (Nat×Nat):= [(0,0),(1,0),(2,0),(3,0),(4,0),(5,0),(6,0),(7,0),(8,0),(9,0)]
def wD:List (Nat×Nat):= [(0,0),(1,0),(2,0),(3,0),(4,0),(5,0),(6,0),(7,0),(8,0),(9,0),(10,0),(11,0)]
theorem ZF (hK:K (I6 1) R):CT 144 #[.pointer none,I6 n] R K:=by
 refine aH Tryz.func144 ?_
 repeat' (first|refine v33 ?_|refine dw wD ?_|refine w5 ?_ ?_|((refine bh fun h=>?_) <;> try exact w6 h)|(refine aE fun hA=>?_;subst hA)|intro _)
 (refine aC ?_;exact aB (hK))
def wR:List (Nat×Nat):= [(0,0),(1,0),(2,0),(3,0),(4,0),(5,0),(6,0),(7,0),(8,0),(9,0),(10,0),(11,0),(12,0)]
theorem Ke (h:0<=k/\k<=max (gr - got) 0) (hb:-900000000<=gr/\gr<=900000000/\0<=got/\got<=900000000/\k<=900000000) (hK:K (I6 0) (AO p cap most gr (got+k) us::R)):CT 305 #[PO p,I6 k] (AO p cap most gr got us::R) K:=by
 unfold AO at *
 refine aH Tryz.func305 ?_
 repeat' (first|refine v66 ?_|refine dw wR ?_|refine w5 ?_ ?_|((refine bh fun h=>?_) <;> try exact w6 h)|(refine aE fun hA=>?_;subst hA)|intro _)
 all_goals(refine aC ?_;exact aB (hK))
theorem LM (h:max (gr - got) 0<k) (hb:-900000000<=gr/\gr<=900000000/\0<=got/\got<=900000000) (hK:K (I6 9) (AO p cap most gr got us::R)):CT 305 #[PO p,I6 k] (AO p cap most gr got us::R) K:=by
 unfold AO at *
 refine aH Tryz.func305 ?_
 repeat' (first|refine v66 ?_|refine dw wR ?_|refine w5 ?_ ?_|((refine bh fun h=>?_) <;> try exact w6 h)|(refine aE fun hA=>?_;subst hA)|intro _)
 all_goals(refine aC ?_;exact aB (hK))
theorem JL (h:0<=k/\k<=got - us) (hb:0<=us/\got<=900000000) (hK:K (I6 0) (AO p cap most gr got (us+k)::R)):CT 144 #[PO p,I6 k] (AO p cap most gr got us::R) K:=by
 unfold AO at *
 refine aH Tryz.func144 ?_
 repeat' (first|refine v33 ?_|refine dw wD ?_|refine w5 ?_ ?_|((refine bh fun h=>?_) <;> try exact w6 h)|(refine aE fun hA=>?_;subst hA)|intro _)
 all_goals(refine aC ?_;exact aB (hK))
theorem Lp (hb:-900000000<=gr/\gr<=900000000/\0<=us/\us<=900000000) (hK:K (I6 (gr - us)) (AO p cap most gr got us::R)):CT 71 #[PO p] (AO p cap most gr got us::R) K:=by
 unfold AO at *
 refine aH Tryz.func71 ?_
 repeat' (first|refine v22 ?_|refine dw DV ?_|refine w5 ?_ ?_|((refine bh fun h=>?_) <;> try exact w6 h)|(refine aE fun hA=>?_;subst hA)|intro _)
 (refine aC ?_;exact aB (hK))
theorem MB (hb:0<=cap/\cap<=900000000) (hK:K (I6 ((cap+1) / 2)) (pt r2 [PO p] 50::AO p cap most gr got us::R)):CT 370 #[PO r2] (pt r2 [PO p] 50::AO p cap most gr got us::R) K:=by
 unfold AO at *
 refine aH Tryz.func370 ?_
 repeat' (first|refine v43 ?_|refine w5 ?_ ?_|((refine bh fun h=>?_) <;> try exact w6 h)|(refine aE fun hA=>?_;subst hA)|intro _)
 (refine aC ?_;exact aB (hK))
def rJ (cap gr us:Int):Int:=if 0<cap - (gr - us)/\cap<=2 * (cap - (gr - us)) then cap - (gr - us) else 0
def xD:List (Nat×Nat):= [(4,0),(5,1),(0,1),(1,1),(2,1),(3,1),(6,0),(7,0)]
theorem Po (hc:0<=cap/\cap<=900000000) (hb:-900000000<=gr/\gr<=900000000/\0<=us/\us<=900000000) (hK:K (I6 (rJ cap gr us)) (AO p cap most gr got us::R)):CT 271 #[PO p] (AO p cap most gr got us::R) K:=by
 unfold rJ at hK
 have hh:∀m:Int,((cap+1) / 2<=m)↔cap<=2 * m:=fun m=>by omega
 by_cases c1:0<cap - (gr - us)/\cap<=2 * (cap - (gr - us))
 ·rw[if_pos c1] at hK
  unfold AO at *
  refine aH Tryz.func271 ?_
  repeat' (first|refine v84 ?_|refine dw xD ?_|refine w5 ?_ ?_|((refine bh fun h=>?_) <;> try exact w6 h)|(refine aE fun hA=>?_;subst hA)|intro _|(show aA _ 71 _ _ _;refine CA (h:=Lp hb ?_))|(show aA _ 370 _ _ _;refine CA (h:=MB hc ?_)))
  all_goals first|(exfalso;omega)|skip
  all_goals(refine aC ?_;exact aB (hK))
 ·rw[if_neg c1] at hK
  unfold AO at *
  refine aH Tryz.func271 ?_
  repeat' (first|refine v84 ?_|refine dw xD ?_|refine w5 ?_ ?_|((refine bh fun h=>?_) <;> try exact w6 h)|(refine aE fun hA=>?_;subst hA)|intro _|(show aA _ 71 _ _ _;refine CA (h:=Lp hb ?_))|(show aA _ 370 _ _ _;refine CA (h:=MB hc ?_)))
  all_goals first|(exfalso;omega)|skip
  all_goals(refine aC ?_;exact aB (hK))
theorem Ko (hc:0<=cap/\cap<=900000000) (hb:-900000000<=gr/\gr<=900000000/\0<=us/\us<=900000000) (hK:K (I6 (rJ cap gr us)) (AO p cap most (gr+rJ cap gr us) got us::R)):CT 185 #[PO p] (AO p cap most gr got us::R) K:=by
 have h0:0<=rJ cap gr us/\rJ cap gr us<=3000000000:=by unfold rJ;split <;> omega
 refine aH Tryz.func185 ?_
 repeat' (first|refine v37 ?_|refine w5 ?_ ?_|((refine bh fun h=>?_) <;> try exact w6 h)|(refine aE fun hA=>?_;subst hA)|intro _|(show aA _ 271 _ _ _;refine CA (h:=Po hc hb ?_)))
 ·(refine aC ?_;exact aB (hK))
 ·have e:rJ cap gr us=0:=by omega
  rw[e] at hK
  rw[e]
  (refine aC ?_;exact aB ((by simpa using hK)))
def AY:List (Nat×Nat):= [(0,0),(1,0),(2,0),(3,0),(4,0),(5,0),(6,0),(7,0),(8,0),(9,0),(10,0),(11,0),(12,0),(13,1)]
theorem QD {to:Int} (h:0<=to/\to<=4096) (hc:0<=cap/\cap<=4096) (hb:-900000000<=gr/\gr<=900000000) (hK:K (I6 0) (AO p to (max most to) (gr+(to - cap)) got us::R)):CT 386 #[PO p,I6 to] (AO p cap most gr got us::R) K:=by
 have e:(decide (0<=to) && decide (to<=2147483647))=true:=by simp;omega
 unfold AO at *
 refine aH Tryz.func386 ?_
 repeat' (first|(show cY _ _ _;rw[e])|refine v68 ?_|refine dw AY ?_|refine w5 ?_ ?_|((refine bh fun h=>?_) <;> try exact w6 h)|(refine aE fun hA=>?_;subst hA)|intro _|(show aA _ 169 _ _ _;refine CA (h:=GU ?_)))
 (refine aC ?_;exact aB (hK))
def rT (w st it:Int):Bool:=decide (0<=w/\w<=4096/\0<=st/\st<=32/\0<=it/\it<=64)
theorem Ra {m:Int} (hK:K (.bool (decide (0<=n/\n<=m))) R):CT 260 #[I6 n,I6 m] R K:=by
 refine aH Tryz.func260 ?_
 repeat' (first|refine v1 ?_|refine w5 ?_ ?_|((refine bh fun h=>?_) <;> try exact w6 h)|(refine aE fun hA=>?_;subst hA)|intro _)
 all_goals(refine aC ?_;exact aB (kb hK (by simp <;> omega)))
theorem vO {v:Int} (hv:(if rT w st it=true then 0 else 3)=v) (hK:K (I6 v) R):CT 170 #[.agg #[I6 w,I6 st,I6 it]] R K:=by
 subst hv
 unfold rT at hK
 refine aH Tryz.func170 ?_
 repeat' (first|refine v44 ?_|refine w5 ?_ ?_|((refine bh fun h=>?_) <;> try exact w6 h)|(refine aE fun hA=>?_;subst hA)|intro _|(show aA _ 260 _ _ _;refine CA (h:=Ra ?_)))
 all_goals(refine aC ?_;exact aB (ki hK (by simp only[decide_eq_true_eq];split <;> first|rfl|omega)))
def D5:List (Nat×Nat):= [(0,0),(1,0),(2,0),(3,0),(4,1),(5,1),(6,1),(7,1),(8,1),(9,1),(10,0),(11,0)]
def AM:List (Nat×Nat):= [(0,0),(1,0),(2,0),(3,0),(4,0),(5,0),(6,1),(7,0)]
def RB (cap most gr got us:Int) (bs:List UInt8):Prop:=got=us+bs.length/\0<=us/\cap<=gr/\gr - us<=cap/\0<=cap/\cap<=most/\most<=4096/\(bs.length:Int)<=most/\got<=400000000/\got+cap<=gr+4096
def zO (r:Nat) (cap most gr got us:Int) (bs:List UInt8) (en:Bool):HP:=fB fun g=>fB fun p=>sep (pt r [I6 1,PO g,PO p,.pointer none,.pointer none,I6 0,I6 0,.bool en] 263) (sep (kY g 4096 bs) (sep (AO p cap most gr got us) (bF (RB cap most gr got us bs))))
theorem kZ (h:RB cap most gr got us bs):aG (pt r [I6 1,PO g,PO p,.pointer none,.pointer none,I6 0,I6 0,.bool en] 263::kY g 4096 bs::AO p cap most gr got us::R) (zO r cap most gr got us bs en::R):=
 aG.ex g (aG.ex p (rR h))
theorem oJ (h:∀g p,RB cap most gr got us bs->CT f args (pt r [I6 1,PO g,PO p,.pointer none,.pointer none,I6 0,I6 0,.bool en] 263::kY g 4096 bs::AO p cap most gr got us::R) K):CT f args (zO r cap most gr got us bs en::R) K:=
 aA.ex fun g=>aA.ex fun p=>DX fun hI=>h g p hI
theorem Lj (hs:rT w st it=true) (hK:∀r,K (.tuple #[PO r,I6 0]) (zO r w w w 0 0 [] false::R)):CT 256 #[I6 1,.agg #[I6 w,I6 st,I6 it]] R K:=by
 have hs2:=hs
 unfold rT at hs2
 rw[decide_eq_true_eq] at hs2
 refine aH Tryz.func256 ?_
 repeat' (first|refine Bw ?_|refine w5 ?_ ?_|((refine bh fun h=>?_) <;> try exact w6 h)|(refine aE fun hA=>?_;subst hA)|intro _|(show aA _ 170 _ _ _;refine CA (h:=vO (v:=0) (by rw[if_pos hs]) ?_))|(show aA _ 361 _ _ _;refine CA (h:=V4 (cap:=4096) (by omega) (fun g=>?_)))|(show aA _ 98 _ _ _;refine CA (h:=Qk (by omega) (fun p=>?_))))
 (refine aC ?_;exact aK (aG.trans (by exact aZ) ((kZ ⟨by simp,by omega,by omega,by omega,by omega,by omega,by omega,by simp;omega,by omega⟩))) (hK _))
theorem Aj (hK:K (.bool en) (pt r [I6 1,PO g,PO p,.pointer none,.pointer none,I6 0,I6 0,.bool en] 263::R)):CT 241 #[PO r] (pt r [I6 1,PO g,PO p,.pointer none,.pointer none,I6 0,I6 0,.bool en] 263::R) K:=by
 refine aH Tryz.func241 ?_
 repeat' (first|refine v23 ?_|refine w5 ?_ ?_|((refine bh fun h=>?_) <;> try exact w6 h)|(refine aE fun hA=>?_;subst hA)|intro _)
 (refine aC ?_;exact aB (hK))
theorem AT (hK:K (.bool en) (zO r cap most gr got us bs en::R)):CT 241 #[PO r] (zO r cap most gr got us bs en::R) K:=by
 refine oJ fun g p hT=>?_
 refine aH Tryz.func241 ?_
 repeat' (first|refine v23 ?_|refine w5 ?_ ?_|((refine bh fun h=>?_) <;> try exact w6 h)|(refine aE fun hA=>?_;subst hA)|intro _)
 (refine aC ?_;exact aK (aG.trans (by exact aZ) ((kZ hT))) (hK))
theorem u9 (hK:K (I6 bs.length) (zO r cap most gr got us bs en::R)):CT 64 #[PO r] (zO r cap most gr got us bs en::R) K:=by
 refine oJ fun g p hT=>?_
 have hT':=hT
 obtain⟨h1,h2,h3,h4,h5,h6,h7,h8,h9⟩:=hT'
 refine aH Tryz.func64 ?_
 repeat' (first|refine HA ?_|refine dw D5 ?_|refine w5 ?_ ?_|((refine bh fun h=>?_) <;> try exact w6 h)|(refine aE fun hA=>?_;subst hA)|intro _|(show aA _ 157 _ _ _;refine CA (h:=VK ?_))|(show aA _ 158 _ _ _;refine CA (h:=K7 ?_)))
 rw[show((bs.length:Nat):Int)+0=bs.length by omega]
 (refine aC ?_;exact aK (aG.trans (by exact aZ) ((kZ hT))) (hK))
theorem Vg (hK:K (.bool (en && decide (bs= []))) (zO r cap most gr got us bs en::R)):CT 145 #[PO r] (zO r cap most gr got us bs en::R) K:=by
 cases en
 ·refine aH Tryz.func145 ?_
  repeat' (first|refine v15 ?_|refine w5 ?_ ?_|((refine bh fun h=>?_) <;> try exact w6 h)|(refine aE fun hA=>?_;subst hA)|intro _|(show aA _ 241 _ _ _;refine CA (h:=AT ?_))|(show aA _ 64 _ _ _;refine CA (h:=u9 ?_)))
  (refine aC ?_;exact aB (hK))
 ·refine aH Tryz.func145 ?_
  repeat' (first|refine v15 ?_|refine w5 ?_ ?_|((refine bh fun h=>?_) <;> try exact w6 h)|(refine aE fun hA=>?_;subst hA)|intro _|(show aA _ 241 _ _ _;refine CA (h:=AT ?_))|(show aA _ 64 _ _ _;refine CA (h:=u9 ?_)))
  all_goals(refine aC ?_;exact aB (kb hK (by cases bs <;> simp <;> omega)))
theorem IH (hK:K (I6 (if k=1 then 0 else 13)) (pt r [I6 1,PO g,PO p,.pointer none,.pointer none,I6 0,I6 0,.bool en] 263::R)):CT 239 #[PO r,I6 k] (pt r [I6 1,PO g,PO p,.pointer none,.pointer none,I6 0,I6 0,.bool en] 263::R) K:=by
 by_cases h:k=1
 ·rw[if_pos h] at hK
  refine aH Tryz.func239 ?_
  repeat' (first|refine v29 ?_|refine w5 ?_ ?_|((refine bh fun h=>?_) <;> try exact w6 h)|(refine aE fun hA=>?_;subst hA)|intro _)
  all_goals(refine aC ?_;exact aB (hK))
 ·rw[if_neg h] at hK
  refine aH Tryz.func239 ?_
  repeat' (first|refine v29 ?_|refine w5 ?_ ?_|((refine bh fun h=>?_) <;> try exact w6 h)|(refine aE fun hA=>?_;subst hA)|intro _)
  all_goals(refine aC ?_;exact aB (hK))
theorem TQ (hK:K (.tuple #[.string ⟨#[]⟩,.bool false,I6 13]) (zO r cap most gr got us bs en::R)):CT 247 #[PO r] (zO r cap most gr got us bs en::R) K:=by
 refine oJ fun g p hT=>?_
 refine aH Tryz.func247 ?_
 repeat' (first|refine Ku ?_|refine w5 ?_ ?_|((refine bh fun h=>?_) <;> try exact w6 h)|(refine aE fun hA=>?_;subst hA)|intro _|(show aA _ 239 _ _ _;refine CA (h:=IH ?_)))
 (refine aC ?_;exact aK (aG.trans (by exact aZ) ((kZ hT))) (hK))
theorem YO (hK:K (I6 13) (zO r cap most gr got us bs en::R)):CT 248 #[PO r,I6 n] (zO r cap most gr got us bs en::R) K:=by
 refine oJ fun g p hT=>?_
 refine aH Tryz.func248 ?_
 repeat' (first|refine Ku ?_|refine w5 ?_ ?_|((refine bh fun h=>?_) <;> try exact w6 h)|(refine aE fun hA=>?_;subst hA)|intro _|(show aA _ 239 _ _ _;refine CA (h:=IH ?_)))
 (refine aC ?_;exact aK (aG.trans (by exact aZ) ((kZ hT))) (hK))
theorem Kb (hT:RB cap most gr got us bs) (hK:K (I6 (rJ cap gr us)) (pt r [I6 1,PO g,PO p,.pointer none,.pointer none,I6 0,I6 0,.bool en] 263::AO p cap most gr got us::R)):CT 272 #[PO r] (pt r [I6 1,PO g,PO p,.pointer none,.pointer none,I6 0,I6 0,.bool en] 263::AO p cap most gr got us::R) K:=by
 obtain⟨h1,h2,h3,h4,h5,h6,h7,h8,h9⟩:=hT
 refine aH Tryz.func272 ?_
 repeat' (first|refine v47 ?_|refine w5 ?_ ?_|((refine bh fun h=>?_) <;> try exact w6 h)|(refine aE fun hA=>?_;subst hA)|intro _|(show aA _ 271 _ _ _;refine CA (h:=Po (by omega) (by omega) ?_)))
 (refine aC ?_;exact aB (hK))
theorem Ad8 (hT:RB cap most gr got us bs):RB cap most (gr+rJ cap gr us) got us bs:=by
 obtain⟨h1,h2,h3,h4,h5,h6,h7,h8,h9⟩:=hT
 have:0<=rJ cap gr us/\gr+rJ cap gr us - us<=cap:=by unfold rJ;split <;> omega
 exact⟨h1,h2,by omega,by omega,h5,h6,h7,h8,by omega⟩
theorem Sw (hK:K (I6 (rJ cap gr us)) (zO r cap most (gr+rJ cap gr us) got us bs en::R)):CT 187 #[PO r] (zO r cap most gr got us bs en::R) K:=by
 refine oJ fun g p hT=>?_
 have hw:=Ad8 hT
 have hT':=hT
 obtain⟨h1,h2,h3,h4,h5,h6,h7,h8,h9⟩:=hT'
 by_cases h0:rJ cap gr us=0
 ·rw[h0,Int.add_zero] at hK
  refine aH Tryz.func187 ?_
  repeat' (first|refine HA ?_|refine w5 ?_ ?_|((refine bh fun h=>?_) <;> try exact w6 h)|(refine aE fun hA=>?_;subst hA)|intro _|(show aA _ 272 _ _ _;refine CA (h:=Kb hT ?_)))
  (refine aC ?_;exact aK (aG.trans (by exact aZ) ((kZ hT))) (hK))
 ·refine aH Tryz.func187 ?_
  repeat' (first|refine HA ?_|refine w5 ?_ ?_|((refine bh fun h=>?_) <;> try exact w6 h)|(refine aE fun hA=>?_;subst hA)|intro _|(show aA _ 272 _ _ _;refine CA (h:=Kb hT ?_))|(show aA _ 185 _ _ _;refine CA (h:=Ko (by omega) (by omega) ?_)))
  (refine aC ?_;exact aK (aG.trans (by exact aZ) ((kZ hw))) (hK))
theorem Nk (hs:rT w st it=true) (hK:K (I6 0) (zO r w (max most w) (gr+(w - cap)) got us bs en::R)):CT 297 #[PO r,.agg #[I6 w,I6 st,I6 it]] (zO r cap most gr got us bs en::R) K:=by
 refine oJ fun g p hT=>?_
 obtain⟨h1,h2,h3,h4,h5,h6,h7,h8,h9⟩:=hT
 have hs2:=hs
 unfold rT at hs2
 rw[decide_eq_true_eq] at hs2
 have hw:RB w (max most w) (gr+(w - cap)) got us bs:=⟨h1,h2,by omega,by omega,by omega,by omega,by omega,by omega,by omega⟩
 refine aH Tryz.func297 ?_
 repeat' (first|refine Bw ?_|refine dw AM ?_|refine w5 ?_ ?_|((refine bh fun h=>?_) <;> try exact w6 h)|(refine aE fun hA=>?_;subst hA)|intro _|(show aA _ 170 _ _ _;refine CA (h:=vO (v:=0) (by rw[if_pos hs]) ?_))|(show aA _ 386 _ _ _;refine CA (h:=QD (by omega) (by omega) (by omega) ?_)))
 (refine aC ?_;exact aK (aG.trans (by exact aZ) ((kZ hw))) (hK))
theorem KW (he:en=true) (hK:K (.tuple #[I6 7,.bool false]) (zO r cap most gr got us bs en::R)):CT 389 #[PO r,.string s,.bool e] (zO r cap most gr got us bs en::R) K:=by
 subst he
 refine aH Tryz.func389 ?_
 repeat' (first|refine N7 ?_|refine w5 ?_ ?_|((refine bh fun h=>?_) <;> try exact w6 h)|(refine aE fun hA=>?_;subst hA)|intro _|(show aA _ 241 _ _ _;refine CA (h:=AT ?_)))
 (refine aC ?_;exact aB (hK))
theorem KN (he:en=false) (hs:max (gr - got) 0<s.size) (hK:K (.tuple #[I6 8,.bool false]) (zO r cap most gr got us bs en::R)):CT 389 #[PO r,.string s,.bool e] (zO r cap most gr got us bs en::R) K:=by
 subst he
 refine oJ fun g p hT=>?_
 have hT':=hT
 obtain⟨h1,h2,h3,h4,h5,h6,h7,h8,h9⟩:=hT'
 refine aH Tryz.func389 ?_
 repeat' (first|refine N7 ?_|refine w5 ?_ ?_|((refine bh fun h=>?_) <;> try exact w6 h)|(refine aE fun hA=>?_;subst hA)|intro _|(show aA _ 241 _ _ _;refine CA (h:=Aj ?_))|(show aA _ 305 _ _ _;refine CA (h:=LM hs (by omega) ?_)))
 (refine aC ?_;exact aK (aG.trans (by exact aZ) ((kZ hT))) (hK))
theorem EO (he:en=false) (hs:s.size<=max (gr - got) 0) (hb:got+s.size<=400000000) (hK:K (.tuple #[I6 0,.bool true]) (zO r cap most gr (got+s.size) us (bs++s.data.toList) e::R)):CT 389 #[PO r,.string s,.bool e] (zO r cap most gr got us bs en::R) K:=by
 subst he
 refine oJ fun g p hT=>?_
 obtain⟨h1,h2,h3,h4,h5,h6,h7,h8,h9⟩:=hT
 have hsl:s.data.toList.length=s.size:=by simp
 have hw:RB cap most gr (got+s.size) us (bs++s.data.toList):=⟨by rw[List.length_append,hsl];omega,h2,h3,h4,h5,h6,h7,by rw[List.length_append,hsl];omega,hb,by omega⟩
 by_cases h0:s.size=0
 ·have e0:s.data.toList= []:=List.length_eq_zero_iff.1 (by omega)
  rw[e0,List.append_nil] at hw hK
  refine aH Tryz.func389 ?_
  repeat' (first|refine N7 ?_|refine w5 ?_ ?_|((refine bh fun h=>?_) <;> try exact w6 h)|(refine aE fun hA=>?_;subst hA)|intro _|(show aA _ 241 _ _ _;refine CA (h:=Aj ?_))|(show aA _ 305 _ _ _;refine CA (h:=Ke (by omega) (by omega) ?_))|(show aA _ 344 _ _ _;refine CA (h:=Jg (by omega) (.inl h0) ?_)))
  (refine aC ?_;exact aK (aG.trans (by exact aZ) ((kZ hw))) (hK))
 ·have et:s.data.toList.take s.size=s.data.toList:=List.take_of_length_le (by omega)
  refine aH Tryz.func389 ?_
  repeat' (first|refine N7 ?_|refine w5 ?_ ?_|((refine bh fun h=>?_) <;> try exact w6 h)|(refine aE fun hA=>?_;subst hA)|intro _|(show aA _ 241 _ _ _;refine CA (h:=Aj ?_))|(show aA _ 305 _ _ _;refine CA (h:=Ke (by omega) (by omega) ?_))|(show aA _ 344 _ _ _;refine CA (h:=L0 (n:=s.size) (by omega) (by omega) (by omega) ?_)))
  rw[et]
  (refine aC ?_;exact aK (aG.trans (by exact aZ) ((kZ hw))) (hK))
theorem T9 {kk:Nat} (hk:(kk:Int)=max (min n bs.length) 0) (hK:K (.tuple #[.string ⟨(bs.take kk).toArray⟩,I6 0]) (zO r cap most gr got (us+kk) (bs.drop kk) en::R)):CT 143 #[PO r,I6 n] (zO r cap most gr got us bs en::R) K:=by
 refine oJ fun g p hT=>?_
 obtain⟨h1,h2,h3,h4,h5,h6,h7,h8,h9⟩:=hT
 have hs:(ByteArray.mk (bs.take kk).toArray).size=kk:=by simp[xC];omega
 have hw:RB cap most gr got (us+kk) (bs.drop kk):=⟨by rw[List.length_drop];omega,by omega,h3,by omega,h5,h6,h7,by rw[List.length_drop];omega,h9⟩
 refine aH Tryz.func143 ?_
 repeat' (first|refine Ku ?_|refine w5 ?_ ?_|((refine bh fun h=>?_) <;> try exact w6 h)|(refine aE fun hA=>?_;subst hA)|intro _|(show aA _ 239 _ _ _;refine CA (h:=IH ?_))|(show aA _ 240 _ _ _;refine CA (h:=GP (kk:=kk) (by omega) hk ?_))|(show aA _ 144 _ _ _;refine CA (h:=JL (by rw[hs];omega) (by omega) ?_)))
 rw[hs]
 (refine aC ?_;exact aK (aG.trans (by exact aZ) ((kZ hw))) (hK))
theorem GV (hK:K (I6 bs.length) (zO r cap most gr got (us+bs.length) [] en::R)):CT 359 #[PO r] (zO r cap most gr got us bs en::R) K:=by
 refine oJ fun g p hT=>?_
 obtain⟨h1,h2,h3,h4,h5,h6,h7,h8,h9⟩:=hT
 have hw:RB cap most gr got (us+bs.length) []:=⟨by simp;omega,by omega,h3,by omega,h5,h6,h7,by simp;omega,h9⟩
 refine aH Tryz.func359 ?_
 repeat' (first|refine HA ?_|refine w5 ?_ ?_|((refine bh fun h=>?_) <;> try exact w6 h)|(refine aE fun hA=>?_;subst hA)|intro _|(show aA _ 426 _ _ _;refine CA (h:=Ma (by omega) ?_))|(show aA _ 144 _ _ _;refine CA (h:=JL (by omega) (by omega) ?_))|(show aA _ 427 _ _ _;refine CA (h:=G4 ?_)))
 rw[show((bs.length:Nat):Int)+0=bs.length by omega]
 (refine aC ?_;exact aK (aG.trans (by exact aZ) ((kZ hw))) (hK))
def RI (mr room open_ ask:Int) (l:List ByteArray) (ac tk dr:Int):Prop:=ac=tk+dr+l.length/\0<=tk/\0<=dr/\ac<=400000000/\0<=open_/\open_+l.length<=mr/\0<=room/\room<=mr/\mr<=64/\0<=ask/\ask<=2147483647
def wH (r:Nat) (mr room open_ ask:Int) (l:List ByteArray) (ac tk dr:Int) (en:Bool):HP:=fB fun q=>fB fun d=>sep (pt r [I6 2,.pointer none,.pointer none,PO q,PO d,I6 room,I6 open_,.bool en] 263) (sep (yL q 64 0 l ac tk dr) (sep (rE d ask 2147483647) (bF (RI mr room open_ ask l ac tk dr))))
theorem iE (h:RI mr room open_ ask l ac tk dr):aG (pt r [I6 2,.pointer none,.pointer none,PO q,PO d,I6 room,I6 open_,.bool en] 263::yL q 64 0 l ac tk dr::rE d ask 2147483647::R) (wH r mr room open_ ask l ac tk dr en::R):=
 aG.ex q (aG.ex d (rR h))
theorem kX (h:∀q d,RI mr room open_ ask l ac tk dr->CT f args (pt r [I6 2,.pointer none,.pointer none,PO q,PO d,I6 room,I6 open_,.bool en] 263::yL q 64 0 l ac tk dr::rE d ask 2147483647::R) K):CT f args (wH r mr room open_ ask l ac tk dr en::R) K:=
 aA.ex fun q=>aA.ex fun d=>DX fun hI=>h q d hI
theorem Le (hs:rT w st it=true) (hK:∀r,K (.tuple #[PO r,I6 0]) (wH r it it 0 0 [] 0 0 0 false::R)):CT 256 #[I6 2,.agg #[I6 w,I6 st,I6 it]] R K:=by
 have hs2:=hs
 unfold rT at hs2
 rw[decide_eq_true_eq] at hs2
 refine aH Tryz.func256 ?_
 repeat' (first|refine Bw ?_|refine w5 ?_ ?_|((refine bh fun h=>?_) <;> try exact w6 h)|(refine aE fun hA=>?_;subst hA)|intro _|(show aA _ 170 _ _ _;refine CA (h:=vO (v:=0) (by rw[if_pos hs]) ?_))|(show aA _ 362 _ _ _;refine CA (h:=Q2 (by omega) (by omega) (fun q=>?_)))|(show aA _ 363 _ _ _;refine CA (h:=WA (by omega) (fun d=>?_))))
 (refine aC ?_;exact aK (aG.trans (by exact aZ) ((iE ⟨by simp,by omega,by omega,by omega,by omega,by simp;omega,by omega,by omega,by omega,by omega,by omega⟩))) (hK _))
theorem qX (hK:K (.bool en) (pt r [I6 2,.pointer none,.pointer none,PO q,PO d,I6 room,I6 open_,.bool en] 263::R)):CT 241 #[PO r] (pt r [I6 2,.pointer none,.pointer none,PO q,PO d,I6 room,I6 open_,.bool en] 263::R) K:=by
 refine aH Tryz.func241 ?_
 repeat' (first|refine v23 ?_|refine w5 ?_ ?_|((refine bh fun h=>?_) <;> try exact w6 h)|(refine aE fun hA=>?_;subst hA)|intro _)
 (refine aC ?_;exact aB (hK))
theorem A8 (hK:K (.bool en) (wH r mr room open_ ask l ac tk dr en::R)):CT 241 #[PO r] (wH r mr room open_ ask l ac tk dr en::R) K:=by
 refine kX fun q d hT=>?_
 refine aH Tryz.func241 ?_
 repeat' (first|refine v23 ?_|refine w5 ?_ ?_|((refine bh fun h=>?_) <;> try exact w6 h)|(refine aE fun hA=>?_;subst hA)|intro _)
 (refine aC ?_;exact aK (aG.trans (by exact aZ) ((iE hT))) (hK))
def De:List (Nat×Nat):= [(0,0),(1,0),(2,0),(3,0),(4,1),(5,1),(6,1),(7,1),(8,1),(9,1),(10,0),(11,0)]
theorem vZ (hK:K (I6 l.length) (wH r mr room open_ ask l ac tk dr en::R)):CT 64 #[PO r] (wH r mr room open_ ask l ac tk dr en::R) K:=by
 refine kX fun q d hT=>?_
 have hT':=hT
 obtain⟨h1,h2,h3,h4,h5,h6,h7,h8,h9,h10,h11⟩:=hT'
 refine aH Tryz.func64 ?_
 repeat' (first|refine HA ?_|refine dw De ?_|refine w5 ?_ ?_|((refine bh fun h=>?_) <;> try exact w6 h)|(refine aE fun hA=>?_;subst hA)|intro _|(show aA _ 157 _ _ _;refine CA (h:=Jp ?_))|(show aA _ 158 _ _ _;refine CA (h:=II ?_)))
 rw[show(0:Int)+((l.length:Nat):Int)=l.length by omega]
 (refine aC ?_;exact aK (aG.trans (by exact aZ) ((iE hT))) (hK))
theorem S5 (hK:K (.bool (en && decide (l= []))) (wH r mr room open_ ask l ac tk dr en::R)):CT 145 #[PO r] (wH r mr room open_ ask l ac tk dr en::R) K:=by
 cases en
 ·refine aH Tryz.func145 ?_
  repeat' (first|refine v15 ?_|refine w5 ?_ ?_|((refine bh fun h=>?_) <;> try exact w6 h)|(refine aE fun hA=>?_;subst hA)|intro _|(show aA _ 241 _ _ _;refine CA (h:=A8 ?_))|(show aA _ 64 _ _ _;refine CA (h:=vZ ?_)))
  (refine aC ?_;exact aB (hK))
 ·refine aH Tryz.func145 ?_
  repeat' (first|refine v15 ?_|refine w5 ?_ ?_|((refine bh fun h=>?_) <;> try exact w6 h)|(refine aE fun hA=>?_;subst hA)|intro _|(show aA _ 241 _ _ _;refine CA (h:=A8 ?_))|(show aA _ 64 _ _ _;refine CA (h:=vZ ?_)))
  all_goals(refine aC ?_;exact aB (kb hK (by cases l <;> simp <;> omega)))
theorem BX (hK:K (I6 (if k=2 then 0 else 13)) (pt r [I6 2,.pointer none,.pointer none,PO q,PO d,I6 room,I6 open_,.bool en] 263::R)):CT 239 #[PO r,I6 k] (pt r [I6 2,.pointer none,.pointer none,PO q,PO d,I6 room,I6 open_,.bool en] 263::R) K:=by
 by_cases h:k=2
 ·rw[if_pos h] at hK
  refine aH Tryz.func239 ?_
  repeat' (first|refine v29 ?_|refine w5 ?_ ?_|((refine bh fun h=>?_) <;> try exact w6 h)|(refine aE fun hA=>?_;subst hA)|intro _)
  all_goals(refine aC ?_;exact aB (hK))
 ·rw[if_neg h] at hK
  refine aH Tryz.func239 ?_
  repeat' (first|refine v29 ?_|refine w5 ?_ ?_|((refine bh fun h=>?_) <;> try exact w6 h)|(refine aE fun hA=>?_;subst hA)|intro _)
  all_goals(refine aC ?_;exact aB (hK))
theorem UR (hK:K (.tuple #[.string ⟨#[]⟩,I6 13]) (wH r mr room open_ ask l ac tk dr en::R)):CT 143 #[PO r,I6 n] (wH r mr room open_ ask l ac tk dr en::R) K:=by
 refine kX fun q d hT=>?_
 refine aH Tryz.func143 ?_
 repeat' (first|refine Ku ?_|refine w5 ?_ ?_|((refine bh fun h=>?_) <;> try exact w6 h)|(refine aE fun hA=>?_;subst hA)|intro _|(show aA _ 239 _ _ _;refine CA (h:=BX ?_)))
 (refine aC ?_;exact aK (aG.trans (by exact aZ) ((iE hT))) (hK))
theorem Qe (hK:K (.tuple #[.string ⟨#[]⟩,.bool false,I6 0]) (wH r mr room open_ ask [] ac tk dr en::R)):CT 247 #[PO r] (wH r mr room open_ ask [] ac tk dr en::R) K:=by
 refine kX fun q d hT=>?_
 refine aH Tryz.func247 ?_
 repeat' (first|refine Ku ?_|refine w5 ?_ ?_|((refine bh fun h=>?_) <;> try exact w6 h)|(refine aE fun hA=>?_;subst hA)|intro _|(show aA _ 239 _ _ _;refine CA (h:=BX ?_))|(show aA _ 354 _ _ _;refine CA (h:=Jb ?_)))
 (refine aC ?_;exact aK (aG.trans (by exact aZ) ((iE hT))) (hK))
theorem UN (hK:K (.tuple #[.string s,.bool true,I6 0]) (wH r mr room open_ ask l ac (tk+1) dr en::R)):CT 247 #[PO r] (wH r mr room open_ ask (s::l) ac tk dr en::R) K:=by
 refine kX fun q d hT=>?_
 obtain⟨h1,h2,h3,h4,h5,h6,h7,h8,h9,h10,h11⟩:=hT
 have hl:(s::l).length=l.length+1:=rfl
 have hw:RI mr room open_ ask l ac (tk+1) dr:=⟨by omega,by omega,h3,h4,h5,by omega,h7,h8,h9,h10,h11⟩
 refine aH Tryz.func247 ?_
 repeat' (first|refine Ku ?_|refine w5 ?_ ?_|((refine bh fun h=>?_) <;> try exact w6 h)|(refine aE fun hA=>?_;subst hA)|intro _|(show aA _ 239 _ _ _;refine CA (h:=BX ?_))|(show aA _ 354 _ _ _;refine CA (h:=Me (by omega) (by omega) ?_)))
 (refine aC ?_;exact aK (aG.trans (by exact aZ) ((iE hw))) (hK))
theorem XU (h:1<=n) (hK:K (I6 0) (wH r mr room open_ (ask+min n (2147483647 - ask)) l ac tk dr en::R)):CT 248 #[PO r,I6 n] (wH r mr room open_ ask l ac tk dr en::R) K:=by
 refine kX fun q d hT=>?_
 obtain⟨h1,h2,h3,h4,h5,h6,h7,h8,h9,h10,h11⟩:=hT
 have hw:RI mr room open_ (ask+min n (2147483647 - ask)) l ac tk dr:=⟨h1,h2,h3,h4,h5,h6,h7,h8,h9,by omega,by omega⟩
 refine aH Tryz.func248 ?_
 repeat' (first|refine Ku ?_|refine w5 ?_ ?_|((refine bh fun h=>?_) <;> try exact w6 h)|(refine aE fun hA=>?_;subst hA)|intro _|(show aA _ 239 _ _ _;refine CA (h:=BX ?_))|(show aA _ 355 _ _ _;refine CA (h:=Wl h ⟨h10,h11⟩ (by omega) ?_)))
 (refine aC ?_;exact aK (aG.trans (by exact aZ) ((iE hw))) (hK))
theorem TR (h:n<1) (hK:K (I6 2) (wH r mr room open_ ask l ac tk dr en::R)):CT 248 #[PO r,I6 n] (wH r mr room open_ ask l ac tk dr en::R) K:=by
 refine kX fun q d hT=>?_
 refine aH Tryz.func248 ?_
 repeat' (first|refine Ku ?_|refine w5 ?_ ?_|((refine bh fun h=>?_) <;> try exact w6 h)|(refine aE fun hA=>?_;subst hA)|intro _|(show aA _ 239 _ _ _;refine CA (h:=BX ?_))|(show aA _ 355 _ _ _;refine CA (h:=Sa (by simp) h ?_)))
 (refine aC ?_;exact aK (aG.trans (by exact aZ) ((iE hT))) (hK))
def xO (room open_ ask:Int) (l:List ByteArray):Int:=max (min ask (room - open_ - l.length)) 0
def CQ:List Nat:= [0,1,3,7,15,0,32,96,224,0,512,1536,3584,8160,0,16384,49152,114688,245791,524287,1048575,2097151,4194303]
def CP:List Nat:= [4194303,2097151,1048575,524287,245791,114688,49152,16384,0,8160,3584,1536,512,0,224,96,32,0,15,7,3,1,0]
def CS:List (Nat×Nat):= [(0,0),(1,0),(2,0),(3,0),(4,1),(14,1),(15,1),(16,1),(17,1),(18,1),(5,2),(6,2),(7,2),(8,2),(9,2),(10,2),(11,2),(12,2),(13,2),(19,0),(20,0),(21,0),(22,0)]
theorem UX (hT:RI mr room open_ ask l ac tk dr) (hK:K (I6 (xO room open_ ask l)) (pt r2 [PO r] 126::pt r [I6 2,.pointer none,.pointer none,PO q,PO d,I6 room,I6 open_,.bool en] 263::yL q 64 0 l ac tk dr::rE d ask 2147483647::R)):CT 371 #[PO r2] (pt r2 [PO r] 126::pt r [I6 2,.pointer none,.pointer none,PO q,PO d,I6 room,I6 open_,.bool en] 263::yL q 64 0 l ac tk dr::rE d ask 2147483647::R) K:=by
 obtain⟨h1,h2,h3,h4,h5,h6,h7,h8,h9,h10,h11⟩:=hT
 unfold xO at hK
 refine aH Tryz.func371 ?_
 repeat' (first|refine v67 ?_|refine R6 CQ CP CS ?_|refine w5 ?_ ?_|((refine bh fun h=>?_) <;> try exact w6 h)|(refine aE fun hA=>?_;subst hA)|intro _|(show aA _ 372 _ _ _;refine CA (h:=Qy ?_))|(show aA _ 158 _ _ _;refine CA (h:=II ?_)))
 (refine aC ?_;exact aB (hK))
theorem Iq (hT:RI mr room open_ ask l ac tk dr) (hK:K (I6 (xO room open_ ask l)) (pt r [I6 2,.pointer none,.pointer none,PO q,PO d,I6 room,I6 open_,.bool en] 263::yL q 64 0 l ac tk dr::rE d ask 2147483647::R)):CT 272 #[PO r] (pt r [I6 2,.pointer none,.pointer none,PO q,PO d,I6 room,I6 open_,.bool en] 263::yL q 64 0 l ac tk dr::rE d ask 2147483647::R) K:=by
 refine aH Tryz.func272 ?_
 repeat' (first|refine v47 ?_|refine w5 ?_ ?_|((refine bh fun h=>?_) <;> try exact w6 h)|(refine aE fun hA=>?_;subst hA)|intro _|(show aA _ 371 _ _ _;refine CA (h:=UX hT ?_)))
 (refine aC ?_;exact aB (hK))
theorem RQ (hK:K (I6 (xO room open_ ask l)) (wH r mr room (open_+xO room open_ ask l) (ask - xO room open_ ask l) l ac tk dr en::R)):CT 187 #[PO r] (wH r mr room open_ ask l ac tk dr en::R) K:=by
 refine kX fun q d hT=>?_
 have hT':=hT
 obtain⟨h1,h2,h3,h4,h5,h6,h7,h8,h9,h10,h11⟩:=hT'
 have hd:0<=xO room open_ ask l/\xO room open_ ask l<=ask/\(xO room open_ ask l=0\/open_+xO room open_ ask l+l.length<=room):=by unfold xO;omega
 have hw:RI mr room (open_+xO room open_ ask l) (ask - xO room open_ ask l) l ac tk dr:=⟨h1,h2,h3,h4,by omega,by omega,h7,h8,h9,by omega,by omega⟩
 by_cases h0:xO room open_ ask l=0
 ·rw[h0,Int.add_zero,Int.sub_zero] at hK
  refine aH Tryz.func187 ?_
  repeat' (first|refine HA ?_|refine w5 ?_ ?_|((refine bh fun h=>?_) <;> try exact w6 h)|(refine aE fun hA=>?_;subst hA)|intro _|(show aA _ 272 _ _ _;refine CA (h:=Iq hT ?_)))
  (refine aC ?_;exact aK (aG.trans (by exact aZ) ((iE hT))) (hK))
 ·refine aH Tryz.func187 ?_
  repeat' (first|refine HA ?_|refine w5 ?_ ?_|((refine bh fun h=>?_) <;> try exact w6 h)|(refine aE fun hA=>?_;subst hA)|intro _|(show aA _ 272 _ _ _;refine CA (h:=Iq hT ?_))|(show aA _ 273 _ _ _;refine CA (h:=Pi (by omega) (by omega) (by omega) ?_)))
  (refine aC ?_;exact aK (aG.trans (by exact aZ) ((iE hw))) (hK))
def AK:List (Nat×Nat):= [(0,0),(1,0),(2,0),(3,0),(4,0),(5,0),(6,1),(7,0)]
theorem Oy (hs:rT w st it=true) (hK:K (I6 0) (wH r (max mr it) it open_ ask l ac tk dr en::R)):CT 297 #[PO r,.agg #[I6 w,I6 st,I6 it]] (wH r mr room open_ ask l ac tk dr en::R) K:=by
 refine kX fun q d hT=>?_
 obtain⟨h1,h2,h3,h4,h5,h6,h7,h8,h9,h10,h11⟩:=hT
 have hs2:=hs
 unfold rT at hs2
 rw[decide_eq_true_eq] at hs2
 have hw:RI (max mr it) it open_ ask l ac tk dr:=⟨h1,h2,h3,h4,h5,by omega,by omega,by omega,by omega,h10,h11⟩
 refine aH Tryz.func297 ?_
 repeat' (first|refine Bw ?_|refine dw AK ?_|refine w5 ?_ ?_|((refine bh fun h=>?_) <;> try exact w6 h)|(refine aE fun hA=>?_;subst hA)|intro _|(show aA _ 170 _ _ _;refine CA (h:=vO (v:=0) (by rw[if_pos hs]) ?_)))
 (refine aC ?_;exact aK (aG.trans (by exact aZ) ((iE hw))) (hK))
theorem KO (he:en=true) (hK:K (.tuple #[I6 7,.bool false]) (wH r mr room open_ ask l ac tk dr en::R)):CT 389 #[PO r,.string s,.bool e] (wH r mr room open_ ask l ac tk dr en::R) K:=by
 subst he
 refine aH Tryz.func389 ?_
 repeat' (first|refine N7 ?_|refine w5 ?_ ?_|((refine bh fun h=>?_) <;> try exact w6 h)|(refine aE fun hA=>?_;subst hA)|intro _|(show aA _ 241 _ _ _;refine CA (h:=A8 ?_)))
 (refine aC ?_;exact aB (hK))
theorem UI (h:s≠⟨#[]⟩):(!(s.toList == (ByteArray.mk #[]).toList))=true:=by
 rw[Bool.not_eq_true',beq_eq_false_iff_ne]
 intro e
 apply h
 rw[ByteArray.toList_eq,ByteArray.toList_eq] at e
 exact ByteArray.ext (Array.toList_inj.1 e)
theorem KX (he:en=false) (hs:s≠⟨#[]⟩\/e=false) (ho:open_<1) (hK:K (.tuple #[I6 10,.bool false]) (wH r mr room open_ ask l ac tk dr en::R)):CT 389 #[PO r,.string s,.bool e] (wH r mr room open_ ask l ac tk dr en::R) K:=by
 subst he
 refine kX fun q d hT=>?_
 by_cases h0:s=⟨#[]⟩
 ·subst h0
  rcases hs with h|rfl
  ·exact absurd rfl h
  ·refine aH Tryz.func389 ?_
   repeat' (first|refine N7 ?_|refine w5 ?_ ?_|((refine bh fun h=>?_) <;> try exact w6 h)|(refine aE fun hA=>?_;subst hA)|intro _|(show aA _ 241 _ _ _;refine CA (h:=qX ?_)))
   (refine aC ?_;exact aK (aG.trans (by exact aZ) ((iE hT))) (hK))
 ·have hb:=UI h0
  refine aH Tryz.func389 ?_
  repeat' (first|(show Br _ _ _;refine Br.t hb ?_)|refine N7 ?_|refine w5 ?_ ?_|((refine bh fun h=>?_) <;> try exact w6 h)|(refine aE fun hA=>?_;subst hA)|intro _|(show aA _ 241 _ _ _;refine CA (h:=qX ?_)))
  (refine aC ?_;exact aK (aG.trans (by exact aZ) ((iE hT))) (hK))
theorem KU (he:en=false) (hK:K (.tuple #[I6 0,.bool true]) (wH r mr room open_ ask l ac tk dr true::R)):CT 389 #[PO r,.string ⟨#[]⟩,.bool true] (wH r mr room open_ ask l ac tk dr en::R) K:=by
 subst he
 refine kX fun q d hT=>?_
 refine aH Tryz.func389 ?_
 repeat' (first|refine N7 ?_|refine w5 ?_ ?_|((refine bh fun h=>?_) <;> try exact w6 h)|(refine aE fun hA=>?_;subst hA)|intro _|(show aA _ 241 _ _ _;refine CA (h:=qX ?_)))
 (refine aC ?_;exact aK (aG.trans (by exact aZ) ((iE hT))) (hK))
theorem EM (he:en=false) (hs:s≠⟨#[]⟩\/e=false) (ho:1<=open_) (hb:ac<=300000000) (hK:K (.tuple #[I6 0,.bool true]) (wH r mr room (open_ - 1) ask (l++ [s]) (ac+1) tk dr e::R)):CT 389 #[PO r,.string s,.bool e] (wH r mr room open_ ask l ac tk dr en::R) K:=by
 subst he
 refine kX fun q d hT=>?_
 obtain⟨h1,h2,h3,h4,h5,h6,h7,h8,h9,h10,h11⟩:=hT
 have hw:RI mr room (open_ - 1) ask (l++ [s]) (ac+1) tk dr:=⟨by simp;omega,h2,h3,by omega,by omega,by simp;omega,h7,h8,h9,h10,h11⟩
 by_cases h0:s=⟨#[]⟩
 ·subst h0
  rcases hs with h|rfl
  ·exact absurd rfl h
  ·refine aH Tryz.func389 ?_
   repeat' (first|refine N7 ?_|refine w5 ?_ ?_|((refine bh fun h=>?_) <;> try exact w6 h)|(refine aE fun hA=>?_;subst hA)|intro _|(show aA _ 241 _ _ _;refine CA (h:=qX ?_))|(show aA _ 345 _ _ _;refine CA (h:=Gp (by omega) (by omega) (by omega) ?_)))
   (refine aC ?_;exact aK (aG.trans (by exact aZ) ((iE hw))) (hK))
 ·have hb:=UI h0
  refine aH Tryz.func389 ?_
  repeat' (first|(show Br _ _ _;refine Br.t hb ?_)|refine N7 ?_|refine w5 ?_ ?_|((refine bh fun h=>?_) <;> try exact w6 h)|(refine aE fun hA=>?_;subst hA)|intro _|(show aA _ 241 _ _ _;refine CA (h:=qX ?_))|(show aA _ 345 _ _ _;refine CA (h:=Gp (by omega) (by omega) (by omega) ?_)))
  (refine aC ?_;exact aK (aG.trans (by exact aZ) ((iE hw))) (hK))
theorem G6 (hK:K (I6 l.length) (wH r mr room open_ ask [] ac tk (dr+l.length) en::R)):CT 359 #[PO r] (wH r mr room open_ ask l ac tk dr en::R) K:=by
 refine kX fun q d hT=>?_
 obtain⟨h1,h2,h3,h4,h5,h6,h7,h8,h9,h10,h11⟩:=hT
 have hw:RI mr room open_ ask [] ac tk (dr+l.length):=⟨by simp;omega,h2,by omega,h4,h5,by simp;omega,h7,h8,h9,h10,h11⟩
 refine aH Tryz.func359 ?_
 repeat' (first|refine HA ?_|refine w5 ?_ ?_|((refine bh fun h=>?_) <;> try exact w6 h)|(refine aE fun hA=>?_;subst hA)|intro _|(show aA _ 426 _ _ _;refine CA (h:=Iz ?_))|(show aA _ 144 _ _ _;refine CA (h:=ZF ?_))|(show aA _ 427 _ _ _;refine CA (h:=J3 (by omega) (by omega) ?_)))
 rw[show(0:Int)+((l.length:Nat):Int)=l.length by omega]
 (refine aC ?_;exact aK (aG.trans (by exact aZ) ((iE hw))) (hK))
end Go.Proofs.YtepnmcipkangkaaGreat
