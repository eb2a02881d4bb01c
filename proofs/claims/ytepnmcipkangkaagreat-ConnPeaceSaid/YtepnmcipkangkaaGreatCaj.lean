/- A part of the proof: lemmas; each with the conditions that it states. -/
import Derived.Test.YtepnmcipkangkaaGreatCai
set_option linter.unusedVariables false
set_option linter.unusedSimpArgs false
set_option maxRecDepth 100000
set_option maxHeartbeats 40000000
namespace Go.Proofs.YtepnmcipkangkaaGreat
open Go Go.Proofs Go.Sl
attribute [local irreducible] aN fL cL bM aL aR aA dJ dK aU dI pt ro fC star sep bF
variable {R C:List HP} {K:KP} {n cap most gr got us k w st it mr room open_ ask ac tk dr:Int} {p r2 r g q d:Nat} {bs:List UInt8} {en e:Bool} {s:ByteArray} {f:FuncId} {args:Array Value} {l:List ByteArray}
def y9 (p:Nat) (cap most gr got us:Int):HP:=pt p [I6 cap,I6 most,I6 gr,I6 got,I6 us] 141
theorem GU (hK:K (.bool (decide (0<=n) && decide (n<=2147483647))) R):CT 169 #[I6 n] R K:=by
 refine aH Tryz.func169 ?_
 repeat' (first|refine v1 ?_|refine w5 ?_ ?_|((refine bh fun h=>?_) <;> try exact w6 h)|(refine aE fun hA=>?_;subst hA)|intro _)
 all_goals(refine aC ?_;exact aB (kb hK (by simp <;> omega)))
theorem R8 (h:0<=n/\n<=4096) (hK:∀p,K (.tuple #[PO p,I6 0]) (y9 p n n n 0 0::R)):CT 98 #[I6 n] R K:=by
 have e:(decide (0<=n) && decide (n<=2147483647))=true:=by simp;omega
 refine aH Tryz.func98 ?_
 repeat' (first|(show cL _ _ _;rw[e])|refine v21 ?_|refine w5 ?_ ?_|((refine bh fun h=>?_) <;> try exact w6 h)|(refine aE fun hA=>?_;subst hA)|intro _|(show aA _ 169 _ _ _;refine CA (h:=GU ?_)))
 (refine aC ?_;exact aB (hK _))
def vT:List (Nat×Nat):= [(0,0),(1,0),(2,0),(3,0),(4,0),(5,0),(6,0),(7,0),(8,0),(9,0)]
theorem Ti (hK:K (I6 0) R):CT 71 #[.pointer none] R K:=by
 refine aH Tryz.func71 ?_
 repeat' (first|refine v22 ?_|refine dw vT ?_|refine w5 ?_ ?_|((refine bh fun h=>?_) <;> try exact w6 h)|(refine aE fun hA=>?_;subst hA)|intro _)
 (refine aC ?_;exact aB (hK))
def vP:List (Nat×Nat):= [(0,0),(1,0),(2,0),(3,0),(4,0),(5,0),(6,0),(7,0),(8,0),(9,0),(10,0),(11,0)]
theorem X0 (hK:K (I6 1) R):CT 144 #[.pointer none,I6 n] R K:=by
 refine aH Tryz.func144 ?_
 repeat' (first|refine v33 ?_|refine dw vP ?_|refine w5 ?_ ?_|((refine bh fun h=>?_) <;> try exact w6 h)|(refine aE fun hA=>?_;subst hA)|intro _)
 (refine aC ?_;exact aB (hK))
def xH:List (Nat×Nat):= [(0,0),(1,0),(2,0),(3,0),(4,0),(5,0),(6,0),(7,0),(8,0),(9,0),(10,0),(11,0),(12,0)]
theorem IE (h:0<=k/\k<=max (gr - got) 0) (hb:-900000000<=gr/\gr<=900000000/\0<=got/\got<=900000000/\k<=900000000) (hK:K (I6 0) (y9 p cap most gr (got+k) us::R)):CT 305 #[PO p,I6 k] (y9 p cap most gr got us::R) K:=by
 unfold y9 at *
 refine aH Tryz.func305 ?_
 repeat' (first|refine v66 ?_|refine dw xH ?_|refine w5 ?_ ?_|((refine bh fun h=>?_) <;> try exact w6 h)|(refine aE fun hA=>?_;subst hA)|intro _)
 all_goals(refine aC ?_;exact aB (hK))
theorem K0 (h:max (gr - got) 0<k) (hb:-900000000<=gr/\gr<=900000000/\0<=got/\got<=900000000) (hK:K (I6 9) (y9 p cap most gr got us::R)):CT 305 #[PO p,I6 k] (y9 p cap most gr got us::R) K:=by
 unfold y9 at *
 refine aH Tryz.func305 ?_
 repeat' (first|refine v66 ?_|refine dw xH ?_|refine w5 ?_ ?_|((refine bh fun h=>?_) <;> try exact w6 h)|(refine aE fun hA=>?_;subst hA)|intro _)
 all_goals(refine aC ?_;exact aB (hK))
theorem J2 (h:0<=k/\k<=got - us) (hb:0<=us/\got<=900000000) (hK:K (I6 0) (y9 p cap most gr got (us+k)::R)):CT 144 #[PO p,I6 k] (y9 p cap most gr got us::R) K:=by
 unfold y9 at *
 refine aH Tryz.func144 ?_
 repeat' (first|refine v33 ?_|refine dw vP ?_|refine w5 ?_ ?_|((refine bh fun h=>?_) <;> try exact w6 h)|(refine aE fun hA=>?_;subst hA)|intro _)
 all_goals(refine aC ?_;exact aB (hK))
theorem B3 (hb:-900000000<=gr/\gr<=900000000/\0<=us/\us<=900000000) (hK:K (I6 (gr - us)) (y9 p cap most gr got us::R)):CT 71 #[PO p] (y9 p cap most gr got us::R) K:=by
 unfold y9 at *
 refine aH Tryz.func71 ?_
 repeat' (first|refine v22 ?_|refine dw vT ?_|refine w5 ?_ ?_|((refine bh fun h=>?_) <;> try exact w6 h)|(refine aE fun hA=>?_;subst hA)|intro _)
 (refine aC ?_;exact aB (hK))
theorem KG (hb:0<=cap/\cap<=900000000) (hK:K (I6 ((cap+1) / 2)) (pt r2 [PO p] 50::y9 p cap most gr got us::R)):CT 370 #[PO r2] (pt r2 [PO p] 50::y9 p cap most gr got us::R) K:=by
 unfold y9 at *
 refine aH Tryz.func370 ?_
 repeat' (first|refine v43 ?_|refine w5 ?_ ?_|((refine bh fun h=>?_) <;> try exact w6 h)|(refine aE fun hA=>?_;subst hA)|intro _)
 (refine aC ?_;exact aB (hK))
def rQ (cap gr us:Int):Int:=if 0<cap - (gr - us)/\cap<=2 * (cap - (gr - us)) then cap - (gr - us) else 0
def wV:List (Nat×Nat):= [(4,0),(5,1),(0,1),(1,1),(2,1),(3,1),(6,0),(7,0)]
theorem Q8 (hc:0<=cap/\cap<=900000000) (hb:-900000000<=gr/\gr<=900000000/\0<=us/\us<=900000000) (hK:K (I6 (rQ cap gr us)) (y9 p cap most gr got us::R)):CT 271 #[PO p] (y9 p cap most gr got us::R) K:=by
 unfold rQ at hK
 have hh:∀m:Int,((cap+1) / 2<=m)↔cap<=2 * m:=fun m=>by omega
 by_cases c1:0<cap - (gr - us)/\cap<=2 * (cap - (gr - us))
 ·rw[if_pos c1] at hK
  unfold y9 at *
  refine aH Tryz.func271 ?_
  repeat' (first|refine v84 ?_|refine dw wV ?_|refine w5 ?_ ?_|((refine bh fun h=>?_) <;> try exact w6 h)|(refine aE fun hA=>?_;subst hA)|intro _|(show aA _ 71 _ _ _;refine CA (h:=B3 hb ?_))|(show aA _ 370 _ _ _;refine CA (h:=KG hc ?_)))
  all_goals first|(exfalso;omega)|skip
  all_goals(refine aC ?_;exact aB (hK))
 ·rw[if_neg c1] at hK
  unfold y9 at *
  refine aH Tryz.func271 ?_
  repeat' (first|refine v84 ?_|refine dw wV ?_|refine w5 ?_ ?_|((refine bh fun h=>?_) <;> try exact w6 h)|(refine aE fun hA=>?_;subst hA)|intro _|(show aA _ 71 _ _ _;refine CA (h:=B3 hb ?_))|(show aA _ 370 _ _ _;refine CA (h:=KG hc ?_)))
  all_goals first|(exfalso;omega)|skip
  all_goals(refine aC ?_;exact aB (hK))
theorem HJ (hc:0<=cap/\cap<=900000000) (hb:-900000000<=gr/\gr<=900000000/\0<=us/\us<=900000000) (hK:K (I6 (rQ cap gr us)) (y9 p cap most (gr+rQ cap gr us) got us::R)):CT 185 #[PO p] (y9 p cap most gr got us::R) K:=by
 have h0:0<=rQ cap gr us/\rQ cap gr us<=3000000000:=by unfold rQ;split <;> omega
 refine aH Tryz.func185 ?_
 repeat' (first|refine v37 ?_|refine w5 ?_ ?_|((refine bh fun h=>?_) <;> try exact w6 h)|(refine aE fun hA=>?_;subst hA)|intro _|(show aA _ 271 _ _ _;refine CA (h:=Q8 hc hb ?_)))
 ·(refine aC ?_;exact aB (hK))
 ·have e:rQ cap gr us=0:=by omega
  rw[e] at hK
  rw[e]
  (refine aC ?_;exact aB ((by simpa using hK)))
def A8:List (Nat×Nat):= [(0,0),(1,0),(2,0),(3,0),(4,0),(5,0),(6,0),(7,0),(8,0),(9,0),(10,0),(11,0),(12,0),(13,1)]
theorem PD {to:Int} (h:0<=to/\to<=4096) (hc:0<=cap/\cap<=4096) (hb:-900000000<=gr/\gr<=900000000) (hK:K (I6 0) (y9 p to (max most to) (gr+(to - cap)) got us::R)):CT 386 #[PO p,I6 to] (y9 p cap most gr got us::R) K:=by
 have e:(decide (0<=to) && decide (to<=2147483647))=true:=by simp;omega
 unfold y9 at *
 refine aH Tryz.func386 ?_
 repeat' (first|(show cL _ _ _;rw[e])|refine v68 ?_|refine dw A8 ?_|refine w5 ?_ ?_|((refine bh fun h=>?_) <;> try exact w6 h)|(refine aE fun hA=>?_;subst hA)|intro _|(show aA _ 169 _ _ _;refine CA (h:=GU ?_)))
 (refine aC ?_;exact aB (hK))
def sD (w st it:Int):Bool:=decide (0<=w/\w<=4096/\0<=st/\st<=32/\0<=it/\it<=64)
theorem R9 {m:Int} (hK:K (.bool (decide (0<=n/\n<=m))) R):CT 260 #[I6 n,I6 m] R K:=by
 refine aH Tryz.func260 ?_
 repeat' (first|refine v1 ?_|refine w5 ?_ ?_|((refine bh fun h=>?_) <;> try exact w6 h)|(refine aE fun hA=>?_;subst hA)|intro _)
 all_goals(refine aC ?_;exact aB (kb hK (by simp <;> omega)))
theorem vV {v:Int} (hv:(if sD w st it=true then 0 else 3)=v) (hK:K (I6 v) R):CT 170 #[.agg #[I6 w,I6 st,I6 it]] R K:=by
 subst hv
 unfold sD at hK
 refine aH Tryz.func170 ?_
 repeat' (first|refine v44 ?_|refine w5 ?_ ?_|((refine bh fun h=>?_) <;> try exact w6 h)|(refine aE fun hA=>?_;subst hA)|intro _|(show aA _ 260 _ _ _;refine CA (h:=R9 ?_)))
 all_goals(refine aC ?_;exact aB (ki hK (by simp only[decide_eq_true_eq];split <;> first|rfl|omega)))
def DW:List (Nat×Nat):= [(0,0),(1,0),(2,0),(3,0),(4,1),(5,1),(6,1),(7,1),(8,1),(9,1),(10,0),(11,0)]
def Dh:List (Nat×Nat):= [(0,0),(1,0),(2,0),(3,0),(4,1),(5,1),(6,1),(7,1),(8,1),(9,0),(10,0)]
def AA:List (Nat×Nat):= [(0,0),(1,0),(2,0),(3,0),(4,0),(5,0),(6,1),(7,0)]
def RB (cap most gr got us:Int) (bs:List UInt8):Prop:=got=us+bs.length/\0<=us/\cap<=gr/\gr - us<=cap/\0<=cap/\cap<=most/\most<=4096/\(bs.length:Int)<=most/\got<=400000000/\got+cap<=gr+4096
def xN (r:Nat) (cap most gr got us:Int) (bs:List UInt8) (en:Bool):HP:=fC fun g=>fC fun p=>sep (pt r [I6 1,PO g,PO p,.pointer none,.pointer none,I6 0,I6 0,.bool en] 263) (sep (k6 g 4096 bs) (sep (y9 p cap most gr got us) (bF (RB cap most gr got us bs))))
theorem jI (h:RB cap most gr got us bs):aG (pt r [I6 1,PO g,PO p,.pointer none,.pointer none,I6 0,I6 0,.bool en] 263::k6 g 4096 bs::y9 p cap most gr got us::R) (xN r cap most gr got us bs en::R):=
 aG.ex g (aG.ex p (sN h))
theorem l8 (h:∀g p,RB cap most gr got us bs->CT f args (pt r [I6 1,PO g,PO p,.pointer none,.pointer none,I6 0,I6 0,.bool en] 263::k6 g 4096 bs::y9 p cap most gr got us::R) K):CT f args (xN r cap most gr got us bs en::R) K:=
 aA.ex fun g=>aA.ex fun p=>DV fun hI=>h g p hI
theorem KO (hs:sD w st it=true) (hK:∀r,K (.tuple #[PO r,I6 0]) (xN r w w w 0 0 [] false::R)):CT 256 #[I6 1,.agg #[I6 w,I6 st,I6 it]] R K:=by
 have hs2:=hs
 unfold sD at hs2
 rw[decide_eq_true_eq] at hs2
 refine aH Tryz.func256 ?_
 repeat' (first|refine AB ?_|refine w5 ?_ ?_|((refine bh fun h=>?_) <;> try exact w6 h)|(refine aE fun hA=>?_;subst hA)|intro _|(show aA _ 170 _ _ _;refine CA (h:=vV (v:=0) (by rw[if_pos hs]) ?_))|(show aA _ 361 _ _ _;refine CA (h:=VU (cap:=4096) (by omega) (fun g=>?_)))|(show aA _ 98 _ _ _;refine CA (h:=R8 (by omega) (fun p=>?_))))
 (refine aC ?_;exact aM (aG.trans (by exact aY) ((jI ⟨by simp,by omega,by omega,by omega,by omega,by omega,by omega,by simp;omega,by omega⟩))) (hK _))
theorem T7 (hK:K (I6 1) (xN r cap most gr got us bs en::R)):CT 68 #[PO r] (xN r cap most gr got us bs en::R) K:=by
 refine l8 fun g p hT=>?_
 refine aH Tryz.func68 ?_
 repeat' (first|refine v4 ?_|refine w5 ?_ ?_|((refine bh fun h=>?_) <;> try exact w6 h)|(refine aE fun hA=>?_;subst hA)|intro _)
 (refine aC ?_;exact aM (aG.trans (by exact aY) ((jI hT))) (hK))
theorem zX (hK:K (.bool en) (pt r [I6 1,PO g,PO p,.pointer none,.pointer none,I6 0,I6 0,.bool en] 263::R)):CT 241 #[PO r] (pt r [I6 1,PO g,PO p,.pointer none,.pointer none,I6 0,I6 0,.bool en] 263::R) K:=by
 refine aH Tryz.func241 ?_
 repeat' (first|refine v23 ?_|refine w5 ?_ ?_|((refine bh fun h=>?_) <;> try exact w6 h)|(refine aE fun hA=>?_;subst hA)|intro _)
 (refine aC ?_;exact aB (hK))
theorem Bd (hK:K (.bool en) (xN r cap most gr got us bs en::R)):CT 241 #[PO r] (xN r cap most gr got us bs en::R) K:=by
 refine l8 fun g p hT=>?_
 refine aH Tryz.func241 ?_
 repeat' (first|refine v23 ?_|refine w5 ?_ ?_|((refine bh fun h=>?_) <;> try exact w6 h)|(refine aE fun hA=>?_;subst hA)|intro _)
 (refine aC ?_;exact aM (aG.trans (by exact aY) ((jI hT))) (hK))
theorem vX (hK:K (I6 bs.length) (xN r cap most gr got us bs en::R)):CT 64 #[PO r] (xN r cap most gr got us bs en::R) K:=by
 refine l8 fun g p hT=>?_
 have hT':=hT
 obtain⟨h1,h2,h3,h4,h5,h6,h7,h8,h9⟩:=hT'
 refine aH Tryz.func64 ?_
 repeat' (first|refine GF ?_|refine dw DW ?_|refine w5 ?_ ?_|((refine bh fun h=>?_) <;> try exact w6 h)|(refine aE fun hA=>?_;subst hA)|intro _|(show aA _ 157 _ _ _;refine CA (h:=Wl ?_))|(show aA _ 158 _ _ _;refine CA (h:=LH ?_)))
 rw[show((bs.length:Nat):Int)+0=bs.length by omega]
 (refine aC ?_;exact aM (aG.trans (by exact aY) ((jI hT))) (hK))
theorem UF (hK:K (.bool (en && decide (bs= []))) (xN r cap most gr got us bs en::R)):CT 145 #[PO r] (xN r cap most gr got us bs en::R) K:=by
 cases en
 ·refine aH Tryz.func145 ?_
  repeat' (first|refine v15 ?_|refine w5 ?_ ?_|((refine bh fun h=>?_) <;> try exact w6 h)|(refine aE fun hA=>?_;subst hA)|intro _|(show aA _ 241 _ _ _;refine CA (h:=Bd ?_))|(show aA _ 64 _ _ _;refine CA (h:=vX ?_)))
  (refine aC ?_;exact aB (hK))
 ·refine aH Tryz.func145 ?_
  repeat' (first|refine v15 ?_|refine w5 ?_ ?_|((refine bh fun h=>?_) <;> try exact w6 h)|(refine aE fun hA=>?_;subst hA)|intro _|(show aA _ 241 _ _ _;refine CA (h:=Bd ?_))|(show aA _ 64 _ _ _;refine CA (h:=vX ?_)))
  all_goals(refine aC ?_;exact aB (kb hK (by cases bs <;> simp <;> omega)))
theorem UY (hK:K (I6 (gr - us)) (xN r cap most gr got us bs en::R)):CT 69 #[PO r] (xN r cap most gr got us bs en::R) K:=by
 refine l8 fun g p hT=>?_
 have hT':=hT
 obtain⟨h1,h2,h3,h4,h5,h6,h7,h8,h9⟩:=hT'
 refine aH Tryz.func69 ?_
 repeat' (first|refine GF ?_|refine dw Dh ?_|refine w5 ?_ ?_|((refine bh fun h=>?_) <;> try exact w6 h)|(refine aE fun hA=>?_;subst hA)|intro _|(show aA _ 71 _ _ _;refine CA (h:=B3 (by omega) ?_)))
 rw[Int.add_zero]
 (refine aC ?_;exact aM (aG.trans (by exact aY) ((jI hT))) (hK))
theorem HM (hK:K (I6 (if k=1 then 0 else 13)) (pt r [I6 1,PO g,PO p,.pointer none,.pointer none,I6 0,I6 0,.bool en] 263::R)):CT 239 #[PO r,I6 k] (pt r [I6 1,PO g,PO p,.pointer none,.pointer none,I6 0,I6 0,.bool en] 263::R) K:=by
 by_cases h:k=1
 ·rw[if_pos h] at hK
  refine aH Tryz.func239 ?_
  repeat' (first|refine v29 ?_|refine w5 ?_ ?_|((refine bh fun h=>?_) <;> try exact w6 h)|(refine aE fun hA=>?_;subst hA)|intro _)
  all_goals(refine aC ?_;exact aB (hK))
 ·rw[if_neg h] at hK
  refine aH Tryz.func239 ?_
  repeat' (first|refine v29 ?_|refine w5 ?_ ?_|((refine bh fun h=>?_) <;> try exact w6 h)|(refine aE fun hA=>?_;subst hA)|intro _)
  all_goals(refine aC ?_;exact aB (hK))
theorem TH (hK:K (.tuple #[.string ⟨#[]⟩,.bool false,I6 13]) (xN r cap most gr got us bs en::R)):CT 247 #[PO r] (xN r cap most gr got us bs en::R) K:=by
 refine l8 fun g p hT=>?_
 refine aH Tryz.func247 ?_
 repeat' (first|refine MN ?_|refine w5 ?_ ?_|((refine bh fun h=>?_) <;> try exact w6 h)|(refine aE fun hA=>?_;subst hA)|intro _|(show aA _ 239 _ _ _;refine CA (h:=HM ?_)))
 (refine aC ?_;exact aM (aG.trans (by exact aY) ((jI hT))) (hK))
theorem YZ (hK:K (I6 13) (xN r cap most gr got us bs en::R)):CT 248 #[PO r,I6 n] (xN r cap most gr got us bs en::R) K:=by
 refine l8 fun g p hT=>?_
 refine aH Tryz.func248 ?_
 repeat' (first|refine MN ?_|refine w5 ?_ ?_|((refine bh fun h=>?_) <;> try exact w6 h)|(refine aE fun hA=>?_;subst hA)|intro _|(show aA _ 239 _ _ _;refine CA (h:=HM ?_)))
 (refine aC ?_;exact aM (aG.trans (by exact aY) ((jI hT))) (hK))
theorem H4 (hT:RB cap most gr got us bs) (hK:K (I6 (rQ cap gr us)) (pt r [I6 1,PO g,PO p,.pointer none,.pointer none,I6 0,I6 0,.bool en] 263::y9 p cap most gr got us::R)):CT 272 #[PO r] (pt r [I6 1,PO g,PO p,.pointer none,.pointer none,I6 0,I6 0,.bool en] 263::y9 p cap most gr got us::R) K:=by
 obtain⟨h1,h2,h3,h4,h5,h6,h7,h8,h9⟩:=hT
 refine aH Tryz.func272 ?_
 repeat' (first|refine v47 ?_|refine w5 ?_ ?_|((refine bh fun h=>?_) <;> try exact w6 h)|(refine aE fun hA=>?_;subst hA)|intro _|(show aA _ 271 _ _ _;refine CA (h:=Q8 (by omega) (by omega) ?_)))
 (refine aC ?_;exact aB (hK))
theorem Z6 (hT:RB cap most gr got us bs):RB cap most (gr+rQ cap gr us) got us bs:=by
 obtain⟨h1,h2,h3,h4,h5,h6,h7,h8,h9⟩:=hT
 have:0<=rQ cap gr us/\gr+rQ cap gr us - us<=cap:=by unfold rQ;split <;> omega
 exact⟨h1,h2,by omega,by omega,h5,h6,h7,h8,by omega⟩
theorem QT (hK:K (I6 (rQ cap gr us)) (xN r cap most (gr+rQ cap gr us) got us bs en::R)):CT 187 #[PO r] (xN r cap most gr got us bs en::R) K:=by
 refine l8 fun g p hT=>?_
 have hw:=Z6 hT
 have hT':=hT
 obtain⟨h1,h2,h3,h4,h5,h6,h7,h8,h9⟩:=hT'
 by_cases h0:rQ cap gr us=0
 ·rw[h0,Int.add_zero] at hK
  refine aH Tryz.func187 ?_
  repeat' (first|refine GF ?_|refine w5 ?_ ?_|((refine bh fun h=>?_) <;> try exact w6 h)|(refine aE fun hA=>?_;subst hA)|intro _|(show aA _ 272 _ _ _;refine CA (h:=H4 hT ?_)))
  (refine aC ?_;exact aM (aG.trans (by exact aY) ((jI hT))) (hK))
 ·refine aH Tryz.func187 ?_
  repeat' (first|refine GF ?_|refine w5 ?_ ?_|((refine bh fun h=>?_) <;> try exact w6 h)|(refine aE fun hA=>?_;subst hA)|intro _|(show aA _ 272 _ _ _;refine CA (h:=H4 hT ?_))|(show aA _ 185 _ _ _;refine CA (h:=HJ (by omega) (by omega) ?_)))
  (refine aC ?_;exact aM (aG.trans (by exact aY) ((jI hw))) (hK))
theorem OH (hs:sD w st it=true) (hK:K (I6 0) (xN r w (max most w) (gr+(w - cap)) got us bs en::R)):CT 297 #[PO r,.agg #[I6 w,I6 st,I6 it]] (xN r cap most gr got us bs en::R) K:=by
 refine l8 fun g p hT=>?_
 obtain⟨h1,h2,h3,h4,h5,h6,h7,h8,h9⟩:=hT
 have hs2:=hs
 unfold sD at hs2
 rw[decide_eq_true_eq] at hs2
 have hw:RB w (max most w) (gr+(w - cap)) got us bs:=⟨h1,h2,by omega,by omega,by omega,by omega,by omega,by omega,by omega⟩
 refine aH Tryz.func297 ?_
 repeat' (first|refine AB ?_|refine dw AA ?_|refine w5 ?_ ?_|((refine bh fun h=>?_) <;> try exact w6 h)|(refine aE fun hA=>?_;subst hA)|intro _|(show aA _ 170 _ _ _;refine CA (h:=vV (v:=0) (by rw[if_pos hs]) ?_))|(show aA _ 386 _ _ _;refine CA (h:=PD (by omega) (by omega) (by omega) ?_)))
 (refine aC ?_;exact aM (aG.trans (by exact aY) ((jI hw))) (hK))
theorem Kw (he:en=true) (hK:K (.tuple #[I6 7,.bool false]) (xN r cap most gr got us bs en::R)):CT 389 #[PO r,.string s,.bool e] (xN r cap most gr got us bs en::R) K:=by
 subst he
 refine aH Tryz.func389 ?_
 repeat' (first|refine NY ?_|refine w5 ?_ ?_|((refine bh fun h=>?_) <;> try exact w6 h)|(refine aE fun hA=>?_;subst hA)|intro _|(show aA _ 241 _ _ _;refine CA (h:=Bd ?_)))
 (refine aC ?_;exact aB (hK))
theorem Kl (he:en=false) (hs:max (gr - got) 0<s.size) (hK:K (.tuple #[I6 8,.bool false]) (xN r cap most gr got us bs en::R)):CT 389 #[PO r,.string s,.bool e] (xN r cap most gr got us bs en::R) K:=by
 subst he
 refine l8 fun g p hT=>?_
 have hT':=hT
 obtain⟨h1,h2,h3,h4,h5,h6,h7,h8,h9⟩:=hT'
 refine aH Tryz.func389 ?_
 repeat' (first|refine NY ?_|refine w5 ?_ ?_|((refine bh fun h=>?_) <;> try exact w6 h)|(refine aE fun hA=>?_;subst hA)|intro _|(show aA _ 241 _ _ _;refine CA (h:=zX ?_))|(show aA _ 305 _ _ _;refine CA (h:=K0 hs (by omega) ?_)))
 (refine aC ?_;exact aM (aG.trans (by exact aY) ((jI hT))) (hK))
theorem Ey (he:en=false) (hs:s.size<=max (gr - got) 0) (hb:got+s.size<=400000000) (hK:K (.tuple #[I6 0,.bool true]) (xN r cap most gr (got+s.size) us (bs++s.data.toList) e::R)):CT 389 #[PO r,.string s,.bool e] (xN r cap most gr got us bs en::R) K:=by
 subst he
 refine l8 fun g p hT=>?_
 obtain⟨h1,h2,h3,h4,h5,h6,h7,h8,h9⟩:=hT
 have hsl:s.data.toList.length=s.size:=by simp
 have hw:RB cap most gr (got+s.size) us (bs++s.data.toList):=⟨by rw[List.length_append,hsl];omega,h2,h3,h4,h5,h6,h7,by rw[List.length_append,hsl];omega,hb,by omega⟩
 by_cases h0:s.size=0
 ·have e0:s.data.toList= []:=List.length_eq_zero_iff.1 (by omega)
  rw[e0,List.append_nil] at hw hK
  refine aH Tryz.func389 ?_
  repeat' (first|refine NY ?_|refine w5 ?_ ?_|((refine bh fun h=>?_) <;> try exact w6 h)|(refine aE fun hA=>?_;subst hA)|intro _|(show aA _ 241 _ _ _;refine CA (h:=zX ?_))|(show aA _ 305 _ _ _;refine CA (h:=IE (by omega) (by omega) ?_))|(show aA _ 344 _ _ _;refine CA (h:=Ie (by omega) (.inl h0) ?_)))
  (refine aC ?_;exact aM (aG.trans (by exact aY) ((jI hw))) (hK))
 ·have et:s.data.toList.take s.size=s.data.toList:=List.take_of_length_le (by omega)
  refine aH Tryz.func389 ?_
  repeat' (first|refine NY ?_|refine w5 ?_ ?_|((refine bh fun h=>?_) <;> try exact w6 h)|(refine aE fun hA=>?_;subst hA)|intro _|(show aA _ 241 _ _ _;refine CA (h:=zX ?_))|(show aA _ 305 _ _ _;refine CA (h:=IE (by omega) (by omega) ?_))|(show aA _ 344 _ _ _;refine CA (h:=LE (n:=s.size) (by omega) (by omega) (by omega) ?_)))
  rw[et]
  (refine aC ?_;exact aM (aG.trans (by exact aY) ((jI hw))) (hK))
theorem SG {kk:Nat} (hk:(kk:Int)=max (min n bs.length) 0) (hK:K (.tuple #[.string ⟨(bs.take kk).toArray⟩,I6 0]) (xN r cap most gr got (us+kk) (bs.drop kk) en::R)):CT 143 #[PO r,I6 n] (xN r cap most gr got us bs en::R) K:=by
 refine l8 fun g p hT=>?_
 obtain⟨h1,h2,h3,h4,h5,h6,h7,h8,h9⟩:=hT
 have hs:(ByteArray.mk (bs.take kk).toArray).size=kk:=by simp[xE];omega
 have hw:RB cap most gr got (us+kk) (bs.drop kk):=⟨by rw[List.length_drop];omega,by omega,h3,by omega,h5,h6,h7,by rw[List.length_drop];omega,h9⟩
 refine aH Tryz.func143 ?_
 repeat' (first|refine MN ?_|refine w5 ?_ ?_|((refine bh fun h=>?_) <;> try exact w6 h)|(refine aE fun hA=>?_;subst hA)|intro _|(show aA _ 239 _ _ _;refine CA (h:=HM ?_))|(show aA _ 240 _ _ _;refine CA (h:=FX (kk:=kk) (by omega) hk ?_))|(show aA _ 144 _ _ _;refine CA (h:=J2 (by rw[hs];omega) (by omega) ?_)))
 rw[hs]
 (refine aC ?_;exact aM (aG.trans (by exact aY) ((jI hw))) (hK))
theorem GP (hK:K (I6 bs.length) (xN r cap most gr got (us+bs.length) [] en::R)):CT 359 #[PO r] (xN r cap most gr got us bs en::R) K:=by
 refine l8 fun g p hT=>?_
 obtain⟨h1,h2,h3,h4,h5,h6,h7,h8,h9⟩:=hT
 have hw:RB cap most gr got (us+bs.length) []:=⟨by simp;omega,by omega,h3,by omega,h5,h6,h7,by simp;omega,h9⟩
 refine aH Tryz.func359 ?_
 repeat' (first|refine GF ?_|refine w5 ?_ ?_|((refine bh fun h=>?_) <;> try exact w6 h)|(refine aE fun hA=>?_;subst hA)|intro _|(show aA _ 426 _ _ _;refine CA (h:=Lj (by omega) ?_))|(show aA _ 144 _ _ _;refine CA (h:=J2 (by omega) (by omega) ?_))|(show aA _ 427 _ _ _;refine CA (h:=GM ?_)))
 rw[show((bs.length:Nat):Int)+0=bs.length by omega]
 (refine aC ?_;exact aM (aG.trans (by exact aY) ((jI hw))) (hK))
def RI (mr room open_ ask:Int) (l:List ByteArray) (ac tk dr:Int):Prop:=ac=tk+dr+l.length/\0<=tk/\0<=dr/\ac<=400000000/\0<=open_/\open_+l.length<=mr/\0<=room/\room<=mr/\mr<=64/\0<=ask/\ask<=2147483647
def uB (r:Nat) (mr room open_ ask:Int) (l:List ByteArray) (ac tk dr:Int) (en:Bool):HP:=fC fun q=>fC fun d=>sep (pt r [I6 2,.pointer none,.pointer none,PO q,PO d,I6 room,I6 open_,.bool en] 263) (sep (y5 q 64 0 l ac tk dr) (sep (rE d ask 2147483647) (bF (RI mr room open_ ask l ac tk dr))))
theorem f8 (h:RI mr room open_ ask l ac tk dr):aG (pt r [I6 2,.pointer none,.pointer none,PO q,PO d,I6 room,I6 open_,.bool en] 263::y5 q 64 0 l ac tk dr::rE d ask 2147483647::R) (uB r mr room open_ ask l ac tk dr en::R):=
 aG.ex q (aG.ex d (sN h))
theorem jM (h:∀q d,RI mr room open_ ask l ac tk dr->CT f args (pt r [I6 2,.pointer none,.pointer none,PO q,PO d,I6 room,I6 open_,.bool en] 263::y5 q 64 0 l ac tk dr::rE d ask 2147483647::R) K):CT f args (uB r mr room open_ ask l ac tk dr en::R) K:=
 aA.ex fun q=>aA.ex fun d=>DV fun hI=>h q d hI
theorem KH (hs:sD w st it=true) (hK:∀r,K (.tuple #[PO r,I6 0]) (uB r it it 0 0 [] 0 0 0 false::R)):CT 256 #[I6 2,.agg #[I6 w,I6 st,I6 it]] R K:=by
 have hs2:=hs
 unfold sD at hs2
 rw[decide_eq_true_eq] at hs2
 refine aH Tryz.func256 ?_
 repeat' (first|refine AB ?_|refine w5 ?_ ?_|((refine bh fun h=>?_) <;> try exact w6 h)|(refine aE fun hA=>?_;subst hA)|intro _|(show aA _ 170 _ _ _;refine CA (h:=vV (v:=0) (by rw[if_pos hs]) ?_))|(show aA _ 362 _ _ _;refine CA (h:=PT (by omega) (by omega) (fun q=>?_)))|(show aA _ 363 _ _ _;refine CA (h:=VK (by omega) (fun d=>?_))))
 (refine aC ?_;exact aM (aG.trans (by exact aY) ((f8 ⟨by simp,by omega,by omega,by omega,by omega,by simp;omega,by omega,by omega,by omega,by omega,by omega⟩))) (hK _))
theorem TY (hK:K (I6 2) (uB r mr room open_ ask l ac tk dr en::R)):CT 68 #[PO r] (uB r mr room open_ ask l ac tk dr en::R) K:=by
 refine jM fun q d hT=>?_
 refine aH Tryz.func68 ?_
 repeat' (first|refine v4 ?_|refine w5 ?_ ?_|((refine bh fun h=>?_) <;> try exact w6 h)|(refine aE fun hA=>?_;subst hA)|intro _)
 (refine aC ?_;exact aM (aG.trans (by exact aY) ((f8 hT))) (hK))
theorem rM (hK:K (.bool en) (pt r [I6 2,.pointer none,.pointer none,PO q,PO d,I6 room,I6 open_,.bool en] 263::R)):CT 241 #[PO r] (pt r [I6 2,.pointer none,.pointer none,PO q,PO d,I6 room,I6 open_,.bool en] 263::R) K:=by
 refine aH Tryz.func241 ?_
 repeat' (first|refine v23 ?_|refine w5 ?_ ?_|((refine bh fun h=>?_) <;> try exact w6 h)|(refine aE fun hA=>?_;subst hA)|intro _)
 (refine aC ?_;exact aB (hK))
theorem Bj (hK:K (.bool en) (uB r mr room open_ ask l ac tk dr en::R)):CT 241 #[PO r] (uB r mr room open_ ask l ac tk dr en::R) K:=by
 refine jM fun q d hT=>?_
 refine aH Tryz.func241 ?_
 repeat' (first|refine v23 ?_|refine w5 ?_ ?_|((refine bh fun h=>?_) <;> try exact w6 h)|(refine aE fun hA=>?_;subst hA)|intro _)
 (refine aC ?_;exact aM (aG.trans (by exact aY) ((f8 hT))) (hK))
def Dx:List (Nat×Nat):= [(0,0),(1,0),(2,0),(3,0),(4,1),(5,1),(6,1),(7,1),(8,1),(9,1),(10,0),(11,0)]
theorem vJ (hK:K (I6 l.length) (uB r mr room open_ ask l ac tk dr en::R)):CT 64 #[PO r] (uB r mr room open_ ask l ac tk dr en::R) K:=by
 refine jM fun q d hT=>?_
 have hT':=hT
 obtain⟨h1,h2,h3,h4,h5,h6,h7,h8,h9,h10,h11⟩:=hT'
 refine aH Tryz.func64 ?_
 repeat' (first|refine GF ?_|refine dw Dx ?_|refine w5 ?_ ?_|((refine bh fun h=>?_) <;> try exact w6 h)|(refine aE fun hA=>?_;subst hA)|intro _|(show aA _ 157 _ _ _;refine CA (h:=I8 ?_))|(show aA _ 158 _ _ _;refine CA (h:=HI ?_)))
 rw[show(0:Int)+((l.length:Nat):Int)=l.length by omega]
 (refine aC ?_;exact aM (aG.trans (by exact aY) ((f8 hT))) (hK))
theorem UR (hK:K (.bool (en && decide (l= []))) (uB r mr room open_ ask l ac tk dr en::R)):CT 145 #[PO r] (uB r mr room open_ ask l ac tk dr en::R) K:=by
 cases en
 ·refine aH Tryz.func145 ?_
  repeat' (first|refine v15 ?_|refine w5 ?_ ?_|((refine bh fun h=>?_) <;> try exact w6 h)|(refine aE fun hA=>?_;subst hA)|intro _|(show aA _ 241 _ _ _;refine CA (h:=Bj ?_))|(show aA _ 64 _ _ _;refine CA (h:=vJ ?_)))
  (refine aC ?_;exact aB (hK))
 ·refine aH Tryz.func145 ?_
  repeat' (first|refine v15 ?_|refine w5 ?_ ?_|((refine bh fun h=>?_) <;> try exact w6 h)|(refine aE fun hA=>?_;subst hA)|intro _|(show aA _ 241 _ _ _;refine CA (h:=Bj ?_))|(show aA _ 64 _ _ _;refine CA (h:=vJ ?_)))
  all_goals(refine aC ?_;exact aB (kb hK (by cases l <;> simp <;> omega)))
def Dn:List (Nat×Nat):= [(0,0),(1,0),(2,0),(3,0),(4,1),(5,1),(6,1),(7,1),(8,1),(9,0),(10,0)]
theorem UG (hK:K (I6 open_) (uB r mr room open_ ask l ac tk dr en::R)):CT 69 #[PO r] (uB r mr room open_ ask l ac tk dr en::R) K:=by
 refine jM fun q d hT=>?_
 have hT':=hT
 obtain⟨h1,h2,h3,h4,h5,h6,h7,h8,h9,h10,h11⟩:=hT'
 refine aH Tryz.func69 ?_
 repeat' (first|refine GF ?_|refine dw Dn ?_|refine w5 ?_ ?_|((refine bh fun h=>?_) <;> try exact w6 h)|(refine aE fun hA=>?_;subst hA)|intro _|(show aA _ 71 _ _ _;refine CA (h:=Ti ?_)))
 rw[Int.zero_add]
 (refine aC ?_;exact aM (aG.trans (by exact aY) ((f8 hT))) (hK))
theorem BB (hK:K (I6 (if k=2 then 0 else 13)) (pt r [I6 2,.pointer none,.pointer none,PO q,PO d,I6 room,I6 open_,.bool en] 263::R)):CT 239 #[PO r,I6 k] (pt r [I6 2,.pointer none,.pointer none,PO q,PO d,I6 room,I6 open_,.bool en] 263::R) K:=by
 by_cases h:k=2
 ·rw[if_pos h] at hK
  refine aH Tryz.func239 ?_
  repeat' (first|refine v29 ?_|refine w5 ?_ ?_|((refine bh fun h=>?_) <;> try exact w6 h)|(refine aE fun hA=>?_;subst hA)|intro _)
  all_goals(refine aC ?_;exact aB (hK))
 ·rw[if_neg h] at hK
  refine aH Tryz.func239 ?_
  repeat' (first|refine v29 ?_|refine w5 ?_ ?_|((refine bh fun h=>?_) <;> try exact w6 h)|(refine aE fun hA=>?_;subst hA)|intro _)
  all_goals(refine aC ?_;exact aB (hK))
theorem S5 (hK:K (.tuple #[.string ⟨#[]⟩,I6 13]) (uB r mr room open_ ask l ac tk dr en::R)):CT 143 #[PO r,I6 n] (uB r mr room open_ ask l ac tk dr en::R) K:=by
 refine jM fun q d hT=>?_
 refine aH Tryz.func143 ?_
 repeat' (first|refine MN ?_|refine w5 ?_ ?_|((refine bh fun h=>?_) <;> try exact w6 h)|(refine aE fun hA=>?_;subst hA)|intro _|(show aA _ 239 _ _ _;refine CA (h:=BB ?_)))
 (refine aC ?_;exact aM (aG.trans (by exact aY) ((f8 hT))) (hK))
theorem P9 (hK:K (.tuple #[.string ⟨#[]⟩,.bool false,I6 0]) (uB r mr room open_ ask [] ac tk dr en::R)):CT 247 #[PO r] (uB r mr room open_ ask [] ac tk dr en::R) K:=by
 refine jM fun q d hT=>?_
 refine aH Tryz.func247 ?_
 repeat' (first|refine MN ?_|refine w5 ?_ ?_|((refine bh fun h=>?_) <;> try exact w6 h)|(refine aE fun hA=>?_;subst hA)|intro _|(show aA _ 239 _ _ _;refine CA (h:=BB ?_))|(show aA _ 354 _ _ _;refine CA (h:=JZ ?_)))
 (refine aC ?_;exact aM (aG.trans (by exact aY) ((f8 hT))) (hK))
theorem TL (hK:K (.tuple #[.string s,.bool true,I6 0]) (uB r mr room open_ ask l ac (tk+1) dr en::R)):CT 247 #[PO r] (uB r mr room open_ ask (s::l) ac tk dr en::R) K:=by
 refine jM fun q d hT=>?_
 obtain⟨h1,h2,h3,h4,h5,h6,h7,h8,h9,h10,h11⟩:=hT
 have hl:(s::l).length=l.length+1:=rfl
 have hw:RI mr room open_ ask l ac (tk+1) dr:=⟨by omega,by omega,h3,h4,h5,by omega,h7,h8,h9,h10,h11⟩
 refine aH Tryz.func247 ?_
 repeat' (first|refine MN ?_|refine w5 ?_ ?_|((refine bh fun h=>?_) <;> try exact w6 h)|(refine aE fun hA=>?_;subst hA)|intro _|(show aA _ 239 _ _ _;refine CA (h:=BB ?_))|(show aA _ 354 _ _ _;refine CA (h:=Lg (by omega) (by omega) ?_)))
 (refine aC ?_;exact aM (aG.trans (by exact aY) ((f8 hw))) (hK))
theorem XX (h:1<=n) (hK:K (I6 0) (uB r mr room open_ (ask+min n (2147483647 - ask)) l ac tk dr en::R)):CT 248 #[PO r,I6 n] (uB r mr room open_ ask l ac tk dr en::R) K:=by
 refine jM fun q d hT=>?_
 obtain⟨h1,h2,h3,h4,h5,h6,h7,h8,h9,h10,h11⟩:=hT
 have hw:RI mr room open_ (ask+min n (2147483647 - ask)) l ac tk dr:=⟨h1,h2,h3,h4,h5,h6,h7,h8,h9,by omega,by omega⟩
 refine aH Tryz.func248 ?_
 repeat' (first|refine MN ?_|refine w5 ?_ ?_|((refine bh fun h=>?_) <;> try exact w6 h)|(refine aE fun hA=>?_;subst hA)|intro _|(show aA _ 239 _ _ _;refine CA (h:=BB ?_))|(show aA _ 355 _ _ _;refine CA (h:=Vl h ⟨h10,h11⟩ (by omega) ?_)))
 (refine aC ?_;exact aM (aG.trans (by exact aY) ((f8 hw))) (hK))
theorem TR (h:n<1) (hK:K (I6 2) (uB r mr room open_ ask l ac tk dr en::R)):CT 248 #[PO r,I6 n] (uB r mr room open_ ask l ac tk dr en::R) K:=by
 refine jM fun q d hT=>?_
 refine aH Tryz.func248 ?_
 repeat' (first|refine MN ?_|refine w5 ?_ ?_|((refine bh fun h=>?_) <;> try exact w6 h)|(refine aE fun hA=>?_;subst hA)|intro _|(show aA _ 239 _ _ _;refine CA (h:=BB ?_))|(show aA _ 355 _ _ _;refine CA (h:=Qi (by simp) h ?_)))
 (refine aC ?_;exact aM (aG.trans (by exact aY) ((f8 hT))) (hK))
def xO (room open_ ask:Int) (l:List ByteArray):Int:=max (min ask (room - open_ - l.length)) 0
def CJ:List Nat:= [0,1,3,7,15,0,32,96,224,0,512,1536,3584,8160,0,16384,49152,114688,245791,524287,1048575,2097151,4194303]
def CB:List Nat:= [4194303,2097151,1048575,524287,245791,114688,49152,16384,0,8160,3584,1536,512,0,224,96,32,0,15,7,3,1,0]
def CE:List (Nat×Nat):= [(0,0),(1,0),(2,0),(3,0),(4,1),(14,1),(15,1),(16,1),(17,1),(18,1),(5,2),(6,2),(7,2),(8,2),(9,2),(10,2),(11,2),(12,2),(13,2),(19,0),(20,0),(21,0),(22,0)]
theorem TE (hT:RI mr room open_ ask l ac tk dr) (hK:K (I6 (xO room open_ ask l)) (pt r2 [PO r] 126::pt r [I6 2,.pointer none,.pointer none,PO q,PO d,I6 room,I6 open_,.bool en] 263::y5 q 64 0 l ac tk dr::rE d ask 2147483647::R)):CT 371 #[PO r2] (pt r2 [PO r] 126::pt r [I6 2,.pointer none,.pointer none,PO q,PO d,I6 room,I6 open_,.bool en] 263::y5 q 64 0 l ac tk dr::rE d ask 2147483647::R) K:=by
 obtain⟨h1,h2,h3,h4,h5,h6,h7,h8,h9,h10,h11⟩:=hT
 unfold xO at hK
 refine aH Tryz.func371 ?_
 repeat' (first|refine v67 ?_|refine Jv CJ CB CE ?_|refine w5 ?_ ?_|((refine bh fun h=>?_) <;> try exact w6 h)|(refine aE fun hA=>?_;subst hA)|intro _|(show aA _ 372 _ _ _;refine CA (h:=RJ ?_))|(show aA _ 158 _ _ _;refine CA (h:=HI ?_)))
 (refine aC ?_;exact aB (hK))
theorem HR (hT:RI mr room open_ ask l ac tk dr) (hK:K (I6 (xO room open_ ask l)) (pt r [I6 2,.pointer none,.pointer none,PO q,PO d,I6 room,I6 open_,.bool en] 263::y5 q 64 0 l ac tk dr::rE d ask 2147483647::R)):CT 272 #[PO r] (pt r [I6 2,.pointer none,.pointer none,PO q,PO d,I6 room,I6 open_,.bool en] 263::y5 q 64 0 l ac tk dr::rE d ask 2147483647::R) K:=by
 refine aH Tryz.func272 ?_
 repeat' (first|refine v47 ?_|refine w5 ?_ ?_|((refine bh fun h=>?_) <;> try exact w6 h)|(refine aE fun hA=>?_;subst hA)|intro _|(show aA _ 371 _ _ _;refine CA (h:=TE hT ?_)))
 (refine aC ?_;exact aB (hK))
theorem O4 (hK:K (I6 (xO room open_ ask l)) (uB r mr room (open_+xO room open_ ask l) (ask - xO room open_ ask l) l ac tk dr en::R)):CT 187 #[PO r] (uB r mr room open_ ask l ac tk dr en::R) K:=by
 refine jM fun q d hT=>?_
 have hT':=hT
 obtain⟨h1,h2,h3,h4,h5,h6,h7,h8,h9,h10,h11⟩:=hT'
 have hd:0<=xO room open_ ask l/\xO room open_ ask l<=ask/\(xO room open_ ask l=0\/open_+xO room open_ ask l+l.length<=room):=by unfold xO;omega
 have hw:RI mr room (open_+xO room open_ ask l) (ask - xO room open_ ask l) l ac tk dr:=⟨h1,h2,h3,h4,by omega,by omega,h7,h8,h9,by omega,by omega⟩
 by_cases h0:xO room open_ ask l=0
 ·rw[h0,Int.add_zero,Int.sub_zero] at hK
  refine aH Tryz.func187 ?_
  repeat' (first|refine GF ?_|refine w5 ?_ ?_|((refine bh fun h=>?_) <;> try exact w6 h)|(refine aE fun hA=>?_;subst hA)|intro _|(show aA _ 272 _ _ _;refine CA (h:=HR hT ?_)))
  (refine aC ?_;exact aM (aG.trans (by exact aY) ((f8 hT))) (hK))
 ·refine aH Tryz.func187 ?_
  repeat' (first|refine GF ?_|refine w5 ?_ ?_|((refine bh fun h=>?_) <;> try exact w6 h)|(refine aE fun hA=>?_;subst hA)|intro _|(show aA _ 272 _ _ _;refine CA (h:=HR hT ?_))|(show aA _ 273 _ _ _;refine CA (h:=R0 (by omega) (by omega) (by omega) ?_)))
  (refine aC ?_;exact aM (aG.trans (by exact aY) ((f8 hw))) (hK))
def AE:List (Nat×Nat):= [(0,0),(1,0),(2,0),(3,0),(4,0),(5,0),(6,1),(7,0)]
theorem Mc (hs:sD w st it=true) (hK:K (I6 0) (uB r (max mr it) it open_ ask l ac tk dr en::R)):CT 297 #[PO r,.agg #[I6 w,I6 st,I6 it]] (uB r mr room open_ ask l ac tk dr en::R) K:=by
 refine jM fun q d hT=>?_
 obtain⟨h1,h2,h3,h4,h5,h6,h7,h8,h9,h10,h11⟩:=hT
 have hs2:=hs
 unfold sD at hs2
 rw[decide_eq_true_eq] at hs2
 have hw:RI (max mr it) it open_ ask l ac tk dr:=⟨h1,h2,h3,h4,h5,by omega,by omega,by omega,by omega,h10,h11⟩
 refine aH Tryz.func297 ?_
 repeat' (first|refine AB ?_|refine dw AE ?_|refine w5 ?_ ?_|((refine bh fun h=>?_) <;> try exact w6 h)|(refine aE fun hA=>?_;subst hA)|intro _|(show aA _ 170 _ _ _;refine CA (h:=vV (v:=0) (by rw[if_pos hs]) ?_)))
 (refine aC ?_;exact aM (aG.trans (by exact aY) ((f8 hw))) (hK))
theorem Km (he:en=true) (hK:K (.tuple #[I6 7,.bool false]) (uB r mr room open_ ask l ac tk dr en::R)):CT 389 #[PO r,.string s,.bool e] (uB r mr room open_ ask l ac tk dr en::R) K:=by
 subst he
 refine aH Tryz.func389 ?_
 repeat' (first|refine NY ?_|refine w5 ?_ ?_|((refine bh fun h=>?_) <;> try exact w6 h)|(refine aE fun hA=>?_;subst hA)|intro _|(show aA _ 241 _ _ _;refine CA (h:=Bj ?_)))
 (refine aC ?_;exact aB (hK))
theorem SN (h:s≠⟨#[]⟩):(!(s.toList == (ByteArray.mk #[]).toList))=true:=by
 rw[Bool.not_eq_true',beq_eq_false_iff_ne]
 intro e
 apply h
 rw[ByteArray.toList_eq,ByteArray.toList_eq] at e
 exact ByteArray.ext (Array.toList_inj.1 e)
theorem KB (he:en=false) (hs:s≠⟨#[]⟩\/e=false) (ho:open_<1) (hK:K (.tuple #[I6 10,.bool false]) (uB r mr room open_ ask l ac tk dr en::R)):CT 389 #[PO r,.string s,.bool e] (uB r mr room open_ ask l ac tk dr en::R) K:=by
 subst he
 refine jM fun q d hT=>?_
 by_cases h0:s=⟨#[]⟩
 ·subst h0
  rcases hs with h|rfl
  ·exact absurd rfl h
  ·refine aH Tryz.func389 ?_
   repeat' (first|refine NY ?_|refine w5 ?_ ?_|((refine bh fun h=>?_) <;> try exact w6 h)|(refine aE fun hA=>?_;subst hA)|intro _|(show aA _ 241 _ _ _;refine CA (h:=rM ?_)))
   (refine aC ?_;exact aM (aG.trans (by exact aY) ((f8 hT))) (hK))
 ·have hb:=SN h0
  refine aH Tryz.func389 ?_
  repeat' (first|(show Br _ _ _;refine Br.t hb ?_)|refine NY ?_|refine w5 ?_ ?_|((refine bh fun h=>?_) <;> try exact w6 h)|(refine aE fun hA=>?_;subst hA)|intro _|(show aA _ 241 _ _ _;refine CA (h:=rM ?_)))
  (refine aC ?_;exact aM (aG.trans (by exact aY) ((f8 hT))) (hK))
theorem Ky (he:en=false) (hK:K (.tuple #[I6 0,.bool true]) (uB r mr room open_ ask l ac tk dr true::R)):CT 389 #[PO r,.string ⟨#[]⟩,.bool true] (uB r mr room open_ ask l ac tk dr en::R) K:=by
 subst he
 refine jM fun q d hT=>?_
 refine aH Tryz.func389 ?_
 repeat' (first|refine NY ?_|refine w5 ?_ ?_|((refine bh fun h=>?_) <;> try exact w6 h)|(refine aE fun hA=>?_;subst hA)|intro _|(show aA _ 241 _ _ _;refine CA (h:=rM ?_)))
 (refine aC ?_;exact aM (aG.trans (by exact aY) ((f8 hT))) (hK))
theorem Fh (he:en=false) (hs:s≠⟨#[]⟩\/e=false) (ho:1<=open_) (hb:ac<=300000000) (hK:K (.tuple #[I6 0,.bool true]) (uB r mr room (open_ - 1) ask (l++ [s]) (ac+1) tk dr e::R)):CT 389 #[PO r,.string s,.bool e] (uB r mr room open_ ask l ac tk dr en::R) K:=by
 subst he
 refine jM fun q d hT=>?_
 obtain⟨h1,h2,h3,h4,h5,h6,h7,h8,h9,h10,h11⟩:=hT
 have hw:RI mr room (open_ - 1) ask (l++ [s]) (ac+1) tk dr:=⟨by simp;omega,h2,h3,by omega,by omega,by simp;omega,h7,h8,h9,h10,h11⟩
 by_cases h0:s=⟨#[]⟩
 ·subst h0
  rcases hs with h|rfl
  ·exact absurd rfl h
  ·refine aH Tryz.func389 ?_
   repeat' (first|refine NY ?_|refine w5 ?_ ?_|((refine bh fun h=>?_) <;> try exact w6 h)|(refine aE fun hA=>?_;subst hA)|intro _|(show aA _ 241 _ _ _;refine CA (h:=rM ?_))|(show aA _ 345 _ _ _;refine CA (h:=FH (by omega) (by omega) (by omega) ?_)))
   (refine aC ?_;exact aM (aG.trans (by exact aY) ((f8 hw))) (hK))
 ·have hb:=SN h0
  refine aH Tryz.func389 ?_
  repeat' (first|(show Br _ _ _;refine Br.t hb ?_)|refine NY ?_|refine w5 ?_ ?_|((refine bh fun h=>?_) <;> try exact w6 h)|(refine aE fun hA=>?_;subst hA)|intro _|(show aA _ 241 _ _ _;refine CA (h:=rM ?_))|(show aA _ 345 _ _ _;refine CA (h:=FH (by omega) (by omega) (by omega) ?_)))
  (refine aC ?_;exact aM (aG.trans (by exact aY) ((f8 hw))) (hK))
theorem GW (hK:K (I6 l.length) (uB r mr room open_ ask [] ac tk (dr+l.length) en::R)):CT 359 #[PO r] (uB r mr room open_ ask l ac tk dr en::R) K:=by
 refine jM fun q d hT=>?_
 obtain⟨h1,h2,h3,h4,h5,h6,h7,h8,h9,h10,h11⟩:=hT
 have hw:RI mr room open_ ask [] ac tk (dr+l.length):=⟨by simp;omega,h2,by omega,h4,h5,by simp;omega,h7,h8,h9,h10,h11⟩
 refine aH Tryz.func359 ?_
 repeat' (first|refine GF ?_|refine w5 ?_ ?_|((refine bh fun h=>?_) <;> try exact w6 h)|(refine aE fun hA=>?_;subst hA)|intro _|(show aA _ 426 _ _ _;refine CA (h:=HZ ?_))|(show aA _ 144 _ _ _;refine CA (h:=X0 ?_))|(show aA _ 427 _ _ _;refine CA (h:=Jb (by omega) (by omega) ?_)))
 rw[show(0:Int)+((l.length:Nat):Int)=l.length by omega]
 (refine aC ?_;exact aM (aG.trans (by exact aY) ((f8 hw))) (hK))
end Go.Proofs.YtepnmcipkangkaaGreat
