/- A part of the proof: lemmas; each with the conditions that it states. -/
import Derived.Test.YtffnpejdkkohcaaGreatBaj
set_option linter.unusedVariables false
set_option linter.unusedSimpArgs false
set_option maxRecDepth 100000
set_option maxHeartbeats 40000000
namespace Go.Proofs.YtffnpejdkkohcaaGreat
open Go Go.Proofs Go.Sl
attribute [local irreducible] aM eY cU bQ aL aW aA dS dT aZ dR pt ro fN star sep bH
variable {R C:List HP} {K:KP} {n cap most gr got us k w st it mr room open_ ask ac tk dr:Int} {p r2 r g q d:Nat} {bs:List UInt8} {en e:Bool} {s:ByteArray} {f:FuncId} {args:Array Value} {l:List ByteArray}
def zC (p:Nat) (cap most gr got us:Int):HP:=pt p [I6 cap,I6 most,I6 gr,I6 got,I6 us] 183
theorem Fx (hK:K (.bool (decide (0<=n) && decide (n<=2147483647))) R):CT 93 #[I6 n] R K:=by
 refine aJ Tryz.func93 ?_
 repeat' (first|refine v1 ?_|refine w5 ?_ ?_|((refine bh fun h=>?_) <;> try exact w6 h)|(refine aF fun hA=>?_;subst hA)|intro _)
 all_goals(refine aC ?_;exact aB (kb hK (by simp <;> omega)))
theorem NL (h:0<=n/\n<=4096) (hK:∀p,K (.tuple #[PO p,I6 0]) (zC p n n n 0 0::R)):CT 36 #[I6 n] R K:=by
 have e:(decide (0<=n) && decide (n<=2147483647))=true:=by simp;omega
 refine aJ Tryz.func36 ?_
 repeat' (first|(show cU _ _ _;rw[e])|refine v21 ?_|refine w5 ?_ ?_|((refine bh fun h=>?_) <;> try exact w6 h)|(refine aF fun hA=>?_;subst hA)|intro _|(show aA _ 93 _ _ _;refine CA (h:=Fx ?_)))
 (refine aC ?_;exact aB (hK _))
def BU:List (Nat×Nat):= [(0,0),(1,0),(2,0),(3,0),(4,0),(5,0),(6,0),(7,0),(8,0),(9,0)]
def uX:List (Nat×Nat):= [(0,0),(1,0),(2,0),(3,0),(4,0),(5,0),(6,0),(7,0),(8,0),(9,0),(10,0),(11,0)]
theorem Vq (hK:K (I6 1) R):CT 87 #[.pointer none,I6 n] R K:=by
 refine aJ Tryz.func87 ?_
 repeat' (first|refine v33 ?_|refine dw uX ?_|refine w5 ?_ ?_|((refine bh fun h=>?_) <;> try exact w6 h)|(refine aF fun hA=>?_;subst hA)|intro _)
 (refine aC ?_;exact aB (hK))
def vC:List (Nat×Nat):= [(0,0),(1,0),(2,0),(3,0),(4,0),(5,0),(6,0),(7,0),(8,0),(9,0),(10,0),(11,0),(12,0)]
theorem GI (h:0<=k/\k<=max (gr - got) 0) (hb:-900000000<=gr/\gr<=900000000/\0<=got/\got<=900000000/\k<=900000000) (hK:K (I6 0) (zC p cap most gr (got+k) us::R)):CT 197 #[PO p,I6 k] (zC p cap most gr got us::R) K:=by
 unfold zC at *
 refine aJ Tryz.func197 ?_
 repeat' (first|refine v66 ?_|refine dw vC ?_|refine w5 ?_ ?_|((refine bh fun h=>?_) <;> try exact w6 h)|(refine aF fun hA=>?_;subst hA)|intro _)
 all_goals(refine aC ?_;exact aB (hK))
theorem Ks (h:max (gr - got) 0<k) (hb:-900000000<=gr/\gr<=900000000/\0<=got/\got<=900000000) (hK:K (I6 9) (zC p cap most gr got us::R)):CT 197 #[PO p,I6 k] (zC p cap most gr got us::R) K:=by
 unfold zC at *
 refine aJ Tryz.func197 ?_
 repeat' (first|refine v66 ?_|refine dw vC ?_|refine w5 ?_ ?_|((refine bh fun h=>?_) <;> try exact w6 h)|(refine aF fun hA=>?_;subst hA)|intro _)
 all_goals(refine aC ?_;exact aB (hK))
theorem HK (h:0<=k/\k<=got - us) (hb:0<=us/\got<=900000000) (hK:K (I6 0) (zC p cap most gr got (us+k)::R)):CT 87 #[PO p,I6 k] (zC p cap most gr got us::R) K:=by
 unfold zC at *
 refine aJ Tryz.func87 ?_
 repeat' (first|refine v33 ?_|refine dw uX ?_|refine w5 ?_ ?_|((refine bh fun h=>?_) <;> try exact w6 h)|(refine aF fun hA=>?_;subst hA)|intro _)
 all_goals(refine aC ?_;exact aB (hK))
theorem Kr (hb:-900000000<=gr/\gr<=900000000/\0<=us/\us<=900000000) (hK:K (I6 (gr - us)) (zC p cap most gr got us::R)):CT 287 #[PO p] (zC p cap most gr got us::R) K:=by
 unfold zC at *
 refine aJ Tryz.func287 ?_
 repeat' (first|refine v22 ?_|refine dw BU ?_|refine w5 ?_ ?_|((refine bh fun h=>?_) <;> try exact w6 h)|(refine aF fun hA=>?_;subst hA)|intro _)
 (refine aC ?_;exact aB (hK))
theorem Kj (hb:0<=cap/\cap<=900000000) (hK:K (I6 ((cap+1) / 2)) (pt r2 [PO p] 85::zC p cap most gr got us::R)):CT 286 #[PO r2] (pt r2 [PO p] 85::zC p cap most gr got us::R) K:=by
 unfold zC at *
 refine aJ Tryz.func286 ?_
 repeat' (first|refine v43 ?_|refine w5 ?_ ?_|((refine bh fun h=>?_) <;> try exact w6 h)|(refine aF fun hA=>?_;subst hA)|intro _)
 (refine aC ?_;exact aB (hK))
def uF (cap gr us:Int):Int:=if 0<cap - (gr - us)/\cap<=2 * (cap - (gr - us)) then cap - (gr - us) else 0
def vA:List (Nat×Nat):= [(4,0),(5,1),(0,1),(1,1),(2,1),(3,1),(6,0),(7,0)]
theorem N9 (hc:0<=cap/\cap<=900000000) (hb:-900000000<=gr/\gr<=900000000/\0<=us/\us<=900000000) (hK:K (I6 (uF cap gr us)) (zC p cap most gr got us::R)):CT 216 #[PO p] (zC p cap most gr got us::R) K:=by
 unfold uF at hK
 have hh:∀m:Int,((cap+1) / 2<=m)↔cap<=2 * m:=fun m=>by omega
 by_cases c1:0<cap - (gr - us)/\cap<=2 * (cap - (gr - us))
 ·rw[if_pos c1] at hK
  unfold zC at *
  refine aJ Tryz.func216 ?_
  repeat' (first|refine v84 ?_|refine dw vA ?_|refine w5 ?_ ?_|((refine bh fun h=>?_) <;> try exact w6 h)|(refine aF fun hA=>?_;subst hA)|intro _|(show aA _ 287 _ _ _;refine CA (h:=Kr hb ?_))|(show aA _ 286 _ _ _;refine CA (h:=Kj hc ?_)))
  all_goals first|(exfalso;omega)|skip
  all_goals(refine aC ?_;exact aB (hK))
 ·rw[if_neg c1] at hK
  unfold zC at *
  refine aJ Tryz.func216 ?_
  repeat' (first|refine v84 ?_|refine dw vA ?_|refine w5 ?_ ?_|((refine bh fun h=>?_) <;> try exact w6 h)|(refine aF fun hA=>?_;subst hA)|intro _|(show aA _ 287 _ _ _;refine CA (h:=Kr hb ?_))|(show aA _ 286 _ _ _;refine CA (h:=Kj hc ?_)))
  all_goals first|(exfalso;omega)|skip
  all_goals(refine aC ?_;exact aB (hK))
theorem IE (hc:0<=cap/\cap<=900000000) (hb:-900000000<=gr/\gr<=900000000/\0<=us/\us<=900000000) (hK:K (I6 (uF cap gr us)) (zC p cap most (gr+uF cap gr us) got us::R)):CT 138 #[PO p] (zC p cap most gr got us::R) K:=by
 have h0:0<=uF cap gr us/\uF cap gr us<=3000000000:=by unfold uF;split <;> omega
 refine aJ Tryz.func138 ?_
 repeat' (first|refine v37 ?_|refine w5 ?_ ?_|((refine bh fun h=>?_) <;> try exact w6 h)|(refine aF fun hA=>?_;subst hA)|intro _|(show aA _ 216 _ _ _;refine CA (h:=N9 hc hb ?_)))
 ·(refine aC ?_;exact aB (hK))
 ·have e:uF cap gr us=0:=by omega
  rw[e] at hK
  rw[e]
  (refine aC ?_;exact aB ((by simpa using hK)))
def Az:List (Nat×Nat):= [(0,0),(1,0),(2,0),(3,0),(4,0),(5,0),(6,0),(7,0),(8,0),(9,0),(10,0),(11,0),(12,0),(13,1)]
theorem PZ {to:Int} (h:0<=to/\to<=4096) (hc:0<=cap/\cap<=4096) (hb:-900000000<=gr/\gr<=900000000) (hK:K (I6 0) (zC p to (max most to) (gr+(to - cap)) got us::R)):CT 268 #[PO p,I6 to] (zC p cap most gr got us::R) K:=by
 have e:(decide (0<=to) && decide (to<=2147483647))=true:=by simp;omega
 unfold zC at *
 refine aJ Tryz.func268 ?_
 repeat' (first|(show cU _ _ _;rw[e])|refine v68 ?_|refine dw Az ?_|refine w5 ?_ ?_|((refine bh fun h=>?_) <;> try exact w6 h)|(refine aF fun hA=>?_;subst hA)|intro _|(show aA _ 93 _ _ _;refine CA (h:=Fx ?_)))
 (refine aC ?_;exact aB (hK))
def pP (w st it:Int):Bool:=decide (0<=w/\w<=4096/\0<=st/\st<=32/\0<=it/\it<=64)
theorem P5 {m:Int} (hK:K (.bool (decide (0<=n/\n<=m))) R):CT 176 #[I6 n,I6 m] R K:=by
 refine aJ Tryz.func176 ?_
 repeat' (first|refine v1 ?_|refine w5 ?_ ?_|((refine bh fun h=>?_) <;> try exact w6 h)|(refine aF fun hA=>?_;subst hA)|intro _)
 all_goals(refine aC ?_;exact aB (kb hK (by simp <;> omega)))
theorem tX {v:Int} (hv:(if pP w st it=true then 0 else 3)=v) (hK:K (I6 v) R):CT 94 #[.agg #[I6 w,I6 st,I6 it]] R K:=by
 subst hv
 unfold pP at hK
 refine aJ Tryz.func94 ?_
 repeat' (first|refine v44 ?_|refine w5 ?_ ?_|((refine bh fun h=>?_) <;> try exact w6 h)|(refine aF fun hA=>?_;subst hA)|intro _|(show aA _ 176 _ _ _;refine CA (h:=P5 ?_)))
 all_goals(refine aC ?_;exact aB (ki hK (by simp only[decide_eq_true_eq];split <;> first|rfl|omega)))
theorem Ahn {b:Bool} (hv:pP w st it=b) (hK:K (.bool b) R):CT 4 #[.agg #[I6 w,I6 st,I6 it]] R K:=by
 subst hv
 unfold pP at hK
 refine aJ Tryz.func4 ?_
 repeat' (first|refine v19 ?_|refine w5 ?_ ?_|((refine bh fun h=>?_) <;> try exact w6 h)|(refine aF fun hA=>?_;subst hA)|intro _)
 all_goals(refine aC ?_;exact aB (kb hK (by simp <;> omega)))
def Cs:List (Nat×Nat):= [(0,0),(1,0),(2,0),(3,0),(4,1),(5,1),(6,1),(7,1),(8,1),(9,1),(10,0),(11,0)]
def y9:List (Nat×Nat):= [(0,0),(1,0),(2,0),(3,0),(4,0),(5,0),(6,1),(7,0)]
def RB (cap most gr got us:Int) (bs:List UInt8):Prop:=got=us+bs.length/\0<=us/\cap<=gr/\gr - us<=cap/\0<=cap/\cap<=most/\most<=4096/\(bs.length:Int)<=most/\got<=400000000/\got+cap<=gr+4096
def zE (r:Nat) (cap most gr got us:Int) (bs:List UInt8) (en:Bool):HP:=fN fun g=>fN fun p=>sep (pt r [I6 1,PO g,PO p,.pointer none,.pointer none,I6 0,I6 0,.bool en] 213) (sep (kJ g 4096 bs) (sep (zC p cap most gr got us) (bH (RB cap most gr got us bs))))
theorem lR (h:RB cap most gr got us bs):aG (pt r [I6 1,PO g,PO p,.pointer none,.pointer none,I6 0,I6 0,.bool en] 213::kJ g 4096 bs::zC p cap most gr got us::R) (zE r cap most gr got us bs en::R):=
 aG.ex g (aG.ex p (qU h))
theorem sA (h:∀g p,RB cap most gr got us bs->CT f args (pt r [I6 1,PO g,PO p,.pointer none,.pointer none,I6 0,I6 0,.bool en] 213::kJ g 4096 bs::zC p cap most gr got us::R) K):CT f args (zE r cap most gr got us bs en::R) K:=
 aA.ex fun g=>aA.ex fun p=>Ch fun hI=>h g p hI
theorem J3 (hs:pP w st it=true) (hK:∀r,K (.tuple #[PO r,I6 0]) (zE r w w w 0 0 [] false::R)):CT 172 #[I6 1,.agg #[I6 w,I6 st,I6 it]] R K:=by
 have hs2:=hs
 unfold pP at hs2
 rw[decide_eq_true_eq] at hs2
 refine aJ Tryz.func172 ?_
 repeat' (first|refine zB ?_|refine w5 ?_ ?_|((refine bh fun h=>?_) <;> try exact w6 h)|(refine aF fun hA=>?_;subst hA)|intro _|(show aA _ 94 _ _ _;refine CA (h:=tX (v:=0) (by rw[if_pos hs]) ?_))|(show aA _ 256 _ _ _;refine CA (h:=SX (cap:=4096) (by omega) (fun g=>?_)))|(show aA _ 36 _ _ _;refine CA (h:=NL (by omega) (fun p=>?_))))
 (refine aC ?_;exact aQ (aG.trans (by exact bE) ((lR ⟨by simp,by omega,by omega,by omega,by omega,by omega,by omega,by simp;omega,by omega⟩))) (hK _))
theorem yA (hK:K (.bool en) (pt r [I6 1,PO g,PO p,.pointer none,.pointer none,I6 0,I6 0,.bool en] 213::R)):CT 167 #[PO r] (pt r [I6 1,PO g,PO p,.pointer none,.pointer none,I6 0,I6 0,.bool en] 213::R) K:=by
 refine aJ Tryz.func167 ?_
 repeat' (first|refine v23 ?_|refine w5 ?_ ?_|((refine bh fun h=>?_) <;> try exact w6 h)|(refine aF fun hA=>?_;subst hA)|intro _)
 (refine aC ?_;exact aB (hK))
theorem Av (hK:K (.bool en) (zE r cap most gr got us bs en::R)):CT 167 #[PO r] (zE r cap most gr got us bs en::R) K:=by
 refine sA fun g p hT=>?_
 refine aJ Tryz.func167 ?_
 repeat' (first|refine v23 ?_|refine w5 ?_ ?_|((refine bh fun h=>?_) <;> try exact w6 h)|(refine aF fun hA=>?_;subst hA)|intro _)
 (refine aC ?_;exact aQ (aG.trans (by exact bE) ((lR hT))) (hK))
theorem uI (hK:K (I6 bs.length) (zE r cap most gr got us bs en::R)):CT 68 #[PO r] (zE r cap most gr got us bs en::R) K:=by
 refine sA fun g p hT=>?_
 have hT':=hT
 obtain⟨h1,h2,h3,h4,h5,h6,h7,h8,h9⟩:=hT'
 refine aJ Tryz.func68 ?_
 repeat' (first|refine Hf ?_|refine dw Cs ?_|refine w5 ?_ ?_|((refine bh fun h=>?_) <;> try exact w6 h)|(refine aF fun hA=>?_;subst hA)|intro _|(show aA _ 130 _ _ _;refine CA (h:=S6 ?_))|(show aA _ 131 _ _ _;refine CA (h:=KU ?_)))
 rw[show((bs.length:Nat):Int)+0=bs.length by omega]
 (refine aC ?_;exact aQ (aG.trans (by exact bE) ((lR hT))) (hK))
theorem QS (hK:K (.bool (en && decide (bs= []))) (zE r cap most gr got us bs en::R)):CT 88 #[PO r] (zE r cap most gr got us bs en::R) K:=by
 cases en
 ·refine aJ Tryz.func88 ?_
  repeat' (first|refine v15 ?_|refine w5 ?_ ?_|((refine bh fun h=>?_) <;> try exact w6 h)|(refine aF fun hA=>?_;subst hA)|intro _|(show aA _ 167 _ _ _;refine CA (h:=Av ?_))|(show aA _ 68 _ _ _;refine CA (h:=uI ?_)))
  (refine aC ?_;exact aB (hK))
 ·refine aJ Tryz.func88 ?_
  repeat' (first|refine v15 ?_|refine w5 ?_ ?_|((refine bh fun h=>?_) <;> try exact w6 h)|(refine aF fun hA=>?_;subst hA)|intro _|(show aA _ 167 _ _ _;refine CA (h:=Av ?_))|(show aA _ 68 _ _ _;refine CA (h:=uI ?_)))
  all_goals(refine aC ?_;exact aB (kb hK (by cases bs <;> simp <;> omega)))
theorem Y5 (hK:K (I6 (if k=1 then 0 else 13)) (pt r [I6 1,PO g,PO p,.pointer none,.pointer none,I6 0,I6 0,.bool en] 213::R)):CT 165 #[PO r,I6 k] (pt r [I6 1,PO g,PO p,.pointer none,.pointer none,I6 0,I6 0,.bool en] 213::R) K:=by
 by_cases h:k=1
 ·rw[if_pos h] at hK
  refine aJ Tryz.func165 ?_
  repeat' (first|refine v29 ?_|refine w5 ?_ ?_|((refine bh fun h=>?_) <;> try exact w6 h)|(refine aF fun hA=>?_;subst hA)|intro _)
  all_goals(refine aC ?_;exact aB (hK))
 ·rw[if_neg h] at hK
  refine aJ Tryz.func165 ?_
  repeat' (first|refine v29 ?_|refine w5 ?_ ?_|((refine bh fun h=>?_) <;> try exact w6 h)|(refine aF fun hA=>?_;subst hA)|intro _)
  all_goals(refine aC ?_;exact aB (hK))
theorem IV (hT:RB cap most gr got us bs) (hK:K (I6 (uF cap gr us)) (pt r [I6 1,PO g,PO p,.pointer none,.pointer none,I6 0,I6 0,.bool en] 213::zC p cap most gr got us::R)):CT 218 #[PO r] (pt r [I6 1,PO g,PO p,.pointer none,.pointer none,I6 0,I6 0,.bool en] 213::zC p cap most gr got us::R) K:=by
 obtain⟨h1,h2,h3,h4,h5,h6,h7,h8,h9⟩:=hT
 refine aJ Tryz.func218 ?_
 repeat' (first|refine v47 ?_|refine w5 ?_ ?_|((refine bh fun h=>?_) <;> try exact w6 h)|(refine aF fun hA=>?_;subst hA)|intro _|(show aA _ 216 _ _ _;refine CA (h:=N9 (by omega) (by omega) ?_)))
 (refine aC ?_;exact aB (hK))
theorem ZN (hT:RB cap most gr got us bs):RB cap most (gr+uF cap gr us) got us bs:=by
 obtain⟨h1,h2,h3,h4,h5,h6,h7,h8,h9⟩:=hT
 have:0<=uF cap gr us/\gr+uF cap gr us - us<=cap:=by unfold uF;split <;> omega
 exact⟨h1,h2,by omega,by omega,h5,h6,h7,h8,by omega⟩
theorem Oh (hK:K (I6 (uF cap gr us)) (zE r cap most (gr+uF cap gr us) got us bs en::R)):CT 141 #[PO r] (zE r cap most gr got us bs en::R) K:=by
 refine sA fun g p hT=>?_
 have hw:=ZN hT
 have hT':=hT
 obtain⟨h1,h2,h3,h4,h5,h6,h7,h8,h9⟩:=hT'
 by_cases h0:uF cap gr us=0
 ·rw[h0,Int.add_zero] at hK
  refine aJ Tryz.func141 ?_
  repeat' (first|refine Hf ?_|refine w5 ?_ ?_|((refine bh fun h=>?_) <;> try exact w6 h)|(refine aF fun hA=>?_;subst hA)|intro _|(show aA _ 218 _ _ _;refine CA (h:=IV hT ?_)))
  (refine aC ?_;exact aQ (aG.trans (by exact bE) ((lR hT))) (hK))
 ·refine aJ Tryz.func141 ?_
  repeat' (first|refine Hf ?_|refine w5 ?_ ?_|((refine bh fun h=>?_) <;> try exact w6 h)|(refine aF fun hA=>?_;subst hA)|intro _|(show aA _ 218 _ _ _;refine CA (h:=IV hT ?_))|(show aA _ 138 _ _ _;refine CA (h:=IE (by omega) (by omega) ?_)))
  (refine aC ?_;exact aQ (aG.trans (by exact bE) ((lR hw))) (hK))
theorem Mr (hs:pP w st it=true) (hK:K (I6 0) (zE r w (max most w) (gr+(w - cap)) got us bs en::R)):CT 187 #[PO r,.agg #[I6 w,I6 st,I6 it]] (zE r cap most gr got us bs en::R) K:=by
 refine sA fun g p hT=>?_
 obtain⟨h1,h2,h3,h4,h5,h6,h7,h8,h9⟩:=hT
 have hs2:=hs
 unfold pP at hs2
 rw[decide_eq_true_eq] at hs2
 have hw:RB w (max most w) (gr+(w - cap)) got us bs:=⟨h1,h2,by omega,by omega,by omega,by omega,by omega,by omega,by omega⟩
 refine aJ Tryz.func187 ?_
 repeat' (first|refine zB ?_|refine dw y9 ?_|refine w5 ?_ ?_|((refine bh fun h=>?_) <;> try exact w6 h)|(refine aF fun hA=>?_;subst hA)|intro _|(show aA _ 94 _ _ _;refine CA (h:=tX (v:=0) (by rw[if_pos hs]) ?_))|(show aA _ 268 _ _ _;refine CA (h:=PZ (by omega) (by omega) (by omega) ?_)))
 (refine aC ?_;exact aQ (aG.trans (by exact bE) ((lR hw))) (hK))
theorem Jy (he:en=true) (hK:K (.tuple #[I6 7,.bool false]) (zE r cap most gr got us bs en::R)):CT 275 #[PO r,.string s,.bool e] (zE r cap most gr got us bs en::R) K:=by
 subst he
 refine aJ Tryz.func275 ?_
 repeat' (first|refine LK ?_|refine w5 ?_ ?_|((refine bh fun h=>?_) <;> try exact w6 h)|(refine aF fun hA=>?_;subst hA)|intro _|(show aA _ 167 _ _ _;refine CA (h:=Av ?_)))
 (refine aC ?_;exact aB (hK))
theorem Jx (he:en=false) (hs:max (gr - got) 0<s.size) (hK:K (.tuple #[I6 8,.bool false]) (zE r cap most gr got us bs en::R)):CT 275 #[PO r,.string s,.bool e] (zE r cap most gr got us bs en::R) K:=by
 subst he
 refine sA fun g p hT=>?_
 have hT':=hT
 obtain⟨h1,h2,h3,h4,h5,h6,h7,h8,h9⟩:=hT'
 refine aJ Tryz.func275 ?_
 repeat' (first|refine LK ?_|refine w5 ?_ ?_|((refine bh fun h=>?_) <;> try exact w6 h)|(refine aF fun hA=>?_;subst hA)|intro _|(show aA _ 167 _ _ _;refine CA (h:=yA ?_))|(show aA _ 197 _ _ _;refine CA (h:=Ks hs (by omega) ?_)))
 (refine aC ?_;exact aQ (aG.trans (by exact bE) ((lR hT))) (hK))
theorem DY (he:en=false) (hs:s.size<=max (gr - got) 0) (hb:got+s.size<=400000000) (hK:K (.tuple #[I6 0,.bool true]) (zE r cap most gr (got+s.size) us (bs++s.data.toList) e::R)):CT 275 #[PO r,.string s,.bool e] (zE r cap most gr got us bs en::R) K:=by
 subst he
 refine sA fun g p hT=>?_
 obtain⟨h1,h2,h3,h4,h5,h6,h7,h8,h9⟩:=hT
 have hsl:s.data.toList.length=s.size:=by simp
 have hw:RB cap most gr (got+s.size) us (bs++s.data.toList):=⟨by rw[List.length_append,hsl];omega,h2,h3,h4,h5,h6,h7,by rw[List.length_append,hsl];omega,hb,by omega⟩
 by_cases h0:s.size=0
 ·have e0:s.data.toList= []:=List.length_eq_zero_iff.1 (by omega)
  rw[e0,List.append_nil] at hw hK
  refine aJ Tryz.func275 ?_
  repeat' (first|refine LK ?_|refine w5 ?_ ?_|((refine bh fun h=>?_) <;> try exact w6 h)|(refine aF fun hA=>?_;subst hA)|intro _|(show aA _ 167 _ _ _;refine CA (h:=yA ?_))|(show aA _ 197 _ _ _;refine CA (h:=GI (by omega) (by omega) ?_))|(show aA _ 247 _ _ _;refine CA (h:=Ib (by omega) (.inl h0) ?_)))
  (refine aC ?_;exact aQ (aG.trans (by exact bE) ((lR hw))) (hK))
 ·have et:s.data.toList.take s.size=s.data.toList:=List.take_of_length_le (by omega)
  refine aJ Tryz.func275 ?_
  repeat' (first|refine LK ?_|refine w5 ?_ ?_|((refine bh fun h=>?_) <;> try exact w6 h)|(refine aF fun hA=>?_;subst hA)|intro _|(show aA _ 167 _ _ _;refine CA (h:=yA ?_))|(show aA _ 197 _ _ _;refine CA (h:=GI (by omega) (by omega) ?_))|(show aA _ 247 _ _ _;refine CA (h:=Kn (n:=s.size) (by omega) (by omega) (by omega) ?_)))
  rw[et]
  (refine aC ?_;exact aQ (aG.trans (by exact bE) ((lR hw))) (hK))
theorem SC {kk:Nat} (hk:(kk:Int)=max (min n bs.length) 0) (hK:K (.tuple #[.string ⟨(bs.take kk).toArray⟩,I6 0]) (zE r cap most gr got (us+kk) (bs.drop kk) en::R)):CT 86 #[PO r,I6 n] (zE r cap most gr got us bs en::R) K:=by
 refine sA fun g p hT=>?_
 obtain⟨h1,h2,h3,h4,h5,h6,h7,h8,h9⟩:=hT
 have hs:(ByteArray.mk (bs.take kk).toArray).size=kk:=by simp[pJ];omega
 have hw:RB cap most gr got (us+kk) (bs.drop kk):=⟨by rw[List.length_drop];omega,by omega,h3,by omega,h5,h6,h7,by rw[List.length_drop];omega,h9⟩
 refine aJ Tryz.func86 ?_
 repeat' (first|refine TO ?_|refine w5 ?_ ?_|((refine bh fun h=>?_) <;> try exact w6 h)|(refine aF fun hA=>?_;subst hA)|intro _|(show aA _ 165 _ _ _;refine CA (h:=Y5 ?_))|(show aA _ 166 _ _ _;refine CA (h:=Eu (kk:=kk) (by omega) hk ?_))|(show aA _ 87 _ _ _;refine CA (h:=HK (by rw[hs];omega) (by omega) ?_)))
 rw[hs]
 (refine aC ?_;exact aQ (aG.trans (by exact bE) ((lR hw))) (hK))
theorem FH (hK:K (I6 bs.length) (zE r cap most gr got (us+bs.length) [] en::R)):CT 272 #[PO r] (zE r cap most gr got us bs en::R) K:=by
 refine sA fun g p hT=>?_
 obtain⟨h1,h2,h3,h4,h5,h6,h7,h8,h9⟩:=hT
 have hw:RB cap most gr got (us+bs.length) []:=⟨by simp;omega,by omega,h3,by omega,h5,h6,h7,by simp;omega,h9⟩
 refine aJ Tryz.func272 ?_
 repeat' (first|refine Hf ?_|refine w5 ?_ ?_|((refine bh fun h=>?_) <;> try exact w6 h)|(refine aF fun hA=>?_;subst hA)|intro _|(show aA _ 321 _ _ _;refine CA (h:=Kb (by omega) ?_))|(show aA _ 87 _ _ _;refine CA (h:=HK (by omega) (by omega) ?_))|(show aA _ 322 _ _ _;refine CA (h:=FK ?_)))
 rw[show((bs.length:Nat):Int)+0=bs.length by omega]
 (refine aC ?_;exact aQ (aG.trans (by exact bE) ((lR hw))) (hK))
def RI (mr room open_ ask:Int) (l:List ByteArray) (ac tk dr:Int):Prop:=ac=tk+dr+l.length/\0<=tk/\0<=dr/\ac<=400000000/\0<=open_/\open_+l.length<=mr/\0<=room/\room<=mr/\mr<=64/\0<=ask/\ask<=2147483647
def xQ (r:Nat) (mr room open_ ask:Int) (l:List ByteArray) (ac tk dr:Int) (en:Bool):HP:=fN fun q=>fN fun d=>sep (pt r [I6 2,.pointer none,.pointer none,PO q,PO d,I6 room,I6 open_,.bool en] 213) (sep (wC q 64 0 l ac tk dr) (sep (pB d ask 2147483647) (bH (RI mr room open_ ask l ac tk dr))))
theorem kD (h:RI mr room open_ ask l ac tk dr):aG (pt r [I6 2,.pointer none,.pointer none,PO q,PO d,I6 room,I6 open_,.bool en] 213::wC q 64 0 l ac tk dr::pB d ask 2147483647::R) (xQ r mr room open_ ask l ac tk dr en::R):=
 aG.ex q (aG.ex d (qU h))
theorem pQ (h:∀q d,RI mr room open_ ask l ac tk dr->CT f args (pt r [I6 2,.pointer none,.pointer none,PO q,PO d,I6 room,I6 open_,.bool en] 213::wC q 64 0 l ac tk dr::pB d ask 2147483647::R) K):CT f args (xQ r mr room open_ ask l ac tk dr en::R) K:=
 aA.ex fun q=>aA.ex fun d=>Ch fun hI=>h q d hI
theorem JA (hs:pP w st it=true) (hK:∀r,K (.tuple #[PO r,I6 0]) (xQ r it it 0 0 [] 0 0 0 false::R)):CT 172 #[I6 2,.agg #[I6 w,I6 st,I6 it]] R K:=by
 have hs2:=hs
 unfold pP at hs2
 rw[decide_eq_true_eq] at hs2
 refine aJ Tryz.func172 ?_
 repeat' (first|refine zB ?_|refine w5 ?_ ?_|((refine bh fun h=>?_) <;> try exact w6 h)|(refine aF fun hA=>?_;subst hA)|intro _|(show aA _ 94 _ _ _;refine CA (h:=tX (v:=0) (by rw[if_pos hs]) ?_))|(show aA _ 257 _ _ _;refine CA (h:=PU (by omega) (by omega) (fun q=>?_)))|(show aA _ 258 _ _ _;refine CA (h:=TC (by omega) (fun d=>?_))))
 (refine aC ?_;exact aQ (aG.trans (by exact bE) ((kD ⟨by simp,by omega,by omega,by omega,by omega,by simp;omega,by omega,by omega,by omega,by omega,by omega⟩))) (hK _))
theorem pS (hK:K (.bool en) (pt r [I6 2,.pointer none,.pointer none,PO q,PO d,I6 room,I6 open_,.bool en] 213::R)):CT 167 #[PO r] (pt r [I6 2,.pointer none,.pointer none,PO q,PO d,I6 room,I6 open_,.bool en] 213::R) K:=by
 refine aJ Tryz.func167 ?_
 repeat' (first|refine v23 ?_|refine w5 ?_ ?_|((refine bh fun h=>?_) <;> try exact w6 h)|(refine aF fun hA=>?_;subst hA)|intro _)
 (refine aC ?_;exact aB (hK))
theorem Aw (hK:K (.bool en) (xQ r mr room open_ ask l ac tk dr en::R)):CT 167 #[PO r] (xQ r mr room open_ ask l ac tk dr en::R) K:=by
 refine pQ fun q d hT=>?_
 refine aJ Tryz.func167 ?_
 repeat' (first|refine v23 ?_|refine w5 ?_ ?_|((refine bh fun h=>?_) <;> try exact w6 h)|(refine aF fun hA=>?_;subst hA)|intro _)
 (refine aC ?_;exact aQ (aG.trans (by exact bE) ((kD hT))) (hK))
def CJ:List (Nat×Nat):= [(0,0),(1,0),(2,0),(3,0),(4,1),(5,1),(6,1),(7,1),(8,1),(9,1),(10,0),(11,0)]
theorem uD (hK:K (I6 l.length) (xQ r mr room open_ ask l ac tk dr en::R)):CT 68 #[PO r] (xQ r mr room open_ ask l ac tk dr en::R) K:=by
 refine pQ fun q d hT=>?_
 have hT':=hT
 obtain⟨h1,h2,h3,h4,h5,h6,h7,h8,h9,h10,h11⟩:=hT'
 refine aJ Tryz.func68 ?_
 repeat' (first|refine Hf ?_|refine dw CJ ?_|refine w5 ?_ ?_|((refine bh fun h=>?_) <;> try exact w6 h)|(refine aF fun hA=>?_;subst hA)|intro _|(show aA _ 130 _ _ _;refine CA (h:=HF ?_))|(show aA _ 131 _ _ _;refine CA (h:=HD ?_)))
 rw[show(0:Int)+((l.length:Nat):Int)=l.length by omega]
 (refine aC ?_;exact aQ (aG.trans (by exact bE) ((kD hT))) (hK))
theorem QP (hK:K (.bool (en && decide (l= []))) (xQ r mr room open_ ask l ac tk dr en::R)):CT 88 #[PO r] (xQ r mr room open_ ask l ac tk dr en::R) K:=by
 cases en
 ·refine aJ Tryz.func88 ?_
  repeat' (first|refine v15 ?_|refine w5 ?_ ?_|((refine bh fun h=>?_) <;> try exact w6 h)|(refine aF fun hA=>?_;subst hA)|intro _|(show aA _ 167 _ _ _;refine CA (h:=Aw ?_))|(show aA _ 68 _ _ _;refine CA (h:=uD ?_)))
  (refine aC ?_;exact aB (hK))
 ·refine aJ Tryz.func88 ?_
  repeat' (first|refine v15 ?_|refine w5 ?_ ?_|((refine bh fun h=>?_) <;> try exact w6 h)|(refine aF fun hA=>?_;subst hA)|intro _|(show aA _ 167 _ _ _;refine CA (h:=Aw ?_))|(show aA _ 68 _ _ _;refine CA (h:=uD ?_)))
  all_goals(refine aC ?_;exact aB (kb hK (by cases l <;> simp <;> omega)))
theorem Abj (hK:K (I6 (if k=2 then 0 else 13)) (pt r [I6 2,.pointer none,.pointer none,PO q,PO d,I6 room,I6 open_,.bool en] 213::R)):CT 165 #[PO r,I6 k] (pt r [I6 2,.pointer none,.pointer none,PO q,PO d,I6 room,I6 open_,.bool en] 213::R) K:=by
 by_cases h:k=2
 ·rw[if_pos h] at hK
  refine aJ Tryz.func165 ?_
  repeat' (first|refine v29 ?_|refine w5 ?_ ?_|((refine bh fun h=>?_) <;> try exact w6 h)|(refine aF fun hA=>?_;subst hA)|intro _)
  all_goals(refine aC ?_;exact aB (hK))
 ·rw[if_neg h] at hK
  refine aJ Tryz.func165 ?_
  repeat' (first|refine v29 ?_|refine w5 ?_ ?_|((refine bh fun h=>?_) <;> try exact w6 h)|(refine aF fun hA=>?_;subst hA)|intro _)
  all_goals(refine aC ?_;exact aB (hK))
theorem Rl (hK:K (.tuple #[.string ⟨#[]⟩,I6 13]) (xQ r mr room open_ ask l ac tk dr en::R)):CT 86 #[PO r,I6 n] (xQ r mr room open_ ask l ac tk dr en::R) K:=by
 refine pQ fun q d hT=>?_
 refine aJ Tryz.func86 ?_
 repeat' (first|refine TO ?_|refine w5 ?_ ?_|((refine bh fun h=>?_) <;> try exact w6 h)|(refine aF fun hA=>?_;subst hA)|intro _|(show aA _ 165 _ _ _;refine CA (h:=Abj ?_)))
 (refine aC ?_;exact aQ (aG.trans (by exact bE) ((kD hT))) (hK))
def x7 (room open_ ask:Int) (l:List ByteArray):Int:=max (min ask (room - open_ - l.length)) 0
def BP:List Nat:= [0,1,3,7,15,0,32,96,224,0,512,1536,3584,8160,0,16384,49152,114688,245791,524287,1048575,2097151,4194303]
def BM:List Nat:= [4194303,2097151,1048575,524287,245791,114688,49152,16384,0,8160,3584,1536,512,0,224,96,32,0,15,7,3,1,0]
def BO:List (Nat×Nat):= [(0,0),(1,0),(2,0),(3,0),(4,1),(14,1),(15,1),(16,1),(17,1),(18,1),(5,2),(6,2),(7,2),(8,2),(9,2),(10,2),(11,2),(12,2),(13,2),(19,0),(20,0),(21,0),(22,0)]
theorem RY (hT:RI mr room open_ ask l ac tk dr) (hK:K (I6 (x7 room open_ ask l)) (pt r2 [PO r] 136::pt r [I6 2,.pointer none,.pointer none,PO q,PO d,I6 room,I6 open_,.bool en] 213::wC q 64 0 l ac tk dr::pB d ask 2147483647::R)):CT 288 #[PO r2] (pt r2 [PO r] 136::pt r [I6 2,.pointer none,.pointer none,PO q,PO d,I6 room,I6 open_,.bool en] 213::wC q 64 0 l ac tk dr::pB d ask 2147483647::R) K:=by
 obtain⟨h1,h2,h3,h4,h5,h6,h7,h8,h9,h10,h11⟩:=hT
 unfold x7 at hK
 refine aJ Tryz.func288 ?_
 repeat' (first|refine v67 ?_|refine ON BP BM BO ?_|refine w5 ?_ ?_|((refine bh fun h=>?_) <;> try exact w6 h)|(refine aF fun hA=>?_;subst hA)|intro _|(show aA _ 289 _ _ _;refine CA (h:=Ou ?_))|(show aA _ 131 _ _ _;refine CA (h:=HD ?_)))
 (refine aC ?_;exact aB (hK))
theorem It (hT:RI mr room open_ ask l ac tk dr) (hK:K (I6 (x7 room open_ ask l)) (pt r [I6 2,.pointer none,.pointer none,PO q,PO d,I6 room,I6 open_,.bool en] 213::wC q 64 0 l ac tk dr::pB d ask 2147483647::R)):CT 218 #[PO r] (pt r [I6 2,.pointer none,.pointer none,PO q,PO d,I6 room,I6 open_,.bool en] 213::wC q 64 0 l ac tk dr::pB d ask 2147483647::R) K:=by
 refine aJ Tryz.func218 ?_
 repeat' (first|refine v47 ?_|refine w5 ?_ ?_|((refine bh fun h=>?_) <;> try exact w6 h)|(refine aF fun hA=>?_;subst hA)|intro _|(show aA _ 288 _ _ _;refine CA (h:=RY hT ?_)))
 (refine aC ?_;exact aB (hK))
theorem O2 (hK:K (I6 (x7 room open_ ask l)) (xQ r mr room (open_+x7 room open_ ask l) (ask - x7 room open_ ask l) l ac tk dr en::R)):CT 141 #[PO r] (xQ r mr room open_ ask l ac tk dr en::R) K:=by
 refine pQ fun q d hT=>?_
 have hT':=hT
 obtain⟨h1,h2,h3,h4,h5,h6,h7,h8,h9,h10,h11⟩:=hT'
 have hd:0<=x7 room open_ ask l/\x7 room open_ ask l<=ask/\(x7 room open_ ask l=0\/open_+x7 room open_ ask l+l.length<=room):=by unfold x7;omega
 have hw:RI mr room (open_+x7 room open_ ask l) (ask - x7 room open_ ask l) l ac tk dr:=⟨h1,h2,h3,h4,by omega,by omega,h7,h8,h9,by omega,by omega⟩
 by_cases h0:x7 room open_ ask l=0
 ·rw[h0,Int.add_zero,Int.sub_zero] at hK
  refine aJ Tryz.func141 ?_
  repeat' (first|refine Hf ?_|refine w5 ?_ ?_|((refine bh fun h=>?_) <;> try exact w6 h)|(refine aF fun hA=>?_;subst hA)|intro _|(show aA _ 218 _ _ _;refine CA (h:=It hT ?_)))
  (refine aC ?_;exact aQ (aG.trans (by exact bE) ((kD hT))) (hK))
 ·refine aJ Tryz.func141 ?_
  repeat' (first|refine Hf ?_|refine w5 ?_ ?_|((refine bh fun h=>?_) <;> try exact w6 h)|(refine aF fun hA=>?_;subst hA)|intro _|(show aA _ 218 _ _ _;refine CA (h:=It hT ?_))|(show aA _ 219 _ _ _;refine CA (h:=PM (by omega) (by omega) (by omega) ?_)))
  (refine aC ?_;exact aQ (aG.trans (by exact bE) ((kD hw))) (hK))
def yY:List (Nat×Nat):= [(0,0),(1,0),(2,0),(3,0),(4,0),(5,0),(6,1),(7,0)]
theorem L6 (hs:pP w st it=true) (hK:K (I6 0) (xQ r (max mr it) it open_ ask l ac tk dr en::R)):CT 187 #[PO r,.agg #[I6 w,I6 st,I6 it]] (xQ r mr room open_ ask l ac tk dr en::R) K:=by
 refine pQ fun q d hT=>?_
 obtain⟨h1,h2,h3,h4,h5,h6,h7,h8,h9,h10,h11⟩:=hT
 have hs2:=hs
 unfold pP at hs2
 rw[decide_eq_true_eq] at hs2
 have hw:RI (max mr it) it open_ ask l ac tk dr:=⟨h1,h2,h3,h4,h5,by omega,by omega,by omega,by omega,h10,h11⟩
 refine aJ Tryz.func187 ?_
 repeat' (first|refine zB ?_|refine dw yY ?_|refine w5 ?_ ?_|((refine bh fun h=>?_) <;> try exact w6 h)|(refine aF fun hA=>?_;subst hA)|intro _|(show aA _ 94 _ _ _;refine CA (h:=tX (v:=0) (by rw[if_pos hs]) ?_)))
 (refine aC ?_;exact aQ (aG.trans (by exact bE) ((kD hw))) (hK))
theorem Ja (he:en=true) (hK:K (.tuple #[I6 7,.bool false]) (xQ r mr room open_ ask l ac tk dr en::R)):CT 275 #[PO r,.string s,.bool e] (xQ r mr room open_ ask l ac tk dr en::R) K:=by
 subst he
 refine aJ Tryz.func275 ?_
 repeat' (first|refine LK ?_|refine w5 ?_ ?_|((refine bh fun h=>?_) <;> try exact w6 h)|(refine aF fun hA=>?_;subst hA)|intro _|(show aA _ 167 _ _ _;refine CA (h:=Aw ?_)))
 (refine aC ?_;exact aB (hK))
theorem Ry (h:s≠⟨#[]⟩):(!(s.toList == (ByteArray.mk #[]).toList))=true:=by
 rw[Bool.not_eq_true',beq_eq_false_iff_ne]
 intro e
 apply h
 rw[ByteArray.toList_eq,ByteArray.toList_eq] at e
 exact ByteArray.ext (Array.toList_inj.1 e)
theorem Jf (he:en=false) (hs:s≠⟨#[]⟩\/e=false) (ho:open_<1) (hK:K (.tuple #[I6 10,.bool false]) (xQ r mr room open_ ask l ac tk dr en::R)):CT 275 #[PO r,.string s,.bool e] (xQ r mr room open_ ask l ac tk dr en::R) K:=by
 subst he
 refine pQ fun q d hT=>?_
 by_cases h0:s=⟨#[]⟩
 ·subst h0
  rcases hs with h|rfl
  ·exact absurd rfl h
  ·refine aJ Tryz.func275 ?_
   repeat' (first|refine LK ?_|refine w5 ?_ ?_|((refine bh fun h=>?_) <;> try exact w6 h)|(refine aF fun hA=>?_;subst hA)|intro _|(show aA _ 167 _ _ _;refine CA (h:=pS ?_)))
   (refine aC ?_;exact aQ (aG.trans (by exact bE) ((kD hT))) (hK))
 ·have hb:=Ry h0
  refine aJ Tryz.func275 ?_
  repeat' (first|(show Br _ _ _;refine Br.t hb ?_)|refine LK ?_|refine w5 ?_ ?_|((refine bh fun h=>?_) <;> try exact w6 h)|(refine aF fun hA=>?_;subst hA)|intro _|(show aA _ 167 _ _ _;refine CA (h:=pS ?_)))
  (refine aC ?_;exact aQ (aG.trans (by exact bE) ((kD hT))) (hK))
theorem Jp (he:en=false) (hK:K (.tuple #[I6 0,.bool true]) (xQ r mr room open_ ask l ac tk dr true::R)):CT 275 #[PO r,.string ⟨#[]⟩,.bool true] (xQ r mr room open_ ask l ac tk dr en::R) K:=by
 subst he
 refine pQ fun q d hT=>?_
 refine aJ Tryz.func275 ?_
 repeat' (first|refine LK ?_|refine w5 ?_ ?_|((refine bh fun h=>?_) <;> try exact w6 h)|(refine aF fun hA=>?_;subst hA)|intro _|(show aA _ 167 _ _ _;refine CA (h:=pS ?_)))
 (refine aC ?_;exact aQ (aG.trans (by exact bE) ((kD hT))) (hK))
theorem Dy (he:en=false) (hs:s≠⟨#[]⟩\/e=false) (ho:1<=open_) (hb:ac<=300000000) (hK:K (.tuple #[I6 0,.bool true]) (xQ r mr room (open_ - 1) ask (l++ [s]) (ac+1) tk dr e::R)):CT 275 #[PO r,.string s,.bool e] (xQ r mr room open_ ask l ac tk dr en::R) K:=by
 subst he
 refine pQ fun q d hT=>?_
 obtain⟨h1,h2,h3,h4,h5,h6,h7,h8,h9,h10,h11⟩:=hT
 have hw:RI mr room (open_ - 1) ask (l++ [s]) (ac+1) tk dr:=⟨by simp;omega,h2,h3,by omega,by omega,by simp;omega,h7,h8,h9,h10,h11⟩
 by_cases h0:s=⟨#[]⟩
 ·subst h0
  rcases hs with h|rfl
  ·exact absurd rfl h
  ·refine aJ Tryz.func275 ?_
   repeat' (first|refine LK ?_|refine w5 ?_ ?_|((refine bh fun h=>?_) <;> try exact w6 h)|(refine aF fun hA=>?_;subst hA)|intro _|(show aA _ 167 _ _ _;refine CA (h:=pS ?_))|(show aA _ 248 _ _ _;refine CA (h:=EW (by omega) (by omega) (by omega) ?_)))
   (refine aC ?_;exact aQ (aG.trans (by exact bE) ((kD hw))) (hK))
 ·have hb:=Ry h0
  refine aJ Tryz.func275 ?_
  repeat' (first|(show Br _ _ _;refine Br.t hb ?_)|refine LK ?_|refine w5 ?_ ?_|((refine bh fun h=>?_) <;> try exact w6 h)|(refine aF fun hA=>?_;subst hA)|intro _|(show aA _ 167 _ _ _;refine CA (h:=pS ?_))|(show aA _ 248 _ _ _;refine CA (h:=EW (by omega) (by omega) (by omega) ?_)))
  (refine aC ?_;exact aQ (aG.trans (by exact bE) ((kD hw))) (hK))
theorem FB (hK:K (I6 l.length) (xQ r mr room open_ ask [] ac tk (dr+l.length) en::R)):CT 272 #[PO r] (xQ r mr room open_ ask l ac tk dr en::R) K:=by
 refine pQ fun q d hT=>?_
 obtain⟨h1,h2,h3,h4,h5,h6,h7,h8,h9,h10,h11⟩:=hT
 have hw:RI mr room open_ ask [] ac tk (dr+l.length):=⟨by simp;omega,h2,by omega,h4,h5,by simp;omega,h7,h8,h9,h10,h11⟩
 refine aJ Tryz.func272 ?_
 repeat' (first|refine Hf ?_|refine w5 ?_ ?_|((refine bh fun h=>?_) <;> try exact w6 h)|(refine aF fun hA=>?_;subst hA)|intro _|(show aA _ 321 _ _ _;refine CA (h:=GR ?_))|(show aA _ 87 _ _ _;refine CA (h:=Vq ?_))|(show aA _ 322 _ _ _;refine CA (h:=Ic (by omega) (by omega) ?_)))
 rw[show(0:Int)+((l.length:Nat):Int)=l.length by omega]
 (refine aC ?_;exact aQ (aG.trans (by exact bE) ((kD hw))) (hK))
end Go.Proofs.YtffnpejdkkohcaaGreat
