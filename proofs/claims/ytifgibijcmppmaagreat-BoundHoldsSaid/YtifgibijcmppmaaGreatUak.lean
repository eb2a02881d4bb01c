/- A part of the proof: lemmas; each with the conditions that it states. -/
import Derived.Test.YtifgibijcmppmaaGreatUah
set_option linter.unusedVariables false
set_option linter.unusedSimpArgs false
set_option maxRecDepth 100000
set_option maxHeartbeats 40000000
namespace Go.Proofs.YtifgibijcmppmaaGreat
open Go Go.Proofs Go.Sl
attribute [local irreducible] aN fN cX bP aM aX aA dS dV aT dU pt ro eV star sep bH
section
variable {R C:List HP} {K:KP}
def TB (cap:Nat) (bs:List UInt8) (en ou:Bool) (ac se dr:Int):Prop:=ac=se+dr+bs.length∧0≤se∧0≤dr∧ac≤900000000∧bs.length≤cap∧cap≤4096∧(ou=true→en=true∧bs= [])
def yN (t cap:Nat) (bs:List UInt8) (en ou:Bool) (ac se dr:Int):HP:=eV fun r=>sep (pt t [I6 ac,I6 se,I6 dr,I6 1,PO r,.pointer none,.pointer none,.bool en,.bool ou] 263) (sep (j1 r cap bs) (bH (TB cap bs en ou ac se dr)))
theorem jH {t cap r:Nat} {bs:List UInt8} {en ou:Bool} {ac se dr:Int} (h:TB cap bs en ou ac se dr):aG (pt t [I6 ac,I6 se,I6 dr,I6 1,PO r,.pointer none,.pointer none,.bool en,.bool ou] 263::j1 r cap bs::R) (yN t cap bs en ou ac se dr::R):=
 aG.ex r (aG.sep (aG.pick aV.here (aG.sep (aG.pick aV.here (aG.pure h (aG.refl _))))))
theorem oT {f:FuncId} {args:Array Value} {t cap:Nat} {bs:List UInt8} {en ou:Bool} {ac se dr:Int} (h:∀r,TB cap bs en ou ac se dr→CT f args (pt t [I6 ac,I6 se,I6 dr,I6 1,PO r,.pointer none,.pointer none,.bool en,.bool ou] 263::j1 r cap bs::R) K):CT f args (yN t cap bs en ou ac se dr::R) K:=
 aA.ex fun r=>aA.sep (aA.ent (aG.trans (aG.cons aG.unsep) (fun _ hs=>(hs.perm (List.Perm.trans (List.Perm.cons _ (List.Perm.swap _ _ _)) (List.Perm.swap _ _ _))))) (aA.pure fun hI=>h r hI))
def AU:List (Nat×Nat):= [(0,0),(1,0),(2,0),(3,0),(4,1),(5,1),(6,1),(7,1),(8,1),(9,1),(10,0),(11,0)]
theorem gJ {ac se dr:Int} (h:0≤se∧0≤dr∧0≤ac∧ac≤9000000000∧se≤ac∧dr≤ac) (hK:K (I6 (ac - se - dr)) R):CT 88 #[.agg #[I6 ac,I6 se,I6 dr]] R K:=by
 refine aH Tryz.func88 ?_
 repeat' (first|refine v22 ?_|refine w5 ?_ ?_|((refine bh fun h=>?_) <;> try exact w6 h)|(refine aE fun hA=>?_;subst hA)|intro _)
 (refine aC ?_;exact aB (hK))
theorem KT {cap:Nat} {st:Int} (h:cap≤4096) (hK:∀t,K (.tuple #[PO t,I6 0]) (yN t cap [] false false 0 0 0::R)):CT 234 #[I6 1,I6 cap,I6 st] R K:=by
 refine aH Tryz.func234 ?_
 repeat' (first|refine zQ ?_|refine w5 ?_ ?_|((refine bh fun h=>?_) <;> try exact w6 h)|(refine aE fun hA=>?_;subst hA)|intro _|(show aA _ 322 _ _ _;refine CA (h:=VC (by omega) (fun r=>?_))))
 (refine aC ?_;exact aK (aG.trans (by exact aZ) ((jH ⟨by simp,by omega,by omega,by omega,by simp,by omega,by simp⟩))) (hK _))
theorem RG {t cap:Nat} {bs:List UInt8} {en ou:Bool} {ac se dr:Int} (hK:K (I6 1) (yN t cap bs en ou ac se dr::R)):CT 208 #[PO t] (yN t cap bs en ou ac se dr::R) K:=by
 refine oT fun r hT=>?_
 refine aH Tryz.func208 ?_
 repeat' (first|refine v4 ?_|refine w5 ?_ ?_|((refine bh fun h=>?_) <;> try exact w6 h)|(refine aE fun hA=>?_;subst hA)|intro _)
 (refine aC ?_;exact aK (aG.trans (by exact aZ) ((jH hT))) (hK))
theorem Rp {t cap:Nat} {bs:List UInt8} {en ou:Bool} {ac se dr:Int} (hK:K (.agg #[I6 ac,I6 se,I6 dr]) (yN t cap bs en ou ac se dr::R)):CT 87 #[PO t] (yN t cap bs en ou ac se dr::R) K:=by
 refine oT fun r hT=>?_
 refine aH Tryz.func87 ?_
 repeat' (first|refine v30 ?_|refine w5 ?_ ?_|((refine bh fun h=>?_) <;> try exact w6 h)|(refine aE fun hA=>?_;subst hA)|intro _)
 (refine aC ?_;exact aK (aG.trans (by exact aZ) ((jH hT))) (hK))
theorem TD {t cap:Nat} {bs:List UInt8} {en ou:Bool} {ac se dr n:Int} (hK:K (I6 13) (yN t cap bs en ou ac se dr::R)):CT 344 #[PO t,I6 n] (yN t cap bs en ou ac se dr::R) K:=by
 refine oT fun r hT=>?_
 refine aH Tryz.func344 ?_
 repeat' (first|refine v35 ?_|refine w5 ?_ ?_|((refine bh fun h=>?_) <;> try exact w6 h)|(refine aE fun hA=>?_;subst hA)|intro _)
 (refine aC ?_;exact aK (aG.trans (by exact aZ) ((jH hT))) (hK))
theorem rJ {t r:Nat} {en ou:Bool} {ac se dr:Int} (hK:K (I6 (if en=true then 11 else 0)) (pt t [I6 ac,I6 se,I6 dr,I6 1,PO r,.pointer none,.pointer none,.bool en,.bool ou] 263::R)):CT 319 #[PO t] (pt t [I6 ac,I6 se,I6 dr,I6 1,PO r,.pointer none,.pointer none,.bool en,.bool ou] 263::R) K:=by
 cases en
 ·refine aH Tryz.func319 ?_
  repeat' (first|refine v4 ?_|refine w5 ?_ ?_|((refine bh fun h=>?_) <;> try exact w6 h)|(refine aE fun hA=>?_;subst hA)|intro _)
  (refine aC ?_;exact aB (hK))
 ·refine aH Tryz.func319 ?_
  repeat' (first|refine v4 ?_|refine w5 ?_ ?_|((refine bh fun h=>?_) <;> try exact w6 h)|(refine aE fun hA=>?_;subst hA)|intro _)
  (refine aC ?_;exact aB (hK))
theorem W4 {t cap:Nat} {bs:List UInt8} {en ou:Bool} {ac se dr:Int} (hK:K (I6 (if en=true then 11 else 0)) (yN t cap bs true ou ac se dr::R)):CT 359 #[PO t] (yN t cap bs en ou ac se dr::R) K:=by
 refine oT fun r hT=>?_
 obtain⟨h1,h2,h3,h4,h5,h6,h7⟩:=hT
 have h':TB cap bs true ou ac se dr:=⟨h1,h2,h3,h4,h5,h6,fun h=>⟨rfl,(h7 h).2⟩⟩
 cases en
 ·refine aH Tryz.func359 ?_
  repeat' (first|refine v13 ?_|refine w5 ?_ ?_|((refine bh fun h=>?_) <;> try exact w6 h)|(refine aE fun hA=>?_;subst hA)|intro _|(show aA _ 319 _ _ _;refine CA (h:=rJ ?_)))
  (refine aC ?_;exact aK (aG.trans (by exact aZ) ((jH h'))) (hK))
 ·refine aH Tryz.func359 ?_
  repeat' (first|refine v13 ?_|refine w5 ?_ ?_|((refine bh fun h=>?_) <;> try exact w6 h)|(refine aE fun hA=>?_;subst hA)|intro _|(show aA _ 319 _ _ _;refine CA (h:=rJ ?_)))
  (refine aC ?_;exact aK (aG.trans (by exact aZ) ((jH h'))) (hK))
def rdB (bs:List UInt8) (en ou:Bool) (n:Int):Bool:=if bs= [] then en && !ou else decide (0<n)
theorem tI {t cap r:Nat} {bs:List UInt8} {en ou:Bool} {ac se dr n:Int} {b:Bool} (hT:TB cap bs en ou ac se dr) (hb:rdB bs en ou n=b) (hK:K (.bool b) (pt t [I6 ac,I6 se,I6 dr,I6 1,PO r,.pointer none,.pointer none,.bool en,.bool ou] 263::R)):CT 274 #[PO t,I6 n] (pt t [I6 ac,I6 se,I6 dr,I6 1,PO r,.pointer none,.pointer none,.bool en,.bool ou] 263::R) K:=by
 obtain⟨h1,h2,h3,h4,h5,h6,h7⟩:=hT
 subst hb
 by_cases hb:bs= []
 ·subst hb
  rw[rdB,if_pos rfl] at hK
  cases en
  ·refine aH Tryz.func274 ?_
   repeat' (first|refine Jm ?_|refine w5 ?_ ?_|((refine bh fun h=>?_) <;> try exact w6 h)|(refine aE fun hA=>?_;subst hA)|intro _|(show aA _ 88 _ _ _;refine CA (h:=gJ (by simp at *;omega) ?_)))
   all_goals first|(exfalso;simp at *;omega)|((refine aC ?_;exact aB (hK)))
  ·refine aH Tryz.func274 ?_
   repeat' (first|refine Jm ?_|refine w5 ?_ ?_|((refine bh fun h=>?_) <;> try exact w6 h)|(refine aE fun hA=>?_;subst hA)|intro _|(show aA _ 88 _ _ _;refine CA (h:=gJ (by simp at *;omega) ?_)))
   all_goals first|(exfalso;simp at *;omega)|((refine aC ?_;exact aB (hK)))
 ·have:0<bs.length:=List.length_pos_iff.2 hb
  rw[rdB,if_neg hb] at hK
  refine aH Tryz.func274 ?_
  repeat' (first|refine Jm ?_|refine w5 ?_ ?_|((refine bh fun h=>?_) <;> try exact w6 h)|(refine aE fun hA=>?_;subst hA)|intro _|(show aA _ 88 _ _ _;refine CA (h:=gJ (by omega) ?_)))
  (refine aC ?_;exact aB (hK))
theorem OG {t cap:Nat} {bs:List UInt8} {en ou:Bool} {ac se dr n:Int} (hK:K (.bool (rdB bs en ou n)) (yN t cap bs en ou ac se dr::R)):CT 274 #[PO t,I6 n] (yN t cap bs en ou ac se dr::R) K:=by
 refine oT fun r hT=>?_
 exact aA.entK (tI hT rfl ⟨_,jH hT,hK⟩)
theorem Qi {t cap:Nat} {bs:List UInt8} {en ou:Bool} {ac se dr n:Int} (hK:K (.bool (decide (0<bs.length) && !rdB bs en ou n)) (yN t cap bs en ou ac se dr::R)):CT 183 #[PO t,I6 n] (yN t cap bs en ou ac se dr::R) K:=by
 refine oT fun r hT=>?_
 have hT':=hT
 obtain⟨h1,h2,h3,h4,h5,h6,h7⟩:=hT'
 by_cases hb:0<bs.length
 ·refine aH Tryz.func183 ?_
  repeat' (first|refine v48 ?_|refine w5 ?_ ?_|((refine bh fun h=>?_) <;> try exact w6 h)|(refine aE fun hA=>?_;subst hA)|intro _|(show aA _ 88 _ _ _;refine CA (h:=gJ (by omega) ?_))|(show aA _ 274 _ _ _;refine CA (h:=tI hT rfl ?_)))
  all_goals(refine aC ?_;exact aK (aG.trans (by exact aZ) ((jH hT))) ((kb hK (by simp_all))))
 ·refine aH Tryz.func183 ?_
  repeat' (first|refine v48 ?_|refine w5 ?_ ?_|((refine bh fun h=>?_) <;> try exact w6 h)|(refine aE fun hA=>?_;subst hA)|intro _|(show aA _ 88 _ _ _;refine CA (h:=gJ (by omega) ?_))|(show aA _ 274 _ _ _;refine CA (h:=tI hT rfl ?_)))
  all_goals(refine aC ?_;exact aK (aG.trans (by exact aZ) ((jH hT))) ((kb hK (by simp_all))))
def Fb (cap:Nat) (bs:List UInt8) (en:Bool) (s:ByteArray):Nat:=if en=true then 0 else min s.size (cap - bs.length)
theorem W9 {t cap:Nat} {bs:List UInt8} {en ou:Bool} {ac se dr:Int} {s:ByteArray} (hs:ac+s.size≤900000000) (hK:K (.tuple #[I6 (Fb cap bs en s:Nat),I6 (if en=true then 11 else 0)]) (yN t cap (bs++s.data.toList.take (Fb cap bs en s)) en ou (ac+(Fb cap bs en s:Nat)) se dr::R)):CT 233 #[PO t,.string s] (yN t cap bs en ou ac se dr::R) K:=by
 refine oT fun r hT=>?_
 have hT':=hT
 obtain⟨h1,h2,h3,h4,h5,h6,h7⟩:=hT'
 have hsl:s.data.toList.length=s.size:=by simp
 cases en
 ·have ho:Fb cap bs false s=min s.size (cap - bs.length):=by simp[Fb]
  generalize Fb cap bs false s=kk at *
  have hl:(s.data.toList.take kk).length=kk:=by rw[List.length_take,hsl];omega
  have hw:TB cap (bs++s.data.toList.take kk) false ou (ac+(kk:Nat)) se dr:=by
   refine⟨?_,h2,h3,?_,?_,h6,?_⟩
   ·rw[List.length_append,hl];omega
   ·omega
   ·rw[List.length_append,hl];omega
   ·intro ho;exact absurd (h7 ho).1 (by simp)
  by_cases h0:kk=0
  ·have h9:s.size=0∨cap≤bs.length:=by omega
   subst h0
   simp only[List.take_zero,List.append_nil] at hK hw
   refine aH Tryz.func233 ?_
   repeat' (first|refine v49 ?_|refine w5 ?_ ?_|((refine bh fun h=>?_) <;> try exact w6 h)|(refine aE fun hA=>?_;subst hA)|intro _|(show aA _ 319 _ _ _;refine CA (h:=rJ ?_))|(show aA _ 320 _ _ _;refine CA (h:=GY (by omega) h9 ?_)))
   (refine aC ?_;exact aK (aG.trans (by exact aZ) ((jH hw))) (hK))
  ·refine aH Tryz.func233 ?_
   repeat' (first|refine v49 ?_|refine w5 ?_ ?_|((refine bh fun h=>?_) <;> try exact w6 h)|(refine aE fun hA=>?_;subst hA)|intro _|(show aA _ 319 _ _ _;refine CA (h:=rJ ?_))|(show aA _ 320 _ _ _;refine CA (h:=KU (n:=kk) (by omega) (by omega) (by omega) ?_)))
   (refine aC ?_;exact aK (aG.trans (by exact aZ) ((jH hw))) (hK))
 ·rw[Fb,if_pos rfl] at hK
  simp only[List.take_zero,List.append_nil] at hK
  refine aH Tryz.func233 ?_
  repeat' (first|refine v49 ?_|refine w5 ?_ ?_|((refine bh fun h=>?_) <;> try exact w6 h)|(refine aE fun hA=>?_;subst hA)|intro _|(show aA _ 319 _ _ _;refine CA (h:=rJ ?_)))
  (refine aC ?_;exact aK (aG.trans (by exact aZ) ((jH hT))) ((by simpa using hK)))
def Cj (bs:List UInt8) (n:Int):Nat:=(max (min (min n 256) bs.length) 0).toNat
def rR:List (Nat×Nat):= [(0,0),(1,0),(2,0),(3,0),(4,0),(5,0),(6,1),(7,0)]
theorem N1 {t cap r r2 r3:Nat} {bs:List UInt8} {en ou:Bool} {ac se dr n:Int} (hT:TB cap bs en ou ac se dr) (hK:K (.tuple #[.string ⟨(bs.take (Cj bs n)).toArray⟩,.bool (en && decide (bs.drop (Cj bs n)= []))]) (pt r2 [PO t] 167::pt r3 [I6 n] 3::pt t [I6 ac,I6 (se+(Cj bs n:Nat)),I6 dr,I6 1,PO r,.pointer none,.pointer none,.bool en,.bool ou] 263::j1 r cap (bs.drop (Cj bs n))::R)):CT 358 #[PO r2,PO r3] (pt r2 [PO t] 167::pt r3 [I6 n] 3::pt t [I6 ac,I6 se,I6 dr,I6 1,PO r,.pointer none,.pointer none,.bool en,.bool ou] 263::j1 r cap bs::R) K:=by
 obtain⟨h1,h2,h3,h4,h5,h6,h7⟩:=hT
 have hk:((Cj bs n:Nat):Int)=max (min (min n 256) bs.length) 0:=by unfold Cj;omega
 have hs:(ByteArray.mk (bs.take (Cj bs n)).toArray).size=Cj bs n:=by simp[vR];omega
 have hd:(decide (bs.drop (Cj bs n)= [])=true)↔bs.length≤Cj bs n:=by simp
 generalize Cj bs n=kk at *
 cases en
 ·refine aH Tryz.func358 ?_
  repeat' (first|refine v85 ?_|refine dw rR ?_|refine w5 ?_ ?_|((refine bh fun h=>?_) <;> try exact w6 h)|(refine aE fun hA=>?_;subst hA)|intro _|(show aA _ 220 _ _ _;refine CA (h:=EM (kk:=kk) (by omega) (by omega) ?_))|(show aA _ 88 _ _ _;refine CA (h:=gJ (by omega) ?_)))
  rw[hs]
  (refine aC ?_;exact aB (hK))
 ·refine aH Tryz.func358 ?_
  repeat' (first|refine v85 ?_|refine dw rR ?_|refine w5 ?_ ?_|((refine bh fun h=>?_) <;> try exact w6 h)|(refine aE fun hA=>?_;subst hA)|intro _|(show aA _ 220 _ _ _;refine CA (h:=EM (kk:=kk) (by omega) (by omega) ?_))|(show aA _ 88 _ _ _;refine CA (h:=gJ (by omega) ?_)))
  rw[hs]
  (refine aC ?_;exact aB (kv hK (by congr 5;rw[Bool.eq_iff_iff,Bool.true_and,hd,beq_iff_eq];omega)))
theorem R1 {t cap:Nat} {bs:List UInt8} {en ou:Bool} {ac se dr n:Int} (hr:rdB bs en ou n=true) (hK:K (.tuple #[.string ⟨(bs.take (Cj bs n)).toArray⟩,.bool (en && decide (bs.drop (Cj bs n)= [])),.bool true]) (yN t cap (bs.drop (Cj bs n)) en (en && decide (bs.drop (Cj bs n)= [])) ac (se+(Cj bs n:Nat)) dr::R)):CT 291 #[PO t,I6 n] (yN t cap bs en ou ac se dr::R) K:=by
 refine oT fun r hT=>?_
 have hT':=hT
 obtain⟨h1,h2,h3,h4,h5,h6,h7⟩:=hT'
 have hw:TB cap (bs.drop (Cj bs n)) en (en && decide (bs.drop (Cj bs n)= [])) ac (se+(Cj bs n:Nat)) dr:=by
  have:Cj bs n≤bs.length:=by unfold Cj;omega
  refine⟨?_,by omega,h3,h4,?_,h6,?_⟩
  ·rw[List.length_drop];omega
  ·rw[List.length_drop];omega
  ·intro h;simpa using h
 refine aH Tryz.func291 ?_
 repeat' (first|refine Q5 ?_|refine w5 ?_ ?_|((refine bh fun h=>?_) <;> try exact w6 h)|(refine aE fun hA=>?_;subst hA)|intro _|(show aA _ 274 _ _ _;refine CA (h:=tI hT hr ?_))|(show aA _ 358 _ _ _;refine CA (h:=N1 hT ?_)))
 (refine aC ?_;exact aK (aG.trans (by exact aZ) ((jH hw))) (hK))
theorem OL {t cap:Nat} {bs:List UInt8} {en ou:Bool} {ac se dr:Int} (hK:K (I6 bs.length) (yN t cap [] en ou ac se (dr+bs.length)::R)):CT 385 #[PO t] (yN t cap bs en ou ac se dr::R) K:=by
 refine oT fun r hT=>?_
 obtain⟨h1,h2,h3,h4,h5,h6,h7⟩:=hT
 have hw:TB cap [] en ou ac se (dr+bs.length):=⟨by simp;omega,h2,by omega,h4,by simp,h6,fun h=>⟨(h7 h).1,rfl⟩⟩
 refine aH Tryz.func385 ?_
 repeat' (first|refine Gt ?_|refine dw AU ?_|refine w5 ?_ ?_|((refine bh fun h=>?_) <;> try exact w6 h)|(refine aE fun hA=>?_;subst hA)|intro _|(show aA _ 386 _ _ _;refine CA (h:=KA (by omega) ?_))|(show aA _ 387 _ _ _;refine CA (h:=Gb ?_)))
 rw[show((bs.length:Nat):Int)+0=bs.length by omega]
 (refine aC ?_;exact aK (aG.trans (by exact aZ) ((jH hw))) (hK))
end
section
variable {R C:List HP} {K:KP}
def TI (cap:Nat) (st:Int) (l:List ByteArray) (w:Int) (en ou:Bool) (ac se dr:Int):Prop:=ac=se+dr+l.length∧0≤se∧0≤dr∧ac≤900000000∧l.length≤cap∧cap≤64∧(0≤w∧w≤2147483647)∧(0≤st∧st≤2)∧(ou=true→en=true∧l= [])
def pY (t cap:Nat) (st:Int) (l:List ByteArray) (w:Int) (en ou:Bool) (ac se dr:Int):HP:=eV fun q=>eV fun d=>sep (pt t [I6 ac,I6 se,I6 dr,I6 2,.pointer none,PO q,PO d,.bool en,.bool ou] 263) (sep (wH q cap st l ac se dr) (sep (oS d w 2147483647) (bH (TI cap st l w en ou ac se dr))))
theorem fS {t cap q d:Nat} {st:Int} {l:List ByteArray} {w:Int} {en ou:Bool} {ac se dr:Int} (h:TI cap st l w en ou ac se dr):aG (pt t [I6 ac,I6 se,I6 dr,I6 2,.pointer none,PO q,PO d,.bool en,.bool ou] 263::wH q cap st l ac se dr::oS d w 2147483647::R) (pY t cap st l w en ou ac se dr::R):=
 aG.ex q (aG.ex d (qS h))
theorem iD {f:FuncId} {args:Array Value} {t cap:Nat} {st:Int} {l:List ByteArray} {w:Int} {en ou:Bool} {ac se dr:Int} (h:∀q d,TI cap st l w en ou ac se dr→CT f args (pt t [I6 ac,I6 se,I6 dr,I6 2,.pointer none,PO q,PO d,.bool en,.bool ou] 263::wH q cap st l ac se dr::oS d w 2147483647::R) K):CT f args (pY t cap st l w en ou ac se dr::R) K:=
 aA.ex fun q=>aA.ex fun d=>C5 fun hI=>h q d hI
theorem KW {cap:Nat} {st:Int} (h:cap≤64) (hs:0≤st∧st≤2) (hK:∀t,K (.tuple #[PO t,I6 0]) (pY t cap st [] 0 false false 0 0 0::R)):CT 234 #[I6 2,I6 cap,I6 st] R K:=by
 refine aH Tryz.func234 ?_
 repeat' (first|refine zQ ?_|refine w5 ?_ ?_|((refine bh fun h=>?_) <;> try exact w6 h)|(refine aE fun hA=>?_;subst hA)|intro _|(show aA _ 323 _ _ _;refine CA (h:=N0 (by omega) (by omega) (fun q=>?_)))|(show aA _ 324 _ _ _;refine CA (h:=Uw (by omega) (fun d=>?_))))
 (refine aC ?_;exact aK (aG.trans (by exact aZ) ((fS ⟨by simp,by omega,by omega,by omega,by simp,h,by omega,hs,by simp⟩))) (hK _))
section
variable {t cap:Nat} {st:Int} {l:List ByteArray} {w:Int} {en ou:Bool} {ac se dr:Int}
theorem Rx (hK:K (I6 2) (pY t cap st l w en ou ac se dr::R)):CT 208 #[PO t] (pY t cap st l w en ou ac se dr::R) K:=by
 refine iD fun q d hT=>?_
 refine aH Tryz.func208 ?_
 repeat' (first|refine v4 ?_|refine w5 ?_ ?_|((refine bh fun h=>?_) <;> try exact w6 h)|(refine aE fun hA=>?_;subst hA)|intro _)
 (refine aC ?_;exact aK (aG.trans (by exact aZ) ((fS hT))) (hK))
theorem Tk (hK:K (.agg #[I6 ac,I6 se,I6 dr]) (pY t cap st l w en ou ac se dr::R)):CT 87 #[PO t] (pY t cap st l w en ou ac se dr::R) K:=by
 refine iD fun q d hT=>?_
 refine aH Tryz.func87 ?_
 repeat' (first|refine v30 ?_|refine w5 ?_ ?_|((refine bh fun h=>?_) <;> try exact w6 h)|(refine aE fun hA=>?_;subst hA)|intro _)
 (refine aC ?_;exact aK (aG.trans (by exact aZ) ((fS hT))) (hK))
theorem JZ {q d:Nat} (hK:K (I6 w) (pt t [I6 ac,I6 se,I6 dr,I6 2,.pointer none,PO q,PO d,.bool en,.bool ou] 263::oS d w 2147483647::R)):CT 350 #[PO t] (pt t [I6 ac,I6 se,I6 dr,I6 2,.pointer none,PO q,PO d,.bool en,.bool ou] 263::oS d w 2147483647::R) K:=by
 refine aH Tryz.func350 ?_
 repeat' (first|refine Yw ?_|refine w5 ?_ ?_|((refine bh fun h=>?_) <;> try exact w6 h)|(refine aE fun hA=>?_;subst hA)|intro _|(show aA _ 354 _ _ _;refine CA (h:=Qf ?_)))
 (refine aC ?_;exact aB (hK))
theorem TQ {n:Int} (h:1≤n) (hK:K (I6 0) (pY t cap st l (w+min n (2147483647 - w)) en ou ac se dr::R)):CT 344 #[PO t,I6 n] (pY t cap st l w en ou ac se dr::R) K:=by
 refine iD fun q d hT=>?_
 obtain⟨h1,h2,h3,h4,h5,h6,h7,h8,h9⟩:=hT
 have hw:TI cap st l (w+min n (2147483647 - w)) en ou ac se dr:=⟨h1,h2,h3,h4,h5,h6,by omega,h8,h9⟩
 refine aH Tryz.func344 ?_
 repeat' (first|refine v35 ?_|refine w5 ?_ ?_|((refine bh fun h=>?_) <;> try exact w6 h)|(refine aE fun hA=>?_;subst hA)|intro _|(show aA _ 360 _ _ _;refine CA (h:=Vu h h7 (by omega) ?_)))
 (refine aC ?_;exact aK (aG.trans (by exact aZ) ((fS hw))) (hK))
theorem Qv {n:Int} (h:n<1) (hK:K (I6 2) (pY t cap st l w en ou ac se dr::R)):CT 344 #[PO t,I6 n] (pY t cap st l w en ou ac se dr::R) K:=by
 refine iD fun q d hT=>?_
 refine aH Tryz.func344 ?_
 repeat' (first|refine v35 ?_|refine w5 ?_ ?_|((refine bh fun h=>?_) <;> try exact w6 h)|(refine aE fun hA=>?_;subst hA)|intro _|(show aA _ 360 _ _ _;refine CA (h:=Qz (by simp) h ?_)))
 (refine aC ?_;exact aK (aG.trans (by exact aZ) ((fS hT))) (hK))
theorem kH {q d:Nat} (hK:K (I6 (if en=true then 11 else 0)) (pt t [I6 ac,I6 se,I6 dr,I6 2,.pointer none,PO q,PO d,.bool en,.bool ou] 263::R)):CT 319 #[PO t] (pt t [I6 ac,I6 se,I6 dr,I6 2,.pointer none,PO q,PO d,.bool en,.bool ou] 263::R) K:=by
 cases en
 ·refine aH Tryz.func319 ?_
  repeat' (first|refine v4 ?_|refine w5 ?_ ?_|((refine bh fun h=>?_) <;> try exact w6 h)|(refine aE fun hA=>?_;subst hA)|intro _)
  (refine aC ?_;exact aB (hK))
 ·refine aH Tryz.func319 ?_
  repeat' (first|refine v4 ?_|refine w5 ?_ ?_|((refine bh fun h=>?_) <;> try exact w6 h)|(refine aE fun hA=>?_;subst hA)|intro _)
  (refine aC ?_;exact aB (hK))
theorem Yq (hK:K (I6 (if en=true then 11 else 0)) (pY t cap st l w true ou ac se dr::R)):CT 359 #[PO t] (pY t cap st l w en ou ac se dr::R) K:=by
 refine iD fun q d hT=>?_
 obtain⟨h1,h2,h3,h4,h5,h6,h7,h8,h9⟩:=hT
 have hT:TI cap st l w true ou ac se dr:=⟨h1,h2,h3,h4,h5,h6,h7,h8,fun h=>⟨rfl,(h9 h).2⟩⟩
 cases en
 ·refine aH Tryz.func359 ?_
  repeat' (first|refine v13 ?_|refine w5 ?_ ?_|((refine bh fun h=>?_) <;> try exact w6 h)|(refine aE fun hA=>?_;subst hA)|intro _|(show aA _ 319 _ _ _;refine CA (h:=kH ?_)))
  (refine aC ?_;exact aK (aG.trans (by exact aZ) ((fS hT))) (hK))
 ·refine aH Tryz.func359 ?_
  repeat' (first|refine v13 ?_|refine w5 ?_ ?_|((refine bh fun h=>?_) <;> try exact w6 h)|(refine aE fun hA=>?_;subst hA)|intro _|(show aA _ 319 _ _ _;refine CA (h:=kH ?_)))
  (refine aC ?_;exact aK (aG.trans (by exact aZ) ((fS hT))) (hK))
def IU (l:List ByteArray) (w:Int) (en ou:Bool):Bool:=if l= [] then en && !ou else decide (0<w)
theorem pN {q d:Nat} {n:Int} {b:Bool} (hT:TI cap st l w en ou ac se dr) (hb:IU l w en ou=b) (hK:K (.bool b) (pt t [I6 ac,I6 se,I6 dr,I6 2,.pointer none,PO q,PO d,.bool en,.bool ou] 263::oS d w 2147483647::R)):CT 274 #[PO t,I6 n] (pt t [I6 ac,I6 se,I6 dr,I6 2,.pointer none,PO q,PO d,.bool en,.bool ou] 263::oS d w 2147483647::R) K:=by
 obtain⟨h1,h2,h3,h4,h5,h6,h7,h8,h9⟩:=hT
 subst hb
 by_cases hb:l= []
 ·subst hb
  rw[IU,if_pos rfl] at hK
  cases en
  ·refine aH Tryz.func274 ?_
   repeat' (first|refine Jm ?_|refine w5 ?_ ?_|((refine bh fun h=>?_) <;> try exact w6 h)|(refine aE fun hA=>?_;subst hA)|intro _|(show aA _ 88 _ _ _;refine CA (h:=gJ (by simp at *;omega) ?_)))
   all_goals first|(exfalso;simp at *;omega)|((refine aC ?_;exact aB (hK)))
  ·refine aH Tryz.func274 ?_
   repeat' (first|refine Jm ?_|refine w5 ?_ ?_|((refine bh fun h=>?_) <;> try exact w6 h)|(refine aE fun hA=>?_;subst hA)|intro _|(show aA _ 88 _ _ _;refine CA (h:=gJ (by simp at *;omega) ?_)))
   all_goals first|(exfalso;simp at *;omega)|((refine aC ?_;exact aB (hK)))
 ·have:0<l.length:=List.length_pos_iff.2 hb
  rw[IU,if_neg hb] at hK
  refine aH Tryz.func274 ?_
  repeat' (first|refine Jm ?_|refine w5 ?_ ?_|((refine bh fun h=>?_) <;> try exact w6 h)|(refine aE fun hA=>?_;subst hA)|intro _|(show aA _ 88 _ _ _;refine CA (h:=gJ (by omega) ?_))|(show aA _ 350 _ _ _;refine CA (h:=JZ ?_)))
  (refine aC ?_;exact aB (hK))
theorem OB {n:Int} (hK:K (.bool (IU l w en ou)) (pY t cap st l w en ou ac se dr::R)):CT 274 #[PO t,I6 n] (pY t cap st l w en ou ac se dr::R) K:=by
 refine iD fun q d hT=>?_
 refine aA.ent (C':=pt t [I6 ac,I6 se,I6 dr,I6 2,.pointer none,PO q,PO d,.bool en,.bool ou] 263::oS d w 2147483647::wH q cap st l ac se dr::R) (by exact aZ) ?_
 exact aA.entK (pN hT rfl ⟨_,aG.trans (by exact aZ) (fS hT),hK⟩)
theorem P2 {n:Int} (hK:K (.bool (decide (0<l.length) && !IU l w en ou)) (pY t cap st l w en ou ac se dr::R)):CT 183 #[PO t,I6 n] (pY t cap st l w en ou ac se dr::R) K:=by
 refine iD fun q d hT=>?_
 have hT':=hT
 obtain⟨h1,h2,h3,h4,h5,h6,h7,h8,h9⟩:=hT'
 by_cases hb:0<l.length
 ·refine aH Tryz.func183 ?_
  repeat' (first|refine v48 ?_|refine w5 ?_ ?_|((refine bh fun h=>?_) <;> try exact w6 h)|(refine aE fun hA=>?_;subst hA)|intro _|(show aA _ 88 _ _ _;refine CA (h:=gJ (by omega) ?_))|(show aA _ 274 _ _ _;refine CA (h:=pN hT rfl ?_)))
  all_goals(refine aC ?_;exact aK (aG.trans (by exact aZ) ((fS hT))) ((kb hK (by simp_all))))
 ·refine aH Tryz.func183 ?_
  repeat' (first|refine v48 ?_|refine w5 ?_ ?_|((refine bh fun h=>?_) <;> try exact w6 h)|(refine aE fun hA=>?_;subst hA)|intro _|(show aA _ 88 _ _ _;refine CA (h:=gJ (by omega) ?_))|(show aA _ 274 _ _ _;refine CA (h:=pN hT rfl ?_)))
  all_goals(refine aC ?_;exact aK (aG.trans (by exact aZ) ((fS hT))) ((kb hK (by simp_all))))
theorem Tm {s:ByteArray} (he:en=true) (hK:K (.tuple #[I6 0,I6 11]) (pY t cap st l w en ou ac se dr::R)):CT 233 #[PO t,.string s] (pY t cap st l w en ou ac se dr::R) K:=by
 subst he
 refine iD fun q d hT=>?_
 refine aH Tryz.func233 ?_
 repeat' (first|refine v49 ?_|refine w5 ?_ ?_|((refine bh fun h=>?_) <;> try exact w6 h)|(refine aE fun hA=>?_;subst hA)|intro _|(show aA _ 319 _ _ _;refine CA (h:=kH ?_)))
 (refine aC ?_;exact aK (aG.trans (by exact aZ) ((fS hT))) (hK))
theorem TN {s:ByteArray} (he:en=false) (hs:256<s.size) (hK:K (.tuple #[I6 0,I6 4]) (pY t cap st l w en ou ac se dr::R)):CT 233 #[PO t,.string s] (pY t cap st l w en ou ac se dr::R) K:=by
 subst he
 refine iD fun q d hT=>?_
 refine aH Tryz.func233 ?_
 repeat' (first|refine v49 ?_|refine w5 ?_ ?_|((refine bh fun h=>?_) <;> try exact w6 h)|(refine aE fun hA=>?_;subst hA)|intro _|(show aA _ 319 _ _ _;refine CA (h:=kH ?_)))
 (refine aC ?_;exact aK (aG.trans (by exact aZ) ((fS hT))) (hK))
theorem RX {s:ByteArray} (he:en=false) (hs:s.size≤256) (hc:cap≤l.length) (h0:st=0) (hK:K (.tuple #[I6 0,I6 9]) (pY t cap st l w en ou ac se dr::R)):CT 233 #[PO t,.string s] (pY t cap st l w en ou ac se dr::R) K:=by
 subst he
 refine iD fun q d hT=>?_
 refine aH Tryz.func233 ?_
 repeat' (first|refine v49 ?_|refine w5 ?_ ?_|((refine bh fun h=>?_) <;> try exact w6 h)|(refine aE fun hA=>?_;subst hA)|intro _|(show aA _ 319 _ _ _;refine CA (h:=kH ?_))|(show aA _ 321 _ _ _;refine CA (h:=Wy (by omega) h0 ?_)))
 (refine aC ?_;exact aK (aG.trans (by exact aZ) ((fS hT))) (hK))
theorem RD {s:ByteArray} (he:en=false) (hs:s.size≤256) (hc:l.length<cap) (hb:ac≤800000000) (hK:K (.tuple #[I6 1,I6 0]) (pY t cap st (l++ [s]) w en ou (ac+1) se dr::R)):CT 233 #[PO t,.string s] (pY t cap st l w en ou ac se dr::R) K:=by
 subst he
 refine iD fun q d hT=>?_
 obtain⟨h1,h2,h3,h4,h5,h6,h7,h8,h9⟩:=hT
 have hT:TI cap st (l++ [s]) w false ou (ac+1) se dr:=⟨by simp;omega,h2,h3,by omega,by simp;omega,h6,h7,h8,fun h=>by simpa using (h9 h).1⟩
 refine aH Tryz.func233 ?_
 repeat' (first|refine v49 ?_|refine w5 ?_ ?_|((refine bh fun h=>?_) <;> try exact w6 h)|(refine aE fun hA=>?_;subst hA)|intro _|(show aA _ 319 _ _ _;refine CA (h:=kH ?_))|(show aA _ 321 _ _ _;refine CA (h:=EW (by omega) (by omega) (by omega) ?_)))
 (refine aC ?_;exact aK (aG.trans (by exact aZ) ((fS hT))) (hK))
theorem Ss {s:ByteArray} (he:en=false) (hs:s.size≤256) (hc:cap≤l.length) (h0:st≠0) (h10:st=1∨cap=0) (hb:ac≤800000000) (hK:K (.tuple #[I6 2,I6 0]) (pY t cap st l w en ou (ac+1) se (dr+1)::R)):CT 233 #[PO t,.string s] (pY t cap st l w en ou ac se dr::R) K:=by
 subst he
 refine iD fun q d hT=>?_
 obtain⟨h1,h2,h3,h4,h5,h6,h7,h8,h9⟩:=hT
 have hT:TI cap st l w false ou (ac+1) se (dr+1):=⟨by omega,h2,by omega,by omega,h5,h6,h7,h8,h9⟩
 refine aH Tryz.func233 ?_
 repeat' (first|refine v49 ?_|refine w5 ?_ ?_|((refine bh fun h=>?_) <;> try exact w6 h)|(refine aE fun hA=>?_;subst hA)|intro _|(show aA _ 319 _ _ _;refine CA (h:=kH ?_))|(show aA _ 321 _ _ _;refine CA (h:=VY (by omega) (by omega) (by omega) h0 (by omega) ?_)))
 (refine aC ?_;exact aK (aG.trans (by exact aZ) ((fS hT))) (hK))
theorem SY {s s0:ByteArray} (he:en=false) (hs:s.size≤256) (hc:cap≤(s0::l).length) (h0:st≠0) (h10:st≠1) (h11:cap≠0) (hb:ac≤800000000) (hK:K (.tuple #[I6 3,I6 0]) (pY t cap st (l++ [s]) w en ou (ac+1) se (dr+1)::R)):CT 233 #[PO t,.string s] (pY t cap st (s0::l) w en ou ac se dr::R) K:=by
 subst he
 refine iD fun q d hT=>?_
 obtain⟨h1,h2,h3,h4,h5,h6,h7,h8,h9⟩:=hT
 have hl:(s0::l).length=l.length+1:=rfl
 have hT:TI cap st (l++ [s]) w false ou (ac+1) se (dr+1):=⟨by simp;omega,h2,by omega,by omega,by simp;omega,h6,h7,h8,fun h=>by simpa using (h9 h).1⟩
 refine aH Tryz.func233 ?_
 repeat' (first|refine v49 ?_|refine w5 ?_ ?_|((refine bh fun h=>?_) <;> try exact w6 h)|(refine aE fun hA=>?_;subst hA)|intro _|(show aA _ 319 _ _ _;refine CA (h:=kH ?_))|(show aA _ 321 _ _ _;refine CA (h:=Ws (by omega) (by omega) (by omega) (by omega) h0 h10 (by omega) ?_)))
 (refine aC ?_;exact aK (aG.trans (by exact aZ) ((fS hT))) (hK))
def pX:List (Nat×Nat):= [(0,0),(1,0),(2,0),(3,0),(4,0),(5,0),(6,1),(7,0)]
theorem LU {q d r2 r3:Nat} {n:Int} (hK:K (.tuple #[.string ⟨#[]⟩,.bool true]) (pt r2 [PO t] 167::pt r3 [I6 n] 3::pt t [I6 ac,I6 se,I6 dr,I6 2,.pointer none,PO q,PO d,.bool en,.bool ou] 263::wH q cap st [] ac se dr::oS d w 2147483647::R)):CT 358 #[PO r2,PO r3] (pt r2 [PO t] 167::pt r3 [I6 n] 3::pt t [I6 ac,I6 se,I6 dr,I6 2,.pointer none,PO q,PO d,.bool en,.bool ou] 263::wH q cap st [] ac se dr::oS d w 2147483647::R) K:=by
 refine aH Tryz.func358 ?_
 repeat' (first|refine v85 ?_|refine dw pX ?_|refine w5 ?_ ?_|((refine bh fun h=>?_) <;> try exact w6 h)|(refine aE fun hA=>?_;subst hA)|intro _|(show aA _ 225 _ _ _;refine CA (h:=I4 ?_)))
 (refine aC ?_;exact aB (hK))
theorem Qm {q d r2 r3:Nat} {n:Int} {s:ByteArray} (hT:TI cap st (s::l) w en ou ac se dr) (hw:0<w) (hK:K (.tuple #[.string s,.bool false]) (pt r2 [PO t] 167::pt r3 [I6 n] 3::pt t [I6 ac,I6 (se+1),I6 dr,I6 2,.pointer none,PO q,PO d,.bool en,.bool ou] 263::wH q cap st l ac (se+1) dr::oS d (w - 1) 2147483647::R)):CT 358 #[PO r2,PO r3] (pt r2 [PO t] 167::pt r3 [I6 n] 3::pt t [I6 ac,I6 se,I6 dr,I6 2,.pointer none,PO q,PO d,.bool en,.bool ou] 263::wH q cap st (s::l) ac se dr::oS d w 2147483647::R) K:=by
 obtain⟨h1,h2,h3,h4,h5,h6,h7,h8,h9⟩:=hT
 have hl:(s::l).length=l.length+1:=rfl
 refine aH Tryz.func358 ?_
 repeat' (first|refine v85 ?_|refine dw pX ?_|refine w5 ?_ ?_|((refine bh fun h=>?_) <;> try exact w6 h)|(refine aE fun hA=>?_;subst hA)|intro _|(show aA _ 225 _ _ _;refine CA (h:=Ka (by omega) (by omega) ?_))|(show aA _ 281 _ _ _;refine CA (h:=Of (by omega) (by omega) (by omega) ?_)))
 (refine aC ?_;exact aB (hK))
theorem QR {n:Int} (hr:IU [] w en ou=true) (hK:K (.tuple #[.string ⟨#[]⟩,.bool true,.bool true]) (pY t cap st [] w en true ac se dr::R)):CT 291 #[PO t,I6 n] (pY t cap st [] w en ou ac se dr::R) K:=by
 refine iD fun q d hT=>?_
 have hT':=hT
 obtain⟨h1,h2,h3,h4,h5,h6,h7,h8,h9⟩:=hT'
 have hw:TI cap st [] w en true ac se dr:=⟨h1,h2,h3,h4,h5,h6,h7,h8,fun _=>⟨by rw[IU,if_pos rfl] at hr;simp at hr;exact hr.1,rfl⟩⟩
 refine aH Tryz.func291 ?_
 repeat' (first|refine Q5 ?_|refine w5 ?_ ?_|((refine bh fun h=>?_) <;> try exact w6 h)|(refine aE fun hA=>?_;subst hA)|intro _|(show aA _ 274 _ _ _;refine CA (h:=pN hT hr ?_))|(show aA _ 358 _ _ _;refine CA (h:=LU ?_)))
 (refine aC ?_;exact aK (aG.trans (by exact aZ) ((fS hw))) (hK))
theorem SS {n:Int} {s:ByteArray} (hr:0<w) (hK:K (.tuple #[.string s,.bool false,.bool true]) (pY t cap st l (w - 1) en false ac (se+1) dr::R)):CT 291 #[PO t,I6 n] (pY t cap st (s::l) w en ou ac se dr::R) K:=by
 refine iD fun q d hT=>?_
 have hT':=hT
 obtain⟨h1,h2,h3,h4,h5,h6,h7,h8,h9⟩:=hT'
 have hl:(s::l).length=l.length+1:=rfl
 have hw:TI cap st l (w - 1) en false ac (se+1) dr:=⟨by omega,by omega,h3,h4,by omega,h6,by omega,h8,by simp⟩
 have hr2:IU (s::l) w en ou=true:=by simp[IU,hr]
 refine aH Tryz.func291 ?_
 repeat' (first|refine Q5 ?_|refine w5 ?_ ?_|((refine bh fun h=>?_) <;> try exact w6 h)|(refine aE fun hA=>?_;subst hA)|intro _|(show aA _ 274 _ _ _;refine CA (h:=pN hT hr2 ?_))|(show aA _ 358 _ _ _;refine CA (h:=Qm hT hr ?_)))
 (refine aC ?_;exact aK (aG.trans (by exact aZ) ((fS hw))) (hK))
def AS:List (Nat×Nat):= [(0,0),(1,0),(2,0),(3,0),(4,1),(5,1),(6,1),(7,1),(8,1),(9,1),(10,0),(11,0)]
theorem Ol (hK:K (I6 l.length) (pY t cap st [] w en ou ac se (dr+l.length)::R)):CT 385 #[PO t] (pY t cap st l w en ou ac se dr::R) K:=by
 refine iD fun q d hT=>?_
 obtain⟨h1,h2,h3,h4,h5,h6,h7,h8,h9⟩:=hT
 have hw:TI cap st [] w en ou ac se (dr+l.length):=⟨by simp;omega,h2,by omega,h4,by simp,h6,h7,h8,fun h=>⟨(h9 h).1,rfl⟩⟩
 refine aH Tryz.func385 ?_
 repeat' (first|refine Gt ?_|refine dw AS ?_|refine w5 ?_ ?_|((refine bh fun h=>?_) <;> try exact w6 h)|(refine aE fun hA=>?_;subst hA)|intro _|(show aA _ 386 _ _ _;refine CA (h:=HF ?_))|(show aA _ 387 _ _ _;refine CA (h:=Jg (by omega) (by omega) ?_)))
 rw[show(0:Int)+((l.length:Nat):Int)=l.length by omega]
 (refine aC ?_;exact aK (aG.trans (by exact aZ) ((fS hw))) (hK))
end
end
end Go.Proofs.YtifgibijcmppmaaGreat
