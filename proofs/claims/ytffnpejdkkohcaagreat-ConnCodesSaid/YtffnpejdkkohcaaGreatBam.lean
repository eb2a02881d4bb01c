/- A part of the proof: lemmas; each with the conditions that it states. -/
import Derived.Test.YtffnpejdkkohcaaGreatBaj
set_option linter.unusedVariables false
set_option linter.unusedSimpArgs false
set_option maxRecDepth 100000
set_option maxHeartbeats 40000000
namespace Go.Proofs.YtffnpejdkkohcaaGreat
open Go Go.Proofs Go.Sl
attribute [local irreducible] aM eY cU bQ aL aW aA dS dT aZ dR pt ro fN star sep bH
variable {R C:List HP} {K:KP} {t cap r r2 r3 q d:Nat} {bs:List UInt8} {en ou b:Bool} {ac se dr st n w:Int} {f:FuncId} {args:Array Value} {s:ByteArray} {l:List ByteArray}
def TB (cap:Nat) (bs:List UInt8) (en ou:Bool) (ac se dr:Int):Prop:=ac=se+dr+bs.length/\0<=se/\0<=dr/\ac<=900000000/\bs.length<=cap/\cap<=4096/\(ou=true->en=true/\bs= [])
def yZ (t cap:Nat) (bs:List UInt8) (en ou:Bool) (ac se dr:Int):HP:=fN fun r=>sep (pt t [I6 ac,I6 se,I6 dr,I6 1,PO r,.pointer none,.pointer none,.bool en,.bool ou] 211) (sep (kJ r cap bs) (bH (TB cap bs en ou ac se dr)))
theorem kX (h:TB cap bs en ou ac se dr):aG (pt t [I6 ac,I6 se,I6 dr,I6 1,PO r,.pointer none,.pointer none,.bool en,.bool ou] 211::kJ r cap bs::R) (yZ t cap bs en ou ac se dr::R):=
 aG.ex r (aG.sep (aG.pick aS.here (aG.sep (aG.pick aS.here (aG.pure h (aG.refl _))))))
theorem sE (h:∀r,TB cap bs en ou ac se dr->CT f args (pt t [I6 ac,I6 se,I6 dr,I6 1,PO r,.pointer none,.pointer none,.bool en,.bool ou] 211::kJ r cap bs::R) K):CT f args (yZ t cap bs en ou ac se dr::R) K:=
 aA.ex fun r=>aA.sep (aA.ent (aG.trans (aG.cons aG.unsep) (fun _ hs=>(hs.perm (List.Perm.trans (List.Perm.cons _ (List.Perm.swap _ _ _)) (List.Perm.swap _ _ _))))) (aA.pure fun hI=>h r hI))
def z6:List (Nat×Nat):= [(0,0),(1,0),(2,0),(3,0),(4,1),(5,1),(6,1),(7,1),(8,1),(9,1),(10,0),(11,0)]
theorem f7 (h:0<=se/\0<=dr/\0<=ac/\ac<=9000000000/\se<=ac/\dr<=ac) (hK:K (I6 (ac - se - dr)) R):CT 66 #[.agg #[I6 ac,I6 se,I6 dr]] R K:=by
 refine aJ Tryz.func66 ?_
 repeat' (first|refine v22 ?_|refine w5 ?_ ?_|((refine bh fun h=>?_) <;> try exact w6 h)|(refine aF fun hA=>?_;subst hA)|intro _)
 (refine aC ?_;exact aB (hK))
theorem Kz (h:cap<=4096) (hK:∀t,K (.tuple #[PO t,I6 0]) (yZ t cap [] false false 0 0 0::R)):CT 171 #[I6 1,I6 cap,I6 st] R K:=by
 refine aJ Tryz.func171 ?_
 repeat' (first|refine zB ?_|refine w5 ?_ ?_|((refine bh fun h=>?_) <;> try exact w6 h)|(refine aF fun hA=>?_;subst hA)|intro _|(show aA _ 256 _ _ _;refine CA (h:=SX (by omega) (fun r=>?_))))
 (refine aC ?_;exact aQ (aG.trans (by exact bE) ((kX ⟨by simp,by omega,by omega,by omega,by simp,by omega,by simp⟩))) (hK _))
theorem Q1 (hK:K (I6 1) (yZ t cap bs en ou ac se dr::R)):CT 217 #[PO t] (yZ t cap bs en ou ac se dr::R) K:=by
 refine sE fun r hT=>?_
 refine aJ Tryz.func217 ?_
 repeat' (first|refine v4 ?_|refine w5 ?_ ?_|((refine bh fun h=>?_) <;> try exact w6 h)|(refine aF fun hA=>?_;subst hA)|intro _)
 (refine aC ?_;exact aQ (aG.trans (by exact bE) ((kX hT))) (hK))
theorem QB (hK:K (.agg #[I6 ac,I6 se,I6 dr]) (yZ t cap bs en ou ac se dr::R)):CT 65 #[PO t] (yZ t cap bs en ou ac se dr::R) K:=by
 refine sE fun r hT=>?_
 refine aJ Tryz.func65 ?_
 repeat' (first|refine v30 ?_|refine w5 ?_ ?_|((refine bh fun h=>?_) <;> try exact w6 h)|(refine aF fun hA=>?_;subst hA)|intro _)
 (refine aC ?_;exact aQ (aG.trans (by exact bE) ((kX hT))) (hK))
theorem QY (hK:K (I6 13) (yZ t cap bs en ou ac se dr::R)):CT 278 #[PO t,I6 n] (yZ t cap bs en ou ac se dr::R) K:=by
 refine sE fun r hT=>?_
 refine aJ Tryz.func278 ?_
 repeat' (first|refine v35 ?_|refine w5 ?_ ?_|((refine bh fun h=>?_) <;> try exact w6 h)|(refine aF fun hA=>?_;subst hA)|intro _)
 (refine aC ?_;exact aQ (aG.trans (by exact bE) ((kX hT))) (hK))
theorem zV (hK:K (I6 (if en=true then 11 else 0)) (pt t [I6 ac,I6 se,I6 dr,I6 1,PO r,.pointer none,.pointer none,.bool en,.bool ou] 211::R)):CT 246 #[PO t] (pt t [I6 ac,I6 se,I6 dr,I6 1,PO r,.pointer none,.pointer none,.bool en,.bool ou] 211::R) K:=by
 cases en
 ·refine aJ Tryz.func246 ?_
  repeat' (first|refine v4 ?_|refine w5 ?_ ?_|((refine bh fun h=>?_) <;> try exact w6 h)|(refine aF fun hA=>?_;subst hA)|intro _)
  (refine aC ?_;exact aB (hK))
 ·refine aJ Tryz.func246 ?_
  repeat' (first|refine v4 ?_|refine w5 ?_ ?_|((refine bh fun h=>?_) <;> try exact w6 h)|(refine aF fun hA=>?_;subst hA)|intro _)
  (refine aC ?_;exact aB (hK))
def rdB (bs:List UInt8) (en ou:Bool) (n:Int):Bool:=if bs= [] then en && !ou else decide (0<n)
theorem tL (hT:TB cap bs en ou ac se dr) (hb:rdB bs en ou n=b) (hK:K (.bool b) (pt t [I6 ac,I6 se,I6 dr,I6 1,PO r,.pointer none,.pointer none,.bool en,.bool ou] 211::R)):CT 211 #[PO t,I6 n] (pt t [I6 ac,I6 se,I6 dr,I6 1,PO r,.pointer none,.pointer none,.bool en,.bool ou] 211::R) K:=by
 obtain⟨h1,h2,h3,h4,h5,h6,h7⟩:=hT
 subst hb
 by_cases hb:bs= []
 ·subst hb
  rw[rdB,if_pos rfl] at hK
  cases en
  ·refine aJ Tryz.func211 ?_
   repeat' (first|refine I3 ?_|refine w5 ?_ ?_|((refine bh fun h=>?_) <;> try exact w6 h)|(refine aF fun hA=>?_;subst hA)|intro _|(show aA _ 66 _ _ _;refine CA (h:=f7 (by simp at *;omega) ?_)))
   all_goals first|(exfalso;simp at *;omega)|((refine aC ?_;exact aB (hK)))
  ·refine aJ Tryz.func211 ?_
   repeat' (first|refine I3 ?_|refine w5 ?_ ?_|((refine bh fun h=>?_) <;> try exact w6 h)|(refine aF fun hA=>?_;subst hA)|intro _|(show aA _ 66 _ _ _;refine CA (h:=f7 (by simp at *;omega) ?_)))
   all_goals first|(exfalso;simp at *;omega)|((refine aC ?_;exact aB (hK)))
 ·have:0<bs.length:=List.length_pos_iff.2 hb
  rw[rdB,if_neg hb] at hK
  refine aJ Tryz.func211 ?_
  repeat' (first|refine I3 ?_|refine w5 ?_ ?_|((refine bh fun h=>?_) <;> try exact w6 h)|(refine aF fun hA=>?_;subst hA)|intro _|(show aA _ 66 _ _ _;refine CA (h:=f7 (by omega) ?_)))
  (refine aC ?_;exact aB (hK))
theorem O7 (hK:K (.bool (rdB bs en ou n)) (yZ t cap bs en ou ac se dr::R)):CT 211 #[PO t,I6 n] (yZ t cap bs en ou ac se dr::R) K:=by
 refine sE fun r hT=>?_
 exact aA.entK (tL hT rfl ⟨_,kX hT,hK⟩)
theorem Pb (hK:K (.bool (decide (0<bs.length) && !rdB bs en ou n)) (yZ t cap bs en ou ac se dr::R)):CT 134 #[PO t,I6 n] (yZ t cap bs en ou ac se dr::R) K:=by
 refine sE fun r hT=>?_
 have hT':=hT
 obtain⟨h1,h2,h3,h4,h5,h6,h7⟩:=hT'
 by_cases hb:0<bs.length
 ·refine aJ Tryz.func134 ?_
  repeat' (first|refine v48 ?_|refine w5 ?_ ?_|((refine bh fun h=>?_) <;> try exact w6 h)|(refine aF fun hA=>?_;subst hA)|intro _|(show aA _ 66 _ _ _;refine CA (h:=f7 (by omega) ?_))|(show aA _ 211 _ _ _;refine CA (h:=tL hT rfl ?_)))
  all_goals(refine aC ?_;exact aQ (aG.trans (by exact bE) ((kX hT))) ((kb hK (by simp_all))))
 ·refine aJ Tryz.func134 ?_
  repeat' (first|refine v48 ?_|refine w5 ?_ ?_|((refine bh fun h=>?_) <;> try exact w6 h)|(refine aF fun hA=>?_;subst hA)|intro _|(show aA _ 66 _ _ _;refine CA (h:=f7 (by omega) ?_))|(show aA _ 211 _ _ _;refine CA (h:=tL hT rfl ?_)))
  all_goals(refine aC ?_;exact aQ (aG.trans (by exact bE) ((kX hT))) ((kb hK (by simp_all))))
def EK (cap:Nat) (bs:List UInt8) (en:Bool) (s:ByteArray):Nat:=if en=true then 0 else min s.size (cap - bs.length)
theorem Wj (hs:ac+s.size<=900000000) (hK:K (.tuple #[I6 (EK cap bs en s:Nat),I6 (if en=true then 11 else 0)]) (yZ t cap (bs++s.data.toList.take (EK cap bs en s)) en ou (ac+(EK cap bs en s:Nat)) se dr::R)):CT 164 #[PO t,.string s] (yZ t cap bs en ou ac se dr::R) K:=by
 refine sE fun r hT=>?_
 have hT':=hT
 obtain⟨h1,h2,h3,h4,h5,h6,h7⟩:=hT'
 have hsl:s.data.toList.length=s.size:=by simp
 cases en
 ·have ho:EK cap bs false s=min s.size (cap - bs.length):=by simp[EK]
  generalize EK cap bs false s=kk at *
  have hl:(s.data.toList.take kk).length=kk:=by rw[List.length_take,hsl];omega
  have hw:TB cap (bs++s.data.toList.take kk) false ou (ac+(kk:Nat)) se dr:=by
   refine⟨?_,h2,h3,?_,?_,h6,?_⟩
   ·rw[List.length_append,hl];omega
   ·omega
   ·rw[List.length_append,hl];omega
   ·intro ho;exact absurd (h7 ho).1 (by simp)
  by_cases h0:kk=0
  ·have h9:s.size=0\/cap<=bs.length:=by omega
   subst h0
   simp only[List.take_zero,List.append_nil] at hK hw
   refine aJ Tryz.func164 ?_
   repeat' (first|refine Yw ?_|refine w5 ?_ ?_|((refine bh fun h=>?_) <;> try exact w6 h)|(refine aF fun hA=>?_;subst hA)|intro _|(show aA _ 246 _ _ _;refine CA (h:=zV ?_))|(show aA _ 247 _ _ _;refine CA (h:=Ib (by omega) h9 ?_)))
   (refine aC ?_;exact aQ (aG.trans (by exact bE) ((kX hw))) (hK))
  ·refine aJ Tryz.func164 ?_
   repeat' (first|refine Yw ?_|refine w5 ?_ ?_|((refine bh fun h=>?_) <;> try exact w6 h)|(refine aF fun hA=>?_;subst hA)|intro _|(show aA _ 246 _ _ _;refine CA (h:=zV ?_))|(show aA _ 247 _ _ _;refine CA (h:=Kn (n:=kk) (by omega) (by omega) (by omega) ?_)))
   (refine aC ?_;exact aQ (aG.trans (by exact bE) ((kX hw))) (hK))
 ·rw[EK,if_pos rfl] at hK
  simp only[List.take_zero,List.append_nil] at hK
  refine aJ Tryz.func164 ?_
  repeat' (first|refine Yw ?_|refine w5 ?_ ?_|((refine bh fun h=>?_) <;> try exact w6 h)|(refine aF fun hA=>?_;subst hA)|intro _|(show aA _ 246 _ _ _;refine CA (h:=zV ?_)))
  (refine aC ?_;exact aQ (aG.trans (by exact bE) ((kX hT))) ((by simpa using hK)))
def B5 (bs:List UInt8) (n:Int):Nat:=(max (min (min n 256) bs.length) 0).toNat
def rV:List (Nat×Nat):= [(0,0),(1,0),(2,0),(3,0),(4,0),(5,0),(6,1),(7,0)]
theorem Ns (hT:TB cap bs en ou ac se dr) (hK:K (.tuple #[.string ⟨(bs.take (B5 bs n)).toArray⟩,.bool (en && decide (bs.drop (B5 bs n)= []))]) (pt r2 [PO t] 133::pt r3 [I6 n] 3::pt t [I6 ac,I6 (se+(B5 bs n:Nat)),I6 dr,I6 1,PO r,.pointer none,.pointer none,.bool en,.bool ou] 211::kJ r cap (bs.drop (B5 bs n))::R)):CT 293 #[PO r2,PO r3] (pt r2 [PO t] 133::pt r3 [I6 n] 3::pt t [I6 ac,I6 se,I6 dr,I6 1,PO r,.pointer none,.pointer none,.bool en,.bool ou] 211::kJ r cap bs::R) K:=by
 obtain⟨h1,h2,h3,h4,h5,h6,h7⟩:=hT
 have hk:((B5 bs n:Nat):Int)=max (min (min n 256) bs.length) 0:=by unfold B5;omega
 have hs:(ByteArray.mk (bs.take (B5 bs n)).toArray).size=B5 bs n:=by simp[pJ];omega
 have hd:(decide (bs.drop (B5 bs n)= [])=true)↔bs.length<=B5 bs n:=by simp
 generalize B5 bs n=kk at *
 cases en
 ·refine aJ Tryz.func293 ?_
  repeat' (first|refine v85 ?_|refine dw rV ?_|refine w5 ?_ ?_|((refine bh fun h=>?_) <;> try exact w6 h)|(refine aF fun hA=>?_;subst hA)|intro _|(show aA _ 166 _ _ _;refine CA (h:=Eu (kk:=kk) (by omega) (by omega) ?_))|(show aA _ 66 _ _ _;refine CA (h:=f7 (by omega) ?_)))
  rw[hs]
  (refine aC ?_;exact aB (hK))
 ·refine aJ Tryz.func293 ?_
  repeat' (first|refine v85 ?_|refine dw rV ?_|refine w5 ?_ ?_|((refine bh fun h=>?_) <;> try exact w6 h)|(refine aF fun hA=>?_;subst hA)|intro _|(show aA _ 166 _ _ _;refine CA (h:=Eu (kk:=kk) (by omega) (by omega) ?_))|(show aA _ 66 _ _ _;refine CA (h:=f7 (by omega) ?_)))
  rw[hs]
  (refine aC ?_;exact aB (kv hK (by congr 5;rw[Bool.eq_iff_iff,Bool.true_and,hd,beq_iff_eq];omega)))
theorem QX (hr:rdB bs en ou n=true) (hK:K (.tuple #[.string ⟨(bs.take (B5 bs n)).toArray⟩,.bool (en && decide (bs.drop (B5 bs n)= [])),.bool true]) (yZ t cap (bs.drop (B5 bs n)) en (en && decide (bs.drop (B5 bs n)= [])) ac (se+(B5 bs n:Nat)) dr::R)):CT 229 #[PO t,I6 n] (yZ t cap bs en ou ac se dr::R) K:=by
 refine sE fun r hT=>?_
 have hT':=hT
 obtain⟨h1,h2,h3,h4,h5,h6,h7⟩:=hT'
 have hw:TB cap (bs.drop (B5 bs n)) en (en && decide (bs.drop (B5 bs n)= [])) ac (se+(B5 bs n:Nat)) dr:=by
  have:B5 bs n<=bs.length:=by unfold B5;omega
  refine⟨?_,by omega,h3,h4,?_,h6,?_⟩
  ·rw[List.length_drop];omega
  ·rw[List.length_drop];omega
  ·intro h;simpa using h
 refine aJ Tryz.func229 ?_
 repeat' (first|refine Qk ?_|refine w5 ?_ ?_|((refine bh fun h=>?_) <;> try exact w6 h)|(refine aF fun hA=>?_;subst hA)|intro _|(show aA _ 211 _ _ _;refine CA (h:=tL hT hr ?_))|(show aA _ 293 _ _ _;refine CA (h:=Ns hT ?_)))
 (refine aC ?_;exact aQ (aG.trans (by exact bE) ((kX hw))) (hK))
theorem O6 (hK:K (I6 bs.length) (yZ t cap [] en ou ac se (dr+bs.length)::R)):CT 320 #[PO t] (yZ t cap bs en ou ac se dr::R) K:=by
 refine sE fun r hT=>?_
 obtain⟨h1,h2,h3,h4,h5,h6,h7⟩:=hT
 have hw:TB cap [] en ou ac se (dr+bs.length):=⟨by simp;omega,h2,by omega,h4,by simp,h6,fun h=>⟨(h7 h).1,rfl⟩⟩
 refine aJ Tryz.func320 ?_
 repeat' (first|refine Hf ?_|refine dw z6 ?_|refine w5 ?_ ?_|((refine bh fun h=>?_) <;> try exact w6 h)|(refine aF fun hA=>?_;subst hA)|intro _|(show aA _ 321 _ _ _;refine CA (h:=Kb (by omega) ?_))|(show aA _ 322 _ _ _;refine CA (h:=FK ?_)))
 rw[show((bs.length:Nat):Int)+0=bs.length by omega]
 (refine aC ?_;exact aQ (aG.trans (by exact bE) ((kX hw))) (hK))
def TI (cap:Nat) (st:Int) (l:List ByteArray) (w:Int) (en ou:Bool) (ac se dr:Int):Prop:=ac=se+dr+l.length/\0<=se/\0<=dr/\ac<=900000000/\l.length<=cap/\cap<=64/\(0<=w/\w<=2147483647)/\(0<=st/\st<=2)/\(ou=true->en=true/\l= [])
def rN (t cap:Nat) (st:Int) (l:List ByteArray) (w:Int) (en ou:Bool) (ac se dr:Int):HP:=fN fun q=>fN fun d=>sep (pt t [I6 ac,I6 se,I6 dr,I6 2,.pointer none,PO q,PO d,.bool en,.bool ou] 211) (sep (wC q cap st l ac se dr) (sep (pB d w 2147483647) (bH (TI cap st l w en ou ac se dr))))
theorem g8 (h:TI cap st l w en ou ac se dr):aG (pt t [I6 ac,I6 se,I6 dr,I6 2,.pointer none,PO q,PO d,.bool en,.bool ou] 211::wC q cap st l ac se dr::pB d w 2147483647::R) (rN t cap st l w en ou ac se dr::R):=
 aG.ex q (aG.ex d (qU h))
theorem iV (h:∀q d,TI cap st l w en ou ac se dr->CT f args (pt t [I6 ac,I6 se,I6 dr,I6 2,.pointer none,PO q,PO d,.bool en,.bool ou] 211::wC q cap st l ac se dr::pB d w 2147483647::R) K):CT f args (rN t cap st l w en ou ac se dr::R) K:=
 aA.ex fun q=>aA.ex fun d=>Ch fun hI=>h q d hI
theorem JD (h:cap<=64) (hs:0<=st/\st<=2) (hK:∀t,K (.tuple #[PO t,I6 0]) (rN t cap st [] 0 false false 0 0 0::R)):CT 171 #[I6 2,I6 cap,I6 st] R K:=by
 refine aJ Tryz.func171 ?_
 repeat' (first|refine zB ?_|refine w5 ?_ ?_|((refine bh fun h=>?_) <;> try exact w6 h)|(refine aF fun hA=>?_;subst hA)|intro _|(show aA _ 257 _ _ _;refine CA (h:=PU (by omega) (by omega) (fun q=>?_)))|(show aA _ 258 _ _ _;refine CA (h:=TC (by omega) (fun d=>?_))))
 (refine aC ?_;exact aQ (aG.trans (by exact bE) ((g8 ⟨by simp,by omega,by omega,by omega,by simp,h,by omega,hs,by simp⟩))) (hK _))
theorem R4 (hK:K (I6 2) (rN t cap st l w en ou ac se dr::R)):CT 217 #[PO t] (rN t cap st l w en ou ac se dr::R) K:=by
 refine iV fun q d hT=>?_
 refine aJ Tryz.func217 ?_
 repeat' (first|refine v4 ?_|refine w5 ?_ ?_|((refine bh fun h=>?_) <;> try exact w6 h)|(refine aF fun hA=>?_;subst hA)|intro _)
 (refine aC ?_;exact aQ (aG.trans (by exact bE) ((g8 hT))) (hK))
theorem Rq (hK:K (.agg #[I6 ac,I6 se,I6 dr]) (rN t cap st l w en ou ac se dr::R)):CT 65 #[PO t] (rN t cap st l w en ou ac se dr::R) K:=by
 refine iV fun q d hT=>?_
 refine aJ Tryz.func65 ?_
 repeat' (first|refine v30 ?_|refine w5 ?_ ?_|((refine bh fun h=>?_) <;> try exact w6 h)|(refine aF fun hA=>?_;subst hA)|intro _)
 (refine aC ?_;exact aQ (aG.trans (by exact bE) ((g8 hT))) (hK))
theorem Jb (hK:K (I6 w) (pt t [I6 ac,I6 se,I6 dr,I6 2,.pointer none,PO q,PO d,.bool en,.bool ou] 211::pB d w 2147483647::R)):CT 284 #[PO t] (pt t [I6 ac,I6 se,I6 dr,I6 2,.pointer none,PO q,PO d,.bool en,.bool ou] 211::pB d w 2147483647::R) K:=by
 refine aJ Tryz.func284 ?_
 repeat' (first|refine Y9 ?_|refine w5 ?_ ?_|((refine bh fun h=>?_) <;> try exact w6 h)|(refine aF fun hA=>?_;subst hA)|intro _|(show aA _ 289 _ _ _;refine CA (h:=Ou ?_)))
 (refine aC ?_;exact aB (hK))
theorem R7 (h:1<=n) (hK:K (I6 0) (rN t cap st l (w+min n (2147483647 - w)) en ou ac se dr::R)):CT 278 #[PO t,I6 n] (rN t cap st l w en ou ac se dr::R) K:=by
 refine iV fun q d hT=>?_
 obtain⟨h1,h2,h3,h4,h5,h6,h7,h8,h9⟩:=hT
 have hw:TI cap st l (w+min n (2147483647 - w)) en ou ac se dr:=⟨h1,h2,h3,h4,h5,h6,by omega,h8,h9⟩
 refine aJ Tryz.func278 ?_
 repeat' (first|refine v35 ?_|refine w5 ?_ ?_|((refine bh fun h=>?_) <;> try exact w6 h)|(refine aF fun hA=>?_;subst hA)|intro _|(show aA _ 324 _ _ _;refine CA (h:=Ad6 h h7 (by omega) ?_)))
 (refine aC ?_;exact aQ (aG.trans (by exact bE) ((g8 hw))) (hK))
theorem P9 (h:n<1) (hK:K (I6 2) (rN t cap st l w en ou ac se dr::R)):CT 278 #[PO t,I6 n] (rN t cap st l w en ou ac se dr::R) K:=by
 refine iV fun q d hT=>?_
 refine aJ Tryz.func278 ?_
 repeat' (first|refine v35 ?_|refine w5 ?_ ?_|((refine bh fun h=>?_) <;> try exact w6 h)|(refine aF fun hA=>?_;subst hA)|intro _|(show aA _ 324 _ _ _;refine CA (h:=Ab4 (by simp) h ?_)))
 (refine aC ?_;exact aQ (aG.trans (by exact bE) ((g8 hT))) (hK))
theorem oF (hK:K (I6 (if en=true then 11 else 0)) (pt t [I6 ac,I6 se,I6 dr,I6 2,.pointer none,PO q,PO d,.bool en,.bool ou] 211::R)):CT 246 #[PO t] (pt t [I6 ac,I6 se,I6 dr,I6 2,.pointer none,PO q,PO d,.bool en,.bool ou] 211::R) K:=by
 cases en
 ·refine aJ Tryz.func246 ?_
  repeat' (first|refine v4 ?_|refine w5 ?_ ?_|((refine bh fun h=>?_) <;> try exact w6 h)|(refine aF fun hA=>?_;subst hA)|intro _)
  (refine aC ?_;exact aB (hK))
 ·refine aJ Tryz.func246 ?_
  repeat' (first|refine v4 ?_|refine w5 ?_ ?_|((refine bh fun h=>?_) <;> try exact w6 h)|(refine aF fun hA=>?_;subst hA)|intro _)
  (refine aC ?_;exact aB (hK))
def Is (l:List ByteArray) (w:Int) (en ou:Bool):Bool:=if l= [] then en && !ou else decide (0<w)
theorem pX (hT:TI cap st l w en ou ac se dr) (hb:Is l w en ou=b) (hK:K (.bool b) (pt t [I6 ac,I6 se,I6 dr,I6 2,.pointer none,PO q,PO d,.bool en,.bool ou] 211::pB d w 2147483647::R)):CT 211 #[PO t,I6 n] (pt t [I6 ac,I6 se,I6 dr,I6 2,.pointer none,PO q,PO d,.bool en,.bool ou] 211::pB d w 2147483647::R) K:=by
 obtain⟨h1,h2,h3,h4,h5,h6,h7,h8,h9⟩:=hT
 subst hb
 by_cases hb:l= []
 ·subst hb
  rw[Is,if_pos rfl] at hK
  cases en
  ·refine aJ Tryz.func211 ?_
   repeat' (first|refine I3 ?_|refine w5 ?_ ?_|((refine bh fun h=>?_) <;> try exact w6 h)|(refine aF fun hA=>?_;subst hA)|intro _|(show aA _ 66 _ _ _;refine CA (h:=f7 (by simp at *;omega) ?_)))
   all_goals first|(exfalso;simp at *;omega)|((refine aC ?_;exact aB (hK)))
  ·refine aJ Tryz.func211 ?_
   repeat' (first|refine I3 ?_|refine w5 ?_ ?_|((refine bh fun h=>?_) <;> try exact w6 h)|(refine aF fun hA=>?_;subst hA)|intro _|(show aA _ 66 _ _ _;refine CA (h:=f7 (by simp at *;omega) ?_)))
   all_goals first|(exfalso;simp at *;omega)|((refine aC ?_;exact aB (hK)))
 ·have:0<l.length:=List.length_pos_iff.2 hb
  rw[Is,if_neg hb] at hK
  refine aJ Tryz.func211 ?_
  repeat' (first|refine I3 ?_|refine w5 ?_ ?_|((refine bh fun h=>?_) <;> try exact w6 h)|(refine aF fun hA=>?_;subst hA)|intro _|(show aA _ 66 _ _ _;refine CA (h:=f7 (by omega) ?_))|(show aA _ 284 _ _ _;refine CA (h:=Jb ?_)))
  (refine aC ?_;exact aB (hK))
theorem Ph (hK:K (.bool (Is l w en ou)) (rN t cap st l w en ou ac se dr::R)):CT 211 #[PO t,I6 n] (rN t cap st l w en ou ac se dr::R) K:=by
 refine iV fun q d hT=>?_
 refine aA.ent (C':=pt t [I6 ac,I6 se,I6 dr,I6 2,.pointer none,PO q,PO d,.bool en,.bool ou] 211::pB d w 2147483647::wC q cap st l ac se dr::R) (by exact bE) ?_
 exact aA.entK (pX hT rfl ⟨_,aG.trans (by exact bE) (g8 hT),hK⟩)
theorem O5 (hK:K (.bool (decide (0<l.length) && !Is l w en ou)) (rN t cap st l w en ou ac se dr::R)):CT 134 #[PO t,I6 n] (rN t cap st l w en ou ac se dr::R) K:=by
 refine iV fun q d hT=>?_
 have hT':=hT
 obtain⟨h1,h2,h3,h4,h5,h6,h7,h8,h9⟩:=hT'
 by_cases hb:0<l.length
 ·refine aJ Tryz.func134 ?_
  repeat' (first|refine v48 ?_|refine w5 ?_ ?_|((refine bh fun h=>?_) <;> try exact w6 h)|(refine aF fun hA=>?_;subst hA)|intro _|(show aA _ 66 _ _ _;refine CA (h:=f7 (by omega) ?_))|(show aA _ 211 _ _ _;refine CA (h:=pX hT rfl ?_)))
  all_goals(refine aC ?_;exact aQ (aG.trans (by exact bE) ((g8 hT))) ((kb hK (by simp_all))))
 ·refine aJ Tryz.func134 ?_
  repeat' (first|refine v48 ?_|refine w5 ?_ ?_|((refine bh fun h=>?_) <;> try exact w6 h)|(refine aF fun hA=>?_;subst hA)|intro _|(show aA _ 66 _ _ _;refine CA (h:=f7 (by omega) ?_))|(show aA _ 211 _ _ _;refine CA (h:=pX hT rfl ?_)))
  all_goals(refine aC ?_;exact aQ (aG.trans (by exact bE) ((g8 hT))) ((kb hK (by simp_all))))
theorem Q9 (he:en=true) (hK:K (.tuple #[I6 0,I6 11]) (rN t cap st l w en ou ac se dr::R)):CT 164 #[PO t,.string s] (rN t cap st l w en ou ac se dr::R) K:=by
 subst he
 refine iV fun q d hT=>?_
 refine aJ Tryz.func164 ?_
 repeat' (first|refine Yw ?_|refine w5 ?_ ?_|((refine bh fun h=>?_) <;> try exact w6 h)|(refine aF fun hA=>?_;subst hA)|intro _|(show aA _ 246 _ _ _;refine CA (h:=oF ?_)))
 (refine aC ?_;exact aQ (aG.trans (by exact bE) ((g8 hT))) (hK))
theorem Sk (he:en=false) (hs:256<s.size) (hK:K (.tuple #[I6 0,I6 4]) (rN t cap st l w en ou ac se dr::R)):CT 164 #[PO t,.string s] (rN t cap st l w en ou ac se dr::R) K:=by
 subst he
 refine iV fun q d hT=>?_
 refine aJ Tryz.func164 ?_
 repeat' (first|refine Yw ?_|refine w5 ?_ ?_|((refine bh fun h=>?_) <;> try exact w6 h)|(refine aF fun hA=>?_;subst hA)|intro _|(show aA _ 246 _ _ _;refine CA (h:=oF ?_)))
 (refine aC ?_;exact aQ (aG.trans (by exact bE) ((g8 hT))) (hK))
theorem Q2 (he:en=false) (hs:s.size<=256) (hc:cap<=l.length) (h0:st=0) (hK:K (.tuple #[I6 0,I6 9]) (rN t cap st l w en ou ac se dr::R)):CT 164 #[PO t,.string s] (rN t cap st l w en ou ac se dr::R) K:=by
 subst he
 refine iV fun q d hT=>?_
 refine aJ Tryz.func164 ?_
 repeat' (first|refine Yw ?_|refine w5 ?_ ?_|((refine bh fun h=>?_) <;> try exact w6 h)|(refine aF fun hA=>?_;subst hA)|intro _|(show aA _ 246 _ _ _;refine CA (h:=oF ?_))|(show aA _ 248 _ _ _;refine CA (h:=Xa (by omega) h0 ?_)))
 (refine aC ?_;exact aQ (aG.trans (by exact bE) ((g8 hT))) (hK))
theorem RF (he:en=false) (hs:s.size<=256) (hc:l.length<cap) (hb:ac<=800000000) (hK:K (.tuple #[I6 1,I6 0]) (rN t cap st (l++ [s]) w en ou (ac+1) se dr::R)):CT 164 #[PO t,.string s] (rN t cap st l w en ou ac se dr::R) K:=by
 subst he
 refine iV fun q d hT=>?_
 obtain⟨h1,h2,h3,h4,h5,h6,h7,h8,h9⟩:=hT
 have hT:TI cap st (l++ [s]) w false ou (ac+1) se dr:=⟨by simp;omega,h2,h3,by omega,by simp;omega,h6,h7,h8,fun h=>by simpa using (h9 h).1⟩
 refine aJ Tryz.func164 ?_
 repeat' (first|refine Yw ?_|refine w5 ?_ ?_|((refine bh fun h=>?_) <;> try exact w6 h)|(refine aF fun hA=>?_;subst hA)|intro _|(show aA _ 246 _ _ _;refine CA (h:=oF ?_))|(show aA _ 248 _ _ _;refine CA (h:=EW (by omega) (by omega) (by omega) ?_)))
 (refine aC ?_;exact aQ (aG.trans (by exact bE) ((g8 hT))) (hK))
theorem Sa (he:en=false) (hs:s.size<=256) (hc:cap<=l.length) (h0:st≠0) (h10:st=1\/cap=0) (hb:ac<=800000000) (hK:K (.tuple #[I6 2,I6 0]) (rN t cap st l w en ou (ac+1) se (dr+1)::R)):CT 164 #[PO t,.string s] (rN t cap st l w en ou ac se dr::R) K:=by
 subst he
 refine iV fun q d hT=>?_
 obtain⟨h1,h2,h3,h4,h5,h6,h7,h8,h9⟩:=hT
 have hT:TI cap st l w false ou (ac+1) se (dr+1):=⟨by omega,h2,by omega,by omega,h5,h6,h7,h8,h9⟩
 refine aJ Tryz.func164 ?_
 repeat' (first|refine Yw ?_|refine w5 ?_ ?_|((refine bh fun h=>?_) <;> try exact w6 h)|(refine aF fun hA=>?_;subst hA)|intro _|(show aA _ 246 _ _ _;refine CA (h:=oF ?_))|(show aA _ 248 _ _ _;refine CA (h:=VB (by omega) (by omega) (by omega) h0 (by omega) ?_)))
 (refine aC ?_;exact aQ (aG.trans (by exact bE) ((g8 hT))) (hK))
theorem RO {s0:ByteArray} (he:en=false) (hs:s.size<=256) (hc:cap<=(s0::l).length) (h0:st≠0) (h10:st≠1) (h11:cap≠0) (hb:ac<=800000000) (hK:K (.tuple #[I6 3,I6 0]) (rN t cap st (l++ [s]) w en ou (ac+1) se (dr+1)::R)):CT 164 #[PO t,.string s] (rN t cap st (s0::l) w en ou ac se dr::R) K:=by
 subst he
 refine iV fun q d hT=>?_
 obtain⟨h1,h2,h3,h4,h5,h6,h7,h8,h9⟩:=hT
 have hl:(s0::l).length=l.length+1:=rfl
 have hT:TI cap st (l++ [s]) w false ou (ac+1) se (dr+1):=⟨by simp;omega,h2,by omega,by omega,by simp;omega,h6,h7,h8,fun h=>by simpa using (h9 h).1⟩
 refine aJ Tryz.func164 ?_
 repeat' (first|refine Yw ?_|refine w5 ?_ ?_|((refine bh fun h=>?_) <;> try exact w6 h)|(refine aF fun hA=>?_;subst hA)|intro _|(show aA _ 246 _ _ _;refine CA (h:=oF ?_))|(show aA _ 248 _ _ _;refine CA (h:=WO (by omega) (by omega) (by omega) (by omega) h0 h10 (by omega) ?_)))
 (refine aC ?_;exact aQ (aG.trans (by exact bE) ((g8 hT))) (hK))
def qJ:List (Nat×Nat):= [(0,0),(1,0),(2,0),(3,0),(4,0),(5,0),(6,1),(7,0)]
theorem MI (hK:K (.tuple #[.string ⟨#[]⟩,.bool true]) (pt r2 [PO t] 133::pt r3 [I6 n] 3::pt t [I6 ac,I6 se,I6 dr,I6 2,.pointer none,PO q,PO d,.bool en,.bool ou] 211::wC q cap st [] ac se dr::pB d w 2147483647::R)):CT 293 #[PO r2,PO r3] (pt r2 [PO t] 133::pt r3 [I6 n] 3::pt t [I6 ac,I6 se,I6 dr,I6 2,.pointer none,PO q,PO d,.bool en,.bool ou] 211::wC q cap st [] ac se dr::pB d w 2147483647::R) K:=by
 refine aJ Tryz.func293 ?_
 repeat' (first|refine v85 ?_|refine dw qJ ?_|refine w5 ?_ ?_|((refine bh fun h=>?_) <;> try exact w6 h)|(refine aF fun hA=>?_;subst hA)|intro _|(show aA _ 294 _ _ _;refine CA (h:=R1 ?_)))
 (refine aC ?_;exact aB (hK))
theorem Nr (hT:TI cap st (s::l) w en ou ac se dr) (hw:0<w) (hK:K (.tuple #[.string s,.bool false]) (pt r2 [PO t] 133::pt r3 [I6 n] 3::pt t [I6 ac,I6 (se+1),I6 dr,I6 2,.pointer none,PO q,PO d,.bool en,.bool ou] 211::wC q cap st l ac (se+1) dr::pB d (w - 1) 2147483647::R)):CT 293 #[PO r2,PO r3] (pt r2 [PO t] 133::pt r3 [I6 n] 3::pt t [I6 ac,I6 se,I6 dr,I6 2,.pointer none,PO q,PO d,.bool en,.bool ou] 211::wC q cap st (s::l) ac se dr::pB d w 2147483647::R) K:=by
 obtain⟨h1,h2,h3,h4,h5,h6,h7,h8,h9⟩:=hT
 have hl:(s::l).length=l.length+1:=rfl
 refine aJ Tryz.func293 ?_
 repeat' (first|refine v85 ?_|refine dw qJ ?_|refine w5 ?_ ?_|((refine bh fun h=>?_) <;> try exact w6 h)|(refine aF fun hA=>?_;subst hA)|intro _|(show aA _ 294 _ _ _;refine CA (h:=Vs (by omega) (by omega) ?_))|(show aA _ 219 _ _ _;refine CA (h:=PM (by omega) (by omega) (by omega) ?_)))
 (refine aC ?_;exact aB (hK))
theorem Nl (hr:Is [] w en ou=true) (hK:K (.tuple #[.string ⟨#[]⟩,.bool true,.bool true]) (rN t cap st [] w en true ac se dr::R)):CT 229 #[PO t,I6 n] (rN t cap st [] w en ou ac se dr::R) K:=by
 refine iV fun q d hT=>?_
 have hT':=hT
 obtain⟨h1,h2,h3,h4,h5,h6,h7,h8,h9⟩:=hT'
 have hw:TI cap st [] w en true ac se dr:=⟨h1,h2,h3,h4,h5,h6,h7,h8,fun _=>⟨by rw[Is,if_pos rfl] at hr;simp at hr;exact hr.1,rfl⟩⟩
 refine aJ Tryz.func229 ?_
 repeat' (first|refine Qk ?_|refine w5 ?_ ?_|((refine bh fun h=>?_) <;> try exact w6 h)|(refine aF fun hA=>?_;subst hA)|intro _|(show aA _ 211 _ _ _;refine CA (h:=pX hT hr ?_))|(show aA _ 293 _ _ _;refine CA (h:=MI ?_)))
 (refine aC ?_;exact aQ (aG.trans (by exact bE) ((g8 hw))) (hK))
theorem Qq (hr:0<w) (hK:K (.tuple #[.string s,.bool false,.bool true]) (rN t cap st l (w - 1) en false ac (se+1) dr::R)):CT 229 #[PO t,I6 n] (rN t cap st (s::l) w en ou ac se dr::R) K:=by
 refine iV fun q d hT=>?_
 have hT':=hT
 obtain⟨h1,h2,h3,h4,h5,h6,h7,h8,h9⟩:=hT'
 have hl:(s::l).length=l.length+1:=rfl
 have hw:TI cap st l (w - 1) en false ac (se+1) dr:=⟨by omega,by omega,h3,h4,by omega,h6,by omega,h8,by simp⟩
 have hr2:Is (s::l) w en ou=true:=by simp[Is,hr]
 refine aJ Tryz.func229 ?_
 repeat' (first|refine Qk ?_|refine w5 ?_ ?_|((refine bh fun h=>?_) <;> try exact w6 h)|(refine aF fun hA=>?_;subst hA)|intro _|(show aA _ 211 _ _ _;refine CA (h:=pX hT hr2 ?_))|(show aA _ 293 _ _ _;refine CA (h:=Nr hT hr ?_)))
 (refine aC ?_;exact aQ (aG.trans (by exact bE) ((g8 hw))) (hK))
def zQ:List (Nat×Nat):= [(0,0),(1,0),(2,0),(3,0),(4,1),(5,1),(6,1),(7,1),(8,1),(9,1),(10,0),(11,0)]
theorem Py (hK:K (I6 l.length) (rN t cap st [] w en ou ac se (dr+l.length)::R)):CT 320 #[PO t] (rN t cap st l w en ou ac se dr::R) K:=by
 refine iV fun q d hT=>?_
 obtain⟨h1,h2,h3,h4,h5,h6,h7,h8,h9⟩:=hT
 have hw:TI cap st [] w en ou ac se (dr+l.length):=⟨by simp;omega,h2,by omega,h4,by simp,h6,h7,h8,fun h=>⟨(h9 h).1,rfl⟩⟩
 refine aJ Tryz.func320 ?_
 repeat' (first|refine Hf ?_|refine dw zQ ?_|refine w5 ?_ ?_|((refine bh fun h=>?_) <;> try exact w6 h)|(refine aF fun hA=>?_;subst hA)|intro _|(show aA _ 321 _ _ _;refine CA (h:=GR ?_))|(show aA _ 322 _ _ _;refine CA (h:=Ic (by omega) (by omega) ?_)))
 rw[show(0:Int)+((l.length:Nat):Int)=l.length by omega]
 (refine aC ?_;exact aQ (aG.trans (by exact bE) ((g8 hw))) (hK))
end Go.Proofs.YtffnpejdkkohcaaGreat
