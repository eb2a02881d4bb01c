/- A part of the proof: lemmas; each with the conditions that it states. -/
import Derived.Test.YtifgibijcmppmaaGreatNag
set_option linter.unusedVariables false
set_option linter.unusedSimpArgs false
namespace Go.Proofs.YtifgibijcmppmaaGreat
open Go Go.Proofs Go.Sl
set_option maxRecDepth 100000
set_option maxHeartbeats 40000000
attribute [local irreducible] aN fB cJ bO aM aY aA dM dQ aW dK pt ro fF star sep bI
section
variable {R C:List HP} {K:Value→List HP→Prop}
def TB (cap:Nat) (bs:List UInt8) (en ou:Bool) (ac se dr:Int):Prop:=ac=se+dr+bs.length∧0≤se∧0≤dr∧ac≤900000000∧bs.length≤cap∧cap≤4096∧(ou=true→en=true∧bs= [])
def yA (t cap:Nat) (bs:List UInt8) (en ou:Bool) (ac se dr:Int):HP:=fF fun r=>sep (pt t [.int .i64 ac,.int .i64 se,.int .i64 dr,.int .i64 1,.pointer (some ⟨r,0,none⟩),.pointer none,.pointer none,.bool en,.bool ou] 263) (sep (kK r cap bs) (bI (TB cap bs en ou ac se dr)))
theorem jT {t cap r:Nat} {bs:List UInt8} {en ou:Bool} {ac se dr:Int} (h:TB cap bs en ou ac se dr):aG (pt t [.int .i64 ac,.int .i64 se,.int .i64 dr,.int .i64 1,.pointer (some ⟨r,0,none⟩),.pointer none,.pointer none,.bool en,.bool ou] 263::kK r cap bs::R) (yA t cap bs en ou ac se dr::R):=
 aG.ex r (aG.sep (aG.pick aV.here (aG.sep (aG.pick aV.here (aG.pure h (aG.refl _))))))
theorem pE {f:FuncId} {args:Array Value} {t cap:Nat} {bs:List UInt8} {en ou:Bool} {ac se dr:Int} (h:∀r,TB cap bs en ou ac se dr→aA Tryz.prog f args (pt t [.int .i64 ac,.int .i64 se,.int .i64 dr,.int .i64 1,.pointer (some ⟨r,0,none⟩),.pointer none,.pointer none,.bool en,.bool ou] 263::kK r cap bs::R) K):aA Tryz.prog f args (yA t cap bs en ou ac se dr::R) K:=
 aA.ex fun r=>aA.sep (aA.ent (aG.trans (aG.cons aG.unsep) (fun _ hs=>(hs.perm (List.Perm.trans (List.Perm.cons _ (List.Perm.swap _ _ _)) (List.Perm.swap _ _ _))))) (aA.pure fun hI=>h r hI))
def AF:List (Nat×Nat):= [(0,0),(1,0),(2,0),(3,0),(4,1),(5,1),(6,1),(7,1),(8,1),(9,1),(10,0),(11,0)]
theorem gQ {ac se dr:Int} (h:0≤se∧0≤dr∧0≤ac∧ac≤9000000000∧se≤ac∧dr≤ac) (hK:K (.int .i64 (ac - se - dr)) R):aA Tryz.prog 88 #[.agg #[.int .i64 ac,.int .i64 se,.int .i64 dr]] R K:=by
 refine aH Tryz.func88 ?_
 repeat' (first|refine v22 ?_|refine wr ?_|refine w5 ?_ ?_|((refine bh fun h=>?_) <;> try exact w6 h)|(refine aE fun hA=>?_;subst hA)|intro _)
 (refine aC ?_;exact aB (hK))
theorem J4 {cap:Nat} {st:Int} (h:cap≤4096) (hK:∀t,K (.tuple #[.pointer (some ⟨t,0,none⟩),.int .i64 0]) (yA t cap [] false false 0 0 0::R)):aA Tryz.prog 234 #[.int .i64 1,.int .i64 cap,.int .i64 st] R K:=by
 refine aH Tryz.func234 ?_
 repeat' (first|refine zB ?_|refine wr ?_|refine w5 ?_ ?_|((refine bh fun h=>?_) <;> try exact w6 h)|(refine aE fun hA=>?_;subst hA)|intro _|(show aA _ 322 _ _ _;refine CA (h:=T5 (by omega) (fun r=>?_))))
 (refine aC ?_;exact aL (aG.trans (by exact bA) ((jT ⟨by simp,by omega,by omega,by omega,by simp,by omega,by simp⟩))) (hK _))
theorem SA {t cap:Nat} {bs:List UInt8} {en ou:Bool} {ac se dr:Int} (hK:K (.int .i64 1) (yA t cap bs en ou ac se dr::R)):aA Tryz.prog 208 #[.pointer (some ⟨t,0,none⟩)] (yA t cap bs en ou ac se dr::R) K:=by
 refine pE fun r hT=>?_
 refine aH Tryz.func208 ?_
 repeat' (first|refine v4 ?_|refine wr ?_|refine w5 ?_ ?_|((refine bh fun h=>?_) <;> try exact w6 h)|(refine aE fun hA=>?_;subst hA)|intro _)
 (refine aC ?_;exact aL (aG.trans (by exact bA) ((jT hT))) (hK))
theorem Sd {t cap:Nat} {bs:List UInt8} {en ou:Bool} {ac se dr:Int} (hK:K (.agg #[.int .i64 ac,.int .i64 se,.int .i64 dr]) (yA t cap bs en ou ac se dr::R)):aA Tryz.prog 87 #[.pointer (some ⟨t,0,none⟩)] (yA t cap bs en ou ac se dr::R) K:=by
 refine pE fun r hT=>?_
 refine aH Tryz.func87 ?_
 repeat' (first|refine v30 ?_|refine wr ?_|refine w5 ?_ ?_|((refine bh fun h=>?_) <;> try exact w6 h)|(refine aE fun hA=>?_;subst hA)|intro _)
 (refine aC ?_;exact aL (aG.trans (by exact bA) ((jT hT))) (hK))
theorem SO {t cap:Nat} {bs:List UInt8} {en ou:Bool} {ac se dr n:Int} (hK:K (.int .i64 13) (yA t cap bs en ou ac se dr::R)):aA Tryz.prog 344 #[.pointer (some ⟨t,0,none⟩),.int .i64 n] (yA t cap bs en ou ac se dr::R) K:=by
 refine pE fun r hT=>?_
 refine aH Tryz.func344 ?_
 repeat' (first|refine v35 ?_|refine wr ?_|refine w5 ?_ ?_|((refine bh fun h=>?_) <;> try exact w6 h)|(refine aE fun hA=>?_;subst hA)|intro _)
 (refine aC ?_;exact aL (aG.trans (by exact bA) ((jT hT))) (hK))
theorem rV {t r:Nat} {en ou:Bool} {ac se dr:Int} (hK:K (.int .i64 (if en=true then 11 else 0)) (pt t [.int .i64 ac,.int .i64 se,.int .i64 dr,.int .i64 1,.pointer (some ⟨r,0,none⟩),.pointer none,.pointer none,.bool en,.bool ou] 263::R)):aA Tryz.prog 319 #[.pointer (some ⟨t,0,none⟩)] (pt t [.int .i64 ac,.int .i64 se,.int .i64 dr,.int .i64 1,.pointer (some ⟨r,0,none⟩),.pointer none,.pointer none,.bool en,.bool ou] 263::R) K:=by
 cases en
 ·refine aH Tryz.func319 ?_
  repeat' (first|refine v4 ?_|refine wr ?_|refine w5 ?_ ?_|((refine bh fun h=>?_) <;> try exact w6 h)|(refine aE fun hA=>?_;subst hA)|intro _)
  (refine aC ?_;exact aB (hK))
 ·refine aH Tryz.func319 ?_
  repeat' (first|refine v4 ?_|refine wr ?_|refine w5 ?_ ?_|((refine bh fun h=>?_) <;> try exact w6 h)|(refine aE fun hA=>?_;subst hA)|intro _)
  (refine aC ?_;exact aB (hK))
theorem VZ {t cap:Nat} {bs:List UInt8} {en ou:Bool} {ac se dr:Int} (hK:K (.int .i64 (if en=true then 11 else 0)) (yA t cap bs true ou ac se dr::R)):aA Tryz.prog 359 #[.pointer (some ⟨t,0,none⟩)] (yA t cap bs en ou ac se dr::R) K:=by
 refine pE fun r hT=>?_
 obtain⟨h1,h2,h3,h4,h5,h6,h7⟩:=hT
 have h':TB cap bs true ou ac se dr:=⟨h1,h2,h3,h4,h5,h6,fun h=>⟨rfl,(h7 h).2⟩⟩
 cases en
 ·refine aH Tryz.func359 ?_
  repeat' (first|refine v13 ?_|refine wr ?_|refine w5 ?_ ?_|((refine bh fun h=>?_) <;> try exact w6 h)|(refine aE fun hA=>?_;subst hA)|intro _|(show aA _ 319 _ _ _;refine CA (h:=rV ?_)))
  (refine aC ?_;exact aL (aG.trans (by exact bA) ((jT h'))) (hK))
 ·refine aH Tryz.func359 ?_
  repeat' (first|refine v13 ?_|refine wr ?_|refine w5 ?_ ?_|((refine bh fun h=>?_) <;> try exact w6 h)|(refine aE fun hA=>?_;subst hA)|intro _|(show aA _ 319 _ _ _;refine CA (h:=rV ?_)))
  (refine aC ?_;exact aL (aG.trans (by exact bA) ((jT h'))) (hK))
def rdB (bs:List UInt8) (en ou:Bool) (n:Int):Bool:=if bs= [] then en && !ou else decide (0<n)
theorem tT {t cap r:Nat} {bs:List UInt8} {en ou:Bool} {ac se dr n:Int} {b:Bool} (hT:TB cap bs en ou ac se dr) (hb:rdB bs en ou n=b) (hK:K (.bool b) (pt t [.int .i64 ac,.int .i64 se,.int .i64 dr,.int .i64 1,.pointer (some ⟨r,0,none⟩),.pointer none,.pointer none,.bool en,.bool ou] 263::R)):aA Tryz.prog 274 #[.pointer (some ⟨t,0,none⟩),.int .i64 n] (pt t [.int .i64 ac,.int .i64 se,.int .i64 dr,.int .i64 1,.pointer (some ⟨r,0,none⟩),.pointer none,.pointer none,.bool en,.bool ou] 263::R) K:=by
 obtain⟨h1,h2,h3,h4,h5,h6,h7⟩:=hT
 subst hb
 by_cases hb:bs= []
 ·subst hb
  rw[rdB,if_pos rfl] at hK
  cases en
  ·refine aH Tryz.func274 ?_
   repeat' (first|refine I7 ?_|refine wr ?_|refine w5 ?_ ?_|((refine bh fun h=>?_) <;> try exact w6 h)|(refine aE fun hA=>?_;subst hA)|intro _|(show aA _ 88 _ _ _;refine CA (h:=gQ (by simp at *;omega) ?_)))
   all_goals first|(exfalso;simp at *;omega)|((refine aC ?_;exact aB (hK)))
  ·refine aH Tryz.func274 ?_
   repeat' (first|refine I7 ?_|refine wr ?_|refine w5 ?_ ?_|((refine bh fun h=>?_) <;> try exact w6 h)|(refine aE fun hA=>?_;subst hA)|intro _|(show aA _ 88 _ _ _;refine CA (h:=gQ (by simp at *;omega) ?_)))
   all_goals first|(exfalso;simp at *;omega)|((refine aC ?_;exact aB (hK)))
 ·have:0<bs.length:=List.length_pos_iff.2 hb
  rw[rdB,if_neg hb] at hK
  refine aH Tryz.func274 ?_
  repeat' (first|refine I7 ?_|refine wr ?_|refine w5 ?_ ?_|((refine bh fun h=>?_) <;> try exact w6 h)|(refine aE fun hA=>?_;subst hA)|intro _|(show aA _ 88 _ _ _;refine CA (h:=gQ (by omega) ?_)))
  (refine aC ?_;exact aB (hK))
theorem Oa {t cap:Nat} {bs:List UInt8} {en ou:Bool} {ac se dr n:Int} (hK:K (.bool (rdB bs en ou n)) (yA t cap bs en ou ac se dr::R)):aA Tryz.prog 274 #[.pointer (some ⟨t,0,none⟩),.int .i64 n] (yA t cap bs en ou ac se dr::R) K:=by
 refine pE fun r hT=>?_
 exact aA.entK (tT hT rfl ⟨_,jT hT,hK⟩)
theorem NG {t cap:Nat} {bs:List UInt8} {en ou:Bool} {ac se dr n:Int} (hK:K (.bool (decide (0<bs.length) && !rdB bs en ou n)) (yA t cap bs en ou ac se dr::R)):aA Tryz.prog 183 #[.pointer (some ⟨t,0,none⟩),.int .i64 n] (yA t cap bs en ou ac se dr::R) K:=by
 refine pE fun r hT=>?_
 have hT':=hT
 obtain⟨h1,h2,h3,h4,h5,h6,h7⟩:=hT'
 by_cases hb:0<bs.length
 ·refine aH Tryz.func183 ?_
  repeat' (first|refine v48 ?_|refine wr ?_|refine w5 ?_ ?_|((refine bh fun h=>?_) <;> try exact w6 h)|(refine aE fun hA=>?_;subst hA)|intro _|(show aA _ 88 _ _ _;refine CA (h:=gQ (by omega) ?_))|(show aA _ 274 _ _ _;refine CA (h:=tT hT rfl ?_)))
  all_goals(refine aC ?_;exact aL (aG.trans (by exact bA) ((jT hT))) ((kb hK (by simp_all))))
 ·refine aH Tryz.func183 ?_
  repeat' (first|refine v48 ?_|refine wr ?_|refine w5 ?_ ?_|((refine bh fun h=>?_) <;> try exact w6 h)|(refine aE fun hA=>?_;subst hA)|intro _|(show aA _ 88 _ _ _;refine CA (h:=gQ (by omega) ?_))|(show aA _ 274 _ _ _;refine CA (h:=tT hT rfl ?_)))
  all_goals(refine aC ?_;exact aL (aG.trans (by exact bA) ((jT hT))) ((kb hK (by simp_all))))
def EX (cap:Nat) (bs:List UInt8) (en:Bool) (s:ByteArray):Nat:=if en=true then 0 else min s.size (cap - bs.length)
theorem VF {t cap:Nat} {bs:List UInt8} {en ou:Bool} {ac se dr:Int} {s:ByteArray} (hs:ac+s.size≤900000000) (hK:K (.tuple #[.int .i64 (EX cap bs en s:Nat),.int .i64 (if en=true then 11 else 0)]) (yA t cap (bs++s.data.toList.take (EX cap bs en s)) en ou (ac+(EX cap bs en s:Nat)) se dr::R)):aA Tryz.prog 233 #[.pointer (some ⟨t,0,none⟩),.string s] (yA t cap bs en ou ac se dr::R) K:=by
 refine pE fun r hT=>?_
 have hT':=hT
 obtain⟨h1,h2,h3,h4,h5,h6,h7⟩:=hT'
 have hsl:s.data.toList.length=s.size:=by simp
 cases en
 ·have ho:EX cap bs false s=min s.size (cap - bs.length):=by simp[EX]
  generalize EX cap bs false s=kk at *
  have hl:(s.data.toList.take kk).length=kk:=by rw[List.length_take,hsl];omega
  have hw:TB cap (bs++s.data.toList.take kk) false ou (ac+(kk:Nat)) se dr:=by
   refine⟨?_,h2,h3,?_,?_,h6,?_⟩
   ·rw[List.length_append,hl];omega
   ·omega
   ·rw[List.length_append,hl];omega
   ·intro ho;exact absurd (h7 ho).1 (by simp)
  by_cases h0:kk=0
  ·have h9:s.size=0∨cap≤bs.length:=by omega
   subst h0
   simp only[List.take_zero,List.append_nil] at hK hw
   refine aH Tryz.func233 ?_
   repeat' (first|refine v49 ?_|refine wr ?_|refine w5 ?_ ?_|((refine bh fun h=>?_) <;> try exact w6 h)|(refine aE fun hA=>?_;subst hA)|intro _|(show aA _ 319 _ _ _;refine CA (h:=rV ?_))|(show aA _ 320 _ _ _;refine CA (h:=II (by omega) h9 ?_)))
   (refine aC ?_;exact aL (aG.trans (by exact bA) ((jT hw))) (hK))
  ·refine aH Tryz.func233 ?_
   repeat' (first|refine v49 ?_|refine wr ?_|refine w5 ?_ ?_|((refine bh fun h=>?_) <;> try exact w6 h)|(refine aE fun hA=>?_;subst hA)|intro _|(show aA _ 319 _ _ _;refine CA (h:=rV ?_))|(show aA _ 320 _ _ _;refine CA (h:=J3 (n:=kk) (by omega) (by omega) (by omega) ?_)))
   (refine aC ?_;exact aL (aG.trans (by exact bA) ((jT hw))) (hK))
 ·rw[EX,if_pos rfl] at hK
  simp only[List.take_zero,List.append_nil] at hK
  refine aH Tryz.func233 ?_
  repeat' (first|refine v49 ?_|refine wr ?_|refine w5 ?_ ?_|((refine bh fun h=>?_) <;> try exact w6 h)|(refine aE fun hA=>?_;subst hA)|intro _|(show aA _ 319 _ _ _;refine CA (h:=rV ?_)))
  (refine aC ?_;exact aL (aG.trans (by exact bA) ((jT hT))) ((by simpa using hK)))
def BS (bs:List UInt8) (n:Int):Nat:=(max (min (min n 256) bs.length) 0).toNat
def rP:List (Nat×Nat):= [(0,0),(1,0),(2,0),(3,0),(4,0),(5,0),(6,1),(7,0)]
theorem Pm {t cap r r2 r3:Nat} {bs:List UInt8} {en ou:Bool} {ac se dr n:Int} (hT:TB cap bs en ou ac se dr) (hK:K (.tuple #[.string ⟨(bs.take (BS bs n)).toArray⟩,.bool (en && decide (bs.drop (BS bs n)= []))]) (pt r2 [.pointer (some ⟨t,0,none⟩)] 167::pt r3 [.int .i64 n] 3::pt t [.int .i64 ac,.int .i64 (se+(BS bs n:Nat)),.int .i64 dr,.int .i64 1,.pointer (some ⟨r,0,none⟩),.pointer none,.pointer none,.bool en,.bool ou] 263::kK r cap (bs.drop (BS bs n))::R)):aA Tryz.prog 358 #[.pointer (some ⟨r2,0,none⟩),.pointer (some ⟨r3,0,none⟩)] (pt r2 [.pointer (some ⟨t,0,none⟩)] 167::pt r3 [.int .i64 n] 3::pt t [.int .i64 ac,.int .i64 se,.int .i64 dr,.int .i64 1,.pointer (some ⟨r,0,none⟩),.pointer none,.pointer none,.bool en,.bool ou] 263::kK r cap bs::R) K:=by
 obtain⟨h1,h2,h3,h4,h5,h6,h7⟩:=hT
 have hk:((BS bs n:Nat):Int)=max (min (min n 256) bs.length) 0:=by unfold BS;omega
 have hs:(ByteArray.mk (bs.take (BS bs n)).toArray).size=BS bs n:=by simp[o9];omega
 have hd:(decide (bs.drop (BS bs n)= [])=true)↔bs.length≤BS bs n:=by simp
 generalize BS bs n=kk at *
 cases en
 ·refine aH Tryz.func358 ?_
  repeat' (first|refine v85 ?_|refine dw rP ?_|refine wr ?_|refine w5 ?_ ?_|((refine bh fun h=>?_) <;> try exact w6 h)|(refine aE fun hA=>?_;subst hA)|intro _|(show aA _ 220 _ _ _;refine CA (h:=EU (kk:=kk) (by omega) (by omega) ?_))|(show aA _ 88 _ _ _;refine CA (h:=gQ (by omega) ?_)))
  rw[hs]
  (refine aC ?_;exact aB (hK))
 ·refine aH Tryz.func358 ?_
  repeat' (first|refine v85 ?_|refine dw rP ?_|refine wr ?_|refine w5 ?_ ?_|((refine bh fun h=>?_) <;> try exact w6 h)|(refine aE fun hA=>?_;subst hA)|intro _|(show aA _ 220 _ _ _;refine CA (h:=EU (kk:=kk) (by omega) (by omega) ?_))|(show aA _ 88 _ _ _;refine CA (h:=gQ (by omega) ?_)))
  rw[hs]
  (refine aC ?_;exact aB (kv hK (by congr 5;rw[Bool.eq_iff_iff,Bool.true_and,hd,beq_iff_eq];omega)))
theorem RV {t cap:Nat} {bs:List UInt8} {en ou:Bool} {ac se dr n:Int} (hr:rdB bs en ou n=true) (hK:K (.tuple #[.string ⟨(bs.take (BS bs n)).toArray⟩,.bool (en && decide (bs.drop (BS bs n)= [])),.bool true]) (yA t cap (bs.drop (BS bs n)) en (en && decide (bs.drop (BS bs n)= [])) ac (se+(BS bs n:Nat)) dr::R)):aA Tryz.prog 291 #[.pointer (some ⟨t,0,none⟩),.int .i64 n] (yA t cap bs en ou ac se dr::R) K:=by
 refine pE fun r hT=>?_
 have hT':=hT
 obtain⟨h1,h2,h3,h4,h5,h6,h7⟩:=hT'
 have hw:TB cap (bs.drop (BS bs n)) en (en && decide (bs.drop (BS bs n)= [])) ac (se+(BS bs n:Nat)) dr:=by
  have:BS bs n≤bs.length:=by unfold BS;omega
  refine⟨?_,by omega,h3,h4,?_,h6,?_⟩
  ·rw[List.length_drop];omega
  ·rw[List.length_drop];omega
  ·intro h;simpa using h
 refine aH Tryz.func291 ?_
 repeat' (first|refine QB ?_|refine wr ?_|refine w5 ?_ ?_|((refine bh fun h=>?_) <;> try exact w6 h)|(refine aE fun hA=>?_;subst hA)|intro _|(show aA _ 274 _ _ _;refine CA (h:=tT hT hr ?_))|(show aA _ 358 _ _ _;refine CA (h:=Pm hT ?_)))
 (refine aC ?_;exact aL (aG.trans (by exact bA) ((jT hw))) (hK))
theorem NW {t cap:Nat} {bs:List UInt8} {en ou:Bool} {ac se dr:Int} (hK:K (.int .i64 bs.length) (yA t cap [] en ou ac se (dr+bs.length)::R)):aA Tryz.prog 385 #[.pointer (some ⟨t,0,none⟩)] (yA t cap bs en ou ac se dr::R) K:=by
 refine pE fun r hT=>?_
 obtain⟨h1,h2,h3,h4,h5,h6,h7⟩:=hT
 have hw:TB cap [] en ou ac se (dr+bs.length):=⟨by simp;omega,h2,by omega,h4,by simp,h6,fun h=>⟨(h7 h).1,rfl⟩⟩
 refine aH Tryz.func385 ?_
 repeat' (first|refine FL ?_|refine dw AF ?_|refine wr ?_|refine w5 ?_ ?_|((refine bh fun h=>?_) <;> try exact w6 h)|(refine aE fun hA=>?_;subst hA)|intro _|(show aA _ 386 _ _ _;refine CA (h:=K5 (by omega) ?_))|(show aA _ 387 _ _ _;refine CA (h:=FF ?_)))
 rw[show((bs.length:Nat):Int)+0=bs.length by omega]
 (refine aC ?_;exact aL (aG.trans (by exact bA) ((jT hw))) (hK))
end
section
variable {R C:List HP} {K:Value→List HP→Prop}
def TI (cap:Nat) (st:Int) (l:List ByteArray) (w:Int) (en ou:Bool) (ac se dr:Int):Prop:=ac=se+dr+l.length∧0≤se∧0≤dr∧ac≤900000000∧l.length≤cap∧cap≤64∧(0≤w∧w≤2147483647)∧(0≤st∧st≤2)∧(ou=true→en=true∧l= [])
def qF (t cap:Nat) (st:Int) (l:List ByteArray) (w:Int) (en ou:Bool) (ac se dr:Int):HP:=fF fun q=>fF fun d=>sep (pt t [.int .i64 ac,.int .i64 se,.int .i64 dr,.int .i64 2,.pointer none,.pointer (some ⟨q,0,none⟩),.pointer (some ⟨d,0,none⟩),.bool en,.bool ou] 263) (sep (xD q cap st l ac se dr) (sep (pC d w 2147483647) (bI (TI cap st l w en ou ac se dr))))
theorem fW {t cap q d:Nat} {st:Int} {l:List ByteArray} {w:Int} {en ou:Bool} {ac se dr:Int} (h:TI cap st l w en ou ac se dr):aG (pt t [.int .i64 ac,.int .i64 se,.int .i64 dr,.int .i64 2,.pointer none,.pointer (some ⟨q,0,none⟩),.pointer (some ⟨d,0,none⟩),.bool en,.bool ou] 263::xD q cap st l ac se dr::pC d w 2147483647::R) (qF t cap st l w en ou ac se dr::R):=
 aG.ex q (aG.ex d (qN h))
theorem iL {f:FuncId} {args:Array Value} {t cap:Nat} {st:Int} {l:List ByteArray} {w:Int} {en ou:Bool} {ac se dr:Int} (h:∀q d,TI cap st l w en ou ac se dr→aA Tryz.prog f args (pt t [.int .i64 ac,.int .i64 se,.int .i64 dr,.int .i64 2,.pointer none,.pointer (some ⟨q,0,none⟩),.pointer (some ⟨d,0,none⟩),.bool en,.bool ou] 263::xD q cap st l ac se dr::pC d w 2147483647::R) K):aA Tryz.prog f args (qF t cap st l w en ou ac se dr::R) K:=
 aA.ex fun q=>aA.ex fun d=>CG fun hI=>h q d hI
theorem KI {cap:Nat} {st:Int} (h:cap≤64) (hs:0≤st∧st≤2) (hK:∀t,K (.tuple #[.pointer (some ⟨t,0,none⟩),.int .i64 0]) (qF t cap st [] 0 false false 0 0 0::R)):aA Tryz.prog 234 #[.int .i64 2,.int .i64 cap,.int .i64 st] R K:=by
 refine aH Tryz.func234 ?_
 repeat' (first|refine zB ?_|refine wr ?_|refine w5 ?_ ?_|((refine bh fun h=>?_) <;> try exact w6 h)|(refine aE fun hA=>?_;subst hA)|intro _|(show aA _ 323 _ _ _;refine CA (h:=Ot (by omega) (by omega) (fun q=>?_)))|(show aA _ 324 _ _ _;refine CA (h:=TO (by omega) (fun d=>?_))))
 (refine aC ?_;exact aL (aG.trans (by exact bA) ((fW ⟨by simp,by omega,by omega,by omega,by simp,h,by omega,hs,by simp⟩))) (hK _))
section
variable {t cap:Nat} {st:Int} {l:List ByteArray} {w:Int} {en ou:Bool} {ac se dr:Int}
theorem QR (hK:K (.int .i64 2) (qF t cap st l w en ou ac se dr::R)):aA Tryz.prog 208 #[.pointer (some ⟨t,0,none⟩)] (qF t cap st l w en ou ac se dr::R) K:=by
 refine iL fun q d hT=>?_
 refine aH Tryz.func208 ?_
 repeat' (first|refine v4 ?_|refine wr ?_|refine w5 ?_ ?_|((refine bh fun h=>?_) <;> try exact w6 h)|(refine aE fun hA=>?_;subst hA)|intro _)
 (refine aC ?_;exact aL (aG.trans (by exact bA) ((fW hT))) (hK))
theorem RL (hK:K (.agg #[.int .i64 ac,.int .i64 se,.int .i64 dr]) (qF t cap st l w en ou ac se dr::R)):aA Tryz.prog 87 #[.pointer (some ⟨t,0,none⟩)] (qF t cap st l w en ou ac se dr::R) K:=by
 refine iL fun q d hT=>?_
 refine aH Tryz.func87 ?_
 repeat' (first|refine v30 ?_|refine wr ?_|refine w5 ?_ ?_|((refine bh fun h=>?_) <;> try exact w6 h)|(refine aE fun hA=>?_;subst hA)|intro _)
 (refine aC ?_;exact aL (aG.trans (by exact bA) ((fW hT))) (hK))
theorem Jp {q d:Nat} (hK:K (.int .i64 w) (pt t [.int .i64 ac,.int .i64 se,.int .i64 dr,.int .i64 2,.pointer none,.pointer (some ⟨q,0,none⟩),.pointer (some ⟨d,0,none⟩),.bool en,.bool ou] 263::pC d w 2147483647::R)):aA Tryz.prog 350 #[.pointer (some ⟨t,0,none⟩)] (pt t [.int .i64 ac,.int .i64 se,.int .i64 dr,.int .i64 2,.pointer none,.pointer (some ⟨q,0,none⟩),.pointer (some ⟨d,0,none⟩),.bool en,.bool ou] 263::pC d w 2147483647::R) K:=by
 refine aH Tryz.func350 ?_
 repeat' (first|refine SL ?_|refine wr ?_|refine w5 ?_ ?_|((refine bh fun h=>?_) <;> try exact w6 h)|(refine aE fun hA=>?_;subst hA)|intro _|(show aA _ 354 _ _ _;refine CA (h:=OI ?_)))
 (refine aC ?_;exact aB (hK))
theorem SG {n:Int} (h:1≤n) (hK:K (.int .i64 0) (qF t cap st l (w+min n (2147483647 - w)) en ou ac se dr::R)):aA Tryz.prog 344 #[.pointer (some ⟨t,0,none⟩),.int .i64 n] (qF t cap st l w en ou ac se dr::R) K:=by
 refine iL fun q d hT=>?_
 obtain⟨h1,h2,h3,h4,h5,h6,h7,h8,h9⟩:=hT
 have hw:TI cap st l (w+min n (2147483647 - w)) en ou ac se dr:=⟨h1,h2,h3,h4,h5,h6,by omega,h8,h9⟩
 refine aH Tryz.func344 ?_
 repeat' (first|refine v35 ?_|refine wr ?_|refine w5 ?_ ?_|((refine bh fun h=>?_) <;> try exact w6 h)|(refine aE fun hA=>?_;subst hA)|intro _|(show aA _ 360 _ _ _;refine CA (h:=UU h h7 (by omega) ?_)))
 (refine aC ?_;exact aL (aG.trans (by exact bA) ((fW hw))) (hK))
theorem PT {n:Int} (h:n<1) (hK:K (.int .i64 2) (qF t cap st l w en ou ac se dr::R)):aA Tryz.prog 344 #[.pointer (some ⟨t,0,none⟩),.int .i64 n] (qF t cap st l w en ou ac se dr::R) K:=by
 refine iL fun q d hT=>?_
 refine aH Tryz.func344 ?_
 repeat' (first|refine v35 ?_|refine wr ?_|refine w5 ?_ ?_|((refine bh fun h=>?_) <;> try exact w6 h)|(refine aE fun hA=>?_;subst hA)|intro _|(show aA _ 360 _ _ _;refine CA (h:=NF (by simp) h ?_)))
 (refine aC ?_;exact aL (aG.trans (by exact bA) ((fW hT))) (hK))
theorem kV {q d:Nat} (hK:K (.int .i64 (if en=true then 11 else 0)) (pt t [.int .i64 ac,.int .i64 se,.int .i64 dr,.int .i64 2,.pointer none,.pointer (some ⟨q,0,none⟩),.pointer (some ⟨d,0,none⟩),.bool en,.bool ou] 263::R)):aA Tryz.prog 319 #[.pointer (some ⟨t,0,none⟩)] (pt t [.int .i64 ac,.int .i64 se,.int .i64 dr,.int .i64 2,.pointer none,.pointer (some ⟨q,0,none⟩),.pointer (some ⟨d,0,none⟩),.bool en,.bool ou] 263::R) K:=by
 cases en
 ·refine aH Tryz.func319 ?_
  repeat' (first|refine v4 ?_|refine wr ?_|refine w5 ?_ ?_|((refine bh fun h=>?_) <;> try exact w6 h)|(refine aE fun hA=>?_;subst hA)|intro _)
  (refine aC ?_;exact aB (hK))
 ·refine aH Tryz.func319 ?_
  repeat' (first|refine v4 ?_|refine wr ?_|refine w5 ?_ ?_|((refine bh fun h=>?_) <;> try exact w6 h)|(refine aE fun hA=>?_;subst hA)|intro _)
  (refine aC ?_;exact aB (hK))
theorem Xb (hK:K (.int .i64 (if en=true then 11 else 0)) (qF t cap st l w true ou ac se dr::R)):aA Tryz.prog 359 #[.pointer (some ⟨t,0,none⟩)] (qF t cap st l w en ou ac se dr::R) K:=by
 refine iL fun q d hT=>?_
 obtain⟨h1,h2,h3,h4,h5,h6,h7,h8,h9⟩:=hT
 have hT:TI cap st l w true ou ac se dr:=⟨h1,h2,h3,h4,h5,h6,h7,h8,fun h=>⟨rfl,(h9 h).2⟩⟩
 cases en
 ·refine aH Tryz.func359 ?_
  repeat' (first|refine v13 ?_|refine wr ?_|refine w5 ?_ ?_|((refine bh fun h=>?_) <;> try exact w6 h)|(refine aE fun hA=>?_;subst hA)|intro _|(show aA _ 319 _ _ _;refine CA (h:=kV ?_)))
  (refine aC ?_;exact aL (aG.trans (by exact bA) ((fW hT))) (hK))
 ·refine aH Tryz.func359 ?_
  repeat' (first|refine v13 ?_|refine wr ?_|refine w5 ?_ ?_|((refine bh fun h=>?_) <;> try exact w6 h)|(refine aE fun hA=>?_;subst hA)|intro _|(show aA _ 319 _ _ _;refine CA (h:=kV ?_)))
  (refine aC ?_;exact aL (aG.trans (by exact bA) ((fW hT))) (hK))
def HI (l:List ByteArray) (w:Int) (en ou:Bool):Bool:=if l= [] then en && !ou else decide (0<w)
theorem pB {q d:Nat} {n:Int} {b:Bool} (hT:TI cap st l w en ou ac se dr) (hb:HI l w en ou=b) (hK:K (.bool b) (pt t [.int .i64 ac,.int .i64 se,.int .i64 dr,.int .i64 2,.pointer none,.pointer (some ⟨q,0,none⟩),.pointer (some ⟨d,0,none⟩),.bool en,.bool ou] 263::pC d w 2147483647::R)):aA Tryz.prog 274 #[.pointer (some ⟨t,0,none⟩),.int .i64 n] (pt t [.int .i64 ac,.int .i64 se,.int .i64 dr,.int .i64 2,.pointer none,.pointer (some ⟨q,0,none⟩),.pointer (some ⟨d,0,none⟩),.bool en,.bool ou] 263::pC d w 2147483647::R) K:=by
 obtain⟨h1,h2,h3,h4,h5,h6,h7,h8,h9⟩:=hT
 subst hb
 by_cases hb:l= []
 ·subst hb
  rw[HI,if_pos rfl] at hK
  cases en
  ·refine aH Tryz.func274 ?_
   repeat' (first|refine I7 ?_|refine wr ?_|refine w5 ?_ ?_|((refine bh fun h=>?_) <;> try exact w6 h)|(refine aE fun hA=>?_;subst hA)|intro _|(show aA _ 88 _ _ _;refine CA (h:=gQ (by simp at *;omega) ?_)))
   all_goals first|(exfalso;simp at *;omega)|((refine aC ?_;exact aB (hK)))
  ·refine aH Tryz.func274 ?_
   repeat' (first|refine I7 ?_|refine wr ?_|refine w5 ?_ ?_|((refine bh fun h=>?_) <;> try exact w6 h)|(refine aE fun hA=>?_;subst hA)|intro _|(show aA _ 88 _ _ _;refine CA (h:=gQ (by simp at *;omega) ?_)))
   all_goals first|(exfalso;simp at *;omega)|((refine aC ?_;exact aB (hK)))
 ·have:0<l.length:=List.length_pos_iff.2 hb
  rw[HI,if_neg hb] at hK
  refine aH Tryz.func274 ?_
  repeat' (first|refine I7 ?_|refine wr ?_|refine w5 ?_ ?_|((refine bh fun h=>?_) <;> try exact w6 h)|(refine aE fun hA=>?_;subst hA)|intro _|(show aA _ 88 _ _ _;refine CA (h:=gQ (by omega) ?_))|(show aA _ 350 _ _ _;refine CA (h:=Jp ?_)))
  (refine aC ?_;exact aB (hK))
theorem Oq {n:Int} (hK:K (.bool (HI l w en ou)) (qF t cap st l w en ou ac se dr::R)):aA Tryz.prog 274 #[.pointer (some ⟨t,0,none⟩),.int .i64 n] (qF t cap st l w en ou ac se dr::R) K:=by
 refine iL fun q d hT=>?_
 refine aA.ent (C':=pt t [.int .i64 ac,.int .i64 se,.int .i64 dr,.int .i64 2,.pointer none,.pointer (some ⟨q,0,none⟩),.pointer (some ⟨d,0,none⟩),.bool en,.bool ou] 263::pC d w 2147483647::xD q cap st l ac se dr::R) (by exact bA) ?_
 exact aA.entK (pB hT rfl ⟨_,aG.trans (by exact bA) (fW hT),hK⟩)
theorem OF {n:Int} (hK:K (.bool (decide (0<l.length) && !HI l w en ou)) (qF t cap st l w en ou ac se dr::R)):aA Tryz.prog 183 #[.pointer (some ⟨t,0,none⟩),.int .i64 n] (qF t cap st l w en ou ac se dr::R) K:=by
 refine iL fun q d hT=>?_
 have hT':=hT
 obtain⟨h1,h2,h3,h4,h5,h6,h7,h8,h9⟩:=hT'
 by_cases hb:0<l.length
 ·refine aH Tryz.func183 ?_
  repeat' (first|refine v48 ?_|refine wr ?_|refine w5 ?_ ?_|((refine bh fun h=>?_) <;> try exact w6 h)|(refine aE fun hA=>?_;subst hA)|intro _|(show aA _ 88 _ _ _;refine CA (h:=gQ (by omega) ?_))|(show aA _ 274 _ _ _;refine CA (h:=pB hT rfl ?_)))
  all_goals(refine aC ?_;exact aL (aG.trans (by exact bA) ((fW hT))) ((kb hK (by simp_all))))
 ·refine aH Tryz.func183 ?_
  repeat' (first|refine v48 ?_|refine wr ?_|refine w5 ?_ ?_|((refine bh fun h=>?_) <;> try exact w6 h)|(refine aE fun hA=>?_;subst hA)|intro _|(show aA _ 88 _ _ _;refine CA (h:=gQ (by omega) ?_))|(show aA _ 274 _ _ _;refine CA (h:=pB hT rfl ?_)))
  all_goals(refine aC ?_;exact aL (aG.trans (by exact bA) ((fW hT))) ((kb hK (by simp_all))))
theorem Q4 {s:ByteArray} (he:en=true) (hK:K (.tuple #[.int .i64 0,.int .i64 11]) (qF t cap st l w en ou ac se dr::R)):aA Tryz.prog 233 #[.pointer (some ⟨t,0,none⟩),.string s] (qF t cap st l w en ou ac se dr::R) K:=by
 subst he
 refine iL fun q d hT=>?_
 refine aH Tryz.func233 ?_
 repeat' (first|refine v49 ?_|refine wr ?_|refine w5 ?_ ?_|((refine bh fun h=>?_) <;> try exact w6 h)|(refine aE fun hA=>?_;subst hA)|intro _|(show aA _ 319 _ _ _;refine CA (h:=kV ?_)))
 (refine aC ?_;exact aL (aG.trans (by exact bA) ((fW hT))) (hK))
theorem RP {s:ByteArray} (he:en=false) (hs:256<s.size) (hK:K (.tuple #[.int .i64 0,.int .i64 4]) (qF t cap st l w en ou ac se dr::R)):aA Tryz.prog 233 #[.pointer (some ⟨t,0,none⟩),.string s] (qF t cap st l w en ou ac se dr::R) K:=by
 subst he
 refine iL fun q d hT=>?_
 refine aH Tryz.func233 ?_
 repeat' (first|refine v49 ?_|refine wr ?_|refine w5 ?_ ?_|((refine bh fun h=>?_) <;> try exact w6 h)|(refine aE fun hA=>?_;subst hA)|intro _|(show aA _ 319 _ _ _;refine CA (h:=kV ?_)))
 (refine aC ?_;exact aL (aG.trans (by exact bA) ((fW hT))) (hK))
theorem Rc {s:ByteArray} (he:en=false) (hs:s.size≤256) (hc:cap≤l.length) (h0:st=0) (hK:K (.tuple #[.int .i64 0,.int .i64 9]) (qF t cap st l w en ou ac se dr::R)):aA Tryz.prog 233 #[.pointer (some ⟨t,0,none⟩),.string s] (qF t cap st l w en ou ac se dr::R) K:=by
 subst he
 refine iL fun q d hT=>?_
 refine aH Tryz.func233 ?_
 repeat' (first|refine v49 ?_|refine wr ?_|refine w5 ?_ ?_|((refine bh fun h=>?_) <;> try exact w6 h)|(refine aE fun hA=>?_;subst hA)|intro _|(show aA _ 319 _ _ _;refine CA (h:=kV ?_))|(show aA _ 321 _ _ _;refine CA (h:=Vj (by omega) h0 ?_)))
 (refine aC ?_;exact aL (aG.trans (by exact bA) ((fW hT))) (hK))
theorem R6 {s:ByteArray} (he:en=false) (hs:s.size≤256) (hc:l.length<cap) (hb:ac≤800000000) (hK:K (.tuple #[.int .i64 1,.int .i64 0]) (qF t cap st (l++ [s]) w en ou (ac+1) se dr::R)):aA Tryz.prog 233 #[.pointer (some ⟨t,0,none⟩),.string s] (qF t cap st l w en ou ac se dr::R) K:=by
 subst he
 refine iL fun q d hT=>?_
 obtain⟨h1,h2,h3,h4,h5,h6,h7,h8,h9⟩:=hT
 have hT:TI cap st (l++ [s]) w false ou (ac+1) se dr:=⟨by simp;omega,h2,h3,by omega,by simp;omega,h6,h7,h8,fun h=>by simpa using (h9 h).1⟩
 refine aH Tryz.func233 ?_
 repeat' (first|refine v49 ?_|refine wr ?_|refine w5 ?_ ?_|((refine bh fun h=>?_) <;> try exact w6 h)|(refine aE fun hA=>?_;subst hA)|intro _|(show aA _ 319 _ _ _;refine CA (h:=kV ?_))|(show aA _ 321 _ _ _;refine CA (h:=Eo (by omega) (by omega) (by omega) ?_)))
 (refine aC ?_;exact aL (aG.trans (by exact bA) ((fW hT))) (hK))
theorem Q3 {s:ByteArray} (he:en=false) (hs:s.size≤256) (hc:cap≤l.length) (h0:st≠0) (h10:st=1∨cap=0) (hb:ac≤800000000) (hK:K (.tuple #[.int .i64 2,.int .i64 0]) (qF t cap st l w en ou (ac+1) se (dr+1)::R)):aA Tryz.prog 233 #[.pointer (some ⟨t,0,none⟩),.string s] (qF t cap st l w en ou ac se dr::R) K:=by
 subst he
 refine iL fun q d hT=>?_
 obtain⟨h1,h2,h3,h4,h5,h6,h7,h8,h9⟩:=hT
 have hT:TI cap st l w false ou (ac+1) se (dr+1):=⟨by omega,h2,by omega,by omega,h5,h6,h7,h8,h9⟩
 refine aH Tryz.func233 ?_
 repeat' (first|refine v49 ?_|refine wr ?_|refine w5 ?_ ?_|((refine bh fun h=>?_) <;> try exact w6 h)|(refine aE fun hA=>?_;subst hA)|intro _|(show aA _ 319 _ _ _;refine CA (h:=kV ?_))|(show aA _ 321 _ _ _;refine CA (h:=V4 (by omega) (by omega) (by omega) h0 (by omega) ?_)))
 (refine aC ?_;exact aL (aG.trans (by exact bA) ((fW hT))) (hK))
theorem QP {s s0:ByteArray} (he:en=false) (hs:s.size≤256) (hc:cap≤(s0::l).length) (h0:st≠0) (h10:st≠1) (h11:cap≠0) (hb:ac≤800000000) (hK:K (.tuple #[.int .i64 3,.int .i64 0]) (qF t cap st (l++ [s]) w en ou (ac+1) se (dr+1)::R)):aA Tryz.prog 233 #[.pointer (some ⟨t,0,none⟩),.string s] (qF t cap st (s0::l) w en ou ac se dr::R) K:=by
 subst he
 refine iL fun q d hT=>?_
 obtain⟨h1,h2,h3,h4,h5,h6,h7,h8,h9⟩:=hT
 have hl:(s0::l).length=l.length+1:=rfl
 have hT:TI cap st (l++ [s]) w false ou (ac+1) se (dr+1):=⟨by simp;omega,h2,by omega,by omega,by simp;omega,h6,h7,h8,fun h=>by simpa using (h9 h).1⟩
 refine aH Tryz.func233 ?_
 repeat' (first|refine v49 ?_|refine wr ?_|refine w5 ?_ ?_|((refine bh fun h=>?_) <;> try exact w6 h)|(refine aE fun hA=>?_;subst hA)|intro _|(show aA _ 319 _ _ _;refine CA (h:=kV ?_))|(show aA _ 321 _ _ _;refine CA (h:=VG (by omega) (by omega) (by omega) (by omega) h0 h10 (by omega) ?_)))
 (refine aC ?_;exact aL (aG.trans (by exact bA) ((fW hT))) (hK))
def qE:List (Nat×Nat):= [(0,0),(1,0),(2,0),(3,0),(4,0),(5,0),(6,1),(7,0)]
theorem Nb {q d r2 r3:Nat} {n:Int} (hK:K (.tuple #[.string ⟨#[]⟩,.bool true]) (pt r2 [.pointer (some ⟨t,0,none⟩)] 167::pt r3 [.int .i64 n] 3::pt t [.int .i64 ac,.int .i64 se,.int .i64 dr,.int .i64 2,.pointer none,.pointer (some ⟨q,0,none⟩),.pointer (some ⟨d,0,none⟩),.bool en,.bool ou] 263::xD q cap st [] ac se dr::pC d w 2147483647::R)):aA Tryz.prog 358 #[.pointer (some ⟨r2,0,none⟩),.pointer (some ⟨r3,0,none⟩)] (pt r2 [.pointer (some ⟨t,0,none⟩)] 167::pt r3 [.int .i64 n] 3::pt t [.int .i64 ac,.int .i64 se,.int .i64 dr,.int .i64 2,.pointer none,.pointer (some ⟨q,0,none⟩),.pointer (some ⟨d,0,none⟩),.bool en,.bool ou] 263::xD q cap st [] ac se dr::pC d w 2147483647::R) K:=by
 refine aH Tryz.func358 ?_
 repeat' (first|refine v85 ?_|refine dw qE ?_|refine wr ?_|refine w5 ?_ ?_|((refine bh fun h=>?_) <;> try exact w6 h)|(refine aE fun hA=>?_;subst hA)|intro _|(show aA _ 225 _ _ _;refine CA (h:=Hu ?_)))
 (refine aC ?_;exact aB (hK))
theorem Qn {q d r2 r3:Nat} {n:Int} {s:ByteArray} (hT:TI cap st (s::l) w en ou ac se dr) (hw:0<w) (hK:K (.tuple #[.string s,.bool false]) (pt r2 [.pointer (some ⟨t,0,none⟩)] 167::pt r3 [.int .i64 n] 3::pt t [.int .i64 ac,.int .i64 (se+1),.int .i64 dr,.int .i64 2,.pointer none,.pointer (some ⟨q,0,none⟩),.pointer (some ⟨d,0,none⟩),.bool en,.bool ou] 263::xD q cap st l ac (se+1) dr::pC d (w - 1) 2147483647::R)):aA Tryz.prog 358 #[.pointer (some ⟨r2,0,none⟩),.pointer (some ⟨r3,0,none⟩)] (pt r2 [.pointer (some ⟨t,0,none⟩)] 167::pt r3 [.int .i64 n] 3::pt t [.int .i64 ac,.int .i64 se,.int .i64 dr,.int .i64 2,.pointer none,.pointer (some ⟨q,0,none⟩),.pointer (some ⟨d,0,none⟩),.bool en,.bool ou] 263::xD q cap st (s::l) ac se dr::pC d w 2147483647::R) K:=by
 obtain⟨h1,h2,h3,h4,h5,h6,h7,h8,h9⟩:=hT
 have hl:(s::l).length=l.length+1:=rfl
 refine aH Tryz.func358 ?_
 repeat' (first|refine v85 ?_|refine dw qE ?_|refine wr ?_|refine w5 ?_ ?_|((refine bh fun h=>?_) <;> try exact w6 h)|(refine aE fun hA=>?_;subst hA)|intro _|(show aA _ 225 _ _ _;refine CA (h:=JF (by omega) (by omega) ?_))|(show aA _ 281 _ _ _;refine CA (h:=Pq (by omega) (by omega) (by omega) ?_)))
 (refine aC ?_;exact aB (hK))
theorem PM {n:Int} (hr:HI [] w en ou=true) (hK:K (.tuple #[.string ⟨#[]⟩,.bool true,.bool true]) (qF t cap st [] w en true ac se dr::R)):aA Tryz.prog 291 #[.pointer (some ⟨t,0,none⟩),.int .i64 n] (qF t cap st [] w en ou ac se dr::R) K:=by
 refine iL fun q d hT=>?_
 have hT':=hT
 obtain⟨h1,h2,h3,h4,h5,h6,h7,h8,h9⟩:=hT'
 have hw:TI cap st [] w en true ac se dr:=⟨h1,h2,h3,h4,h5,h6,h7,h8,fun _=>⟨by rw[HI,if_pos rfl] at hr;simp at hr;exact hr.1,rfl⟩⟩
 refine aH Tryz.func291 ?_
 repeat' (first|refine QB ?_|refine wr ?_|refine w5 ?_ ?_|((refine bh fun h=>?_) <;> try exact w6 h)|(refine aE fun hA=>?_;subst hA)|intro _|(show aA _ 274 _ _ _;refine CA (h:=pB hT hr ?_))|(show aA _ 358 _ _ _;refine CA (h:=Nb ?_)))
 (refine aC ?_;exact aL (aG.trans (by exact bA) ((fW hw))) (hK))
theorem Sq {n:Int} {s:ByteArray} (hr:0<w) (hK:K (.tuple #[.string s,.bool false,.bool true]) (qF t cap st l (w - 1) en false ac (se+1) dr::R)):aA Tryz.prog 291 #[.pointer (some ⟨t,0,none⟩),.int .i64 n] (qF t cap st (s::l) w en ou ac se dr::R) K:=by
 refine iL fun q d hT=>?_
 have hT':=hT
 obtain⟨h1,h2,h3,h4,h5,h6,h7,h8,h9⟩:=hT'
 have hl:(s::l).length=l.length+1:=rfl
 have hw:TI cap st l (w - 1) en false ac (se+1) dr:=⟨by omega,by omega,h3,h4,by omega,h6,by omega,h8,by simp⟩
 have hr2:HI (s::l) w en ou=true:=by simp[HI,hr]
 refine aH Tryz.func291 ?_
 repeat' (first|refine QB ?_|refine wr ?_|refine w5 ?_ ?_|((refine bh fun h=>?_) <;> try exact w6 h)|(refine aE fun hA=>?_;subst hA)|intro _|(show aA _ 274 _ _ _;refine CA (h:=pB hT hr2 ?_))|(show aA _ 358 _ _ _;refine CA (h:=Qn hT hr ?_)))
 (refine aC ?_;exact aL (aG.trans (by exact bA) ((fW hw))) (hK))
def zF:List (Nat×Nat):= [(0,0),(1,0),(2,0),(3,0),(4,1),(5,1),(6,1),(7,1),(8,1),(9,1),(10,0),(11,0)]
theorem OT (hK:K (.int .i64 l.length) (qF t cap st [] w en ou ac se (dr+l.length)::R)):aA Tryz.prog 385 #[.pointer (some ⟨t,0,none⟩)] (qF t cap st l w en ou ac se dr::R) K:=by
 refine iL fun q d hT=>?_
 obtain⟨h1,h2,h3,h4,h5,h6,h7,h8,h9⟩:=hT
 have hw:TI cap st [] w en ou ac se (dr+l.length):=⟨by simp;omega,h2,by omega,h4,by simp,h6,h7,h8,fun h=>⟨(h9 h).1,rfl⟩⟩
 refine aH Tryz.func385 ?_
 repeat' (first|refine FL ?_|refine dw zF ?_|refine wr ?_|refine w5 ?_ ?_|((refine bh fun h=>?_) <;> try exact w6 h)|(refine aE fun hA=>?_;subst hA)|intro _|(show aA _ 386 _ _ _;refine CA (h:=HQ ?_))|(show aA _ 387 _ _ _;refine CA (h:=GE (by omega) (by omega) ?_)))
 rw[show(0:Int)+((l.length:Nat):Int)=l.length by omega]
 (refine aC ?_;exact aL (aG.trans (by exact bA) ((fW hw))) (hK))
end
end
end Go.Proofs.YtifgibijcmppmaaGreat
