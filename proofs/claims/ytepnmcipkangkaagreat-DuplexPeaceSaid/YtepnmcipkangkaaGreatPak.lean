/- A part of the proof: lemmas; each with the conditions that it states. -/
import Derived.Test.YtepnmcipkangkaaGreatPah
set_option linter.unusedVariables false
set_option linter.unusedSimpArgs false
set_option maxRecDepth 100000
set_option maxHeartbeats 40000000
namespace Go.Proofs.YtepnmcipkangkaaGreat
open Go Go.Proofs Go.Sl
attribute [local irreducible] aN fJ cY bN aM aS aA dM dN aV dL pt ro fB star sep bF
variable {R C:List HP} {K:KP} {t cap r r2 r3 q d:Nat} {bs:List UInt8} {en ou b:Bool} {ac se dr st n w:Int} {f:FuncId} {args:Array Value} {s:ByteArray} {l:List ByteArray}
def TB (cap:Nat) (bs:List UInt8) (en ou:Bool) (ac se dr:Int):Prop:=ac=se+dr+bs.length/\0<=se/\0<=dr/\ac<=900000000/\bs.length<=cap/\cap<=4096/\(ou=true->en=true/\bs= [])
def zU (t cap:Nat) (bs:List UInt8) (en ou:Bool) (ac se dr:Int):HP:=fB fun r=>sep (pt t [I6 ac,I6 se,I6 dr,I6 1,PO r,.pointer none,.pointer none,.bool en,.bool ou] 228) (sep (kY r cap bs) (bF (TB cap bs en ou ac se dr)))
theorem jP (h:TB cap bs en ou ac se dr):aG (pt t [I6 ac,I6 se,I6 dr,I6 1,PO r,.pointer none,.pointer none,.bool en,.bool ou] 228::kY r cap bs::R) (zU t cap bs en ou ac se dr::R):=
 aG.ex r (aG.sep (aG.pick aU.here (aG.sep (aG.pick aU.here (aG.pure h (aG.refl _))))))
theorem pZ (h:∀r,TB cap bs en ou ac se dr->CT f args (pt t [I6 ac,I6 se,I6 dr,I6 1,PO r,.pointer none,.pointer none,.bool en,.bool ou] 228::kY r cap bs::R) K):CT f args (zU t cap bs en ou ac se dr::R) K:=
 aA.ex fun r=>aA.sep (aA.ent (aG.trans (aG.cons aG.unsep) (fun _ hs=>(hs.perm (List.Perm.trans (List.Perm.cons _ (List.Perm.swap _ _ _)) (List.Perm.swap _ _ _))))) (aA.pure fun hI=>h r hI))
def BB:List (Nat×Nat):= [(0,0),(1,0),(2,0),(3,0),(4,1),(5,1),(6,1),(7,1),(8,1),(9,1),(10,0),(11,0)]
theorem gV (h:0<=se/\0<=dr/\0<=ac/\ac<=9000000000/\se<=ac/\dr<=ac) (hK:K (I6 (ac - se - dr)) R):CT 46 #[.agg #[I6 ac,I6 se,I6 dr]] R K:=by
 refine aH Tryz.func46 ?_
 repeat' (first|refine v22 ?_|refine w5 ?_ ?_|((refine bh fun h=>?_) <;> try exact w6 h)|(refine aE fun hA=>?_;subst hA)|intro _)
 (refine aC ?_;exact aB (hK))
theorem Ly (h:cap<=4096) (hK:∀t,K (.tuple #[PO t,I6 0]) (zU t cap [] false false 0 0 0::R)):CT 255 #[I6 1,I6 cap,I6 st] R K:=by
 refine aH Tryz.func255 ?_
 repeat' (first|refine Bw ?_|refine w5 ?_ ?_|((refine bh fun h=>?_) <;> try exact w6 h)|(refine aE fun hA=>?_;subst hA)|intro _|(show aA _ 361 _ _ _;refine CA (h:=V4 (by omega) (fun r=>?_))))
 (refine aC ?_;exact aK (aG.trans (by exact aZ) ((jP ⟨by simp,by omega,by omega,by omega,by simp,by omega,by simp⟩))) (hK _))
theorem Uu (hK:K (I6 1) (zU t cap bs en ou ac se dr::R)):CT 160 #[PO t] (zU t cap bs en ou ac se dr::R) K:=by
 refine pZ fun r hT=>?_
 refine aH Tryz.func160 ?_
 repeat' (first|refine v4 ?_|refine w5 ?_ ?_|((refine bh fun h=>?_) <;> try exact w6 h)|(refine aE fun hA=>?_;subst hA)|intro _)
 (refine aC ?_;exact aK (aG.trans (by exact aZ) ((jP hT))) (hK))
theorem UB (hK:K (.agg #[I6 ac,I6 se,I6 dr]) (zU t cap bs en ou ac se dr::R)):CT 43 #[PO t] (zU t cap bs en ou ac se dr::R) K:=by
 refine pZ fun r hT=>?_
 refine aH Tryz.func43 ?_
 repeat' (first|refine v30 ?_|refine w5 ?_ ?_|((refine bh fun h=>?_) <;> try exact w6 h)|(refine aE fun hA=>?_;subst hA)|intro _)
 (refine aC ?_;exact aK (aG.trans (by exact aZ) ((jP hT))) (hK))
theorem Tl (hK:K (I6 13) (zU t cap bs en ou ac se dr::R)):CT 390 #[PO t,I6 n] (zU t cap bs en ou ac se dr::R) K:=by
 refine pZ fun r hT=>?_
 refine aH Tryz.func390 ?_
 repeat' (first|refine v35 ?_|refine w5 ?_ ?_|((refine bh fun h=>?_) <;> try exact w6 h)|(refine aE fun hA=>?_;subst hA)|intro _)
 (refine aC ?_;exact aK (aG.trans (by exact aZ) ((jP hT))) (hK))
theorem tF (hK:K (I6 (if en=true then 11 else 0)) (pt t [I6 ac,I6 se,I6 dr,I6 1,PO r,.pointer none,.pointer none,.bool en,.bool ou] 228::R)):CT 343 #[PO t] (pt t [I6 ac,I6 se,I6 dr,I6 1,PO r,.pointer none,.pointer none,.bool en,.bool ou] 228::R) K:=by
 cases en
 ·refine aH Tryz.func343 ?_
  repeat' (first|refine v4 ?_|refine w5 ?_ ?_|((refine bh fun h=>?_) <;> try exact w6 h)|(refine aE fun hA=>?_;subst hA)|intro _)
  (refine aC ?_;exact aB (hK))
 ·refine aH Tryz.func343 ?_
  repeat' (first|refine v4 ?_|refine w5 ?_ ?_|((refine bh fun h=>?_) <;> try exact w6 h)|(refine aE fun hA=>?_;subst hA)|intro _)
  (refine aC ?_;exact aB (hK))
theorem Z1 (hK:K (I6 (if en=true then 11 else 0)) (zU t cap bs true ou ac se dr::R)):CT 353 #[PO t] (zU t cap bs en ou ac se dr::R) K:=by
 refine pZ fun r hT=>?_
 obtain⟨h1,h2,h3,h4,h5,h6,h7⟩:=hT
 have h':TB cap bs true ou ac se dr:=⟨h1,h2,h3,h4,h5,h6,fun h=>⟨rfl,(h7 h).2⟩⟩
 cases en
 ·refine aH Tryz.func353 ?_
  repeat' (first|refine v13 ?_|refine w5 ?_ ?_|((refine bh fun h=>?_) <;> try exact w6 h)|(refine aE fun hA=>?_;subst hA)|intro _|(show aA _ 343 _ _ _;refine CA (h:=tF ?_)))
  (refine aC ?_;exact aK (aG.trans (by exact aZ) ((jP h'))) (hK))
 ·refine aH Tryz.func353 ?_
  repeat' (first|refine v13 ?_|refine w5 ?_ ?_|((refine bh fun h=>?_) <;> try exact w6 h)|(refine aE fun hA=>?_;subst hA)|intro _|(show aA _ 343 _ _ _;refine CA (h:=tF ?_)))
  (refine aC ?_;exact aK (aG.trans (by exact aZ) ((jP h'))) (hK))
def rdB (bs:List UInt8) (en ou:Bool) (n:Int):Bool:=if bs= [] then en && !ou else decide (0<n)
theorem uU (hT:TB cap bs en ou ac se dr) (hb:rdB bs en ou n=b) (hK:K (.bool b) (pt t [I6 ac,I6 se,I6 dr,I6 1,PO r,.pointer none,.pointer none,.bool en,.bool ou] 228::R)):CT 267 #[PO t,I6 n] (pt t [I6 ac,I6 se,I6 dr,I6 1,PO r,.pointer none,.pointer none,.bool en,.bool ou] 228::R) K:=by
 obtain⟨h1,h2,h3,h4,h5,h6,h7⟩:=hT
 subst hb
 by_cases hb:bs= []
 ·subst hb
  rw[rdB,if_pos rfl] at hK
  cases en
  ·refine aH Tryz.func267 ?_
   repeat' (first|refine Kv ?_|refine w5 ?_ ?_|((refine bh fun h=>?_) <;> try exact w6 h)|(refine aE fun hA=>?_;subst hA)|intro _|(show aA _ 46 _ _ _;refine CA (h:=gV (by simp at *;omega) ?_)))
   all_goals first|(exfalso;simp at *;omega)|((refine aC ?_;exact aB (hK)))
  ·refine aH Tryz.func267 ?_
   repeat' (first|refine Kv ?_|refine w5 ?_ ?_|((refine bh fun h=>?_) <;> try exact w6 h)|(refine aE fun hA=>?_;subst hA)|intro _|(show aA _ 46 _ _ _;refine CA (h:=gV (by simp at *;omega) ?_)))
   all_goals first|(exfalso;simp at *;omega)|((refine aC ?_;exact aB (hK)))
 ·have:0<bs.length:=List.length_pos_iff.2 hb
  rw[rdB,if_neg hb] at hK
  refine aH Tryz.func267 ?_
  repeat' (first|refine Kv ?_|refine w5 ?_ ?_|((refine bh fun h=>?_) <;> try exact w6 h)|(refine aE fun hA=>?_;subst hA)|intro _|(show aA _ 46 _ _ _;refine CA (h:=gV (by omega) ?_)))
  (refine aC ?_;exact aB (hK))
theorem QK (hK:K (.bool (rdB bs en ou n)) (zU t cap bs en ou ac se dr::R)):CT 267 #[PO t,I6 n] (zU t cap bs en ou ac se dr::R) K:=by
 refine pZ fun r hT=>?_
 exact aA.entK (uU hT rfl ⟨_,jP hT,hK⟩)
theorem QF (hK:K (.bool (decide (0<bs.length) && !rdB bs en ou n)) (zU t cap bs en ou ac se dr::R)):CT 181 #[PO t,I6 n] (zU t cap bs en ou ac se dr::R) K:=by
 refine pZ fun r hT=>?_
 have hT':=hT
 obtain⟨h1,h2,h3,h4,h5,h6,h7⟩:=hT'
 by_cases hb:0<bs.length
 ·refine aH Tryz.func181 ?_
  repeat' (first|refine v48 ?_|refine w5 ?_ ?_|((refine bh fun h=>?_) <;> try exact w6 h)|(refine aE fun hA=>?_;subst hA)|intro _|(show aA _ 46 _ _ _;refine CA (h:=gV (by omega) ?_))|(show aA _ 267 _ _ _;refine CA (h:=uU hT rfl ?_)))
  all_goals(refine aC ?_;exact aK (aG.trans (by exact aZ) ((jP hT))) ((kb hK (by simp_all))))
 ·refine aH Tryz.func181 ?_
  repeat' (first|refine v48 ?_|refine w5 ?_ ?_|((refine bh fun h=>?_) <;> try exact w6 h)|(refine aE fun hA=>?_;subst hA)|intro _|(show aA _ 46 _ _ _;refine CA (h:=gV (by omega) ?_))|(show aA _ 267 _ _ _;refine CA (h:=uU hT rfl ?_)))
  all_goals(refine aC ?_;exact aK (aG.trans (by exact aZ) ((jP hT))) ((kb hK (by simp_all))))
def Gq (cap:Nat) (bs:List UInt8) (en:Bool) (s:ByteArray):Nat:=if en=true then 0 else min s.size (cap - bs.length)
theorem Zi (hs:ac+s.size<=900000000) (hK:K (.tuple #[I6 (Gq cap bs en s:Nat),I6 (if en=true then 11 else 0)]) (zU t cap (bs++s.data.toList.take (Gq cap bs en s)) en ou (ac+(Gq cap bs en s:Nat)) se dr::R)):CT 238 #[PO t,.string s] (zU t cap bs en ou ac se dr::R) K:=by
 refine pZ fun r hT=>?_
 have hT':=hT
 obtain⟨h1,h2,h3,h4,h5,h6,h7⟩:=hT'
 have hsl:s.data.toList.length=s.size:=by simp
 cases en
 ·have ho:Gq cap bs false s=min s.size (cap - bs.length):=by simp[Gq]
  generalize Gq cap bs false s=kk at *
  have hl:(s.data.toList.take kk).length=kk:=by rw[List.length_take,hsl];omega
  have hw:TB cap (bs++s.data.toList.take kk) false ou (ac+(kk:Nat)) se dr:=by
   refine⟨?_,h2,h3,?_,?_,h6,?_⟩
   ·rw[List.length_append,hl];omega
   ·omega
   ·rw[List.length_append,hl];omega
   ·intro ho;exact absurd (h7 ho).1 (by simp)
  by_cases h0:kk=0
  ·have h9:s.size=0\/cap<=bs.length:=by omega
   subst h0
   simp only[List.take_zero,List.append_nil] at hK hw
   refine aH Tryz.func238 ?_
   repeat' (first|refine v49 ?_|refine w5 ?_ ?_|((refine bh fun h=>?_) <;> try exact w6 h)|(refine aE fun hA=>?_;subst hA)|intro _|(show aA _ 343 _ _ _;refine CA (h:=tF ?_))|(show aA _ 344 _ _ _;refine CA (h:=Jg (by omega) h9 ?_)))
   (refine aC ?_;exact aK (aG.trans (by exact aZ) ((jP hw))) (hK))
  ·refine aH Tryz.func238 ?_
   repeat' (first|refine v49 ?_|refine w5 ?_ ?_|((refine bh fun h=>?_) <;> try exact w6 h)|(refine aE fun hA=>?_;subst hA)|intro _|(show aA _ 343 _ _ _;refine CA (h:=tF ?_))|(show aA _ 344 _ _ _;refine CA (h:=L0 (n:=kk) (by omega) (by omega) (by omega) ?_)))
   (refine aC ?_;exact aK (aG.trans (by exact aZ) ((jP hw))) (hK))
 ·rw[Gq,if_pos rfl] at hK
  simp only[List.take_zero,List.append_nil] at hK
  refine aH Tryz.func238 ?_
  repeat' (first|refine v49 ?_|refine w5 ?_ ?_|((refine bh fun h=>?_) <;> try exact w6 h)|(refine aE fun hA=>?_;subst hA)|intro _|(show aA _ 343 _ _ _;refine CA (h:=tF ?_)))
  (refine aC ?_;exact aK (aG.trans (by exact aZ) ((jP hT))) ((by simpa using hK)))
def C4 (bs:List UInt8) (n:Int):Nat:=(max (min (min n 256) bs.length) 0).toNat
def tC:List (Nat×Nat):= [(0,0),(1,0),(2,0),(3,0),(4,0),(5,0),(6,1),(7,0)]
theorem RU (hT:TB cap bs en ou ac se dr) (hK:K (.tuple #[.string ⟨(bs.take (C4 bs n)).toArray⟩,.bool (en && decide (bs.drop (C4 bs n)= []))]) (pt r2 [PO t] 91::pt r3 [I6 n] 3::pt t [I6 ac,I6 (se+(C4 bs n:Nat)),I6 dr,I6 1,PO r,.pointer none,.pointer none,.bool en,.bool ou] 228::kY r cap (bs.drop (C4 bs n))::R)):CT 374 #[PO r2,PO r3] (pt r2 [PO t] 91::pt r3 [I6 n] 3::pt t [I6 ac,I6 se,I6 dr,I6 1,PO r,.pointer none,.pointer none,.bool en,.bool ou] 228::kY r cap bs::R) K:=by
 obtain⟨h1,h2,h3,h4,h5,h6,h7⟩:=hT
 have hk:((C4 bs n:Nat):Int)=max (min (min n 256) bs.length) 0:=by unfold C4;omega
 have hs:(ByteArray.mk (bs.take (C4 bs n)).toArray).size=C4 bs n:=by simp[xC];omega
 have hd:(decide (bs.drop (C4 bs n)= [])=true)↔bs.length<=C4 bs n:=by simp
 generalize C4 bs n=kk at *
 cases en
 ·refine aH Tryz.func374 ?_
  repeat' (first|refine v85 ?_|refine dw tC ?_|refine w5 ?_ ?_|((refine bh fun h=>?_) <;> try exact w6 h)|(refine aE fun hA=>?_;subst hA)|intro _|(show aA _ 240 _ _ _;refine CA (h:=GP (kk:=kk) (by omega) (by omega) ?_))|(show aA _ 46 _ _ _;refine CA (h:=gV (by omega) ?_)))
  rw[hs]
  (refine aC ?_;exact aB (hK))
 ·refine aH Tryz.func374 ?_
  repeat' (first|refine v85 ?_|refine dw tC ?_|refine w5 ?_ ?_|((refine bh fun h=>?_) <;> try exact w6 h)|(refine aE fun hA=>?_;subst hA)|intro _|(show aA _ 240 _ _ _;refine CA (h:=GP (kk:=kk) (by omega) (by omega) ?_))|(show aA _ 46 _ _ _;refine CA (h:=gV (by omega) ?_)))
  rw[hs]
  (refine aC ?_;exact aB (kv hK (by congr 5;rw[Bool.eq_iff_iff,Bool.true_and,hd,beq_iff_eq];omega)))
theorem SZ (hr:rdB bs en ou n=true) (hK:K (.tuple #[.string ⟨(bs.take (C4 bs n)).toArray⟩,.bool (en && decide (bs.drop (C4 bs n)= [])),.bool true]) (zU t cap (bs.drop (C4 bs n)) en (en && decide (bs.drop (C4 bs n)= [])) ac (se+(C4 bs n:Nat)) dr::R)):CT 282 #[PO t,I6 n] (zU t cap bs en ou ac se dr::R) K:=by
 refine pZ fun r hT=>?_
 have hT':=hT
 obtain⟨h1,h2,h3,h4,h5,h6,h7⟩:=hT'
 have hw:TB cap (bs.drop (C4 bs n)) en (en && decide (bs.drop (C4 bs n)= [])) ac (se+(C4 bs n:Nat)) dr:=by
  have:C4 bs n<=bs.length:=by unfold C4;omega
  refine⟨?_,by omega,h3,h4,?_,h6,?_⟩
  ·rw[List.length_drop];omega
  ·rw[List.length_drop];omega
  ·intro h;simpa using h
 refine aH Tryz.func282 ?_
 repeat' (first|refine SE ?_|refine w5 ?_ ?_|((refine bh fun h=>?_) <;> try exact w6 h)|(refine aE fun hA=>?_;subst hA)|intro _|(show aA _ 267 _ _ _;refine CA (h:=uU hT hr ?_))|(show aA _ 374 _ _ _;refine CA (h:=RU hT ?_)))
 (refine aC ?_;exact aK (aG.trans (by exact aZ) ((jP hw))) (hK))
theorem Sx (hK:K (I6 bs.length) (zU t cap [] en ou ac se (dr+bs.length)::R)):CT 425 #[PO t] (zU t cap bs en ou ac se dr::R) K:=by
 refine pZ fun r hT=>?_
 obtain⟨h1,h2,h3,h4,h5,h6,h7⟩:=hT
 have hw:TB cap [] en ou ac se (dr+bs.length):=⟨by simp;omega,h2,by omega,h4,by simp,h6,fun h=>⟨(h7 h).1,rfl⟩⟩
 refine aH Tryz.func425 ?_
 repeat' (first|refine HA ?_|refine dw BB ?_|refine w5 ?_ ?_|((refine bh fun h=>?_) <;> try exact w6 h)|(refine aE fun hA=>?_;subst hA)|intro _|(show aA _ 426 _ _ _;refine CA (h:=Ma (by omega) ?_))|(show aA _ 427 _ _ _;refine CA (h:=G4 ?_)))
 rw[show((bs.length:Nat):Int)+0=bs.length by omega]
 (refine aC ?_;exact aK (aG.trans (by exact aZ) ((jP hw))) (hK))
def TI (cap:Nat) (st:Int) (l:List ByteArray) (w:Int) (en ou:Bool) (ac se dr:Int):Prop:=ac=se+dr+l.length/\0<=se/\0<=dr/\ac<=900000000/\l.length<=cap/\cap<=64/\(0<=w/\w<=2147483647)/\(0<=st/\st<=2)/\(ou=true->en=true/\l= [])
def rP (t cap:Nat) (st:Int) (l:List ByteArray) (w:Int) (en ou:Bool) (ac se dr:Int):HP:=fB fun q=>fB fun d=>sep (pt t [I6 ac,I6 se,I6 dr,I6 2,.pointer none,PO q,PO d,.bool en,.bool ou] 228) (sep (yL q cap st l ac se dr) (sep (rE d w 2147483647) (bF (TI cap st l w en ou ac se dr))))
theorem f3 (h:TI cap st l w en ou ac se dr):aG (pt t [I6 ac,I6 se,I6 dr,I6 2,.pointer none,PO q,PO d,.bool en,.bool ou] 228::yL q cap st l ac se dr::rE d w 2147483647::R) (rP t cap st l w en ou ac se dr::R):=
 aG.ex q (aG.ex d (rR h))
theorem iZ (h:∀q d,TI cap st l w en ou ac se dr->CT f args (pt t [I6 ac,I6 se,I6 dr,I6 2,.pointer none,PO q,PO d,.bool en,.bool ou] 228::yL q cap st l ac se dr::rE d w 2147483647::R) K):CT f args (rP t cap st l w en ou ac se dr::R) K:=
 aA.ex fun q=>aA.ex fun d=>DX fun hI=>h q d hI
theorem LA (h:cap<=64) (hs:0<=st/\st<=2) (hK:∀t,K (.tuple #[PO t,I6 0]) (rP t cap st [] 0 false false 0 0 0::R)):CT 255 #[I6 2,I6 cap,I6 st] R K:=by
 refine aH Tryz.func255 ?_
 repeat' (first|refine Bw ?_|refine w5 ?_ ?_|((refine bh fun h=>?_) <;> try exact w6 h)|(refine aE fun hA=>?_;subst hA)|intro _|(show aA _ 362 _ _ _;refine CA (h:=Q2 (by omega) (by omega) (fun q=>?_)))|(show aA _ 363 _ _ _;refine CA (h:=WA (by omega) (fun d=>?_))))
 (refine aC ?_;exact aK (aG.trans (by exact aZ) ((f3 ⟨by simp,by omega,by omega,by omega,by simp,h,by omega,hs,by simp⟩))) (hK _))
theorem Uw (hK:K (I6 2) (rP t cap st l w en ou ac se dr::R)):CT 160 #[PO t] (rP t cap st l w en ou ac se dr::R) K:=by
 refine iZ fun q d hT=>?_
 refine aH Tryz.func160 ?_
 repeat' (first|refine v4 ?_|refine w5 ?_ ?_|((refine bh fun h=>?_) <;> try exact w6 h)|(refine aE fun hA=>?_;subst hA)|intro _)
 (refine aC ?_;exact aK (aG.trans (by exact aZ) ((f3 hT))) (hK))
theorem TS (hK:K (.agg #[I6 ac,I6 se,I6 dr]) (rP t cap st l w en ou ac se dr::R)):CT 43 #[PO t] (rP t cap st l w en ou ac se dr::R) K:=by
 refine iZ fun q d hT=>?_
 refine aH Tryz.func43 ?_
 repeat' (first|refine v30 ?_|refine w5 ?_ ?_|((refine bh fun h=>?_) <;> try exact w6 h)|(refine aE fun hA=>?_;subst hA)|intro _)
 (refine aC ?_;exact aK (aG.trans (by exact aZ) ((f3 hT))) (hK))
theorem K6 (hK:K (I6 w) (pt t [I6 ac,I6 se,I6 dr,I6 2,.pointer none,PO q,PO d,.bool en,.bool ou] 228::rE d w 2147483647::R)):CT 368 #[PO t] (pt t [I6 ac,I6 se,I6 dr,I6 2,.pointer none,PO q,PO d,.bool en,.bool ou] 228::rE d w 2147483647::R) K:=by
 refine aH Tryz.func368 ?_
 repeat' (first|refine v10 ?_|refine w5 ?_ ?_|((refine bh fun h=>?_) <;> try exact w6 h)|(refine aE fun hA=>?_;subst hA)|intro _|(show aA _ 372 _ _ _;refine CA (h:=Qy ?_)))
 (refine aC ?_;exact aB (hK))
theorem T5 (h:1<=n) (hK:K (I6 0) (rP t cap st l (w+min n (2147483647 - w)) en ou ac se dr::R)):CT 390 #[PO t,I6 n] (rP t cap st l w en ou ac se dr::R) K:=by
 refine iZ fun q d hT=>?_
 obtain⟨h1,h2,h3,h4,h5,h6,h7,h8,h9⟩:=hT
 have hw:TI cap st l (w+min n (2147483647 - w)) en ou ac se dr:=⟨h1,h2,h3,h4,h5,h6,by omega,h8,h9⟩
 refine aH Tryz.func390 ?_
 repeat' (first|refine v35 ?_|refine w5 ?_ ?_|((refine bh fun h=>?_) <;> try exact w6 h)|(refine aE fun hA=>?_;subst hA)|intro _|(show aA _ 355 _ _ _;refine CA (h:=Wl h h7 (by omega) ?_)))
 (refine aC ?_;exact aK (aG.trans (by exact aZ) ((f3 hw))) (hK))
theorem Pf (h:n<1) (hK:K (I6 2) (rP t cap st l w en ou ac se dr::R)):CT 390 #[PO t,I6 n] (rP t cap st l w en ou ac se dr::R) K:=by
 refine iZ fun q d hT=>?_
 refine aH Tryz.func390 ?_
 repeat' (first|refine v35 ?_|refine w5 ?_ ?_|((refine bh fun h=>?_) <;> try exact w6 h)|(refine aE fun hA=>?_;subst hA)|intro _|(show aA _ 355 _ _ _;refine CA (h:=Sa (by simp) h ?_)))
 (refine aC ?_;exact aK (aG.trans (by exact aZ) ((f3 hT))) (hK))
theorem lD (hK:K (I6 (if en=true then 11 else 0)) (pt t [I6 ac,I6 se,I6 dr,I6 2,.pointer none,PO q,PO d,.bool en,.bool ou] 228::R)):CT 343 #[PO t] (pt t [I6 ac,I6 se,I6 dr,I6 2,.pointer none,PO q,PO d,.bool en,.bool ou] 228::R) K:=by
 cases en
 ·refine aH Tryz.func343 ?_
  repeat' (first|refine v4 ?_|refine w5 ?_ ?_|((refine bh fun h=>?_) <;> try exact w6 h)|(refine aE fun hA=>?_;subst hA)|intro _)
  (refine aC ?_;exact aB (hK))
 ·refine aH Tryz.func343 ?_
  repeat' (first|refine v4 ?_|refine w5 ?_ ?_|((refine bh fun h=>?_) <;> try exact w6 h)|(refine aE fun hA=>?_;subst hA)|intro _)
  (refine aC ?_;exact aB (hK))
theorem XD (hK:K (I6 (if en=true then 11 else 0)) (rP t cap st l w true ou ac se dr::R)):CT 353 #[PO t] (rP t cap st l w en ou ac se dr::R) K:=by
 refine iZ fun q d hT=>?_
 obtain⟨h1,h2,h3,h4,h5,h6,h7,h8,h9⟩:=hT
 have hT:TI cap st l w true ou ac se dr:=⟨h1,h2,h3,h4,h5,h6,h7,h8,fun h=>⟨rfl,(h9 h).2⟩⟩
 cases en
 ·refine aH Tryz.func353 ?_
  repeat' (first|refine v13 ?_|refine w5 ?_ ?_|((refine bh fun h=>?_) <;> try exact w6 h)|(refine aE fun hA=>?_;subst hA)|intro _|(show aA _ 343 _ _ _;refine CA (h:=lD ?_)))
  (refine aC ?_;exact aK (aG.trans (by exact aZ) ((f3 hT))) (hK))
 ·refine aH Tryz.func353 ?_
  repeat' (first|refine v13 ?_|refine w5 ?_ ?_|((refine bh fun h=>?_) <;> try exact w6 h)|(refine aE fun hA=>?_;subst hA)|intro _|(show aA _ 343 _ _ _;refine CA (h:=lD ?_)))
  (refine aC ?_;exact aK (aG.trans (by exact aZ) ((f3 hT))) (hK))
def Jq (l:List ByteArray) (w:Int) (en ou:Bool):Bool:=if l= [] then en && !ou else decide (0<w)
theorem qC (hT:TI cap st l w en ou ac se dr) (hb:Jq l w en ou=b) (hK:K (.bool b) (pt t [I6 ac,I6 se,I6 dr,I6 2,.pointer none,PO q,PO d,.bool en,.bool ou] 228::rE d w 2147483647::R)):CT 267 #[PO t,I6 n] (pt t [I6 ac,I6 se,I6 dr,I6 2,.pointer none,PO q,PO d,.bool en,.bool ou] 228::rE d w 2147483647::R) K:=by
 obtain⟨h1,h2,h3,h4,h5,h6,h7,h8,h9⟩:=hT
 subst hb
 by_cases hb:l= []
 ·subst hb
  rw[Jq,if_pos rfl] at hK
  cases en
  ·refine aH Tryz.func267 ?_
   repeat' (first|refine Kv ?_|refine w5 ?_ ?_|((refine bh fun h=>?_) <;> try exact w6 h)|(refine aE fun hA=>?_;subst hA)|intro _|(show aA _ 46 _ _ _;refine CA (h:=gV (by simp at *;omega) ?_)))
   all_goals first|(exfalso;simp at *;omega)|((refine aC ?_;exact aB (hK)))
  ·refine aH Tryz.func267 ?_
   repeat' (first|refine Kv ?_|refine w5 ?_ ?_|((refine bh fun h=>?_) <;> try exact w6 h)|(refine aE fun hA=>?_;subst hA)|intro _|(show aA _ 46 _ _ _;refine CA (h:=gV (by simp at *;omega) ?_)))
   all_goals first|(exfalso;simp at *;omega)|((refine aC ?_;exact aB (hK)))
 ·have:0<l.length:=List.length_pos_iff.2 hb
  rw[Jq,if_neg hb] at hK
  refine aH Tryz.func267 ?_
  repeat' (first|refine Kv ?_|refine w5 ?_ ?_|((refine bh fun h=>?_) <;> try exact w6 h)|(refine aE fun hA=>?_;subst hA)|intro _|(show aA _ 46 _ _ _;refine CA (h:=gV (by omega) ?_))|(show aA _ 368 _ _ _;refine CA (h:=K6 ?_)))
  (refine aC ?_;exact aB (hK))
theorem Rn (hK:K (.bool (Jq l w en ou)) (rP t cap st l w en ou ac se dr::R)):CT 267 #[PO t,I6 n] (rP t cap st l w en ou ac se dr::R) K:=by
 refine iZ fun q d hT=>?_
 refine aA.ent (C':=pt t [I6 ac,I6 se,I6 dr,I6 2,.pointer none,PO q,PO d,.bool en,.bool ou] 228::rE d w 2147483647::yL q cap st l ac se dr::R) (by exact aZ) ?_
 exact aA.entK (qC hT rfl ⟨_,aG.trans (by exact aZ) (f3 hT),hK⟩)
theorem Qg (hK:K (.bool (decide (0<l.length) && !Jq l w en ou)) (rP t cap st l w en ou ac se dr::R)):CT 181 #[PO t,I6 n] (rP t cap st l w en ou ac se dr::R) K:=by
 refine iZ fun q d hT=>?_
 have hT':=hT
 obtain⟨h1,h2,h3,h4,h5,h6,h7,h8,h9⟩:=hT'
 by_cases hb:0<l.length
 ·refine aH Tryz.func181 ?_
  repeat' (first|refine v48 ?_|refine w5 ?_ ?_|((refine bh fun h=>?_) <;> try exact w6 h)|(refine aE fun hA=>?_;subst hA)|intro _|(show aA _ 46 _ _ _;refine CA (h:=gV (by omega) ?_))|(show aA _ 267 _ _ _;refine CA (h:=qC hT rfl ?_)))
  all_goals(refine aC ?_;exact aK (aG.trans (by exact aZ) ((f3 hT))) ((kb hK (by simp_all))))
 ·refine aH Tryz.func181 ?_
  repeat' (first|refine v48 ?_|refine w5 ?_ ?_|((refine bh fun h=>?_) <;> try exact w6 h)|(refine aE fun hA=>?_;subst hA)|intro _|(show aA _ 46 _ _ _;refine CA (h:=gV (by omega) ?_))|(show aA _ 267 _ _ _;refine CA (h:=qC hT rfl ?_)))
  all_goals(refine aC ?_;exact aK (aG.trans (by exact aZ) ((f3 hT))) ((kb hK (by simp_all))))
theorem S3 (he:en=true) (hK:K (.tuple #[I6 0,I6 11]) (rP t cap st l w en ou ac se dr::R)):CT 238 #[PO t,.string s] (rP t cap st l w en ou ac se dr::R) K:=by
 subst he
 refine iZ fun q d hT=>?_
 refine aH Tryz.func238 ?_
 repeat' (first|refine v49 ?_|refine w5 ?_ ?_|((refine bh fun h=>?_) <;> try exact w6 h)|(refine aE fun hA=>?_;subst hA)|intro _|(show aA _ 343 _ _ _;refine CA (h:=lD ?_)))
 (refine aC ?_;exact aK (aG.trans (by exact aZ) ((f3 hT))) (hK))
theorem Tq (he:en=false) (hs:256<s.size) (hK:K (.tuple #[I6 0,I6 4]) (rP t cap st l w en ou ac se dr::R)):CT 238 #[PO t,.string s] (rP t cap st l w en ou ac se dr::R) K:=by
 subst he
 refine iZ fun q d hT=>?_
 refine aH Tryz.func238 ?_
 repeat' (first|refine v49 ?_|refine w5 ?_ ?_|((refine bh fun h=>?_) <;> try exact w6 h)|(refine aE fun hA=>?_;subst hA)|intro _|(show aA _ 343 _ _ _;refine CA (h:=lD ?_)))
 (refine aC ?_;exact aK (aG.trans (by exact aZ) ((f3 hT))) (hK))
theorem S0 (he:en=false) (hs:s.size<=256) (hc:cap<=l.length) (h0:st=0) (hK:K (.tuple #[I6 0,I6 9]) (rP t cap st l w en ou ac se dr::R)):CT 238 #[PO t,.string s] (rP t cap st l w en ou ac se dr::R) K:=by
 subst he
 refine iZ fun q d hT=>?_
 refine aH Tryz.func238 ?_
 repeat' (first|refine v49 ?_|refine w5 ?_ ?_|((refine bh fun h=>?_) <;> try exact w6 h)|(refine aE fun hA=>?_;subst hA)|intro _|(show aA _ 343 _ _ _;refine CA (h:=lD ?_))|(show aA _ 345 _ _ _;refine CA (h:=ZC (by omega) h0 ?_)))
 (refine aC ?_;exact aK (aG.trans (by exact aZ) ((f3 hT))) (hK))
theorem UP (he:en=false) (hs:s.size<=256) (hc:l.length<cap) (hb:ac<=800000000) (hK:K (.tuple #[I6 1,I6 0]) (rP t cap st (l++ [s]) w en ou (ac+1) se dr::R)):CT 238 #[PO t,.string s] (rP t cap st l w en ou ac se dr::R) K:=by
 subst he
 refine iZ fun q d hT=>?_
 obtain⟨h1,h2,h3,h4,h5,h6,h7,h8,h9⟩:=hT
 have hT:TI cap st (l++ [s]) w false ou (ac+1) se dr:=⟨by simp;omega,h2,h3,by omega,by simp;omega,h6,h7,h8,fun h=>by simpa using (h9 h).1⟩
 refine aH Tryz.func238 ?_
 repeat' (first|refine v49 ?_|refine w5 ?_ ?_|((refine bh fun h=>?_) <;> try exact w6 h)|(refine aE fun hA=>?_;subst hA)|intro _|(show aA _ 343 _ _ _;refine CA (h:=lD ?_))|(show aA _ 345 _ _ _;refine CA (h:=Gp (by omega) (by omega) (by omega) ?_)))
 (refine aC ?_;exact aK (aG.trans (by exact aZ) ((f3 hT))) (hK))
theorem Tf (he:en=false) (hs:s.size<=256) (hc:cap<=l.length) (h0:st≠0) (h10:st=1\/cap=0) (hb:ac<=800000000) (hK:K (.tuple #[I6 2,I6 0]) (rP t cap st l w en ou (ac+1) se (dr+1)::R)):CT 238 #[PO t,.string s] (rP t cap st l w en ou ac se dr::R) K:=by
 subst he
 refine iZ fun q d hT=>?_
 obtain⟨h1,h2,h3,h4,h5,h6,h7,h8,h9⟩:=hT
 have hT:TI cap st l w false ou (ac+1) se (dr+1):=⟨by omega,h2,by omega,by omega,h5,h6,h7,h8,h9⟩
 refine aH Tryz.func238 ?_
 repeat' (first|refine v49 ?_|refine w5 ?_ ?_|((refine bh fun h=>?_) <;> try exact w6 h)|(refine aE fun hA=>?_;subst hA)|intro _|(show aA _ 343 _ _ _;refine CA (h:=lD ?_))|(show aA _ 345 _ _ _;refine CA (h:=YD (by omega) (by omega) (by omega) h0 (by omega) ?_)))
 (refine aC ?_;exact aK (aG.trans (by exact aZ) ((f3 hT))) (hK))
theorem U6 {s0:ByteArray} (he:en=false) (hs:s.size<=256) (hc:cap<=(s0::l).length) (h0:st≠0) (h10:st≠1) (h11:cap≠0) (hb:ac<=800000000) (hK:K (.tuple #[I6 3,I6 0]) (rP t cap st (l++ [s]) w en ou (ac+1) se (dr+1)::R)):CT 238 #[PO t,.string s] (rP t cap st (s0::l) w en ou ac se dr::R) K:=by
 subst he
 refine iZ fun q d hT=>?_
 obtain⟨h1,h2,h3,h4,h5,h6,h7,h8,h9⟩:=hT
 have hl:(s0::l).length=l.length+1:=rfl
 have hT:TI cap st (l++ [s]) w false ou (ac+1) se (dr+1):=⟨by simp;omega,h2,by omega,by omega,by simp;omega,h6,h7,h8,fun h=>by simpa using (h9 h).1⟩
 refine aH Tryz.func238 ?_
 repeat' (first|refine v49 ?_|refine w5 ?_ ?_|((refine bh fun h=>?_) <;> try exact w6 h)|(refine aE fun hA=>?_;subst hA)|intro _|(show aA _ 343 _ _ _;refine CA (h:=lD ?_))|(show aA _ 345 _ _ _;refine CA (h:=Y5 (by omega) (by omega) (by omega) (by omega) h0 h10 (by omega) ?_)))
 (refine aC ?_;exact aK (aG.trans (by exact aZ) ((f3 hT))) (hK))
def rO:List (Nat×Nat):= [(0,0),(1,0),(2,0),(3,0),(4,0),(5,0),(6,1),(7,0)]
theorem NT (hK:K (.tuple #[.string ⟨#[]⟩,.bool true]) (pt r2 [PO t] 91::pt r3 [I6 n] 3::pt t [I6 ac,I6 se,I6 dr,I6 2,.pointer none,PO q,PO d,.bool en,.bool ou] 228::yL q cap st [] ac se dr::rE d w 2147483647::R)):CT 374 #[PO r2,PO r3] (pt r2 [PO t] 91::pt r3 [I6 n] 3::pt t [I6 ac,I6 se,I6 dr,I6 2,.pointer none,PO q,PO d,.bool en,.bool ou] 228::yL q cap st [] ac se dr::rE d w 2147483647::R) K:=by
 refine aH Tryz.func374 ?_
 repeat' (first|refine v85 ?_|refine dw rO ?_|refine w5 ?_ ?_|((refine bh fun h=>?_) <;> try exact w6 h)|(refine aE fun hA=>?_;subst hA)|intro _|(show aA _ 354 _ _ _;refine CA (h:=Jb ?_)))
 (refine aC ?_;exact aB (hK))
theorem Pw (hT:TI cap st (s::l) w en ou ac se dr) (hw:0<w) (hK:K (.tuple #[.string s,.bool false]) (pt r2 [PO t] 91::pt r3 [I6 n] 3::pt t [I6 ac,I6 (se+1),I6 dr,I6 2,.pointer none,PO q,PO d,.bool en,.bool ou] 228::yL q cap st l ac (se+1) dr::rE d (w - 1) 2147483647::R)):CT 374 #[PO r2,PO r3] (pt r2 [PO t] 91::pt r3 [I6 n] 3::pt t [I6 ac,I6 se,I6 dr,I6 2,.pointer none,PO q,PO d,.bool en,.bool ou] 228::yL q cap st (s::l) ac se dr::rE d w 2147483647::R) K:=by
 obtain⟨h1,h2,h3,h4,h5,h6,h7,h8,h9⟩:=hT
 have hl:(s::l).length=l.length+1:=rfl
 refine aH Tryz.func374 ?_
 repeat' (first|refine v85 ?_|refine dw rO ?_|refine w5 ?_ ?_|((refine bh fun h=>?_) <;> try exact w6 h)|(refine aE fun hA=>?_;subst hA)|intro _|(show aA _ 354 _ _ _;refine CA (h:=Me (by omega) (by omega) ?_))|(show aA _ 273 _ _ _;refine CA (h:=Pi (by omega) (by omega) (by omega) ?_)))
 (refine aC ?_;exact aB (hK))
theorem P4 (hr:Jq [] w en ou=true) (hK:K (.tuple #[.string ⟨#[]⟩,.bool true,.bool true]) (rP t cap st [] w en true ac se dr::R)):CT 282 #[PO t,I6 n] (rP t cap st [] w en ou ac se dr::R) K:=by
 refine iZ fun q d hT=>?_
 have hT':=hT
 obtain⟨h1,h2,h3,h4,h5,h6,h7,h8,h9⟩:=hT'
 have hw:TI cap st [] w en true ac se dr:=⟨h1,h2,h3,h4,h5,h6,h7,h8,fun _=>⟨by rw[Jq,if_pos rfl] at hr;simp at hr;exact hr.1,rfl⟩⟩
 refine aH Tryz.func282 ?_
 repeat' (first|refine SE ?_|refine w5 ?_ ?_|((refine bh fun h=>?_) <;> try exact w6 h)|(refine aE fun hA=>?_;subst hA)|intro _|(show aA _ 267 _ _ _;refine CA (h:=qC hT hr ?_))|(show aA _ 374 _ _ _;refine CA (h:=NT ?_)))
 (refine aC ?_;exact aK (aG.trans (by exact aZ) ((f3 hw))) (hK))
theorem Uz (hr:0<w) (hK:K (.tuple #[.string s,.bool false,.bool true]) (rP t cap st l (w - 1) en false ac (se+1) dr::R)):CT 282 #[PO t,I6 n] (rP t cap st (s::l) w en ou ac se dr::R) K:=by
 refine iZ fun q d hT=>?_
 have hT':=hT
 obtain⟨h1,h2,h3,h4,h5,h6,h7,h8,h9⟩:=hT'
 have hl:(s::l).length=l.length+1:=rfl
 have hw:TI cap st l (w - 1) en false ac (se+1) dr:=⟨by omega,by omega,h3,h4,by omega,h6,by omega,h8,by simp⟩
 have hr2:Jq (s::l) w en ou=true:=by simp[Jq,hr]
 refine aH Tryz.func282 ?_
 repeat' (first|refine SE ?_|refine w5 ?_ ?_|((refine bh fun h=>?_) <;> try exact w6 h)|(refine aE fun hA=>?_;subst hA)|intro _|(show aA _ 267 _ _ _;refine CA (h:=qC hT hr2 ?_))|(show aA _ 374 _ _ _;refine CA (h:=Pw hT hr ?_)))
 (refine aC ?_;exact aK (aG.trans (by exact aZ) ((f3 hw))) (hK))
def Bi:List (Nat×Nat):= [(0,0),(1,0),(2,0),(3,0),(4,1),(5,1),(6,1),(7,1),(8,1),(9,1),(10,0),(11,0)]
theorem QC (hK:K (I6 l.length) (rP t cap st [] w en ou ac se (dr+l.length)::R)):CT 425 #[PO t] (rP t cap st l w en ou ac se dr::R) K:=by
 refine iZ fun q d hT=>?_
 obtain⟨h1,h2,h3,h4,h5,h6,h7,h8,h9⟩:=hT
 have hw:TI cap st [] w en ou ac se (dr+l.length):=⟨by simp;omega,h2,by omega,h4,by simp,h6,h7,h8,fun h=>⟨(h9 h).1,rfl⟩⟩
 refine aH Tryz.func425 ?_
 repeat' (first|refine HA ?_|refine dw Bi ?_|refine w5 ?_ ?_|((refine bh fun h=>?_) <;> try exact w6 h)|(refine aE fun hA=>?_;subst hA)|intro _|(show aA _ 426 _ _ _;refine CA (h:=Iz ?_))|(show aA _ 427 _ _ _;refine CA (h:=J3 (by omega) (by omega) ?_)))
 rw[show(0:Int)+((l.length:Nat):Int)=l.length by omega]
 (refine aC ?_;exact aK (aG.trans (by exact aZ) ((f3 hw))) (hK))
end Go.Proofs.YtepnmcipkangkaaGreat
