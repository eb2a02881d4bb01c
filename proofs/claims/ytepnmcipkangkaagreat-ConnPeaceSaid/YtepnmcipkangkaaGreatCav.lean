/- A part of the proof: lemmas; each with the conditions that it states. -/
import Derived.Test.YtepnmcipkangkaaGreatCat
import Derived.Test.YtepnmcipkangkaaGreatCai
import Derived.Test.YtepnmcipkangkaaGreatCas
set_option linter.unusedVariables false
set_option linter.unusedSimpArgs false
set_option maxRecDepth 100000
set_option maxHeartbeats 40000000
namespace Go.Proofs.YtepnmcipkangkaaGreat
open Go Go.Proofs Go.Sl
attribute [local irreducible] aN fL cL bM aL aR aA dJ dK aU dI pt ro fC star sep bF
variable {R C:List HP} {K:KP} {t cap r:Nat} {bs:List UInt8} {en ou:Bool} {ac se dr n:Int}
def TB (cap:Nat) (bs:List UInt8) (en ou:Bool) (ac se dr:Int):Prop:=ac=se+dr+bs.length/\0<=se/\0<=dr/\ac<=900000000/\bs.length<=cap/\cap<=4096/\(ou=true->en=true/\bs= [])
def zF (t cap:Nat) (bs:List UInt8) (en ou:Bool) (ac se dr:Int):HP:=fC fun r=>sep (pt t [I6 ac,I6 se,I6 dr,I6 1,PO r,.pointer none,.pointer none,.bool en,.bool ou] 228) (sep (k6 r cap bs) (bF (TB cap bs en ou ac se dr)))
theorem kA (h:TB cap bs en ou ac se dr):aG (pt t [I6 ac,I6 se,I6 dr,I6 1,PO r,.pointer none,.pointer none,.bool en,.bool ou] 228::k6 r cap bs::R) (zF t cap bs en ou ac se dr::R):=
 aG.ex r (aG.sep (aG.pick aW.here (aG.sep (aG.pick aW.here (aG.pure h (aG.refl _))))))
theorem qM {f:FuncId} {args:Array Value} (h:∀r,TB cap bs en ou ac se dr->CT f args (pt t [I6 ac,I6 se,I6 dr,I6 1,PO r,.pointer none,.pointer none,.bool en,.bool ou] 228::k6 r cap bs::R) K):CT f args (zF t cap bs en ou ac se dr::R) K:=
 aA.ex fun r=>aA.sep (aA.ent (aG.trans (aG.cons aG.unsep) (fun _ hs=>(hs.perm (List.Perm.trans (List.Perm.cons _ (List.Perm.swap _ _ _)) (List.Perm.swap _ _ _))))) (aA.pure fun hI=>h r hI))
def Bh:List (Nat×Nat):= [(0,0),(1,0),(2,0),(3,0),(4,1),(5,1),(6,1),(7,1),(8,1),(9,1),(10,0),(11,0)]
theorem iB (h:0<=se/\0<=dr/\0<=ac/\ac<=9000000000/\se<=ac/\dr<=ac) (hK:K (I6 (ac - se - dr)) R):CT 46 #[.agg #[I6 ac,I6 se,I6 dr]] R K:=by
 refine aH Tryz.func46 ?_
 repeat' (first|refine v22 ?_|refine w5 ?_ ?_|((refine bh fun h=>?_) <;> try exact w6 h)|(refine aE fun hA=>?_;subst hA)|intro _)
 (refine aC ?_;exact aB (hK))
theorem L2 {st:Int} (h:cap<=4096) (hK:∀t,K (.tuple #[PO t,I6 0]) (zF t cap [] false false 0 0 0::R)):CT 255 #[I6 1,I6 cap,I6 st] R K:=by
 refine aH Tryz.func255 ?_
 repeat' (first|refine AB ?_|refine w5 ?_ ?_|((refine bh fun h=>?_) <;> try exact w6 h)|(refine aE fun hA=>?_;subst hA)|intro _|(show aA _ 361 _ _ _;refine CA (h:=VU (by omega) (fun r=>?_))))
 (refine aC ?_;exact aM (aG.trans (by exact aY) ((kA ⟨by simp,by omega,by omega,by omega,by simp,by omega,by simp⟩))) (hK _))
theorem TN (hK:K (I6 1) (zF t cap bs en ou ac se dr::R)):CT 160 #[PO t] (zF t cap bs en ou ac se dr::R) K:=by
 refine qM fun r hT=>?_
 refine aH Tryz.func160 ?_
 repeat' (first|refine v4 ?_|refine w5 ?_ ?_|((refine bh fun h=>?_) <;> try exact w6 h)|(refine aE fun hA=>?_;subst hA)|intro _)
 (refine aC ?_;exact aM (aG.trans (by exact aY) ((kA hT))) (hK))
theorem Uo (hK:K (.agg #[I6 ac,I6 se,I6 dr]) (zF t cap bs en ou ac se dr::R)):CT 43 #[PO t] (zF t cap bs en ou ac se dr::R) K:=by
 refine qM fun r hT=>?_
 refine aH Tryz.func43 ?_
 repeat' (first|refine v30 ?_|refine w5 ?_ ?_|((refine bh fun h=>?_) <;> try exact w6 h)|(refine aE fun hA=>?_;subst hA)|intro _)
 (refine aC ?_;exact aM (aG.trans (by exact aY) ((kA hT))) (hK))
theorem S3 (hK:K (I6 13) (zF t cap bs en ou ac se dr::R)):CT 390 #[PO t,I6 n] (zF t cap bs en ou ac se dr::R) K:=by
 refine qM fun r hT=>?_
 refine aH Tryz.func390 ?_
 repeat' (first|refine v35 ?_|refine w5 ?_ ?_|((refine bh fun h=>?_) <;> try exact w6 h)|(refine aE fun hA=>?_;subst hA)|intro _)
 (refine aC ?_;exact aM (aG.trans (by exact aY) ((kA hT))) (hK))
theorem tU (hK:K (I6 (if en=true then 11 else 0)) (pt t [I6 ac,I6 se,I6 dr,I6 1,PO r,.pointer none,.pointer none,.bool en,.bool ou] 228::R)):CT 343 #[PO t] (pt t [I6 ac,I6 se,I6 dr,I6 1,PO r,.pointer none,.pointer none,.bool en,.bool ou] 228::R) K:=by
 cases en
 ·refine aH Tryz.func343 ?_
  repeat' (first|refine v4 ?_|refine w5 ?_ ?_|((refine bh fun h=>?_) <;> try exact w6 h)|(refine aE fun hA=>?_;subst hA)|intro _)
  (refine aC ?_;exact aB (hK))
 ·refine aH Tryz.func343 ?_
  repeat' (first|refine v4 ?_|refine w5 ?_ ?_|((refine bh fun h=>?_) <;> try exact w6 h)|(refine aE fun hA=>?_;subst hA)|intro _)
  (refine aC ?_;exact aB (hK))
theorem Yw (hK:K (I6 (if en=true then 11 else 0)) (zF t cap bs true ou ac se dr::R)):CT 353 #[PO t] (zF t cap bs en ou ac se dr::R) K:=by
 refine qM fun r hT=>?_
 obtain⟨h1,h2,h3,h4,h5,h6,h7⟩:=hT
 have h':TB cap bs true ou ac se dr:=⟨h1,h2,h3,h4,h5,h6,fun h=>⟨rfl,(h7 h).2⟩⟩
 cases en
 ·refine aH Tryz.func353 ?_
  repeat' (first|refine v13 ?_|refine w5 ?_ ?_|((refine bh fun h=>?_) <;> try exact w6 h)|(refine aE fun hA=>?_;subst hA)|intro _|(show aA _ 343 _ _ _;refine CA (h:=tU ?_)))
  (refine aC ?_;exact aM (aG.trans (by exact aY) ((kA h'))) (hK))
 ·refine aH Tryz.func353 ?_
  repeat' (first|refine v13 ?_|refine w5 ?_ ?_|((refine bh fun h=>?_) <;> try exact w6 h)|(refine aE fun hA=>?_;subst hA)|intro _|(show aA _ 343 _ _ _;refine CA (h:=tU ?_)))
  (refine aC ?_;exact aM (aG.trans (by exact aY) ((kA h'))) (hK))
def rdB (bs:List UInt8) (en ou:Bool) (n:Int):Bool:=if bs= [] then en && !ou else decide (0<n)
theorem uS {b:Bool} (hT:TB cap bs en ou ac se dr) (hb:rdB bs en ou n=b) (hK:K (.bool b) (pt t [I6 ac,I6 se,I6 dr,I6 1,PO r,.pointer none,.pointer none,.bool en,.bool ou] 228::R)):CT 267 #[PO t,I6 n] (pt t [I6 ac,I6 se,I6 dr,I6 1,PO r,.pointer none,.pointer none,.bool en,.bool ou] 228::R) K:=by
 obtain⟨h1,h2,h3,h4,h5,h6,h7⟩:=hT
 subst hb
 by_cases hb:bs= []
 ·subst hb
  rw[rdB,if_pos rfl] at hK
  cases en
  ·refine aH Tryz.func267 ?_
   repeat' (first|refine J5 ?_|refine w5 ?_ ?_|((refine bh fun h=>?_) <;> try exact w6 h)|(refine aE fun hA=>?_;subst hA)|intro _|(show aA _ 46 _ _ _;refine CA (h:=iB (by simp at *;omega) ?_)))
   all_goals first|(exfalso;simp at *;omega)|((refine aC ?_;exact aB (hK)))
  ·refine aH Tryz.func267 ?_
   repeat' (first|refine J5 ?_|refine w5 ?_ ?_|((refine bh fun h=>?_) <;> try exact w6 h)|(refine aE fun hA=>?_;subst hA)|intro _|(show aA _ 46 _ _ _;refine CA (h:=iB (by simp at *;omega) ?_)))
   all_goals first|(exfalso;simp at *;omega)|((refine aC ?_;exact aB (hK)))
 ·have:0<bs.length:=List.length_pos_iff.2 hb
  rw[rdB,if_neg hb] at hK
  refine aH Tryz.func267 ?_
  repeat' (first|refine J5 ?_|refine w5 ?_ ?_|((refine bh fun h=>?_) <;> try exact w6 h)|(refine aE fun hA=>?_;subst hA)|intro _|(show aA _ 46 _ _ _;refine CA (h:=iB (by omega) ?_)))
  (refine aC ?_;exact aB (hK))
theorem QL (hK:K (.bool (rdB bs en ou n)) (zF t cap bs en ou ac se dr::R)):CT 267 #[PO t,I6 n] (zF t cap bs en ou ac se dr::R) K:=by
 refine qM fun r hT=>?_
 exact aA.entK (uS hT rfl ⟨_,kA hT,hK⟩)
theorem Qq (hK:K (.bool (decide (0<bs.length) && !rdB bs en ou n)) (zF t cap bs en ou ac se dr::R)):CT 181 #[PO t,I6 n] (zF t cap bs en ou ac se dr::R) K:=by
 refine qM fun r hT=>?_
 have hT':=hT
 obtain⟨h1,h2,h3,h4,h5,h6,h7⟩:=hT'
 by_cases hb:0<bs.length
 ·refine aH Tryz.func181 ?_
  repeat' (first|refine v48 ?_|refine w5 ?_ ?_|((refine bh fun h=>?_) <;> try exact w6 h)|(refine aE fun hA=>?_;subst hA)|intro _|(show aA _ 46 _ _ _;refine CA (h:=iB (by omega) ?_))|(show aA _ 267 _ _ _;refine CA (h:=uS hT rfl ?_)))
  all_goals(refine aC ?_;exact aM (aG.trans (by exact aY) ((kA hT))) ((kb hK (by simp_all))))
 ·refine aH Tryz.func181 ?_
  repeat' (first|refine v48 ?_|refine w5 ?_ ?_|((refine bh fun h=>?_) <;> try exact w6 h)|(refine aE fun hA=>?_;subst hA)|intro _|(show aA _ 46 _ _ _;refine CA (h:=iB (by omega) ?_))|(show aA _ 267 _ _ _;refine CA (h:=uS hT rfl ?_)))
  all_goals(refine aC ?_;exact aM (aG.trans (by exact aY) ((kA hT))) ((kb hK (by simp_all))))
def FB (cap:Nat) (bs:List UInt8) (en:Bool) (s:ByteArray):Nat:=if en=true then 0 else min s.size (cap - bs.length)
theorem Ym {s:ByteArray} (hs:ac+s.size<=900000000) (hK:K (.tuple #[I6 (FB cap bs en s:Nat),I6 (if en=true then 11 else 0)]) (zF t cap (bs++s.data.toList.take (FB cap bs en s)) en ou (ac+(FB cap bs en s:Nat)) se dr::R)):CT 238 #[PO t,.string s] (zF t cap bs en ou ac se dr::R) K:=by
 refine qM fun r hT=>?_
 have hT':=hT
 obtain⟨h1,h2,h3,h4,h5,h6,h7⟩:=hT'
 have hsl:s.data.toList.length=s.size:=by simp
 cases en
 ·have ho:FB cap bs false s=min s.size (cap - bs.length):=by simp[FB]
  generalize FB cap bs false s=kk at *
  have hl:(s.data.toList.take kk).length=kk:=by rw[List.length_take,hsl];omega
  have hw:TB cap (bs++s.data.toList.take kk) false ou (ac+(kk:Nat)) se dr:=by
   refine⟨?_,h2,h3,?_,?_,h6,?_⟩
   ·rw[List.length_append,hl];omega
   ·omega
   ·rw[List.length_append,hl];omega
   ·intro ho;exact absurd (h7 ho).1 (by simp)
  by_cases h0:kk=0
  ·have h9:s.size=0\/cap<=bs.length:=by omega
   subst h0
   simp only[List.take_zero,List.append_nil] at hK hw
   refine aH Tryz.func238 ?_
   repeat' (first|refine v49 ?_|refine w5 ?_ ?_|((refine bh fun h=>?_) <;> try exact w6 h)|(refine aE fun hA=>?_;subst hA)|intro _|(show aA _ 343 _ _ _;refine CA (h:=tU ?_))|(show aA _ 344 _ _ _;refine CA (h:=Ie (by omega) h9 ?_)))
   (refine aC ?_;exact aM (aG.trans (by exact aY) ((kA hw))) (hK))
  ·refine aH Tryz.func238 ?_
   repeat' (first|refine v49 ?_|refine w5 ?_ ?_|((refine bh fun h=>?_) <;> try exact w6 h)|(refine aE fun hA=>?_;subst hA)|intro _|(show aA _ 343 _ _ _;refine CA (h:=tU ?_))|(show aA _ 344 _ _ _;refine CA (h:=LE (n:=kk) (by omega) (by omega) (by omega) ?_)))
   (refine aC ?_;exact aM (aG.trans (by exact aY) ((kA hw))) (hK))
 ·rw[FB,if_pos rfl] at hK
  simp only[List.take_zero,List.append_nil] at hK
  refine aH Tryz.func238 ?_
  repeat' (first|refine v49 ?_|refine w5 ?_ ?_|((refine bh fun h=>?_) <;> try exact w6 h)|(refine aE fun hA=>?_;subst hA)|intro _|(show aA _ 343 _ _ _;refine CA (h:=tU ?_)))
  (refine aC ?_;exact aM (aG.trans (by exact aY) ((kA hT))) ((by simpa using hK)))
def CS (bs:List UInt8) (n:Int):Nat:=(max (min (min n 256) bs.length) 0).toNat
def tV:List (Nat×Nat):= [(0,0),(1,0),(2,0),(3,0),(4,0),(5,0),(6,1),(7,0)]
theorem RZ {r2 r3:Nat} (hT:TB cap bs en ou ac se dr) (hK:K (.tuple #[.string ⟨(bs.take (CS bs n)).toArray⟩,.bool (en && decide (bs.drop (CS bs n)= []))]) (pt r2 [PO t] 91::pt r3 [I6 n] 3::pt t [I6 ac,I6 (se+(CS bs n:Nat)),I6 dr,I6 1,PO r,.pointer none,.pointer none,.bool en,.bool ou] 228::k6 r cap (bs.drop (CS bs n))::R)):CT 374 #[PO r2,PO r3] (pt r2 [PO t] 91::pt r3 [I6 n] 3::pt t [I6 ac,I6 se,I6 dr,I6 1,PO r,.pointer none,.pointer none,.bool en,.bool ou] 228::k6 r cap bs::R) K:=by
 obtain⟨h1,h2,h3,h4,h5,h6,h7⟩:=hT
 have hk:((CS bs n:Nat):Int)=max (min (min n 256) bs.length) 0:=by unfold CS;omega
 have hs:(ByteArray.mk (bs.take (CS bs n)).toArray).size=CS bs n:=by simp[xE];omega
 have hd:(decide (bs.drop (CS bs n)= [])=true)↔bs.length<=CS bs n:=by simp
 generalize CS bs n=kk at *
 cases en
 ·refine aH Tryz.func374 ?_
  repeat' (first|refine v85 ?_|refine dw tV ?_|refine w5 ?_ ?_|((refine bh fun h=>?_) <;> try exact w6 h)|(refine aE fun hA=>?_;subst hA)|intro _|(show aA _ 240 _ _ _;refine CA (h:=FX (kk:=kk) (by omega) (by omega) ?_))|(show aA _ 46 _ _ _;refine CA (h:=iB (by omega) ?_)))
  rw[hs]
  (refine aC ?_;exact aB (hK))
 ·refine aH Tryz.func374 ?_
  repeat' (first|refine v85 ?_|refine dw tV ?_|refine w5 ?_ ?_|((refine bh fun h=>?_) <;> try exact w6 h)|(refine aE fun hA=>?_;subst hA)|intro _|(show aA _ 240 _ _ _;refine CA (h:=FX (kk:=kk) (by omega) (by omega) ?_))|(show aA _ 46 _ _ _;refine CA (h:=iB (by omega) ?_)))
  rw[hs]
  (refine aC ?_;exact aB (kv hK (by congr 5;rw[Bool.eq_iff_iff,Bool.true_and,hd,beq_iff_eq];omega)))
theorem SU (hr:rdB bs en ou n=true) (hK:K (.tuple #[.string ⟨(bs.take (CS bs n)).toArray⟩,.bool (en && decide (bs.drop (CS bs n)= [])),.bool true]) (zF t cap (bs.drop (CS bs n)) en (en && decide (bs.drop (CS bs n)= [])) ac (se+(CS bs n:Nat)) dr::R)):CT 282 #[PO t,I6 n] (zF t cap bs en ou ac se dr::R) K:=by
 refine qM fun r hT=>?_
 have hT':=hT
 obtain⟨h1,h2,h3,h4,h5,h6,h7⟩:=hT'
 have hw:TB cap (bs.drop (CS bs n)) en (en && decide (bs.drop (CS bs n)= [])) ac (se+(CS bs n:Nat)) dr:=by
  have:CS bs n<=bs.length:=by unfold CS;omega
  refine⟨?_,by omega,h3,h4,?_,h6,?_⟩
  ·rw[List.length_drop];omega
  ·rw[List.length_drop];omega
  ·intro h;simpa using h
 refine aH Tryz.func282 ?_
 repeat' (first|refine Sn ?_|refine w5 ?_ ?_|((refine bh fun h=>?_) <;> try exact w6 h)|(refine aE fun hA=>?_;subst hA)|intro _|(show aA _ 267 _ _ _;refine CA (h:=uS hT hr ?_))|(show aA _ 374 _ _ _;refine CA (h:=RZ hT ?_)))
 (refine aC ?_;exact aM (aG.trans (by exact aY) ((kA hw))) (hK))
theorem RQ (hK:K (I6 bs.length) (zF t cap [] en ou ac se (dr+bs.length)::R)):CT 425 #[PO t] (zF t cap bs en ou ac se dr::R) K:=by
 refine qM fun r hT=>?_
 obtain⟨h1,h2,h3,h4,h5,h6,h7⟩:=hT
 have hw:TB cap [] en ou ac se (dr+bs.length):=⟨by simp;omega,h2,by omega,h4,by simp,h6,fun h=>⟨(h7 h).1,rfl⟩⟩
 refine aH Tryz.func425 ?_
 repeat' (first|refine GF ?_|refine dw Bh ?_|refine w5 ?_ ?_|((refine bh fun h=>?_) <;> try exact w6 h)|(refine aE fun hA=>?_;subst hA)|intro _|(show aA _ 426 _ _ _;refine CA (h:=Lj (by omega) ?_))|(show aA _ 427 _ _ _;refine CA (h:=GM ?_)))
 rw[show((bs.length:Nat):Int)+0=bs.length by omega]
 (refine aC ?_;exact aM (aG.trans (by exact aY) ((kA hw))) (hK))
end Go.Proofs.YtepnmcipkangkaaGreat
namespace Go.Proofs.YtepnmcipkangkaaGreat
open Go Go.Proofs Go.Sl
attribute [local irreducible] aN fL cL bM aL aR aA dJ dK aU dI pt ro fC star sep bF
attribute [local irreducible] mp DG
variable {R C:List HP} {K:KP} {id most:Int} {p q ck:Nat} {x:Bool}
structure Nd where
 on:Int
 w:Int
def sR:Nd->Value:=fun n=>.agg #[I6 n.on,I6 n.w]
def Aoi:List Value->Option Int
 | [.int .i64 y]=>some y
 |_=>none
theorem Ah4 (cs:List Value) (y:Int) (h:Aoi cs=some y): [I6 y]=cs:=by
 unfold Aoi at h
 split at h
 ·cases h;rfl
 ·cases h
def k8:u6 Int:= { enc:=fun n=> [I6 n],sz:=1,dec:=Aoi,len:=fun _=>rfl,one:=fun _=>rfl,ok:=Ah4 }
def d6 (id:Int) (l:List (KE Nd)):Bool:=(iF id l).isSome
def Aj (on w:Int):Bool:=decide (0<=on) && decide (on<=2147483647) && decide (1<=w) && decide (w<=256)
def cD (id:Int) (l:List (KE Nd)):List Int:=N1 ((l.filter fun e=>decide (e.v.on=id)).map KE.k)
theorem Ag0 {l:List (KE Nd)}:I0 true (.agg #[I6 0,I6 0]) (jT id (kM sR l) 0)=.tuple #[sR ((iF id l).getD ⟨0,0⟩),.bool (d6 id l)]:=by
 rw[Wu]
 unfold d6
 cases iF id l <;> rfl
theorem rG {l:List (KE Nd)}:I0 false (.agg #[I6 0,I6 0]) (jT id (kM sR l) 0)=sR ((iF id l).getD ⟨0,0⟩):=by
 rw[Wu]
 cases iF id l <;> rfl
theorem R1 {A:Option Addr} {c n:Nat} {xs:List Int} (hn:xs.length=n) (hs:n<1000000000000000) (hK:K (.tuple #[]) (bT A c 3 k8 (N1 xs)::R)):CT 124 #[.slice A n c] (bT A c 3 k8 xs::R) K:=
 aA.ofSort Tryz.func124 rfl (by decide +kernel) (fun _=>rfl) (Any.slices_Sort_int Tryz.lays189) (Any.slices_Sort_int_none Tryz.lays189) aW.here hn hs hK
section
variable {on w:Int} {l:List (KE Nd)}
theorem kZ (hK:K (.bool (Aj on w)) R):CT 337 #[.agg #[I6 on,I6 w,.bool x]] R K:=by
 refine aH Tryz.func337 ?_
 repeat' (first|refine v19 ?_|refine w5 ?_ ?_|((refine bh fun h=>?_) <;> try exact w6 h)|(refine aE fun hA=>?_;subst hA)|intro _)
 all_goals(refine aC ?_;exact aB (kb hK (by unfold Aj;simp <;> omega)))
theorem fS (hK:K (.bool (d6 id l)) (pt p [I6 most,.map (some q)] 287::mp q (kM sR l) ck::R)):CT 338 #[PO p,I6 id] (pt p [I6 most,.map (some q)] 287::mp q (kM sR l) ck::R) K:=by
 refine aH Tryz.func338 ?_
 repeat' (first|refine v30 ?_|refine w5 ?_ ?_|((refine bh fun h=>?_) <;> try exact w6 h)|(refine aE fun hA=>?_;subst hA)|intro _|(show aN _ _ _ _ _ _ _;refine j0 ?_ (hv:=Ag0)))
 all_goals(refine aC ?_;exact aB (hK))
theorem B5 (hok:Si l ck) (hl:l.length<=100000) (hK:∀A c,K (.slice A (cD id l).length c) (bT A c 3 k8 (cD id l)::pt p [I6 most,.map (some q)] 287::mp q (kM sR l) ck::R)):CT 373 #[PO p,I6 id] (pt p [I6 most,.map (some q)] 287::mp q (kM sR l) ck::R) K:=by
 obtain⟨hnd,hck⟩:=hok
 refine aH Tryz.func373 ?_
 repeat' (first|(show aN _ _ _ _ _ _ _;refine Akd ?_;intro _)|refine Sg ?_|refine w5 ?_ ?_|((refine bh fun h=>?_) <;> try exact w6 h)|(refine aE fun hA=>?_;subst hA)|intro _)
 rename_i it
 refine o7 (aG.nilrow 3 k8 _) ?_
 refine jA (fun kk a C'=>∃(os:List (KE Nd)) (ks:List Int) (seen:List Nat) (A:Option Addr) (c:Nat),GZ l seen<=kk/\seen.Nodup/\(∀e∈os,e∈l)/\ks=(os.filter fun e=>decide (e.v.on=id)).map KE.k/\seen=os.map KE.b/\dH a [(0,PO p),(1,I6 id),(5,.slice A ks.length c),(15,PO it)]/\C'=bT A c 3 k8 ks::DG it q ck seen ck::pt p [I6 most,.map (some q)] 287::mp q (kM sR l) ck::R) (GZ l []) (cJ (GZ l []) ⟨[],[],[],none,0,Nat.le_refl _,List.nodup_nil,(fun e he=>by cases he),rfl,rfl,⟨rfl,rfl,rfl,rfl,trivial⟩,rfl⟩ (by omega)) ?_
 rintro kk a C' ⟨os,ks,seen,A,c,hk,hno,hos,hks,hse,ha,rfl⟩
 have hle:=Ap4 (by rw[<- hse];exact hno) hos
 have hlk:ks.length<=os.length:=by rw[hks,List.length_map];exact List.length_filter_le _ _
 refine i6 _ ha ?_
 simp only[gJ]
 repeat' (first|refine Sg ?_|refine w5 ?_ ?_|((refine bh fun h=>?_) <;> try exact w6 h)|(refine aE fun hA=>?_;subst hA)|intro _)
 refine Aof (fun e he hn=>?_) (fun hs=>?_) rfl (by(repeat (first|exact aW.here|apply aW.there)) <;> exact aW.here) ⟨_,by((repeat (first|exact aW.here|apply aW.there)) <;> exact aW.here)⟩ (fun e he=>by obtain⟨z,hz,rfl⟩:=List.mem_map.1 he;exact hck z hz) (by
  cases l with
  |nil=>exact .inr (.inl rfl)
  |cons z l=>exact .inr (.inr ⟨⟨z.k,sR z.v,z.b⟩,List.mem_cons_self ..,hck z (List.mem_cons_self ..)⟩)) (by exact rfl)
 ·obtain⟨e0,he0,rfl⟩:=List.mem_map.1 he
  have hn:e0.b ∉ seen:=hn
  have hfb:=Ajo (enc:=sR) hnd he0
  have hlt:=U1 he0 hn
  have hnn:(seen++ [e0.b]).Nodup:=List.nodup_append.2 ⟨hno,by simp,fun b hb b' hb' he=>by
   rw[List.mem_singleton] at hb'
   subst hb' he
   exact hn hb⟩
  have hmm:∀e∈os++ [e0],e∈l:=fun e he=>by
   rcases List.mem_append.1 he with he|he
   ·exact hos e he
   ·rw[List.mem_singleton.1 he];exact he0
  refine F3 rfl ?_
  by_cases ho:e0.v.on=id
  ·repeat' (first|(show aN _ _ _ _ _ _ _;first|refine Vr ?_ (he:=hfb)|(refine dD (E:=k8) (xs:=ks) (ys:= [e0.k]) ?_;intro _ _))|refine Sg ?_|refine w5 ?_ ?_|((refine bh fun h=>?_) <;> try exact w6 h)|(refine aE fun hA=>?_;subst hA)|intro _)
   all_goals exact cJ (GZ l (seen++ [e0.b])) ⟨os++ [e0],ks++ [e0.k],seen++ [e0.b],_,_,Nat.le_refl _,hnn,hmm,by rw[hks];simp[ho],by rw[hse];simp,⟨rfl,rfl,rfl,rfl,trivial⟩,rfl⟩ (Nat.lt_of_lt_of_le hlt hk)
  ·repeat' (first|(show aN _ _ _ _ _ _ _;refine Vr ?_ (he:=hfb))|refine Sg ?_|refine w5 ?_ ?_|((refine bh fun h=>?_) <;> try exact w6 h)|(refine aE fun hA=>?_;subst hA)|intro _)
   all_goals exact cJ (GZ l (seen++ [e0.b])) ⟨os++ [e0],ks,seen++ [e0.b],_,_,Nat.le_refl _,hnn,hmm,by rw[hks];simp[ho],by rw[hse];simp,⟨rfl,rfl,rfl,rfl,trivial⟩,rfl⟩ (Nat.lt_of_lt_of_le hlt hk)
 ·refine F3 rfl ?_
  have hpm:os.Perm l:=Ak4 hnd (by rw[<- hse];exact hno) hos fun e he=>by rw[<- hse];exact hs ⟨e.k,sR e.v,e.b⟩ (List.mem_map_of_mem (f:=fun e:KE Nd=>(⟨e.k,sR e.v,e.b⟩:l7)) he)
  have hsr:N1 ks=cD id l:=by
   rw[hks]
   exact Xa ((hpm.filter _).map KE.k)
  have hlen:(cD id l).length=ks.length:=by rw[<- hsr,Bs]
  rw[hlen] at hK
  repeat' (first|refine Sg ?_|refine w5 ?_ ?_|((refine bh fun h=>?_) <;> try exact w6 h)|(refine aE fun hA=>?_;subst hA)|intro _|(show aA _ 124 _ _ _;refine CA (h:=R1 (xs:=ks) rfl (by omega) ?_);rw[hsr]))
  all_goals(refine aC ?_;exact aB (hK _ _))
end
abbrev eX:=List (KE Nd)×Nat
def fR (id:Int) (n:Nd) (s:eX):eX:=(uU id n s.2 s.1,kCk id s.2 s.1)
def dG (id:Int) (s:eX):Nd:=(iF id s.1).getD ⟨0,0⟩
def jJ (id on:Int) (s:eX):eX:=fR id ⟨on,(dG id s).w⟩ s
def i9 (id:Int):List Int->eX->eX
 | [],s=>s
 |k::r,s=>i9 id r (if k=id then s else jJ k id s)
def qT (id on w:Int) (x:Bool) (s:eX):eX:=fR id ⟨on,w⟩ (if x=true then i9 id (cD on s.1) s else s)
def Bf (on:Int) (s:eX):Bool:=decide (on≠0) && !d6 on s.1
theorem UI {k:Int} {ks:List Int} {j:Nat} {s:eX} (h:ks[j]?=some k):i9 id (ks.drop j) s=i9 id (ks.drop (j+1)) (if k=id then s else jJ k id s):=by
 have hj:=(List.getElem?_eq_some_iff.1 h).1
 rw[List.drop_eq_getElem_cons hj,(List.getElem?_eq_some_iff.1 h).2]
 rfl
section
variable {on w:Int} {s:eX}
theorem AX (h:Bf on s=true) (hK:K (.agg #[I6 0,I6 w,.bool false]) (pt p [I6 most,.map (some q)] 287::mp q (kM sR s.1) s.2::R)):CT 340 #[PO p,.agg #[I6 on,I6 w,.bool x]] (pt p [I6 most,.map (some q)] 287::mp q (kM sR s.1) s.2::R) K:=by
 unfold Bf at h
 rw[Bool.and_eq_true,decide_eq_true_eq,Bool.not_eq_true'] at h
 obtain⟨h1,h2⟩:=h
 refine aH Tryz.func340 ?_
 repeat' (first|refine HG ?_|refine w5 ?_ ?_|((refine bh fun h=>?_) <;> try exact w6 h)|(refine aE fun hA=>?_;subst hA)|intro _|(show aA _ 338 _ _ _;refine CA (h:=fS ?_);rw[h2]))
 all_goals(refine aC ?_;exact aB (hK))
theorem BH (h:Bf on s=false) (hK:K (.agg #[I6 on,I6 w,.bool x]) (pt p [I6 most,.map (some q)] 287::mp q (kM sR s.1) s.2::R)):CT 340 #[PO p,.agg #[I6 on,I6 w,.bool x]] (pt p [I6 most,.map (some q)] 287::mp q (kM sR s.1) s.2::R) K:=by
 unfold Bf at h
 by_cases h1:on=0
 ·subst h1
  refine aH Tryz.func340 ?_
  repeat' (first|refine HG ?_|refine w5 ?_ ?_|((refine bh fun h=>?_) <;> try exact w6 h)|(refine aE fun hA=>?_;subst hA)|intro _)
  all_goals(refine aC ?_;exact aB (hK))
 ·have h2:d6 on s.1=true:=by simpa[h1] using h
  refine aH Tryz.func340 ?_
  repeat' (first|refine HG ?_|refine w5 ?_ ?_|((refine bh fun h=>?_) <;> try exact w6 h)|(refine aE fun hA=>?_;subst hA)|intro _|(show aA _ 338 _ _ _;refine CA (h:=fS ?_);rw[h2]))
  all_goals(refine aC ?_;exact aB (hK))
def C3:List (Nat×Nat):= [(6,0),(7,0),(8,0),(9,0),(10,0),(11,1),(0,1),(1,1),(2,1),(3,1),(4,1),(5,1),(12,0),(13,0),(14,1)]
theorem Ge (hK:K (.tuple #[]) (pt p [I6 most,.map (some q)] 287::mp q (kM sR (jJ id on s).1) (jJ id on s).2::R)):CT 357 #[PO p,I6 id,I6 on] (pt p [I6 most,.map (some q)] 287::mp q (kM sR s.1) s.2::R) K:=by
 simp only[jJ,fR,dG] at hK
 refine aH Tryz.func357 ?_
 repeat' (first|refine v25 ?_|refine dw C3 ?_|refine w5 ?_ ?_|((refine bh fun h=>?_) <;> try exact w6 h)|(refine aE fun hA=>?_;subst hA)|intro _|(show aN _ _ _ _ _ _ _;first|(refine j0 ?_ (hv:=rG);simp only[sR])|refine fU ?_|refine lN ?_ (hv:=RN (enc:=sR) (v:=⟨on,_⟩)) (hu:=by exact rfl)))
 all_goals(refine aC ?_;exact aB (hK))
theorem Gx (hK:K (I6 (if d6 id s.1=true then(dG id s).w else 0)) (pt p [I6 most,.map (some q)] 287::mp q (kM sR s.1) s.2::R)):CT 281 #[PO p,I6 id] (pt p [I6 most,.map (some q)] 287::mp q (kM sR s.1) s.2::R) K:=by
 cases h:d6 id s.1
 ·rw[h,if_neg (by decide)] at hK
  refine aH Tryz.func281 ?_
  repeat' (first|refine J5 ?_|refine w5 ?_ ?_|((refine bh fun h=>?_) <;> try exact w6 h)|(refine aE fun hA=>?_;subst hA)|intro _|(show aA _ 338 _ _ _;refine CA (h:=fS ?_);rw[h]))
  all_goals(refine aC ?_;exact aB (hK))
 ·rw[h,if_pos rfl] at hK
  simp only[dG] at hK
  refine aH Tryz.func281 ?_
  repeat' (first|refine J5 ?_|refine w5 ?_ ?_|((refine bh fun h=>?_) <;> try exact w6 h)|(refine aE fun hA=>?_;subst hA)|intro _|(show aA _ 338 _ _ _;refine CA (h:=fS ?_);rw[h])|(show aN _ _ _ _ _ _ _;first|(refine j0 ?_ (hv:=rG);simp only[sR])|refine fU ?_))
  all_goals(refine aC ?_;exact aB (hK))
end
end Go.Proofs.YtepnmcipkangkaaGreat
