/- A part of the proof: lemmas; each with the conditions that it states. -/
import Derived.Test.YtifgibijcmppmaaGreatMag
import Derived.Test.YtifgibijcmppmaaGreatMar
import Derived.Test.YtifgibijcmppmaaGreatMaq
set_option linter.unusedVariables false
set_option linter.unusedSimpArgs false
namespace Go.Proofs.YtifgibijcmppmaaGreat
open Go Go.Proofs Go.Sl
theorem Fv (s:ByteArray):s.toList=s.data.toList:=by
 exact ByteArray.toList_eq s
end Go.Proofs.YtifgibijcmppmaaGreat
namespace Go.Proofs.YtifgibijcmppmaaGreat
open Go Go.Proofs Go.Sl
set_option maxRecDepth 100000
set_option maxHeartbeats 40000000
attribute [local irreducible] aM fG cV bP aN aW aA dP dX aV dO pt ro eW star sep bH
section
variable {R C:List HP} {K:Value→List HP→Prop}
theorem ES {s t:ByteArray} (h:s.data.toList=t.data.toList):s=t:=by
 apply ByteArray.ext;exact Array.toList_inj.1 h
theorem Ae2 {n w:Int} (h:iG n w=0) (hw:0<w):0≤n∧n<256 ^ w.toNat:=by
 have h4:=D2 h
 have h2:0≤n∧¬0<n / 2 ^ (8 * w).toNat:=by
  unfold iG at h
  split at h
  ·cases h
  ·split at h
   ·cases h
   ·omega
 refine⟨h2.1,?_⟩
 have e:(2:Int) ^ (8 * w).toNat=256 ^ w.toNat:=by
  have:(8 * w).toNat=8 * w.toNat:=by omega
  rw[this,Int.pow_mul];rfl
 rw[e] at h2
 have hq:(0:Int)<256 ^ w.toNat:=Int.pow_pos (by decide)
 generalize (256:Int) ^ w.toNat=q at *
 have h3:=Int.emod_lt_of_pos n hq
 have h4:=Int.emod_def n q
 have h5:n / q=0:=by
  have:0≤n / q:=Int.ediv_nonneg h2.1 (by omega)
  omega
 rw[h5] at h4
 omega
theorem Y2 {p:Nat} {s:ByteArray} {bad:Bool} (h:kO s.size s bad=true) (hK:K (.string (Ad s.size s bad)) (eM p (Eb s.size s bad) false::R)):aA Tryz.prog 379 #[.pointer (some ⟨p,0,none⟩)] (eM p s bad::R) K:=by
 refine Ad5 ?_
 rw[h];exact hK
theorem Akm {p:Nat} {n:Int} {s:ByteArray} {bad:Bool} (h:kO (uW n) s bad=true) (hK:K (.int .i64 (uN n s bad)) (eM p (Eb (uW n) s bad) false::R)):aA Tryz.prog 327 #[.pointer (some ⟨p,0,none⟩),.int .i64 n] (eM p s bad::R) K:=by
 refine Akf ?_
 rw[h];exact hK
theorem Ahb {p:Nat} {n:Int} {s:ByteArray} {bad:Bool} (h:kO (uW n) s bad=false) (hK:K (.int .i64 0) (eM p s true::R)):aA Tryz.prog 327 #[.pointer (some ⟨p,0,none⟩),.int .i64 n] (eM p s bad::R) K:=by
 refine Akf ?_
 unfold uN Ad Eb
 rw[h];exact hK
theorem T2 {s:ByteArray} {at_ n:Int} (h0:0≤at_) (h1:0≤n) (h2:at_+n≤s.size):kO n (s.extract at_.toNat s.size) false=true∧Ad n (s.extract at_.toNat s.size) false=s.extract at_.toNat (at_+n).toNat∧Eb n (s.extract at_.toNat s.size) false=s.extract (at_+n).toNat s.size:=by
 have hok:kO n (s.extract at_.toNat s.size) false=true:=by
  unfold kO
  simp
  omega
 refine⟨hok,?_,?_⟩
 ·unfold Ad
  rw[hok]
  apply ES
  simp
  congr 1
  omega
 ·unfold Eb
  rw[hok]
  apply ES
  simp
  have e:at_.toNat+n.toNat=(at_+n).toNat:=by omega
  rw[e]
  congr 1
  omega
theorem Ahj {u:ByteArray} {n:Int} {bad:Bool} (h:bad=true∨n<0∨u.size<n):kO n u bad=false:=by
 unfold kO
 rcases h with rfl|h|h
 ·rfl
 ·simp;intro;omega
 ·simp;intro;omega
end
section
variable {R C:List HP} {K:Value→List HP→Prop}
def rB (n w:Int):ByteArray:=if n<0 then⟨#[]⟩ else⟨(wB n w).toArray⟩
end
section
variable {R C:List HP} {K:Value→List HP→Prop}
def Ab5:List (Bool×Bool×Int×Int):= [(false,true,-1,1),(false,true,-1,1),(false,true,8,0),(false,true,8,0),(false,true,4,0),(true,false,-1,0),(true,false,0,0),(true,false,8,0),(true,false,8,0),(true,false,8,0),(true,true,4,0),(false,true,4,0)]
def Aid:List Value:=Ab5.flatMap fun x=> [.bool x.1,.bool x.2.1,.int .i64 x.2.2.1,.int .i64 x.2.2.2]
theorem N0 (hK:K (.agg Aid.toArray) R):aA Tryz.prog 361 #[] R K:=by
 refine aH Tryz.func361 ?_
 repeat' (first|refine v5 ?_|refine wr ?_|refine w5 ?_ ?_|((refine bh fun h=>?_) <;> try exact w6 h)|(refine aE fun hA=>?_;subst hA)|intro _)
 (refine aC ?_;exact aB (hK))
def mB (k:Int):Bool×Bool×Int×Int:=if k<0∨12≤k then(false,false,0,0) else Ab5.getD k.toNat (false,false,0,0)
def DX (k:Int):Int:=if k<0∨12≤k then 3 else 0
theorem MW {k:Int} (hK:K (.tuple #[.agg #[.bool (mB k).1,.bool (mB k).2.1,.int .i64 (mB k).2.2.1,.int .i64 (mB k).2.2.2],.int .i64 (DX k)]) R):aA Tryz.prog 297 #[.int .i64 k] R K:=by
 rcases(by omega:(k<0∨12≤k)∨k=0∨k=1∨k=2∨k=3∨k=4∨k=5∨k=6∨k=7∨k=8∨k=9∨k=10∨k=11) with h|h|h|h|h|h|h|h|h|h|h|h|h
 ·have e1:mB k=(false,false,0,0):=by unfold mB;rw[if_pos h]
  have e2:DX k=3:=by unfold DX;rw[if_pos h]
  rw[e1,e2] at hK
  refine aH Tryz.func297 ?_
  repeat' (first|refine v82 ?_|refine wr ?_|refine w5 ?_ ?_|((refine bh fun h=>?_) <;> try exact w6 h)|(refine aE fun hA=>?_;subst hA)|intro _|(show aA _ 361 _ _ _;refine CA (h:=N0 ?_)))
  all_goals(refine aC ?_;exact aB (hK))
 all_goals
  subst h
  refine aH Tryz.func297 ?_
  repeat' (first|refine v82 ?_|refine wr ?_|refine w5 ?_ ?_|((refine bh fun h=>?_) <;> try exact w6 h)|(refine aE fun hA=>?_;subst hA)|intro _|(show aA _ 361 _ _ _;refine CA (h:=N0 ?_)))
  (refine aC ?_;exact aB (hK))
def C5:List (Nat×Nat):= [(0,0),(1,0),(2,0),(3,0),(4,0),(5,0),(6,0),(7,0)]
theorem Nn {k:Int} (hK:K (.tuple #[.bool (mB k).1,.bool (mB k).2.1,.int .i64 (DX k)]) R):aA Tryz.prog 209 #[.int .i64 k] R K:=by
 refine aH Tryz.func209 ?_
 repeat' (first|refine v31 ?_|refine dw C5 ?_|refine wr ?_|refine w5 ?_ ?_|((refine bh fun h=>?_) <;> try exact w6 h)|(refine aE fun hA=>?_;subst hA)|intro _|(show aA _ 297 _ _ _;refine CA (h:=MW ?_)))
 (refine aC ?_;exact aB (hK))
end
section
variable {R C:List HP} {K:Value→List HP→Prop}
def FC (k:Int):Int:=if k=2∨k=3∨k=7∨k=8∨k=9 then 8 else if k=4∨k=10∨k=11 then 4 else if k=6 then 0 else -1
theorem Fu (k:Int) (h0:0≤k) (h1:k≤11):(mB k).1=(decide (5≤k) && decide (k≤10))∧(mB k).2.1=(decide (k≤4) || decide (10≤k))∧(mB k).2.2.1=FC k∧DX k=0∧(mB k).2.2.2=(if k≤1 then 1 else 0):=by
 rcases(by omega:k=0∨k=1∨k=2∨k=3∨k=4∨k=5∨k=6∨k=7∨k=8∨k=9∨k=10∨k=11) with h|h|h|h|h|h|h|h|h|h|h|h <;> subst h <;> decide
def XS (l t f s:Int):List Pc:= [⟨l,3,⟨#[]⟩⟩,⟨t,1,⟨#[]⟩⟩,⟨f,1,⟨#[]⟩⟩,⟨s,4,⟨#[]⟩⟩]
def hOk (l t f s:Int):Bool:=decide (0≤l) && decide (l<16777216) && decide (0≤t) && decide (t<256) && decide (0≤f) && decide (f<256) && decide (0≤s) && decide (s≤2147483647)
def JL (l t f s:Int):ByteArray:=if 2147483647<s then⟨#[]⟩ else uR (XS l t f s)
def JW (l t f s:Int):Int:=if 2147483647<s then 2 else if wI (XS l t f s)=0 then 0 else 2
def Et:List (Nat×Nat):= [(0,0),(1,0),(2,1),(3,1),(4,1),(5,1),(6,2),(7,2),(8,1),(9,3),(10,3),(11,1),(12,1),(13,1),(14,0),(15,0),(16,0),(17,0),(18,0)]
theorem Af3 {l t f s:Int} (hK:K (.tuple #[.string (JL l t f s),.int .i64 (JW l t f s)]) R):aA Tryz.prog 269 #[.agg #[.int .i64 l,.int .i64 t,.int .i64 f,.int .i64 s]] R K:=by
 unfold JL JW at hK
 refine aH Tryz.func269 ?_
 repeat' (first|refine XR ?_|refine dw Et ?_|refine wr ?_|refine w5 ?_ ?_|((refine bh fun h=>?_) <;> try exact w6 h)|(refine aE fun hA=>?_;subst hA)|intro _|(show aA _ 336 _ _ _;refine CA (h:=Acg ?_))|(show aA _ 335 _ _ _;refine CA (h:=QV (ps:=XS l t f s) (by exact jY) (by exact rfl) (by decide) ?_)))
 all_goals first
  |(rw[if_pos (by assumption),if_pos (by assumption)] at hK;(refine aC ?_;exact aB (hK)))
  |(rw[if_neg (by omega),if_neg (by omega),if_pos (by assumption)] at hK;(refine aC ?_;exact aB (hK)))
  |(rw[if_neg (by omega),if_neg (by omega),if_neg (by assumption),PR (by assumption)] at hK;(refine aC ?_;exact aB (hK)))
end
section
variable {R C:List HP} {K:Value→List HP→Prop}
def sub (s:ByteArray) (i j:Nat):ByteArray:=s.extract i j
def xH (s:ByteArray) (i j:Nat):Int:=zM (s.extract i j).data.toList
theorem MX {p i j:Nat} {w:Int} {s:ByteArray} (hw:1≤w∧w≤4) (hj:(j:Int)=i+w) (h:j≤s.size) (hK:K (.int .i64 (xH s i j)) (eM p (s.extract j s.size) false::R)):aA Tryz.prog 327 #[.pointer (some ⟨p,0,none⟩),.int .i64 w] (eM p (s.extract i s.size) false::R) K:=by
 have hW:uW w=w:=by unfold uW;rw[if_neg (by omega)]
 obtain⟨t1,t2,t3⟩:=T2 (s:=s) (at_:=i) (n:=w) (by omega) (by omega) (by omega)
 have e:((i:Int)+w).toNat=j:=by omega
 rw[e] at t2 t3
 rw[Int.toNat_natCast] at t1 t2 t3
 refine Akm (by rw[hW];exact t1) ?_
 rw[hW,t3]
 unfold uN
 rw[hW,t2]
 exact hK
theorem Ou {p i:Nat} {s:ByteArray} (h:i+1≤s.size) (hK:K (.int .i64 (xH s i (i+1))) (eM p (s.extract (i+1) s.size) false::R)):aA Tryz.prog 327 #[.pointer (some ⟨p,0,none⟩),.int .i64 1] (eM p (s.extract i s.size) false::R) K:=
 MX (by decide) (by omega) h hK
theorem Akd {p i:Nat} {s:ByteArray} (h:i+3≤s.size) (hK:K (.int .i64 (xH s i (i+3))) (eM p (s.extract (i+3) s.size) false::R)):aA Tryz.prog 327 #[.pointer (some ⟨p,0,none⟩),.int .i64 3] (eM p (s.extract i s.size) false::R) K:=
 MX (by decide) (by omega) h hK
theorem KY {p i:Nat} {s:ByteArray} (h:i+4≤s.size) (hK:K (.int .i64 (xH s i (i+4))) (eM p (s.extract (i+4) s.size) false::R)):aA Tryz.prog 327 #[.pointer (some ⟨p,0,none⟩),.int .i64 4] (eM p (s.extract i s.size) false::R) K:=
 MX (by decide) (by omega) h hK
theorem Adf {p i:Nat} {w:Int} {s:ByteArray} (hw:1≤w∧w≤4) (hi:i≤s.size) (h:(s.size:Int)<i+w) (hK:K (.int .i64 0) (eM p (s.extract i s.size) true::R)):aA Tryz.prog 327 #[.pointer (some ⟨p,0,none⟩),.int .i64 w] (eM p (s.extract i s.size) false::R) K:=by
 have hW:uW w=w:=by unfold uW;rw[if_neg (by omega)]
 refine Ahb ?_ hK
 rw[hW]
 exact Ahj (.inr (.inr (by simp;omega)))
theorem Agg {p:Nat} {w:Int} {s:ByteArray} (hK:K (.int .i64 0) (eM p s true::R)):aA Tryz.prog 327 #[.pointer (some ⟨p,0,none⟩),.int .i64 w] (eM p s true::R) K:=
 Ahb (Ahj (.inl rfl)) hK
theorem uI {s:ByteArray} (hK:∀r,K (.pointer (some ⟨r,0,none⟩)) (eM r (s.extract 0 s.size) false::R)):aA Tryz.prog 326 #[.string s] R K:=by
 refine UF s fun r=>?_
 have e:s.extract 0 s.size=s:=by apply ES;simp
 have:=hK r
 rwa[e] at this
def WC (s:ByteArray):Value:=if s.size<9∨2147483647<xH s 5 9 then .tuple #[.agg #[.int .i64 0,.int .i64 0,.int .i64 0,.int .i64 0],.int .i64 (if s.size<9 then 5 else 6)] else .tuple #[.agg #[.int .i64 (xH s 0 3),.int .i64 (xH s 3 4),.int .i64 (xH s 4 5),.int .i64 (xH s 5 9)],.int .i64 0]
attribute [local irreducible] ByteArray.extract xH
theorem Agh {s:ByteArray} (hK:K (WC s) R):aA Tryz.prog 243 #[.string s] R K:=by
 refine aH Tryz.func243 ?_
 rcases(by omega:s.size<3∨s.size=3∨s.size=4∨(5≤s.size∧s.size<9)∨9≤s.size) with h|h|h|h|h
 all_goals
  repeat' (first|refine v75 ?_|refine wr ?_|refine w5 ?_ ?_|((refine bh fun h=>?_) <;> try exact w6 h)|(refine aE fun hA=>?_;subst hA)|intro _|(show aA _ 326 _ _ _;refine CA (h:=uI (fun p=>?_)))|(show aA _ 327 _ _ _;refine CA (h:=Akd (by omega) ?_))|(show aA _ 327 _ _ _;refine CA (h:=Ou (by omega) ?_))|(show aA _ 327 _ _ _;refine CA (h:=KY (by omega) ?_))|(show aA _ 327 _ _ _;refine CA (h:=Adf (by decide) (by omega) (by omega) ?_))|(show aA _ 327 _ _ _;refine CA (h:=Agg ?_))|(show aA _ 328 _ _ _;refine CA (h:=Zr _ _ _ ?_)))
 all_goals first
  |(refine aC ?_;exact aB (kv hK (by unfold WC;rw[if_pos (Or.inl (by omega)),if_pos (by omega)])))
  |(refine aC ?_;exact aB (kv hK (by unfold WC;rw[if_pos (Or.inr (by assumption)),if_neg (by omega)])))
  |(refine aC ?_;exact aB (kv hK (by unfold WC;rw[if_neg (fun h=>h.elim (fun h=>by omega) (fun h=>absurd h (Int.not_lt.2 (by assumption))))])))
end
end Go.Proofs.YtifgibijcmppmaaGreat
section
namespace Go.Proofs.YtifgibijcmppmaaGreat
open Go Go.Proofs Go.Sl
set_option maxRecDepth 100000
set_option maxHeartbeats 40000000
attribute [local irreducible] aM fG cV bP aN aW aA dP dX aV dO pt ro eW star sep bH
variable {R C:List HP} {K:Value→List HP→Prop}
def wA (l t f s:Int):Int:=if l<0∨256<l then 6 else if t<0∨11<t∨s<0 then 1 else if(s=0∧¬(5≤t∧t≤10))∨(0<s∧¬(t≤4∨10≤t)) then 1 else if f≠0∧(f≠1∨1<t) then 1 else if t=5∧(l % 6≠0∨48<l) then 6 else if 0≤FC t∧l≠FC t then 6 else 0
theorem Adb {k:Int} (h0:0≤k) (h1:k≤1) (hK:K (.tuple #[.agg #[.bool false,.bool true,.int .i64 (-1),.int .i64 1],.int .i64 0]) R):aA Tryz.prog 297 #[.int .i64 k] R K:=by
 refine MW ?_
 rcases(by omega:k=0∨k=1) with rfl|rfl <;> exact hK
theorem Afh {k:Int} (h0:2≤k) (h1:k≤11) (hK:K (.tuple #[.agg #[.bool (decide (5≤k) && decide (k≤10)),.bool (decide (k≤4) || decide (10≤k)),.int .i64 (FC k),.int .i64 0],.int .i64 0]) R):aA Tryz.prog 297 #[.int .i64 k] R K:=by
 refine MW ?_
 obtain⟨e1,e2,e3,e4,e5⟩:=Fu k (by omega) h1
 rw[e1,e2,e3,e4,e5,if_neg (by omega)]
 exact hK
theorem Aei {k:Int} (h0:k<0∨11<k) (hK:K (.tuple #[.agg #[.bool false,.bool false,.int .i64 0,.int .i64 0],.int .i64 3]) R):aA Tryz.prog 297 #[.int .i64 k] R K:=by
 refine MW ?_
 have e1:mB k=(false,false,0,0):=by unfold mB;rw[if_pos (by omega)]
 have e2:DX k=3:=by unfold DX;rw[if_pos (by omega)]
 rw[e1,e2]
 exact hK
def Ux (p:Nat) (l t f s:Int):HP:=pt p [.int .i64 l,.int .i64 t,.int .i64 f,.int .i64 s] 158
def Ik (t l long:Int):Bool:=decide ((t=5→(l % 6=0∧l≤48))∧(t≠5→(long<0∨l=long)))
theorem YR {p q:Nat} {l t f s long flags:Int} {z o:Bool} (h0:0≤l) (hK:K (.bool (Ik t l long)) (Ux p l t f s::pt q [.bool z,.bool o,.int .i64 long,.int .i64 flags] 341::R)):
  aA Tryz.prog 329 #[.pointer (some ⟨p,0,none⟩),.pointer (some ⟨q,0,none⟩)] (Ux p l t f s::pt q [.bool z,.bool o,.int .i64 long,.int .i64 flags] 341::R) K:=by
 unfold Ux at *
 refine aH Tryz.func329 ?_
 repeat' (first|refine v27 ?_|refine wr ?_|refine w5 ?_ ?_|((refine bh fun h=>?_) <;> try exact w6 h)|(refine aE fun hA=>?_;subst hA)|intro _)
 all_goals(refine aC ?_;exact aB (kb hK (by unfold Ik;simp only[decide_eq_true_eq] <;> simp <;> omega)))
theorem vC {l t f s:Int} (hf:-9223372036854775808≤f∧f≤9223372036854775807) (hK:K (.int .i64 (wA l t f s)) R):aA Tryz.prog 244 #[.agg #[.int .i64 l,.int .i64 t,.int .i64 f,.int .i64 s]] R K:=by
 have h5:t=5→FC t=-1:=fun h=>by subst h;rfl
 have h1:t≤1→FC t=-1:=fun h=>by unfold FC;rw[if_neg (by omega),if_neg (by omega),if_neg (by omega)]
 have c1:= @YR
 unfold Ux at c1
 rcases(by omega:(t<0∨11<t)∨(0≤t∧t≤1)∨(2≤t∧t≤11)) with h|h|h
 all_goals
  refine aH Tryz.func244 ?_
  repeat' (first|refine Nk ?_|refine wr ?_|refine w5 ?_ ?_|((refine bh fun h=>?_) <;> try exact w6 h)|(refine aE fun hA=>?_;subst hA)|intro _|(show aA _ 297 _ _ _;refine CA (h:=Adb (by omega) (by omega) ?_))|(show aA _ 297 _ _ _;refine CA (h:=Afh (by omega) (by omega) ?_))|(show aA _ 297 _ _ _;refine CA (h:=Aei (by omega) ?_))|(show aA _ 329 _ _ _;refine CA (h:=c1 (by omega) ?_)))
  all_goals(try simp only[Ik,decide_eq_true_eq,decide_eq_false_iff_not] at *)
  all_goals(refine aC ?_;exact aB (ki hK (by unfold wA;(repeat' split) <;> omega)))
end Go.Proofs.YtifgibijcmppmaaGreat
namespace Go.Proofs.YtifgibijcmppmaaGreat
open Go Go.Proofs Go.Sl
set_option maxRecDepth 100000
set_option maxHeartbeats 40000000
attribute [local irreducible] aM fG cV bP aN aW aA dP dX aV dO pt ro eW star sep bH
variable {R C:List HP} {K:Value→List HP→Prop}
def hgE (s:ByteArray):Int:=if s.size<9 then 5 else if 2147483647<xH s 5 9 then 6 else 0
def SP (s:ByteArray) (i j:Nat):Int:=if hgE s=0 then xH s i j else 0
def hgV (s:ByteArray):Value:=.tuple #[.agg #[.int .i64 (SP s 0 3),.int .i64 (SP s 3 4),.int .i64 (SP s 4 5),.int .i64 (SP s 5 9)],.int .i64 (hgE s)]
theorem Ajk (s:ByteArray):WC s=hgV s:=by
 unfold WC hgV SP hgE
 by_cases h:s.size<9
 ·simp[h]
 ·by_cases h2:2147483647<xH s 5 9
  ·simp[h,h2]
  ·simp[h,h2]
theorem ZD {s:ByteArray} (hK:K (.tuple #[.agg #[.int .i64 (SP s 0 3),.int .i64 (SP s 3 4),.int .i64 (SP s 4 5),.int .i64 (SP s 5 9)],.int .i64 (hgE s)]) R):aA Tryz.prog 243 #[.string s] R K:=Agh (by rw[Ajk];exact hK)
def BO (l t f s:Int):ByteArray:=rB l 3++rB t 1++rB f 1++rB s 4
theorem K0 {l t f s:Int} (h:hOk l t f s=true):(BO l t f s).data.toList=wB l 3++wB t 1++wB f 1++wB s 4:=by
 unfold hOk at h
 simp only[Bool.and_eq_true,decide_eq_true_eq] at h
 unfold BO rB
 rw[if_neg (by omega),if_neg (by omega),if_neg (by omega),if_neg (by omega)]
 simp
theorem Q5:(256:Int) ^ (1:Nat)=256∧(256:Int) ^ (3:Nat)=16777216∧(256:Int) ^ (4:Nat)=4294967296:=by decide
theorem Co {n w:Int} (hw:0<w∧w≤4):(iG n w=0↔(0≤n∧n<256 ^ w.toNat)):=by
 constructor
 ·intro h;exact Ae2 h hw.1
 ·intro h
  unfold iG
  have e:(2:Int) ^ (8 * w).toNat=256 ^ w.toNat:=by
   have:(8 * w).toNat=8 * w.toNat:=by omega
   rw[this,Int.pow_mul];rfl
  rw[e,Int.ediv_eq_zero_of_lt h.1 h.2,if_neg (by omega),if_neg (by omega)]
theorem NO {l t f s:Int}:(hOk l t f s=true→JL l t f s=BO l t f s∧JW l t f s=0)∧(hOk l t f s=false→JL l t f s=⟨#[]⟩∧JW l t f s=2):=by
 obtain⟨p1,p3,p4⟩:=Q5
 have m1:=Co (n:=l) (w:=3) (by decide)
 have m2:=Co (n:=t) (w:=1) (by decide)
 have m3:=Co (n:=f) (w:=1) (by decide)
 have m4:=Co (n:=s) (w:=4) (by decide)
 rw[show(3:Int).toNat=3 from rfl,p3] at m1
 rw[show(1:Int).toNat=1 from rfl,p1] at m2 m3
 rw[show(4:Int).toNat=4 from rfl,p4] at m4
 have hf:d9 (XS l t f s)=0↔(iG l 3=0∧iG t 1=0∧iG f 1=0∧iG s 4=0):=by
  unfold XS
  simp only[d9]
  by_cases h1:iG l 3=0 <;> by_cases h2:iG t 1=0 <;> by_cases h3:iG f 1=0 <;> by_cases h4:iG s 4=0 <;> simp[h1,h2,h3,h4]
 constructor
 ·intro h
  have hl:=K0 h
  unfold hOk at h
  simp only[Bool.and_eq_true,decide_eq_true_eq] at h
  have hz:d9 (XS l t f s)=0:=hf.2 ⟨m1.2 (by omega),m2.2 (by omega),m3.2 (by omega),m4.2 (by omega)⟩
  have he:wI (XS l t f s)=0:=by
   unfold wI
   rw[if_pos hz,if_neg]
   have:I9 (XS l t f s) 0=9:=by
    unfold XS
    simp[I9,jS] <;> decide
   omega
  unfold JL JW
  rw[if_neg (by omega),if_neg (by omega),if_pos he]
  refine⟨ES ?_,rfl⟩
  rw[hl,(IA he).2.2.2]
  simp[jW,XS,PW]
 ·intro h
  unfold JL JW
  by_cases hs:2147483647<s
  ·rw[if_pos hs,if_pos hs];exact⟨rfl,rfl⟩
  ·rw[if_neg hs,if_neg hs]
   have he:¬wI (XS l t f s)=0:=by
    intro he
    obtain⟨a,b,c,d⟩:=hf.1 (IA he).1
    rw[m1] at a
    rw[m2] at b
    rw[m3] at c
    rw[m4] at d
    unfold hOk at h
    simp at h
    omega
   rw[if_neg he,PR he]
   exact⟨rfl,rfl⟩
theorem Acf {l t f s:Int} (h:hOk l t f s=true) (hK:K (.tuple #[.string (BO l t f s),.int .i64 0]) R):aA Tryz.prog 269 #[.agg #[.int .i64 l,.int .i64 t,.int .i64 f,.int .i64 s]] R K:=by
 refine Af3 ?_
 rw[(NO.1 h).1,(NO.1 h).2]
 exact hK
end Go.Proofs.YtifgibijcmppmaaGreat
end
namespace Go.Proofs.YtifgibijcmppmaaGreat
open Go Go.Proofs Go.Sl
set_option maxRecDepth 100000
set_option maxHeartbeats 40000000
attribute [local irreducible] aM fG cV bP aN aW aA dP dX aV dO pt ro eW star sep bH
section
variable {R C:List HP} {K:Value→List HP→Prop}
structure Pr where
 i:Int
 v:Int
def prD:List Value→Option Pr
 | [.int .i64 i,.int .i64 v]=>some ⟨i,v⟩
 |_=>none
theorem Ait (cs:List Value) (y:Pr) (h:prD cs=some y): [.int .i64 y.i,.int .i64 y.v]=cs:=by
 unfold prD at h
 split at h
 ·cases h;rfl
 ·cases h
def rN:tG Pr:= { enc:=fun p=> [.int .i64 p.i,.int .i64 p.v],sz:=2,dec:=prD,len:=fun _=>rfl,one:=fun _=>rfl,ok:=Ait }
structure Fm where
 t:Int
 st:Int
 e:Bool
 d:ByteArray
 k:Int
 on:Int
 w:Int
 x:Bool
 c:Int
 la:Int
 n:Int
 pa:Option Addr
 pn:Nat
 pc:Nat
 ps:List Pr
theorem zH {n l h:Int} (hK:K (.bool (decide (l≤n) && decide (n≤h))) R):aA Tryz.prog 298 #[.int .i64 n,.int .i64 l,.int .i64 h] R K:=by
 refine aH Tryz.func298 ?_
 repeat' (first|refine v1 ?_|refine wr ?_|refine w5 ?_ ?_|((refine bh fun h=>?_) <;> try exact w6 h)|(refine aE fun hA=>?_;subst hA)|intro _)
 all_goals(refine aC ?_;exact aB (kb hK (by simp <;> omega)))
def HM (n:Int):Bool:=decide (0≤n) && decide (n≤2147483647)
theorem mT {n:Int} (hK:K (.bool (HM n)) R):aA Tryz.prog 210 #[.int .i64 n] R K:=by
 refine aH Tryz.func210 ?_
 repeat' (first|refine v0 ?_|refine wr ?_|refine w5 ?_ ?_|((refine bh fun h=>?_) <;> try exact w6 h)|(refine aE fun hA=>?_;subst hA)|intro _|(show aA _ 298 _ _ _;refine CA (h:=zH ?_)))
 (refine aC ?_;exact aB (hK))
def Q3 (on w:Int):Bool:=HM on && (decide (1≤w) && decide (w≤256))
theorem vK (n:Int):HM n=true↔(0≤n∧n≤2147483647):=by unfold HM;simp
theorem UZ {on w:Int} {x:Bool} (hK:K (.bool (Q3 on w)) R):aA Tryz.prog 301 #[.agg #[.int .i64 on,.int .i64 w,.bool x]] R K:=by
 refine aH Tryz.func301 ?_
 repeat' (first|refine v19 ?_|refine wr ?_|refine w5 ?_ ?_|((refine bh fun h=>?_) <;> try exact w6 h)|(refine aE fun hA=>?_;subst hA)|intro _|(show aA _ 298 _ _ _;refine CA (h:=zH ?_))|(show aA _ 210 _ _ _;refine CA (h:=mT ?_)))
 all_goals(refine aC ?_;exact aB (kb hK (by unfold Q3;simp[*])))
def Hm (on w:Int) (x:Bool):Bool:=decide (on=0) && decide (w=0) && !x
def Ng:List Pr→List Pr→Bool
 | [],[]=>true
 |a::l,b::m=>(a.i == b.i && a.v == b.v) && Ng l m
 |_,_=>false
theorem Ol:∀l:List Pr,Ng l l=true
 | []=>rfl
 |a::l=>by simp[Ng,Ol l]
theorem Ub:∀ {l m:List Pr},Ng l m=true→l.length=m.length
 | [],[],_=>rfl
 |a::l,b::m,h=>by
  simp only[Ng,Bool.and_eq_true] at h
  simp[Ub h.2]
 | [],_::_,h=>by cases h
 |_::_,[],h=>by cases h
theorem Afi (l:List Pr):Ng l []=decide (l.length=0):=by cases l <;> simp[Ng]
def i9:List (Nat×Nat):= [(0,0),(1,0),(2,0),(3,0),(4,0),(5,0),(6,0),(7,0),(8,0)]
theorem XZ {A B:Option Addr} {n n' c c':Nat} {xs ys:List Pr} (hv:dL C A rN xs) (hw:dL C B rN ys) (hn:xs.length=n) (hn':ys.length=n') (hn2:n<1000000000000000) (hK:K (.bool (Ng xs ys)) C):aA Tryz.prog 300 #[.slice A n c,.slice B n' c'] C K:=by
 by_cases hnn:n=n'
 ·subst hnn
  refine aH Tryz.func300 ?_
  repeat' (first|refine v29 ?_|refine dw i9 ?_|refine wr ?_|refine w5 ?_ ?_|((refine bh fun h=>?_) <;> try exact w6 h)|(refine aE fun hA=>?_;subst hA)|intro _)
  refine iL (fun m a C'=>∃j:Nat,j+m=n∧C'=C∧Ng xs ys=Ng (xs.drop j) (ys.drop j)∧dC a [(0,.slice A n c),(1,.slice B n c'),(12,.int .i64 n),(13,.int .i64 j)]) n (cC n ⟨0,by omega,rfl,rfl,rfl,rfl,rfl,rfl,trivial⟩) ?_
  rintro n1 a C' ⟨j,hj,rfl,hp,ha⟩
  refine gV _ ha ?_
  simp only[fN]
  by_cases hlt:j<n
  ·obtain⟨x,hx,hd⟩:=iS (l:=xs) (j:=j) (by omega)
   obtain⟨y,hy,hd'⟩:=iS (l:=ys) (j:=j) (by omega)
   rw[hd,hd',Ng] at hp
   by_cases hxy:x.i=y.i∧x.v=y.v
   ·have e1:(x.i == y.i)=true:=by simpa using hxy.1
    have e2:(x.v == y.v)=true:=by simpa using hxy.2
    rw[e1,e2,Bool.and_self,Bool.true_and] at hp
    repeat' (first|refine v29 ?_|refine dw i9 ?_|refine wr ?_|refine w5 ?_ ?_|((refine bh fun h=>?_) <;> try exact w6 h)|(refine aE fun hA=>?_;subst hA)|intro _)
    exact cC (n1 - 1) ⟨j+1,by omega,rfl,hp,rfl,rfl,rfl,rfl,trivial⟩
   ·have e1:(x.i == y.i && x.v == y.v)=false:=by
     rw[Bool.and_eq_false_iff];simp;omega
    rw[e1,Bool.false_and] at hp
    rw[hp] at hK
    repeat' (first|refine v29 ?_|refine dw i9 ?_|refine wr ?_|refine w5 ?_ ?_|((refine bh fun h=>?_) <;> try exact w6 h)|(refine aE fun hA=>?_;subst hA)|intro _)
    (refine aC ?_;exact aB (hK))
  ·obtain rfl:j=n:=by omega
   rw[List.drop_eq_nil_of_le (by omega),List.drop_eq_nil_of_le (by omega),Ng] at hp
   rw[hp] at hK
   repeat' (first|refine v29 ?_|refine dw i9 ?_|refine wr ?_|refine w5 ?_ ?_|((refine bh fun h=>?_) <;> try exact w6 h)|(refine aE fun hA=>?_;subst hA)|intro _)
   (refine aC ?_;exact aB (hK))
 ·have e:Ng xs ys=false:=by
   cases h:Ng xs ys
   ·rfl
   ·have:=Ub h;omega
  rw[e] at hK
  refine aH Tryz.func300 ?_
  repeat' (first|refine v29 ?_|refine dw i9 ?_|refine wr ?_|refine w5 ?_ ?_|((refine bh fun h=>?_) <;> try exact w6 h)|(refine aE fun hA=>?_;subst hA)|intro _)
  all_goals(refine aC ?_;exact aB (hK))
end
section
variable {R C:List HP} {K:Value→List HP→Prop}
def oE (t:Int) (e:Bool):Bool:=if t=0∨t=1 then e else false
def oD (t:Int) (d:ByteArray):ByteArray:=if t=0∨t=1∨t=7∨t=8 then d else⟨#[]⟩
def oK (t k:Int):Int:=if t=2 then k else 0
def oO (t on:Int):Int:=if t=2∨t=3 then on else 0
def oX (t:Int) (x:Bool):Bool:=if t=2∨t=3 then x else false
def oC (t c:Int):Int:=if t=4∨t=9 then c else 0
def oL (t l:Int):Int:=if t=9 then l else 0
def oN (t n:Int):Int:=if t=10∨t=11 then n else 0
def oPa (t:Int) (p:Option Addr):Option Addr:=if t=5 then p else none
def oPn (t:Int) (n:Nat):Nat:=if t=5 then n else 0
def oPs (t:Int) (l:List Pr):List Pr:=if t=5 then l else []
def xB:List (Nat×Nat):= [(0,0),(1,0),(4,0),(5,1),(2,1),(3,1),(6,0),(7,1)]
def xE:List (Nat×Nat):= [(0,0),(1,0),(4,0),(5,1),(2,1),(3,1),(6,0),(7,1)]
def vA:List (Nat×Nat):= [(0,0),(1,0),(4,0),(5,1),(2,1),(3,1),(6,0),(7,1)]
theorem MQ {t st:Int} {e:Bool} {d:ByteArray} {k on w:Int} {x:Bool} {c la n:Int} {pa:Option Addr} {pn pc:Nat} (hK:K (.agg #[.int .i64 t,.int .i64 st,.bool (oE t e),.string (oD t d),.int .i64 (oK t k),.int .i64 (oO t on),.int .i64 (oO t w),.bool (oX t x),.int .i64 (oC t c),.int .i64 (oL t la),.int .i64 (oN t n),.slice (oPa t pa) (oPn t pn) (oPn t pc)]) R):aA Tryz.prog 212 #[.agg #[.int .i64 t,.int .i64 st,.bool e,.string d,.int .i64 k,.int .i64 on,.int .i64 w,.bool x,.int .i64 c,.int .i64 la,.int .i64 n,.slice pa pn pc]] R K:=by
 rcases(by omega:(t<0∨11<t∨t=6)∨t=0∨t=1∨t=2∨t=3∨t=4∨t=5∨t=7∨t=8∨t=9∨t=10∨t=11) with h|h|h|h|h|h|h|h|h|h|h|h
 ·have q0:¬t=0:=by omega
  have q1:¬t=1:=by omega
  have q2:¬t=2:=by omega
  have q3:¬t=3:=by omega
  have q4:¬t=4:=by omega
  have q5:¬t=5:=by omega
  have q7:¬t=7:=by omega
  have q8:¬t=8:=by omega
  have q9:¬t=9:=by omega
  have q10:¬t=10:=by omega
  have q11:¬t=11:=by omega
  simp only[oE,oD,oK,oO,oX,oC,oL,oN,oPa,oPn,q0,q1,q2,q3,q4,q5,q7,q8,q9,q10,q11,or_self,if_false] at hK
  refine aH Tryz.func212 ?_
  repeat' (first|refine Jc ?_|refine dw xB ?_|refine dw xE ?_|refine dw vA ?_|refine wr ?_|refine w5 ?_ ?_|((refine bh fun h=>?_) <;> try exact w6 h)|(refine aE fun hA=>?_;subst hA)|intro _)
  all_goals(refine aC ?_;exact aB (hK))
 all_goals
  subst h
  simp[oE,oD,oK,oO,oX,oC,oL,oN,oPa,oPn] at hK
  refine aH Tryz.func212 ?_
  repeat' (first|refine Jc ?_|refine dw xB ?_|refine dw xE ?_|refine dw vA ?_|refine wr ?_|refine w5 ?_ ?_|((refine bh fun h=>?_) <;> try exact w6 h)|(refine aE fun hA=>?_;subst hA)|intro _)
  all_goals(refine aC ?_;exact aB (hK))
def Rq (l:List Pr):Bool:=l.all fun p=>decide (0≤p.i) && decide (p.i≤65535) && HM p.v
def xS (t:Int) (d:ByteArray) (k on w c la n:Int) (ps:List Pr):Bool:=if t=0∨t=1 then decide (d.size≤256) else if t=2 then(decide (k=1) || decide (k=2)) && Q3 on w else if t=3 then Q3 on w else if t=7∨t=8 then decide (d.size=8) else if t=5 then Rq ps && decide (ps.length≤8) else HM c && HM la && HM n
theorem Ky {t st:Int} {e:Bool} {d:ByteArray} {k on w:Int} {x:Bool} {c la n:Int} {pa:Option Addr} {pn pc:Nat} {ps:List Pr} (hv:dL C pa rN ps) (hn:ps.length=pn) (hn2:pn<1000000000000000) (hK:K (.bool (xS t d k on w c la n ps)) C):aA Tryz.prog 213 #[.agg #[.int .i64 t,.int .i64 st,.bool e,.string d,.int .i64 k,.int .i64 on,.int .i64 w,.bool x,.int .i64 c,.int .i64 la,.int .i64 n,.slice pa pn pc]] C K:=by
 subst hn
 by_cases h5:t=5
 ·subst h5
  simp[xS] at hK
  refine aH Tryz.func213 ?_
  repeat' (first|refine I6 ?_|refine wr ?_|refine w5 ?_ ?_|((refine bh fun h=>?_) <;> try exact w6 h)|(refine aE fun hA=>?_;subst hA)|intro _)
  rename_i r
  have hv2:dL (pt r [.int .i64 5,.int .i64 st,.bool e,.string d,.int .i64 k,.int .i64 on,.int .i64 w,.bool x,.int .i64 c,.int .i64 la,.int .i64 n,.slice pa ps.length pc] 45::C) pa rN ps:=bI hv
  refine iL (fun m a C'=>∃j:Nat,j+m=ps.length∧C'=pt r [.int .i64 5,.int .i64 st,.bool e,.string d,.int .i64 k,.int .i64 on,.int .i64 w,.bool x,.int .i64 c,.int .i64 la,.int .i64 n,.slice pa ps.length pc] 45::C∧Rq ps=Rq (ps.drop j)∧dC a [(1,.pointer (some ⟨r,0,none⟩)),(44,.slice pa ps.length pc),(45,.int .i64 ps.length),(46,.int .i64 j)]) ps.length (cC ps.length ⟨0,by omega,rfl,rfl,rfl,rfl,rfl,rfl,trivial⟩) ?_
  rintro n1 a C' ⟨j,hj,rfl,hp,ha⟩
  refine gV _ ha ?_
  simp only[fN]
  by_cases hlt:j<ps.length
  ·obtain⟨y,hy,hd⟩:=iS (l:=ps) (j:=j) (by omega)
   rw[hd] at hp
   simp only[Rq,List.all_cons] at hp
   by_cases hok:(decide (0≤y.i) && decide (y.i≤65535) && HM y.v)=true
   ·rw[hok,Bool.true_and] at hp
    simp only[Bool.and_eq_true,decide_eq_true_eq] at hok
    obtain⟨⟨o1,o2⟩,o3⟩:=hok
    repeat' (first|refine I6 ?_|refine wr ?_|refine w5 ?_ ?_|((refine bh fun h=>?_) <;> try exact w6 h)|(refine aE fun hA=>?_;subst hA)|intro _|(show aA _ 298 _ _ _;refine CA (h:=zH ?_))|(show aA _ 210 _ _ _;refine CA (h:=mT ?_)))
    exact cC (n1 - 1) ⟨j+1,by omega,rfl,hp,rfl,rfl,rfl,rfl,trivial⟩
   ·have hok':(decide (0≤y.i) && decide (y.i≤65535) && HM y.v)=false:=by simpa using hok
    rw[hok',Bool.false_and] at hp
    have hps:Rq ps=false:=hp
    rw[hps,Bool.false_and] at hK
    have h3:(y.i<0∨65535<y.i)∨HM y.v=false:=by
     simp only[Bool.and_eq_false_iff,decide_eq_false_iff_not] at hok'
     rcases hok' with(h|h)|h
     ·exact .inl (.inl (by omega))
     ·exact .inl (.inr (by omega))
     ·exact .inr h
    rcases h3 with h3|h3
    ·repeat' (first|refine I6 ?_|refine wr ?_|refine w5 ?_ ?_|((refine bh fun h=>?_) <;> try exact w6 h)|(refine aE fun hA=>?_;subst hA)|intro _|(show aA _ 298 _ _ _;refine CA (h:=zH ?_))|(show aA _ 210 _ _ _;refine CA (h:=mT ?_)))
     all_goals(refine aC ?_;exact aB (hK))
    ·repeat' (first|refine I6 ?_|refine wr ?_|refine w5 ?_ ?_|((refine bh fun h=>?_) <;> try exact w6 h)|(refine aE fun hA=>?_;subst hA)|intro _|(show aA _ 298 _ _ _;refine CA (h:=zH ?_))|(show aA _ 210 _ _ _;refine CA (h:=mT ?_)))
     all_goals(refine aC ?_;exact aB (hK))
  ·obtain rfl:j=ps.length:=by omega
   rw[List.drop_eq_nil_of_le (by omega)] at hp
   have hps:Rq ps=true:=hp
   rw[hps,Bool.true_and] at hK
   repeat' (first|refine I6 ?_|refine wr ?_|refine w5 ?_ ?_|((refine bh fun h=>?_) <;> try exact w6 h)|(refine aE fun hA=>?_;subst hA)|intro _)
   (refine aC ?_;exact aB (kb hK (by simp <;> omega)))
 ·rcases(by omega:(t<0∨11<t∨t=6∨t=4∨t=9∨t=10∨t=11)∨t=0∨t=1∨t=2∨t=3∨t=7∨t=8) with h|h|h|h|h|h|h
  ·have q0:¬t=0:=by omega
   have q1:¬t=1:=by omega
   have q2:¬t=2:=by omega
   have q3:¬t=3:=by omega
   have q7:¬t=7:=by omega
   have q8:¬t=8:=by omega
   simp only[xS,q0,q1,q2,q3,h5,q7,q8,or_self,if_false] at hK
   refine aH Tryz.func213 ?_
   repeat' (first|refine I6 ?_|refine wr ?_|refine w5 ?_ ?_|((refine bh fun h=>?_) <;> try exact w6 h)|(refine aE fun hA=>?_;subst hA)|intro _|(show aA _ 210 _ _ _;refine CA (h:=mT ?_))|(show aA _ 301 _ _ _;refine CA (h:=UZ ?_)))
   all_goals(refine aC ?_;exact aB (kb hK (by simp[*])))
  all_goals
   subst h
   simp[xS] at hK
   refine aH Tryz.func213 ?_
   repeat' (first|refine I6 ?_|refine wr ?_|refine w5 ?_ ?_|((refine bh fun h=>?_) <;> try exact w6 h)|(refine aE fun hA=>?_;subst hA)|intro _|(show aA _ 210 _ _ _;refine CA (h:=mT ?_))|(show aA _ 301 _ _ _;refine CA (h:=UZ ?_)))
   all_goals(refine aC ?_;exact aB (kb hK (by simp[*] <;> omega)))
end
section
variable {R C:List HP} {K:Value→List HP→Prop}
theorem QH {s t:ByteArray}:s.toList=t.toList↔s=t:=by
 constructor
 ·intro h;rw[Fv,Fv] at h;exact ES h
 ·rintro rfl;rfl
theorem Aar {t st:Int} {e:Bool} {d:ByteArray} {k on w:Int} {x:Bool} {c la n:Int} {pa:Option Addr} {pn pc:Nat} (hK:K (.agg #[.int .i64 t,.int .i64 st,.bool e,.string d,.int .i64 k,.int .i64 on,.int .i64 w,.bool x,.int .i64 c,.int .i64 la,.int .i64 n]) R):aA Tryz.prog 299 #[.agg #[.int .i64 t,.int .i64 st,.bool e,.string d,.int .i64 k,.int .i64 on,.int .i64 w,.bool x,.int .i64 c,.int .i64 la,.int .i64 n,.slice pa pn pc]] R K:=by
 refine aH Tryz.func299 ?_
 repeat' (first|refine v61 ?_|refine wr ?_|refine w5 ?_ ?_|((refine bh fun h=>?_) <;> try exact w6 h)|(refine aE fun hA=>?_;subst hA)|intro _)
 (refine aC ?_;exact aB (hK))
def FL (t st:Int) (e:Bool) (d:ByteArray) (k on w:Int) (x:Bool) (c la n t1 st1:Int) (e1:Bool) (d1:ByteArray) (k1 on1 w1:Int) (x1:Bool) (c1 la1 n1:Int):Prop:=t=t1∧st=st1∧e=e1∧d=d1∧k=k1∧on=on1∧w=w1∧x=x1∧c=c1∧la=la1∧n=n1
instance (t st:Int) (e:Bool) (d:ByteArray) (k on w:Int) (x:Bool) (c la n t1 st1:Int) (e1:Bool) (d1:ByteArray) (k1 on1 w1:Int) (x1:Bool) (c1 la1 n1:Int):Decidable (FL t st e d k on w x c la n t1 st1 e1 d1 k1 on1 w1 x1 c1 la1 n1):=by unfold FL;infer_instance
def CU:List (Nat×Nat):= [(0,0),(1,1),(2,1),(3,1),(4,0),(5,0),(6,0),(7,0),(8,0),(9,0),(10,1),(11,0),(12,0)]
theorem Gx {t st:Int} {e:Bool} {d:ByteArray} {k on w:Int} {x:Bool} {c la n:Int} {pa:Option Addr} {pn pc:Nat} {t1 st1:Int} {e1:Bool} {d1:ByteArray} {k1 on1 w1:Int} {x1:Bool} {c1 la1 n1:Int} {S5:Option Addr} {pn1 pc1:Nat} {ps ps1:List Pr} (hv:dL C pa rN ps) (hw:dL C S5 rN ps1) (hn:ps.length=pn) (hn':ps1.length=pn1) (hn2:pn<1000000000000000)
  (hK:K (.bool (decide (FL t st e d k on w x c la n t1 st1 e1 d1 k1 on1 w1 x1 c1 la1 n1) && Ng ps ps1)) C):aA Tryz.prog 211 #[.agg #[.int .i64 t,.int .i64 st,.bool e,.string d,.int .i64 k,.int .i64 on,.int .i64 w,.bool x,.int .i64 c,.int .i64 la,.int .i64 n,.slice pa pn pc],.agg #[.int .i64 t1,.int .i64 st1,.bool e1,.string d1,.int .i64 k1,.int .i64 on1,.int .i64 w1,.bool x1,.int .i64 c1,.int .i64 la1,.int .i64 n1,.slice S5 pn1 pc1]] C K:=by
 refine aH Tryz.func211 ?_
 repeat' (first|refine v44 ?_|refine dw CU ?_|refine wr ?_|refine w5 ?_ ?_|((refine bh fun h=>?_) <;> try exact w6 h)|(refine aE fun hA=>?_;subst hA)|intro _|(show aA _ 299 _ _ _;refine CA (h:=Aar ?_))|(show aA _ 300 _ _ _;refine CA (h:=XZ (xs:=ps) (ys:=ps1) (by exact jY) (by exact jY) hn hn' hn2 ?_)))
 ·rename_i h
  have hd:decide (FL t st e d k on w x c la n t1 st1 e1 d1 k1 on1 w1 x1 c1 la1 n1)=true:=decide_eq_true (by obtain⟨a1,a2,a3,a4,a5,⟨a6,a7,a8⟩,a9,a10,a11⟩:=h;exact⟨a1,a2,a3,QH.1 a4,a5,a6,a7,a8,a9,a10,a11⟩)
  rw[hd,Bool.true_and] at hK
  (refine aC ?_;exact aB (hK))
 ·rename_i h
  have hd:decide (FL t st e d k on w x c la n t1 st1 e1 d1 k1 on1 w1 x1 c1 la1 n1)=false:=decide_eq_false (by
   rintro⟨a1,a2,a3,a4,a5,a6,a7,a8,a9,a10,a11⟩
   rw[← QH] at a4
   rcases h with h|h|h|h|h|(h|h|h)|h|h|h <;> exact h (by assumption))
  rw[hd,Bool.false_and] at hK
  (refine aC ?_;exact aB (hK))
def x4 (t st:Int):Bool:=HM st && ((decide (st=0) && (decide (5≤t) && decide (t≤10))) || (decide (0<st) && (decide (t≤4) || decide (10≤t))))
def uP (t st:Int) (e:Bool) (d:ByteArray) (k on w:Int) (x:Bool) (c la n:Int) (ps:List Pr):Bool:=decide (0≤t) && decide (t≤11) && x4 t st && (decide (FL t st e d k on w x c la n t st (oE t e) (oD t d) (oK t k) (oO t on) (oO t w) (oX t x) (oC t c) (oL t la) (oN t n)) && Ng ps (oPs t ps)) && xS t d k on w c la n ps
def M6 (t st:Int) (e:Bool) (d:ByteArray) (k on w:Int) (x:Bool) (c la n:Int) (ps:List Pr):Int:=if uP t st e d k on w x c la n ps=true then 0 else 2
theorem tW {k:Int} (h0:0≤k) (h1:k≤11) (hK:K (.tuple #[.bool (decide (5≤k) && decide (k≤10)),.bool (decide (k≤4) || decide (10≤k)),.int .i64 0]) R):aA Tryz.prog 209 #[.int .i64 k] R K:=by
 obtain⟨e1,e2,e3,e4,e5⟩:=Fu k h0 h1
 refine Nn ?_
 rw[e1,e2,e4];exact hK
theorem O7 {k:Int} (h0:k<0∨11<k) (hK:K (.tuple #[.bool false,.bool false,.int .i64 3]) R):aA Tryz.prog 209 #[.int .i64 k] R K:=by
 have e1:mB k=(false,false,0,0):=by unfold mB;rw[if_pos (by omega)]
 have e2:DX k=3:=by unfold DX;rw[if_pos (by omega)]
 refine Nn ?_
 rw[e1,e2];exact hK
theorem Rl {C:List HP} {pa:Option Addr} {ps:List Pr} {t:Int} (hv:dL C pa rN ps):dL C (oPa t pa) rN (oPs t ps):=by
 unfold oPa oPs
 split
 ·exact hv
 ·exact eD
theorem Aa3 {ps:List Pr} {t:Int} {pn:Nat} (hn:ps.length=pn):(oPs t ps).length=oPn t pn:=by
 unfold oPn oPs
 split
 ·exact hn
 ·rfl
def fY:List (Nat×Nat):= [(0,0),(1,0),(2,0),(3,0),(4,0),(5,0),(6,0),(8,0),(9,1),(7,1),(10,1),(11,0),(12,0),(13,0),(14,0),(15,1),(16,0),(17,0)]
theorem AI {t st:Int} {e:Bool} {d:ByteArray} {k on w:Int} {x:Bool} {c la n:Int} {pa:Option Addr} {pn pc:Nat} {ps:List Pr} (hv:dL C pa rN ps) (hn:ps.length=pn) (hn2:pn<1000000000000000) (hK:K (.int .i64 (M6 t st e d k on w x c la n ps)) C):aA Tryz.prog 112 #[.agg #[.int .i64 t,.int .i64 st,.bool e,.string d,.int .i64 k,.int .i64 on,.int .i64 w,.bool x,.int .i64 c,.int .i64 la,.int .i64 n,.slice pa pn pc]] C K:=by
 by_cases ht:0≤t∧t≤11
 ·obtain⟨h0,h1⟩:=ht
  have d0:decide (0≤t)=true:=decide_eq_true h0
  have d1:decide (t≤11)=true:=decide_eq_true h1
  unfold M6 uP at hK
  rw[d0,d1,Bool.true_and,Bool.true_and] at hK
  cases hs:x4 t st
  ·rw[hs] at hK
   simp only[Bool.false_and,Bool.false_eq_true,if_false] at hK
   cases h3:HM st
   ·refine aH Tryz.func112 ?_
    repeat' (first|refine Bf ?_|refine dw fY ?_|refine wr ?_|refine w5 ?_ ?_|((refine bh fun h=>?_) <;> try exact w6 h)|(refine aE fun hA=>?_;subst hA)|intro _|(show aA _ 209 _ _ _;refine CA (h:=tW (by assumption) (by assumption) ?_))|(show aA _ 210 _ _ _;refine CA (h:=mT ?_)))
    all_goals(refine aC ?_;exact aB (hK))
   ·have h4:=(vK st).1 h3
    unfold x4 at hs
    rw[h3,Bool.true_and] at hs
    simp only[Bool.and_eq_false_iff,Bool.or_eq_false_iff,decide_eq_false_iff_not] at hs
    refine aH Tryz.func112 ?_
    repeat' (first|refine Bf ?_|refine dw fY ?_|refine wr ?_|refine w5 ?_ ?_|((refine bh fun h=>?_) <;> try exact w6 h)|(refine aE fun hA=>?_;subst hA)|intro _|(show aA _ 209 _ _ _;refine CA (h:=tW (by assumption) (by assumption) ?_))|(show aA _ 210 _ _ _;refine CA (h:=mT ?_)))
    all_goals(refine aC ?_;exact aB (hK))
  ·rw[hs,Bool.true_and] at hK
   have h3:HM st=true:=by unfold x4 at hs;rw[Bool.and_eq_true] at hs;exact hs.1
   have h4:=(vK st).1 h3
   unfold x4 at hs
   rw[h3,Bool.true_and] at hs
   simp only[Bool.and_eq_true,Bool.or_eq_true,decide_eq_true_eq] at hs
   cases hq:(decide (FL t st e d k on w x c la n t st (oE t e) (oD t d) (oK t k) (oO t on) (oO t w) (oX t x) (oC t c) (oL t la) (oN t n)) && Ng ps (oPs t ps))
   ·rw[hq] at hK
    simp only[Bool.false_and,Bool.false_eq_true,if_false] at hK
    refine aH Tryz.func112 ?_
    repeat' (first|refine Bf ?_|refine dw fY ?_|refine wr ?_|refine w5 ?_ ?_|((refine bh fun h=>?_) <;> try exact w6 h)|(refine aE fun hA=>?_;subst hA)|intro _|(show aA _ 209 _ _ _;refine CA (h:=tW (by assumption) (by assumption) ?_))|(show aA _ 210 _ _ _;refine CA (h:=mT ?_))|(show aA _ 212 _ _ _;refine CA (h:=MQ ?_))|(show aA _ 211 _ _ _;refine CA (h:=Gx (ps:=ps) (ps1:=oPs t ps) (bI hv) (Rl (bI hv)) hn (Aa3 hn) hn2 ?_)))
    all_goals(refine aC ?_;exact aB (hK))
   ·rw[hq,Bool.true_and] at hK
    cases hf:xS t d k on w c la n ps
    ·rw[hf] at hK
     simp only[Bool.false_eq_true,if_false] at hK
     refine aH Tryz.func112 ?_
     repeat' (first|refine Bf ?_|refine dw fY ?_|refine wr ?_|refine w5 ?_ ?_|((refine bh fun h=>?_) <;> try exact w6 h)|(refine aE fun hA=>?_;subst hA)|intro _|(show aA _ 209 _ _ _;refine CA (h:=tW (by assumption) (by assumption) ?_))|(show aA _ 210 _ _ _;refine CA (h:=mT ?_))|(show aA _ 212 _ _ _;refine CA (h:=MQ ?_))|(show aA _ 211 _ _ _;refine CA (h:=Gx (ps:=ps) (ps1:=oPs t ps) (bI hv) (Rl (bI hv)) hn (Aa3 hn) hn2 ?_))|(show aA _ 213 _ _ _;refine CA (h:=Ky (ps:=ps) (bI hv) hn hn2 ?_)))
     all_goals(refine aC ?_;exact aB (hK))
    ·rw[hf] at hK
     simp only[if_true] at hK
     refine aH Tryz.func112 ?_
     repeat' (first|refine Bf ?_|refine dw fY ?_|refine wr ?_|refine w5 ?_ ?_|((refine bh fun h=>?_) <;> try exact w6 h)|(refine aE fun hA=>?_;subst hA)|intro _|(show aA _ 209 _ _ _;refine CA (h:=tW (by assumption) (by assumption) ?_))|(show aA _ 210 _ _ _;refine CA (h:=mT ?_))|(show aA _ 212 _ _ _;refine CA (h:=MQ ?_))|(show aA _ 211 _ _ _;refine CA (h:=Gx (ps:=ps) (ps1:=oPs t ps) (bI hv) (Rl (bI hv)) hn (Aa3 hn) hn2 ?_))|(show aA _ 213 _ _ _;refine CA (h:=Ky (ps:=ps) (bI hv) hn hn2 ?_)))
     all_goals(refine aC ?_;exact aB (hK))
 ·have d0:(decide (0≤t) && decide (t≤11))=false:=by rw[Bool.and_eq_false_iff];simp;omega
  unfold M6 uP at hK
  rw[d0] at hK
  simp only[Bool.false_and,Bool.false_eq_true,if_false] at hK
  refine aH Tryz.func112 ?_
  repeat' (first|refine Bf ?_|refine dw fY ?_|refine wr ?_|refine w5 ?_ ?_|((refine bh fun h=>?_) <;> try exact w6 h)|(refine aE fun hA=>?_;subst hA)|intro _|(show aA _ 209 _ _ _;refine CA (h:=O7 (by omega) ?_))|(show aA _ 210 _ _ _;refine CA (h:=mT ?_)))
  all_goals(refine aC ?_;exact aB (hK))
end
end Go.Proofs.YtifgibijcmppmaaGreat
namespace Go.Proofs.YtifgibijcmppmaaGreat
open Go Go.Proofs Go.Sl
set_option maxRecDepth 100000
set_option maxHeartbeats 40000000
attribute [local irreducible] aM fG cV bP aN aW aA dP dX aV dO pt ro eW star sep bH
attribute [local irreducible] mp Ec
section
variable {R C:List HP} {K:Value→List HP→Prop}
def K8:Int→Value:=fun n=>.int .i64 n
def p7 (id:Int) (l:List (KE Int)):Int:=(f6 id l).getD 0
def Lt (n:Int):Int:=max (min n 1024) (-1024)
def Il (id n:Int) (ck:Nat) (l:List (KE Int)):List (KE Int):=if n=0 then mD id l else s8 id (Lt n) ck l
def U2 (id n:Int) (ck:Nat) (l:List (KE Int)):Nat:=if n=0 then ck else kCk id ck l
def fF (n:Int):Int:=if n≤16 then 1 else(n - 1) / 16+1
theorem Agd {id:Int} {l:List (KE Int)}:GM false (.int .i64 0) (iT id (kM K8 l) 0)=.int .i64 (p7 id l):=by
 rw[Tn]
 unfold p7
 cases f6 id l <;> rfl
section
variable {p q ck:Nat} {id n k:Int} {l:List (KE Int)}
theorem Abh (hK:∀p q,K (.pointer (some ⟨p,0,none⟩)) (pt p [.map (some q)] 211::mp q (kM K8 []) 0::R)):aA Tryz.prog 45 #[] R K:=by
 refine aH Tryz.func45 ?_
 repeat' (first|refine v6 ?_|refine wr ?_|refine w5 ?_ ?_|((refine bh fun h=>?_) <;> try exact w6 h)|(refine aE fun hA=>?_;subst hA)|intro _|(show aM _ _ _ _ _ _ _;refine EJ ?_;intro _))
 all_goals(refine aC ?_;exact aB (hK _ _))
theorem A6 (h:0≤n∧n≤100000000) (hK:K (.int .i64 (fF n)) R):aA Tryz.prog 196 #[.int .i64 n] R K:=by
 by_cases h1:n≤16
 ·simp only[fF,if_pos h1] at hK
  refine aH Tryz.func196 ?_
  repeat' (first|refine v24 ?_|refine wr ?_|refine w5 ?_ ?_|((refine bh fun h=>?_) <;> try exact w6 h)|(refine aE fun hA=>?_;subst hA)|intro _)
  all_goals(refine aC ?_;exact aB (hK))
 ·simp only[fF,if_neg h1] at hK
  refine aH Tryz.func196 ?_
  repeat' (first|refine v24 ?_|refine wr ?_|refine w5 ?_ ?_|((refine bh fun h=>?_) <;> try exact w6 h)|(refine aE fun hA=>?_;subst hA)|intro _)
  all_goals(refine aC ?_;exact aB (hK))
theorem pS (hK:K (.int .i64 (p7 id l)) (pt p [.map (some q)] 211::mp q (kM K8 l) ck::R)):aA Tryz.prog 286 #[.pointer (some ⟨p,0,none⟩),.int .i64 id] (pt p [.map (some q)] 211::mp q (kM K8 l) ck::R) K:=by
 refine aH Tryz.func286 ?_
 repeat' (first|refine v4 ?_|refine wr ?_|refine w5 ?_ ?_|((refine bh fun h=>?_) <;> try exact w6 h)|(refine aE fun hA=>?_;subst hA)|intro _|(show aM _ _ _ _ _ _ _;refine iY ?_ (hv:=Agd)))
 all_goals(refine aC ?_;exact aB (hK))
theorem Ix (hK:K (.tuple #[]) (pt p [.map (some q)] 211::mp q (kM K8 (Il id n ck l)) (U2 id n ck l)::R)):aA Tryz.prog 287 #[.pointer (some ⟨p,0,none⟩),.int .i64 id,.int .i64 n] (pt p [.map (some q)] 211::mp q (kM K8 l) ck::R) K:=by
 by_cases h:n=0
 ·subst h
  simp only[Il,U2,if_true] at hK
  refine aH Tryz.func287 ?_
  repeat' (first|refine v39 ?_|refine wr ?_|refine w5 ?_ ?_|((refine bh fun h=>?_) <;> try exact w6 h)|(refine aE fun hA=>?_;subst hA)|intro _|(show aM _ _ _ _ _ _ _;first|refine G_delete ?_ (hv:=XN)|refine JB ?_ (hv:=XN)))
  all_goals(refine aC ?_;exact aB (hK))
 ·simp only[Il,U2,if_neg h] at hK
  refine aH Tryz.func287 ?_
  repeat' (first|refine v39 ?_|refine wr ?_|refine w5 ?_ ?_|((refine bh fun h=>?_) <;> try exact w6 h)|(refine aE fun hA=>?_;subst hA)|intro _|(show aM _ _ _ _ _ _ _;refine j2 ?_ (hv:=O1 (v:=Lt n)) (hu:=by exact rfl)))
  all_goals(refine aC ?_;exact aB (hK))
theorem vM (hk:1≤k∧k≤1024) (hb:-10000≤p7 id l∧p7 id l≤10000) (hK:K (.int .i64 0) (pt p [.map (some q)] 211::mp q (kM K8 (Il id (p7 id l - k) ck l)) (U2 id (p7 id l - k) ck l)::R)):aA Tryz.prog 195 #[.pointer (some ⟨p,0,none⟩),.int .i64 id,.int .i64 k] (pt p [.map (some q)] 211::mp q (kM K8 l) ck::R) K:=by
 refine aH Tryz.func195 ?_
 repeat' (first|refine v15 ?_|refine wr ?_|refine w5 ?_ ?_|((refine bh fun h=>?_) <;> try exact w6 h)|(refine aE fun hA=>?_;subst hA)|intro _|(show aA _ 286 _ _ _;refine CA (h:=pS ?_))|(show aA _ 287 _ _ _;refine CA (h:=Ix ?_)))
 all_goals(refine aC ?_;exact aB (hK))
theorem PL (hK:K (.bool (p7 id l != 0)) (pt p [.map (some q)] 211::mp q (kM K8 (if p7 id l=0 then l else mD id l)) ck::R)):aA Tryz.prog 315 #[.pointer (some ⟨p,0,none⟩),.int .i64 id] (pt p [.map (some q)] 211::mp q (kM K8 l) ck::R) K:=by
 by_cases h:p7 id l=0
 ·simp only[h,if_true] at hK
  refine aH Tryz.func315 ?_
  repeat' (first|refine v2 ?_|refine wr ?_|refine w5 ?_ ?_|((refine bh fun h=>?_) <;> try exact w6 h)|(refine aE fun hA=>?_;subst hA)|intro _|(show aA _ 286 _ _ _;refine CA (h:=pS ?_);rw[h]))
  all_goals(refine aC ?_;exact aB (hK))
 ·simp only[if_neg h] at hK
  have hb:(p7 id l != 0)=true:=by simpa using h
  refine aH Tryz.func315 ?_
  repeat' (first|(show Br _ _ _;refine Br.t hb ?_)|refine v2 ?_|refine wr ?_|refine w5 ?_ ?_|((refine bh fun h=>?_) <;> try exact w6 h)|(refine aE fun hA=>?_;subst hA)|intro _|(show aA _ 286 _ _ _;refine CA (h:=pS ?_))|(show aA _ 287 _ _ _;refine CA (h:=Ix ?_);simp only[Il,U2,if_true]))
  all_goals(refine aC ?_;exact aB (hK))
end
end
end Go.Proofs.YtifgibijcmppmaaGreat
