/- A part of the proof: lemmas; each with the conditions that it states. -/
import Derived.Test.YtifgibijcmppmaaGreatUaw
import Derived.Test.YtifgibijcmppmaaGreatUaz
import Derived.Test.YtifgibijcmppmaaGreatUak
set_option linter.unusedVariables false
set_option linter.unusedSimpArgs false
set_option maxRecDepth 100000
set_option maxHeartbeats 40000000
namespace Go.Proofs.YtifgibijcmppmaaGreat
open Go Go.Proofs Go.Sl
attribute [local irreducible] aN fN cX bP aM aX aA dS dV aT dU pt ro eV star sep bH
section
variable {R C:List HP} {K:KP}
structure TA where
 k:Int
 n:Int
 s:ByteArray
end
section
variable {R C:List HP} {K:KP}
section
variable {t x cap:Nat} {st:Int} {bs:List UInt8} {en ou:Bool} {ac se dr w:Int} {k n:Int} {s:ByteArray} {l:List ByteArray}
end
section
variable {A:Option Addr} {n c:Nat} {ls:List TA} {kd st:Int}
end
end
end Go.Proofs.YtifgibijcmppmaaGreat
namespace Go.Proofs.YtifgibijcmppmaaGreat
open Go Go.Proofs Go.Sl
attribute [local irreducible] aN fN cX bP aM aX aA dS dV aT dU pt ro eV star sep bH
attribute [local irreducible] mp ED
section
variable {R C:List HP} {K:KP}
section
theorem YF {α:Type} {xs:List α} {i:Nat} (hi:i<xs.length):xs.take i++(xs.drop (i+1)++xs.drop (i+(xs.drop (i+1)).length))=xs.eraseIdx i++xs.drop (i+(xs.drop (i+1)).length):=by
 rw[List.eraseIdx_eq_take_drop_succ,List.append_assoc]
variable {A:Option Addr} {r c n i:Nat}
def qF:List (Nat×Nat):= [(0,0),(1,0),(2,0),(3,0),(4,0),(5,0),(6,1),(7,0)]
theorem Agc {xs:List iA} (hn:xs.length=n) (hi:i<n) (hs:n≤1000) (hK:∀A' c',K (.slice A' (n - 1) c') (bQ A' c' 329 xO (xs.eraseIdx i)::R)):CT 372 #[.slice A n c,I6 i,I6 ((i:Int)+1)] (bQ A c 329 xO xs::R) K:=by
 refine iK aV.here fun hc=>?_
 subst hn
 refine pS aV.here (by omega) fun B off hA=>?_
 subst hA
 have hdl:(xs.drop (i+1)).length=xs.length - (i+1):=List.length_drop ..
 have hel:(xs.eraseIdx i).length=xs.length - 1:=by rw[List.length_eraseIdx,if_pos hi]
 refine aH Tryz.func372 ?_
 repeat' (first|(show aN _ _ _ _ _ _ _;first|refine d7 (sz:=3) ?_|(refine mZ (sz:=3) ?_;intro A1 hA1))|refine v9 ?_|refine dw qF ?_|refine w5 ?_ ?_|((refine bh fun h=>?_) <;> try exact w6 h)|(refine aE fun hA=>?_;subst hA)|intro _)
 refine Kf (sz:=3) (j:=i) (N:=xs.length - 1) (vs:=xs.drop (i+1)) ?_ (hsrc:=T6 fG hA1 rfl (by omega) (by omega) (by omega) (by omega))
 repeat' (first|(show aN _ _ _ _ _ _ _;refine d7 (sz:=3) ?_)|refine v9 ?_|refine dw qF ?_|refine w5 ?_ ?_|((refine bh fun h=>?_) <;> try exact w6 h)|(refine aE fun hA=>?_;subst hA)|intro _)
 refine Qo (sz:=3) (xs:=xs.eraseIdx i) ?_ (YF hi) (hA:=vH (by rw[hel];omega)) (hk0:=by rw[List.length_drop,hdl];omega)
 repeat' (first|refine v9 ?_|refine dw qF ?_|refine w5 ?_ ?_|((refine bh fun h=>?_) <;> try exact w6 h)|(refine aE fun hA=>?_;subst hA)|intro _)
 all_goals(refine aC ?_;exact aB (hK _ _))
def qO:List (Nat×Nat):= [(0,0),(1,0),(2,0),(3,0),(4,0),(5,0),(6,1),(7,0)]
theorem Ae8 {xs:List jF} (hn:xs.length=n) (hi:i<n) (hs:n≤1000) (hK:∀A' c',K (.slice A' (n - 1) c') (bQ A' c' 255 fD (xs.eraseIdx i)::R)):CT 370 #[.slice A n c,I6 i,I6 ((i:Int)+1)] (bQ A c 255 fD xs::R) K:=by
 refine iK aV.here fun hc=>?_
 subst hn
 refine pS aV.here (by omega) fun B off hA=>?_
 subst hA
 have hdl:(xs.drop (i+1)).length=xs.length - (i+1):=List.length_drop ..
 have hel:(xs.eraseIdx i).length=xs.length - 1:=by rw[List.length_eraseIdx,if_pos hi]
 refine aH Tryz.func370 ?_
 repeat' (first|(show aN _ _ _ _ _ _ _;first|refine d7 (sz:=2) ?_|(refine mZ (sz:=2) ?_;intro A1 hA1))|refine v9 ?_|refine dw qO ?_|refine w5 ?_ ?_|((refine bh fun h=>?_) <;> try exact w6 h)|(refine aE fun hA=>?_;subst hA)|intro _)
 refine Kf (sz:=2) (j:=i) (N:=xs.length - 1) (vs:=xs.drop (i+1)) ?_ (hsrc:=T6 fG hA1 rfl (by omega) (by omega) (by omega) (by omega))
 repeat' (first|(show aN _ _ _ _ _ _ _;refine d7 (sz:=2) ?_)|refine v9 ?_|refine dw qO ?_|refine w5 ?_ ?_|((refine bh fun h=>?_) <;> try exact w6 h)|(refine aE fun hA=>?_;subst hA)|intro _)
 refine Qo (sz:=2) (xs:=xs.eraseIdx i) ?_ (YF hi) (hA:=vH (by rw[hel];omega)) (hk0:=by rw[List.length_drop,hdl];omega)
 repeat' (first|refine v9 ?_|refine dw qO ?_|refine w5 ?_ ?_|((refine bh fun h=>?_) <;> try exact w6 h)|(refine aE fun hA=>?_;subst hA)|intro _)
 all_goals(refine aC ?_;exact aB (hK _ _))
end
end
section
variable {R C:List HP} {K:KP}
structure g8 where
 id:Int
 n:Int
 sp:Int
structure Ld where
 n0:Int
 sp:Int
 l:List g8
def KH (e:iA×Int):g8:=⟨e.1.id,e.2,e.1.sp⟩
def BP (e:iA×Int):HP:=sO e.1.w e.2
def Re (p:Nat) (s:Ld):HP:=eV fun w0=>eV fun A=>eV fun c=>eV fun q:List (iA×Int)=>sep (pt p [PO w0,I6 s.sp,.slice A (q.map Prod.fst).length c] 235) (sep (sO w0 s.n0) (sep (bQ A c 329 xO (q.map Prod.fst)) (sep (eA BP q) (bH (q.map KH=s.l)))))
def R4 (s:Ld):Prop:=s.l.length≤64∧(s.l.Pairwise fun a b=>a.id<b.id)∧(∀e∈s.l,(-2147483648≤e.n∧e.n≤2147483648)∧0≤e.sp∧e.sp≤1000000000000)∧(-2147483648≤s.n0∧s.n0≤2147483648)∧0≤s.sp∧s.sp≤1000000000000
def nV (t:Int) (l:List g8):Nat:=(l.takeWhile fun e=>decide (e.id<t)).length
def o7 (t:Int) (l:List g8):Option g8:=match l[nV t l]? with
 |some e=>if e.id=t then some e else none
 |none=>none
def bD (t:Int) (s:Ld):Int:=match o7 t s.l with
 |some e=>min (max e.n 0) (max s.n0 0)
 |none=>0
def k8 (t n:Int) (s:Ld):Ld:=if t<1∨2147483647<t∨mF n=false∨(o7 t s.l).isSome=true∨64≤s.l.length then s else { s with l:=s.l.take (nV t s.l)++⟨t,n,0⟩::s.l.drop (nV t s.l) }
def nI (t:Int) (s:Ld):Ld:=if(o7 t s.l).isSome=true then { s with l:=s.l.eraseIdx (nV t s.l) } else s
def rH (t k:Int) (s:Ld):Int:=if(o7 t s.l).isSome=false then 7 else if k<0 then 2 else if bD t s<k then 9 else 0
def mC (t k:Int) (s:Ld):Ld:=if rH t k s≠0 then s else match o7 t s.l with
 |some e=> { n0:=s.n0 - k,sp:=s.sp+k,l:=s.l.set (nV t s.l) ⟨e.id,e.n - k,e.sp+k⟩ }
 |none=>s
def s9 (t b:Int) (s:Ld):Int:=if t=0 then qW s.n0 b else match o7 t s.l with
 |some e=>qW e.n b
 |none=>7
def o4 (t b:Int) (s:Ld):Ld:=if t=0 then { s with n0:=lX s.n0 b } else match o7 t s.l with
 |some e=> { s with l:=s.l.set (nV t s.l) ⟨e.id,lX e.n b,e.sp⟩ }
 |none=>s
def yX (a b:Int):List g8→Int
 | []=>0
 |e::r=>if lT e.n a b≠0 then lT e.n a b else yX a b r
def EN (a b:Int) (s:Ld):Int:=if lT 0 a b≠0∧lT 0 a b≠10 then lT 0 a b else yX a b s.l
def sV (a b:Int) (s:Ld):Ld:=if EN a b s≠0 then s else { s with l:=s.l.map fun e=>⟨e.id,Aw e.n a b,e.sp⟩ }
theorem yR {t:Int}:∀q:List (iA×Int),nV t (q.map KH)=zI t (q.map Prod.fst)
 | []=>rfl
 |e::r=>by
  have ih:=yR (t:=t) r
  unfold nV zI at ih ⊢
  rw[List.map_cons,List.map_cons,List.takeWhile_cons,List.takeWhile_cons]
  show(if decide (e.1.id<t)=true then _ else _:List g8).length=_
  split
  ·rw[List.length_cons,List.length_cons,ih]
  ·rfl
theorem xC {t:Int} {q:List (iA×Int)} {e:g8} (h:o7 t (q.map KH)=some e):∃z,q[zI t (q.map Prod.fst)]?=some z∧KH z=e∧z.1.id=t∧Nz t (q.map Prod.fst)=true:=by
 unfold o7 at h
 rw[yR,List.getElem?_map] at h
 cases hz:q[zI t (q.map Prod.fst)]? with
 |none=>rw[hz] at h;cases h
 |some z=>
  rw[hz] at h
  simp only[Option.map_some] at h
  split at h
  ·rename_i he
   cases h
   refine⟨z,rfl,rfl,he,?_⟩
   unfold Nz
   rw[List.getElem?_map,hz]
   exact decide_eq_true he
  ·cases h
theorem Bn {t:Int} {q:List (iA×Int)} (h:o7 t (q.map KH)=none):Nz t (q.map Prod.fst)=false:=by
 unfold o7 at h
 unfold Nz
 rw[yR,List.getElem?_map] at h
 rw[List.getElem?_map]
 cases hz:q[zI t (q.map Prod.fst)]? with
 |none=>rfl
 |some z=>
  rw[hz] at h
  simp only[Option.map_some] at h ⊢
  split at h
  ·cases h
  ·rename_i he
   exact decide_eq_false he
theorem i8 {p w0 c n:Nat} {A:Option Addr} {n0 sp:Int} {q:List (iA×Int)} {ws:List iA} {l:List g8} (h:q.map KH=l) (hw:ws=q.map Prod.fst) (hn:n=ws.length):aG (pt p [PO w0,I6 sp,.slice A n c] 235::sO w0 n0::bQ A c 329 xO ws::eA BP q::R) (Re p ⟨n0,sp,l⟩::R):=by
 subst hn hw
 exact aG.ex w0 (aG.ex A (aG.ex c (aG.ex q (Ly h))))
theorem Bl {f:FuncId} {args:Array Value} {p:Nat} {s:Ld} (h:∀w0 A c (q:List (iA×Int)),q.map KH=s.l→CT f args (pt p [PO w0,I6 s.sp,.slice A (q.map Prod.fst).length c] 235::sO w0 s.n0::bQ A c 329 xO (q.map Prod.fst)::eA BP q::R) K):CT f args (Re p s::R) K:=
 aA.ex fun w0=>aA.ex fun A=>aA.ex fun c=>aA.ex fun q=>aA.ent rX (aA.pure fun hI=>h w0 A c q hI)
theorem Fv {q:List (iA×Int)} {l:List g8} (h:q.map KH=l):(q.map Prod.fst).length=l.length:=by rw[← h];simp
theorem Ja {q:List (iA×Int)} {l:List g8} (h:q.map KH=l) (hp:l.Pairwise fun a b=>a.id<b.id):(q.map Prod.fst).Pairwise fun a b=>a.id<b.id:=by
 rw[← h] at hp
 rw[List.pairwise_map] at hp ⊢
 exact hp
theorem NC {q:List (iA×Int)} {l:List g8} {z:iA×Int} {j:Nat} (h:q.map KH=l) (hz:q[j]?=some z):KH z∈l:=by
 rw[← h]
 exact List.mem_map_of_mem (List.mem_of_getElem? hz)
theorem Nx {X Y Z:HP} {q:List (iA×Int)} {z:iA×Int} {j:Nat} (hz:q[j]?=some z):aG (X::Y::Z::eA BP q::R) (X::Z::Y::sO z.1.w z.2::eA BP (q.eraseIdx j)::R):=
 aG.cons (aG.trans (fun _ h=>bX.swap h) (aG.cons (aG.cons (tN (f:=BP) hz))))
theorem Mm {X Y Z:HP} {q:List (iA×Int)} {z:iA×Int} {j w:Nat} {n:Int} {z':iA} (hz:q[j]?=some z) (hw:z'.w=w):aG (X::Z::Y::sO w n::eA BP (q.eraseIdx j)::R) (X::Y::Z::eA BP (q.set j (z',n))::R):=by
 subst hw
 exact aG.cons (aG.trans (aG.cons (aG.cons (Eh (f:=BP) (b':=(z',n)) hz))) (fun _ h=>bX.swap h))
section
variable {p:Nat} {s:Ld} {t n k b:Int}
theorem tO (hok:R4 s) (hK:K (I6 (bD t s)) (Re p s::R)):CT 184 #[PO p,I6 t] (Re p s::R) K:=by
 refine Bl fun w0 A c q hq=>?_
 obtain⟨h1,h2,h3,h4,h5⟩:=hok
 have hl:=Fv hq
 have hp:=Ja hq h2
 refine aA.entK ?_
 cases ha:o7 t s.l with
 |none=>
  simp only[bD,ha] at hK
  rw[← hq] at ha
  exact CA (h:=Wi (l:=q.map Prod.fst) (by omega) hp (Bn ha) ⟨_,aG.trans (by exact aZ) (i8 hq rfl rfl),hK⟩)
 |some e=>
  simp only[bD,ha] at hK
  rw[← hq] at ha
  obtain⟨z,hz,rfl,hid,hf⟩:=xC ha
  refine aA.ent (Nx hz) (KG (l:=q.map Prod.fst) (e:=z.1) (m:=z.2) (by omega) hp hf (by rw[List.getElem?_map,hz];rfl) ⟨_,aG.trans (Mm (z':=z.1) hz rfl) (i8 (q:=q.set _ (z.1,z.2)) ?_ ?_ rfl),hK⟩)
  ·rw[List.map_set]
   have e:(q.map KH).set (zI t (q.map Prod.fst)) (KH z)=q.map KH:=j9 _ (by rw[List.getElem?_map,hz];rfl)
   exact e.trans hq
  ·rw[List.map_set]
   exact(j9 _ (by rw[List.getElem?_map,hz];rfl)).symm
theorem Bg (hok:R4 s) (hK:K (I6 (s9 t b s)) (Re p (o4 t b s)::R)):CT 258 #[PO p,I6 t,I6 b] (Re p s::R) K:=by
 refine Bl fun w0 A c q hq=>?_
 obtain⟨h1,h2,h3,h4,h5⟩:=hok
 have hl:=Fv hq
 have hp:=Ja hq h2
 refine aA.entK ?_
 by_cases h0:t=0
 ·simp only[s9,o4,if_pos h0] at hK
  subst h0
  exact CA (h:=XA (by omega) ⟨_,aG.trans (by exact aZ) (i8 hq rfl rfl),hK⟩)
 ·simp only[s9,o4,if_neg h0] at hK
  cases ha:o7 t s.l with
  |none=>
   simp only[ha] at hK
   rw[← hq] at ha
   exact CA (h:=Yc (l:=q.map Prod.fst) (by omega) hp h0 (Bn ha) ⟨_,aG.trans (by exact aZ) (i8 hq rfl rfl),hK⟩)
  |some e=>
   simp only[ha] at hK
   rw[← hq] at ha
   obtain⟨z,hz,rfl,hid,hf⟩:=xC ha
   have hzm:=h3 _ (NC hq hz)
   refine aA.ent (Nx hz) (CA (h:=VU (l:=q.map Prod.fst) (e:=z.1) (m:=z.2) (by omega) hp h0 hf (by rw[List.getElem?_map,hz];rfl) (by have:=hzm.1;simp only[KH] at this;omega) ⟨_,aG.trans (by exact aZ) (aG.trans (Mm (z':=z.1) (n:=lX z.2 b) hz rfl) (i8 (q:=q.set (zI t (q.map Prod.fst)) (z.1,lX z.2 b)) (l:=s.l.set (nV t s.l) ⟨z.1.id,lX z.2 b,z.1.sp⟩) ?_ ?_ rfl)),hK⟩))
   ·rw[List.map_set,← hq,yR];rfl
   ·rw[List.map_set]
    exact(j9 _ (by rw[List.getElem?_map,hz];rfl)).symm
theorem Rv (hok:R4 s) (hK:K (I6 (rH t k s)) (Re p (mC t k s)::R)) (hk:rH t k s=0):CT 194 #[PO p,I6 t,I6 k] (Re p s::R) K:=by
 refine Bl fun w0 A c q hq=>?_
 obtain⟨h1,h2,h3,h4,h5⟩:=hok
 have hl:=Fv hq
 have hp:=Ja hq h2
 refine aA.entK ?_
 rw[hk] at hK
 simp only[mC,hk,ne_eq,not_true_eq_false,if_false] at hK
 unfold rH bD at hk
 cases ha:o7 t s.l with
 |none=>rw[ha] at hk;simp at hk
 |some e=>
  simp only[ha] at hK hk
  rw[← hq] at ha
  obtain⟨z,hz,rfl,hid,hf⟩:=xC ha
  have hzm:=h3 _ (NC hq hz)
  simp only[KH] at hzm hk
  have hkk:0≤k∧k≤min (max z.2 0) (max s.n0 0):=by
   by_cases h6:k<0
   ·simp[h6] at hk
   ·by_cases h7:min (max z.2 0) (max s.n0 0)<k
    ·simp[h6,h7] at hk
    ·omega
  refine aA.ent (Nx hz) (CA (h:=XX (l:=q.map Prod.fst) (e:=z.1) (m:=z.2) (by omega) hp hf (by rw[List.getElem?_map,hz];rfl) hkk.1 hkk.2 (by omega) (by omega) (by omega) (by omega) ⟨_,aG.trans (by exact aZ) (aG.trans (Mm (z':=⟨z.1.id,z.1.w,z.1.sp+k⟩) (n:=z.2 - k) hz rfl) (i8 (q:=q.set (zI t (q.map Prod.fst)) (⟨z.1.id,z.1.w,z.1.sp+k⟩,z.2 - k)) (l:=s.l.set (nV t s.l) ⟨z.1.id,z.2 - k,z.1.sp+k⟩) ?_ ?_ ?_)),hK⟩))
  ·rw[List.map_set,← hq,yR];rfl
  ·rw[List.map_set]
  ·simp
theorem Aby (h:0≤n∧n≤2147483647) (hK:∀p,K (.tuple #[PO p,I6 0]) (Re p ⟨n,0,[]⟩::R)):CT 57 #[I6 n] R K:=by
 refine aH Tryz.func57 ?_
 repeat' (first|refine v21 ?_|refine w5 ?_ ?_|((refine bh fun h=>?_) <;> try exact w6 h)|(refine aE fun hA=>?_;subst hA)|intro _|(show aA _ 141 _ _ _;refine CA (h:=zH (by unfold mF;simp;omega) (fun w0=>?_))))
 rename_i r
 all_goals(refine aC ?_;exact aK (aG.trans (by exact aZ) ((aG.trans (aG.trans (aG.nilrow 329 xO _) (aG.trans (Lj (f:=BP)) (by exact aZ))) (i8 (q:= []) (A:=none) (c:=0) (w0:=w0) (p:=r) (sp:=0) (n0:=n) (R:=R) rfl rfl rfl)))) ((hK r)))
end
end
end Go.Proofs.YtifgibijcmppmaaGreat
namespace Go.Proofs.YtifgibijcmppmaaGreat
open Go Go.Proofs Go.Sl
attribute [local irreducible] pF Cg
theorem U7:∀(k:Nat) (a:List UInt8),a.length≤k→DU (kW (pF a).2.1)=some (pF a).2.2∧(pF a).2.1.length≤a.length:=fun k=>by
 induction k with
 |zero=>
  intro a h
  obtain rfl:a= []:=List.length_eq_zero_iff.1 (by omega)
  have hs:DU (kW [])=some 0:=by unfold DU;rw[if_pos (by rw[pD];decide)]
  rw[yG hs]
  exact⟨hs,Nat.le_refl _⟩
 |succ k ih=>
  intro a h
  cases hs:DU (kW a) with
  |some e=>rw[yG hs];exact⟨hs,Nat.le_refl _⟩
  |none=>
   have hd:=xL hs
   obtain⟨i1,i2⟩:=ih (a.drop (9+sL (kW a)).toNat) (by omega)
   rw[GG hs]
   exact⟨i1,by show(pF (a.drop (9+sL (kW a)).toNat)).2.1.length≤a.length;omega⟩
end Go.Proofs.YtifgibijcmppmaaGreat
namespace Go.Proofs.YtifgibijcmppmaaGreat
open Go Go.Proofs Go.Sl
def bq (l:List UInt8):ByteArray:=⟨l.toArray⟩
structure AC where
 kd:Int
 sd:Int
 id:Int
 n:Int
 cd:Int
 s:ByteArray
 on:Int
 ww:Int
 xx:Bool
 xw:Int
 xs:Int
 xi:Int
def isL (c:UInt8):Prop:=c=115∨c=105∨c=110∨c=99∨c=116∨c=111∨c=119∨c=120∨c=112∨c=113∨c=114
instance (c:UInt8):Decidable (isL c):=by unfold isL;infer_instance
end Go.Proofs.YtifgibijcmppmaaGreat
