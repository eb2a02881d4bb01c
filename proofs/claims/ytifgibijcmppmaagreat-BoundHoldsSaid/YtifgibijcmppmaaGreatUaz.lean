/- A part of the proof: lemmas; each with the conditions that it states. -/
import Derived.Test.YtifgibijcmppmaaGreatUau
import Derived.Test.YtifgibijcmppmaaGreatUay
set_option linter.unusedVariables false
set_option linter.unusedSimpArgs false
set_option maxRecDepth 100000
set_option maxHeartbeats 40000000
namespace Go.Proofs.YtifgibijcmppmaaGreat
open Go Go.Proofs Go.Sl
attribute [local irreducible] aN fN cX bP aM aX aA dS dV aT dU pt ro eV star sep bH
attribute [local irreducible] mp ED
section
variable {R C:List HP} {K:KP}
structure jF where
 id:Int
 a:Nat
def Adl:List Value→Option jF
 | [.int .i64 id,.pointer (some ⟨w,0,none⟩)]=>some ⟨id,w⟩
 |_=>none
theorem ZN (cs:List Value) (y:jF) (h:Adl cs=some y): [I6 y.id,PO y.a]=cs:=by
 unfold Adl at h
 split at h
 ·cases h;rfl
 ·cases h
def fD:tJ jF:= { enc:=fun p=> [I6 p.id,PO p.a],sz:=2,dec:=Adl,len:=fun _=>rfl,one:=fun _=>rfl,ok:=ZN }
def FJ {α:Type} (xs:List α) (lo k i p:Nat):Option α:=if lo≤p∧p<lo+k∧(p<lo+i∨lo+k≤p+i) then xs[2 * lo+k - 1 - p]? else xs[p]?
theorem Vq {α:Type} {P M S ys:List α} {i:Nat} (hi:M.length≤2 * i+1) (h:∀p,ys[p]?=FJ (P++(M++S)) P.length M.length i p):ys=P++(M.reverse++S):=by
 apply List.ext_getElem?
 intro p
 rw[h]
 unfold FJ
 by_cases h1:p<P.length
 ·rw[if_neg (by omega),List.getElem?_append_left h1,List.getElem?_append_left h1]
 ·by_cases h2:p<P.length+M.length
  ·have rhs:(P++(M.reverse++S))[p]?=M[M.length - 1 - (p - P.length)]?:=by rw[List.getElem?_append_right (by omega),List.getElem?_append_left (by rw[List.length_reverse];omega),List.getElem?_reverse (by omega)]
   have lhs:∀t,P.length≤t→t<P.length+M.length→(P++(M++S))[t]?=M[t - P.length]?:=fun t h3 h4=>by rw[List.getElem?_append_right h3,List.getElem?_append_left (by omega)]
   rw[rhs]
   by_cases h3:P.length≤p∧p<P.length+M.length∧(p<P.length+i∨P.length+M.length≤p+i)
   ·rw[if_pos h3,lhs _ (by omega) (by omega)]
    congr 1
    omega
   ·rw[if_neg h3,lhs _ (by omega) (by omega)]
    congr 1
    omega
  ·rw[if_neg (by omega),List.getElem?_append_right (by omega),List.getElem?_append_right (by omega),List.getElem?_append_right (by omega),List.getElem?_append_right (by rw[List.length_reverse];omega),List.length_reverse]
theorem QK {α:Type} {xs ys:List α} {lo k i:Nat} {u v:α} (hk:lo+k≤xs.length) (hi:2 * i+1<k) (hl:ys.length=xs.length) (h:∀p,ys[p]?=FJ xs lo k i p) (hu:ys[lo+i]?=some u) (hv:ys[lo+(k - 1 - i)]?=some v) (p:Nat):((ys.set (lo+i) v).set (lo+(k - 1 - i)) u)[p]?=FJ xs lo k (i+1) p:=by
 have e1:xs[lo+i]?=some u:=by rw[← hu,h];unfold FJ;rw[if_neg (by omega)]
 have e2:xs[lo+(k - 1 - i)]?=some v:=by rw[← hv,h];unfold FJ;rw[if_neg (by omega)]
 rw[List.getElem?_set,List.getElem?_set,List.length_set]
 by_cases h1:lo+(k - 1 - i)=p
 ·subst h1
  rw[if_pos rfl,if_pos (by omega)]
  unfold FJ
  rw[if_pos (by omega),← e1]
  congr 1
  omega
 ·rw[if_neg h1]
  by_cases h2:lo+i=p
  ·subst h2
   rw[if_pos rfl,if_pos (by omega)]
   unfold FJ
   rw[if_pos (by omega),← e2]
   congr 1
   omega
  ·rw[if_neg h2,h]
   unfold FJ
   by_cases h3:lo≤p∧p<lo+k∧(p<lo+i∨lo+k≤p+i)
   ·rw[if_pos h3,if_pos (by omega)]
   ·rw[if_neg h3,if_neg (by omega)]
section
variable {A:Option Addr} {B off kc c0 lo k:Nat}
def qQ:List (Nat×Nat):= [(0,0),(1,0),(4,0),(5,0),(6,0),(7,0),(8,0),(9,0),(10,0),(11,0),(12,0),(13,1),(2,1),(3,1),(14,0),(15,1)]
theorem L0 {P M S xs:List iA} (hxs:xs=P++(M++S)) (hlo:lo=P.length) (hk:k=M.length) (hA:A=some ⟨B,off+lo * 3,none⟩) (hs:xs.length≤100000) (hK:K (.tuple #[]) (bQ (some ⟨B,off,none⟩) c0 329 xO (P++(M.reverse++S))::R)):CT 410 #[.slice A k kc] (bQ (some ⟨B,off,none⟩) c0 329 xO xs::R) K:=by
 subst hA
 have hlk:lo+k≤xs.length:=by rw[hxs,hlo,hk];simp only[List.length_append];omega
 refine aH Tryz.func410 ?_
 repeat' (first|refine v28 ?_|refine dw qQ ?_|refine w5 ?_ ?_|((refine bh fun h=>?_) <;> try exact w6 h)|(refine aE fun hA=>?_;subst hA)|intro _)
 refine fZ (fun kk a C'=>∃(i:Nat) (ys:List iA),i+kk=k∧2 * i≤k+1∧ys.length=xs.length∧(∀p,ys[p]?=FJ xs lo k i p)∧cJ a [(0,.slice (some ⟨B,off+lo * 3,none⟩) k kc),(2,I6 i),(3,I6 ((k:Int) - 1 - i))]∧C'=bQ (some ⟨B,off,none⟩) c0 329 xO ys::R) k (bV k ⟨0,xs,by omega,by omega,rfl,(fun p=>by unfold FJ;rw[if_neg (by omega)]),⟨rfl,rfl,congrArg (Value.int .i64) (by omega),trivial⟩,rfl⟩ (by omega)) ?_
 rintro kk a C' ⟨i,ys,hi,h2,hl,hp,ha,rfl⟩
 refine fP _ ha ?_
 simp only[eP]
 by_cases hlt:(i:Int)<(k:Int) - 1 - i
 ·obtain⟨u,hu⟩:∃u,ys[lo+i]?=some u:=⟨_,List.getElem?_eq_getElem (by omega)⟩
  obtain⟨v,hv⟩:∃v,ys[lo+(k - 1 - i)]?=some v:=⟨_,List.getElem?_eq_getElem (by omega)⟩
  have hti:((i:Nat):Int).toNat=i:=Int.toNat_natCast i
  have htj:((k:Int) - 1 - i).toNat=k - 1 - i:=by omega
  have hu':ys[lo+((i:Nat):Int).toNat]?=some u:=by rw[hti];exact hu
  have hv':ys[lo+((k:Int) - 1 - i).toNat]?=some v:=by rw[htj];exact hv
  have hv2:(ys.set (lo+((i:Nat):Int).toNat) v)[lo+((k:Int) - 1 - i).toNat]?=some v:=by rw[htj,hti,List.getElem?_set,if_neg (by omega)];exact hv
  have hsw:=QK hlk (by omega) hl hp hu hv
  repeat' (first|(show aN _ _ _ _ _ _ _;refine OC (lo:=lo) ?_)|refine v28 ?_|refine dw qQ ?_|refine w5 ?_ ?_|((refine bh fun h=>?_) <;> try exact w6 h)|(refine aE fun hA=>?_;subst hA)|intro _|(show aN _ _ _ _ _ _ _;first|refine aO (u:=v) ?_ (hj:=hv')|refine aO (u:=u) ?_ (hj:=hu')|refine tL (y':=v) ?_ (hj:=hu')|refine tL (y':=u) ?_ (hj:=hv2)))
  all_goals(show aT _ _ _ _;exact bV (kk - 1) ⟨i+1,(ys.set (lo+((i:Nat):Int).toNat) v).set (lo+((k:Int) - 1 - i).toNat) u,by omega,by omega,by rw[List.length_set,List.length_set];exact hl,by rw[hti,htj];exact hsw,⟨rfl,rfl,congrArg (Value.int .i64) (by omega),trivial⟩,rfl⟩)
 ·have he:ys=P++(M.reverse++S):=Vq (i:=i) (by omega) (by rw[← hxs,← hlo,← hk];exact hp)
  subst he
  repeat' (first|refine v28 ?_|refine dw qQ ?_|refine w5 ?_ ?_|((refine bh fun h=>?_) <;> try exact w6 h)|(refine aE fun hA=>?_;subst hA)|intro _)
  all_goals(refine aC ?_;exact aB (hK))
theorem Z3 {P D xs:List iA} {y:iA} {r:Int} (hxs:xs=P++(D++ [y])) (hlo:lo=P.length) (hk:k=D.length+1) (hr:r=D.length) (hkc:k≤kc) (hA:A=some ⟨B,off+lo * 3,none⟩) (hs:xs.length≤100000) (hK:K (.tuple #[]) (bQ (some ⟨B,off,none⟩) c0 329 xO (P++(y::D))::R)):CT 394 #[.slice A k kc,I6 r] (bQ (some ⟨B,off,none⟩) c0 329 xO xs::R) K:=by
 subst hA hr
 have hlen:xs.length=lo+k:=by rw[hxs,hlo,hk];simp <;> omega
 refine aH Tryz.func394 ?_
 repeat' (first|(show aN _ _ _ _ _ _ _;refine mZ (sz:=3) ?_;intro A' hA')|refine v8 ?_|refine w5 ?_ ?_|((refine bh fun h=>?_) <;> try exact w6 h)|(refine aE fun hA=>?_;subst hA)|intro _)
 have hs2:P.length+D.length+1≤100000:=by rw[hxs,List.length_append,List.length_append] at hs;exact hs
 refine CA (h:=L0 (P:=P) (M:=D) (S:= [y]) hxs hlo (by simp) (by rw[Gu hA' (by omega)] <;> simp) hs ?_)
 repeat' (first|(show aN _ _ _ _ _ _ _;refine mZ (sz:=3) ?_;intro A2 hA2)|refine v8 ?_|refine w5 ?_ ?_|((refine bh fun h=>?_) <;> try exact w6 h)|(refine aE fun hA=>?_;subst hA)|intro _)
 refine CA (h:=L0 (xs:=P++(D.reverse++ [y])) (P:=P++D.reverse) (M:= [y]) (S:= []) (by simp) (lo:=lo+D.length) (by simp[hlo]) (by simp[hk]) ((Gu hA2 (by omega)).trans (congrArg (fun o=>some (⟨B,o,none⟩:Addr)) (by rw[Int.toNat_natCast];omega))) (by simp only[List.length_append,List.length_reverse,List.length_cons,List.length_nil];omega) ?_)
 repeat' (first|refine v8 ?_|refine w5 ?_ ?_|((refine bh fun h=>?_) <;> try exact w6 h)|(refine aE fun hA=>?_;subst hA)|intro _)
 refine CA (h:=L0 (xs:=P++D.reverse++([y].reverse++ [])) (P:=P) (M:=D.reverse++ [y]) (S:= []) (by simp) hlo (by simp[hk]) rfl (by simp only[List.length_append,List.length_reverse,List.length_cons,List.length_nil];omega) ?_)
 rw[show P++((D.reverse++ [y]).reverse++ [])=P++(y::D) by simp]
 repeat' (first|refine v8 ?_|refine w5 ?_ ?_|((refine bh fun h=>?_) <;> try exact w6 h)|(refine aE fun hA=>?_;subst hA)|intro _)
 all_goals(refine aC ?_;exact aB (hK))
theorem Zb {P D xs:List iA} {y:iA} (hxs:xs=P++(D++ [y])) (hlo:lo=P.length) (hk:k=D.length+1) (hkc:k≤kc) (hA:A=some ⟨B,off+lo * 3,none⟩) (hs:xs.length≤100000) (hK:K (.tuple #[]) (bQ (some ⟨B,off,none⟩) c0 329 xO (P++(y::D))::R)):CT 368 #[.slice A k kc,I6 1] (bQ (some ⟨B,off,none⟩) c0 329 xO xs::R) K:=by
 have hlen:xs.length=lo+k:=by rw[hxs,hlo,hk];simp <;> omega
 refine aH Tryz.func368 ?_
 repeat' (first|refine v8 ?_|refine w5 ?_ ?_|((refine bh fun h=>?_) <;> try exact w6 h)|(refine aE fun hA=>?_;subst hA)|intro _|(show aA _ 394 _ _ _;refine CA (h:=Z3 hxs hlo hk (by omega) hkc hA hs ?_)))
 all_goals(refine aC ?_;exact aB (hK))
def p8:List (Nat×Nat):= [(0,0),(1,0),(4,0),(5,0),(6,0),(7,0),(8,0),(9,0),(10,0),(11,0),(12,0),(13,1),(2,1),(3,1),(14,0),(15,1)]
theorem Mc {P M S xs:List jF} (hxs:xs=P++(M++S)) (hlo:lo=P.length) (hk:k=M.length) (hA:A=some ⟨B,off+lo * 2,none⟩) (hs:xs.length≤100000) (hK:K (.tuple #[]) (bQ (some ⟨B,off,none⟩) c0 255 fD (P++(M.reverse++S))::R)):CT 409 #[.slice A k kc] (bQ (some ⟨B,off,none⟩) c0 255 fD xs::R) K:=by
 subst hA
 have hlk:lo+k≤xs.length:=by rw[hxs,hlo,hk];simp only[List.length_append];omega
 refine aH Tryz.func409 ?_
 repeat' (first|refine v28 ?_|refine dw p8 ?_|refine w5 ?_ ?_|((refine bh fun h=>?_) <;> try exact w6 h)|(refine aE fun hA=>?_;subst hA)|intro _)
 refine fZ (fun kk a C'=>∃(i:Nat) (ys:List jF),i+kk=k∧2 * i≤k+1∧ys.length=xs.length∧(∀p,ys[p]?=FJ xs lo k i p)∧cJ a [(0,.slice (some ⟨B,off+lo * 2,none⟩) k kc),(2,I6 i),(3,I6 ((k:Int) - 1 - i))]∧C'=bQ (some ⟨B,off,none⟩) c0 255 fD ys::R) k (bV k ⟨0,xs,by omega,by omega,rfl,(fun p=>by unfold FJ;rw[if_neg (by omega)]),⟨rfl,rfl,congrArg (Value.int .i64) (by omega),trivial⟩,rfl⟩ (by omega)) ?_
 rintro kk a C' ⟨i,ys,hi,h2,hl,hp,ha,rfl⟩
 refine fP _ ha ?_
 simp only[eP]
 by_cases hlt:(i:Int)<(k:Int) - 1 - i
 ·obtain⟨u,hu⟩:∃u,ys[lo+i]?=some u:=⟨_,List.getElem?_eq_getElem (by omega)⟩
  obtain⟨v,hv⟩:∃v,ys[lo+(k - 1 - i)]?=some v:=⟨_,List.getElem?_eq_getElem (by omega)⟩
  have hti:((i:Nat):Int).toNat=i:=Int.toNat_natCast i
  have htj:((k:Int) - 1 - i).toNat=k - 1 - i:=by omega
  have hu':ys[lo+((i:Nat):Int).toNat]?=some u:=by rw[hti];exact hu
  have hv':ys[lo+((k:Int) - 1 - i).toNat]?=some v:=by rw[htj];exact hv
  have hv2:(ys.set (lo+((i:Nat):Int).toNat) v)[lo+((k:Int) - 1 - i).toNat]?=some v:=by rw[htj,hti,List.getElem?_set,if_neg (by omega)];exact hv
  have hsw:=QK hlk (by omega) hl hp hu hv
  repeat' (first|(show aN _ _ _ _ _ _ _;refine OC (lo:=lo) ?_)|refine v28 ?_|refine dw p8 ?_|refine w5 ?_ ?_|((refine bh fun h=>?_) <;> try exact w6 h)|(refine aE fun hA=>?_;subst hA)|intro _|(show aN _ _ _ _ _ _ _;first|refine aO (u:=v) ?_ (hj:=hv')|refine aO (u:=u) ?_ (hj:=hu')|refine tL (y':=v) ?_ (hj:=hu')|refine tL (y':=u) ?_ (hj:=hv2)))
  all_goals(show aT _ _ _ _;exact bV (kk - 1) ⟨i+1,(ys.set (lo+((i:Nat):Int).toNat) v).set (lo+((k:Int) - 1 - i).toNat) u,by omega,by omega,by rw[List.length_set,List.length_set];exact hl,by rw[hti,htj];exact hsw,⟨rfl,rfl,congrArg (Value.int .i64) (by omega),trivial⟩,rfl⟩)
 ·have he:ys=P++(M.reverse++S):=Vq (i:=i) (by omega) (by rw[← hxs,← hlo,← hk];exact hp)
  subst he
  repeat' (first|refine v28 ?_|refine dw p8 ?_|refine w5 ?_ ?_|((refine bh fun h=>?_) <;> try exact w6 h)|(refine aE fun hA=>?_;subst hA)|intro _)
  all_goals(refine aC ?_;exact aB (hK))
theorem Adr {P D xs:List jF} {y:jF} {r:Int} (hxs:xs=P++(D++ [y])) (hlo:lo=P.length) (hk:k=D.length+1) (hr:r=D.length) (hkc:k≤kc) (hA:A=some ⟨B,off+lo * 2,none⟩) (hs:xs.length≤100000) (hK:K (.tuple #[]) (bQ (some ⟨B,off,none⟩) c0 255 fD (P++(y::D))::R)):CT 392 #[.slice A k kc,I6 r] (bQ (some ⟨B,off,none⟩) c0 255 fD xs::R) K:=by
 subst hA hr
 have hlen:xs.length=lo+k:=by rw[hxs,hlo,hk];simp <;> omega
 refine aH Tryz.func392 ?_
 repeat' (first|(show aN _ _ _ _ _ _ _;refine mZ (sz:=2) ?_;intro A' hA')|refine v8 ?_|refine w5 ?_ ?_|((refine bh fun h=>?_) <;> try exact w6 h)|(refine aE fun hA=>?_;subst hA)|intro _)
 have hs2:P.length+D.length+1≤100000:=by rw[hxs,List.length_append,List.length_append] at hs;exact hs
 refine CA (h:=Mc (P:=P) (M:=D) (S:= [y]) hxs hlo (by simp) (by rw[Gu hA' (by omega)] <;> simp) hs ?_)
 repeat' (first|(show aN _ _ _ _ _ _ _;refine mZ (sz:=2) ?_;intro A2 hA2)|refine v8 ?_|refine w5 ?_ ?_|((refine bh fun h=>?_) <;> try exact w6 h)|(refine aE fun hA=>?_;subst hA)|intro _)
 refine CA (h:=Mc (xs:=P++(D.reverse++ [y])) (P:=P++D.reverse) (M:= [y]) (S:= []) (by simp) (lo:=lo+D.length) (by simp[hlo]) (by simp[hk]) ((Gu hA2 (by omega)).trans (congrArg (fun o=>some (⟨B,o,none⟩:Addr)) (by rw[Int.toNat_natCast];omega))) (by simp only[List.length_append,List.length_reverse,List.length_cons,List.length_nil];omega) ?_)
 repeat' (first|refine v8 ?_|refine w5 ?_ ?_|((refine bh fun h=>?_) <;> try exact w6 h)|(refine aE fun hA=>?_;subst hA)|intro _)
 refine CA (h:=Mc (xs:=P++D.reverse++([y].reverse++ [])) (P:=P) (M:=D.reverse++ [y]) (S:= []) (by simp) hlo (by simp[hk]) rfl (by simp only[List.length_append,List.length_reverse,List.length_cons,List.length_nil];omega) ?_)
 rw[show P++((D.reverse++ [y]).reverse++ [])=P++(y::D) by simp]
 repeat' (first|refine v8 ?_|refine w5 ?_ ?_|((refine bh fun h=>?_) <;> try exact w6 h)|(refine aE fun hA=>?_;subst hA)|intro _)
 all_goals(refine aC ?_;exact aB (hK))
theorem Aao {P D xs:List jF} {y:jF} (hxs:xs=P++(D++ [y])) (hlo:lo=P.length) (hk:k=D.length+1) (hkc:k≤kc) (hA:A=some ⟨B,off+lo * 2,none⟩) (hs:xs.length≤100000) (hK:K (.tuple #[]) (bQ (some ⟨B,off,none⟩) c0 255 fD (P++(y::D))::R)):CT 363 #[.slice A k kc,I6 1] (bQ (some ⟨B,off,none⟩) c0 255 fD xs::R) K:=by
 have hlen:xs.length=lo+k:=by rw[hxs,hlo,hk];simp <;> omega
 refine aH Tryz.func363 ?_
 repeat' (first|refine v8 ?_|refine w5 ?_ ?_|((refine bh fun h=>?_) <;> try exact w6 h)|(refine aE fun hA=>?_;subst hA)|intro _|(show aA _ 392 _ _ _;refine CA (h:=Adr hxs hlo hk (by omega) hkc hA hs ?_)))
 all_goals(refine aC ?_;exact aB (hK))
end
end
section
variable {R C:List HP} {K:KP}
section
theorem Vz {α:Type} {xs:List α} {y:α} {i:Nat} (hi:i<xs.length) {ys0 ys1:List (Option α)} (h0:ys0=(xs.take i).map some++List.replicate (xs.length+1 - i) none) (h1:ys1=ys0.take i++([some y]++ys0.drop (i+1))):ys1.take (i+1)++((xs.drop i).map some++ys1.drop (i+1+((xs.drop i).map some).length))=(xs.take i++(y::xs.drop i)).map some:=by
 have l0:((xs.take i).map some).length=i:=by rw[List.length_map,List.length_take];omega
 have e0:ys0.take i=(xs.take i).map some:=by rw[h0,List.take_left' l0]
 have e1:ys1.take (i+1)=(xs.take i).map some++ [some y]:=by
  rw[h1,e0,← List.append_assoc,List.take_left' (by rw[List.length_append,l0];rfl)]
 have l1:ys1.length=xs.length+1:=by
  rw[h1,e0,h0]
  simp only[List.length_append,List.length_drop,List.length_map,List.length_take,List.length_replicate,List.length_cons,List.length_nil]
  omega
 have e2:ys1.drop (i+1+((xs.drop i).map some).length)= []:=List.drop_eq_nil_of_le (by rw[l1,List.length_map,List.length_drop];omega)
 rw[e1,e2]
 simp
theorem ZH {α:Type} {xs ys:List α} {y:α} {i:Nat} (hi:i<xs.length) (h:ys=xs.take (i+1)++(xs.drop i++xs.drop (i+1+(xs.drop i).length))):ys.take i++([y]++ys.drop (i+1))=xs.take i++(y::xs.drop i):=by
 have e:xs.drop (i+1+(xs.drop i).length)= []:=List.drop_eq_nil_of_le (by rw[List.length_drop];omega)
 have l:(xs.take (i+1)).length=i+1:=by rw[List.length_take];omega
 rw[h,e,List.append_nil,List.drop_left' l,List.take_append_of_le_length (by omega),List.take_take,Nat.min_eq_left (by omega)]
 simp
variable {A:Option Addr} {r c n i:Nat}
def cQ:List (Nat×Nat):= [(0,0),(1,0),(2,0),(3,0),(4,0),(5,0),(6,0),(7,0),(8,1)]
def cS:List (Nat×Nat):= [(0,0),(1,0),(2,0),(3,0),(4,0),(5,0),(6,0),(7,0),(8,1)]
theorem Ab0 {xs:List iA} {y:iA} {B off:Nat} (hn:xs.length=n) (hi:i<n) (hs:n≤1000) (hc:n≤c) (hroom:(c:Int)<(n:Int)+1) (hK:∀A' c',K (.slice A' (n+1) c') (bQ A' c' 329 xO (xs.take i++(y::xs.drop i))::R)):CT 308 #[.slice (some ⟨B,off,none⟩) n c,I6 i,.slice (some ⟨r,0,none⟩) 1 1] (bQ (some ⟨B,off,none⟩) c 329 xO xs::pt r [I6 y.id,PO y.w,I6 y.sp] 329::R) K:=by
 subst hn
 have hdl:(xs.drop i).length=xs.length - i:=List.length_drop ..
 have htl:((xs.take i).map some).length=i:=by rw[List.length_map,List.length_take];omega
 refine aH Tryz.func308 ?_
 repeat' (first|(show aN _ _ _ _ _ _ _;first|refine oM ?_|refine d7 (sz:=3) ?_)|refine Lt ?_|refine dw cQ ?_|refine dw cS ?_|refine w5 ?_ ?_|((refine bh fun h=>?_) <;> try exact w6 h)|(refine aE fun hA=>?_;subst hA)|intro _)
 refine LG (E:=xO) (xs:=xs.take i) (k:=xs.length+1 - i) ⟨rfl,rfl⟩ (fun r2 N hN=>?_) (Em (off:=off) (lo:=0) fG i (Nat.zero_le _) rfl)
 repeat' (first|(show aN _ _ _ _ _ _ _;first|refine oM ?_|refine d7 (sz:=3) ?_)|refine Lt ?_|refine dw cQ ?_|refine dw cS ?_|refine w5 ?_ ?_|((refine bh fun h=>?_) <;> try exact w6 h)|(refine aE fun hA=>?_;subst hA)|intro _)
 refine qT (sz:=3) (j:=i) (vs:= [some y]) ?_ (hsrc:=GJ (vs:= [y]) wQ)
 repeat' (first|(show aN _ _ _ _ _ _ _;first|refine oM ?_|refine d7 (sz:=3) ?_)|refine Lt ?_|refine dw cQ ?_|refine dw cS ?_|refine w5 ?_ ?_|((refine bh fun h=>?_) <;> try exact w6 h)|(refine aE fun hA=>?_;subst hA)|intro _)
 refine qT (sz:=3) (j:=i+1) (vs:=(xs.drop i).map some) ?_ (hsrc:=GJ (DR (sz:=3) (j:=i)))
 repeat' (first|(show aN _ _ _ _ _ _ _;first|refine oM ?_|refine d7 (sz:=3) ?_)|refine Lt ?_|refine dw cQ ?_|refine dw cS ?_|refine w5 ?_ ?_|((refine bh fun h=>?_) <;> try exact w6 h)|(refine aE fun hA=>?_;subst hA)|intro _)
 (refine aC ?_;exact aK (aG.trans (by exact aZ) ((OD (Vz hi rfl rfl)))) ((kv (hK _ _) (congrArg (fun n=>Value.slice _ n _) (by omega)))))
theorem Y9 {xs:List iA} {y:iA} {B off:Nat} (hn:xs.length=n) (hi:i<n) (hs:n≤1000) (hc:n≤c) (hroom:¬(c:Int)<(n:Int)+1) (hK:∀A' c',K (.slice A' (n+1) c') (bQ A' c' 329 xO (xs.take i++(y::xs.drop i))::R)):CT 308 #[.slice (some ⟨B,off,none⟩) n c,I6 i,.slice (some ⟨r,0,none⟩) 1 1] (bQ (some ⟨B,off,none⟩) c 329 xO xs::pt r [I6 y.id,PO y.w,I6 y.sp] 329::R) K:=by
 subst hn
 have hdl:(xs.drop i).length=xs.length - i:=List.length_drop ..
 refine aH Tryz.func308 ?_
 repeat' (first|(show aN _ _ _ _ _ _ _;first|refine oM ?_|refine d7 (sz:=3) ?_)|refine dw cQ ?_|refine dw cS ?_|refine w1m ?_|refine w5 ?_ ?_|((refine bh fun h=>?_) <;> try exact w6 h)|(refine aE fun hA=>?_;subst hA)|intro _)
 refine IP (E:=xO) (sz:=3) (tS:=233) (tR:=4) (off:=off) (j:=i+1) (fun b=>?_)
 cases b
 ·repeat' (first|(show aN _ _ _ _ _ _ _;first|refine oM ?_|refine d7 (sz:=3) ?_)|refine Lt ?_|refine dw cQ ?_|refine dw cS ?_|refine w5 ?_ ?_|((refine bh fun h=>?_) <;> try exact w6 h)|(refine aE fun hA=>?_;subst hA)|intro _)
  refine qT (sz:=3) (j:=i+1) (vs:=xs.drop i) ?_ (hsrc:=DR (sz:=3) (j:=i))
  repeat' (first|(show aN _ _ _ _ _ _ _;first|refine oM ?_|refine d7 (sz:=3) ?_)|refine Lt ?_|refine dw cQ ?_|refine dw cS ?_|refine w5 ?_ ?_|((refine bh fun h=>?_) <;> try exact w6 h)|(refine aE fun hA=>?_;subst hA)|intro _)
  refine qT (sz:=3) (j:=i) (vs:= [y]) ?_ (hsrc:=wQ)
  repeat' (first|(show aN _ _ _ _ _ _ _;first|refine oM ?_|refine d7 (sz:=3) ?_)|refine Lt ?_|refine dw cQ ?_|refine dw cS ?_|refine w5 ?_ ?_|((refine bh fun h=>?_) <;> try exact w6 h)|(refine aE fun hA=>?_;subst hA)|intro _)
  (refine aC ?_;exact aK (aG.trans (by exact aZ) ((Uu (ZH hi rfl)))) ((kv (hK _ _) (Eu (by omega) (by omega) (by omega)))))
 ·repeat' (first|(show aN _ _ _ _ _ _ _;first|refine oM ?_|refine d7 (sz:=3) ?_)|refine Lt ?_|refine dw cQ ?_|refine dw cS ?_|refine w5 ?_ ?_|((refine bh fun h=>?_) <;> try exact w6 h)|(refine aE fun hA=>?_;subst hA)|intro _)
  refine qT (sz:=3) (j:=xs.length) (vs:= [y]) ?_ (hsrc:=wQ)
  repeat' (first|(show aN _ _ _ _ _ _ _;first|refine oM ?_|refine d7 (sz:=3) ?_)|refine Lt ?_|refine dw cQ ?_|refine dw cS ?_|refine w5 ?_ ?_|((refine bh fun h=>?_) <;> try exact w6 h)|(refine aE fun hA=>?_;subst hA)|intro _|(show aA _ 368 _ _ _;refine CA (h:=Zb (xs:=xs.take xs.length++([y]++xs.drop (xs.length+ [y].length))) (P:=xs.take i) (D:=xs.drop i) (y:=y) (lo:=i) (by rw[List.take_of_length_le (Nat.le_refl _),List.drop_eq_nil_of_le (by simp),List.append_nil,← List.append_assoc,List.take_append_drop]) (by rw[List.length_take];omega) (by rw[hdl];omega) (by omega) (vH (by omega)) (by simp only[List.length_append,List.length_take,List.length_drop,List.length_cons,List.length_nil];omega) ?_)))
  all_goals(refine aC ?_;exact aB ((kv (hK (some ⟨B,off,none⟩) c) (Eu (by omega) (by omega) (by omega)))))
theorem Af3 {xs:List iA} {y:iA} (hn:xs.length=n) (hi:i≤n) (hs:n≤1000) (hK:∀A' c',K (.slice A' (n+1) c') (bQ A' c' 329 xO (xs.take i++(y::xs.drop i))::R)):CT 308 #[.slice A n c,I6 i,.slice (some ⟨r,0,none⟩) 1 1] (bQ A c 329 xO xs::pt r [I6 y.id,PO y.w,I6 y.sp] 329::R) K:=by
 refine iK aV.here fun hc=>?_
 subst hn
 rcases Nat.lt_or_ge i xs.length with hlt|hge
 ·refine pS aV.here (by omega) fun B off hA=>?_
  subst hA
  by_cases hroom:(c:Int)<(xs.length:Int)+1
  ·exact Ab0 rfl hlt hs hc hroom hK
  ·exact Y9 rfl hlt hs hc hroom hK
 ·have hi':i=xs.length:=by omega
  subst hi'
  rw[List.take_of_length_le (Nat.le_refl _),List.drop_eq_nil_of_le (Nat.le_refl _)] at hK
  refine aH Tryz.func308 ?_
  repeat' (first|(show aN _ _ _ _ _ _ _;first|(refine mZ ?_;intro A1 hA1)|(refine cU (E:=xO) (xs:=xs) (ys:= [y]) ?_ (hsrc:=yO);intro A2 c2))|refine Lt ?_|refine dw cQ ?_|refine dw cS ?_|refine w5 ?_ ?_|((refine bh fun h=>?_) <;> try exact w6 h)|(refine aE fun hA=>?_;subst hA)|intro _)
  all_goals(refine aC ?_;exact aB ((by rw[List.length_append];exact hK _ _)))
def cT:List (Nat×Nat):= [(0,0),(1,0),(2,0),(3,0),(4,0),(5,0),(6,0),(7,0),(8,1)]
def cP:List (Nat×Nat):= [(0,0),(1,0),(2,0),(3,0),(4,0),(5,0),(6,0),(7,0),(8,1)]
theorem ZM {xs:List jF} {y:jF} {B off:Nat} (hn:xs.length=n) (hi:i<n) (hs:n≤1000) (hc:n≤c) (hroom:(c:Int)<(n:Int)+1) (hK:∀A' c',K (.slice A' (n+1) c') (bQ A' c' 255 fD (xs.take i++(y::xs.drop i))::R)):CT 302 #[.slice (some ⟨B,off,none⟩) n c,I6 i,.slice (some ⟨r,0,none⟩) 1 1] (bQ (some ⟨B,off,none⟩) c 255 fD xs::pt r [I6 y.id,PO y.a] 255::R) K:=by
 subst hn
 have hdl:(xs.drop i).length=xs.length - i:=List.length_drop ..
 have htl:((xs.take i).map some).length=i:=by rw[List.length_map,List.length_take];omega
 refine aH Tryz.func302 ?_
 repeat' (first|(show aN _ _ _ _ _ _ _;first|refine oM ?_|refine d7 (sz:=2) ?_)|refine Lt ?_|refine dw cT ?_|refine dw cP ?_|refine w5 ?_ ?_|((refine bh fun h=>?_) <;> try exact w6 h)|(refine aE fun hA=>?_;subst hA)|intro _)
 refine LG (E:=fD) (xs:=xs.take i) (k:=xs.length+1 - i) ⟨rfl,rfl⟩ (fun r2 N hN=>?_) (Em (off:=off) (lo:=0) fG i (Nat.zero_le _) rfl)
 repeat' (first|(show aN _ _ _ _ _ _ _;first|refine oM ?_|refine d7 (sz:=2) ?_)|refine Lt ?_|refine dw cT ?_|refine dw cP ?_|refine w5 ?_ ?_|((refine bh fun h=>?_) <;> try exact w6 h)|(refine aE fun hA=>?_;subst hA)|intro _)
 refine qT (sz:=2) (j:=i) (vs:= [some y]) ?_ (hsrc:=GJ (vs:= [y]) wQ)
 repeat' (first|(show aN _ _ _ _ _ _ _;first|refine oM ?_|refine d7 (sz:=2) ?_)|refine Lt ?_|refine dw cT ?_|refine dw cP ?_|refine w5 ?_ ?_|((refine bh fun h=>?_) <;> try exact w6 h)|(refine aE fun hA=>?_;subst hA)|intro _)
 refine qT (sz:=2) (j:=i+1) (vs:=(xs.drop i).map some) ?_ (hsrc:=GJ (DR (sz:=2) (j:=i)))
 repeat' (first|(show aN _ _ _ _ _ _ _;first|refine oM ?_|refine d7 (sz:=2) ?_)|refine Lt ?_|refine dw cT ?_|refine dw cP ?_|refine w5 ?_ ?_|((refine bh fun h=>?_) <;> try exact w6 h)|(refine aE fun hA=>?_;subst hA)|intro _)
 (refine aC ?_;exact aK (aG.trans (by exact aZ) ((OD (Vz hi rfl rfl)))) ((kv (hK _ _) (congrArg (fun n=>Value.slice _ n _) (by omega)))))
theorem Y6 {xs:List jF} {y:jF} {B off:Nat} (hn:xs.length=n) (hi:i<n) (hs:n≤1000) (hc:n≤c) (hroom:¬(c:Int)<(n:Int)+1) (hK:∀A' c',K (.slice A' (n+1) c') (bQ A' c' 255 fD (xs.take i++(y::xs.drop i))::R)):CT 302 #[.slice (some ⟨B,off,none⟩) n c,I6 i,.slice (some ⟨r,0,none⟩) 1 1] (bQ (some ⟨B,off,none⟩) c 255 fD xs::pt r [I6 y.id,PO y.a] 255::R) K:=by
 subst hn
 have hdl:(xs.drop i).length=xs.length - i:=List.length_drop ..
 refine aH Tryz.func302 ?_
 repeat' (first|(show aN _ _ _ _ _ _ _;first|refine oM ?_|refine d7 (sz:=2) ?_)|refine dw cT ?_|refine dw cP ?_|refine w1m ?_|refine w5 ?_ ?_|((refine bh fun h=>?_) <;> try exact w6 h)|(refine aE fun hA=>?_;subst hA)|intro _)
 refine IP (E:=fD) (sz:=2) (tS:=224) (tR:=4) (off:=off) (j:=i+1) (fun b=>?_)
 cases b
 ·repeat' (first|(show aN _ _ _ _ _ _ _;first|refine oM ?_|refine d7 (sz:=2) ?_)|refine Lt ?_|refine dw cT ?_|refine dw cP ?_|refine w5 ?_ ?_|((refine bh fun h=>?_) <;> try exact w6 h)|(refine aE fun hA=>?_;subst hA)|intro _)
  refine qT (sz:=2) (j:=i+1) (vs:=xs.drop i) ?_ (hsrc:=DR (sz:=2) (j:=i))
  repeat' (first|(show aN _ _ _ _ _ _ _;first|refine oM ?_|refine d7 (sz:=2) ?_)|refine Lt ?_|refine dw cT ?_|refine dw cP ?_|refine w5 ?_ ?_|((refine bh fun h=>?_) <;> try exact w6 h)|(refine aE fun hA=>?_;subst hA)|intro _)
  refine qT (sz:=2) (j:=i) (vs:= [y]) ?_ (hsrc:=wQ)
  repeat' (first|(show aN _ _ _ _ _ _ _;first|refine oM ?_|refine d7 (sz:=2) ?_)|refine Lt ?_|refine dw cT ?_|refine dw cP ?_|refine w5 ?_ ?_|((refine bh fun h=>?_) <;> try exact w6 h)|(refine aE fun hA=>?_;subst hA)|intro _)
  (refine aC ?_;exact aK (aG.trans (by exact aZ) ((Uu (ZH hi rfl)))) ((kv (hK _ _) (Eu (by omega) (by omega) (by omega)))))
 ·repeat' (first|(show aN _ _ _ _ _ _ _;first|refine oM ?_|refine d7 (sz:=2) ?_)|refine Lt ?_|refine dw cT ?_|refine dw cP ?_|refine w5 ?_ ?_|((refine bh fun h=>?_) <;> try exact w6 h)|(refine aE fun hA=>?_;subst hA)|intro _)
  refine qT (sz:=2) (j:=xs.length) (vs:= [y]) ?_ (hsrc:=wQ)
  repeat' (first|(show aN _ _ _ _ _ _ _;first|refine oM ?_|refine d7 (sz:=2) ?_)|refine Lt ?_|refine dw cT ?_|refine dw cP ?_|refine w5 ?_ ?_|((refine bh fun h=>?_) <;> try exact w6 h)|(refine aE fun hA=>?_;subst hA)|intro _|(show aA _ 363 _ _ _;refine CA (h:=Aao (xs:=xs.take xs.length++([y]++xs.drop (xs.length+ [y].length))) (P:=xs.take i) (D:=xs.drop i) (y:=y) (lo:=i) (by rw[List.take_of_length_le (Nat.le_refl _),List.drop_eq_nil_of_le (by simp),List.append_nil,← List.append_assoc,List.take_append_drop]) (by rw[List.length_take];omega) (by rw[hdl];omega) (by omega) (vH (by omega)) (by simp only[List.length_append,List.length_take,List.length_drop,List.length_cons,List.length_nil];omega) ?_)))
  all_goals(refine aC ?_;exact aB ((kv (hK (some ⟨B,off,none⟩) c) (Eu (by omega) (by omega) (by omega)))))
theorem Ahf {xs:List jF} {y:jF} (hn:xs.length=n) (hi:i≤n) (hs:n≤1000) (hK:∀A' c',K (.slice A' (n+1) c') (bQ A' c' 255 fD (xs.take i++(y::xs.drop i))::R)):CT 302 #[.slice A n c,I6 i,.slice (some ⟨r,0,none⟩) 1 1] (bQ A c 255 fD xs::pt r [I6 y.id,PO y.a] 255::R) K:=by
 refine iK aV.here fun hc=>?_
 subst hn
 rcases Nat.lt_or_ge i xs.length with hlt|hge
 ·refine pS aV.here (by omega) fun B off hA=>?_
  subst hA
  by_cases hroom:(c:Int)<(xs.length:Int)+1
  ·exact ZM rfl hlt hs hc hroom hK
  ·exact Y6 rfl hlt hs hc hroom hK
 ·have hi':i=xs.length:=by omega
  subst hi'
  rw[List.take_of_length_le (Nat.le_refl _),List.drop_eq_nil_of_le (Nat.le_refl _)] at hK
  refine aH Tryz.func302 ?_
  repeat' (first|(show aN _ _ _ _ _ _ _;first|(refine mZ ?_;intro A1 hA1)|(refine cU (E:=fD) (xs:=xs) (ys:= [y]) ?_ (hsrc:=yO);intro A2 c2))|refine Lt ?_|refine dw cT ?_|refine dw cP ?_|refine w5 ?_ ?_|((refine bh fun h=>?_) <;> try exact w6 h)|(refine aE fun hA=>?_;subst hA)|intro _)
  all_goals(refine aC ?_;exact aB ((by rw[List.length_append];exact hK _ _)))
end
end
section
variable {R C:List HP} {K:KP}
structure Tu where
 id:Int
 w:Int
 rd:Bool
def tuD:List Value→Option Tu
 | [.int .i64 a,.int .i64 b,.bool c]=>some ⟨a,b,c⟩
 |_=>none
theorem Aji (cs:List Value) (y:Tu) (h:tuD cs=some y): [I6 y.id,I6 y.w,.bool y.rd]=cs:=by
 unfold tuD at h
 split at h
 ·cases h;rfl
 ·cases h
def Nv:tJ Tu:= { enc:=fun y=> [I6 y.id,I6 y.w,.bool y.rd],sz:=3,dec:=tuD,len:=fun _=>rfl,one:=fun _=>rfl,ok:=Aji }
def blE:Bool→Value:=fun b=>.bool b
def pW:List (KE Bool)→Nat→List Tu→List Tu
 |_,_,[]=> []
 |seen,ck,x::r=>if(gQ x.id seen).getD false=false∧x.rd=true then x::pW (tC x.id true ck seen) (kCk x.id ck seen) r else pW (tC x.id true ck seen) (kCk x.id ck seen) r
def Cs (x:Tu):Int:=max (min x.w 256) 1
def rM (pk:List (KE Int)):List Tu→Option Int
 | []=>none
 |x::r=>if 1≤p9 x.id pk then some x.id else rM pk r
def vU (pk:List (KE Int)) (x:Tu):Int:=(Cs x - p9 x.id pk) / Cs x
def FP (pk:List (KE Int)):List Tu→Int→Int
 | [],n=>n
 |x::r,n=>FP pk r (min n (vU pk x))
abbrev xR:=List (KE Int)×Nat
def jK (id n:Int) (s:xR):xR:=(HT id n s.2 s.1,Xa id n s.2 s.1)
def wV (n:Int):List Tu→xR→xR
 | [],s=>s
 |x::r,s=>wV n r (jK x.id (p9 x.id s.1+n * Cs x) s)
def As (s:xR) (l:List Tu):Option Int×xR:=match pW [] 0 l with
 | []=>(none,s)
 |x::r=>match rM s.1 (x::r) with
  |some id=>(some id,s)
  |none=>(rM (wV (FP s.1 (x::r) (vU s.1 x)) (x::r) s).1 (x::r),wV (FP s.1 (x::r) (vU s.1 x)) (x::r) s)
def K4 (s:xR):Prop:=∀e∈s.1,-1024≤e.v∧e.v≤1024
theorem Ui {id v:Int}:∀ {l:List (KE Int)},gQ id l=some v→∃e∈l,e.v=v
 | [],h=>by cases h
 |e::r,h=>by
  unfold gQ at h
  split at h
  ·cases h;exact⟨e,List.mem_cons_self ..,rfl⟩
  ·obtain⟨z,hz,he⟩:=Ui h
   exact⟨z,List.mem_cons_of_mem _ hz,he⟩
theorem E1 {s:xR} (h:K4 s) (id:Int):-1024≤p9 id s.1∧p9 id s.1≤1024:=by
 unfold p9
 cases hg:gQ id s.1 with
 |none=>simp
 |some v=>
  obtain⟨e,he,rfl⟩:=Ui hg
  exact h e he
theorem I9 {α:Type} {id:Int} {e:KE α}:∀ {l:List (KE α)},e∈mQ id l→e∈l
 | [],h=>h
 |z::r,h=>by
  unfold mQ at h
  split at h
  ·exact List.mem_cons_of_mem _ h
  ·rcases List.mem_cons.1 h with rfl|h
   ·exact List.mem_cons_self ..
   ·exact List.mem_cons_of_mem _ (I9 h)
theorem O2 {α:Type} {id:Int} {v:α} {ck:Nat} {e:KE α}:∀ {l:List (KE α)},e∈tC id v ck l→e.v=v∨e∈l
 | [],h=>.inl (by rw[List.mem_singleton.1 h])
 |z::r,h=>by
  unfold tC at h
  split at h
  ·rcases List.mem_cons.1 h with rfl|h
   ·exact .inl rfl
   ·exact .inr (List.mem_cons_of_mem _ h)
  ·rcases List.mem_cons.1 h with rfl|h
   ·exact .inr (List.mem_cons_self ..)
   ·rcases O2 h with h|h
    ·exact .inl h
    ·exact .inr (List.mem_cons_of_mem _ h)
theorem Z7 {seen:List (KE Bool)} {ck:Nat} {x:Tu} {r:List Tu}:pW seen ck (x::r)=(if(gQ x.id seen).getD false=false∧x.rd=true then [x] else [])++pW (tC x.id true ck seen) (kCk x.id ck seen) r:=by
 conv=>lhs;unfold pW
 split <;> simp
theorem I7 {id:Int} {l:List (KE Bool)}:Jh false (.bool false) (iY id (kM blE l) 0)=.bool ((gQ id l).getD false):=by
 rw[Ug]
 cases gQ id l <;> rfl
section
variable {p q c n ck:Nat} {A:Option Addr} {l:List Tu} {x:Tu} {s:xR}
theorem U3 (hK:K (I6 (Cs x)) R):CT 285 #[.agg #[I6 x.id,I6 x.w,.bool x.rd]] R K:=by
 refine aH Tryz.func285 ?_
 repeat' (first|refine v39 ?_|refine w5 ?_ ?_|((refine bh fun h=>?_) <;> try exact w6 h)|(refine aE fun hA=>?_;subst hA)|intro _)
 all_goals(refine aC ?_;exact aB (hK))
theorem Cz (hv:dT C A Nv l) (hn:l.length=n) (hs:n≤100000) (hK:∀B d,K (.slice B (pW [] 0 l).length d) (bQ B d 333 Nv (pW [] 0 l)::C)):CT 282 #[.slice A n c] C K:=by
 subst hn
 refine aH Tryz.func282 ?_
 repeat' (first|(show aN _ _ _ _ _ _ _;refine Fp ?_;intro _)|refine UN ?_|refine w5 ?_ ?_|((refine bh fun h=>?_) <;> try exact w6 h)|(refine aE fun hA=>?_;subst hA)|intro _)
 rename_i m
 refine l7 (aG.nilrow 333 Nv _) ?_
 refine fZ (fun kk a C'=>∃(j ck:Nat) (seen:List (KE Bool)) (os:List Tu) (B:Option Addr) (d:Nat),j+kk=l.length∧os.length≤j∧os++pW seen ck (l.drop j)=pW [] 0 l∧cJ a [(0,.slice A l.length c),(3,.map (some m)),(4,.slice B os.length d),(8,.slice A l.length c),(9,I6 l.length),(10,I6 j)]∧C'=bQ B d 333 Nv os::mp m (kM blE seen) ck::C) l.length (bV l.length ⟨0,0,[],[],none,0,by omega,by simp,rfl,⟨rfl,rfl,rfl,rfl,rfl,rfl,trivial⟩,rfl⟩ (by omega)) ?_
 rintro kk a C' ⟨j,ck,seen,os,B,d,hj,hol,hos,ha,rfl⟩
 have hv':dT (bQ B d 333 Nv os::mp m (kM blE seen) ck::C) A Nv l:=bM (bM hv)
 refine fP _ ha ?_
 simp only[eP]
 by_cases hlt:j<l.length
 ·obtain⟨x,hx⟩:∃x,l[j]?=some x:=⟨_,List.getElem?_eq_getElem hlt⟩
  have hx':l[((j:Nat):Int).toNat]?=some x:=by rw[Int.toNat_natCast];exact hx
  have hd:l.drop j=x::l.drop (j+1):=by rw[List.drop_eq_getElem_cons hlt,(List.getElem?_eq_some_iff.1 hx).2]
  rw[hd,Z7] at hos
  by_cases hc:(gQ x.id seen).getD false=false∧x.rd=true
  ·rw[if_pos hc,← List.append_assoc] at hos
   obtain⟨hc1,hc2⟩:=hc
   repeat' (first|(show aN _ _ _ _ _ _ _;first|(refine jD ?_ (hv:=I7);rw[hc1])|refine kE ?_ (hv:=Q1 (enc:=blE) (v:=true)) (hu:=by exact rfl)|(refine cU (E:=Nv) (xs:=os) (ys:= [x]) ?_;intro B2 d2))|refine UN ?_|refine w5 ?_ ?_|((refine bh fun h=>?_) <;> try exact w6 h)|(refine aE fun hA=>?_;subst hA)|intro _)
   all_goals(show aT _ _ _ _;exact bV (kk - 1) ⟨j+1,_,_,os++ [x],B2,d2,by omega,by rw[List.length_append];exact Nat.succ_le_succ hol,hos,⟨rfl,rfl,rfl,rfl,rfl,rfl,trivial⟩,rfl⟩)
  ·rw[if_neg hc,List.nil_append] at hos
   cases hc1:(gQ x.id seen).getD false
   ·have hc2:x.rd=false:=by
     cases hx2:x.rd
     ·rfl
     ·exact absurd ⟨hc1,hx2⟩ hc
    repeat' (first|(show aN _ _ _ _ _ _ _;first|(refine jD ?_ (hv:=I7);rw[hc1])|refine kE ?_ (hv:=Q1 (enc:=blE) (v:=true)) (hu:=by exact rfl))|refine UN ?_|refine w5 ?_ ?_|((refine bh fun h=>?_) <;> try exact w6 h)|(refine aE fun hA=>?_;subst hA)|intro _)
    all_goals(show aT _ _ _ _;exact bV (kk - 1) ⟨j+1,_,_,os,B,d,by omega,by omega,hos,⟨rfl,rfl,rfl,rfl,rfl,rfl,trivial⟩,rfl⟩)
   ·repeat' (first|(show aN _ _ _ _ _ _ _;first|(refine jD ?_ (hv:=I7);rw[hc1])|refine kE ?_ (hv:=Q1 (enc:=blE) (v:=true)) (hu:=by exact rfl))|refine UN ?_|refine w5 ?_ ?_|((refine bh fun h=>?_) <;> try exact w6 h)|(refine aE fun hA=>?_;subst hA)|intro _)
    all_goals(show aT _ _ _ _;exact bV (kk - 1) ⟨j+1,_,_,os,B,d,by omega,by omega,hos,⟨rfl,rfl,rfl,rfl,rfl,rfl,trivial⟩,rfl⟩)
 ·rw[List.drop_eq_nil_of_le (by omega)] at hos
  have hos:os=pW [] 0 l:=by simpa[pW] using hos
  subst hos
  repeat' (first|refine UN ?_|refine w5 ?_ ?_|((refine bh fun h=>?_) <;> try exact w6 h)|(refine aE fun hA=>?_;subst hA)|intro _)
  all_goals(refine aC ?_;exact aB (hK _ _))
def zX (pk:List (KE Int)) (l:List Tu):Value:=match rM pk l with
 |some id=>.tuple #[I6 id,.bool true]
 |none=>.tuple #[I6 0,.bool false]
theorem Adv {pk:List (KE Int)} {x:Tu} {j:Nat} (h:l[j]?=some x):rM pk (l.drop j)=if 1≤p9 x.id pk then some x.id else rM pk (l.drop (j+1)):=by
 have hj:=(List.getElem?_eq_some_iff.1 h).1
 rw[List.drop_eq_getElem_cons hj,(List.getElem?_eq_some_iff.1 h).2]
 rfl
theorem Aaa {pk:List (KE Int)} {x:Tu} {j:Nat} {m:Int} (h:l[j]?=some x):FP pk (l.drop j) m=FP pk (l.drop (j+1)) (min m (vU pk x)):=by
 have hj:=(List.getElem?_eq_some_iff.1 h).1
 rw[List.drop_eq_getElem_cons hj,(List.getElem?_eq_some_iff.1 h).2]
 rfl
theorem ZU {x:Tu} {j:Nat} {m:Int} (h:l[j]?=some x):wV m (l.drop j) s=wV m (l.drop (j+1)) (jK x.id (p9 x.id s.1+m * Cs x) s):=by
 have hj:=(List.getElem?_eq_some_iff.1 h).1
 rw[List.drop_eq_getElem_cons hj,(List.getElem?_eq_some_iff.1 h).2]
 rfl
theorem G8 {pk:List (KE Int)}:∀ {l:List Tu},rM pk l=none→∀x∈l,p9 x.id pk≤0
 | [],_,x,hx=>by cases hx
 |z::r,h,x,hx=>by
  unfold rM at h
  split at h
  ·cases h
  ·rename_i hz
   rcases List.mem_cons.1 hx with rfl|hx
   ·omega
   ·exact G8 h x hx
theorem yL {pk:List (KE Int)} (hs:l.length≤100000) (hK:K (zX pk l) (bQ A c 333 Nv l::pt p [.map (some q)] 211::mp q (kM LB pk) ck::R)):CT 283 #[PO p,.slice A l.length c] (bQ A c 333 Nv l::pt p [.map (some q)] 211::mp q (kM LB pk) ck::R) K:=by
 refine aH Tryz.func283 ?_
 repeat' (first|refine KV ?_|refine w5 ?_ ?_|((refine bh fun h=>?_) <;> try exact w6 h)|(refine aE fun hA=>?_;subst hA)|intro _)
 refine fZ (fun kk a C'=>∃j:Nat,j+kk=l.length∧rM pk (l.drop j)=rM pk l∧cJ a [(0,PO p),(6,I6 0),(7,.bool false),(10,.slice A l.length c),(11,I6 l.length),(12,I6 j)]∧C'=bQ A c 333 Nv l::pt p [.map (some q)] 211::mp q (kM LB pk) ck::R) l.length (bV l.length ⟨0,by omega,rfl,⟨rfl,rfl,rfl,rfl,rfl,rfl,trivial⟩,rfl⟩ (by omega)) ?_
 rintro kk a C' ⟨j,hj,hf,ha,rfl⟩
 refine fP _ ha ?_
 simp only[eP]
 by_cases hlt:j<l.length
 ·obtain⟨x,hx⟩:∃x,l[j]?=some x:=⟨_,List.getElem?_eq_getElem hlt⟩
  have hx':l[((j:Nat):Int).toNat]?=some x:=by rw[Int.toNat_natCast];exact hx
  rw[Adv hx] at hf
  by_cases h1:1≤p9 x.id pk
  ·rw[if_pos h1] at hf
   unfold zX at hK
   rw[← hf] at hK
   repeat' (first|refine KV ?_|refine w5 ?_ ?_|((refine bh fun h=>?_) <;> try exact w6 h)|(refine aE fun hA=>?_;subst hA)|intro _|(show aA _ 286 _ _ _;refine CA (h:=p5 ?_)))
   all_goals(refine aC ?_;exact aB (hK))
  ·rw[if_neg h1] at hf
   repeat' (first|refine KV ?_|refine w5 ?_ ?_|((refine bh fun h=>?_) <;> try exact w6 h)|(refine aE fun hA=>?_;subst hA)|intro _|(show aA _ 286 _ _ _;refine CA (h:=p5 ?_)))
   all_goals(show aT _ _ _ _;exact bV (kk - 1) ⟨j+1,by omega,hf,⟨rfl,rfl,rfl,rfl,rfl,rfl,trivial⟩,rfl⟩)
 ·rw[List.drop_eq_nil_of_le (by omega)] at hf
  unfold zX at hK
  rw[← hf] at hK
  repeat' (first|refine KV ?_|refine w5 ?_ ?_|((refine bh fun h=>?_) <;> try exact w6 h)|(refine aE fun hA=>?_;subst hA)|intro _)
  all_goals(refine aC ?_;exact aB (hK))
theorem Tq (x:Tu):1≤Cs x∧Cs x≤256:=by unfold Cs;omega
theorem Mq {pk:List (KE Int)} {x:Tu} (h0:p9 x.id pk≤0) (h1:-1024≤p9 x.id pk):0≤vU pk x∧vU pk x≤1280:=by
 have hw:=Tq x
 unfold vU
 have h2:0≤Cs x - p9 x.id pk:=by omega
 exact⟨Int.ediv_nonneg h2 (by omega),Int.le_trans (Int.ediv_le_self _ h2) (by omega)⟩
def En:List (Nat×Nat):= [(0,0),(1,1),(2,1),(3,1),(4,1),(5,1),(7,2),(8,1),(6,1),(9,0),(10,0)]
theorem OW {pk:List (KE Int)} {r2:Nat} (h0:p9 x.id pk≤0) (h1:-1024≤p9 x.id pk) (hK:K (I6 (vU pk x)) (pt r2 [PO p] 110::pt p [.map (some q)] 211::mp q (kM LB pk) ck::R)):CT 284 #[.agg #[I6 x.id,I6 x.w,.bool x.rd],PO r2] (pt r2 [PO p] 110::pt p [.map (some q)] 211::mp q (kM LB pk) ck::R) K:=by
 have hw:=Tq x
 have hb:=Mq h0 h1
 have hm:IntKind.wrap .i64 ((Cs x - p9 x.id pk) / Cs x)=(Cs x - p9 x.id pk) / Cs x:=uV (by unfold vU at hb;omega) (by unfold vU at hb;omega)
 refine aH Tryz.func284 ?_
 repeat' (first|refine v84 ?_|refine dw En ?_|refine w5 ?_ ?_|((refine bh fun h=>?_) <;> try exact w6 h)|(refine aE fun hA=>?_;subst hA)|intro _|(show aA _ 285 _ _ _;refine CA (h:=U3 ?_))|(show aA _ 286 _ _ _;refine CA (h:=p5 ?_)))
 all_goals(refine aC ?_;exact aB (hK))
theorem Nk {id n:Int} (h:K4 s):K4 (jK id n s):=fun e he=>by
 unfold jK HT at he
 simp only at he
 split at he
 ·exact h e (I9 he)
 ·rcases O2 he with hv|he
  ·rw[hv];unfold Na;omega
  ·exact h e he
theorem Af0 {id:Int} (h:K4 s):K4 (mQ id s.1,s.2):=fun e he=>h e (I9 he)
theorem Ub {m:Int}:∀ {l:List Tu} {s:xR},K4 s→K4 (wV m l s)
 | [],_,h=>h
 |_::_,_,h=>by unfold wV;exact Ub (Nk h)
theorem Ml {l:List Tu} (h:K4 s):K4 (As s l).2:=by
 unfold As
 split
 ·exact h
 ·split
  ·exact h
  ·exact Ub h
def Lv (s:xR) (l:List Tu):Value:=match (As s l).1 with
 |some id=>.tuple #[I6 id,.bool true]
 |none=>.tuple #[I6 0,.bool false]
theorem K6:∀(l:List Tu) (seen:List (KE Bool)) (ck:Nat),(pW seen ck l).length≤l.length
 | [],_,_=>Nat.le_refl _
 |x::r,seen,ck=>by
  have h:=K6 r (tC x.id true ck seen) (kCk x.id ck seen)
  unfold pW
  split
  ·simp only[List.length_cons];omega
  ·simp only[List.length_cons];omega
def d5:List (Nat×Nat):= [(3,0),(4,0),(5,0),(6,1),(8,1),(9,1),(0,2),(1,2),(2,2),(7,2),(10,0),(11,0),(12,1)]
theorem xP (hs:l.length≤10000) (hb:K4 s) (hK:K (Lv s l) (pt p [.map (some q)] 211::mp q (kM LB (As s l).2.1) (As s l).2.2::R)):CT 190 #[PO p,.slice A l.length c] (bQ A c 333 Nv l::pt p [.map (some q)] 211::mp q (kM LB s.1) s.2::R) K:=by
 have hle:=K6 l [] 0
 unfold Lv As at hK
 generalize hw:pW [] 0 l=w at hK hle
 cases w with
 |nil=>
  refine aH Tryz.func190 ?_
  repeat' (first|refine v94 ?_|refine dw d5 ?_|refine w5 ?_ ?_|((refine bh fun h=>?_) <;> try exact w6 h)|(refine aE fun hA=>?_;subst hA)|intro _|(show aA _ 282 _ _ _;refine CA (h:=Cz (l:=l) (by exact kF) rfl (by omega) (fun B d=>?_));rw[hw]))
  all_goals(refine aC ?_;exact aB (hK))
 |cons x0 w=>
  simp only at hK
  cases hf:rM s.1 (x0::w) with
  |some id=>
   rw[hf] at hK
   simp only at hK
   have hv:zX s.1 (x0::w)=.tuple #[I6 id,.bool true]:=by unfold zX;rw[hf]
   refine aH Tryz.func190 ?_
   repeat' (first|refine v94 ?_|refine dw d5 ?_|refine w5 ?_ ?_|((refine bh fun h=>?_) <;> try exact w6 h)|(refine aE fun hA=>?_;subst hA)|intro _|(show aA _ 282 _ _ _;refine CA (h:=Cz (l:=l) (by exact kF) rfl (by omega) (fun B d=>?_));rw[hw])|(show aA _ 283 _ _ _;refine CA (h:=yL (l:=x0::w) (by omega) ?_);rw[hv]))
   all_goals(refine aC ?_;exact aB (hK))
  |none=>
   rw[hf] at hK
   simp only at hK
   have hv:zX s.1 (x0::w)=.tuple #[I6 0,.bool false]:=by unfold zX;rw[hf]
   have h0:=G8 hf
   have hx0:(x0::w)[(0:Int).toNat]?=some x0:=rfl
   have hpos:0<(x0::w).length:=by simp
   have hr0:=Mq (h0 x0 (List.mem_cons_self ..)) (E1 hb _).1
   refine aH Tryz.func190 ?_
   repeat' (first|refine v94 ?_|refine dw d5 ?_|refine w5 ?_ ?_|((refine bh fun h=>?_) <;> try exact w6 h)|(refine aE fun hA=>?_;subst hA)|intro _|(show aA _ 282 _ _ _;refine CA (h:=Cz (l:=l) (by exact kF) rfl (by omega) (fun B d=>?_));rw[hw])|(show aA _ 283 _ _ _;refine CA (h:=yL (l:=x0::w) (by omega) ?_);rw[hv])|(show aA _ 284 _ _ _;refine CA (h:=OW (h0 _ (List.mem_cons_self ..)) (E1 hb _).1 ?_)))
   rename_i r2 B0 o0
   refine fZ (fun kk a C'=>∃(j:Nat) (m:Int),j+kk=(x0::w).length∧FP s.1 ((x0::w).drop j) m=FP s.1 (x0::w) (vU s.1 x0)∧0≤m∧m≤1280∧cJ a [(1,.slice (some ⟨B0,o0,none⟩) (x0::w).length d),(2,PO r2),(8,.func (.func 284) #[] #[PO r2]),(9,I6 m),(37,.slice (some ⟨B0,o0,none⟩) (x0::w).length d),(38,I6 (x0::w).length),(39,I6 j)]∧C'=bQ (some ⟨B0,o0,none⟩) d 333 Nv (x0::w)::pt p [.map (some q)] 211::mp q (kM LB s.1) s.2::pt r2 [PO p] 110::R) (x0::w).length (bV (x0::w).length ⟨0,vU s.1 x0,by omega,rfl,hr0.1,hr0.2,⟨rfl,rfl,rfl,rfl,rfl,rfl,rfl,trivial⟩,rfl⟩ (by omega)) ?_
   rintro kk a C' ⟨j,m,hj,hm,hm0,hm1,ha,rfl⟩
   refine fP _ ha ?_
   simp only[eP]
   by_cases hlt:j<(x0::w).length
   ·obtain⟨x,hx⟩:∃x,(x0::w)[j]?=some x:=⟨_,List.getElem?_eq_getElem hlt⟩
    have hx':(x0::w)[((j:Nat):Int).toNat]?=some x:=by rw[Int.toNat_natCast];exact hx
    have hxm:=List.mem_of_getElem? hx
    have hrx:=Mq (h0 x hxm) (E1 hb _).1
    rw[Aaa hx] at hm
    repeat' (first|refine v94 ?_|refine dw d5 ?_|refine w5 ?_ ?_|((refine bh fun h=>?_) <;> try exact w6 h)|(refine aE fun hA=>?_;subst hA)|intro _|(show aA _ 284 _ _ _;refine CA (h:=OW (h0 _ hxm) (E1 hb _).1 ?_)))
    all_goals(show aT _ _ _ _;exact bV (kk - 1) ⟨j+1,min m (vU s.1 x),by omega,hm,by omega,by omega,⟨rfl,rfl,rfl,rfl,rfl,rfl,rfl,trivial⟩,rfl⟩)
   ·rw[List.drop_eq_nil_of_le (by omega)] at hm
    have hm:m=FP s.1 (x0::w) (vU s.1 x0):=hm
    rw[← hm] at hK
    repeat' (first|refine v94 ?_|refine dw d5 ?_|refine w5 ?_ ?_|((refine bh fun h=>?_) <;> try exact w6 h)|(refine aE fun hA=>?_;subst hA)|intro _)
    refine fZ (fun kk a C'=>∃(j:Nat) (s':xR),j+kk=(x0::w).length∧wV m ((x0::w).drop j) s'=wV m (x0::w) s∧K4 s'∧cJ a [(1,.slice (some ⟨B0,o0,none⟩) (x0::w).length d),(2,PO r2),(9,I6 m),(49,.slice (some ⟨B0,o0,none⟩) (x0::w).length d),(50,I6 (x0::w).length),(51,I6 j)]∧C'=bQ (some ⟨B0,o0,none⟩) d 333 Nv (x0::w)::pt p [.map (some q)] 211::mp q (kM LB s'.1) s'.2::pt r2 [PO p] 110::R) (x0::w).length (bV (x0::w).length ⟨0,s,by omega,rfl,hb,⟨rfl,rfl,rfl,rfl,rfl,rfl,trivial⟩,rfl⟩ (by omega)) ?_
    rintro kk a C' ⟨j,s',hj,hs',hb',ha,rfl⟩
    refine fP _ ha ?_
    simp only[eP]
    by_cases hlt:j<(x0::w).length
    ·obtain⟨x,hx⟩:∃x,(x0::w)[j]?=some x:=⟨_,List.getElem?_eq_getElem hlt⟩
     have hx':(x0::w)[((j:Nat):Int).toNat]?=some x:=by rw[Int.toNat_natCast];exact hx
     have hwt:=Tq x
     have hlx:=E1 hb' x.id
     have hp0:0≤m * Cs x:=Int.mul_nonneg hm0 (by omega)
     have JE:m * Cs x≤1280 * 256:=Int.mul_le_mul hm1 hwt.2 (by omega) (by omega)
     rw[ZU hx] at hs'
     repeat' (first|refine v94 ?_|refine dw d5 ?_|refine w5 ?_ ?_|((refine bh fun h=>?_) <;> try exact w6 h)|(refine aE fun hA=>?_;subst hA)|intro _|(show aA _ 286 _ _ _;refine CA (h:=p5 ?_))|(show aA _ 285 _ _ _;refine CA (h:=U3 ?_))|(show aA _ 287 _ _ _;refine CA (h:=H9 ?_)))
     all_goals(show aT _ _ _ _;exact bV (kk - 1) ⟨j+1,_,by omega,hs',Nk hb',⟨rfl,rfl,rfl,rfl,rfl,rfl,trivial⟩,rfl⟩)
    ·rw[List.drop_eq_nil_of_le (by omega)] at hs'
     have hs':s'=wV m (x0::w) s:=hs'
     subst hs'
     have hfv:zX (wV m (x0::w) s).1 (x0::w)=match rM (wV m (x0::w) s).1 (x0::w) with
      |some id=>.tuple #[I6 id,.bool true]
      |none=>.tuple #[I6 0,.bool false]:=rfl
     cases hf2:rM (wV m (x0::w) s).1 (x0::w) with
     |some id=>
      rw[hf2] at hK hfv
      repeat' (first|refine v94 ?_|refine dw d5 ?_|refine w5 ?_ ?_|((refine bh fun h=>?_) <;> try exact w6 h)|(refine aE fun hA=>?_;subst hA)|intro _|(show aA _ 283 _ _ _;refine CA (h:=yL (l:=x0::w) (by omega) ?_);rw[hfv]))
      all_goals(refine aC ?_;exact aB (hK))
     |none=>
      rw[hf2] at hK hfv
      repeat' (first|refine v94 ?_|refine dw d5 ?_|refine w5 ?_ ?_|((refine bh fun h=>?_) <;> try exact w6 h)|(refine aE fun hA=>?_;subst hA)|intro _|(show aA _ 283 _ _ _;refine CA (h:=yL (l:=x0::w) (by omega) ?_);rw[hfv]))
      all_goals(refine aC ?_;exact aB (hK))
end
end
end Go.Proofs.YtifgibijcmppmaaGreat
