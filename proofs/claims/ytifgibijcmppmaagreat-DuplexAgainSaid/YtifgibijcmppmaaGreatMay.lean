/- A part of the proof: lemmas; each with the conditions that it states. -/
import Derived.Test.YtifgibijcmppmaaGreatMas
import Derived.Test.YtifgibijcmppmaaGreatMau
set_option linter.unusedVariables false
set_option linter.unusedSimpArgs false
namespace Go.Proofs.YtifgibijcmppmaaGreat
open Go Go.Proofs Go.Sl
set_option maxRecDepth 100000
set_option maxHeartbeats 40000000
attribute [local irreducible] aM fG cV bP aN aW aA dP dX aV dO pt ro eW star sep bH
attribute [local irreducible] mp Ec
section
variable {R C:List HP} {K:Value→List HP→Prop}
structure i6 where
 id:Int
 a:Nat
def Yi:List Value→Option i6
 | [.int .i64 id,.pointer (some ⟨w,0,none⟩)]=>some ⟨id,w⟩
 |_=>none
theorem Ab2 (cs:List Value) (y:i6) (h:Yi cs=some y): [.int .i64 y.id,.pointer (some ⟨y.a,0,none⟩)]=cs:=by
 unfold Yi at h
 split at h
 ·cases h;rfl
 ·cases h
def eV:tG i6:= { enc:=fun p=> [.int .i64 p.id,.pointer (some ⟨p.a,0,none⟩)],sz:=2,dec:=Yi,len:=fun _=>rfl,one:=fun _=>rfl,ok:=Ab2 }
def EI {α:Type} (xs:List α) (lo k i p:Nat):Option α:=if lo≤p∧p<lo+k∧(p<lo+i∨lo+k≤p+i) then xs[2 * lo+k - 1 - p]? else xs[p]?
theorem Ua {α:Type} {P M S ys:List α} {i:Nat} (hi:M.length≤2 * i+1) (h:∀p,ys[p]?=EI (P++(M++S)) P.length M.length i p):ys=P++(M.reverse++S):=by
 apply List.ext_getElem?
 intro p
 rw[h]
 unfold EI
 by_cases h1:p<P.length
 ·rw[if_neg (by omega),List.getElem?_append_left h1,List.getElem?_append_left h1]
 ·by_cases h2:p<P.length+M.length
  ·have rhs:(P++(M.reverse++S))[p]?=M[M.length - 1 - (p - P.length)]?:=by rw[List.getElem?_append_right (by omega),List.getElem?_append_left (by rw[List.length_reverse];omega),List.getElem?_reverse (by omega)]
   have lhs:∀t,P.length≤t→t<P.length+M.length→(P++(M++S))[t]?=M[t - P.length]?:=fun t h3 h4=>by rw[List.getElem?_append_right h3,List.getElem?_append_left (by omega)]
   rw[rhs]
   by_cases h3:P.length≤p∧p<P.length+M.length∧(p<P.length+i∨P.length+M.length≤p+i)
   ·rw[if_pos h3,lhs _ (by omega) (by omega)]
    congr 1
    omega
   ·rw[if_neg h3,lhs _ (by omega) (by omega)]
    congr 1
    omega
  ·rw[if_neg (by omega),List.getElem?_append_right (by omega),List.getElem?_append_right (by omega),List.getElem?_append_right (by omega),List.getElem?_append_right (by rw[List.length_reverse];omega),List.length_reverse]
theorem Ph {α:Type} {xs ys:List α} {lo k i:Nat} {u v:α} (hk:lo+k≤xs.length) (hi:2 * i+1<k) (hl:ys.length=xs.length) (h:∀p,ys[p]?=EI xs lo k i p) (hu:ys[lo+i]?=some u) (hv:ys[lo+(k - 1 - i)]?=some v) (p:Nat):((ys.set (lo+i) v).set (lo+(k - 1 - i)) u)[p]?=EI xs lo k (i+1) p:=by
 have e1:xs[lo+i]?=some u:=by rw[← hu,h];unfold EI;rw[if_neg (by omega)]
 have e2:xs[lo+(k - 1 - i)]?=some v:=by rw[← hv,h];unfold EI;rw[if_neg (by omega)]
 rw[List.getElem?_set,List.getElem?_set,List.length_set]
 by_cases h1:lo+(k - 1 - i)=p
 ·subst h1
  rw[if_pos rfl,if_pos (by omega)]
  unfold EI
  rw[if_pos (by omega),← e1]
  congr 1
  omega
 ·rw[if_neg h1]
  by_cases h2:lo+i=p
  ·subst h2
   rw[if_pos rfl,if_pos (by omega)]
   unfold EI
   rw[if_pos (by omega),← e2]
   congr 1
   omega
  ·rw[if_neg h2,h]
   unfold EI
   by_cases h3:lo≤p∧p<lo+k∧(p<lo+i∨lo+k≤p+i)
   ·rw[if_pos h3,if_pos (by omega)]
   ·rw[if_neg h3,if_neg (by omega)]
section
variable {A:Option Addr} {B off kc c0 lo k:Nat}
def pX:List (Nat×Nat):= [(0,0),(1,0),(4,0),(5,0),(6,0),(7,0),(8,0),(9,0),(10,0),(11,0),(12,0),(13,1),(2,1),(3,1),(14,0),(15,1)]
theorem LB {P M S xs:List gU} (hxs:xs=P++(M++S)) (hlo:lo=P.length) (hk:k=M.length) (hA:A=some ⟨B,off+lo * 3,none⟩) (hs:xs.length≤100000) (hK:K (.tuple #[]) (bU (some ⟨B,off,none⟩) c0 329 vX (P++(M.reverse++S))::R)):aA Tryz.prog 410 #[.slice A k kc] (bU (some ⟨B,off,none⟩) c0 329 vX xs::R) K:=by
 subst hA
 have hlk:lo+k≤xs.length:=by rw[hxs,hlo,hk];simp only[List.length_append];omega
 refine aH Tryz.func410 ?_
 repeat' (first|refine v28 ?_|refine dw pX ?_|refine wr ?_|refine w5 ?_ ?_|((refine bh fun h=>?_) <;> try exact w6 h)|(refine aE fun hA=>?_;subst hA)|intro _)
 refine iL (fun kk a C'=>∃(i:Nat) (ys:List gU),i+kk=k∧2 * i≤k+1∧ys.length=xs.length∧(∀p,ys[p]?=EI xs lo k i p)∧dC a [(0,.slice (some ⟨B,off+lo * 3,none⟩) k kc),(2,.int .i64 i),(3,.int .i64 ((k:Int) - 1 - i))]∧C'=bU (some ⟨B,off,none⟩) c0 329 vX ys::R) k (cC k ⟨0,xs,by omega,by omega,rfl,(fun p=>by unfold EI;rw[if_neg (by omega)]),⟨rfl,rfl,congrArg (Value.int .i64) (by omega),trivial⟩,rfl⟩ (by omega)) ?_
 rintro kk a C' ⟨i,ys,hi,h2,hl,hp,ha,rfl⟩
 refine gV _ ha ?_
 simp only[fN]
 by_cases hlt:(i:Int)<(k:Int) - 1 - i
 ·obtain⟨u,hu⟩:∃u,ys[lo+i]?=some u:=⟨_,List.getElem?_eq_getElem (by omega)⟩
  obtain⟨v,hv⟩:∃v,ys[lo+(k - 1 - i)]?=some v:=⟨_,List.getElem?_eq_getElem (by omega)⟩
  have hti:((i:Nat):Int).toNat=i:=Int.toNat_natCast i
  have htj:((k:Int) - 1 - i).toNat=k - 1 - i:=by omega
  have hu':ys[lo+((i:Nat):Int).toNat]?=some u:=by rw[hti];exact hu
  have hv':ys[lo+((k:Int) - 1 - i).toNat]?=some v:=by rw[htj];exact hv
  have hv2:(ys.set (lo+((i:Nat):Int).toNat) v)[lo+((k:Int) - 1 - i).toNat]?=some v:=by rw[htj,hti,List.getElem?_set,if_neg (by omega)];exact hv
  have hsw:=Ph hlk (by omega) hl hp hu hv
  repeat' (first|(show aM _ _ _ _ _ _ _;refine NW (lo:=lo) ?_)|refine v28 ?_|refine dw pX ?_|refine wr ?_|refine w5 ?_ ?_|((refine bh fun h=>?_) <;> try exact w6 h)|(refine aE fun hA=>?_;subst hA)|intro _|(show aM _ _ _ _ _ _ _;first|refine aO (u:=v) ?_ (hj:=hv')|refine aO (u:=u) ?_ (hj:=hu')|refine tE (y':=v) ?_ (hj:=hu')|refine tE (y':=u) ?_ (hj:=hv2)))
  all_goals(show aV _ _ _ _;exact cC (kk - 1) ⟨i+1,(ys.set (lo+((i:Nat):Int).toNat) v).set (lo+((k:Int) - 1 - i).toNat) u,by omega,by omega,by rw[List.length_set,List.length_set];exact hl,by rw[hti,htj];exact hsw,⟨rfl,rfl,congrArg (Value.int .i64) (by omega),trivial⟩,rfl⟩)
 ·have he:ys=P++(M.reverse++S):=Ua (i:=i) (by omega) (by rw[← hxs,← hlo,← hk];exact hp)
  subst he
  repeat' (first|refine v28 ?_|refine dw pX ?_|refine wr ?_|refine w5 ?_ ?_|((refine bh fun h=>?_) <;> try exact w6 h)|(refine aE fun hA=>?_;subst hA)|intro _)
  all_goals(refine aC ?_;exact aB (hK))
theorem Aat {P D xs:List gU} {y:gU} {r:Int} (hxs:xs=P++(D++ [y])) (hlo:lo=P.length) (hk:k=D.length+1) (hr:r=D.length) (hkc:k≤kc) (hA:A=some ⟨B,off+lo * 3,none⟩) (hs:xs.length≤100000) (hK:K (.tuple #[]) (bU (some ⟨B,off,none⟩) c0 329 vX (P++(y::D))::R)):aA Tryz.prog 394 #[.slice A k kc,.int .i64 r] (bU (some ⟨B,off,none⟩) c0 329 vX xs::R) K:=by
 subst hA hr
 have hlen:xs.length=lo+k:=by rw[hxs,hlo,hk];simp <;> omega
 refine aH Tryz.func394 ?_
 repeat' (first|(show aM _ _ _ _ _ _ _;refine mJ (sz:=3) ?_;intro A' hA')|refine v8 ?_|refine wr ?_|refine w5 ?_ ?_|((refine bh fun h=>?_) <;> try exact w6 h)|(refine aE fun hA=>?_;subst hA)|intro _)
 have hs2:P.length+D.length+1≤100000:=by rw[hxs,List.length_append,List.length_append] at hs;exact hs
 refine CA (h:=LB (P:=P) (M:=D) (S:= [y]) hxs hlo (by simp) (by rw[Gj hA' (by omega)] <;> simp) hs ?_)
 repeat' (first|(show aM _ _ _ _ _ _ _;refine mJ (sz:=3) ?_;intro A2 hA2)|refine v8 ?_|refine wr ?_|refine w5 ?_ ?_|((refine bh fun h=>?_) <;> try exact w6 h)|(refine aE fun hA=>?_;subst hA)|intro _)
 refine CA (h:=LB (xs:=P++(D.reverse++ [y])) (P:=P++D.reverse) (M:= [y]) (S:= []) (by simp) (lo:=lo+D.length) (by simp[hlo]) (by simp[hk]) ((Gj hA2 (by omega)).trans (congrArg (fun o=>some (⟨B,o,none⟩:Addr)) (by rw[Int.toNat_natCast];omega))) (by simp only[List.length_append,List.length_reverse,List.length_cons,List.length_nil];omega) ?_)
 repeat' (first|refine v8 ?_|refine wr ?_|refine w5 ?_ ?_|((refine bh fun h=>?_) <;> try exact w6 h)|(refine aE fun hA=>?_;subst hA)|intro _)
 refine CA (h:=LB (xs:=P++D.reverse++([y].reverse++ [])) (P:=P) (M:=D.reverse++ [y]) (S:= []) (by simp) hlo (by simp[hk]) rfl (by simp only[List.length_append,List.length_reverse,List.length_cons,List.length_nil];omega) ?_)
 rw[show P++((D.reverse++ [y]).reverse++ [])=P++(y::D) by simp]
 repeat' (first|refine v8 ?_|refine wr ?_|refine w5 ?_ ?_|((refine bh fun h=>?_) <;> try exact w6 h)|(refine aE fun hA=>?_;subst hA)|intro _)
 all_goals(refine aC ?_;exact aB (hK))
theorem Aa4 {P D xs:List gU} {y:gU} (hxs:xs=P++(D++ [y])) (hlo:lo=P.length) (hk:k=D.length+1) (hkc:k≤kc) (hA:A=some ⟨B,off+lo * 3,none⟩) (hs:xs.length≤100000) (hK:K (.tuple #[]) (bU (some ⟨B,off,none⟩) c0 329 vX (P++(y::D))::R)):aA Tryz.prog 368 #[.slice A k kc,.int .i64 1] (bU (some ⟨B,off,none⟩) c0 329 vX xs::R) K:=by
 have hlen:xs.length=lo+k:=by rw[hxs,hlo,hk];simp <;> omega
 refine aH Tryz.func368 ?_
 repeat' (first|refine v8 ?_|refine wr ?_|refine w5 ?_ ?_|((refine bh fun h=>?_) <;> try exact w6 h)|(refine aE fun hA=>?_;subst hA)|intro _|(show aA _ 394 _ _ _;refine CA (h:=Aat hxs hlo hk (by omega) hkc hA hs ?_)))
 all_goals(refine aC ?_;exact aB (hK))
def qA:List (Nat×Nat):= [(0,0),(1,0),(4,0),(5,0),(6,0),(7,0),(8,0),(9,0),(10,0),(11,0),(12,0),(13,1),(2,1),(3,1),(14,0),(15,1)]
theorem Mm {P M S xs:List i6} (hxs:xs=P++(M++S)) (hlo:lo=P.length) (hk:k=M.length) (hA:A=some ⟨B,off+lo * 2,none⟩) (hs:xs.length≤100000) (hK:K (.tuple #[]) (bU (some ⟨B,off,none⟩) c0 255 eV (P++(M.reverse++S))::R)):aA Tryz.prog 409 #[.slice A k kc] (bU (some ⟨B,off,none⟩) c0 255 eV xs::R) K:=by
 subst hA
 have hlk:lo+k≤xs.length:=by rw[hxs,hlo,hk];simp only[List.length_append];omega
 refine aH Tryz.func409 ?_
 repeat' (first|refine v28 ?_|refine dw qA ?_|refine wr ?_|refine w5 ?_ ?_|((refine bh fun h=>?_) <;> try exact w6 h)|(refine aE fun hA=>?_;subst hA)|intro _)
 refine iL (fun kk a C'=>∃(i:Nat) (ys:List i6),i+kk=k∧2 * i≤k+1∧ys.length=xs.length∧(∀p,ys[p]?=EI xs lo k i p)∧dC a [(0,.slice (some ⟨B,off+lo * 2,none⟩) k kc),(2,.int .i64 i),(3,.int .i64 ((k:Int) - 1 - i))]∧C'=bU (some ⟨B,off,none⟩) c0 255 eV ys::R) k (cC k ⟨0,xs,by omega,by omega,rfl,(fun p=>by unfold EI;rw[if_neg (by omega)]),⟨rfl,rfl,congrArg (Value.int .i64) (by omega),trivial⟩,rfl⟩ (by omega)) ?_
 rintro kk a C' ⟨i,ys,hi,h2,hl,hp,ha,rfl⟩
 refine gV _ ha ?_
 simp only[fN]
 by_cases hlt:(i:Int)<(k:Int) - 1 - i
 ·obtain⟨u,hu⟩:∃u,ys[lo+i]?=some u:=⟨_,List.getElem?_eq_getElem (by omega)⟩
  obtain⟨v,hv⟩:∃v,ys[lo+(k - 1 - i)]?=some v:=⟨_,List.getElem?_eq_getElem (by omega)⟩
  have hti:((i:Nat):Int).toNat=i:=Int.toNat_natCast i
  have htj:((k:Int) - 1 - i).toNat=k - 1 - i:=by omega
  have hu':ys[lo+((i:Nat):Int).toNat]?=some u:=by rw[hti];exact hu
  have hv':ys[lo+((k:Int) - 1 - i).toNat]?=some v:=by rw[htj];exact hv
  have hv2:(ys.set (lo+((i:Nat):Int).toNat) v)[lo+((k:Int) - 1 - i).toNat]?=some v:=by rw[htj,hti,List.getElem?_set,if_neg (by omega)];exact hv
  have hsw:=Ph hlk (by omega) hl hp hu hv
  repeat' (first|(show aM _ _ _ _ _ _ _;refine NW (lo:=lo) ?_)|refine v28 ?_|refine dw qA ?_|refine wr ?_|refine w5 ?_ ?_|((refine bh fun h=>?_) <;> try exact w6 h)|(refine aE fun hA=>?_;subst hA)|intro _|(show aM _ _ _ _ _ _ _;first|refine aO (u:=v) ?_ (hj:=hv')|refine aO (u:=u) ?_ (hj:=hu')|refine tE (y':=v) ?_ (hj:=hu')|refine tE (y':=u) ?_ (hj:=hv2)))
  all_goals(show aV _ _ _ _;exact cC (kk - 1) ⟨i+1,(ys.set (lo+((i:Nat):Int).toNat) v).set (lo+((k:Int) - 1 - i).toNat) u,by omega,by omega,by rw[List.length_set,List.length_set];exact hl,by rw[hti,htj];exact hsw,⟨rfl,rfl,congrArg (Value.int .i64) (by omega),trivial⟩,rfl⟩)
 ·have he:ys=P++(M.reverse++S):=Ua (i:=i) (by omega) (by rw[← hxs,← hlo,← hk];exact hp)
  subst he
  repeat' (first|refine v28 ?_|refine dw qA ?_|refine wr ?_|refine w5 ?_ ?_|((refine bh fun h=>?_) <;> try exact w6 h)|(refine aE fun hA=>?_;subst hA)|intro _)
  all_goals(refine aC ?_;exact aB (hK))
theorem Aa9 {P D xs:List i6} {y:i6} {r:Int} (hxs:xs=P++(D++ [y])) (hlo:lo=P.length) (hk:k=D.length+1) (hr:r=D.length) (hkc:k≤kc) (hA:A=some ⟨B,off+lo * 2,none⟩) (hs:xs.length≤100000) (hK:K (.tuple #[]) (bU (some ⟨B,off,none⟩) c0 255 eV (P++(y::D))::R)):aA Tryz.prog 392 #[.slice A k kc,.int .i64 r] (bU (some ⟨B,off,none⟩) c0 255 eV xs::R) K:=by
 subst hA hr
 have hlen:xs.length=lo+k:=by rw[hxs,hlo,hk];simp <;> omega
 refine aH Tryz.func392 ?_
 repeat' (first|(show aM _ _ _ _ _ _ _;refine mJ (sz:=2) ?_;intro A' hA')|refine v8 ?_|refine wr ?_|refine w5 ?_ ?_|((refine bh fun h=>?_) <;> try exact w6 h)|(refine aE fun hA=>?_;subst hA)|intro _)
 have hs2:P.length+D.length+1≤100000:=by rw[hxs,List.length_append,List.length_append] at hs;exact hs
 refine CA (h:=Mm (P:=P) (M:=D) (S:= [y]) hxs hlo (by simp) (by rw[Gj hA' (by omega)] <;> simp) hs ?_)
 repeat' (first|(show aM _ _ _ _ _ _ _;refine mJ (sz:=2) ?_;intro A2 hA2)|refine v8 ?_|refine wr ?_|refine w5 ?_ ?_|((refine bh fun h=>?_) <;> try exact w6 h)|(refine aE fun hA=>?_;subst hA)|intro _)
 refine CA (h:=Mm (xs:=P++(D.reverse++ [y])) (P:=P++D.reverse) (M:= [y]) (S:= []) (by simp) (lo:=lo+D.length) (by simp[hlo]) (by simp[hk]) ((Gj hA2 (by omega)).trans (congrArg (fun o=>some (⟨B,o,none⟩:Addr)) (by rw[Int.toNat_natCast];omega))) (by simp only[List.length_append,List.length_reverse,List.length_cons,List.length_nil];omega) ?_)
 repeat' (first|refine v8 ?_|refine wr ?_|refine w5 ?_ ?_|((refine bh fun h=>?_) <;> try exact w6 h)|(refine aE fun hA=>?_;subst hA)|intro _)
 refine CA (h:=Mm (xs:=P++D.reverse++([y].reverse++ [])) (P:=P) (M:=D.reverse++ [y]) (S:= []) (by simp) hlo (by simp[hk]) rfl (by simp only[List.length_append,List.length_reverse,List.length_cons,List.length_nil];omega) ?_)
 rw[show P++((D.reverse++ [y]).reverse++ [])=P++(y::D) by simp]
 repeat' (first|refine v8 ?_|refine wr ?_|refine w5 ?_ ?_|((refine bh fun h=>?_) <;> try exact w6 h)|(refine aE fun hA=>?_;subst hA)|intro _)
 all_goals(refine aC ?_;exact aB (hK))
theorem Abr {P D xs:List i6} {y:i6} (hxs:xs=P++(D++ [y])) (hlo:lo=P.length) (hk:k=D.length+1) (hkc:k≤kc) (hA:A=some ⟨B,off+lo * 2,none⟩) (hs:xs.length≤100000) (hK:K (.tuple #[]) (bU (some ⟨B,off,none⟩) c0 255 eV (P++(y::D))::R)):aA Tryz.prog 363 #[.slice A k kc,.int .i64 1] (bU (some ⟨B,off,none⟩) c0 255 eV xs::R) K:=by
 have hlen:xs.length=lo+k:=by rw[hxs,hlo,hk];simp <;> omega
 refine aH Tryz.func363 ?_
 repeat' (first|refine v8 ?_|refine wr ?_|refine w5 ?_ ?_|((refine bh fun h=>?_) <;> try exact w6 h)|(refine aE fun hA=>?_;subst hA)|intro _|(show aA _ 392 _ _ _;refine CA (h:=Aa9 hxs hlo hk (by omega) hkc hA hs ?_)))
 all_goals(refine aC ?_;exact aB (hK))
end
end
section
variable {R C:List HP} {K:Value→List HP→Prop}
section
theorem TT {α:Type} {xs:List α} {y:α} {i:Nat} (hi:i<xs.length) {ys0 ys1:List (Option α)} (h0:ys0=(xs.take i).map some++List.replicate (xs.length+1 - i) none) (h1:ys1=ys0.take i++([some y]++ys0.drop (i+1))):ys1.take (i+1)++((xs.drop i).map some++ys1.drop (i+1+((xs.drop i).map some).length))=(xs.take i++(y::xs.drop i)).map some:=by
 have l0:((xs.take i).map some).length=i:=by rw[List.length_map,List.length_take];omega
 have e0:ys0.take i=(xs.take i).map some:=by rw[h0,List.take_left' l0]
 have e1:ys1.take (i+1)=(xs.take i).map some++ [some y]:=by
  rw[h1,e0,← List.append_assoc,List.take_left' (by rw[List.length_append,l0];rfl)]
 have l1:ys1.length=xs.length+1:=by
  rw[h1,e0,h0]
  simp only[List.length_append,List.length_drop,List.length_map,List.length_take,List.length_replicate,List.length_cons,List.length_nil]
  omega
 have e2:ys1.drop (i+1+((xs.drop i).map some).length)= []:=List.drop_eq_nil_of_le (by rw[l1,List.length_map,List.length_drop];omega)
 rw[e1,e2]
 simp
theorem Aag {α:Type} {xs ys:List α} {y:α} {i:Nat} (hi:i<xs.length) (h:ys=xs.take (i+1)++(xs.drop i++xs.drop (i+1+(xs.drop i).length))):ys.take i++([y]++ys.drop (i+1))=xs.take i++(y::xs.drop i):=by
 have e:xs.drop (i+1+(xs.drop i).length)= []:=List.drop_eq_nil_of_le (by rw[List.length_drop];omega)
 have l:(xs.take (i+1)).length=i+1:=by rw[List.length_take];omega
 rw[h,e,List.append_nil,List.drop_left' l,List.take_append_of_le_length (by omega),List.take_take,Nat.min_eq_left (by omega)]
 simp
variable {A:Option Addr} {r c n i:Nat}
def cR:List (Nat×Nat):= [(0,0),(1,0),(2,0),(3,0),(4,0),(5,0),(6,0),(7,0),(8,1)]
def cM:List (Nat×Nat):= [(0,0),(1,0),(2,0),(3,0),(4,0),(5,0),(6,0),(7,0),(8,1)]
theorem YE {xs:List gU} {y:gU} {B off:Nat} (hn:xs.length=n) (hi:i<n) (hs:n≤1000) (hc:n≤c) (hroom:(c:Int)<(n:Int)+1) (hK:∀A' c',K (.slice A' (n+1) c') (bU A' c' 329 vX (xs.take i++(y::xs.drop i))::R)):aA Tryz.prog 308 #[.slice (some ⟨B,off,none⟩) n c,.int .i64 i,.slice (some ⟨r,0,none⟩) 1 1] (bU (some ⟨B,off,none⟩) c 329 vX xs::pt r [.int .i64 y.id,.pointer (some ⟨y.w,0,none⟩),.int .i64 y.sp] 329::R) K:=by
 subst hn
 have hdl:(xs.drop i).length=xs.length - i:=List.length_drop ..
 have htl:((xs.take i).map some).length=i:=by rw[List.length_map,List.length_take];omega
 refine aH Tryz.func308 ?_
 repeat' (first|(show aM _ _ _ _ _ _ _;first|refine nW ?_|refine d3 (sz:=3) ?_)|refine J3 ?_|refine dw cR ?_|refine dw cM ?_|refine wr ?_|refine w5 ?_ ?_|((refine bh fun h=>?_) <;> try exact w6 h)|(refine aE fun hA=>?_;subst hA)|intro _)
 refine JU (E:=vX) (xs:=xs.take i) (k:=xs.length+1 - i) ⟨rfl,rfl⟩ (fun r2 N hN=>?_) (C3 (off:=off) (lo:=0) eX i (Nat.zero_le _) rfl)
 repeat' (first|(show aM _ _ _ _ _ _ _;first|refine nW ?_|refine d3 (sz:=3) ?_)|refine J3 ?_|refine dw cR ?_|refine dw cM ?_|refine wr ?_|refine w5 ?_ ?_|((refine bh fun h=>?_) <;> try exact w6 h)|(refine aE fun hA=>?_;subst hA)|intro _)
 refine qL (sz:=3) (j:=i) (vs:= [some y]) ?_ (hsrc:=Gt (vs:= [y]) xF)
 repeat' (first|(show aM _ _ _ _ _ _ _;first|refine nW ?_|refine d3 (sz:=3) ?_)|refine J3 ?_|refine dw cR ?_|refine dw cM ?_|refine wr ?_|refine w5 ?_ ?_|((refine bh fun h=>?_) <;> try exact w6 h)|(refine aE fun hA=>?_;subst hA)|intro _)
 refine qL (sz:=3) (j:=i+1) (vs:=(xs.drop i).map some) ?_ (hsrc:=Gt (C1 (sz:=3) (j:=i)))
 repeat' (first|(show aM _ _ _ _ _ _ _;first|refine nW ?_|refine d3 (sz:=3) ?_)|refine J3 ?_|refine dw cR ?_|refine dw cM ?_|refine wr ?_|refine w5 ?_ ?_|((refine bh fun h=>?_) <;> try exact w6 h)|(refine aE fun hA=>?_;subst hA)|intro _)
 (refine aC ?_;exact aK (aG.trans (by exact aY) ((Pb (TT hi rfl rfl)))) ((kv (hK _ _) (congrArg (fun n=>Value.slice _ n _) (by omega)))))
theorem Aby {xs:List gU} {y:gU} {B off:Nat} (hn:xs.length=n) (hi:i<n) (hs:n≤1000) (hc:n≤c) (hroom:¬(c:Int)<(n:Int)+1) (hK:∀A' c',K (.slice A' (n+1) c') (bU A' c' 329 vX (xs.take i++(y::xs.drop i))::R)):aA Tryz.prog 308 #[.slice (some ⟨B,off,none⟩) n c,.int .i64 i,.slice (some ⟨r,0,none⟩) 1 1] (bU (some ⟨B,off,none⟩) c 329 vX xs::pt r [.int .i64 y.id,.pointer (some ⟨y.w,0,none⟩),.int .i64 y.sp] 329::R) K:=by
 subst hn
 have hdl:(xs.drop i).length=xs.length - i:=List.length_drop ..
 refine aH Tryz.func308 ?_
 repeat' (first|(show aM _ _ _ _ _ _ _;first|refine nW ?_|refine d3 (sz:=3) ?_)|refine dw cR ?_|refine dw cM ?_|refine w1m ?_|refine w5 ?_ ?_|((refine bh fun h=>?_) <;> try exact w6 h)|(refine aE fun hA=>?_;subst hA)|intro _)
 refine HU (E:=vX) (sz:=3) (tS:=233) (tR:=4) (off:=off) (j:=i+1) (fun b=>?_)
 cases b
 ·repeat' (first|(show aM _ _ _ _ _ _ _;first|refine nW ?_|refine d3 (sz:=3) ?_)|refine J3 ?_|refine dw cR ?_|refine dw cM ?_|refine wr ?_|refine w5 ?_ ?_|((refine bh fun h=>?_) <;> try exact w6 h)|(refine aE fun hA=>?_;subst hA)|intro _)
  refine qL (sz:=3) (j:=i+1) (vs:=xs.drop i) ?_ (hsrc:=C1 (sz:=3) (j:=i))
  repeat' (first|(show aM _ _ _ _ _ _ _;first|refine nW ?_|refine d3 (sz:=3) ?_)|refine J3 ?_|refine dw cR ?_|refine dw cM ?_|refine wr ?_|refine w5 ?_ ?_|((refine bh fun h=>?_) <;> try exact w6 h)|(refine aE fun hA=>?_;subst hA)|intro _)
  refine qL (sz:=3) (j:=i) (vs:= [y]) ?_ (hsrc:=xF)
  repeat' (first|(show aM _ _ _ _ _ _ _;first|refine nW ?_|refine d3 (sz:=3) ?_)|refine J3 ?_|refine dw cR ?_|refine dw cM ?_|refine wr ?_|refine w5 ?_ ?_|((refine bh fun h=>?_) <;> try exact w6 h)|(refine aE fun hA=>?_;subst hA)|intro _)
  (refine aC ?_;exact aK (aG.trans (by exact aY) ((TR (Aag hi rfl)))) ((kv (hK _ _) (D8 (by omega) (by omega) (by omega)))))
 ·repeat' (first|(show aM _ _ _ _ _ _ _;first|refine nW ?_|refine d3 (sz:=3) ?_)|refine J3 ?_|refine dw cR ?_|refine dw cM ?_|refine wr ?_|refine w5 ?_ ?_|((refine bh fun h=>?_) <;> try exact w6 h)|(refine aE fun hA=>?_;subst hA)|intro _)
  refine qL (sz:=3) (j:=xs.length) (vs:= [y]) ?_ (hsrc:=xF)
  repeat' (first|(show aM _ _ _ _ _ _ _;first|refine nW ?_|refine d3 (sz:=3) ?_)|refine J3 ?_|refine dw cR ?_|refine dw cM ?_|refine wr ?_|refine w5 ?_ ?_|((refine bh fun h=>?_) <;> try exact w6 h)|(refine aE fun hA=>?_;subst hA)|intro _|(show aA _ 368 _ _ _;refine CA (h:=Aa4 (xs:=xs.take xs.length++([y]++xs.drop (xs.length+ [y].length))) (P:=xs.take i) (D:=xs.drop i) (y:=y) (lo:=i) (by rw[List.take_of_length_le (Nat.le_refl _),List.drop_eq_nil_of_le (by simp),List.append_nil,← List.append_assoc,List.take_append_drop]) (by rw[List.length_take];omega) (by rw[hdl];omega) (by omega) (vL (by omega)) (by simp only[List.length_append,List.length_take,List.length_drop,List.length_cons,List.length_nil];omega) ?_)))
  all_goals(refine aC ?_;exact aB ((kv (hK (some ⟨B,off,none⟩) c) (D8 (by omega) (by omega) (by omega)))))
theorem Ac1 {xs:List gU} {y:gU} (hn:xs.length=n) (hi:i≤n) (hs:n≤1000) (hK:∀A' c',K (.slice A' (n+1) c') (bU A' c' 329 vX (xs.take i++(y::xs.drop i))::R)):aA Tryz.prog 308 #[.slice A n c,.int .i64 i,.slice (some ⟨r,0,none⟩) 1 1] (bU A c 329 vX xs::pt r [.int .i64 y.id,.pointer (some ⟨y.w,0,none⟩),.int .i64 y.sp] 329::R) K:=by
 refine iB aT.here fun hc=>?_
 subst hn
 rcases Nat.lt_or_ge i xs.length with hlt|hge
 ·refine oZ aT.here (by omega) fun B off hA=>?_
  subst hA
  by_cases hroom:(c:Int)<(xs.length:Int)+1
  ·exact YE rfl hlt hs hc hroom hK
  ·exact Aby rfl hlt hs hc hroom hK
 ·have hi':i=xs.length:=by omega
  subst hi'
  rw[List.take_of_length_le (Nat.le_refl _),List.drop_eq_nil_of_le (Nat.le_refl _)] at hK
  refine aH Tryz.func308 ?_
  repeat' (first|(show aM _ _ _ _ _ _ _;first|(refine mJ ?_;intro A1 hA1)|(refine cU (E:=vX) (xs:=xs) (ys:= [y]) ?_ (hsrc:=xP);intro A2 c2))|refine J3 ?_|refine dw cR ?_|refine dw cM ?_|refine wr ?_|refine w5 ?_ ?_|((refine bh fun h=>?_) <;> try exact w6 h)|(refine aE fun hA=>?_;subst hA)|intro _)
  all_goals(refine aC ?_;exact aB ((by rw[List.length_append];exact hK _ _)))
def cO:List (Nat×Nat):= [(0,0),(1,0),(2,0),(3,0),(4,0),(5,0),(6,0),(7,0),(8,1)]
def cP:List (Nat×Nat):= [(0,0),(1,0),(2,0),(3,0),(4,0),(5,0),(6,0),(7,0),(8,1)]
theorem YO {xs:List i6} {y:i6} {B off:Nat} (hn:xs.length=n) (hi:i<n) (hs:n≤1000) (hc:n≤c) (hroom:(c:Int)<(n:Int)+1) (hK:∀A' c',K (.slice A' (n+1) c') (bU A' c' 255 eV (xs.take i++(y::xs.drop i))::R)):aA Tryz.prog 302 #[.slice (some ⟨B,off,none⟩) n c,.int .i64 i,.slice (some ⟨r,0,none⟩) 1 1] (bU (some ⟨B,off,none⟩) c 255 eV xs::pt r [.int .i64 y.id,.pointer (some ⟨y.a,0,none⟩)] 255::R) K:=by
 subst hn
 have hdl:(xs.drop i).length=xs.length - i:=List.length_drop ..
 have htl:((xs.take i).map some).length=i:=by rw[List.length_map,List.length_take];omega
 refine aH Tryz.func302 ?_
 repeat' (first|(show aM _ _ _ _ _ _ _;first|refine nW ?_|refine d3 (sz:=2) ?_)|refine J3 ?_|refine dw cO ?_|refine dw cP ?_|refine wr ?_|refine w5 ?_ ?_|((refine bh fun h=>?_) <;> try exact w6 h)|(refine aE fun hA=>?_;subst hA)|intro _)
 refine JU (E:=eV) (xs:=xs.take i) (k:=xs.length+1 - i) ⟨rfl,rfl⟩ (fun r2 N hN=>?_) (C3 (off:=off) (lo:=0) eX i (Nat.zero_le _) rfl)
 repeat' (first|(show aM _ _ _ _ _ _ _;first|refine nW ?_|refine d3 (sz:=2) ?_)|refine J3 ?_|refine dw cO ?_|refine dw cP ?_|refine wr ?_|refine w5 ?_ ?_|((refine bh fun h=>?_) <;> try exact w6 h)|(refine aE fun hA=>?_;subst hA)|intro _)
 refine qL (sz:=2) (j:=i) (vs:= [some y]) ?_ (hsrc:=Gt (vs:= [y]) xF)
 repeat' (first|(show aM _ _ _ _ _ _ _;first|refine nW ?_|refine d3 (sz:=2) ?_)|refine J3 ?_|refine dw cO ?_|refine dw cP ?_|refine wr ?_|refine w5 ?_ ?_|((refine bh fun h=>?_) <;> try exact w6 h)|(refine aE fun hA=>?_;subst hA)|intro _)
 refine qL (sz:=2) (j:=i+1) (vs:=(xs.drop i).map some) ?_ (hsrc:=Gt (C1 (sz:=2) (j:=i)))
 repeat' (first|(show aM _ _ _ _ _ _ _;first|refine nW ?_|refine d3 (sz:=2) ?_)|refine J3 ?_|refine dw cO ?_|refine dw cP ?_|refine wr ?_|refine w5 ?_ ?_|((refine bh fun h=>?_) <;> try exact w6 h)|(refine aE fun hA=>?_;subst hA)|intro _)
 (refine aC ?_;exact aK (aG.trans (by exact aY) ((Pb (TT hi rfl rfl)))) ((kv (hK _ _) (congrArg (fun n=>Value.slice _ n _) (by omega)))))
theorem Za {xs:List i6} {y:i6} {B off:Nat} (hn:xs.length=n) (hi:i<n) (hs:n≤1000) (hc:n≤c) (hroom:¬(c:Int)<(n:Int)+1) (hK:∀A' c',K (.slice A' (n+1) c') (bU A' c' 255 eV (xs.take i++(y::xs.drop i))::R)):aA Tryz.prog 302 #[.slice (some ⟨B,off,none⟩) n c,.int .i64 i,.slice (some ⟨r,0,none⟩) 1 1] (bU (some ⟨B,off,none⟩) c 255 eV xs::pt r [.int .i64 y.id,.pointer (some ⟨y.a,0,none⟩)] 255::R) K:=by
 subst hn
 have hdl:(xs.drop i).length=xs.length - i:=List.length_drop ..
 refine aH Tryz.func302 ?_
 repeat' (first|(show aM _ _ _ _ _ _ _;first|refine nW ?_|refine d3 (sz:=2) ?_)|refine dw cO ?_|refine dw cP ?_|refine w1m ?_|refine w5 ?_ ?_|((refine bh fun h=>?_) <;> try exact w6 h)|(refine aE fun hA=>?_;subst hA)|intro _)
 refine HU (E:=eV) (sz:=2) (tS:=224) (tR:=4) (off:=off) (j:=i+1) (fun b=>?_)
 cases b
 ·repeat' (first|(show aM _ _ _ _ _ _ _;first|refine nW ?_|refine d3 (sz:=2) ?_)|refine J3 ?_|refine dw cO ?_|refine dw cP ?_|refine wr ?_|refine w5 ?_ ?_|((refine bh fun h=>?_) <;> try exact w6 h)|(refine aE fun hA=>?_;subst hA)|intro _)
  refine qL (sz:=2) (j:=i+1) (vs:=xs.drop i) ?_ (hsrc:=C1 (sz:=2) (j:=i))
  repeat' (first|(show aM _ _ _ _ _ _ _;first|refine nW ?_|refine d3 (sz:=2) ?_)|refine J3 ?_|refine dw cO ?_|refine dw cP ?_|refine wr ?_|refine w5 ?_ ?_|((refine bh fun h=>?_) <;> try exact w6 h)|(refine aE fun hA=>?_;subst hA)|intro _)
  refine qL (sz:=2) (j:=i) (vs:= [y]) ?_ (hsrc:=xF)
  repeat' (first|(show aM _ _ _ _ _ _ _;first|refine nW ?_|refine d3 (sz:=2) ?_)|refine J3 ?_|refine dw cO ?_|refine dw cP ?_|refine wr ?_|refine w5 ?_ ?_|((refine bh fun h=>?_) <;> try exact w6 h)|(refine aE fun hA=>?_;subst hA)|intro _)
  (refine aC ?_;exact aK (aG.trans (by exact aY) ((TR (Aag hi rfl)))) ((kv (hK _ _) (D8 (by omega) (by omega) (by omega)))))
 ·repeat' (first|(show aM _ _ _ _ _ _ _;first|refine nW ?_|refine d3 (sz:=2) ?_)|refine J3 ?_|refine dw cO ?_|refine dw cP ?_|refine wr ?_|refine w5 ?_ ?_|((refine bh fun h=>?_) <;> try exact w6 h)|(refine aE fun hA=>?_;subst hA)|intro _)
  refine qL (sz:=2) (j:=xs.length) (vs:= [y]) ?_ (hsrc:=xF)
  repeat' (first|(show aM _ _ _ _ _ _ _;first|refine nW ?_|refine d3 (sz:=2) ?_)|refine J3 ?_|refine dw cO ?_|refine dw cP ?_|refine wr ?_|refine w5 ?_ ?_|((refine bh fun h=>?_) <;> try exact w6 h)|(refine aE fun hA=>?_;subst hA)|intro _|(show aA _ 363 _ _ _;refine CA (h:=Abr (xs:=xs.take xs.length++([y]++xs.drop (xs.length+ [y].length))) (P:=xs.take i) (D:=xs.drop i) (y:=y) (lo:=i) (by rw[List.take_of_length_le (Nat.le_refl _),List.drop_eq_nil_of_le (by simp),List.append_nil,← List.append_assoc,List.take_append_drop]) (by rw[List.length_take];omega) (by rw[hdl];omega) (by omega) (vL (by omega)) (by simp only[List.length_append,List.length_take,List.length_drop,List.length_cons,List.length_nil];omega) ?_)))
  all_goals(refine aC ?_;exact aB ((kv (hK (some ⟨B,off,none⟩) c) (D8 (by omega) (by omega) (by omega)))))
theorem Age {xs:List i6} {y:i6} (hn:xs.length=n) (hi:i≤n) (hs:n≤1000) (hK:∀A' c',K (.slice A' (n+1) c') (bU A' c' 255 eV (xs.take i++(y::xs.drop i))::R)):aA Tryz.prog 302 #[.slice A n c,.int .i64 i,.slice (some ⟨r,0,none⟩) 1 1] (bU A c 255 eV xs::pt r [.int .i64 y.id,.pointer (some ⟨y.a,0,none⟩)] 255::R) K:=by
 refine iB aT.here fun hc=>?_
 subst hn
 rcases Nat.lt_or_ge i xs.length with hlt|hge
 ·refine oZ aT.here (by omega) fun B off hA=>?_
  subst hA
  by_cases hroom:(c:Int)<(xs.length:Int)+1
  ·exact YO rfl hlt hs hc hroom hK
  ·exact Za rfl hlt hs hc hroom hK
 ·have hi':i=xs.length:=by omega
  subst hi'
  rw[List.take_of_length_le (Nat.le_refl _),List.drop_eq_nil_of_le (Nat.le_refl _)] at hK
  refine aH Tryz.func302 ?_
  repeat' (first|(show aM _ _ _ _ _ _ _;first|(refine mJ ?_;intro A1 hA1)|(refine cU (E:=eV) (xs:=xs) (ys:= [y]) ?_ (hsrc:=xP);intro A2 c2))|refine J3 ?_|refine dw cO ?_|refine dw cP ?_|refine wr ?_|refine w5 ?_ ?_|((refine bh fun h=>?_) <;> try exact w6 h)|(refine aE fun hA=>?_;subst hA)|intro _)
  all_goals(refine aC ?_;exact aB ((by rw[List.length_append];exact hK _ _)))
end
end
section
variable {R C:List HP} {K:Value→List HP→Prop}
def TrW (s:eJ):Prop:=∀id,dR id s.1=true→1≤(cZ id s).w∧(cZ id s).w≤256
def Ni (s:eJ):Prop:=(s.1.map KE.k).Nodup
def oV (s:eJ):List Int→Int
 | []=>0
 |k::r=>(cZ k s).w+oV s r
def Ds (w xw all:Int):Int:=max 1 (w * xw / all)
def o5 (on xw all:Int):List Int→eJ→eJ
 | [],s=>s
 |k::r,s=>o5 on xw all r (eU k ⟨on,Ds (cZ k s).w xw all⟩ s)
def yQ (id:Int) (s:eJ):eJ:=if dR id s.1=true then(mD id (o5 (cZ id s).on (cZ id s).w (oV s (bZ id s.1)) (bZ id s.1) s).1,(o5 (cZ id s).on (cZ id s).w (oV s (bZ id s.1)) (bZ id s.1) s).2) else s
theorem Av {k:Int} {l:List Int}:k∈Mi l↔k∈l:=(List.mergeSort_perm l _).mem_iff
theorem TX {l:List Int} (h:l.Nodup):(Mi l).Nodup:=(List.mergeSort_perm l _).nodup_iff.2 h
theorem AG {id:Int} {s:eJ} (h:Ni s):(bZ id s.1).Nodup:=TX (List.Nodup.sublist ((List.filter_sublist ..).map _) h)
theorem Ly {e:KE Nd}:∀ {l:List (KE Nd)},(l.map KE.k).Nodup→e∈l→f6 e.k l=some e.v
 | [],_,h=>by cases h
 |z::r,hnd,h=>by
  rw[List.map_cons] at hnd
  obtain⟨h1,h2⟩:=List.nodup_cons.1 hnd
  unfold f6
  rcases List.mem_cons.1 h with rfl|h
  ·rw[if_pos rfl]
  ·rw[if_neg (fun q=>h1 (by rw[← q];exact List.mem_map_of_mem h)),Ly h2 h]
theorem kF {id k:Int} {s:eJ} (h:Ni s) (hk:k∈bZ id s.1):dR k s.1=true∧(cZ k s).on=id:=by
 unfold bZ at hk
 rw[Av] at hk
 obtain⟨e,he,rfl⟩:=List.mem_map.1 hk
 obtain⟨h1,h2⟩:=List.mem_filter.1 he
 have:=Ly h h1
 exact⟨by unfold dR;rw[this];rfl,by unfold cZ;rw[this];simpa using h2⟩
theorem Iv {id j:Int} {n:Nd} {s:eJ}:cZ j (eU id n s)=if j=id then n else cZ j s:=by
 unfold cZ eU
 simp only
 rw[HV]
 split <;> rfl
theorem Hv {s:eJ} (h:TrW s):∀ {l:List Int},(∀k∈l,dR k s.1=true)→(l.length:Int)≤oV s l∧oV s l≤256 * l.length
 | [],_=>by simp[oV]
 |k::r,hh=>by
  have h1:=h k (hh k (List.mem_cons_self ..))
  have h2:=Hv h (l:=r) fun z hz=>hh z (List.mem_cons_of_mem _ hz)
  simp only[oV,List.length_cons]
  omega
theorem Aa5 {s:eJ} {ks:List Int} {j:Nat} {k:Int} (h:ks[j]?=some k):oV s (ks.drop j)=(cZ k s).w+oV s (ks.drop (j+1)):=by
 have hj:=(List.getElem?_eq_some_iff.1 h).1
 rw[List.drop_eq_getElem_cons hj,(List.getElem?_eq_some_iff.1 h).2]
 rfl
theorem Abq {on xw all:Int} {s:eJ} {ks:List Int} {j:Nat} {k:Int} (h:ks[j]?=some k):o5 on xw all (ks.drop j) s=o5 on xw all (ks.drop (j+1)) (eU k ⟨on,Ds (cZ k s).w xw all⟩ s):=by
 have hj:=(List.getElem?_eq_some_iff.1 h).1
 rw[List.drop_eq_getElem_cons hj,(List.getElem?_eq_some_iff.1 h).2]
 rfl
section
variable {p q r5 r7:Nat} {most id low on w xw all:Int} {x:Bool} {s:eJ} {r:Int→Nat}
theorem QJ (hw:0≤w∧w≤100000) (hx:0≤xw∧xw≤100000) (ha:0<all) (hK:K (.int .i64 (Ds w xw all)) (pt r5 [.int .i64 on,.int .i64 xw] 373::pt r7 [.int .i64 all] 3::R)):aA Tryz.prog 371 #[.int .i64 w,.pointer (some ⟨r5,0,none⟩),.pointer (some ⟨r7,0,none⟩)] (pt r5 [.int .i64 on,.int .i64 xw] 373::pt r7 [.int .i64 all] 3::R) K:=by
 have h1:0≤w * xw:=Int.mul_nonneg hw.1 hx.1
 have h2:w * xw≤100000 * 100000:=Int.mul_le_mul hw.2 hx.2 hx.1 (by omega)
 have hq1:0≤w * xw / all:=Int.ediv_nonneg h1 (by omega)
 have hq2:w * xw / all≤w * xw:=Int.ediv_le_self all h1
 have hm:IntKind.wrap .i64 (w * xw / all)=w * xw / all:=tY (by omega) (by omega)
 refine aH Tryz.func371 ?_
 repeat' (first|refine v43 ?_|refine wr ?_|refine w5 ?_ ?_|((refine bh fun h=>?_) <;> try exact w6 h)|(refine aE fun hA=>?_;subst hA)|intro _)
 all_goals(refine aC ?_;exact aB (hK))
def eO:List (Nat×Nat):= [(1,0),(2,0),(3,0),(4,0),(5,0),(6,1),(0,1),(7,0),(8,0),(9,1)]
def eP:List (Nat×Nat):= [(8,0),(9,0),(10,0),(11,0),(12,0),(13,1),(7,1),(14,0),(15,1),(0,2),(1,2),(2,2),(3,2),(4,2),(5,2),(6,2),(16,0),(17,1)]
theorem Pj (hok:Qp s.1 s.2) (hl:s.1.length≤1000) (hw:TrW s) (hn:Ni s) (hK:∀v,K v (pt p [.int .i64 most,.map (some q)] 229::mp q (kM qI (yQ id s).1) (yQ id s).2::R)):aA Tryz.prog 314 #[.pointer (some ⟨p,0,none⟩),.int .i64 id] (pt p [.int .i64 most,.map (some q)] 229::mp q (kM qI s.1) s.2::R) K:=by
 cases h1:dR id s.1
 ·have e:yQ id s=s:=by unfold yQ;rw[h1,if_neg (by decide)]
  rw[e] at hK
  refine aH Tryz.func314 ?_
  repeat' (first|refine v88 ?_|refine dw eO ?_|refine dw eP ?_|refine wr ?_|refine w5 ?_ ?_|((refine bh fun h=>?_) <;> try exact w6 h)|(refine aE fun hA=>?_;subst hA)|intro _|(show aA _ 304 _ _ _;refine CA (h:=eY ?_);rw[h1]))
  all_goals(refine aC ?_;exact aB (hK _))
 ·have hx:=hw id h1
  have hnd:=AG (id:=id) hn
  have hkh:∀k∈bZ id s.1,dR k s.1=true:=fun k hk=>(kF hn hk).1
  have hkl:(bZ id s.1).length≤1000:=by
   unfold bZ
   rw[Ax,List.length_map]
   exact Nat.le_trans (List.length_filter_le _ _) hl
  have hal:=Hv hw hkh
  have e:yQ id s=(mD id (o5 (cZ id s).on (cZ id s).w (oV s (bZ id s.1)) (bZ id s.1) s).1,(o5 (cZ id s).on (cZ id s).w (oV s (bZ id s.1)) (bZ id s.1) s).2):=by unfold yQ;rw[h1,if_pos rfl]
  rw[e] at hK
  have hxe:(f6 id s.1).getD ⟨0,0⟩=cZ id s:=rfl
  generalize hks:bZ id s.1=ks at hK hnd hkh hkl hal
  generalize hxo:cZ id s=X at hK hx hxe
  generalize hA:oV s ks=AL at hK hal
  refine aH Tryz.func314 ?_
  repeat' (first|refine v88 ?_|refine dw eO ?_|refine dw eP ?_|refine wr ?_|refine w5 ?_ ?_|((refine bh fun h=>?_) <;> try exact w6 h)|(refine aE fun hA=>?_;subst hA)|intro _|(show aA _ 304 _ _ _;refine CA (h:=eY ?_);rw[h1])|(show aM _ _ _ _ _ _ _;first|(refine iY ?_ (hv:=oW);simp only[qI];rw[hxe])|refine i0 ?_)|(show aA _ 355 _ _ _;refine CA (h:=AU hok (by omega) (fun A c=>?_));rw[hks]))
  rename_i r5 r7
  refine iL (fun kk a C'=>∃(j:Nat) (acc:Int),j+kk=ks.length∧acc+oV s (ks.drop j)=AL∧0≤acc∧acc≤256 * j∧dC a [(0,.pointer (some ⟨p,0,none⟩)),(1,.int .i64 id),(5,.pointer (some ⟨r5,0,none⟩)),(6,.slice A ks.length c),(7,.pointer (some ⟨r7,0,none⟩)),(30,.slice A ks.length c),(31,.int .i64 ks.length),(32,.int .i64 j)]∧C'=pt r7 [.int .i64 acc] 3::bU A c 3 nI ks::pt p [.int .i64 most,.map (some q)] 229::mp q (kM qI s.1) s.2::pt r5 [.int .i64 X.on,.int .i64 X.w] 373::R) ks.length (cC ks.length ⟨0,0,by omega,by rw[List.drop_zero,hA];omega,by omega,by omega,⟨rfl,rfl,rfl,rfl,rfl,rfl,rfl,rfl,trivial⟩,rfl⟩ (by omega)) ?_
  rintro kk a C' ⟨j,acc,hj,hac,h0,h2,ha,rfl⟩
  refine gV _ ha ?_
  simp only[fN]
  by_cases hlt:j<ks.length
  ·obtain⟨k,hk⟩:∃k,ks[j]?=some k:=⟨_,List.getElem?_eq_getElem hlt⟩
   have hk':ks[((j:Nat):Int).toNat]?=some k:=by rw[Int.toNat_natCast];exact hk
   have hkw:=hw k (hkh k (List.mem_of_getElem? hk))
   rw[Aa5 hk] at hac
   have hke:(f6 k s.1).getD ⟨0,0⟩=cZ k s:=rfl
   repeat' (first|refine v88 ?_|refine dw eO ?_|refine dw eP ?_|refine wr ?_|refine w5 ?_ ?_|((refine bh fun h=>?_) <;> try exact w6 h)|(refine aE fun hA=>?_;subst hA)|intro _|(show aM _ _ _ _ _ _ _;first|(refine iY ?_ (hv:=oW);simp only[qI];rw[hke])|refine i0 ?_))
   all_goals(show aV _ _ _ _;exact cC (kk - 1) ⟨j+1,acc+(cZ k s).w,by omega,by omega,by omega,by omega,⟨rfl,rfl,rfl,rfl,rfl,rfl,rfl,rfl,trivial⟩,rfl⟩)
  ·have hd:ks.drop j= []:=List.drop_eq_nil_of_le (by omega)
   rw[hd] at hac
   simp only[oV] at hac
   obtain rfl:acc=AL:=by omega
   repeat' (first|refine v88 ?_|refine dw eO ?_|refine dw eP ?_|refine wr ?_|refine w5 ?_ ?_|((refine bh fun h=>?_) <;> try exact w6 h)|(refine aE fun hA=>?_;subst hA)|intro _)
   refine iL (fun kk a C'=>∃(j:Nat) (s':eJ),j+kk=ks.length∧o5 X.on X.w acc (ks.drop j) s'=o5 X.on X.w acc ks s∧(∀k∈ks.drop j,cZ k s'=cZ k s)∧dC a [(0,.pointer (some ⟨p,0,none⟩)),(1,.int .i64 id),(5,.pointer (some ⟨r5,0,none⟩)),(7,.pointer (some ⟨r7,0,none⟩)),(10,.func (.func 371) #[] #[.pointer (some ⟨r5,0,none⟩),.pointer (some ⟨r7,0,none⟩)]),(47,.slice A ks.length c),(48,.int .i64 ks.length),(49,.int .i64 j)]∧C'=pt r7 [.int .i64 acc] 3::bU A c 3 nI ks::pt p [.int .i64 most,.map (some q)] 229::mp q (kM qI s'.1) s'.2::pt r5 [.int .i64 X.on,.int .i64 X.w] 373::R) ks.length (cC ks.length ⟨0,s,by omega,rfl,(fun _ _=>rfl),⟨rfl,rfl,rfl,rfl,rfl,rfl,rfl,rfl,trivial⟩,rfl⟩ (by omega)) ?_
   rintro kk a C' ⟨j,s',hj,hs',hsame,ha,rfl⟩
   refine gV _ ha ?_
   simp only[fN]
   by_cases hlt:j<ks.length
   ·obtain⟨k,hk⟩:∃k,ks[j]?=some k:=⟨_,List.getElem?_eq_getElem hlt⟩
    have hk':ks[((j:Nat):Int).toNat]?=some k:=by rw[Int.toNat_natCast];exact hk
    have hkw:=hw k (hkh k (List.mem_of_getElem? hk))
    have hdr:ks.drop j=k::ks.drop (j+1):=by rw[List.drop_eq_getElem_cons hlt,(List.getElem?_eq_some_iff.1 hk).2]
    have hks':=hsame k (by rw[hdr];exact List.mem_cons_self ..)
    rw[Abq hk] at hs'
    have hnk:k ∉ ks.drop (j+1):=by
     have:=List.Nodup.sublist (List.drop_sublist j ks) hnd
     rw[hdr] at this
     exact(List.nodup_cons.1 this).1
    have hsm:∀z∈ks.drop (j+1),cZ z (eU k ⟨X.on,Ds (cZ k s').w X.w acc⟩ s')=cZ z s:=fun z hz=>by
     rw[Iv,if_neg (fun e:z=k=>hnk (e▸hz))]
     exact hsame z (by rw[hdr];exact List.mem_cons_of_mem _ hz)
    have hke:(f6 k s'.1).getD ⟨0,0⟩=cZ k s':=rfl
    rw[← hks'] at hkw
    simp only[eU] at hs' hsm
    repeat' (first|refine v88 ?_|refine dw eO ?_|refine dw eP ?_|refine wr ?_|refine w5 ?_ ?_|((refine bh fun h=>?_) <;> try exact w6 h)|(refine aE fun hA=>?_;subst hA)|intro _|(show aM _ _ _ _ _ _ _;first|(refine iY ?_ (hv:=oW);simp only[qI];rw[hke])|refine i0 ?_|refine j2 ?_ (hv:=O1 (enc:=qI) (v:=⟨X.on,Ds (cZ k s').w X.w acc⟩)) (hu:=by exact rfl))|(show aA _ 371 _ _ _;refine CA (h:=QJ (by omega) (by omega) (by omega) ?_)))
    all_goals(show aV _ _ _ _;exact cC (kk - 1) ⟨j+1,_,by omega,hs',hsm,⟨rfl,rfl,rfl,rfl,rfl,rfl,rfl,rfl,trivial⟩,rfl⟩)
   ·have hd:ks.drop j= []:=List.drop_eq_nil_of_le (by omega)
    rw[hd] at hs'
    simp only[o5] at hs'
    subst hs'
    repeat' (first|refine v88 ?_|refine dw eO ?_|refine dw eP ?_|refine wr ?_|refine w5 ?_ ?_|((refine bh fun h=>?_) <;> try exact w6 h)|(refine aE fun hA=>?_;subst hA)|intro _|(show aM _ _ _ _ _ _ _;first|refine G_delete ?_ (hv:=XN)|refine JB ?_ (hv:=XN)))
    all_goals(refine aC ?_;exact aB (hK _))
end
end
end Go.Proofs.YtifgibijcmppmaaGreat
