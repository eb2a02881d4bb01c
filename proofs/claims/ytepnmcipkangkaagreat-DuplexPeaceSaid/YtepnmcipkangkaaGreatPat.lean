/- A part of the proof: lemmas; each with the conditions that it states. -/
import Derived.Test.YtepnmcipkangkaaGreatPas
import Derived.Test.YtepnmcipkangkaaGreatPar
set_option linter.unusedVariables false
set_option linter.unusedSimpArgs false
set_option maxRecDepth 100000
set_option maxHeartbeats 40000000
namespace Go.Proofs.YtepnmcipkangkaaGreat
open Go Go.Proofs Go.Sl
attribute [local irreducible] aN fJ cY bN aM aS aA dM dN aV dL pt ro fB star sep bF
attribute [local irreducible] mp CV
variable {R C:List HP} {K:KP} {α:Type} {i lo k B off kc c0 r c n p r2 r3:Nat} {A:Option Addr} {P xs D:List iO} {y:iO} {most t:Int}
structure jN where
 id:Int
 a:Nat
def Ae8:List Value->Option jN
 | [.int .i64 id,.pointer (some ⟨w,0,none⟩)]=>some ⟨id,w⟩
 |_=>none
theorem Aeg (cs:List Value) (y:jN) (h:Ae8 cs=some y): [I6 y.id,PO y.a]=cs:=by
 unfold Ae8 at h
 split at h
 ·cases h;rfl
 ·cases h
def fM:u5 jN:= { enc:=fun p=> [I6 p.id,PO p.a],sz:=2,dec:=Ae8,len:=fun _=>rfl,one:=fun _=>rfl,ok:=Aeg }
def F5 {α:Type} (xs:List α) (lo k i p:Nat):Option α:=if lo<=p/\p<lo+k/\(p<lo+i\/lo+k<=p+i) then xs[2 * lo+k - 1 - p]? else xs[p]?
theorem Vq {P M S ys:List α} (hi:M.length<=2 * i+1) (h:∀p,ys[p]?=F5 (P++(M++S)) P.length M.length i p):ys=P++(M.reverse++S):=by
 apply List.ext_getElem?
 intro p
 rw[h]
 unfold F5
 by_cases h1:p<P.length
 ·rw[if_neg (by omega),List.getElem?_append_left h1,List.getElem?_append_left h1]
 ·by_cases h2:p<P.length+M.length
  ·have rhs:(P++(M.reverse++S))[p]?=M[M.length - 1 - (p - P.length)]?:=by rw[List.getElem?_append_right (by omega),List.getElem?_append_left (by rw[List.length_reverse];omega),List.getElem?_reverse (by omega)]
   have lhs:∀t,P.length<=t->t<P.length+M.length->(P++(M++S))[t]?=M[t - P.length]?:=fun t h3 h4=>by rw[List.getElem?_append_right h3,List.getElem?_append_left (by omega)]
   rw[rhs]
   by_cases h3:P.length<=p/\p<P.length+M.length/\(p<P.length+i\/P.length+M.length<=p+i)
   ·rw[if_pos h3,lhs _ (by omega) (by omega)]
    congr 1
    omega
   ·rw[if_neg h3,lhs _ (by omega) (by omega)]
    congr 1
    omega
  ·rw[if_neg (by omega),List.getElem?_append_right (by omega),List.getElem?_append_right (by omega),List.getElem?_append_right (by omega),List.getElem?_append_right (by rw[List.length_reverse];omega),List.length_reverse]
theorem Q3 {xs ys:List α} {u v:α} (hk:lo+k<=xs.length) (hi:2 * i+1<k) (hl:ys.length=xs.length) (h:∀p,ys[p]?=F5 xs lo k i p) (hu:ys[lo+i]?=some u) (hv:ys[lo+(k - 1 - i)]?=some v) (p:Nat):((ys.set (lo+i) v).set (lo+(k - 1 - i)) u)[p]?=F5 xs lo k (i+1) p:=by
 have e1:xs[lo+i]?=some u:=by rw[<- hu,h];unfold F5;rw[if_neg (by omega)]
 have e2:xs[lo+(k - 1 - i)]?=some v:=by rw[<- hv,h];unfold F5;rw[if_neg (by omega)]
 rw[List.getElem?_set,List.getElem?_set,List.length_set]
 by_cases h1:lo+(k - 1 - i)=p
 ·subst h1
  rw[if_pos rfl,if_pos (by omega)]
  unfold F5
  rw[if_pos (by omega),<- e1]
  congr 1
  omega
 ·rw[if_neg h1]
  by_cases h2:lo+i=p
  ·subst h2
   rw[if_pos rfl,if_pos (by omega)]
   unfold F5
   rw[if_pos (by omega),<- e2]
   congr 1
   omega
  ·rw[if_neg h2,h]
   unfold F5
   by_cases h3:lo<=p/\p<lo+k/\(p<lo+i\/lo+k<=p+i)
   ·rw[if_pos h3,if_pos (by omega)]
   ·rw[if_neg h3,if_neg (by omega)]
def rW:List (Nat×Nat):= [(0,0),(1,0),(4,0),(5,0),(6,0),(7,0),(8,0),(9,0),(10,0),(11,0),(12,0),(13,1),(2,1),(3,1),(14,0),(15,1)]
theorem Nj {M S:List iO} (hxs:xs=P++(M++S)) (hlo:lo=P.length) (hk:k=M.length) (hA:A=some ⟨B,off+lo * 3,none⟩) (hs:xs.length<=100000) (hK:K (.tuple #[]) (bV (some ⟨B,off,none⟩) c0 136 yI (P++(M.reverse++S))::R)):CT 451 #[.slice A k kc] (bV (some ⟨B,off,none⟩) c0 136 yI xs::R) K:=by
 subst hA
 have hlk:lo+k<=xs.length:=by rw[hxs,hlo,hk];simp only[List.length_append];omega
 refine aH Tryz.func451 ?_
 repeat' (first|refine v28 ?_|refine dw rW ?_|refine w5 ?_ ?_|((refine bh fun h=>?_) <;> try exact w6 h)|(refine aE fun hA=>?_;subst hA)|intro _)
 refine jG (fun kk a C'=>∃(i:Nat) (ys:List iO),i+kk=k/\2 * i<=k+1/\ys.length=xs.length/\(∀p,ys[p]?=F5 xs lo k i p)/\dP a [(0,.slice (some ⟨B,off+lo * 3,none⟩) k kc),(2,I6 i),(3,I6 ((k:Int) - 1 - i))]/\C'=bV (some ⟨B,off,none⟩) c0 136 yI ys::R) k (cN k ⟨0,xs,by omega,by omega,rfl,(fun p=>by unfold F5;rw[if_neg (by omega)]),⟨rfl,rfl,congrArg (Value.int .i64) (by omega),trivial⟩,rfl⟩ (by omega)) ?_
 rintro kk a C' ⟨i,ys,hi,h2,hl,hp,ha,rfl⟩
 refine iT _ ha ?_
 simp only[gH]
 by_cases hlt:(i:Int)<(k:Int) - 1 - i
 ·obtain⟨u,hu⟩:∃u,ys[lo+i]?=some u:=⟨_,List.getElem?_eq_getElem (by omega)⟩
  obtain⟨v,hv⟩:∃v,ys[lo+(k - 1 - i)]?=some v:=⟨_,List.getElem?_eq_getElem (by omega)⟩
  have hti:((i:Nat):Int).toNat=i:=Int.toNat_natCast i
  have htj:((k:Int) - 1 - i).toNat=k - 1 - i:=by omega
  have hu':ys[lo+((i:Nat):Int).toNat]?=some u:=by rw[hti];exact hu
  have hv':ys[lo+((k:Int) - 1 - i).toNat]?=some v:=by rw[htj];exact hv
  have hv2:(ys.set (lo+((i:Nat):Int).toNat) v)[lo+((k:Int) - 1 - i).toNat]?=some v:=by rw[htj,hti,List.getElem?_set,if_neg (by omega)];exact hv
  have hsw:=Q3 hlk (by omega) hl hp hu hv
  repeat' (first|(show aN _ _ _ _ _ _ _;refine QU (lo:=lo) ?_)|refine v28 ?_|refine dw rW ?_|refine w5 ?_ ?_|((refine bh fun h=>?_) <;> try exact w6 h)|(refine aE fun hA=>?_;subst hA)|intro _|(show aN _ _ _ _ _ _ _;first|refine aO (u:=v) ?_ (hj:=hv')|refine aO (u:=u) ?_ (hj:=hu')|refine uY (y':=v) ?_ (hj:=hu')|refine uY (y':=u) ?_ (hj:=hv2)))
  all_goals(show aV _ _ _ _;exact cN (kk - 1) ⟨i+1,(ys.set (lo+((i:Nat):Int).toNat) v).set (lo+((k:Int) - 1 - i).toNat) u,by omega,by omega,by rw[List.length_set,List.length_set];exact hl,by rw[hti,htj];exact hsw,⟨rfl,rfl,congrArg (Value.int .i64) (by omega),trivial⟩,rfl⟩)
 ·have he:ys=P++(M.reverse++S):=Vq (i:=i) (by omega) (by rw[<- hxs,<- hlo,<- hk];exact hp)
  subst he
  repeat' (first|refine v28 ?_|refine dw rW ?_|refine w5 ?_ ?_|((refine bh fun h=>?_) <;> try exact w6 h)|(refine aE fun hA=>?_;subst hA)|intro _)
  all_goals(refine aC ?_;exact aB (hK))
theorem Aab {r:Int} (hxs:xs=P++(D++ [y])) (hlo:lo=P.length) (hk:k=D.length+1) (hr:r=D.length) (hkc:k<=kc) (hA:A=some ⟨B,off+lo * 3,none⟩) (hs:xs.length<=100000) (hK:K (.tuple #[]) (bV (some ⟨B,off,none⟩) c0 136 yI (P++(y::D))::R)):CT 445 #[.slice A k kc,I6 r] (bV (some ⟨B,off,none⟩) c0 136 yI xs::R) K:=by
 subst hA hr
 have hlen:xs.length=lo+k:=by rw[hxs,hlo,hk];simp <;> omega
 refine aH Tryz.func445 ?_
 repeat' (first|(show aN _ _ _ _ _ _ _;refine oM (sz:=3) ?_;intro A' hA')|refine v8 ?_|refine w5 ?_ ?_|((refine bh fun h=>?_) <;> try exact w6 h)|(refine aE fun hA=>?_;subst hA)|intro _)
 have hs2:P.length+D.length+1<=100000:=by rw[hxs,List.length_append,List.length_append] at hs;exact hs
 refine CA (h:=Nj (P:=P) (M:=D) (S:= [y]) hxs hlo (by simp) (by rw[HF hA' (by omega)] <;> simp) hs ?_)
 repeat' (first|(show aN _ _ _ _ _ _ _;refine oM (sz:=3) ?_;intro A2 hA2)|refine v8 ?_|refine w5 ?_ ?_|((refine bh fun h=>?_) <;> try exact w6 h)|(refine aE fun hA=>?_;subst hA)|intro _)
 refine CA (h:=Nj (xs:=P++(D.reverse++ [y])) (P:=P++D.reverse) (M:= [y]) (S:= []) (by simp) (lo:=lo+D.length) (by simp[hlo]) (by simp[hk]) ((HF hA2 (by omega)).trans (congrArg (fun o=>some (⟨B,o,none⟩:Addr)) (by rw[Int.toNat_natCast];omega))) (by simp only[List.length_append,List.length_reverse,List.length_cons,List.length_nil];omega) ?_)
 repeat' (first|refine v8 ?_|refine w5 ?_ ?_|((refine bh fun h=>?_) <;> try exact w6 h)|(refine aE fun hA=>?_;subst hA)|intro _)
 refine CA (h:=Nj (xs:=P++D.reverse++([y].reverse++ [])) (P:=P) (M:=D.reverse++ [y]) (S:= []) (by simp) hlo (by simp[hk]) rfl (by simp only[List.length_append,List.length_reverse,List.length_cons,List.length_nil];omega) ?_)
 rw[show P++((D.reverse++ [y]).reverse++ [])=P++(y::D) by simp]
 repeat' (first|refine v8 ?_|refine w5 ?_ ?_|((refine bh fun h=>?_) <;> try exact w6 h)|(refine aE fun hA=>?_;subst hA)|intro _)
 all_goals(refine aC ?_;exact aB (hK))
theorem Aaj (hxs:xs=P++(D++ [y])) (hlo:lo=P.length) (hk:k=D.length+1) (hkc:k<=kc) (hA:A=some ⟨B,off+lo * 3,none⟩) (hs:xs.length<=100000) (hK:K (.tuple #[]) (bV (some ⟨B,off,none⟩) c0 136 yI (P++(y::D))::R)):CT 416 #[.slice A k kc,I6 1] (bV (some ⟨B,off,none⟩) c0 136 yI xs::R) K:=by
 have hlen:xs.length=lo+k:=by rw[hxs,hlo,hk];simp <;> omega
 refine aH Tryz.func416 ?_
 repeat' (first|refine v8 ?_|refine w5 ?_ ?_|((refine bh fun h=>?_) <;> try exact w6 h)|(refine aE fun hA=>?_;subst hA)|intro _|(show aA _ 445 _ _ _;refine CA (h:=Aab hxs hlo hk (by omega) hkc hA hs ?_)))
 all_goals(refine aC ?_;exact aB (hK))
def sA:List (Nat×Nat):= [(0,0),(1,0),(4,0),(5,0),(6,0),(7,0),(8,0),(9,0),(10,0),(11,0),(12,0),(13,1),(2,1),(3,1),(14,0),(15,1)]
theorem Nz {P M S xs:List jN} (hxs:xs=P++(M++S)) (hlo:lo=P.length) (hk:k=M.length) (hA:A=some ⟨B,off+lo * 2,none⟩) (hs:xs.length<=100000) (hK:K (.tuple #[]) (bV (some ⟨B,off,none⟩) c0 261 fM (P++(M.reverse++S))::R)):CT 450 #[.slice A k kc] (bV (some ⟨B,off,none⟩) c0 261 fM xs::R) K:=by
 subst hA
 have hlk:lo+k<=xs.length:=by rw[hxs,hlo,hk];simp only[List.length_append];omega
 refine aH Tryz.func450 ?_
 repeat' (first|refine v28 ?_|refine dw sA ?_|refine w5 ?_ ?_|((refine bh fun h=>?_) <;> try exact w6 h)|(refine aE fun hA=>?_;subst hA)|intro _)
 refine jG (fun kk a C'=>∃(i:Nat) (ys:List jN),i+kk=k/\2 * i<=k+1/\ys.length=xs.length/\(∀p,ys[p]?=F5 xs lo k i p)/\dP a [(0,.slice (some ⟨B,off+lo * 2,none⟩) k kc),(2,I6 i),(3,I6 ((k:Int) - 1 - i))]/\C'=bV (some ⟨B,off,none⟩) c0 261 fM ys::R) k (cN k ⟨0,xs,by omega,by omega,rfl,(fun p=>by unfold F5;rw[if_neg (by omega)]),⟨rfl,rfl,congrArg (Value.int .i64) (by omega),trivial⟩,rfl⟩ (by omega)) ?_
 rintro kk a C' ⟨i,ys,hi,h2,hl,hp,ha,rfl⟩
 refine iT _ ha ?_
 simp only[gH]
 by_cases hlt:(i:Int)<(k:Int) - 1 - i
 ·obtain⟨u,hu⟩:∃u,ys[lo+i]?=some u:=⟨_,List.getElem?_eq_getElem (by omega)⟩
  obtain⟨v,hv⟩:∃v,ys[lo+(k - 1 - i)]?=some v:=⟨_,List.getElem?_eq_getElem (by omega)⟩
  have hti:((i:Nat):Int).toNat=i:=Int.toNat_natCast i
  have htj:((k:Int) - 1 - i).toNat=k - 1 - i:=by omega
  have hu':ys[lo+((i:Nat):Int).toNat]?=some u:=by rw[hti];exact hu
  have hv':ys[lo+((k:Int) - 1 - i).toNat]?=some v:=by rw[htj];exact hv
  have hv2:(ys.set (lo+((i:Nat):Int).toNat) v)[lo+((k:Int) - 1 - i).toNat]?=some v:=by rw[htj,hti,List.getElem?_set,if_neg (by omega)];exact hv
  have hsw:=Q3 hlk (by omega) hl hp hu hv
  repeat' (first|(show aN _ _ _ _ _ _ _;refine QU (lo:=lo) ?_)|refine v28 ?_|refine dw sA ?_|refine w5 ?_ ?_|((refine bh fun h=>?_) <;> try exact w6 h)|(refine aE fun hA=>?_;subst hA)|intro _|(show aN _ _ _ _ _ _ _;first|refine aO (u:=v) ?_ (hj:=hv')|refine aO (u:=u) ?_ (hj:=hu')|refine uY (y':=v) ?_ (hj:=hu')|refine uY (y':=u) ?_ (hj:=hv2)))
  all_goals(show aV _ _ _ _;exact cN (kk - 1) ⟨i+1,(ys.set (lo+((i:Nat):Int).toNat) v).set (lo+((k:Int) - 1 - i).toNat) u,by omega,by omega,by rw[List.length_set,List.length_set];exact hl,by rw[hti,htj];exact hsw,⟨rfl,rfl,congrArg (Value.int .i64) (by omega),trivial⟩,rfl⟩)
 ·have he:ys=P++(M.reverse++S):=Vq (i:=i) (by omega) (by rw[<- hxs,<- hlo,<- hk];exact hp)
  subst he
  repeat' (first|refine v28 ?_|refine dw sA ?_|refine w5 ?_ ?_|((refine bh fun h=>?_) <;> try exact w6 h)|(refine aE fun hA=>?_;subst hA)|intro _)
  all_goals(refine aC ?_;exact aB (hK))
theorem Adu {P D xs:List jN} {y:jN} {r:Int} (hxs:xs=P++(D++ [y])) (hlo:lo=P.length) (hk:k=D.length+1) (hr:r=D.length) (hkc:k<=kc) (hA:A=some ⟨B,off+lo * 2,none⟩) (hs:xs.length<=100000) (hK:K (.tuple #[]) (bV (some ⟨B,off,none⟩) c0 261 fM (P++(y::D))::R)):CT 444 #[.slice A k kc,I6 r] (bV (some ⟨B,off,none⟩) c0 261 fM xs::R) K:=by
 subst hA hr
 have hlen:xs.length=lo+k:=by rw[hxs,hlo,hk];simp <;> omega
 refine aH Tryz.func444 ?_
 repeat' (first|(show aN _ _ _ _ _ _ _;refine oM (sz:=2) ?_;intro A' hA')|refine v8 ?_|refine w5 ?_ ?_|((refine bh fun h=>?_) <;> try exact w6 h)|(refine aE fun hA=>?_;subst hA)|intro _)
 have hs2:P.length+D.length+1<=100000:=by rw[hxs,List.length_append,List.length_append] at hs;exact hs
 refine CA (h:=Nz (P:=P) (M:=D) (S:= [y]) hxs hlo (by simp) (by rw[HF hA' (by omega)] <;> simp) hs ?_)
 repeat' (first|(show aN _ _ _ _ _ _ _;refine oM (sz:=2) ?_;intro A2 hA2)|refine v8 ?_|refine w5 ?_ ?_|((refine bh fun h=>?_) <;> try exact w6 h)|(refine aE fun hA=>?_;subst hA)|intro _)
 refine CA (h:=Nz (xs:=P++(D.reverse++ [y])) (P:=P++D.reverse) (M:= [y]) (S:= []) (by simp) (lo:=lo+D.length) (by simp[hlo]) (by simp[hk]) ((HF hA2 (by omega)).trans (congrArg (fun o=>some (⟨B,o,none⟩:Addr)) (by rw[Int.toNat_natCast];omega))) (by simp only[List.length_append,List.length_reverse,List.length_cons,List.length_nil];omega) ?_)
 repeat' (first|refine v8 ?_|refine w5 ?_ ?_|((refine bh fun h=>?_) <;> try exact w6 h)|(refine aE fun hA=>?_;subst hA)|intro _)
 refine CA (h:=Nz (xs:=P++D.reverse++([y].reverse++ [])) (P:=P) (M:=D.reverse++ [y]) (S:= []) (by simp) hlo (by simp[hk]) rfl (by simp only[List.length_append,List.length_reverse,List.length_cons,List.length_nil];omega) ?_)
 rw[show P++((D.reverse++ [y]).reverse++ [])=P++(y::D) by simp]
 repeat' (first|refine v8 ?_|refine w5 ?_ ?_|((refine bh fun h=>?_) <;> try exact w6 h)|(refine aE fun hA=>?_;subst hA)|intro _)
 all_goals(refine aC ?_;exact aB (hK))
theorem Ae5 {P D xs:List jN} {y:jN} (hxs:xs=P++(D++ [y])) (hlo:lo=P.length) (hk:k=D.length+1) (hkc:k<=kc) (hA:A=some ⟨B,off+lo * 2,none⟩) (hs:xs.length<=100000) (hK:K (.tuple #[]) (bV (some ⟨B,off,none⟩) c0 261 fM (P++(y::D))::R)):CT 414 #[.slice A k kc,I6 1] (bV (some ⟨B,off,none⟩) c0 261 fM xs::R) K:=by
 have hlen:xs.length=lo+k:=by rw[hxs,hlo,hk];simp <;> omega
 refine aH Tryz.func414 ?_
 repeat' (first|refine v8 ?_|refine w5 ?_ ?_|((refine bh fun h=>?_) <;> try exact w6 h)|(refine aE fun hA=>?_;subst hA)|intro _|(show aA _ 444 _ _ _;refine CA (h:=Adu hxs hlo hk (by omega) hkc hA hs ?_)))
 all_goals(refine aC ?_;exact aB (hK))
theorem WW {xs:List α} {y:α} (hi:i<xs.length) {ys0 ys1:List (Option α)} (h0:ys0=(xs.take i).map some++List.replicate (xs.length+1 - i) none) (h1:ys1=ys0.take i++([some y]++ys0.drop (i+1))):ys1.take (i+1)++((xs.drop i).map some++ys1.drop (i+1+((xs.drop i).map some).length))=(xs.take i++(y::xs.drop i)).map some:=by
 have l0:((xs.take i).map some).length=i:=by rw[List.length_map,List.length_take];omega
 have e0:ys0.take i=(xs.take i).map some:=by rw[h0,List.take_left' l0]
 have e1:ys1.take (i+1)=(xs.take i).map some++ [some y]:=by
  rw[h1,e0,<- List.append_assoc,List.take_left' (by rw[List.length_append,l0];rfl)]
 have l1:ys1.length=xs.length+1:=by
  rw[h1,e0,h0]
  simp only[List.length_append,List.length_drop,List.length_map,List.length_take,List.length_replicate,List.length_cons,List.length_nil]
  omega
 have e2:ys1.drop (i+1+((xs.drop i).map some).length)= []:=List.drop_eq_nil_of_le (by rw[l1,List.length_map,List.length_drop];omega)
 rw[e1,e2]
 simp
theorem Aa1 {xs ys:List α} {y:α} (hi:i<xs.length) (h:ys=xs.take (i+1)++(xs.drop i++xs.drop (i+1+(xs.drop i).length))):ys.take i++([y]++ys.drop (i+1))=xs.take i++(y::xs.drop i):=by
 have e:xs.drop (i+1+(xs.drop i).length)= []:=List.drop_eq_nil_of_le (by rw[List.length_drop];omega)
 have l:(xs.take (i+1)).length=i+1:=by rw[List.length_take];omega
 rw[h,e,List.append_nil,List.drop_left' l,List.take_append_of_le_length (by omega),List.take_take,Nat.min_eq_left (by omega)]
 simp
def cW:List (Nat×Nat):= [(0,0),(1,0),(2,0),(3,0),(4,0),(5,0),(6,0),(7,0),(8,1)]
def cX:List (Nat×Nat):= [(0,0),(1,0),(2,0),(3,0),(4,0),(5,0),(6,0),(7,0),(8,1)]
theorem Adk (hn:xs.length=n) (hi:i<n) (hs:n<=1000) (hc:n<=c) (hroom:(c:Int)<(n:Int)+1) (hK:∀A' c',K (.slice A' (n+1) c') (bV A' c' 136 yI (xs.take i++(y::xs.drop i))::R)):CT 341 #[.slice (some ⟨B,off,none⟩) n c,I6 i,.slice (some ⟨r,0,none⟩) 1 1] (bV (some ⟨B,off,none⟩) c 136 yI xs::pt r [I6 y.id,PO y.w,I6 y.sp] 136::R) K:=by
 subst hn
 have hdl:(xs.drop i).length=xs.length - i:=List.length_drop ..
 have htl:((xs.take i).map some).length=i:=by rw[List.length_map,List.length_take];omega
 refine aH Tryz.func341 ?_
 repeat' (first|(show aN _ _ _ _ _ _ _;first|refine pT ?_|refine eF (sz:=3) ?_)|refine Ln ?_|refine dw cW ?_|refine dw cX ?_|refine w5 ?_ ?_|((refine bh fun h=>?_) <;> try exact w6 h)|(refine aE fun hA=>?_;subst hA)|intro _)
 refine L3 (E:=yI) (xs:=xs.take i) (k:=xs.length+1 - i) ⟨rfl,rfl⟩ (fun r2 N hN=>?_) (FI (off:=off) (lo:=0) fQ i (Nat.zero_le _) rfl)
 repeat' (first|(show aN _ _ _ _ _ _ _;first|refine pT ?_|refine eF (sz:=3) ?_)|refine Ln ?_|refine dw cW ?_|refine dw cX ?_|refine w5 ?_ ?_|((refine bh fun h=>?_) <;> try exact w6 h)|(refine aE fun hA=>?_;subst hA)|intro _)
 refine sV (sz:=3) (j:=i) (vs:= [some y]) ?_ (hsrc:=HS (vs:= [y]) xV)
 repeat' (first|(show aN _ _ _ _ _ _ _;first|refine pT ?_|refine eF (sz:=3) ?_)|refine Ln ?_|refine dw cW ?_|refine dw cX ?_|refine w5 ?_ ?_|((refine bh fun h=>?_) <;> try exact w6 h)|(refine aE fun hA=>?_;subst hA)|intro _)
 refine sV (sz:=3) (j:=i+1) (vs:=(xs.drop i).map some) ?_ (hsrc:=HS (EN (sz:=3) (j:=i)))
 repeat' (first|(show aN _ _ _ _ _ _ _;first|refine pT ?_|refine eF (sz:=3) ?_)|refine Ln ?_|refine dw cW ?_|refine dw cX ?_|refine w5 ?_ ?_|((refine bh fun h=>?_) <;> try exact w6 h)|(refine aE fun hA=>?_;subst hA)|intro _)
 (refine aC ?_;exact aK (aG.trans (by exact aZ) ((QQ (WW hi rfl rfl)))) ((kv (hK _ _) (congrArg (fun n=>Value.slice _ n _) (by omega)))))
theorem Ack (hn:xs.length=n) (hi:i<n) (hs:n<=1000) (hc:n<=c) (hroom:¬(c:Int)<(n:Int)+1) (hK:∀A' c',K (.slice A' (n+1) c') (bV A' c' 136 yI (xs.take i++(y::xs.drop i))::R)):CT 341 #[.slice (some ⟨B,off,none⟩) n c,I6 i,.slice (some ⟨r,0,none⟩) 1 1] (bV (some ⟨B,off,none⟩) c 136 yI xs::pt r [I6 y.id,PO y.w,I6 y.sp] 136::R) K:=by
 subst hn
 have hdl:(xs.drop i).length=xs.length - i:=List.length_drop ..
 refine aH Tryz.func341 ?_
 repeat' (first|(show aN _ _ _ _ _ _ _;first|refine pT ?_|refine eF (sz:=3) ?_)|refine dw cW ?_|refine dw cX ?_|refine w1m ?_|refine w5 ?_ ?_|((refine bh fun h=>?_) <;> try exact w6 h)|(refine aE fun hA=>?_;subst hA)|intro _)
 refine IR (E:=yI) (sz:=3) (tS:=129) (tR:=4) (off:=off) (j:=i+1) (fun b=>?_)
 cases b
 ·repeat' (first|(show aN _ _ _ _ _ _ _;first|refine pT ?_|refine eF (sz:=3) ?_)|refine Ln ?_|refine dw cW ?_|refine dw cX ?_|refine w5 ?_ ?_|((refine bh fun h=>?_) <;> try exact w6 h)|(refine aE fun hA=>?_;subst hA)|intro _)
  refine sV (sz:=3) (j:=i+1) (vs:=xs.drop i) ?_ (hsrc:=EN (sz:=3) (j:=i))
  repeat' (first|(show aN _ _ _ _ _ _ _;first|refine pT ?_|refine eF (sz:=3) ?_)|refine Ln ?_|refine dw cW ?_|refine dw cX ?_|refine w5 ?_ ?_|((refine bh fun h=>?_) <;> try exact w6 h)|(refine aE fun hA=>?_;subst hA)|intro _)
  refine sV (sz:=3) (j:=i) (vs:= [y]) ?_ (hsrc:=xV)
  repeat' (first|(show aN _ _ _ _ _ _ _;first|refine pT ?_|refine eF (sz:=3) ?_)|refine Ln ?_|refine dw cW ?_|refine dw cX ?_|refine w5 ?_ ?_|((refine bh fun h=>?_) <;> try exact w6 h)|(refine aE fun hA=>?_;subst hA)|intro _)
  (refine aC ?_;exact aK (aG.trans (by exact aZ) ((W7 (Aa1 hi rfl)))) ((kv (hK _ _) (Fs (by omega) (by omega) (by omega)))))
 ·repeat' (first|(show aN _ _ _ _ _ _ _;first|refine pT ?_|refine eF (sz:=3) ?_)|refine Ln ?_|refine dw cW ?_|refine dw cX ?_|refine w5 ?_ ?_|((refine bh fun h=>?_) <;> try exact w6 h)|(refine aE fun hA=>?_;subst hA)|intro _)
  refine sV (sz:=3) (j:=xs.length) (vs:= [y]) ?_ (hsrc:=xV)
  repeat' (first|(show aN _ _ _ _ _ _ _;first|refine pT ?_|refine eF (sz:=3) ?_)|refine Ln ?_|refine dw cW ?_|refine dw cX ?_|refine w5 ?_ ?_|((refine bh fun h=>?_) <;> try exact w6 h)|(refine aE fun hA=>?_;subst hA)|intro _|(show aA _ 416 _ _ _;refine CA (h:=Aaj (xs:=xs.take xs.length++([y]++xs.drop (xs.length+ [y].length))) (P:=xs.take i) (D:=xs.drop i) (y:=y) (lo:=i) (by rw[List.take_of_length_le (Nat.le_refl _),List.drop_eq_nil_of_le (by simp),List.append_nil,<- List.append_assoc,List.take_append_drop]) (by rw[List.length_take];omega) (by rw[hdl];omega) (by omega) (xB (by omega)) (by simp only[List.length_append,List.length_take,List.length_drop,List.length_cons,List.length_nil];omega) ?_)))
  all_goals(refine aC ?_;exact aB ((kv (hK (some ⟨B,off,none⟩) c) (Fs (by omega) (by omega) (by omega)))))
theorem Ajp (hn:xs.length=n) (hi:i<=n) (hs:n<=1000) (hK:∀A' c',K (.slice A' (n+1) c') (bV A' c' 136 yI (xs.take i++(y::xs.drop i))::R)):CT 341 #[.slice A n c,I6 i,.slice (some ⟨r,0,none⟩) 1 1] (bV A c 136 yI xs::pt r [I6 y.id,PO y.w,I6 y.sp] 136::R) K:=by
 refine i0 aU.here fun hc=>?_
 subst hn
 rcases Nat.lt_or_ge i xs.length with hlt|hge
 ·refine qN aU.here (by omega) fun B off hA=>?_
  subst hA
  by_cases hroom:(c:Int)<(xs.length:Int)+1
  ·exact Adk rfl hlt hs hc hroom hK
  ·exact Ack rfl hlt hs hc hroom hK
 ·have hi':i=xs.length:=by omega
  subst hi'
  rw[List.take_of_length_le (Nat.le_refl _),List.drop_eq_nil_of_le (Nat.le_refl _)] at hK
  refine aH Tryz.func341 ?_
  repeat' (first|(show aN _ _ _ _ _ _ _;first|(refine oM ?_;intro A1 hA1)|(refine dD (E:=yI) (xs:=xs) (ys:= [y]) ?_ (hsrc:=zX);intro A2 c2))|refine Ln ?_|refine dw cW ?_|refine dw cX ?_|refine w5 ?_ ?_|((refine bh fun h=>?_) <;> try exact w6 h)|(refine aE fun hA=>?_;subst hA)|intro _)
  all_goals(refine aC ?_;exact aB ((by rw[List.length_append];exact hK _ _)))
def dB:List (Nat×Nat):= [(0,0),(1,0),(2,0),(3,0),(4,0),(5,0),(6,0),(7,0),(8,1)]
def cV:List (Nat×Nat):= [(0,0),(1,0),(2,0),(3,0),(4,0),(5,0),(6,0),(7,0),(8,1)]
theorem Agi {xs:List jN} {y:jN} (hn:xs.length=n) (hi:i<n) (hs:n<=1000) (hc:n<=c) (hroom:(c:Int)<(n:Int)+1) (hK:∀A' c',K (.slice A' (n+1) c') (bV A' c' 261 fM (xs.take i++(y::xs.drop i))::R)):CT 336 #[.slice (some ⟨B,off,none⟩) n c,I6 i,.slice (some ⟨r,0,none⟩) 1 1] (bV (some ⟨B,off,none⟩) c 261 fM xs::pt r [I6 y.id,PO y.a] 261::R) K:=by
 subst hn
 have hdl:(xs.drop i).length=xs.length - i:=List.length_drop ..
 have htl:((xs.take i).map some).length=i:=by rw[List.length_map,List.length_take];omega
 refine aH Tryz.func336 ?_
 repeat' (first|(show aN _ _ _ _ _ _ _;first|refine pT ?_|refine eF (sz:=2) ?_)|refine Ln ?_|refine dw dB ?_|refine dw cV ?_|refine w5 ?_ ?_|((refine bh fun h=>?_) <;> try exact w6 h)|(refine aE fun hA=>?_;subst hA)|intro _)
 refine L3 (E:=fM) (xs:=xs.take i) (k:=xs.length+1 - i) ⟨rfl,rfl⟩ (fun r2 N hN=>?_) (FI (off:=off) (lo:=0) fQ i (Nat.zero_le _) rfl)
 repeat' (first|(show aN _ _ _ _ _ _ _;first|refine pT ?_|refine eF (sz:=2) ?_)|refine Ln ?_|refine dw dB ?_|refine dw cV ?_|refine w5 ?_ ?_|((refine bh fun h=>?_) <;> try exact w6 h)|(refine aE fun hA=>?_;subst hA)|intro _)
 refine sV (sz:=2) (j:=i) (vs:= [some y]) ?_ (hsrc:=HS (vs:= [y]) xV)
 repeat' (first|(show aN _ _ _ _ _ _ _;first|refine pT ?_|refine eF (sz:=2) ?_)|refine Ln ?_|refine dw dB ?_|refine dw cV ?_|refine w5 ?_ ?_|((refine bh fun h=>?_) <;> try exact w6 h)|(refine aE fun hA=>?_;subst hA)|intro _)
 refine sV (sz:=2) (j:=i+1) (vs:=(xs.drop i).map some) ?_ (hsrc:=HS (EN (sz:=2) (j:=i)))
 repeat' (first|(show aN _ _ _ _ _ _ _;first|refine pT ?_|refine eF (sz:=2) ?_)|refine Ln ?_|refine dw dB ?_|refine dw cV ?_|refine w5 ?_ ?_|((refine bh fun h=>?_) <;> try exact w6 h)|(refine aE fun hA=>?_;subst hA)|intro _)
 (refine aC ?_;exact aK (aG.trans (by exact aZ) ((QQ (WW hi rfl rfl)))) ((kv (hK _ _) (congrArg (fun n=>Value.slice _ n _) (by omega)))))
theorem Adf {xs:List jN} {y:jN} (hn:xs.length=n) (hi:i<n) (hs:n<=1000) (hc:n<=c) (hroom:¬(c:Int)<(n:Int)+1) (hK:∀A' c',K (.slice A' (n+1) c') (bV A' c' 261 fM (xs.take i++(y::xs.drop i))::R)):CT 336 #[.slice (some ⟨B,off,none⟩) n c,I6 i,.slice (some ⟨r,0,none⟩) 1 1] (bV (some ⟨B,off,none⟩) c 261 fM xs::pt r [I6 y.id,PO y.a] 261::R) K:=by
 subst hn
 have hdl:(xs.drop i).length=xs.length - i:=List.length_drop ..
 refine aH Tryz.func336 ?_
 repeat' (first|(show aN _ _ _ _ _ _ _;first|refine pT ?_|refine eF (sz:=2) ?_)|refine dw dB ?_|refine dw cV ?_|refine w1m ?_|refine w5 ?_ ?_|((refine bh fun h=>?_) <;> try exact w6 h)|(refine aE fun hA=>?_;subst hA)|intro _)
 refine IR (E:=fM) (sz:=2) (tS:=257) (tR:=4) (off:=off) (j:=i+1) (fun b=>?_)
 cases b
 ·repeat' (first|(show aN _ _ _ _ _ _ _;first|refine pT ?_|refine eF (sz:=2) ?_)|refine Ln ?_|refine dw dB ?_|refine dw cV ?_|refine w5 ?_ ?_|((refine bh fun h=>?_) <;> try exact w6 h)|(refine aE fun hA=>?_;subst hA)|intro _)
  refine sV (sz:=2) (j:=i+1) (vs:=xs.drop i) ?_ (hsrc:=EN (sz:=2) (j:=i))
  repeat' (first|(show aN _ _ _ _ _ _ _;first|refine pT ?_|refine eF (sz:=2) ?_)|refine Ln ?_|refine dw dB ?_|refine dw cV ?_|refine w5 ?_ ?_|((refine bh fun h=>?_) <;> try exact w6 h)|(refine aE fun hA=>?_;subst hA)|intro _)
  refine sV (sz:=2) (j:=i) (vs:= [y]) ?_ (hsrc:=xV)
  repeat' (first|(show aN _ _ _ _ _ _ _;first|refine pT ?_|refine eF (sz:=2) ?_)|refine Ln ?_|refine dw dB ?_|refine dw cV ?_|refine w5 ?_ ?_|((refine bh fun h=>?_) <;> try exact w6 h)|(refine aE fun hA=>?_;subst hA)|intro _)
  (refine aC ?_;exact aK (aG.trans (by exact aZ) ((W7 (Aa1 hi rfl)))) ((kv (hK _ _) (Fs (by omega) (by omega) (by omega)))))
 ·repeat' (first|(show aN _ _ _ _ _ _ _;first|refine pT ?_|refine eF (sz:=2) ?_)|refine Ln ?_|refine dw dB ?_|refine dw cV ?_|refine w5 ?_ ?_|((refine bh fun h=>?_) <;> try exact w6 h)|(refine aE fun hA=>?_;subst hA)|intro _)
  refine sV (sz:=2) (j:=xs.length) (vs:= [y]) ?_ (hsrc:=xV)
  repeat' (first|(show aN _ _ _ _ _ _ _;first|refine pT ?_|refine eF (sz:=2) ?_)|refine Ln ?_|refine dw dB ?_|refine dw cV ?_|refine w5 ?_ ?_|((refine bh fun h=>?_) <;> try exact w6 h)|(refine aE fun hA=>?_;subst hA)|intro _|(show aA _ 414 _ _ _;refine CA (h:=Ae5 (xs:=xs.take xs.length++([y]++xs.drop (xs.length+ [y].length))) (P:=xs.take i) (D:=xs.drop i) (y:=y) (lo:=i) (by rw[List.take_of_length_le (Nat.le_refl _),List.drop_eq_nil_of_le (by simp),List.append_nil,<- List.append_assoc,List.take_append_drop]) (by rw[List.length_take];omega) (by rw[hdl];omega) (by omega) (xB (by omega)) (by simp only[List.length_append,List.length_take,List.length_drop,List.length_cons,List.length_nil];omega) ?_)))
  all_goals(refine aC ?_;exact aB ((kv (hK (some ⟨B,off,none⟩) c) (Fs (by omega) (by omega) (by omega)))))
theorem Aix {xs:List jN} {y:jN} (hn:xs.length=n) (hi:i<=n) (hs:n<=1000) (hK:∀A' c',K (.slice A' (n+1) c') (bV A' c' 261 fM (xs.take i++(y::xs.drop i))::R)):CT 336 #[.slice A n c,I6 i,.slice (some ⟨r,0,none⟩) 1 1] (bV A c 261 fM xs::pt r [I6 y.id,PO y.a] 261::R) K:=by
 refine i0 aU.here fun hc=>?_
 subst hn
 rcases Nat.lt_or_ge i xs.length with hlt|hge
 ·refine qN aU.here (by omega) fun B off hA=>?_
  subst hA
  by_cases hroom:(c:Int)<(xs.length:Int)+1
  ·exact Agi rfl hlt hs hc hroom hK
  ·exact Adf rfl hlt hs hc hroom hK
 ·have hi':i=xs.length:=by omega
  subst hi'
  rw[List.take_of_length_le (Nat.le_refl _),List.drop_eq_nil_of_le (Nat.le_refl _)] at hK
  refine aH Tryz.func336 ?_
  repeat' (first|(show aN _ _ _ _ _ _ _;first|(refine oM ?_;intro A1 hA1)|(refine dD (E:=fM) (xs:=xs) (ys:= [y]) ?_ (hsrc:=zX);intro A2 c2))|refine Ln ?_|refine dw dB ?_|refine dw cV ?_|refine w5 ?_ ?_|((refine bh fun h=>?_) <;> try exact w6 h)|(refine aE fun hA=>?_;subst hA)|intro _)
  all_goals(refine aC ?_;exact aB ((by rw[List.length_append];exact hK _ _)))
theorem Aal {xs:List α} (hi:i<xs.length):xs.take i++(xs.drop (i+1)++xs.drop (i+(xs.drop (i+1)).length))=xs.eraseIdx i++xs.drop (i+(xs.drop (i+1)).length):=by
 rw[List.eraseIdx_eq_take_drop_succ,List.append_assoc]
def sD:List (Nat×Nat):= [(0,0),(1,0),(2,0),(3,0),(4,0),(5,0),(6,1),(7,0)]
theorem Ajw (hn:xs.length=n) (hi:i<n) (hs:n<=1000) (hK:∀A' c',K (.slice A' (n - 1) c') (bV A' c' 136 yI (xs.eraseIdx i)::R)):CT 424 #[.slice A n c,I6 i,I6 ((i:Int)+1)] (bV A c 136 yI xs::R) K:=by
 refine i0 aU.here fun hc=>?_
 subst hn
 refine qN aU.here (by omega) fun B off hA=>?_
 subst hA
 have hdl:(xs.drop (i+1)).length=xs.length - (i+1):=List.length_drop ..
 have hel:(xs.eraseIdx i).length=xs.length - 1:=by rw[List.length_eraseIdx,if_pos hi]
 refine aH Tryz.func424 ?_
 repeat' (first|(show aN _ _ _ _ _ _ _;first|refine eF (sz:=3) ?_|(refine oM (sz:=3) ?_;intro A1 hA1))|refine v9 ?_|refine dw sD ?_|refine w5 ?_ ?_|((refine bh fun h=>?_) <;> try exact w6 h)|(refine aE fun hA=>?_;subst hA)|intro _)
 refine L6 (sz:=3) (j:=i) (N:=xs.length - 1) (vs:=xs.drop (i+1)) ?_ (hsrc:=Wk fQ hA1 rfl (by omega) (by omega) (by omega) (by omega))
 repeat' (first|(show aN _ _ _ _ _ _ _;refine eF (sz:=3) ?_)|refine v9 ?_|refine dw sD ?_|refine w5 ?_ ?_|((refine bh fun h=>?_) <;> try exact w6 h)|(refine aE fun hA=>?_;subst hA)|intro _)
 refine Rl (sz:=3) (xs:=xs.eraseIdx i) ?_ (Aal hi) (hA:=xB (by rw[hel];omega)) (hk0:=by rw[List.length_drop,hdl];omega)
 repeat' (first|refine v9 ?_|refine dw sD ?_|refine w5 ?_ ?_|((refine bh fun h=>?_) <;> try exact w6 h)|(refine aE fun hA=>?_;subst hA)|intro _)
 all_goals(refine aC ?_;exact aB (hK _ _))
def rU:List (Nat×Nat):= [(0,0),(1,0),(2,0),(3,0),(4,0),(5,0),(6,1),(7,0)]
theorem Air {xs:List jN} (hn:xs.length=n) (hi:i<n) (hs:n<=1000) (hK:∀A' c',K (.slice A' (n - 1) c') (bV A' c' 261 fM (xs.eraseIdx i)::R)):CT 422 #[.slice A n c,I6 i,I6 ((i:Int)+1)] (bV A c 261 fM xs::R) K:=by
 refine i0 aU.here fun hc=>?_
 subst hn
 refine qN aU.here (by omega) fun B off hA=>?_
 subst hA
 have hdl:(xs.drop (i+1)).length=xs.length - (i+1):=List.length_drop ..
 have hel:(xs.eraseIdx i).length=xs.length - 1:=by rw[List.length_eraseIdx,if_pos hi]
 refine aH Tryz.func422 ?_
 repeat' (first|(show aN _ _ _ _ _ _ _;first|refine eF (sz:=2) ?_|(refine oM (sz:=2) ?_;intro A1 hA1))|refine v9 ?_|refine dw rU ?_|refine w5 ?_ ?_|((refine bh fun h=>?_) <;> try exact w6 h)|(refine aE fun hA=>?_;subst hA)|intro _)
 refine L6 (sz:=2) (j:=i) (N:=xs.length - 1) (vs:=xs.drop (i+1)) ?_ (hsrc:=Wk fQ hA1 rfl (by omega) (by omega) (by omega) (by omega))
 repeat' (first|(show aN _ _ _ _ _ _ _;refine eF (sz:=2) ?_)|refine v9 ?_|refine dw rU ?_|refine w5 ?_ ?_|((refine bh fun h=>?_) <;> try exact w6 h)|(refine aE fun hA=>?_;subst hA)|intro _)
 refine Rl (sz:=2) (xs:=xs.eraseIdx i) ?_ (Aal hi) (hA:=xB (by rw[hel];omega)) (hk0:=by rw[List.length_drop,hdl];omega)
 repeat' (first|refine v9 ?_|refine dw rU ?_|refine w5 ?_ ?_|((refine bh fun h=>?_) <;> try exact w6 h)|(refine aE fun hA=>?_;subst hA)|intro _)
 all_goals(refine aC ?_;exact aB (hK _ _))
def lb (t:Int) (l:List jN):Nat:=(l.takeWhile fun e=>decide (e.id<t)).length
def Xw (t:Int) (l:List jN):Bool:=match l[lb t l]? with
 |some e=>decide (e.id=t)
 |none=>false
theorem Wi (t:Int):∀l:List jN,lb t l<=l.length
 | []=>Nat.le_refl _
 |e::r=>by
  unfold lb
  rw[List.takeWhile_cons]
  split
  ·have:=Wi t r;unfold lb at this;simp;omega
  ·simp
theorem WE {t:Int}:∀ {l:List jN} {j:Nat} {e:jN},l.Pairwise (fun a b=>a.id<b.id)->l[j]?=some e->(e.id<t↔j<lb t l)
 | [],_,_,_,h=>by cases h
 |z::r,0,e,_,h=>by
  cases h
  unfold lb
  rw[List.takeWhile_cons]
  split
  ·rename_i hz;simp at hz;simp[hz]
  ·rename_i hz;simp at hz;simp;omega
 |z::r,j+1,e,hp,h=>by
  have hp':=(List.pairwise_cons.1 hp)
  have h':r[j]?=some e:=by simpa using h
  have ih:=WE (t:=t) hp'.2 h'
  unfold lb at ih ⊢
  rw[List.takeWhile_cons]
  split
  ·rw[ih];simp
  ·rename_i hz
   have:=hp'.1 e (List.mem_of_getElem? h')
   simp at hz
   simp
   omega
section
variable {l:List jN} {e:jN}
theorem xW (hK:K (I6 (l.length:Nat)) (pt p [I6 most,.slice A l.length c] 259::R)):CT 60 #[PO p] (pt p [I6 most,.slice A l.length c] 259::R) K:=by
 refine aH Tryz.func60 ?_
 repeat' (first|refine v4 ?_|refine w5 ?_ ?_|((refine bh fun h=>?_) <;> try exact w6 h)|(refine aE fun hA=>?_;subst hA)|intro _)
 all_goals(refine aC ?_;exact aB (hK))
theorem Aet (h:1<=most/\most<=1024) (hK:∀p,K (.tuple #[PO p,I6 0]) (pt p [I6 most,.slice none 0 0] 259::R)):CT 95 #[I6 most] R K:=by
 refine aH Tryz.func95 ?_
 repeat' (first|refine v6 ?_|refine w5 ?_ ?_|((refine bh fun h=>?_) <;> try exact w6 h)|(refine aE fun hA=>?_;subst hA)|intro _)
 all_goals(refine aC ?_;exact aB (hK _))
def CL:List (Nat×Nat):= [(0,0),(1,0),(2,0),(3,0),(4,0),(5,0),(6,0),(7,0),(8,0),(9,0),(10,0)]
theorem J2 {b:Bool} (hi:l[i]?=some e) (hb:decide (e.id<t)=b) (hK:K (.bool b) (pt r2 [PO p] 110::pt r3 [I6 t] 3::pt p [I6 most,.slice A l.length c] 259::bV A c 261 fM l::R)):CT 330 #[I6 i,PO r2,PO r3] (pt r2 [PO p] 110::pt r3 [I6 t] 3::pt p [I6 most,.slice A l.length c] 259::bV A c 261 fM l::R) K:=by
 subst hb
 have hlt:=(List.getElem?_eq_some_iff.1 hi).1
 have hi':l[((i:Nat):Int).toNat]?=some e:=by rw[Int.toNat_natCast];exact hi
 refine aH Tryz.func330 ?_
 repeat' (first|refine v29 ?_|refine dw CL ?_|refine w5 ?_ ?_|((refine bh fun h=>?_) <;> try exact w6 h)|(refine aE fun hA=>?_;subst hA)|intro _)
 all_goals(refine aC ?_;exact aB (hK))
theorem Aog {j:Nat} (h:i<=j):((i:Int)+((j:Int) - i) / 2)=((i+(j - i) / 2:Nat):Int):=by omega
def i7:List (Nat×Nat):= [(2,0),(3,1),(0,1),(1,1),(4,0),(5,0),(6,0),(7,0),(8,0),(9,0),(10,0),(11,0),(12,0),(13,0),(14,0),(15,0),(16,0),(17,0),(18,0)]
theorem Cz (hs:l.length<=100000) (hp:l.Pairwise fun a b=>a.id<b.id) (hK:K (.tuple #[I6 (lb t l),.bool (Xw t l)]) (pt p [I6 most,.slice A l.length c] 259::bV A c 261 fM l::R)):CT 225 #[PO p,I6 t] (pt p [I6 most,.slice A l.length c] 259::bV A c 261 fM l::R) K:=by
 have hle:=Wi t l
 refine aH Tryz.func225 ?_
 repeat' (first|refine v84 ?_|refine dw i7 ?_|refine w5 ?_ ?_|((refine bh fun h=>?_) <;> try exact w6 h)|(refine aE fun hA=>?_;subst hA)|intro _|(show aA _ 60 _ _ _;refine CA (h:=xW ?_)))
 rename_i r2 r3
 refine jG (fun kk a C'=>∃(i jj:Nat),i+kk=jj/\i<=lb t l/\lb t l<=jj/\jj<=l.length/\dP a [(2,PO r2),(3,PO r3),(6,I6 i),(7,I6 jj),(8,.func (.func 330) #[] #[PO r2,PO r3])]/\C'=pt r3 [I6 t] 3::pt r2 [PO p] 110::pt p [I6 most,.slice A l.length c] 259::bV A c 261 fM l::R) l.length (cN l.length ⟨0,l.length,by omega,Nat.zero_le _,hle,Nat.le_refl _,⟨rfl,rfl,rfl,rfl,rfl,trivial⟩,rfl⟩ (by omega)) ?_
 rintro kk a C' ⟨i,jj,hk,h1,h2,h3,ha,rfl⟩
 refine iT _ ha ?_
 simp only[gH]
 by_cases hlt:i<jj
 ·have hhalf:=Aog (i:=i) (j:=jj) (by omega)
  obtain⟨e,he⟩:∃e,l[i+(jj - i) / 2]?=some e:=⟨_,List.getElem?_eq_getElem (by omega)⟩
  have hiff:=WE (t:=t) hp he
  by_cases hc:e.id<t
  ·have hv1:decide (e.id<t)=true:=decide_eq_true hc
   have hj:=hiff.1 hc
   repeat' (first|refine v84 ?_|refine dw i7 ?_|refine w5 ?_ ?_|((refine bh fun h=>?_) <;> try exact w6 h)|(refine aE fun hA=>?_;subst hA)|intro _|(show aA _ 330 _ _ _;rw[hhalf];refine CA (h:=J2 he hv1 ?_)))
   all_goals(show aV _ _ _ _;exact cN (kk - (i+(jj - i) / 2+1 - i)) ⟨i+(jj - i) / 2+1,jj,by omega,by omega,h2,h3,⟨rfl,rfl,congrArg (Value.int .i64) (by omega),rfl,rfl,trivial⟩,rfl⟩)
  ·have hj:¬i+(jj - i) / 2<lb t l:=fun q=>hc (hiff.2 q)
   have hv1:decide (e.id<t)=false:=decide_eq_false hc
   repeat' (first|refine v84 ?_|refine dw i7 ?_|refine w5 ?_ ?_|((refine bh fun h=>?_) <;> try exact w6 h)|(refine aE fun hA=>?_;subst hA)|intro _|(show aA _ 330 _ _ _;rw[hhalf];refine CA (h:=J2 he hv1 ?_)))
   all_goals(show aV _ _ _ _;exact cN (kk - (jj - (i+(jj - i) / 2))) ⟨i,i+(jj - i) / 2,by omega,h1,by omega,by omega,⟨rfl,rfl,rfl,rfl,rfl,trivial⟩,rfl⟩)
 ·obtain rfl:i=lb t l:=by omega
  by_cases hn:lb t l<l.length
  ·obtain⟨e,he⟩:∃e,l[lb t l]?=some e:=⟨_,List.getElem?_eq_getElem hn⟩
   have hf:Xw t l=decide (e.id=t):=by unfold Xw;rw[he]
   have he':l[((lb t l:Nat):Int).toNat]?=some e:=by rw[Int.toNat_natCast];exact he
   rw[hf] at hK
   repeat' (first|refine v84 ?_|refine dw i7 ?_|refine w5 ?_ ?_|((refine bh fun h=>?_) <;> try exact w6 h)|(refine aE fun hA=>?_;subst hA)|intro _|(show aA _ 60 _ _ _;refine CA (h:=xW ?_)))
   all_goals(refine aC ?_;exact aB (hK))
  ·have hf:Xw t l=false:=by unfold Xw;rw[List.getElem?_eq_none (by omega)]
   rw[hf] at hK
   repeat' (first|refine v84 ?_|refine dw i7 ?_|refine w5 ?_ ?_|((refine bh fun h=>?_) <;> try exact w6 h)|(refine aE fun hA=>?_;subst hA)|intro _|(show aA _ 60 _ _ _;refine CA (h:=xW ?_)))
   all_goals(refine aC ?_;exact aB (hK))
end
end Go.Proofs.YtepnmcipkangkaaGreat
