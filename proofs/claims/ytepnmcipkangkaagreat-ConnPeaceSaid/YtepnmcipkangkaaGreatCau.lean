/- A part of the proof: lemmas; each with the conditions that it states. -/
import Derived.Test.YtepnmcipkangkaaGreatCat
import Derived.Test.YtepnmcipkangkaaGreatCas
set_option linter.unusedVariables false
set_option linter.unusedSimpArgs false
set_option maxRecDepth 100000
set_option maxHeartbeats 40000000
namespace Go.Proofs.YtepnmcipkangkaaGreat
open Go Go.Proofs Go.Sl
attribute [local irreducible] aN fL cL bM aL aR aA dJ dK aU dI pt ro fC star sep bF
attribute [local irreducible] mp DG
variable {R C:List HP} {K:KP} {α:Type} {i lo k B off kc c0 r c n:Nat} {A:Option Addr} {P xs D:List iT} {y:iT}
structure kD where
 id:Int
 a:Nat
def Af8:List Value->Option kD
 | [.int .i64 id,.pointer (some ⟨w,0,none⟩)]=>some ⟨id,w⟩
 |_=>none
theorem Aac (cs:List Value) (y:kD) (h:Af8 cs=some y): [I6 y.id,PO y.a]=cs:=by
 unfold Af8 at h
 split at h
 ·cases h;rfl
 ·cases h
def fP:u6 kD:= { enc:=fun p=> [I6 p.id,PO p.a],sz:=2,dec:=Af8,len:=fun _=>rfl,one:=fun _=>rfl,ok:=Aac }
def Gm {α:Type} (xs:List α) (lo k i p:Nat):Option α:=if lo<=p/\p<lo+k/\(p<lo+i\/lo+k<=p+i) then xs[2 * lo+k - 1 - p]? else xs[p]?
theorem Vm {P M S ys:List α} (hi:M.length<=2 * i+1) (h:∀p,ys[p]?=Gm (P++(M++S)) P.length M.length i p):ys=P++(M.reverse++S):=by
 apply List.ext_getElem?
 intro p
 rw[h]
 unfold Gm
 by_cases h1:p<P.length
 ·rw[if_neg (by omega),List.getElem?_append_left h1,List.getElem?_append_left h1]
 ·by_cases h2:p<P.length+M.length
  ·have rhs:(P++(M.reverse++S))[p]?=M[M.length - 1 - (p - P.length)]?:=by rw[List.getElem?_append_right (by omega),List.getElem?_append_left (by rw[List.length_reverse];omega),List.getElem?_reverse (by omega)]
   have lhs:∀t,P.length<=t->t<P.length+M.length->(P++(M++S))[t]?=M[t - P.length]?:=fun t h3 h4=>by rw[List.getElem?_append_right h3,List.getElem?_append_left (by omega)]
   rw[rhs]
   by_cases h3:P.length<=p/\p<P.length+M.length/\(p<P.length+i\/P.length+M.length<=p+i)
   ·rw[if_pos h3,lhs _ (by omega) (by omega)]
    congr 1
    omega
   ·rw[if_neg h3,lhs _ (by omega) (by omega)]
    congr 1
    omega
  ·rw[if_neg (by omega),List.getElem?_append_right (by omega),List.getElem?_append_right (by omega),List.getElem?_append_right (by omega),List.getElem?_append_right (by rw[List.length_reverse];omega),List.length_reverse]
theorem OY {xs ys:List α} {u v:α} (hk:lo+k<=xs.length) (hi:2 * i+1<k) (hl:ys.length=xs.length) (h:∀p,ys[p]?=Gm xs lo k i p) (hu:ys[lo+i]?=some u) (hv:ys[lo+(k - 1 - i)]?=some v) (p:Nat):((ys.set (lo+i) v).set (lo+(k - 1 - i)) u)[p]?=Gm xs lo k (i+1) p:=by
 have e1:xs[lo+i]?=some u:=by rw[<- hu,h];unfold Gm;rw[if_neg (by omega)]
 have e2:xs[lo+(k - 1 - i)]?=some v:=by rw[<- hv,h];unfold Gm;rw[if_neg (by omega)]
 rw[List.getElem?_set,List.getElem?_set,List.length_set]
 by_cases h1:lo+(k - 1 - i)=p
 ·subst h1
  rw[if_pos rfl,if_pos (by omega)]
  unfold Gm
  rw[if_pos (by omega),<- e1]
  congr 1
  omega
 ·rw[if_neg h1]
  by_cases h2:lo+i=p
  ·subst h2
   rw[if_pos rfl,if_pos (by omega)]
   unfold Gm
   rw[if_pos (by omega),<- e2]
   congr 1
   omega
  ·rw[if_neg h2,h]
   unfold Gm
   by_cases h3:lo<=p/\p<lo+k/\(p<lo+i\/lo+k<=p+i)
   ·rw[if_pos h3,if_pos (by omega)]
   ·rw[if_neg h3,if_neg (by omega)]
def rY:List (Nat×Nat):= [(0,0),(1,0),(4,0),(5,0),(6,0),(7,0),(8,0),(9,0),(10,0),(11,0),(12,0),(13,1),(2,1),(3,1),(14,0),(15,1)]
theorem Nn {M S:List iT} (hxs:xs=P++(M++S)) (hlo:lo=P.length) (hk:k=M.length) (hA:A=some ⟨B,off+lo * 3,none⟩) (hs:xs.length<=100000) (hK:K (.tuple #[]) (bT (some ⟨B,off,none⟩) c0 136 yN (P++(M.reverse++S))::R)):CT 451 #[.slice A k kc] (bT (some ⟨B,off,none⟩) c0 136 yN xs::R) K:=by
 subst hA
 have hlk:lo+k<=xs.length:=by rw[hxs,hlo,hk];simp only[List.length_append];omega
 refine aH Tryz.func451 ?_
 repeat' (first|refine v28 ?_|refine dw rY ?_|refine w5 ?_ ?_|((refine bh fun h=>?_) <;> try exact w6 h)|(refine aE fun hA=>?_;subst hA)|intro _)
 refine jA (fun kk a C'=>∃(i:Nat) (ys:List iT),i+kk=k/\2 * i<=k+1/\ys.length=xs.length/\(∀p,ys[p]?=Gm xs lo k i p)/\dH a [(0,.slice (some ⟨B,off+lo * 3,none⟩) k kc),(2,I6 i),(3,I6 ((k:Int) - 1 - i))]/\C'=bT (some ⟨B,off,none⟩) c0 136 yN ys::R) k (cJ k ⟨0,xs,by omega,by omega,rfl,(fun p=>by unfold Gm;rw[if_neg (by omega)]),⟨rfl,rfl,congrArg (Value.int .i64) (by omega),trivial⟩,rfl⟩ (by omega)) ?_
 rintro kk a C' ⟨i,ys,hi,h2,hl,hp,ha,rfl⟩
 refine i6 _ ha ?_
 simp only[gJ]
 by_cases hlt:(i:Int)<(k:Int) - 1 - i
 ·obtain⟨u,hu⟩:∃u,ys[lo+i]?=some u:=⟨_,List.getElem?_eq_getElem (by omega)⟩
  obtain⟨v,hv⟩:∃v,ys[lo+(k - 1 - i)]?=some v:=⟨_,List.getElem?_eq_getElem (by omega)⟩
  have hti:((i:Nat):Int).toNat=i:=Int.toNat_natCast i
  have htj:((k:Int) - 1 - i).toNat=k - 1 - i:=by omega
  have hu':ys[lo+((i:Nat):Int).toNat]?=some u:=by rw[hti];exact hu
  have hv':ys[lo+((k:Int) - 1 - i).toNat]?=some v:=by rw[htj];exact hv
  have hv2:(ys.set (lo+((i:Nat):Int).toNat) v)[lo+((k:Int) - 1 - i).toNat]?=some v:=by rw[htj,hti,List.getElem?_set,if_neg (by omega)];exact hv
  have hsw:=OY hlk (by omega) hl hp hu hv
  repeat' (first|(show aN _ _ _ _ _ _ _;refine Sd (lo:=lo) ?_)|refine v28 ?_|refine dw rY ?_|refine w5 ?_ ?_|((refine bh fun h=>?_) <;> try exact w6 h)|(refine aE fun hA=>?_;subst hA)|intro _|(show aN _ _ _ _ _ _ _;first|refine aO (u:=v) ?_ (hj:=hv')|refine aO (u:=u) ?_ (hj:=hu')|refine vC (y':=v) ?_ (hj:=hu')|refine vC (y':=u) ?_ (hj:=hv2)))
  all_goals(show aU _ _ _ _;exact cJ (kk - 1) ⟨i+1,(ys.set (lo+((i:Nat):Int).toNat) v).set (lo+((k:Int) - 1 - i).toNat) u,by omega,by omega,by rw[List.length_set,List.length_set];exact hl,by rw[hti,htj];exact hsw,⟨rfl,rfl,congrArg (Value.int .i64) (by omega),trivial⟩,rfl⟩)
 ·have he:ys=P++(M.reverse++S):=Vm (i:=i) (by omega) (by rw[<- hxs,<- hlo,<- hk];exact hp)
  subst he
  repeat' (first|refine v28 ?_|refine dw rY ?_|refine w5 ?_ ?_|((refine bh fun h=>?_) <;> try exact w6 h)|(refine aE fun hA=>?_;subst hA)|intro _)
  all_goals(refine aC ?_;exact aB (hK))
theorem Abj {r:Int} (hxs:xs=P++(D++ [y])) (hlo:lo=P.length) (hk:k=D.length+1) (hr:r=D.length) (hkc:k<=kc) (hA:A=some ⟨B,off+lo * 3,none⟩) (hs:xs.length<=100000) (hK:K (.tuple #[]) (bT (some ⟨B,off,none⟩) c0 136 yN (P++(y::D))::R)):CT 445 #[.slice A k kc,I6 r] (bT (some ⟨B,off,none⟩) c0 136 yN xs::R) K:=by
 subst hA hr
 have hlen:xs.length=lo+k:=by rw[hxs,hlo,hk];simp <;> omega
 refine aH Tryz.func445 ?_
 repeat' (first|(show aN _ _ _ _ _ _ _;refine oG (sz:=3) ?_;intro A' hA')|refine v8 ?_|refine w5 ?_ ?_|((refine bh fun h=>?_) <;> try exact w6 h)|(refine aE fun hA=>?_;subst hA)|intro _)
 have hs2:P.length+D.length+1<=100000:=by rw[hxs,List.length_append,List.length_append] at hs;exact hs
 refine CA (h:=Nn (P:=P) (M:=D) (S:= [y]) hxs hlo (by simp) (by rw[Ht hA' (by omega)] <;> simp) hs ?_)
 repeat' (first|(show aN _ _ _ _ _ _ _;refine oG (sz:=3) ?_;intro A2 hA2)|refine v8 ?_|refine w5 ?_ ?_|((refine bh fun h=>?_) <;> try exact w6 h)|(refine aE fun hA=>?_;subst hA)|intro _)
 refine CA (h:=Nn (xs:=P++(D.reverse++ [y])) (P:=P++D.reverse) (M:= [y]) (S:= []) (by simp) (lo:=lo+D.length) (by simp[hlo]) (by simp[hk]) ((Ht hA2 (by omega)).trans (congrArg (fun o=>some (⟨B,o,none⟩:Addr)) (by rw[Int.toNat_natCast];omega))) (by simp only[List.length_append,List.length_reverse,List.length_cons,List.length_nil];omega) ?_)
 repeat' (first|refine v8 ?_|refine w5 ?_ ?_|((refine bh fun h=>?_) <;> try exact w6 h)|(refine aE fun hA=>?_;subst hA)|intro _)
 refine CA (h:=Nn (xs:=P++D.reverse++([y].reverse++ [])) (P:=P) (M:=D.reverse++ [y]) (S:= []) (by simp) hlo (by simp[hk]) rfl (by simp only[List.length_append,List.length_reverse,List.length_cons,List.length_nil];omega) ?_)
 rw[show P++((D.reverse++ [y]).reverse++ [])=P++(y::D) by simp]
 repeat' (first|refine v8 ?_|refine w5 ?_ ?_|((refine bh fun h=>?_) <;> try exact w6 h)|(refine aE fun hA=>?_;subst hA)|intro _)
 all_goals(refine aC ?_;exact aB (hK))
theorem Aez (hxs:xs=P++(D++ [y])) (hlo:lo=P.length) (hk:k=D.length+1) (hkc:k<=kc) (hA:A=some ⟨B,off+lo * 3,none⟩) (hs:xs.length<=100000) (hK:K (.tuple #[]) (bT (some ⟨B,off,none⟩) c0 136 yN (P++(y::D))::R)):CT 416 #[.slice A k kc,I6 1] (bT (some ⟨B,off,none⟩) c0 136 yN xs::R) K:=by
 have hlen:xs.length=lo+k:=by rw[hxs,hlo,hk];simp <;> omega
 refine aH Tryz.func416 ?_
 repeat' (first|refine v8 ?_|refine w5 ?_ ?_|((refine bh fun h=>?_) <;> try exact w6 h)|(refine aE fun hA=>?_;subst hA)|intro _|(show aA _ 445 _ _ _;refine CA (h:=Abj hxs hlo hk (by omega) hkc hA hs ?_)))
 all_goals(refine aC ?_;exact aB (hK))
def sO:List (Nat×Nat):= [(0,0),(1,0),(4,0),(5,0),(6,0),(7,0),(8,0),(9,0),(10,0),(11,0),(12,0),(13,1),(2,1),(3,1),(14,0),(15,1)]
theorem NO {P M S xs:List kD} (hxs:xs=P++(M++S)) (hlo:lo=P.length) (hk:k=M.length) (hA:A=some ⟨B,off+lo * 2,none⟩) (hs:xs.length<=100000) (hK:K (.tuple #[]) (bT (some ⟨B,off,none⟩) c0 261 fP (P++(M.reverse++S))::R)):CT 450 #[.slice A k kc] (bT (some ⟨B,off,none⟩) c0 261 fP xs::R) K:=by
 subst hA
 have hlk:lo+k<=xs.length:=by rw[hxs,hlo,hk];simp only[List.length_append];omega
 refine aH Tryz.func450 ?_
 repeat' (first|refine v28 ?_|refine dw sO ?_|refine w5 ?_ ?_|((refine bh fun h=>?_) <;> try exact w6 h)|(refine aE fun hA=>?_;subst hA)|intro _)
 refine jA (fun kk a C'=>∃(i:Nat) (ys:List kD),i+kk=k/\2 * i<=k+1/\ys.length=xs.length/\(∀p,ys[p]?=Gm xs lo k i p)/\dH a [(0,.slice (some ⟨B,off+lo * 2,none⟩) k kc),(2,I6 i),(3,I6 ((k:Int) - 1 - i))]/\C'=bT (some ⟨B,off,none⟩) c0 261 fP ys::R) k (cJ k ⟨0,xs,by omega,by omega,rfl,(fun p=>by unfold Gm;rw[if_neg (by omega)]),⟨rfl,rfl,congrArg (Value.int .i64) (by omega),trivial⟩,rfl⟩ (by omega)) ?_
 rintro kk a C' ⟨i,ys,hi,h2,hl,hp,ha,rfl⟩
 refine i6 _ ha ?_
 simp only[gJ]
 by_cases hlt:(i:Int)<(k:Int) - 1 - i
 ·obtain⟨u,hu⟩:∃u,ys[lo+i]?=some u:=⟨_,List.getElem?_eq_getElem (by omega)⟩
  obtain⟨v,hv⟩:∃v,ys[lo+(k - 1 - i)]?=some v:=⟨_,List.getElem?_eq_getElem (by omega)⟩
  have hti:((i:Nat):Int).toNat=i:=Int.toNat_natCast i
  have htj:((k:Int) - 1 - i).toNat=k - 1 - i:=by omega
  have hu':ys[lo+((i:Nat):Int).toNat]?=some u:=by rw[hti];exact hu
  have hv':ys[lo+((k:Int) - 1 - i).toNat]?=some v:=by rw[htj];exact hv
  have hv2:(ys.set (lo+((i:Nat):Int).toNat) v)[lo+((k:Int) - 1 - i).toNat]?=some v:=by rw[htj,hti,List.getElem?_set,if_neg (by omega)];exact hv
  have hsw:=OY hlk (by omega) hl hp hu hv
  repeat' (first|(show aN _ _ _ _ _ _ _;refine Sd (lo:=lo) ?_)|refine v28 ?_|refine dw sO ?_|refine w5 ?_ ?_|((refine bh fun h=>?_) <;> try exact w6 h)|(refine aE fun hA=>?_;subst hA)|intro _|(show aN _ _ _ _ _ _ _;first|refine aO (u:=v) ?_ (hj:=hv')|refine aO (u:=u) ?_ (hj:=hu')|refine vC (y':=v) ?_ (hj:=hu')|refine vC (y':=u) ?_ (hj:=hv2)))
  all_goals(show aU _ _ _ _;exact cJ (kk - 1) ⟨i+1,(ys.set (lo+((i:Nat):Int).toNat) v).set (lo+((k:Int) - 1 - i).toNat) u,by omega,by omega,by rw[List.length_set,List.length_set];exact hl,by rw[hti,htj];exact hsw,⟨rfl,rfl,congrArg (Value.int .i64) (by omega),trivial⟩,rfl⟩)
 ·have he:ys=P++(M.reverse++S):=Vm (i:=i) (by omega) (by rw[<- hxs,<- hlo,<- hk];exact hp)
  subst he
  repeat' (first|refine v28 ?_|refine dw sO ?_|refine w5 ?_ ?_|((refine bh fun h=>?_) <;> try exact w6 h)|(refine aE fun hA=>?_;subst hA)|intro _)
  all_goals(refine aC ?_;exact aB (hK))
theorem Adf {P D xs:List kD} {y:kD} {r:Int} (hxs:xs=P++(D++ [y])) (hlo:lo=P.length) (hk:k=D.length+1) (hr:r=D.length) (hkc:k<=kc) (hA:A=some ⟨B,off+lo * 2,none⟩) (hs:xs.length<=100000) (hK:K (.tuple #[]) (bT (some ⟨B,off,none⟩) c0 261 fP (P++(y::D))::R)):CT 444 #[.slice A k kc,I6 r] (bT (some ⟨B,off,none⟩) c0 261 fP xs::R) K:=by
 subst hA hr
 have hlen:xs.length=lo+k:=by rw[hxs,hlo,hk];simp <;> omega
 refine aH Tryz.func444 ?_
 repeat' (first|(show aN _ _ _ _ _ _ _;refine oG (sz:=2) ?_;intro A' hA')|refine v8 ?_|refine w5 ?_ ?_|((refine bh fun h=>?_) <;> try exact w6 h)|(refine aE fun hA=>?_;subst hA)|intro _)
 have hs2:P.length+D.length+1<=100000:=by rw[hxs,List.length_append,List.length_append] at hs;exact hs
 refine CA (h:=NO (P:=P) (M:=D) (S:= [y]) hxs hlo (by simp) (by rw[Ht hA' (by omega)] <;> simp) hs ?_)
 repeat' (first|(show aN _ _ _ _ _ _ _;refine oG (sz:=2) ?_;intro A2 hA2)|refine v8 ?_|refine w5 ?_ ?_|((refine bh fun h=>?_) <;> try exact w6 h)|(refine aE fun hA=>?_;subst hA)|intro _)
 refine CA (h:=NO (xs:=P++(D.reverse++ [y])) (P:=P++D.reverse) (M:= [y]) (S:= []) (by simp) (lo:=lo+D.length) (by simp[hlo]) (by simp[hk]) ((Ht hA2 (by omega)).trans (congrArg (fun o=>some (⟨B,o,none⟩:Addr)) (by rw[Int.toNat_natCast];omega))) (by simp only[List.length_append,List.length_reverse,List.length_cons,List.length_nil];omega) ?_)
 repeat' (first|refine v8 ?_|refine w5 ?_ ?_|((refine bh fun h=>?_) <;> try exact w6 h)|(refine aE fun hA=>?_;subst hA)|intro _)
 refine CA (h:=NO (xs:=P++D.reverse++([y].reverse++ [])) (P:=P) (M:=D.reverse++ [y]) (S:= []) (by simp) hlo (by simp[hk]) rfl (by simp only[List.length_append,List.length_reverse,List.length_cons,List.length_nil];omega) ?_)
 rw[show P++((D.reverse++ [y]).reverse++ [])=P++(y::D) by simp]
 repeat' (first|refine v8 ?_|refine w5 ?_ ?_|((refine bh fun h=>?_) <;> try exact w6 h)|(refine aE fun hA=>?_;subst hA)|intro _)
 all_goals(refine aC ?_;exact aB (hK))
theorem Acl {P D xs:List kD} {y:kD} (hxs:xs=P++(D++ [y])) (hlo:lo=P.length) (hk:k=D.length+1) (hkc:k<=kc) (hA:A=some ⟨B,off+lo * 2,none⟩) (hs:xs.length<=100000) (hK:K (.tuple #[]) (bT (some ⟨B,off,none⟩) c0 261 fP (P++(y::D))::R)):CT 414 #[.slice A k kc,I6 1] (bT (some ⟨B,off,none⟩) c0 261 fP xs::R) K:=by
 have hlen:xs.length=lo+k:=by rw[hxs,hlo,hk];simp <;> omega
 refine aH Tryz.func414 ?_
 repeat' (first|refine v8 ?_|refine w5 ?_ ?_|((refine bh fun h=>?_) <;> try exact w6 h)|(refine aE fun hA=>?_;subst hA)|intro _|(show aA _ 444 _ _ _;refine CA (h:=Adf hxs hlo hk (by omega) hkc hA hs ?_)))
 all_goals(refine aC ?_;exact aB (hK))
theorem Vw {xs:List α} {y:α} (hi:i<xs.length) {ys0 ys1:List (Option α)} (h0:ys0=(xs.take i).map some++List.replicate (xs.length+1 - i) none) (h1:ys1=ys0.take i++([some y]++ys0.drop (i+1))):ys1.take (i+1)++((xs.drop i).map some++ys1.drop (i+1+((xs.drop i).map some).length))=(xs.take i++(y::xs.drop i)).map some:=by
 have l0:((xs.take i).map some).length=i:=by rw[List.length_map,List.length_take];omega
 have e0:ys0.take i=(xs.take i).map some:=by rw[h0,List.take_left' l0]
 have e1:ys1.take (i+1)=(xs.take i).map some++ [some y]:=by
  rw[h1,e0,<- List.append_assoc,List.take_left' (by rw[List.length_append,l0];rfl)]
 have l1:ys1.length=xs.length+1:=by
  rw[h1,e0,h0]
  simp only[List.length_append,List.length_drop,List.length_map,List.length_take,List.length_replicate,List.length_cons,List.length_nil]
  omega
 have e2:ys1.drop (i+1+((xs.drop i).map some).length)= []:=List.drop_eq_nil_of_le (by rw[l1,List.length_map,List.length_drop];omega)
 rw[e1,e2]
 simp
theorem Aew {xs ys:List α} {y:α} (hi:i<xs.length) (h:ys=xs.take (i+1)++(xs.drop i++xs.drop (i+1+(xs.drop i).length))):ys.take i++([y]++ys.drop (i+1))=xs.take i++(y::xs.drop i):=by
 have e:xs.drop (i+1+(xs.drop i).length)= []:=List.drop_eq_nil_of_le (by rw[List.length_drop];omega)
 have l:(xs.take (i+1)).length=i+1:=by rw[List.length_take];omega
 rw[h,e,List.append_nil,List.drop_left' l,List.take_append_of_le_length (by omega),List.take_take,Nat.min_eq_left (by omega)]
 simp
def cX:List (Nat×Nat):= [(0,0),(1,0),(2,0),(3,0),(4,0),(5,0),(6,0),(7,0),(8,1)]
def cW:List (Nat×Nat):= [(0,0),(1,0),(2,0),(3,0),(4,0),(5,0),(6,0),(7,0),(8,1)]
theorem Abc (hn:xs.length=n) (hi:i<n) (hs:n<=1000) (hc:n<=c) (hroom:(c:Int)<(n:Int)+1) (hK:∀A' c',K (.slice A' (n+1) c') (bT A' c' 136 yN (xs.take i++(y::xs.drop i))::R)):CT 341 #[.slice (some ⟨B,off,none⟩) n c,I6 i,.slice (some ⟨r,0,none⟩) 1 1] (bT (some ⟨B,off,none⟩) c 136 yN xs::pt r [I6 y.id,PO y.w,I6 y.sp] 136::R) K:=by
 subst hn
 have hdl:(xs.drop i).length=xs.length - i:=List.length_drop ..
 have htl:((xs.take i).map some).length=i:=by rw[List.length_map,List.length_take];omega
 refine aH Tryz.func341 ?_
 repeat' (first|(show aN _ _ _ _ _ _ _;first|refine p7 ?_|refine eE (sz:=3) ?_)|refine KS ?_|refine dw cX ?_|refine dw cW ?_|refine w5 ?_ ?_|((refine bh fun h=>?_) <;> try exact w6 h)|(refine aE fun hA=>?_;subst hA)|intro _)
 refine KN (E:=yN) (xs:=xs.take i) (k:=xs.length+1 - i) ⟨rfl,rfl⟩ (fun r2 N hN=>?_) (D3 (off:=off) (lo:=0) fT i (Nat.zero_le _) rfl)
 repeat' (first|(show aN _ _ _ _ _ _ _;first|refine p7 ?_|refine eE (sz:=3) ?_)|refine KS ?_|refine dw cX ?_|refine dw cW ?_|refine w5 ?_ ?_|((refine bh fun h=>?_) <;> try exact w6 h)|(refine aE fun hA=>?_;subst hA)|intro _)
 refine s9 (sz:=3) (j:=i) (vs:= [some y]) ?_ (hsrc:=HF (vs:= [y]) yX)
 repeat' (first|(show aN _ _ _ _ _ _ _;first|refine p7 ?_|refine eE (sz:=3) ?_)|refine KS ?_|refine dw cX ?_|refine dw cW ?_|refine w5 ?_ ?_|((refine bh fun h=>?_) <;> try exact w6 h)|(refine aE fun hA=>?_;subst hA)|intro _)
 refine s9 (sz:=3) (j:=i+1) (vs:=(xs.drop i).map some) ?_ (hsrc:=HF (EJ (sz:=3) (j:=i)))
 repeat' (first|(show aN _ _ _ _ _ _ _;first|refine p7 ?_|refine eE (sz:=3) ?_)|refine KS ?_|refine dw cX ?_|refine dw cW ?_|refine w5 ?_ ?_|((refine bh fun h=>?_) <;> try exact w6 h)|(refine aE fun hA=>?_;subst hA)|intro _)
 (refine aC ?_;exact aM (aG.trans (by exact aY) ((Qt (Vw hi rfl rfl)))) ((kv (hK _ _) (congrArg (fun n=>Value.slice _ n _) (by omega)))))
theorem Ae1 (hn:xs.length=n) (hi:i<n) (hs:n<=1000) (hc:n<=c) (hroom:¬(c:Int)<(n:Int)+1) (hK:∀A' c',K (.slice A' (n+1) c') (bT A' c' 136 yN (xs.take i++(y::xs.drop i))::R)):CT 341 #[.slice (some ⟨B,off,none⟩) n c,I6 i,.slice (some ⟨r,0,none⟩) 1 1] (bT (some ⟨B,off,none⟩) c 136 yN xs::pt r [I6 y.id,PO y.w,I6 y.sp] 136::R) K:=by
 subst hn
 have hdl:(xs.drop i).length=xs.length - i:=List.length_drop ..
 refine aH Tryz.func341 ?_
 repeat' (first|(show aN _ _ _ _ _ _ _;first|refine p7 ?_|refine eE (sz:=3) ?_)|refine dw cX ?_|refine dw cW ?_|refine w1m ?_|refine w5 ?_ ?_|((refine bh fun h=>?_) <;> try exact w6 h)|(refine aE fun hA=>?_;subst hA)|intro _)
 refine I4 (E:=yN) (sz:=3) (tS:=129) (tR:=4) (off:=off) (j:=i+1) (fun b=>?_)
 cases b
 ·repeat' (first|(show aN _ _ _ _ _ _ _;first|refine p7 ?_|refine eE (sz:=3) ?_)|refine KS ?_|refine dw cX ?_|refine dw cW ?_|refine w5 ?_ ?_|((refine bh fun h=>?_) <;> try exact w6 h)|(refine aE fun hA=>?_;subst hA)|intro _)
  refine s9 (sz:=3) (j:=i+1) (vs:=xs.drop i) ?_ (hsrc:=EJ (sz:=3) (j:=i))
  repeat' (first|(show aN _ _ _ _ _ _ _;first|refine p7 ?_|refine eE (sz:=3) ?_)|refine KS ?_|refine dw cX ?_|refine dw cW ?_|refine w5 ?_ ?_|((refine bh fun h=>?_) <;> try exact w6 h)|(refine aE fun hA=>?_;subst hA)|intro _)
  refine s9 (sz:=3) (j:=i) (vs:= [y]) ?_ (hsrc:=yX)
  repeat' (first|(show aN _ _ _ _ _ _ _;first|refine p7 ?_|refine eE (sz:=3) ?_)|refine KS ?_|refine dw cX ?_|refine dw cW ?_|refine w5 ?_ ?_|((refine bh fun h=>?_) <;> try exact w6 h)|(refine aE fun hA=>?_;subst hA)|intro _)
  (refine aC ?_;exact aM (aG.trans (by exact aY) ((Wh (Aew hi rfl)))) ((kv (hK _ _) (EP (by omega) (by omega) (by omega)))))
 ·repeat' (first|(show aN _ _ _ _ _ _ _;first|refine p7 ?_|refine eE (sz:=3) ?_)|refine KS ?_|refine dw cX ?_|refine dw cW ?_|refine w5 ?_ ?_|((refine bh fun h=>?_) <;> try exact w6 h)|(refine aE fun hA=>?_;subst hA)|intro _)
  refine s9 (sz:=3) (j:=xs.length) (vs:= [y]) ?_ (hsrc:=yX)
  repeat' (first|(show aN _ _ _ _ _ _ _;first|refine p7 ?_|refine eE (sz:=3) ?_)|refine KS ?_|refine dw cX ?_|refine dw cW ?_|refine w5 ?_ ?_|((refine bh fun h=>?_) <;> try exact w6 h)|(refine aE fun hA=>?_;subst hA)|intro _|(show aA _ 416 _ _ _;refine CA (h:=Aez (xs:=xs.take xs.length++([y]++xs.drop (xs.length+ [y].length))) (P:=xs.take i) (D:=xs.drop i) (y:=y) (lo:=i) (by rw[List.take_of_length_le (Nat.le_refl _),List.drop_eq_nil_of_le (by simp),List.append_nil,<- List.append_assoc,List.take_append_drop]) (by rw[List.length_take];omega) (by rw[hdl];omega) (by omega) (w7 (by omega)) (by simp only[List.length_append,List.length_take,List.length_drop,List.length_cons,List.length_nil];omega) ?_)))
  all_goals(refine aC ?_;exact aB ((kv (hK (some ⟨B,off,none⟩) c) (EP (by omega) (by omega) (by omega)))))
theorem Akt (hn:xs.length=n) (hi:i<=n) (hs:n<=1000) (hK:∀A' c',K (.slice A' (n+1) c') (bT A' c' 136 yN (xs.take i++(y::xs.drop i))::R)):CT 341 #[.slice A n c,I6 i,.slice (some ⟨r,0,none⟩) 1 1] (bT A c 136 yN xs::pt r [I6 y.id,PO y.w,I6 y.sp] 136::R) K:=by
 refine i7 aW.here fun hc=>?_
 subst hn
 rcases Nat.lt_or_ge i xs.length with hlt|hge
 ·refine qI aW.here (by omega) fun B off hA=>?_
  subst hA
  by_cases hroom:(c:Int)<(xs.length:Int)+1
  ·exact Abc rfl hlt hs hc hroom hK
  ·exact Ae1 rfl hlt hs hc hroom hK
 ·have hi':i=xs.length:=by omega
  subst hi'
  rw[List.take_of_length_le (Nat.le_refl _),List.drop_eq_nil_of_le (Nat.le_refl _)] at hK
  refine aH Tryz.func341 ?_
  repeat' (first|(show aN _ _ _ _ _ _ _;first|(refine oG ?_;intro A1 hA1)|(refine dD (E:=yN) (xs:=xs) (ys:= [y]) ?_ (hsrc:=zV);intro A2 c2))|refine KS ?_|refine dw cX ?_|refine dw cW ?_|refine w5 ?_ ?_|((refine bh fun h=>?_) <;> try exact w6 h)|(refine aE fun hA=>?_;subst hA)|intro _)
  all_goals(refine aC ?_;exact aB ((by rw[List.length_append];exact hK _ _)))
def cY:List (Nat×Nat):= [(0,0),(1,0),(2,0),(3,0),(4,0),(5,0),(6,0),(7,0),(8,1)]
def cV:List (Nat×Nat):= [(0,0),(1,0),(2,0),(3,0),(4,0),(5,0),(6,0),(7,0),(8,1)]
theorem Z7 {xs:List kD} {y:kD} (hn:xs.length=n) (hi:i<n) (hs:n<=1000) (hc:n<=c) (hroom:(c:Int)<(n:Int)+1) (hK:∀A' c',K (.slice A' (n+1) c') (bT A' c' 261 fP (xs.take i++(y::xs.drop i))::R)):CT 336 #[.slice (some ⟨B,off,none⟩) n c,I6 i,.slice (some ⟨r,0,none⟩) 1 1] (bT (some ⟨B,off,none⟩) c 261 fP xs::pt r [I6 y.id,PO y.a] 261::R) K:=by
 subst hn
 have hdl:(xs.drop i).length=xs.length - i:=List.length_drop ..
 have htl:((xs.take i).map some).length=i:=by rw[List.length_map,List.length_take];omega
 refine aH Tryz.func336 ?_
 repeat' (first|(show aN _ _ _ _ _ _ _;first|refine p7 ?_|refine eE (sz:=2) ?_)|refine KS ?_|refine dw cY ?_|refine dw cV ?_|refine w5 ?_ ?_|((refine bh fun h=>?_) <;> try exact w6 h)|(refine aE fun hA=>?_;subst hA)|intro _)
 refine KN (E:=fP) (xs:=xs.take i) (k:=xs.length+1 - i) ⟨rfl,rfl⟩ (fun r2 N hN=>?_) (D3 (off:=off) (lo:=0) fT i (Nat.zero_le _) rfl)
 repeat' (first|(show aN _ _ _ _ _ _ _;first|refine p7 ?_|refine eE (sz:=2) ?_)|refine KS ?_|refine dw cY ?_|refine dw cV ?_|refine w5 ?_ ?_|((refine bh fun h=>?_) <;> try exact w6 h)|(refine aE fun hA=>?_;subst hA)|intro _)
 refine s9 (sz:=2) (j:=i) (vs:= [some y]) ?_ (hsrc:=HF (vs:= [y]) yX)
 repeat' (first|(show aN _ _ _ _ _ _ _;first|refine p7 ?_|refine eE (sz:=2) ?_)|refine KS ?_|refine dw cY ?_|refine dw cV ?_|refine w5 ?_ ?_|((refine bh fun h=>?_) <;> try exact w6 h)|(refine aE fun hA=>?_;subst hA)|intro _)
 refine s9 (sz:=2) (j:=i+1) (vs:=(xs.drop i).map some) ?_ (hsrc:=HF (EJ (sz:=2) (j:=i)))
 repeat' (first|(show aN _ _ _ _ _ _ _;first|refine p7 ?_|refine eE (sz:=2) ?_)|refine KS ?_|refine dw cY ?_|refine dw cV ?_|refine w5 ?_ ?_|((refine bh fun h=>?_) <;> try exact w6 h)|(refine aE fun hA=>?_;subst hA)|intro _)
 (refine aC ?_;exact aM (aG.trans (by exact aY) ((Qt (Vw hi rfl rfl)))) ((kv (hK _ _) (congrArg (fun n=>Value.slice _ n _) (by omega)))))
theorem Aby {xs:List kD} {y:kD} (hn:xs.length=n) (hi:i<n) (hs:n<=1000) (hc:n<=c) (hroom:¬(c:Int)<(n:Int)+1) (hK:∀A' c',K (.slice A' (n+1) c') (bT A' c' 261 fP (xs.take i++(y::xs.drop i))::R)):CT 336 #[.slice (some ⟨B,off,none⟩) n c,I6 i,.slice (some ⟨r,0,none⟩) 1 1] (bT (some ⟨B,off,none⟩) c 261 fP xs::pt r [I6 y.id,PO y.a] 261::R) K:=by
 subst hn
 have hdl:(xs.drop i).length=xs.length - i:=List.length_drop ..
 refine aH Tryz.func336 ?_
 repeat' (first|(show aN _ _ _ _ _ _ _;first|refine p7 ?_|refine eE (sz:=2) ?_)|refine dw cY ?_|refine dw cV ?_|refine w1m ?_|refine w5 ?_ ?_|((refine bh fun h=>?_) <;> try exact w6 h)|(refine aE fun hA=>?_;subst hA)|intro _)
 refine I4 (E:=fP) (sz:=2) (tS:=257) (tR:=4) (off:=off) (j:=i+1) (fun b=>?_)
 cases b
 ·repeat' (first|(show aN _ _ _ _ _ _ _;first|refine p7 ?_|refine eE (sz:=2) ?_)|refine KS ?_|refine dw cY ?_|refine dw cV ?_|refine w5 ?_ ?_|((refine bh fun h=>?_) <;> try exact w6 h)|(refine aE fun hA=>?_;subst hA)|intro _)
  refine s9 (sz:=2) (j:=i+1) (vs:=xs.drop i) ?_ (hsrc:=EJ (sz:=2) (j:=i))
  repeat' (first|(show aN _ _ _ _ _ _ _;first|refine p7 ?_|refine eE (sz:=2) ?_)|refine KS ?_|refine dw cY ?_|refine dw cV ?_|refine w5 ?_ ?_|((refine bh fun h=>?_) <;> try exact w6 h)|(refine aE fun hA=>?_;subst hA)|intro _)
  refine s9 (sz:=2) (j:=i) (vs:= [y]) ?_ (hsrc:=yX)
  repeat' (first|(show aN _ _ _ _ _ _ _;first|refine p7 ?_|refine eE (sz:=2) ?_)|refine KS ?_|refine dw cY ?_|refine dw cV ?_|refine w5 ?_ ?_|((refine bh fun h=>?_) <;> try exact w6 h)|(refine aE fun hA=>?_;subst hA)|intro _)
  (refine aC ?_;exact aM (aG.trans (by exact aY) ((Wh (Aew hi rfl)))) ((kv (hK _ _) (EP (by omega) (by omega) (by omega)))))
 ·repeat' (first|(show aN _ _ _ _ _ _ _;first|refine p7 ?_|refine eE (sz:=2) ?_)|refine KS ?_|refine dw cY ?_|refine dw cV ?_|refine w5 ?_ ?_|((refine bh fun h=>?_) <;> try exact w6 h)|(refine aE fun hA=>?_;subst hA)|intro _)
  refine s9 (sz:=2) (j:=xs.length) (vs:= [y]) ?_ (hsrc:=yX)
  repeat' (first|(show aN _ _ _ _ _ _ _;first|refine p7 ?_|refine eE (sz:=2) ?_)|refine KS ?_|refine dw cY ?_|refine dw cV ?_|refine w5 ?_ ?_|((refine bh fun h=>?_) <;> try exact w6 h)|(refine aE fun hA=>?_;subst hA)|intro _|(show aA _ 414 _ _ _;refine CA (h:=Acl (xs:=xs.take xs.length++([y]++xs.drop (xs.length+ [y].length))) (P:=xs.take i) (D:=xs.drop i) (y:=y) (lo:=i) (by rw[List.take_of_length_le (Nat.le_refl _),List.drop_eq_nil_of_le (by simp),List.append_nil,<- List.append_assoc,List.take_append_drop]) (by rw[List.length_take];omega) (by rw[hdl];omega) (by omega) (w7 (by omega)) (by simp only[List.length_append,List.length_take,List.length_drop,List.length_cons,List.length_nil];omega) ?_)))
  all_goals(refine aC ?_;exact aB ((kv (hK (some ⟨B,off,none⟩) c) (EP (by omega) (by omega) (by omega)))))
theorem Ahh {xs:List kD} {y:kD} (hn:xs.length=n) (hi:i<=n) (hs:n<=1000) (hK:∀A' c',K (.slice A' (n+1) c') (bT A' c' 261 fP (xs.take i++(y::xs.drop i))::R)):CT 336 #[.slice A n c,I6 i,.slice (some ⟨r,0,none⟩) 1 1] (bT A c 261 fP xs::pt r [I6 y.id,PO y.a] 261::R) K:=by
 refine i7 aW.here fun hc=>?_
 subst hn
 rcases Nat.lt_or_ge i xs.length with hlt|hge
 ·refine qI aW.here (by omega) fun B off hA=>?_
  subst hA
  by_cases hroom:(c:Int)<(xs.length:Int)+1
  ·exact Z7 rfl hlt hs hc hroom hK
  ·exact Aby rfl hlt hs hc hroom hK
 ·have hi':i=xs.length:=by omega
  subst hi'
  rw[List.take_of_length_le (Nat.le_refl _),List.drop_eq_nil_of_le (Nat.le_refl _)] at hK
  refine aH Tryz.func336 ?_
  repeat' (first|(show aN _ _ _ _ _ _ _;first|(refine oG ?_;intro A1 hA1)|(refine dD (E:=fP) (xs:=xs) (ys:= [y]) ?_ (hsrc:=zV);intro A2 c2))|refine KS ?_|refine dw cY ?_|refine dw cV ?_|refine w5 ?_ ?_|((refine bh fun h=>?_) <;> try exact w6 h)|(refine aE fun hA=>?_;subst hA)|intro _)
  all_goals(refine aC ?_;exact aB ((by rw[List.length_append];exact hK _ _)))
end Go.Proofs.YtepnmcipkangkaaGreat
