/- A part of the proof: lemmas; each with the conditions that it states. -/
import Derived.Test.YtepnmcipkangkaaGreatPaq
import Derived.Test.YtepnmcipkangkaaGreatPav
set_option linter.unusedVariables false
set_option linter.unusedSimpArgs false
set_option maxRecDepth 100000
set_option maxHeartbeats 40000000
namespace Go.Proofs.YtepnmcipkangkaaGreat
open Go Go.Proofs Go.Sl
attribute [local irreducible] aN fJ cY bN aM aS aA dM dN aV dL pt ro fB star sep bF
attribute [local irreducible] mp CV
variable {R C:List HP} {K:KP} {q:Nat} {out:List Fm} {f:Fm}
def tU (f:Fm) (xs:List Fm):Nat:=(xs.takeWhile fun x=>!qS f x).length
def zB (f:Fm) (xs:List Fm):Int:=if lM f=false then 2 else if f.t<2 then 13 else if tU f xs<xs.length then 0 else if 64<=xs.length then 9 else 0
def wK (f:Fm) (xs:List Fm):List Fm:=if zB f xs≠0 then xs else match xs[tU f xs]? with
 |some y=>xs.set (tU f xs) (ZD y f.n)
 |none=>xs++ [jH f]
def SL (q:Nat) (out:List Fm):HP:=fB fun xs:List Fm=>sep (wM q xs) (bF (xs.map jH=out))
def Py (out:List Fm):Prop:=out.length<=64/\∀y∈out,0<=y.n
theorem LW {f:Fm}:∀xs:List Fm,tU f (xs.map jH)=tU f xs
 | []=>rfl
 |x::r=>by
  have ih:=LW (f:=f) r
  unfold tU at ih ⊢
  rw[List.map_cons,List.takeWhile_cons,List.takeWhile_cons]
  show(if(!qS f x)=true then _ else _:List Fm).length=_
  split
  ·rw[List.length_cons,List.length_cons,ih]
  ·rfl
theorem Oh {f:Fm}:∀ {xs:List Fm},tU f xs<xs.length->∃y,xs[tU f xs]?=some y/\qS f y=true
 | [],h=>by cases h
 |x::r,h=>by
  unfold tU at h ⊢
  rw[List.takeWhile_cons] at h ⊢
  by_cases hx:(!qS f x)=true
  ·rw[if_pos hx] at h ⊢
   obtain⟨y,hy,hl⟩:=Oh (f:=f) (xs:=r) (by simpa[tU] using h)
   exact⟨y,by simpa[tU] using hy,hl⟩
  ·rw[if_neg hx]
   exact⟨x,rfl,by simpa using hx⟩
theorem J0 {f:Fm}:∀ {xs:List Fm} {i:Nat} {z:Fm},i<tU f xs->xs[i]?=some z->qS f z=false
 | [],_,_,_,h=>by cases h
 |x::r,i,z,h,hz=>by
  unfold tU at h
  rw[List.takeWhile_cons] at h
  by_cases hx:(!qS f x)=true
  ·rw[if_pos hx] at h
   cases i with
   |zero=>cases hz;simpa using hx
   |succ i=>exact J0 (xs:=r) (i:=i) (by simpa[tU] using h) (by simpa using hz)
  ·rw[if_neg hx] at h;cases h
theorem sU {xs:List Fm} (h:xs.map jH=out):aG (wM q xs::R) (SL q out::R):=aG.ex xs (aG.sep (aG.pick aU.here (aG.pure h (aG.refl _))))
theorem EL {f:FuncId} {args:Array Value} (h:∀xs:List Fm,xs.map jH=out->CT f args (wM q xs::R) K):CT f args (SL q out::R) K:=
 aA.ex fun xs=>aA.ent (aG.trans aG.unsep (fun _ hs=>bW.swap hs)) (aA.pure fun hI=>h xs hI)
theorem Aa5 (hK:∀q,K (PO q) (SL q []::R)):CT 89 #[] R K:=
 aA.entK (Ai3 fun q=>⟨_,sU (xs:= []) rfl,hK q⟩)
theorem Sr (hK:K (I6 (out.length:Nat)) (SL q out::R)):CT 73 #[PO q] (SL q out::R) K:=by
 refine EL fun xs h=>?_
 have hl:out.length=xs.length:=by rw[<- h,List.length_map]
 rw[hl] at hK
 exact aA.entK (Aj1 ⟨_,sU h,hK⟩)
theorem x7 (ho:Py out) (hK:K (I6 (64 - (out.length:Nat))) (SL q out::R)):CT 138 #[PO q] (SL q out::R) K:=by
 refine EL fun xs h=>?_
 have hl:out.length=xs.length:=by rw[<- h,List.length_map]
 have h1:=ho.1
 rw[hl] at hK
 exact aA.entK (Ad2 (by omega) ⟨_,sU h,hK⟩)
theorem UM (hK:∀v,K v (SL q []::R)):CT 311 #[PO q] (SL q out::R) K:=by
 refine EL fun xs h=>?_
 exact aA.entK (Ym ⟨_,sU (xs:= []) rfl,hK _⟩)
theorem XX {r:List Fm} (ho:Py (f::r)) (hK:∀y:Fm,jH y=f->K (.tuple #[.agg #[I6 y.t,I6 y.st,.bool y.e,.string y.d,I6 y.k,I6 y.on,I6 y.w,.bool y.x,I6 y.c,I6 y.la,I6 y.n,.slice y.pa y.pn y.pc],.bool true]) (SL q r::zP y::R)):CT 108 #[PO q] (SL q (f::r)::R) K:=by
 refine EL fun xs h=>?_
 cases xs with
 |nil=>cases h
 |cons y xs=>
  have h1:jH y=f:=(List.cons.inj h).1
  have h2:xs.map jH=r:=(List.cons.inj h).2
  have hl:xs.length≤1000:=by have:=ho.1;have e:r.length=xs.length:=by rw[← h2,List.length_map]
                             rw[List.length_cons] at this;omega
  exact aA.entK (YQ hl ⟨_,sU h2,hK y h1⟩)
theorem kV (ho:Py out) (hv:d4 R f.pa tI f.ps) (hvn:f.ps.length=f.pn) (hn2:f.pn<1000000000000000) (hK:K (I6 (zB f out)) (SL q (wK f out)::R)):CT 100 #[PO q,.agg #[I6 f.t,I6 f.st,.bool f.e,.string f.d,I6 f.k,I6 f.on,I6 f.w,.bool f.x,I6 f.c,I6 f.la,I6 f.n,.slice f.pa f.pn f.pc]] (SL q out::R) K:=by
 refine EL fun xs h=>?_
 have hl:out.length=xs.length:=by rw[<- h,List.length_map]
 have hix:tU f out=tU f xs:=by rw[<- h,LW]
 obtain⟨h64,hnn⟩:=ho
 refine aA.entK ?_
 cases hc:lM f
 ·have e:zB f out=2:=by unfold zB;rw[if_pos hc]
  have e2:wK f out=out:=by unfold wK;rw[if_pos (by rw[e];decide)]
  rw[e,e2] at hK
  exact Xm (by simp) hc ⟨bM hv,hvn⟩ hn2 ⟨_,sU h,hK⟩
 ·have ht0:0<=f.t:=((iX f).1 hc).1.1
  by_cases ht:f.t<2
  ·have e:zB f out=13:=by unfold zB;rw[if_neg (by rw[hc];decide),if_pos ht]
   have e2:wK f out=out:=by unfold wK;rw[if_pos (by rw[e];decide)]
   rw[e,e2] at hK
   exact Yr (by simp) hc (by omega) ⟨bM hv,hvn⟩ hn2 ⟨_,sU h,hK⟩
  ·by_cases hlt:tU f xs<xs.length
   ·have e:zB f out=0:=by unfold zB;rw[if_neg (by rw[hc];decide),if_neg ht,if_pos (by omega)]
    obtain⟨y,hy,hly⟩:=Oh hlt
    have hoy:out[tU f xs]?=some (jH y):=by rw[<- h,List.getElem?_map,hy];rfl
    have e2:wK f out=out.set (tU f xs) (ZD (jH y) f.n):=by
     unfold wK
     rw[if_neg (by rw[e];decide),hix,hoy]
    rw[e,e2] at hK
    have hyn:0<=y.n:=hnn (jH y) (List.mem_of_getElem? hoy)
    exact YW hc (by omega) hy hly (fun i z hi hz=>J0 hi hz) hyn (by omega) hv hvn hn2 ⟨_,sU (xs:=xs.set (tU f xs) (ZD y f.n)) (by rw[List.map_set,h];rfl),hK⟩
   ·have hb:∀z∈xs,qS f z=false:=fun z hz=>by
     obtain⟨i,hi⟩:=List.getElem?_of_mem hz
     exact J0 (xs:=xs) (i:=i) (by have:=(List.getElem?_eq_some_iff.1 hi).1;omega) hi
    by_cases hf:64<=xs.length
    ·have e:zB f out=9:=by unfold zB;rw[if_neg (by rw[hc];decide),if_neg ht,if_neg (by omega),if_pos (by omega)]
     have e2:wK f out=out:=by unfold wK;rw[if_pos (by rw[e];decide)]
     rw[e,e2] at hK
     exact XM hc (by omega) hb (by omega) hf hv hvn hn2 ⟨_,sU h,hK⟩
    ·have e:zB f out=0:=by unfold zB;rw[if_neg (by rw[hc];decide),if_neg ht,if_neg (by omega),if_neg (by omega)]
     have e2:wK f out=out++ [jH f]:=by
      unfold wK
      rw[if_neg (by rw[e];decide),List.getElem?_eq_none (by omega)]
     rw[e,e2] at hK
     exact Zo hc (by omega) hb (by omega) hv hvn fun A' c'=>⟨_,sU (by rw[List.map_append,h];simp[jH,hvn]),hK⟩
end Go.Proofs.YtepnmcipkangkaaGreat
namespace Go.Proofs.YtepnmcipkangkaaGreat
open Go Go.Proofs Go.Sl
attribute [local irreducible] aN fJ cY bN aM aS aA dM dN aV dL pt ro fB star sep bF
variable {R C:List HP} {K:KP} {p:Nat} {d:Dr} {la co n id:Int}
def Ei (p:Nat) (d:Dr):HP:=pt p [.bool d.se,.bool d.go,.bool d.ov,I6 d.la,I6 d.th,I6 d.co] 256
theorem IF (hK:K (.tuple #[.bool d.ov,I6 d.co]) (Ei p d::R)):CT 59 #[PO p] (Ei p d::R) K:=Xu hK
theorem Af7 (hK:K (I6 (HZ d la)) (Ei p (AQ d la)::R)):CT 149 #[PO p,I6 la] (Ei p d::R) K:=by
 obtain⟨se,go,ov,ll,th,cc⟩:=d
 cases ov <;> cases hn:pH la 0 <;> cases se <;> simp only[Ei,AQ,HZ,hn,if_true,if_false,Bool.false_eq_true,reduceCtorEq,Int.reduceEq] at hK ⊢
 all_goals
  refine aH Tryz.func149 ?_
  repeat' (first|refine v48 ?_|refine w5 ?_ ?_|((refine bh fun h=>?_) <;> try exact w6 h)|(refine aE fun hA=>?_;subst hA)|intro _|(show aA _ 196 _ _ _;first|refine CA (h:=mV ?_)|refine CA (h:=mR ?_))|(show aA _ 245 _ _ _;refine CA (h:=xF ?_);rw[hn]))
  all_goals(refine aC ?_;exact aB (hK))
theorem Vy (hK:K (I6 (OY d la co)) (Ei p (mC d la co)::R)):CT 298 #[PO p,I6 la,I6 co] (Ei p d::R) K:=by
 obtain⟨se,go,ov,ll,th,cc⟩:=d
 by_cases hc:co=0
 ·subst hc
  have hm:pH 0 0=true:=by decide
  cases ov <;> cases hn:pH la 0 <;> cases go <;> by_cases ht:th<=la <;> simp only[Ei,mC,OY,hn,hm,ht,if_true,if_false,Bool.false_eq_true,reduceCtorEq,Int.reduceEq,or_true,or_false,true_or,false_or,true_and,false_and,and_true,and_false,ne_eq,not_true_eq_false,not_false_eq_true,Int.reduceNeg] at hK ⊢
  all_goals
   refine aH Tryz.func298 ?_
   repeat' (first|refine v48 ?_|refine w5 ?_ ?_|((refine bh fun h=>?_) <;> try exact w6 h)|(refine aE fun hA=>?_;subst hA)|intro _|(show aA _ 196 _ _ _;first|refine CA (h:=mV ?_)|refine CA (h:=mR ?_))|(show aA _ 245 _ _ _;refine CA (h:=xF ?_);first|rw[hn]|rw[hm])|(show aA _ 197 _ _ _;refine CA (h:=E2 ?_)))
   all_goals(refine aC ?_;exact aB (hK))
 ·cases ov <;> cases hn:pH la 0 <;> cases hm:pH co 0 <;> simp only[Ei,mC,OY,hn,hm,hc,if_true,if_false,Bool.false_eq_true,reduceCtorEq,Int.reduceEq,or_true,or_false,true_or,false_or,true_and,false_and,and_true,and_false,ne_eq,not_true_eq_false,not_false_eq_true,Int.reduceNeg] at hK ⊢
  all_goals
   refine aH Tryz.func298 ?_
   repeat' (first|refine v48 ?_|refine w5 ?_ ?_|((refine bh fun h=>?_) <;> try exact w6 h)|(refine aE fun hA=>?_;subst hA)|intro _|(show aA _ 196 _ _ _;first|refine CA (h:=mV ?_)|refine CA (h:=mR ?_))|(show aA _ 245 _ _ _;refine CA (h:=xF ?_);first|rw[hn]|rw[hm])|(show aA _ 197 _ _ _;refine CA (h:=E2 ?_)))
   all_goals(refine aC ?_;exact aB (hK))
theorem Aay (hK:K (I6 (Eo d co)) (Ei p (wJ d co)::R)):CT 218 #[PO p,I6 co] (Ei p d::R) K:=by
 obtain⟨se,go,ov,ll,th,cc⟩:=d
 cases ov <;> cases hn:pH co 1 <;> simp only[Ei,wJ,Eo,hn,if_true,if_false,Bool.false_eq_true,reduceCtorEq,Int.reduceEq] at hK ⊢
 all_goals
  refine aH Tryz.func218 ?_
  repeat' (first|refine v21 ?_|refine w5 ?_ ?_|((refine bh fun h=>?_) <;> try exact w6 h)|(refine aE fun hA=>?_;subst hA)|intro _|(show aA _ 196 _ _ _;first|refine CA (h:=mV ?_)|refine CA (h:=mR ?_))|(show aA _ 245 _ _ _;refine CA (h:=xF ?_);rw[hn])|(show aA _ 197 _ _ _;refine CA (h:=E2 ?_)))
  all_goals(refine aC ?_;exact aB (hK))
theorem Cb (hK:K (.bool (L5 d)) (Ei p d::R)):CT 136 #[PO p] (Ei p d::R) K:=by
 obtain⟨se,go,ov,ll,th,cc⟩:=d
 cases ov <;> cases se <;> cases go <;> simp only[Ei,L5,Bool.not_true,Bool.not_false,Bool.and_true,Bool.and_false,Bool.true_and,Bool.false_and] at hK ⊢
 all_goals
  refine aH Tryz.func136 ?_
  repeat' (first|refine Kv ?_|refine w5 ?_ ?_|((refine bh fun h=>?_) <;> try exact w6 h)|(refine aE fun hA=>?_;subst hA)|intro _|(show aA _ 196 _ _ _;first|refine CA (h:=mV ?_)|refine CA (h:=mR ?_)))
  all_goals(refine aC ?_;exact aB (hK))
theorem F2 (hK:K (.bool (E4 d id)) (Ei p d::R)):CT 301 #[PO p,I6 id] (Ei p d::R) K:=by
 obtain⟨se,go,ov,ll,th,cc⟩:=d
 cases ov <;> cases se <;> simp only[Ei,E4,Bool.not_true,Bool.not_false,Bool.and_true,Bool.and_false,Bool.true_and,Bool.false_and,Bool.true_or,Bool.false_or] at hK ⊢
 all_goals
  refine aH Tryz.func301 ?_
  repeat' (first|refine Kv ?_|refine w5 ?_ ?_|((refine bh fun h=>?_) <;> try exact w6 h)|(refine aE fun hA=>?_;subst hA)|intro _|(show aA _ 196 _ _ _;first|refine CA (h:=mV ?_)|refine CA (h:=mR ?_)))
  all_goals(refine aC ?_;exact aB (hK))
theorem VD (hK:K (.bool (IB d id)) (Ei p d::R)):CT 299 #[PO p,I6 id] (Ei p d::R) K:=by
 obtain⟨se,go,ov,ll,th,cc⟩:=d
 cases go <;> simp only[Ei,IB,Bool.true_and,Bool.false_and] at hK ⊢
 all_goals
  refine aH Tryz.func299 ?_
  repeat' (first|refine v16 ?_|refine w5 ?_ ?_|((refine bh fun h=>?_) <;> try exact w6 h)|(refine aE fun hA=>?_;subst hA)|intro _)
  all_goals(refine aC ?_;exact aB (hK))
theorem Agb {r s:Nat} {se go ov:Bool} {ll th cc:Int} (hK:K (.bool ((se || go) && decide (n<=0))) (pt r [PO p] 116::pt s [I6 n] 3::pt p [.bool se,.bool go,.bool ov,I6 ll,I6 th,I6 cc] 256::R)):CT 195 #[PO r,PO s] (pt r [PO p] 116::pt s [I6 n] 3::pt p [.bool se,.bool go,.bool ov,I6 ll,I6 th,I6 cc] 256::R) K:=by
 cases se <;> cases go <;> simp only[Bool.true_and,Bool.false_and,Bool.true_or,Bool.false_or] at hK
 all_goals
  refine aH Tryz.func195 ?_
  repeat' (first|refine v16 ?_|refine w5 ?_ ?_|((refine bh fun h=>?_) <;> try exact w6 h)|(refine aE fun hA=>?_;subst hA)|intro _)
  all_goals(refine aC ?_;exact aB (hK))
theorem QE (hK:K (.bool (tP d n).ov) (Ei p (tP d n)::R)):CT 111 #[PO p,I6 n] (Ei p d::R) K:=by
 obtain⟨se,go,ov,ll,th,cc⟩:=d
 cases ov <;> cases se <;> cases go <;> by_cases hn:n<=0 <;> simp only[Ei,tP,hn,if_true,if_false,Bool.false_eq_true,reduceCtorEq,or_true,or_false,true_or,false_or,true_and,false_and,and_true,and_false] at hK ⊢
 all_goals
  refine aH Tryz.func111 ?_
  repeat' (first|refine v58 ?_|refine w5 ?_ ?_|((refine bh fun h=>?_) <;> try exact w6 h)|(refine aE fun hA=>?_;subst hA)|intro _|(show aA _ 196 _ _ _;first|refine CA (h:=mV ?_)|refine CA (h:=mR ?_))|(show aA _ 195 _ _ _;refine CA (h:=Agb ?_);simp only[hn,decide_true,decide_false,Bool.or_true,Bool.or_false,Bool.true_or,Bool.false_or,Bool.and_true,Bool.and_false,Bool.true_and,Bool.false_and])|(show aA _ 197 _ _ _;refine CA (h:=E2 ?_)))
  all_goals(refine aC ?_;exact aB (hK))
end Go.Proofs.YtepnmcipkangkaaGreat
