/- A part of the proof: lemmas; each with the conditions that it states. -/
import Derived.Test.YtifgibijcmppmaaGreatUaq
import Derived.Test.YtifgibijcmppmaaGreatUaw
set_option linter.unusedVariables false
set_option linter.unusedSimpArgs false
set_option maxRecDepth 100000
set_option maxHeartbeats 40000000
namespace Go.Proofs.YtifgibijcmppmaaGreat
open Go Go.Proofs Go.Sl
attribute [local irreducible] aN fN cX bP aM aX aA dS dV aT dU pt ro eV star sep bH
attribute [local irreducible] mp ED
section
variable {R C:List HP} {K:KP}
def tT (f:Fm) (xs:List Fm):Nat:=(xs.takeWhile fun x=>!rL f x).length
def EF (f:Fm) (xs:List Fm):Int:=if mK f=false then 2 else if f.t<2 then 13 else if tT f xs<xs.length then 0 else if 64≤xs.length then 9 else 0
def zF (f:Fm) (xs:List Fm):List Fm:=if EF f xs≠0 then xs else match xs[tT f xs]? with
 |some y=>xs.set (tT f xs) (X4 y f.n)
 |none=>xs++ [jL f]
def Q4 (q:Nat) (out:List Fm):HP:=eV fun xs:List Fm=>sep (u6 q xs) (bH (xs.map jL=out))
def N8 (out:List Fm):Prop:=out.length≤64∧∀y∈out,0≤y.n
theorem Ll {f:Fm}:∀xs:List Fm,tT f (xs.map jL)=tT f xs
 | []=>rfl
 |x::r=>by
  have ih:=Ll (f:=f) r
  unfold tT at ih ⊢
  rw[List.map_cons,List.takeWhile_cons,List.takeWhile_cons]
  show(if(!rL f x)=true then _ else _:List Fm).length=_
  split
  ·rw[List.length_cons,List.length_cons,ih]
  ·rfl
theorem Nq {f:Fm}:∀ {xs:List Fm},tT f xs<xs.length→∃y,xs[tT f xs]?=some y∧rL f y=true
 | [],h=>by cases h
 |x::r,h=>by
  unfold tT at h ⊢
  rw[List.takeWhile_cons] at h ⊢
  by_cases hx:(!rL f x)=true
  ·rw[if_pos hx] at h ⊢
   obtain⟨y,hy,hl⟩:=Nq (f:=f) (xs:=r) (by simpa[tT] using h)
   exact⟨y,by simpa[tT] using hy,hl⟩
  ·rw[if_neg hx]
   exact⟨x,rfl,by simpa using hx⟩
theorem Hu {f:Fm}:∀ {xs:List Fm} {i:Nat} {z:Fm},i<tT f xs→xs[i]?=some z→rL f z=false
 | [],_,_,_,h=>by cases h
 |x::r,i,z,h,hz=>by
  unfold tT at h
  rw[List.takeWhile_cons] at h
  by_cases hx:(!rL f x)=true
  ·rw[if_pos hx] at h
   cases i with
   |zero=>cases hz;simpa using hx
   |succ i=>exact Hu (xs:=r) (i:=i) (by simpa[tT] using h) (by simpa using hz)
  ·rw[if_neg hx] at h;cases h
theorem qY {q:Nat} {xs out:List Fm} (h:xs.map jL=out):aG (u6 q xs::R) (Q4 q out::R):=aG.ex xs (aG.sep (aG.pick aV.here (aG.pure h (aG.refl _))))
theorem Dw {f:FuncId} {args:Array Value} {q:Nat} {out:List Fm} (h:∀xs:List Fm,xs.map jL=out→CT f args (u6 q xs::R) K):CT f args (Q4 q out::R) K:=
 aA.ex fun xs=>aA.ent (aG.trans aG.unsep (fun _ hs=>bX.swap hs)) (aA.pure fun hI=>h xs hI)
section
variable {q:Nat} {out:List Fm} {f:Fm}
theorem Aa1 (hK:∀q,K (PO q) (Q4 q []::R)):CT 49 #[] R K:=
 aA.entK (Ahr fun q=>⟨_,qY (xs:= []) rfl,hK q⟩)
theorem Ih (hK:K (I6 (out.length:Nat)) (Q4 q out::R)):CT 94 #[PO q] (Q4 q out::R) K:=by
 refine Dw fun xs h=>?_
 have hl:out.length=xs.length:=by rw[← h,List.length_map]
 rw[hl] at hK
 exact aA.entK (Afx ⟨_,qY h,hK⟩)
theorem xI (ho:N8 out) (hK:K (I6 (64 - (out.length:Nat))) (Q4 q out::R)):CT 113 #[PO q] (Q4 q out::R) K:=by
 refine Dw fun xs h=>?_
 have hl:out.length=xs.length:=by rw[← h,List.length_map]
 have h1:=ho.1
 rw[hl] at hK
 exact aA.entK (Acx (by omega) ⟨_,qY h,hK⟩)
theorem TT (hK:∀v,K v (Q4 q []::R)):CT 271 #[PO q] (Q4 q out::R) K:=by
 refine Dw fun xs h=>?_
 exact aA.entK (Ww ⟨_,qY (xs:= []) rfl,hK _⟩)
theorem Xo {r:List Fm} (ho:N8 (f::r)) (hK:∀y:Fm,jL y=f→K (.tuple #[.agg #[I6 y.t,I6 y.st,.bool y.e,.string y.d,I6 y.k,I6 y.on,I6 y.w,.bool y.x,I6 y.c,I6 y.la,I6 y.n,.slice y.pa y.pn y.pc],.bool true]) (Q4 q r::yA y::R)):CT 95 #[PO q] (Q4 q (f::r)::R) K:=by
 refine Dw fun xs h=>?_
 cases xs with
 |nil=>cases h
 |cons y xs=>
  have h1:jL y=f:=(List.cons.inj h).1
  have h2:xs.map jL=r:=(List.cons.inj h).2
  have hl:xs.length≤1000:=by have:=ho.1;have e:r.length=xs.length:=by rw[← h2,List.length_map]
                             rw[List.length_cons] at this;omega
  exact aA.entK (W8 hl ⟨_,qY h2,hK y h1⟩)
theorem jZ (ho:N8 out) (hv:dT R f.pa rE f.ps) (hvn:f.ps.length=f.pn) (hn2:f.pn<1000000000000000) (hK:K (I6 (EF f out)) (Q4 q (zF f out)::R)):CT 60 #[PO q,.agg #[I6 f.t,I6 f.st,.bool f.e,.string f.d,I6 f.k,I6 f.on,I6 f.w,.bool f.x,I6 f.c,I6 f.la,I6 f.n,.slice f.pa f.pn f.pc]] (Q4 q out::R) K:=by
 refine Dw fun xs h=>?_
 have hl:out.length=xs.length:=by rw[← h,List.length_map]
 have hix:tT f out=tT f xs:=by rw[← h,Ll]
 obtain⟨h64,hnn⟩:=ho
 refine aA.entK ?_
 cases hc:mK f
 ·have e:EF f out=2:=by unfold EF;rw[if_pos hc]
  have e2:zF f out=out:=by unfold zF;rw[if_pos (by rw[e];decide)]
  rw[e,e2] at hK
  exact Xp (by simp) hc ⟨bM hv,hvn⟩ hn2 ⟨_,qY h,hK⟩
 ·have ht0:0≤f.t:=((uO f).1 hc).1.1
  by_cases ht:f.t<2
  ·have e:EF f out=13:=by unfold EF;rw[if_neg (by rw[hc];decide),if_pos ht]
   have e2:zF f out=out:=by unfold zF;rw[if_pos (by rw[e];decide)]
   rw[e,e2] at hK
   exact Xe (by simp) hc (by omega) ⟨bM hv,hvn⟩ hn2 ⟨_,qY h,hK⟩
  ·by_cases hlt:tT f xs<xs.length
   ·have e:EF f out=0:=by unfold EF;rw[if_neg (by rw[hc];decide),if_neg ht,if_pos (by omega)]
    obtain⟨y,hy,hly⟩:=Nq hlt
    have hoy:out[tT f xs]?=some (jL y):=by rw[← h,List.getElem?_map,hy];rfl
    have e2:zF f out=out.set (tT f xs) (X4 (jL y) f.n):=by
     unfold zF
     rw[if_neg (by rw[e];decide),hix,hoy]
    rw[e,e2] at hK
    have hyn:0≤y.n:=hnn (jL y) (List.mem_of_getElem? hoy)
    exact We hc (by omega) hy hly (fun i z hi hz=>Hu hi hz) hyn (by omega) hv hvn hn2 ⟨_,qY (xs:=xs.set (tT f xs) (X4 y f.n)) (by rw[List.map_set,h];rfl),hK⟩
   ·have hb:∀z∈xs,rL f z=false:=fun z hz=>by
     obtain⟨i,hi⟩:=List.getElem?_of_mem hz
     exact Hu (xs:=xs) (i:=i) (by have:=(List.getElem?_eq_some_iff.1 hi).1;omega) hi
    by_cases hf:64≤xs.length
    ·have e:EF f out=9:=by unfold EF;rw[if_neg (by rw[hc];decide),if_neg ht,if_neg (by omega),if_pos (by omega)]
     have e2:zF f out=out:=by unfold zF;rw[if_pos (by rw[e];decide)]
     rw[e,e2] at hK
     exact Xn hc (by omega) hb (by omega) hf hv hvn hn2 ⟨_,qY h,hK⟩
    ·have e:EF f out=0:=by unfold EF;rw[if_neg (by rw[hc];decide),if_neg ht,if_neg (by omega),if_neg (by omega)]
     have e2:zF f out=out++ [jL f]:=by
      unfold zF
      rw[if_neg (by rw[e];decide),List.getElem?_eq_none (by omega)]
     rw[e,e2] at hK
     exact WJ hc (by omega) hb (by omega) hv hvn fun A' c'=>⟨_,qY (by rw[List.map_append,h];simp[jL,hvn]),hK⟩
end
end
end Go.Proofs.YtifgibijcmppmaaGreat
namespace Go.Proofs.YtifgibijcmppmaaGreat
open Go Go.Proofs Go.Sl
attribute [local irreducible] aN fN cX bP aM aX aA dS dV aT dU pt ro eV star sep bH
section
variable {R C:List HP} {K:KP}
def Ac1:List (Int×Bool):= [(1,true),(1,true),(1,true),(7,false),(7,false),(1,true),(1,false),(5,false),(3,false),(3,true),(9,false),(1,false),(1,true),(3,false),(3,true),(1,true),(4,true),(3,true),(11,true),(10,true),(12,true)]
def Al3:List Value:=Ac1.flatMap fun x=> [I6 x.1,.bool x.2]
def Ahn (w:Int):Int:=(Ac1.getD w.toNat (0,false)).1
def Rn (w:Int):Bool:=(Ac1.getD w.toNat (0,false)).2
theorem w21 {w:Int} (h:0≤w∧w≤20):w=0∨w=1∨w=2∨w=3∨w=4∨w=5∨w=6∨w=7∨w=8∨w=9∨w=10∨w=11∨w=12∨w=13∨w=14∨w=15∨w=16∨w=17∨w=18∨w=19∨w=20:=by omega
theorem L6 {w:Int} (h:0≤w∧w≤20):1≤Ahn w∧Ahn w≤12:=by
 rcases w21 h with rfl|rfl|rfl|rfl|rfl|rfl|rfl|rfl|rfl|rfl|rfl|rfl|rfl|rfl|rfl|rfl|rfl|rfl|rfl|rfl|rfl <;> decide
theorem Zf (hK:K (.agg Al3.toArray) R):CT 389 #[] R K:=by
 refine aH Tryz.func389 ?_
 repeat' (first|refine v5 ?_|refine w5 ?_ ?_|((refine bh fun h=>?_) <;> try exact w6 h)|(refine aE fun hA=>?_;subst hA)|intro _)
 (refine aC ?_;exact aB (hK))
theorem L9 {w st o:Int} (h:0≤w∧w≤20) (hK:K (.agg #[I6 (Ahn w),.bool (Rn w)]) R):CT 345 #[.agg #[I6 w,I6 st,I6 o]] R K:=by
 rcases w21 h with rfl|rfl|rfl|rfl|rfl|rfl|rfl|rfl|rfl|rfl|rfl|rfl|rfl|rfl|rfl|rfl|rfl|rfl|rfl|rfl|rfl
 all_goals
  refine aH Tryz.func345 ?_
  repeat' (first|refine v82 ?_|refine w5 ?_ ?_|((refine bh fun h=>?_) <;> try exact w6 h)|(refine aE fun hA=>?_;subst hA)|intro _|(show aA _ 389 _ _ _;refine CA (h:=Zf ?_)))
  (refine aC ?_;exact aB (hK))
def lO (w o:Int):Int:=if w=0∧0<o∧o≤12 then o else Ahn w
theorem KO {w o:Int} (h:0≤w∧w≤20):1≤lO w o∧lO w o≤12:=by
 have:=L6 h
 unfold lO
 split <;> omega
theorem Lo {r:Nat} {w st o:Int} (hK:K (.bool (decide (w=0) && decide (0<o) && decide (o≤12))) (pt r [I6 w,I6 st,I6 o] 155::R)):CT 346 #[PO r] (pt r [I6 w,I6 st,I6 o] 155::R) K:=by
 refine aH Tryz.func346 ?_
 repeat' (first|refine v23 ?_|refine w5 ?_ ?_|((refine bh fun h=>?_) <;> try exact w6 h)|(refine aE fun hA=>?_;subst hA)|intro _)
 all_goals(refine aC ?_;exact aB (kb hK (by simp[*] <;> omega)))
theorem PF {w st o:Int} (hw:0≤w∧w≤20) (hK:K (.tuple #[I6 (lO w o),I6 0]) R):CT 264 #[.agg #[I6 w,I6 st,I6 o]] R K:=by
 have ht:=L6 hw
 by_cases hc:w=0∧0<o∧o≤12
 ·unfold lO at hK
  rw[if_pos hc] at hK
  obtain⟨c1,c2,c3⟩:=hc
  refine aH Tryz.func264 ?_
  repeat' (first|refine Jj ?_|refine w5 ?_ ?_|((refine bh fun h=>?_) <;> try exact w6 h)|(refine aE fun hA=>?_;subst hA)|intro _|(show aA _ 345 _ _ _;refine CA (h:=L9 hw ?_))|(show aA _ 346 _ _ _;refine CA (h:=Lo ?_)))
  all_goals(refine aC ?_;exact aB (hK))
 ·unfold lO at hK
  rw[if_neg hc] at hK
  have hc2:w≠0∨o≤0∨12<o:=by omega
  refine aH Tryz.func264 ?_
  repeat' (first|refine Jj ?_|refine w5 ?_ ?_|((refine bh fun h=>?_) <;> try exact w6 h)|(refine aE fun hA=>?_;subst hA)|intro _|(show aA _ 345 _ _ _;refine CA (h:=L9 hw ?_))|(show aA _ 346 _ _ _;refine CA (h:=Lo ?_)))
  all_goals(refine aC ?_;exact aB (hK))
theorem wT {w st o:Int} (hw:0≤w∧w≤20) (hK:K (.bool (Rn w)) R):CT 265 #[.agg #[I6 w,I6 st,I6 o]] R K:=by
 have ht:=L6 hw
 refine aH Tryz.func265 ?_
 repeat' (first|refine v82 ?_|refine w5 ?_ ?_|((refine bh fun h=>?_) <;> try exact w6 h)|(refine aE fun hA=>?_;subst hA)|intro _|(show aA _ 345 _ _ _;refine CA (h:=L9 hw ?_)))
 all_goals(refine aC ?_;exact aB (hK))
theorem Pw {n l:Int} (hK:K (.bool (decide (l≤n) && decide (n≤2147483647))) R):CT 266 #[I6 n,I6 l] R K:=by
 refine aH Tryz.func266 ?_
 repeat' (first|refine v1 ?_|refine w5 ?_ ?_|((refine bh fun h=>?_) <;> try exact w6 h)|(refine aE fun hA=>?_;subst hA)|intro _)
 all_goals(refine aC ?_;exact aB (kb hK (by simp[*] <;> omega)))
theorem Aev {w st o last:Int} (hw:0≤w∧w≤20) (hb1:Rn w=true) (hb2:0≤last∧last≤2147483647) (hK:K (.tuple #[.agg #[I6 9,I6 0,.bool false,.string ⟨#[]⟩,I6 0,I6 0,I6 0,.bool false,I6 (lO w o),I6 last,I6 0,.slice none 0 0],I6 0]) R):CT 172 #[.agg #[I6 w,I6 st,I6 o],I6 last] R K:=by
 refine aH Tryz.func172 ?_
 repeat' (first|refine GA ?_|refine w5 ?_ ?_|((refine bh fun h=>?_) <;> try exact w6 h)|(refine aE fun hA=>?_;subst hA)|intro _|(show aA _ 264 _ _ _;refine CA (h:=PF hw ?_))|(show aA _ 265 _ _ _;refine CA (h:=wT hw ?_))|(show aA _ 266 _ _ _;refine CA (h:=Pw ?_)))
 all_goals(refine aC ?_;exact aB (hK))
theorem Vv {w st o last:Int} (hw:0≤w∧w≤20) (hb1:Rn w=false) (hb2:1≤st∧st≤2147483647) (hK:K (.tuple #[.agg #[I6 4,I6 st,.bool false,.string ⟨#[]⟩,I6 0,I6 0,I6 0,.bool false,I6 (lO w o),I6 0,I6 0,.slice none 0 0],I6 0]) R):CT 172 #[.agg #[I6 w,I6 st,I6 o],I6 last] R K:=by
 refine aH Tryz.func172 ?_
 repeat' (first|refine GA ?_|refine w5 ?_ ?_|((refine bh fun h=>?_) <;> try exact w6 h)|(refine aE fun hA=>?_;subst hA)|intro _|(show aA _ 264 _ _ _;refine CA (h:=PF hw ?_))|(show aA _ 265 _ _ _;refine CA (h:=wT hw ?_))|(show aA _ 266 _ _ _;refine CA (h:=Pw ?_)))
 all_goals(refine aC ?_;exact aB (hK))
end
end Go.Proofs.YtifgibijcmppmaaGreat
