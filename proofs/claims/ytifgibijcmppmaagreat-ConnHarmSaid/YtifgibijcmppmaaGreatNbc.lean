/- A part of the proof: lemmas; each with the conditions that it states. -/
import Derived.Test.YtifgibijcmppmaaGreatNar
import Derived.Test.YtifgibijcmppmaaGreatNay
set_option linter.unusedVariables false
set_option linter.unusedSimpArgs false
namespace Go.Proofs.YtifgibijcmppmaaGreat
open Go Go.Proofs Go.Sl
set_option maxRecDepth 100000
set_option maxHeartbeats 40000000
attribute [local irreducible] aN fB cJ bO aM aY aA dM dQ aW dK pt ro fF star sep bI
attribute [local irreducible] mp El
section
variable {R C:List HP} {K:Value→List HP→Prop}
def u3 (f:Fm) (xs:List Fm):Nat:=(xs.takeWhile fun x=>!sM f x).length
def Em (f:Fm) (xs:List Fm):Int:=if mQ f=false then 2 else if f.t<2 then 13 else if u3 f xs<xs.length then 0 else if 64≤xs.length then 9 else 0
def zA (f:Fm) (xs:List Fm):List Fm:=if Em f xs≠0 then xs else match xs[u3 f xs]? with
 |some y=>xs.set (u3 f xs) (Vt y f.n)
 |none=>xs++ [jW f]
def Qw (q:Nat) (out:List Fm):HP:=fF fun xs:List Fm=>sep (u9 q xs) (bI (xs.map jW=out))
def PG (out:List Fm):Prop:=out.length≤64∧∀y∈out,0≤y.n
theorem KG {f:Fm}:∀xs:List Fm,u3 f (xs.map jW)=u3 f xs
 | []=>rfl
 |x::r=>by
  have ih:=KG (f:=f) r
  unfold u3 at ih ⊢
  rw[List.map_cons,List.takeWhile_cons,List.takeWhile_cons]
  show(if(!sM f x)=true then _ else _:List Fm).length=_
  split
  ·rw[List.length_cons,List.length_cons,ih]
  ·rfl
theorem LS {f:Fm}:∀ {xs:List Fm},u3 f xs<xs.length→∃y,xs[u3 f xs]?=some y∧sM f y=true
 | [],h=>by cases h
 |x::r,h=>by
  unfold u3 at h ⊢
  rw[List.takeWhile_cons] at h ⊢
  by_cases hx:(!sM f x)=true
  ·rw[if_pos hx] at h ⊢
   obtain⟨y,hy,hl⟩:=LS (f:=f) (xs:=r) (by simpa[u3] using h)
   exact⟨y,by simpa[u3] using hy,hl⟩
  ·rw[if_neg hx]
   exact⟨x,rfl,by simpa using hx⟩
theorem HN {f:Fm}:∀ {xs:List Fm} {i:Nat} {z:Fm},i<u3 f xs→xs[i]?=some z→sM f z=false
 | [],_,_,_,h=>by cases h
 |x::r,i,z,h,hz=>by
  unfold u3 at h
  rw[List.takeWhile_cons] at h
  by_cases hx:(!sM f x)=true
  ·rw[if_pos hx] at h
   cases i with
   |zero=>cases hz;simpa using hx
   |succ i=>exact HN (xs:=r) (i:=i) (by simpa[u3] using h) (by simpa using hz)
  ·rw[if_neg hx] at h;cases h
theorem rF {q:Nat} {xs out:List Fm} (h:xs.map jW=out):aG (u9 q xs::R) (Qw q out::R):=aG.ex xs (aG.sep (aG.pick aV.here (aG.pure h (aG.refl _))))
theorem DY {f:FuncId} {args:Array Value} {q:Nat} {out:List Fm} (h:∀xs:List Fm,xs.map jW=out→aA Tryz.prog f args (u9 q xs::R) K):aA Tryz.prog f args (Qw q out::R) K:=
 aA.ex fun xs=>aA.ent (aG.trans aG.unsep (fun _ hs=>bY.swap hs)) (aA.pure fun hI=>h xs hI)
section
variable {q:Nat} {out:List Fm} {f:Fm}
theorem Acn (hK:∀q,K (.pointer (some ⟨q,0,none⟩)) (Qw q []::R)):aA Tryz.prog 49 #[] R K:=
 aA.entK (Ael fun q=>⟨_,rF (xs:= []) rfl,hK q⟩)
theorem Hl (hK:K (.int .i64 (out.length:Nat)) (Qw q out::R)):aA Tryz.prog 94 #[.pointer (some ⟨q,0,none⟩)] (Qw q out::R) K:=by
 refine DY fun xs h=>?_
 have hl:out.length=xs.length:=by rw[← h,List.length_map]
 rw[hl] at hK
 exact aA.entK (Ado ⟨_,rF h,hK⟩)
theorem wH (ho:PG out) (hK:K (.int .i64 (64 - (out.length:Nat))) (Qw q out::R)):aA Tryz.prog 113 #[.pointer (some ⟨q,0,none⟩)] (Qw q out::R) K:=by
 refine DY fun xs h=>?_
 have hl:out.length=xs.length:=by rw[← h,List.length_map]
 have h1:=ho.1
 rw[hl] at hK
 exact aA.entK (Abg (by omega) ⟨_,rF h,hK⟩)
theorem QI (hK:∀v,K v (Qw q []::R)):aA Tryz.prog 271 #[.pointer (some ⟨q,0,none⟩)] (Qw q out::R) K:=by
 refine DY fun xs h=>?_
 exact aA.entK (WX ⟨_,rF (xs:= []) rfl,hK _⟩)
theorem VO {r:List Fm} (ho:PG (f::r)) (hK:∀y:Fm,jW y=f→K (.tuple #[.agg #[.int .i64 y.t,.int .i64 y.st,.bool y.e,.string y.d,.int .i64 y.k,.int .i64 y.on,.int .i64 y.w,.bool y.x,.int .i64 y.c,.int .i64 y.la,.int .i64 y.n,.slice y.pa y.pn y.pc],.bool true]) (Qw q r::xS y::R)):aA Tryz.prog 95 #[.pointer (some ⟨q,0,none⟩)] (Qw q (f::r)::R) K:=by
 refine DY fun xs h=>?_
 cases xs with
 |nil=>cases h
 |cons y xs=>
  have h1:jW y=f:=(List.cons.inj h).1
  have h2:xs.map jW=r:=(List.cons.inj h).2
  have hl:xs.length≤1000:=by have:=ho.1;have e:r.length=xs.length:=by rw[← h2,List.length_map]
                             rw[List.length_cons] at this;omega
  exact aA.entK (Wp hl ⟨_,rF h2,hK y h1⟩)
theorem kN (ho:PG out) (hv:cZ R f.pa nV f.ps) (hvn:f.ps.length=f.pn) (hn2:f.pn<1000000000000000) (hK:K (.int .i64 (Em f out)) (Qw q (zA f out)::R)):aA Tryz.prog 60 #[.pointer (some ⟨q,0,none⟩),.agg #[.int .i64 f.t,.int .i64 f.st,.bool f.e,.string f.d,.int .i64 f.k,.int .i64 f.on,.int .i64 f.w,.bool f.x,.int .i64 f.c,.int .i64 f.la,.int .i64 f.n,.slice f.pa f.pn f.pc]] (Qw q out::R) K:=by
 refine DY fun xs h=>?_
 have hl:out.length=xs.length:=by rw[← h,List.length_map]
 have hix:u3 f out=u3 f xs:=by rw[← h,KG]
 obtain⟨h64,hnn⟩:=ho
 refine aA.entK ?_
 cases hc:mQ f
 ·have e:Em f out=2:=by unfold Em;rw[if_pos hc]
  have e2:zA f out=out:=by unfold zA;rw[if_pos (by rw[e];decide)]
  rw[e,e2] at hK
  exact Wg (by simp) hc ⟨bB hv,hvn⟩ hn2 ⟨_,rF h,hK⟩
 ·have ht0:0≤f.t:=((sO f).1 hc).1.1
  by_cases ht:f.t<2
  ·have e:Em f out=13:=by unfold Em;rw[if_neg (by rw[hc];decide),if_pos ht]
   have e2:zA f out=out:=by unfold zA;rw[if_pos (by rw[e];decide)]
   rw[e,e2] at hK
   exact Vy (by simp) hc (by omega) ⟨bB hv,hvn⟩ hn2 ⟨_,rF h,hK⟩
  ·by_cases hlt:u3 f xs<xs.length
   ·have e:Em f out=0:=by unfold Em;rw[if_neg (by rw[hc];decide),if_neg ht,if_pos (by omega)]
    obtain⟨y,hy,hly⟩:=LS hlt
    have hoy:out[u3 f xs]?=some (jW y):=by rw[← h,List.getElem?_map,hy];rfl
    have e2:zA f out=out.set (u3 f xs) (Vt (jW y) f.n):=by
     unfold zA
     rw[if_neg (by rw[e];decide),hix,hoy]
    rw[e,e2] at hK
    have hyn:0≤y.n:=hnn (jW y) (List.mem_of_getElem? hoy)
    exact Xi hc (by omega) hy hly (fun i z hi hz=>HN hi hz) hyn (by omega) hv hvn hn2 ⟨_,rF (xs:=xs.set (u3 f xs) (Vt y f.n)) (by rw[List.map_set,h];rfl),hK⟩
   ·have hb:∀z∈xs,sM f z=false:=fun z hz=>by
     obtain⟨i,hi⟩:=List.getElem?_of_mem hz
     exact HN (xs:=xs) (i:=i) (by have:=(List.getElem?_eq_some_iff.1 hi).1;omega) hi
    by_cases hf:64≤xs.length
    ·have e:Em f out=9:=by unfold Em;rw[if_neg (by rw[hc];decide),if_neg ht,if_neg (by omega),if_pos (by omega)]
     have e2:zA f out=out:=by unfold zA;rw[if_pos (by rw[e];decide)]
     rw[e,e2] at hK
     exact WY hc (by omega) hb (by omega) hf hv hvn hn2 ⟨_,rF h,hK⟩
    ·have e:Em f out=0:=by unfold Em;rw[if_neg (by rw[hc];decide),if_neg ht,if_neg (by omega),if_neg (by omega)]
     have e2:zA f out=out++ [jW f]:=by
      unfold zA
      rw[if_neg (by rw[e];decide),List.getElem?_eq_none (by omega)]
     rw[e,e2] at hK
     exact Xm hc (by omega) hb (by omega) hv hvn fun A' c'=>⟨_,rF (by rw[List.map_append,h];simp[jW,hvn]),hK⟩
end
end
end Go.Proofs.YtifgibijcmppmaaGreat
namespace Go.Proofs.YtifgibijcmppmaaGreat
open Go Go.Proofs Go.Sl
set_option maxRecDepth 100000
set_option maxHeartbeats 40000000
attribute [local irreducible] aN fB cJ bO aM aY aA dM dQ aW dK pt ro fF star sep bI
section
variable {R C:List HP} {K:Value→List HP→Prop}
def Zw:List (Int×Bool):= [(1,true),(1,true),(1,true),(7,false),(7,false),(1,true),(1,false),(5,false),(3,false),(3,true),(9,false),(1,false),(1,true),(3,false),(3,true),(1,true),(4,true),(3,true),(11,true),(10,true),(12,true)]
def Alm:List Value:=Zw.flatMap fun x=> [.int .i64 x.1,.bool x.2]
def Adk (w:Int):Int:=(Zw.getD w.toNat (0,false)).1
def QE (w:Int):Bool:=(Zw.getD w.toNat (0,false)).2
theorem w21 {w:Int} (h:0≤w∧w≤20):w=0∨w=1∨w=2∨w=3∨w=4∨w=5∨w=6∨w=7∨w=8∨w=9∨w=10∨w=11∨w=12∨w=13∨w=14∨w=15∨w=16∨w=17∨w=18∨w=19∨w=20:=by omega
theorem Nc {w:Int} (h:0≤w∧w≤20):1≤Adk w∧Adk w≤12:=by
 rcases w21 h with rfl|rfl|rfl|rfl|rfl|rfl|rfl|rfl|rfl|rfl|rfl|rfl|rfl|rfl|rfl|rfl|rfl|rfl|rfl|rfl|rfl <;> decide
theorem Aah (hK:K (.agg Alm.toArray) R):aA Tryz.prog 389 #[] R K:=by
 refine aH Tryz.func389 ?_
 repeat' (first|refine v5 ?_|refine wr ?_|refine w5 ?_ ?_|((refine bh fun h=>?_) <;> try exact w6 h)|(refine aE fun hA=>?_;subst hA)|intro _)
 (refine aC ?_;exact aB (hK))
theorem Lv {w st o:Int} (h:0≤w∧w≤20) (hK:K (.agg #[.int .i64 (Adk w),.bool (QE w)]) R):aA Tryz.prog 345 #[.agg #[.int .i64 w,.int .i64 st,.int .i64 o]] R K:=by
 rcases w21 h with rfl|rfl|rfl|rfl|rfl|rfl|rfl|rfl|rfl|rfl|rfl|rfl|rfl|rfl|rfl|rfl|rfl|rfl|rfl|rfl|rfl
 all_goals
  refine aH Tryz.func345 ?_
  repeat' (first|refine v82 ?_|refine wr ?_|refine w5 ?_ ?_|((refine bh fun h=>?_) <;> try exact w6 h)|(refine aE fun hA=>?_;subst hA)|intro _|(show aA _ 389 _ _ _;refine CA (h:=Aah ?_)))
  (refine aC ?_;exact aB (hK))
def l9 (w o:Int):Int:=if w=0∧0<o∧o≤12 then o else Adk w
theorem Ku {w o:Int} (h:0≤w∧w≤20):1≤l9 w o∧l9 w o≤12:=by
 have:=Nc h
 unfold l9
 split <;> omega
theorem JD {r:Nat} {w st o:Int} (hK:K (.bool (decide (w=0) && decide (0<o) && decide (o≤12))) (pt r [.int .i64 w,.int .i64 st,.int .i64 o] 155::R)):aA Tryz.prog 346 #[.pointer (some ⟨r,0,none⟩)] (pt r [.int .i64 w,.int .i64 st,.int .i64 o] 155::R) K:=by
 refine aH Tryz.func346 ?_
 repeat' (first|refine v23 ?_|refine wr ?_|refine w5 ?_ ?_|((refine bh fun h=>?_) <;> try exact w6 h)|(refine aE fun hA=>?_;subst hA)|intro _)
 all_goals(refine aC ?_;exact aB (kb hK (by simp[*] <;> omega)))
theorem Nz {w st o:Int} (hw:0≤w∧w≤20) (hK:K (.tuple #[.int .i64 (l9 w o),.int .i64 0]) R):aA Tryz.prog 264 #[.agg #[.int .i64 w,.int .i64 st,.int .i64 o]] R K:=by
 have ht:=Nc hw
 by_cases hc:w=0∧0<o∧o≤12
 ·unfold l9 at hK
  rw[if_pos hc] at hK
  obtain⟨c1,c2,c3⟩:=hc
  refine aH Tryz.func264 ?_
  repeat' (first|refine Yj ?_|refine wr ?_|refine w5 ?_ ?_|((refine bh fun h=>?_) <;> try exact w6 h)|(refine aE fun hA=>?_;subst hA)|intro _|(show aA _ 345 _ _ _;refine CA (h:=Lv hw ?_))|(show aA _ 346 _ _ _;refine CA (h:=JD ?_)))
  all_goals(refine aC ?_;exact aB (hK))
 ·unfold l9 at hK
  rw[if_neg hc] at hK
  have hc2:w≠0∨o≤0∨12<o:=by omega
  refine aH Tryz.func264 ?_
  repeat' (first|refine Yj ?_|refine wr ?_|refine w5 ?_ ?_|((refine bh fun h=>?_) <;> try exact w6 h)|(refine aE fun hA=>?_;subst hA)|intro _|(show aA _ 345 _ _ _;refine CA (h:=Lv hw ?_))|(show aA _ 346 _ _ _;refine CA (h:=JD ?_)))
  all_goals(refine aC ?_;exact aB (hK))
theorem xK {w st o:Int} (hw:0≤w∧w≤20) (hK:K (.bool (QE w)) R):aA Tryz.prog 265 #[.agg #[.int .i64 w,.int .i64 st,.int .i64 o]] R K:=by
 have ht:=Nc hw
 refine aH Tryz.func265 ?_
 repeat' (first|refine v82 ?_|refine wr ?_|refine w5 ?_ ?_|((refine bh fun h=>?_) <;> try exact w6 h)|(refine aE fun hA=>?_;subst hA)|intro _|(show aA _ 345 _ _ _;refine CA (h:=Lv hw ?_)))
 all_goals(refine aC ?_;exact aB (hK))
theorem NU {n l:Int} (hK:K (.bool (decide (l≤n) && decide (n≤2147483647))) R):aA Tryz.prog 266 #[.int .i64 n,.int .i64 l] R K:=by
 refine aH Tryz.func266 ?_
 repeat' (first|refine v1 ?_|refine wr ?_|refine w5 ?_ ?_|((refine bh fun h=>?_) <;> try exact w6 h)|(refine aE fun hA=>?_;subst hA)|intro _)
 all_goals(refine aC ?_;exact aB (kb hK (by simp[*] <;> omega)))
theorem Aeu {w st o last:Int} (hw:0≤w∧w≤20) (hb1:QE w=true) (hb2:0≤last∧last≤2147483647) (hK:K (.tuple #[.agg #[.int .i64 9,.int .i64 0,.bool false,.string ⟨#[]⟩,.int .i64 0,.int .i64 0,.int .i64 0,.bool false,.int .i64 (l9 w o),.int .i64 last,.int .i64 0,.slice none 0 0],.int .i64 0]) R):aA Tryz.prog 172 #[.agg #[.int .i64 w,.int .i64 st,.int .i64 o],.int .i64 last] R K:=by
 refine aH Tryz.func172 ?_
 repeat' (first|refine Gy ?_|refine wr ?_|refine w5 ?_ ?_|((refine bh fun h=>?_) <;> try exact w6 h)|(refine aE fun hA=>?_;subst hA)|intro _|(show aA _ 264 _ _ _;refine CA (h:=Nz hw ?_))|(show aA _ 265 _ _ _;refine CA (h:=xK hw ?_))|(show aA _ 266 _ _ _;refine CA (h:=NU ?_)))
 all_goals(refine aC ?_;exact aB (hK))
theorem Tq {w st o last:Int} (hw:0≤w∧w≤20) (hb1:QE w=false) (hb2:1≤st∧st≤2147483647) (hK:K (.tuple #[.agg #[.int .i64 4,.int .i64 st,.bool false,.string ⟨#[]⟩,.int .i64 0,.int .i64 0,.int .i64 0,.bool false,.int .i64 (l9 w o),.int .i64 0,.int .i64 0,.slice none 0 0],.int .i64 0]) R):aA Tryz.prog 172 #[.agg #[.int .i64 w,.int .i64 st,.int .i64 o],.int .i64 last] R K:=by
 refine aH Tryz.func172 ?_
 repeat' (first|refine Gy ?_|refine wr ?_|refine w5 ?_ ?_|((refine bh fun h=>?_) <;> try exact w6 h)|(refine aE fun hA=>?_;subst hA)|intro _|(show aA _ 264 _ _ _;refine CA (h:=Nz hw ?_))|(show aA _ 265 _ _ _;refine CA (h:=xK hw ?_))|(show aA _ 266 _ _ _;refine CA (h:=NU ?_)))
 all_goals(refine aC ?_;exact aB (hK))
end
end Go.Proofs.YtifgibijcmppmaaGreat
