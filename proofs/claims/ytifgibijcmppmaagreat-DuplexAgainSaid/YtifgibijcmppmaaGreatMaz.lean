/- A part of the proof: lemmas; each with the conditions that it states. -/
import Derived.Test.YtifgibijcmppmaaGreatMav
import Derived.Test.YtifgibijcmppmaaGreatMan
set_option linter.unusedVariables false
set_option linter.unusedSimpArgs false
namespace Go.Proofs.YtifgibijcmppmaaGreat
open Go Go.Proofs Go.Sl
set_option maxRecDepth 100000
set_option maxHeartbeats 40000000
attribute [local irreducible] aM fG cV bP aN aW aA dP dX aV dO pt ro eW star sep bH
attribute [local irreducible] mp Ec
section
variable {R C:List HP} {K:Value→List HP→Prop}
def uA (f:Fm) (xs:List Fm):Nat:=(xs.takeWhile fun x=>!qU f x).length
def Ei (f:Fm) (xs:List Fm):Int:=if l8 f=false then 2 else if f.t<2 then 13 else if uA f xs<xs.length then 0 else if 64≤xs.length then 9 else 0
def yZ (f:Fm) (xs:List Fm):List Fm:=if Ei f xs≠0 then xs else match xs[uA f xs]? with
 |some y=>xs.set (uA f xs) (Xc y f.n)
 |none=>xs++ [jD f]
def Qs (q:Nat) (out:List Fm):HP:=eW fun xs:List Fm=>sep (uQ q xs) (bH (xs.map jD=out))
def P9 (out:List Fm):Prop:=out.length≤64∧∀y∈out,0≤y.n
theorem KW {f:Fm}:∀xs:List Fm,uA f (xs.map jD)=uA f xs
 | []=>rfl
 |x::r=>by
  have ih:=KW (f:=f) r
  unfold uA at ih ⊢
  rw[List.map_cons,List.takeWhile_cons,List.takeWhile_cons]
  show(if(!qU f x)=true then _ else _:List Fm).length=_
  split
  ·rw[List.length_cons,List.length_cons,ih]
  ·rfl
theorem M5 {f:Fm}:∀ {xs:List Fm},uA f xs<xs.length→∃y,xs[uA f xs]?=some y∧qU f y=true
 | [],h=>by cases h
 |x::r,h=>by
  unfold uA at h ⊢
  rw[List.takeWhile_cons] at h ⊢
  by_cases hx:(!qU f x)=true
  ·rw[if_pos hx] at h ⊢
   obtain⟨y,hy,hl⟩:=M5 (f:=f) (xs:=r) (by simpa[uA] using h)
   exact⟨y,by simpa[uA] using hy,hl⟩
  ·rw[if_neg hx]
   exact⟨x,rfl,by simpa using hx⟩
theorem HB {f:Fm}:∀ {xs:List Fm} {i:Nat} {z:Fm},i<uA f xs→xs[i]?=some z→qU f z=false
 | [],_,_,_,h=>by cases h
 |x::r,i,z,h,hz=>by
  unfold uA at h
  rw[List.takeWhile_cons] at h
  by_cases hx:(!qU f x)=true
  ·rw[if_pos hx] at h
   cases i with
   |zero=>cases hz;simpa using hx
   |succ i=>exact HB (xs:=r) (i:=i) (by simpa[uA] using h) (by simpa using hz)
  ·rw[if_neg hx] at h;cases h
theorem qJ {q:Nat} {xs out:List Fm} (h:xs.map jD=out):aG (uQ q xs::R) (Qs q out::R):=aG.ex xs (aG.sep (aG.pick aT.here (aG.pure h (aG.refl _))))
theorem D6 {f:FuncId} {args:Array Value} {q:Nat} {out:List Fm} (h:∀xs:List Fm,xs.map jD=out→aA Tryz.prog f args (uQ q xs::R) K):aA Tryz.prog f args (Qs q out::R) K:=
 aA.ex fun xs=>aA.ent (aG.trans aG.unsep (fun _ hs=>bV.swap hs)) (aA.pure fun hI=>h xs hI)
section
variable {q:Nat} {out:List Fm} {f:Fm}
theorem Acj (hK:∀q,K (.pointer (some ⟨q,0,none⟩)) (Qs q []::R)):aA Tryz.prog 49 #[] R K:=
 aA.entK (Ad7 fun q=>⟨_,qJ (xs:= []) rfl,hK q⟩)
theorem Pm (hK:K (.int .i64 (out.length:Nat)) (Qs q out::R)):aA Tryz.prog 94 #[.pointer (some ⟨q,0,none⟩)] (Qs q out::R) K:=by
 refine D6 fun xs h=>?_
 have hl:out.length=xs.length:=by rw[← h,List.length_map]
 rw[hl] at hK
 exact aA.entK (Afl ⟨_,qJ h,hK⟩)
theorem wG (ho:P9 out) (hK:K (.int .i64 (64 - (out.length:Nat))) (Qs q out::R)):aA Tryz.prog 113 #[.pointer (some ⟨q,0,none⟩)] (Qs q out::R) K:=by
 refine D6 fun xs h=>?_
 have hl:out.length=xs.length:=by rw[← h,List.length_map]
 have h1:=ho.1
 rw[hl] at hK
 exact aA.entK (ZM (by omega) ⟨_,qJ h,hK⟩)
theorem SK (hK:∀v,K v (Qs q []::R)):aA Tryz.prog 271 #[.pointer (some ⟨q,0,none⟩)] (Qs q out::R) K:=by
 refine D6 fun xs h=>?_
 exact aA.entK (Vd ⟨_,qJ (xs:= []) rfl,hK _⟩)
theorem WG {r:List Fm} (ho:P9 (f::r)) (hK:∀y:Fm,jD y=f→K (.tuple #[.agg #[.int .i64 y.t,.int .i64 y.st,.bool y.e,.string y.d,.int .i64 y.k,.int .i64 y.on,.int .i64 y.w,.bool y.x,.int .i64 y.c,.int .i64 y.la,.int .i64 y.n,.slice y.pa y.pn y.pc],.bool true]) (Qs q r::yG y::R)):aA Tryz.prog 95 #[.pointer (some ⟨q,0,none⟩)] (Qs q (f::r)::R) K:=by
 refine D6 fun xs h=>?_
 cases xs with
 |nil=>cases h
 |cons y xs=>
  have h1:jD y=f:=(List.cons.inj h).1
  have h2:xs.map jD=r:=(List.cons.inj h).2
  have hl:xs.length≤1000:=by have:=ho.1;have e:r.length=xs.length:=by rw[← h2,List.length_map]
                             rw[List.length_cons] at this;omega
  exact aA.entK (Xm hl ⟨_,qJ h2,hK y h1⟩)
theorem jR (ho:P9 out) (hv:dL R f.pa rN f.ps) (hvn:f.ps.length=f.pn) (hn2:f.pn<1000000000000000) (hK:K (.int .i64 (Ei f out)) (Qs q (yZ f out)::R)):aA Tryz.prog 60 #[.pointer (some ⟨q,0,none⟩),.agg #[.int .i64 f.t,.int .i64 f.st,.bool f.e,.string f.d,.int .i64 f.k,.int .i64 f.on,.int .i64 f.w,.bool f.x,.int .i64 f.c,.int .i64 f.la,.int .i64 f.n,.slice f.pa f.pn f.pc]] (Qs q out::R) K:=by
 refine D6 fun xs h=>?_
 have hl:out.length=xs.length:=by rw[← h,List.length_map]
 have hix:uA f out=uA f xs:=by rw[← h,KW]
 obtain⟨h64,hnn⟩:=ho
 refine aA.entK ?_
 cases hc:l8 f
 ·have e:Ei f out=2:=by unfold Ei;rw[if_pos hc]
  have e2:yZ f out=out:=by unfold yZ;rw[if_pos (by rw[e];decide)]
  rw[e,e2] at hK
  exact VC (by simp) hc ⟨bI hv,hvn⟩ hn2 ⟨_,qJ h,hK⟩
 ·have ht0:0≤f.t:=((t6 f).1 hc).1.1
  by_cases ht:f.t<2
  ·have e:Ei f out=13:=by unfold Ei;rw[if_neg (by rw[hc];decide),if_pos ht]
   have e2:yZ f out=out:=by unfold yZ;rw[if_pos (by rw[e];decide)]
   rw[e,e2] at hK
   exact Wp (by simp) hc (by omega) ⟨bI hv,hvn⟩ hn2 ⟨_,qJ h,hK⟩
  ·by_cases hlt:uA f xs<xs.length
   ·have e:Ei f out=0:=by unfold Ei;rw[if_neg (by rw[hc];decide),if_neg ht,if_pos (by omega)]
    obtain⟨y,hy,hly⟩:=M5 hlt
    have hoy:out[uA f xs]?=some (jD y):=by rw[← h,List.getElem?_map,hy];rfl
    have e2:yZ f out=out.set (uA f xs) (Xc (jD y) f.n):=by
     unfold yZ
     rw[if_neg (by rw[e];decide),hix,hoy]
    rw[e,e2] at hK
    have hyn:0≤y.n:=hnn (jD y) (List.mem_of_getElem? hoy)
    exact Va hc (by omega) hy hly (fun i z hi hz=>HB hi hz) hyn (by omega) hv hvn hn2 ⟨_,qJ (xs:=xs.set (uA f xs) (Xc y f.n)) (by rw[List.map_set,h];rfl),hK⟩
   ·have hb:∀z∈xs,qU f z=false:=fun z hz=>by
     obtain⟨i,hi⟩:=List.getElem?_of_mem hz
     exact HB (xs:=xs) (i:=i) (by have:=(List.getElem?_eq_some_iff.1 hi).1;omega) hi
    by_cases hf:64≤xs.length
    ·have e:Ei f out=9:=by unfold Ei;rw[if_neg (by rw[hc];decide),if_neg ht,if_neg (by omega),if_pos (by omega)]
     have e2:yZ f out=out:=by unfold yZ;rw[if_pos (by rw[e];decide)]
     rw[e,e2] at hK
     exact Wg hc (by omega) hb (by omega) hf hv hvn hn2 ⟨_,qJ h,hK⟩
    ·have e:Ei f out=0:=by unfold Ei;rw[if_neg (by rw[hc];decide),if_neg ht,if_neg (by omega),if_neg (by omega)]
     have e2:yZ f out=out++ [jD f]:=by
      unfold yZ
      rw[if_neg (by rw[e];decide),List.getElem?_eq_none (by omega)]
     rw[e,e2] at hK
     exact VF hc (by omega) hb (by omega) hv hvn fun A' c'=>⟨_,qJ (by rw[List.map_append,h];simp[jD,hvn]),hK⟩
end
end
section
variable {R C:List HP} {K:Value→List HP→Prop}
section
variable {p:Nat} {s:F0} {a b t:eE}
theorem Acs (hK:K (.agg #[.int .i64 (LL a b).w,.int .i64 (LL a b).st,.int .i64 (LL a b).it]) R):aA Tryz.prog 146 #[.agg #[.int .i64 a.w,.int .i64 a.st,.int .i64 a.it],.agg #[.int .i64 b.w,.int .i64 b.st,.int .i64 b.it]] R K:=by
 simp only[LL] at hK
 refine aH Tryz.func146 ?_
 repeat' (first|refine v61 ?_|refine wr ?_|refine w5 ?_ ?_|((refine bh fun h=>?_) <;> try exact w6 h)|(refine aE fun hA=>?_;subst hA)|intro _)
 all_goals(refine aC ?_;exact aB (hK))
theorem Agy {l:List eE} (h:l≠ []):∃x,l.getLast?=some x∧l[((l.length:Nat) - 1:Int).toNat]?=some x:=by
 have hl:0<l.length:=List.length_pos_iff.2 h
 refine⟨l[l.length - 1],?_,?_⟩
 ·rw[List.getLast?_eq_getElem?,List.getElem?_eq_getElem (by omega)]
 ·rw[show((l.length:Nat) - 1:Int).toNat=l.length - 1 by omega,List.getElem?_eq_getElem (by omega)]
theorem WB {h g:eE} {l:List eE} {A:Option Addr} {c:Nat} (hl:l.length≤1000) (hK:K (.agg #[.int .i64 (rD ⟨h,g,l⟩).w,.int .i64 (rD ⟨h,g,l⟩).st,.int .i64 (rD ⟨h,g,l⟩).it]) (pt p [.int .i64 h.w,.int .i64 h.st,.int .i64 h.it,.int .i64 g.w,.int .i64 g.st,.int .i64 g.it,.slice A l.length c] 207::bU A c 23 Fy l::R)):aA Tryz.prog 145 #[.pointer (some ⟨p,0,none⟩)] (pt p [.int .i64 h.w,.int .i64 h.st,.int .i64 h.it,.int .i64 g.w,.int .i64 g.st,.int .i64 g.it,.slice A l.length c] 207::bU A c 23 Fy l::R) K:=by
 by_cases hz:l= []
 ·have e:rD ⟨h,g,l⟩=h:=by unfold rD;rw[hz];rfl
  have hn:l.length=0:=by rw[hz];rfl
  rw[e] at hK
  refine aH Tryz.func145 ?_
  repeat' (first|refine v71 ?_|refine wr ?_|refine w5 ?_ ?_|((refine bh fun h=>?_) <;> try exact w6 h)|(refine aE fun hA=>?_;subst hA)|intro _|(show aA _ 241 _ _ _;refine CA (h:=IB ?_))|(show aA _ 214 _ _ _;refine CA (h:=Su ?_)))
  all_goals(refine aC ?_;exact aB (hK))
 ·obtain⟨x,h1,h2⟩:=Agy hz
  have hn:0<l.length:=List.length_pos_iff.2 hz
  have e:rD ⟨h,g,l⟩=x:=by unfold rD;rw[h1]
  rw[e] at hK
  refine aH Tryz.func145 ?_
  repeat' (first|refine v71 ?_|refine wr ?_|refine w5 ?_ ?_|((refine bh fun h=>?_) <;> try exact w6 h)|(refine aE fun hA=>?_;subst hA)|intro _|(show aA _ 241 _ _ _;refine CA (h:=IB ?_)))
  all_goals(refine aC ?_;exact aB (hK))
def oH:List (Nat×Nat):= [(0,0),(1,1),(2,1),(3,1),(4,0)]
def oB:List Nat:= [0,0,2,6,14,0,32,96,224,480,0,1024,3072,7168,15360,32766,0,65536,262142,524287,1048575,2097151]
def oS:List Nat:= [2097151,1048575,524287,262142,65536,0,32766,15360,7168,3072,1024,0,480,224,96,32,0,14,6,2,0,0]
def o8:List (Nat×Nat):= [(16,0),(17,1),(1,1),(2,1),(3,1),(4,1),(5,1),(6,1),(7,1),(8,1),(9,1),(10,1),(11,1),(12,1),(13,1),(14,1),(15,1),(18,1),(0,2),(19,0),(20,0),(21,1)]
def nD:List (Nat×Nat):= [(1,0),(2,0),(3,0),(4,0),(5,0),(6,0),(7,1),(0,1),(8,0),(9,0),(10,1)]
theorem E8 (hl:s.l.length≤4) (hK:∀A c,K (.tuple #[.slice A (if iA s t=0 then LG (rD s) t else []).length c,.int .i64 (iA s t)]) (Tj p (d8 s t)::bU A c 148 rN (if iA s t=0 then LG (rD s) t else [])::R)):aA Tryz.prog 59 #[.pointer (some ⟨p,0,none⟩),.agg #[.int .i64 t.w,.int .i64 t.st,.int .i64 t.it]] (Tj p s::R) K:=by
 obtain⟨h,g,l⟩:=s
 simp only at hl
 cases hc:rY t.w t.st t.it
 ·have e:iA ⟨h,g,l⟩ t=3:=by unfold iA;rw[hc];rfl
  have e2:d8 ⟨h,g,l⟩ t=⟨h,g,l⟩:=by unfold d8;rw[e];rfl
  rw[e,e2] at hK
  simp only[show ¬((3:Int)=0) by decide,if_false] at hK
  unfold Tj at *
  dsimp only at hK ⊢
  repeat (first|refine aA.ex fun _=>?_|refine aA.sep ?_|refine aA.pure fun _=>?_)
  refine aH Tryz.func59 ?_
  repeat' (first|refine v92 ?_|refine dw oH ?_|refine PX oB oS o8 ?_|refine dw nD ?_|refine wr ?_|refine w5 ?_ ?_|((refine bh fun h=>?_) <;> try exact w6 h)|(refine aE fun hA=>?_;subst hA)|intro _|(show aA _ 143 _ _ _;refine CA (h:=uJ (v:=3) (by rw[hc];rfl) ?_)))
  all_goals(refine aC ?_;exact aB (hK none 0))
 ·by_cases h4:4≤l.length
  ·have e:iA ⟨h,g,l⟩ t=16:=by unfold iA;rw[hc,if_neg (by decide),if_pos h4]
   have e2:d8 ⟨h,g,l⟩ t=⟨h,g,l⟩:=by unfold d8;rw[e];rfl
   rw[e,e2] at hK
   simp only[show ¬((16:Int)=0) by decide,if_false] at hK
   unfold Tj at *
   dsimp only at hK ⊢
   repeat (first|refine aA.ex fun _=>?_|refine aA.sep ?_|refine aA.pure fun _=>?_)
   refine aH Tryz.func59 ?_
   repeat' (first|refine v92 ?_|refine dw oH ?_|refine PX oB oS o8 ?_|refine dw nD ?_|refine wr ?_|refine w5 ?_ ?_|((refine bh fun h=>?_) <;> try exact w6 h)|(refine aE fun hA=>?_;subst hA)|intro _|(show aA _ 143 _ _ _;refine CA (h:=uJ (v:=0) (by rw[hc];rfl) ?_)))
   all_goals(refine aC ?_;exact aB (hK none 0))
  ·have e:iA ⟨h,g,l⟩ t=0:=by unfold iA;rw[hc,if_neg (by decide),if_neg h4]
   have e2:d8 ⟨h,g,l⟩ t=⟨h,LL g t,l++ [t]⟩:=by unfold d8;rw[e];rfl
   rw[e,e2] at hK
   simp only[if_true] at hK
   unfold Tj at *
   dsimp only at hK ⊢
   repeat (first|refine aA.ex fun _=>?_|refine aA.sep ?_|refine aA.pure fun _=>?_)
   refine iB (E:=Fy) (l:=l) (by((repeat (first|exact aT.here|apply aT.there)) <;> exact aT.here)) fun hf=>?_
   refine aH Tryz.func59 ?_
   have hdr:(l.drop (Int.toNat 0)).take (((l.length:Nat):Int).toNat - Int.toNat 0)=l:=by simp
   repeat' (first|(show aM _ _ _ _ _ _ _;refine gZ (E:=Fy) (xs:=l) ?_;intro _;rw[hdr])|refine v92 ?_|refine dw oH ?_|refine PX oB oS o8 ?_|refine dw nD ?_|refine wr ?_|refine w5 ?_ ?_|((refine bh fun h=>?_) <;> try exact w6 h)|(refine aE fun hA=>?_;subst hA)|intro _|(show aA _ 143 _ _ _;refine CA (h:=uJ (v:=0) (by rw[hc];rfl) ?_))|(show aA _ 145 _ _ _;refine CA (h:=WB (by omega) ?_))|(show aA _ 144 _ _ _;refine CA (h:=Ajf (fun A9 c9=>?_)))|(show aA _ 146 _ _ _;refine CA (h:=Acs (a:=g) (b:=t) ?_))|(show aM _ _ _ _ _ _ _;refine cU (E:=Fy) (ys:= [t]) ?_;intro _ _))
   all_goals(refine aC ?_;exact aB (hK _ _))
def vG:List (Nat×Nat):= [(0,0),(5,1),(1,1),(2,1),(3,1),(4,1),(6,1),(7,0)]
theorem NJ (hK:K (.tuple #[.agg #[.int .i64 (if s.l= [] then 0 else s.h.w),.int .i64 (if s.l= [] then 0 else s.h.st),.int .i64 (if s.l= [] then 0 else s.h.it)],.agg #[.int .i64 (if s.l= [] then 0 else(dA s).h.w),.int .i64 (if s.l= [] then 0 else(dA s).h.st),.int .i64 (if s.l= [] then 0 else(dA s).h.it)],.int .i64 (zS s)]) (Tj p (dA s)::R)):aA Tryz.prog 249 #[.pointer (some ⟨p,0,none⟩)] (Tj p s::R) K:=by
 obtain⟨h,g,l⟩:=s
 cases l with
 |nil=>
  simp only[dA,zS,if_true] at hK
  unfold Tj at *
  dsimp only at hK ⊢
  repeat (first|refine aA.ex fun _=>?_|refine aA.sep ?_|refine aA.pure fun _=>?_)
  refine aH Tryz.func249 ?_
  repeat' (first|refine v73 ?_|refine dw vG ?_|refine wr ?_|refine w5 ?_ ?_|((refine bh fun h=>?_) <;> try exact w6 h)|(refine aE fun hA=>?_;subst hA)|intro _)
  all_goals(refine aC ?_;exact aB (hK))
 |cons x r=>
  simp only[dA,zS,reduceCtorEq,if_false] at hK
  have hx:(x::r)[(0:Int).toNat]?=some x:=rfl
  have hlen:0<(x::r).length:=Nat.succ_pos _
  unfold Tj at *
  dsimp only at hK ⊢
  repeat (first|refine aA.ex fun _=>?_|refine aA.sep ?_|refine aA.pure fun _=>?_)
  refine aH Tryz.func249 ?_
  have hdr:((x::r).drop (Int.toNat 1)).take ((((x::r).length:Nat):Int).toNat - Int.toNat 1)=r:=by simp
  repeat' (first|(show aM _ _ _ _ _ _ _;refine gZ (E:=Fy) (xs:=x::r) ?_;intro _;rw[hdr])|refine v73 ?_|refine dw vG ?_|refine wr ?_|refine w5 ?_ ?_|((refine bh fun h=>?_) <;> try exact w6 h)|(refine aE fun hA=>?_;subst hA)|intro _)
  all_goals(refine aC ?_;exact aB (hK))
end
end
section
variable {R C:List HP} {K:Value→List HP→Prop}
theorem wS {n mm:Int} (hK:K (.bool (decide (0≤n) && decide (n≤mm))) R):aA Tryz.prog 239 #[.int .i64 n,.int .i64 mm] R K:=by
 refine aH Tryz.func239 ?_
 repeat' (first|refine v1 ?_|refine wr ?_|refine w5 ?_ ?_|((refine bh fun h=>?_) <;> try exact w6 h)|(refine aE fun hA=>?_;subst hA)|intro _)
 all_goals(refine aC ?_;exact aB (kb hK (by simp <;> omega)))
def S5 (s:eE) (p:Pr):eE:=if p.i=1 then⟨p.v,s.st,s.it⟩ else if p.i=2 then⟨s.w,p.v,s.it⟩ else if p.i=3 then⟨s.w,s.st,p.v⟩ else s
def XC:eE→List Pr→Option eE
 |s,[]=>some s
 |s,p::ps=>if 0≤p.v∧p.v≤2147483647 then XC (S5 s p) ps else none
theorem Ai7 {s:eE} {ps:List Pr} {j:Nat} {p:Pr} (h:ps[j]?=some p):XC s (ps.drop j)=if 0≤p.v∧p.v≤2147483647 then XC (S5 s p) (ps.drop (j+1)) else none:=by
 have hj:=(List.getElem?_eq_some_iff.1 h).1
 rw[List.drop_eq_getElem_cons hj]
 have:=(List.getElem?_eq_some_iff.1 h).2
 rw[this]
 rfl
def paV (o:Option eE):Value:=match o with
 |some s=>.tuple #[.agg #[.int .i64 s.w,.int .i64 s.st,.int .i64 s.it],.int .i64 0]
 |none=>.tuple #[.agg #[.int .i64 0,.int .i64 0,.int .i64 0],.int .i64 4]
theorem Ff {s:eE} {A:Option Addr} {n c:Nat} {ps:List Pr} (hv:dL R A rN ps) (hn:ps.length=n) (hs:n≤1000000) (hK:K (paV (XC s ps)) R):aA Tryz.prog 247 #[.agg #[.int .i64 s.w,.int .i64 s.st,.int .i64 s.it],.slice A n c] R K:=by
 subst hn
 refine aH Tryz.func247 ?_
 repeat' (first|refine I6 ?_|refine wr ?_|refine w5 ?_ ?_|((refine bh fun h=>?_) <;> try exact w6 h)|(refine aE fun hA=>?_;subst hA)|intro _)
 rename_i r2 r4
 refine iL (fun kk a C'=>∃(j:Nat) (z:eE),j+kk=ps.length∧XC s ps=XC z (ps.drop j)∧dC a [(2,.pointer (some ⟨r2,0,none⟩)),(4,.pointer (some ⟨r4,0,none⟩)),(8,.slice A ps.length c),(9,.int .i64 ps.length),(10,.int .i64 j)]∧C'=pt r4 [.int .i64 0,.int .i64 0,.int .i64 0] 23::pt r2 [.int .i64 z.w,.int .i64 z.st,.int .i64 z.it] 23::R) ps.length (cC ps.length ⟨0,s,by omega,rfl,⟨rfl,rfl,rfl,rfl,rfl,trivial⟩,rfl⟩ (by omega)) ?_
 rintro kk a C' ⟨j,z,hj,hap,ha,rfl⟩
 have hv':dL (pt r4 [.int .i64 0,.int .i64 0,.int .i64 0] 23::pt r2 [.int .i64 z.w,.int .i64 z.st,.int .i64 z.it] 23::R) A rN ps:=bI (bI hv)
 refine gV _ ha ?_
 simp only[fN]
 by_cases hlt:j<ps.length
 ·obtain⟨p,hp⟩:∃p,ps[j]?=some p:=⟨_,List.getElem?_eq_getElem hlt⟩
  rw[Ai7 hp] at hap
  by_cases hw:0≤p.v∧p.v≤2147483647
  ·rw[if_pos hw] at hap
   have hwd:(decide (0≤p.v) && decide (p.v≤2147483647))=true:=by simp[hw]
   by_cases h1:p.i=1
   ·have e:S5 z p=⟨p.v,z.st,z.it⟩:=by unfold S5;rw[if_pos h1]
    rw[e] at hap
    repeat' (first|(show aM _ _ _ _ _ _ _;refine vZ ?_ (hv:=hv');intro _ _ hA;subst hA)|refine I6 ?_|refine wr ?_|refine w5 ?_ ?_|((refine bh fun h=>?_) <;> try exact w6 h)|(refine aE fun hA=>?_;subst hA)|intro _|(show aA _ 239 _ _ _;refine CA (h:=wS ?_);rw[hwd]))
    all_goals(show aV _ _ _ _;exact cC (kk - 1) ⟨j+1,_,by omega,hap,⟨rfl,rfl,rfl,rfl,rfl,trivial⟩,rfl⟩)
   ·by_cases h2:p.i=2
    ·have e:S5 z p=⟨z.w,p.v,z.it⟩:=by unfold S5;rw[if_neg h1,if_pos h2]
     rw[e] at hap
     repeat' (first|(show aM _ _ _ _ _ _ _;refine vZ ?_ (hv:=hv');intro _ _ hA;subst hA)|refine I6 ?_|refine wr ?_|refine w5 ?_ ?_|((refine bh fun h=>?_) <;> try exact w6 h)|(refine aE fun hA=>?_;subst hA)|intro _|(show aA _ 239 _ _ _;refine CA (h:=wS ?_);rw[hwd]))
     all_goals(show aV _ _ _ _;exact cC (kk - 1) ⟨j+1,_,by omega,hap,⟨rfl,rfl,rfl,rfl,rfl,trivial⟩,rfl⟩)
    ·by_cases h3:p.i=3
     ·have e:S5 z p=⟨z.w,z.st,p.v⟩:=by unfold S5;rw[if_neg h1,if_neg h2,if_pos h3]
      rw[e] at hap
      repeat' (first|(show aM _ _ _ _ _ _ _;refine vZ ?_ (hv:=hv');intro _ _ hA;subst hA)|refine I6 ?_|refine wr ?_|refine w5 ?_ ?_|((refine bh fun h=>?_) <;> try exact w6 h)|(refine aE fun hA=>?_;subst hA)|intro _|(show aA _ 239 _ _ _;refine CA (h:=wS ?_);rw[hwd]))
      all_goals(show aV _ _ _ _;exact cC (kk - 1) ⟨j+1,_,by omega,hap,⟨rfl,rfl,rfl,rfl,rfl,trivial⟩,rfl⟩)
     ·have e:S5 z p=z:=by unfold S5;rw[if_neg h1,if_neg h2,if_neg h3]
      rw[e] at hap
      repeat' (first|(show aM _ _ _ _ _ _ _;refine vZ ?_ (hv:=hv');intro _ _ hA;subst hA)|refine I6 ?_|refine wr ?_|refine w5 ?_ ?_|((refine bh fun h=>?_) <;> try exact w6 h)|(refine aE fun hA=>?_;subst hA)|intro _|(show aA _ 239 _ _ _;refine CA (h:=wS ?_);rw[hwd]))
      all_goals(show aV _ _ _ _;exact cC (kk - 1) ⟨j+1,_,by omega,hap,⟨rfl,rfl,rfl,rfl,rfl,trivial⟩,rfl⟩)
  ·rw[if_neg hw] at hap
   rw[hap] at hK
   have hwd:(decide (0≤p.v) && decide (p.v≤2147483647))=false:=by
    rw[Bool.and_eq_false_iff];simp only[decide_eq_false_iff_not];omega
   repeat' (first|(show aM _ _ _ _ _ _ _;refine vZ ?_ (hv:=hv');intro _ _ hA;subst hA)|refine I6 ?_|refine wr ?_|refine w5 ?_ ?_|((refine bh fun h=>?_) <;> try exact w6 h)|(refine aE fun hA=>?_;subst hA)|intro _|(show aA _ 239 _ _ _;refine CA (h:=wS ?_);rw[hwd]))
   all_goals(refine aC ?_;exact aB (hK))
 ·have hjl:j=ps.length:=by omega
  rw[List.drop_eq_nil_of_le (by omega)] at hap
  rw[hap] at hK
  repeat' (first|refine I6 ?_|refine wr ?_|refine w5 ?_ ?_|((refine bh fun h=>?_) <;> try exact w6 h)|(refine aE fun hA=>?_;subst hA)|intro _)
  all_goals(refine aC ?_;exact aB (hK))
theorem HE (hK:K (.agg #[.int .i64 64,.int .i64 8,.int .i64 4]) R):aA Tryz.prog 47 #[] R K:=by
 refine aH Tryz.func47 ?_
 repeat' (first|refine v5 ?_|refine wr ?_|refine w5 ?_ ?_|((refine bh fun h=>?_) <;> try exact w6 h)|(refine aE fun hA=>?_;subst hA)|intro _)
 all_goals(refine aC ?_;exact aB (hK))
def Cy:List (Nat×Nat):= [(0,0),(1,0),(2,0),(3,0),(4,0),(5,0),(6,0),(7,0),(8,0),(9,0)]
theorem EP {p:Nat} {d:Dr} (hK:K (.tuple #[.int .i64 d.la,.bool d.se]) (CP p d::R)):aA Tryz.prog 201 #[.pointer (some ⟨p,0,none⟩)] (CP p d::R) K:=by
 obtain⟨se,go,ov,la,th,co⟩:=d
 simp only[CP] at hK ⊢
 refine aH Tryz.func201 ?_
 repeat' (first|refine v4 ?_|refine dw Cy ?_|refine wr ?_|refine w5 ?_ ?_|((refine bh fun h=>?_) <;> try exact w6 h)|(refine aE fun hA=>?_;subst hA)|intro _)
 all_goals(refine aC ?_;exact aB (hK))
theorem Zq {s t:ByteArray} (h:s.toList=t.toList):s=t:=by
 rw[ByteArray.toList_eq,ByteArray.toList_eq] at h
 exact ByteArray.ext (Array.toList_inj.1 h)
structure Bt where
 ev:Int
 wa:Int
 no:Int
 he:Int
 ou:Bool
 lo:Bool
 si:Int
 nn:Int
def btP (p:Nat) (b:Bt):HP:=l7 p b.ev b.wa b.no b.he b.ou b.lo b.si b.nn
def bN (b:Bt) (now:Int):Bt:= { b with no:=max b.no now,he:=max b.no now }
def Ags (b:Bt):Prop:=(0≤b.no∧b.no≤100000000000)∧(0≤b.he∧b.he≤100000000000)∧(0≤b.si∧b.si≤100000000000)∧0≤b.nn∧b.nn≤100000000000
def kR (b:Bt) (now:Int) (s:ByteArray):Bt:=if b.ou=true∧s=vN b.nn then { b with no:=max b.no now,he:=max b.no now,ou:=false } else b
section
variable {p:Nat} {b:Bt} {now:Int} {s:ByteArray}
theorem dD (hK:K (.tuple #[]) (btP p (bN b now)::R)):aA Tryz.prog 161 #[.pointer (some ⟨p,0,none⟩),.int .i64 now] (btP p b::R) K:=Pq hK
theorem Wn (hb:Ags b) (hK:∀v,K v (btP p (kR b now s)::R)):aA Tryz.prog 165 #[.pointer (some ⟨p,0,none⟩),.int .i64 now,.string s] (btP p b::R) K:=by
 obtain⟨ev,wa,no,he,ou,lo,si,nn⟩:=b
 obtain⟨h1,h2,h3,h4⟩:=hb
 simp only at h1 h2 h3 h4
 cases ou
 ·have e:kR ⟨ev,wa,no,he,false,lo,si,nn⟩ now s=⟨ev,wa,no,he,false,lo,si,nn⟩:=by unfold kR;rw[if_neg (by simp)]
  rw[e] at hK
  exact Aco rfl (hK _)
 ·by_cases hs:s=vN nn
  ·have e:kR ⟨ev,wa,no,he,true,lo,si,nn⟩ now s=⟨ev,wa,max no now,max no now,false,lo,si,nn⟩:=by unfold kR;rw[if_pos ⟨rfl,hs⟩]
   rw[e] at hK
   subst hs
   exact Abu rfl h4.1 (hK _)
  ·have e:kR ⟨ev,wa,no,he,true,lo,si,nn⟩ now s=⟨ev,wa,no,he,true,lo,si,nn⟩:=by unfold kR;rw[if_neg (fun q=>hs q.2)]
   rw[e] at hK
   simp only[btP,l7] at hK ⊢
   have hne:(s.toList == (vN nn).toList)=false:=beq_eq_false_iff_ne.2 fun q=>hs (Zq q)
   have hne':(!s.toList == (vN nn).toList)=true:=by rw[hne];rfl
   have hn4:=h4.1
   refine aH Tryz.func165 ?_
   repeat' (first|refine L2 ?_|refine wr ?_|refine w5 ?_ ?_|((refine bh fun h=>?_) <;> try exact w6 h)|(refine aE fun hA=>?_;subst hA)|intro _|(show aA _ 251 _ _ _;refine CA (h:=DD hn4 ?_)))
   all_goals(refine aC ?_;exact aB (hK _))
def Qt (b:Bt) (now:Int):Int:=if b.ev=0 then 0 else zU b.ev b.wa b.he b.ou b.lo b.si (max b.no now)
def btD (b:Bt) (now:Int):ByteArray:=if Qt b now=1 then vN (b.nn+1) else⟨#[]⟩
def gA (b:Bt) (now:Int):Bt:=if b.ev=0 then b else if Qt b now=1 then { b with no:=max b.no now,ou:=true,si:=max b.no now,nn:=b.nn+1 } else if Qt b now=2 then { b with no:=max b.no now,lo:=true } else { b with no:=max b.no now }
theorem Xa (hb:Ags b) (hn:0≤now∧now≤100000000000) (hK:K (.tuple #[.int .i64 (Qt b now),.string (btD b now)]) (btP p (gA b now)::R)):aA Tryz.prog 181 #[.pointer (some ⟨p,0,none⟩),.int .i64 now] (btP p b::R) K:=by
 obtain⟨ev,wa,no,he,ou,lo,si,nn⟩:=b
 obtain⟨h1,h2,h3,h4⟩:=hb
 simp only at h1 h2 h3 h4
 by_cases h0:ev=0
 ·simp only[Qt,btD,gA,if_pos h0] at hK
  exact QC h0 hK
 ·change aA Tryz.prog 181 #[.pointer (some ⟨p,0,none⟩),.int .i64 now] (l7 p ev wa no he ou lo si nn::R) K
  have hst:zU ev wa he ou lo si (max no now)=0∨zU ev wa he ou lo si (max no now)=1∨zU ev wa he ou lo si (max no now)=2:=by
   unfold zU
   split
   ·exact .inr (.inr rfl)
   ·split
    ·exact .inl rfl
    ·exact .inr (.inl rfl)
  rcases hst with hk|hk|hk
  ·simp only[Qt,btD,gA,if_neg h0,hk] at hK
   exact Acc hk rfl h0 (by omega) (by omega) (by omega) (by omega) hK
  ·simp only[Qt,btD,gA,if_neg h0,hk] at hK
   exact Abm hk rfl h0 (by omega) (by omega) (by omega) (by omega) hK
  ·simp only[Qt,btD,gA,if_neg h0,hk] at hK
   exact Abb hk rfl h0 (by omega) (by omega) (by omega) (by omega) hK
theorem Acv {e w:Int} (he:0≤e∧e≤1048576) (hw:0≤w∧w≤1048576) (hK:∀p,K (.tuple #[.pointer (some ⟨p,0,none⟩),.int .i64 0]) (btP p ⟨e,w,0,0,false,false,0,0⟩::R)):aA Tryz.prog 53 #[.int .i64 e,.int .i64 w] R K:=QI he hw hK
end
end
end Go.Proofs.YtifgibijcmppmaaGreat
namespace Go.Proofs.YtifgibijcmppmaaGreat
open Go Go.Proofs Go.Sl
set_option maxRecDepth 100000
set_option maxHeartbeats 40000000
attribute [local irreducible] aM fG cV bP aN aW aA dP dX aV dO pt ro eW star sep bH
section
variable {R C:List HP} {K:Value→List HP→Prop}
def Zn:List (Int×Bool):= [(1,true),(1,true),(1,true),(7,false),(7,false),(1,true),(1,false),(5,false),(3,false),(3,true),(9,false),(1,false),(1,true),(3,false),(3,true),(1,true),(4,true),(3,true),(11,true),(10,true),(12,true)]
def Ake:List Value:=Zn.flatMap fun x=> [.int .i64 x.1,.bool x.2]
def Ago (w:Int):Int:=(Zn.getD w.toNat (0,false)).1
def Sg (w:Int):Bool:=(Zn.getD w.toNat (0,false)).2
theorem w21 {w:Int} (h:0≤w∧w≤20):w=0∨w=1∨w=2∨w=3∨w=4∨w=5∨w=6∨w=7∨w=8∨w=9∨w=10∨w=11∨w=12∨w=13∨w=14∨w=15∨w=16∨w=17∨w=18∨w=19∨w=20:=by omega
theorem LE {w:Int} (h:0≤w∧w≤20):1≤Ago w∧Ago w≤12:=by
 rcases w21 h with rfl|rfl|rfl|rfl|rfl|rfl|rfl|rfl|rfl|rfl|rfl|rfl|rfl|rfl|rfl|rfl|rfl|rfl|rfl|rfl|rfl <;> decide
theorem X2 (hK:K (.agg Ake.toArray) R):aA Tryz.prog 389 #[] R K:=by
 refine aH Tryz.func389 ?_
 repeat' (first|refine v5 ?_|refine wr ?_|refine w5 ?_ ?_|((refine bh fun h=>?_) <;> try exact w6 h)|(refine aE fun hA=>?_;subst hA)|intro _)
 (refine aC ?_;exact aB (hK))
theorem MA {w st o:Int} (h:0≤w∧w≤20) (hK:K (.agg #[.int .i64 (Ago w),.bool (Sg w)]) R):aA Tryz.prog 345 #[.agg #[.int .i64 w,.int .i64 st,.int .i64 o]] R K:=by
 rcases w21 h with rfl|rfl|rfl|rfl|rfl|rfl|rfl|rfl|rfl|rfl|rfl|rfl|rfl|rfl|rfl|rfl|rfl|rfl|rfl|rfl|rfl
 all_goals
  refine aH Tryz.func345 ?_
  repeat' (first|refine v82 ?_|refine wr ?_|refine w5 ?_ ?_|((refine bh fun h=>?_) <;> try exact w6 h)|(refine aE fun hA=>?_;subst hA)|intro _|(show aA _ 389 _ _ _;refine CA (h:=X2 ?_)))
  (refine aC ?_;exact aB (hK))
def lH (w o:Int):Int:=if w=0∧0<o∧o≤12 then o else Ago w
theorem K9 {w o:Int} (h:0≤w∧w≤20):1≤lH w o∧lH w o≤12:=by
 have:=LE h
 unfold lH
 split <;> omega
theorem J2 {r:Nat} {w st o:Int} (hK:K (.bool (decide (w=0) && decide (0<o) && decide (o≤12))) (pt r [.int .i64 w,.int .i64 st,.int .i64 o] 155::R)):aA Tryz.prog 346 #[.pointer (some ⟨r,0,none⟩)] (pt r [.int .i64 w,.int .i64 st,.int .i64 o] 155::R) K:=by
 refine aH Tryz.func346 ?_
 repeat' (first|refine v23 ?_|refine wr ?_|refine w5 ?_ ?_|((refine bh fun h=>?_) <;> try exact w6 h)|(refine aE fun hA=>?_;subst hA)|intro _)
 all_goals(refine aC ?_;exact aB (kb hK (by simp[*] <;> omega)))
theorem Pg {w st o:Int} (hw:0≤w∧w≤20) (hK:K (.tuple #[.int .i64 (lH w o),.int .i64 0]) R):aA Tryz.prog 264 #[.agg #[.int .i64 w,.int .i64 st,.int .i64 o]] R K:=by
 have ht:=LE hw
 by_cases hc:w=0∧0<o∧o≤12
 ·unfold lH at hK
  rw[if_pos hc] at hK
  obtain⟨c1,c2,c3⟩:=hc
  refine aH Tryz.func264 ?_
  repeat' (first|refine Yq ?_|refine wr ?_|refine w5 ?_ ?_|((refine bh fun h=>?_) <;> try exact w6 h)|(refine aE fun hA=>?_;subst hA)|intro _|(show aA _ 345 _ _ _;refine CA (h:=MA hw ?_))|(show aA _ 346 _ _ _;refine CA (h:=J2 ?_)))
  all_goals(refine aC ?_;exact aB (hK))
 ·unfold lH at hK
  rw[if_neg hc] at hK
  have hc2:w≠0∨o≤0∨12<o:=by omega
  refine aH Tryz.func264 ?_
  repeat' (first|refine Yq ?_|refine wr ?_|refine w5 ?_ ?_|((refine bh fun h=>?_) <;> try exact w6 h)|(refine aE fun hA=>?_;subst hA)|intro _|(show aA _ 345 _ _ _;refine CA (h:=MA hw ?_))|(show aA _ 346 _ _ _;refine CA (h:=J2 ?_)))
  all_goals(refine aC ?_;exact aB (hK))
theorem wL {w st o:Int} (hw:0≤w∧w≤20) (hK:K (.bool (Sg w)) R):aA Tryz.prog 265 #[.agg #[.int .i64 w,.int .i64 st,.int .i64 o]] R K:=by
 have ht:=LE hw
 refine aH Tryz.func265 ?_
 repeat' (first|refine v82 ?_|refine wr ?_|refine w5 ?_ ?_|((refine bh fun h=>?_) <;> try exact w6 h)|(refine aE fun hA=>?_;subst hA)|intro _|(show aA _ 345 _ _ _;refine CA (h:=MA hw ?_)))
 all_goals(refine aC ?_;exact aB (hK))
theorem OD {n l:Int} (hK:K (.bool (decide (l≤n) && decide (n≤2147483647))) R):aA Tryz.prog 266 #[.int .i64 n,.int .i64 l] R K:=by
 refine aH Tryz.func266 ?_
 repeat' (first|refine v1 ?_|refine wr ?_|refine w5 ?_ ?_|((refine bh fun h=>?_) <;> try exact w6 h)|(refine aE fun hA=>?_;subst hA)|intro _)
 all_goals(refine aC ?_;exact aB (kb hK (by simp[*] <;> omega)))
theorem Aef {w st o last:Int} (hw:0≤w∧w≤20) (hb1:Sg w=true) (hb2:0≤last∧last≤2147483647) (hK:K (.tuple #[.agg #[.int .i64 9,.int .i64 0,.bool false,.string ⟨#[]⟩,.int .i64 0,.int .i64 0,.int .i64 0,.bool false,.int .i64 (lH w o),.int .i64 last,.int .i64 0,.slice none 0 0],.int .i64 0]) R):aA Tryz.prog 172 #[.agg #[.int .i64 w,.int .i64 st,.int .i64 o],.int .i64 last] R K:=by
 refine aH Tryz.func172 ?_
 repeat' (first|refine Gw ?_|refine wr ?_|refine w5 ?_ ?_|((refine bh fun h=>?_) <;> try exact w6 h)|(refine aE fun hA=>?_;subst hA)|intro _|(show aA _ 264 _ _ _;refine CA (h:=Pg hw ?_))|(show aA _ 265 _ _ _;refine CA (h:=wL hw ?_))|(show aA _ 266 _ _ _;refine CA (h:=OD ?_)))
 all_goals(refine aC ?_;exact aB (hK))
theorem Uk {w st o last:Int} (hw:0≤w∧w≤20) (hb1:Sg w=false) (hb2:1≤st∧st≤2147483647) (hK:K (.tuple #[.agg #[.int .i64 4,.int .i64 st,.bool false,.string ⟨#[]⟩,.int .i64 0,.int .i64 0,.int .i64 0,.bool false,.int .i64 (lH w o),.int .i64 0,.int .i64 0,.slice none 0 0],.int .i64 0]) R):aA Tryz.prog 172 #[.agg #[.int .i64 w,.int .i64 st,.int .i64 o],.int .i64 last] R K:=by
 refine aH Tryz.func172 ?_
 repeat' (first|refine Gw ?_|refine wr ?_|refine w5 ?_ ?_|((refine bh fun h=>?_) <;> try exact w6 h)|(refine aE fun hA=>?_;subst hA)|intro _|(show aA _ 264 _ _ _;refine CA (h:=Pg hw ?_))|(show aA _ 265 _ _ _;refine CA (h:=wL hw ?_))|(show aA _ 266 _ _ _;refine CA (h:=OD ?_)))
 all_goals(refine aC ?_;exact aB (hK))
end
section
abbrev eN (s:eJ) (j:Int):Prop:=dR j s.1=true
abbrev pP (s:eJ) (j:Int):Int:=(cZ j s).on
section
variable {id j on w low:Int} {s:eJ} {x:Bool} {r:Int→Nat}
theorem Ai1 (hr:RS r s) (h:Qu (eN s) (pP s) id low):∀(kk:Nat) (seen:List Int),seen.length+kk=s.1.length→seen.Nodup→(∀z∈seen,z∈s.1.map KE.k∧r low<r z)→rK id s (kk+1) low=true:=by
 induction h with
 |base h1 h2=>
  intro kk seen _ _ _
  unfold rK
  rw[if_pos h1,if_pos h2]
 |step h1 h2 ih=>
  rename_i lw
  intro kk seen hk hnd hse
  unfold rK
  rw[if_pos h1]
  split
  ·rfl
  ·have hns:lw ∉ seen:=fun hm=>by have:=(hse lw hm).2;omega
   have hlen:(lw::seen).length≤(s.1.map KE.k).length:=List.Nodup.length_le_of_subset (List.nodup_cons.2 ⟨hns,hnd⟩) (fun z hz=>by
    rcases List.mem_cons.1 hz with rfl|hz
    ·exact w9 h1
    ·exact(hse z hz).1)
   rw[List.length_map,List.length_cons] at hlen
   obtain⟨k1,rfl⟩:∃k1,kk=k1+1:=⟨kk - 1,by omega⟩
   have h3:=hr lw h1 (xL h2)
   refine ih k1 (lw::seen) (by rw[List.length_cons];omega) (List.nodup_cons.2 ⟨hns,hnd⟩) fun z hz=>?_
   rcases List.mem_cons.1 hz with rfl|hz
   ·exact⟨w9 h1,h3⟩
   ·exact⟨(hse z hz).1,Nat.lt_trans h3 (hse z hz).2⟩
theorem Rk:∀ {n:Nat} {low:Int},rK id s n low=true→Qu (eN s) (pP s) id low
 |0,_,h=>by cases h
 |n+1,low,h=>by
  unfold rK at h
  split at h
  ·rename_i hh
   split at h
   ·rename_i ho;exact .base hh ho
   ·exact .step hh (Rk h)
  ·cases h
theorem Ajs (hr:RS r s) (h:rK id s (s.1.length+1) low=false):¬Qu (eN s) (pP s) id low:=fun hu=>by
 rw[Ai1 hr hu s.1.length [] (by simp) List.nodup_nil (fun z hz=>by cases hz)] at h
 cases h
theorem dN {n:Nd}:eN (eU id n s) j↔j=id∨eN s j:=by
 unfold eN;rw[Ae3];simp
theorem t7 {n:Nd}:pP (eU id n s) j=if j=id then n.on else pP s j:=by
 unfold pP;rw[Iv];split <;> rfl
theorem Og {n:Nd}:(cZ j (eU id n s)).w=if j=id then n.w else(cZ j s).w:=by
 rw[Iv];split <;> rfl
theorem Do:∀ {ks:List Int} {s:eJ},(∀k∈ks,eN s k)→Qp s.1 s.2→Ni s→(∀j,eN (hZ id ks s) j↔eN s j)∧(∀j,pP (hZ id ks s) j=if j∈ks∧j≠id then id else pP s j)∧(∀j,(cZ j (hZ id ks s)).w=(cZ j s).w)∧Qp (hZ id ks s).1 (hZ id ks s).2∧Ni (hZ id ks s)∧(hZ id ks s).1.length=s.1.length
 | [],s,_,h1,h2=>⟨fun j=>Iff.rfl,fun j=>by rw[if_neg (by simp)];rfl,fun j=>rfl,h1,h2,rfl⟩
 |k::ks,s,hk,h1,h2=>by
  unfold hZ
  by_cases hki:k=id
  ·rw[if_pos hki]
   obtain⟨a1,a2,a3,a4,a5,a6⟩:=Do (ks:=ks) (s:=s) (fun z hz=>hk z (List.mem_cons_of_mem _ hz)) h1 h2
   refine⟨a1,fun j=>?_,a3,a4,a5,a6⟩
   rw[a2 j]
   by_cases hj:j∈ks∧j≠id
   ·rw[if_pos hj,if_pos ⟨List.mem_cons_of_mem _ hj.1,hj.2⟩]
   ·rw[if_neg hj,if_neg (fun h=>hj ⟨(List.mem_cons.1 h.1).resolve_left (fun e=>h.2 (e.trans hki)),h.2⟩)]
  ·rw[if_neg hki]
   have hkk:=hk k (List.mem_cons_self ..)
   obtain⟨a1,a2,a3,a4,a5,a6⟩:=Do (ks:=ks) (s:=iE k id s) (fun z hz=>dN.2 (.inr (hk z (List.mem_cons_of_mem _ hz)))) (Ed h1) (H8 h2)
   refine⟨fun j=>(a1 j).trans (dN.trans ⟨fun h=>h.elim (fun e=>by rw[e];exact hkk) (fun h=>h),.inr⟩),fun j=>?_,fun j=>?_,a4,a5,a6.trans (M9 hkk)⟩
   ·rw[a2 j]
    unfold iE
    rw[t7]
    by_cases hj:j∈ks∧j≠id
    ·rw[if_pos hj,if_pos ⟨List.mem_cons_of_mem _ hj.1,hj.2⟩]
    ·rw[if_neg hj]
     by_cases hjk:j=k
     ·rw[if_pos hjk,if_pos ⟨by rw[hjk];exact List.mem_cons_self ..,by rw[hjk];exact hki⟩]
     ·rw[if_neg hjk,if_neg (fun h=>hj ⟨(List.mem_cons.1 h.1).resolve_left hjk,h.2⟩)]
   ·rw[a3 j]
    unfold iE
    rw[Og]
    split
    ·rename_i e;rw[e]
    ·rfl
theorem wF (h:Ni s) {k:Int}:k∈bZ id s.1↔eN s k∧pP s k=id:=by
 refine⟨fun hk=>kF h hk,fun hk=>?_⟩
 obtain⟨h1,h2⟩:=hk
 unfold bZ
 rw[Av]
 have hm:=w9 h1
 obtain⟨e,he,hek⟩:=List.mem_map.1 hm
 refine List.mem_map.2 ⟨e,List.mem_filter.2 ⟨he,?_⟩,hek⟩
 have hg:=Ly h he
 rw[hek] at hg
 unfold pP cZ at h2
 rw[hg] at h2
 exact decide_eq_true h2
theorem AN (h:Lu s) (hi:1≤id∧id≤2147483647) (hon:on=0∨eN s on) (hne:on≠id) (hu:¬Qu (eN s) (pP s) id on) (hw:1≤w∧w≤256) (hl:eN s id∨s.1.length<64):Lu (pJ id on w x s):=by
 obtain⟨r,hr⟩:=h.rk
 have hz:∀j,eN s j→j≠0:=fun j hj=>by have:=(h.ky j hj).1;omega
 obtain⟨r1,hr1⟩:∃r':Int→Nat,∀j,eN (eU id ⟨on,w⟩ s) j→eN (eU id ⟨on,w⟩ s) (pP (eU id ⟨on,w⟩ s) j)→r' (pP (eU id ⟨on,w⟩ s) j)<r' j:=by
  refine Abt (k:=id) (p:=on) hr hne hu (fun j hj=>dN.1 hj) (by rw[t7,if_pos rfl]) (fun j hj=>by rw[t7,if_neg hj]) fun j hj h1 h2=>?_
  have h1:=(dN.1 h1).resolve_left hj
  rcases dN.1 h2 with e|e
  ·rcases h.cl j h1 with e'|e'
   ·exact absurd (e.symm.trans e') (by omega)
   ·exact e'
  ·exact e
 have hcl:∀j,eN (eU id ⟨on,w⟩ s) j→pP (eU id ⟨on,w⟩ s) j=0∨eN (eU id ⟨on,w⟩ s) (pP (eU id ⟨on,w⟩ s) j):=fun j hj=>by
  rw[t7]
  by_cases hji:j=id
  ·rw[if_pos hji]
   exact hon.imp (fun e=>e) fun e=>dN.2 (.inr e)
  ·rw[if_neg hji]
   exact(h.cl j ((dN.1 hj).resolve_left hji)).imp (fun e=>e) fun e=>dN.2 (.inr e)
 have hlen:∀(t:eJ),t.1.length=s.1.length→(∀j,eN t j↔eN s j)→(eU id ⟨on,w⟩ t).1.length≤64:=fun t ht hh=>by
  rcases hl with e|e
  ·rw[M9 ((hh id).2 e),ht];exact h.len
  ·have:=HO (id:=id) (n:=⟨on,w⟩) (ck:=t.2) t.1
   show(s8 id ⟨on,w⟩ t.2 t.1).length≤64
   omega
 have hky:∀j,j=id∨eN s j→1≤j∧j≤2147483647:=fun j hj=>hj.elim (fun e=>by rw[e];exact hi) (h.ky j)
 cases x with
 |false=>
  show Lu (eU id ⟨on,w⟩ s)
  refine⟨Ed h.kok,H8 h.nd,hlen s rfl fun j=>Iff.rfl,fun j hj=>?_,fun j hj=>hky j (dN.1 hj),hcl,r1,hr1⟩
  rw[Og]
  split
  ·exact hw
  ·rename_i hji;exact h.w j ((dN.1 hj).resolve_left hji)
 |true=>
  show Lu (eU id ⟨on,w⟩ (hZ id (bZ on s.1) s))
  obtain⟨a1,a2,a3,a4,a5,a6⟩:=Do (id:=id) (ks:=bZ on s.1) (s:=s) (fun k hk=>((wF h.nd).1 hk).1) h.kok h.nd
  have b1:∀j,eN (eU id ⟨on,w⟩ (hZ id (bZ on s.1) s)) j↔eN (eU id ⟨on,w⟩ s) j:=fun j=>dN.trans ((or_congr Iff.rfl (a1 j)).trans dN.symm)
  have b2:∀j,eN (eU id ⟨on,w⟩ s) j→j≠id→pP (eU id ⟨on,w⟩ s) j=on→pP (eU id ⟨on,w⟩ (hZ id (bZ on s.1) s)) j=id:=fun j hj hji ho=>by
   rw[t7,if_neg hji] at ho ⊢
   rw[a2,if_pos ⟨(wF h.nd).2 ⟨(dN.1 hj).resolve_left hji,ho⟩,hji⟩]
  have b3:∀j,eN (eU id ⟨on,w⟩ s) j→(j=id∨pP (eU id ⟨on,w⟩ s) j≠on)→pP (eU id ⟨on,w⟩ (hZ id (bZ on s.1) s)) j=pP (eU id ⟨on,w⟩ s) j:=fun j hj ho=>by
   rw[t7,t7] at *
   by_cases hji:j=id
   ·rw[if_pos hji,if_pos hji]
   ·rw[if_neg hji] at ho ⊢
    rw[if_neg hji,a2,if_neg (fun hk=>((ho.resolve_left hji) ((wF h.nd).1 hk.1).2))]
  refine⟨Ed a4,H8 a5,hlen _ a6 a1,fun j hj=>?_,fun j hj=>hky j (dN.1 ((b1 j).1 hj)),fun j hj=>?_,?_⟩
  ·rw[Og]
   split
   ·exact hw
   ·rename_i hji
    rw[a3]
    exact h.w j ((dN.1 ((b1 j).1 hj)).resolve_left hji)
  ·have hj':=(b1 j).1 hj
   show pP _ j=0∨eN _ (pP _ j)
   by_cases hjo:j=id∨pP (eU id ⟨on,w⟩ s) j≠on
   ·rw[b3 j hj' hjo]
    exact(hcl j hj').imp (fun e=>e) fun e=>(b1 _).2 e
   ·rw[b2 j hj' (fun e=>hjo (.inl e)) (Classical.byContradiction fun e=>hjo (.inr e))]
    exact .inr (dN.2 (.inl rfl))
  ·refine V3 (id:=id) (q:=on) hr1 (by rw[t7,if_pos rfl]) ?_ hne (fun j hj=>(b1 j).1 hj) b2 b3
   rcases hon with e|e
   ·exact .inr fun j hj=>by
     have:=(hky j (dN.1 hj)).1
     omega
   ·exact .inl (dN.2 (.inr e))
theorem Agb (h:Lu s) (hu:Qu (eN s) (pP s) id low):id=0∨eN s id:=by
 induction hu with
 |base h1 h2=>rw[← h2];exact h.cl _ h1
 |step _ _ ih=>exact ih
theorem Ade (h:Lu s):Lu (mH id on w x 64 s):=by
 unfold mH
 split
 ·exact h
 ·rename_i he
  have he:l9 id on w 64 s=0:=Classical.byContradiction he
  unfold l9 at he
  split at he
  ·cases he
  ·rename_i h1
   split at he
   ·cases he
   ·rename_i h2
    split at he
    ·cases he
    ·rename_i h3
     split at he
     ·cases he
     ·rename_i h4
      have hmay:yP on w=true:=by simpa using fun hf=>h1 (.inr (.inr hf))
      unfold yP at hmay
      simp only[Bool.and_eq_true,decide_eq_true_eq] at hmay
      have hid:1≤id∧id≤2147483647:=by omega
      have hnu:∀low,¬Qu (eN s) (pP s) id low:=fun low hu=>(Agb h hu).elim (fun e=>by omega) h3
      split
      ·exact AN h hid (.inl rfl) (by omega) (hnu 0) ⟨hmay.1.2,hmay.2⟩ (.inr (by omega))
      ·rename_i h5
       refine AN h hid ?_ h2 (hnu on) ⟨hmay.1.2,hmay.2⟩ (.inr (by omega))
       unfold z7 at h5
       by_cases h0:on=0
       ·exact .inl h0
       ·right
        cases hh:dR on s.1
        ·exact absurd (by rw[hh];simp[h0]) h5
        ·exact hh
end
end
section
section
variable {id j on w low xw all:Int} {s:eJ} {x:Bool} {r:Int→Nat}
theorem Adv (h:Lu s):Lu (jZ id on w x s):=by
 unfold jZ
 split
 ·exact h
 ·rename_i he
  have he:o6 id on w s=0:=Classical.byContradiction he
  unfold o6 at he
  split at he
  ·cases he
  ·rename_i h1
   split at he
   ·cases he
   ·rename_i h2
    split at he
    ·cases he
    ·rename_i h3
     have hh:eN s id:=by cases hq:dR id s.1 <;> first|exact absurd hq h1|exact hq
     have hmay:yP on w=true:=by cases hq:yP on w <;> first|exact absurd hq h2|rfl
     unfold yP at hmay
     simp only[Bool.and_eq_true,decide_eq_true_eq] at hmay
     have hid:=h.ky id hh
     obtain⟨r,hr⟩:=h.rk
     have n0:¬eN s 0:=fun e=>by have:=(h.ky 0 e).1;omega
     have hn0:¬Qu (eN s) (pP s) id 0:=fun e=>n0 (xL e)
     have hab0:rK id s (s.1.length+1) 0=false:=by
      cases hq:rK id s (s.1.length+1) 0
      ·rfl
      ·exact absurd (Rk hq) hn0
     split
     ·rw[hab0,if_neg Bool.false_ne_true]
      exact AN h hid (.inl rfl) (by omega) hn0 ⟨hmay.1.2,hmay.2⟩ (.inl hh)
     ·rename_i h5
      have hon:on=0∨eN s on:=by
       unfold z7 at h5
       by_cases h0:on=0
       ·exact .inl h0
       ·right
        cases hq:dR on s.1
        ·exact absurd (by rw[hq];simp[h0]) h5
        ·exact hq
      cases hq:rK id s (s.1.length+1) on
      ·rw[if_neg Bool.false_ne_true]
       exact AN h hid hon h3 (Ajs hr hq) ⟨hmay.1.2,hmay.2⟩ (.inl hh)
      ·rw[if_pos rfl]
       have hu:=Rk hq
       have ho:=xL hu
       have hlt:=MZ hr hh hu
       have hko:=h.ky on ho
       have g:Lu (iE on (pP s id) s):=by
        refine AN (x:=false) h hko (h.cl id hh) (fun e=>?_) (fun e=>?_) (h.w on ho) (.inl ho)
        ·have:=hr id hh (by show eN s (pP s id);rw[e];exact ho)
         have e':(cZ id s).on=on:=e
         rw[e'] at this
         omega
        ·have h6:=MZ hr ho e
         have h7:=hr id hh (xL e)
         have e':pP s id=(cZ id s).on:=rfl
         rw[e'] at h6
         omega
       have hid':pP (iE on (pP s id) s) id=pP s id:=by
        unfold iE
        rw[t7,if_neg (fun e=>h3 e.symm)]
       have hon':pP (iE on (pP s id) s) on=pP s id:=by
        unfold iE
        rw[t7,if_pos rfl]
       have hh':eN (iE on (pP s id) s) id:=dN.2 (.inr hh)
       refine AN g hid (.inr (dN.2 (.inl rfl))) h3 (fun e=>?_) ⟨hmay.1.2,hmay.2⟩ (.inl hh')
       obtain⟨r',hr'⟩:=g.rk
       cases e with
       |base d1 d2=>
        rw[hon'] at d2
        have:=hr id hh (by show eN s (pP s id);rw[d2];exact hh)
        have e':(cZ id s).on=id:=d2
        rw[e'] at this
        omega
       |step d1 d2=>
        rw[hon'] at d2
        have h6:=MZ hr' hh' d2
        have h7:r' (pP (iE on (pP s id) s) id)<r' id:=hr' id hh' (by show eN _ (pP _ id);rw[hid'];exact xL d2)
        rw[hid'] at h7
        omega
theorem Aj7 (hw:1≤w∧w≤all) (hx:1≤xw∧xw≤256):1≤Ds w xw all∧Ds w xw all≤256:=by
 have h:w * xw / all≤xw:=Int.ediv_le_of_le_mul (by omega) (by rw[Int.mul_comm w xw];exact Int.mul_le_mul_of_nonneg_left hw.2 (by omega))
 unfold Ds
 omega
theorem MC (h:TrW s):∀ {ks:List Int},(∀k∈ks,eN s k)→∀k∈ks,(cZ k s).w≤oV s ks
 | [],_,k,hk=>by cases hk
 |z::ks,hh,k,hk=>by
  have h1:=hh z (List.mem_cons_self ..)
  have h2:=Hv h (l:=ks) fun y hy=>hh y (List.mem_cons_of_mem _ hy)
  unfold oV
  rcases List.mem_cons.1 hk with rfl|hk
  ·omega
  ·have h3:=MC h (fun y hy=>hh y (List.mem_cons_of_mem _ hy)) k hk
   have h4:=h z h1
   omega
theorem S4 (hx:1≤xw∧xw≤256):∀ {ks:List Int} {s:eJ},(∀k∈ks,eN s k)→ks.Nodup→(∀k∈ks,1≤(cZ k s).w∧(cZ k s).w≤all)→Qp s.1 s.2→Ni s→TrW s→(∀j,eN (o5 on xw all ks s) j↔eN s j)∧(∀j,pP (o5 on xw all ks s) j=if j∈ks then on else pP s j)∧TrW (o5 on xw all ks s)∧Qp (o5 on xw all ks s).1 (o5 on xw all ks s).2∧Ni (o5 on xw all ks s)∧(o5 on xw all ks s).1.length=s.1.length
 | [],s,_,_,_,h1,h2,h3=>⟨fun j=>Iff.rfl,fun j=>by rw[if_neg (by simp)];rfl,h3,h1,h2,rfl⟩
 |k::ks,s,hk,hn,hw,h1,h2,h3=>by
  unfold o5
  have hkk:=hk k (List.mem_cons_self ..)
  obtain⟨n1,n2⟩:=List.nodup_cons.1 hn
  have hsh:=Aj7 (hw k (List.mem_cons_self ..)) hx
  have hne:∀z∈ks,z≠k:=fun z hz e=>n1 (by rw[← e];exact hz)
  obtain⟨a1,a2,a3,a4,a5,a6⟩:=S4 hx (ks:=ks) (s:=eU k ⟨on,Ds (cZ k s).w xw all⟩ s) (fun z hz=>dN.2 (.inr (hk z (List.mem_cons_of_mem _ hz)))) n2 (fun z hz=>by rw[Og,if_neg (hne z hz)];exact hw z (List.mem_cons_of_mem _ hz)) (Ed h1) (H8 h2) (fun j hj=>by
   rw[Og]
   split
   ·exact hsh
   ·rename_i hjk;exact h3 j ((dN.1 hj).resolve_left hjk))
  refine⟨fun j=>(a1 j).trans (dN.trans ⟨fun h=>h.elim (fun e=>by rw[e];exact hkk) (fun h=>h),.inr⟩),fun j=>?_,a3,a4,a5,a6.trans (M9 hkk)⟩
  rw[a2 j,t7]
  by_cases hj:j∈ks
  ·rw[if_pos hj,if_pos (List.mem_cons_of_mem _ hj)]
  ·rw[if_neg hj]
   by_cases hjk:j=k
   ·rw[if_pos hjk,if_pos (by rw[hjk];exact List.mem_cons_self ..)]
   ·rw[if_neg hjk,if_neg (fun h=>(List.mem_cons.1 h).elim hjk hj)]
theorem Ac4 (h:Lu s):Lu (yQ id s):=by
 unfold yQ
 split
 ·rename_i hh
  obtain⟨r,hr⟩:=h.rk
  have hks:∀k∈bZ id s.1,eN s k:=fun k hk=>((wF h.nd).1 hk).1
  obtain⟨a1,a2,a3,a4,a5,a6⟩:=S4 (on:=(cZ id s).on) (all:=oV s (bZ id s.1)) (h.w id hh) hks (AG h.nd) (fun k hk=>⟨(h.w k (hks k hk)).1,MC h.w hks k hk⟩) h.kok h.nd h.w
  generalize o5 (cZ id s).on (cZ id s).w (oV s (bZ id s.1)) (bZ id s.1) s=t at a1 a2 a3 a4 a5 a6 ⊢
  have b1:∀j,eN (mD id t.1,t.2) j↔j≠id∧eN s j:=fun j=>by
   rw[← a1 j]
   unfold eN dR
   show(f6 j (mD id t.1)).isSome=true↔_
   rw[Da a5]
   by_cases hj:j=id
   ·rw[if_pos hj];simp[hj]
   ·rw[if_neg hj];simp[hj]
  have b2:∀j,j≠id→cZ j (mD id t.1,t.2)=cZ j t:=fun j hj=>by
   unfold cZ
   show(f6 j (mD id t.1)).getD _=_
   rw[Da a5,if_neg hj]
  have b3:∀j,eN (mD id t.1,t.2) j→pP (mD id t.1,t.2) j=if pP s j=id then pP s id else pP s j:=fun j hj=>by
   have hj':=(b1 j).1 hj
   unfold pP
   rw[b2 j hj'.1]
   have:=a2 j
   unfold pP at this
   rw[this]
   by_cases hk:(cZ j s).on=id
   ·rw[if_pos hk,if_pos ((wF h.nd).2 ⟨hj'.2,hk⟩)]
   ·rw[if_neg hk,if_neg (fun e=>hk ((wF h.nd).1 e).2)]
  have hne:pP s id≠id:=fun e=>by
   have e':(cZ id s).on=id:=e
   have:=hr id hh (by rw[e'];exact hh)
   rw[e'] at this
   omega
  refine⟨⟨List.Nodup.sublist Abp a4.1,fun e he=>a4.2 e (J8 he)⟩,List.Nodup.sublist E6 a5,?_,fun j hj=>?_,fun j hj=>h.ky j ((b1 j).1 hj).2,fun j hj=>?_,r,fun j hj hp=>?_⟩
  ·have:=Z8 (id:=id) (l:=t.1)
   have:=h.len
   show(mD id t.1).length≤64
   omega
  ·have hj':=(b1 j).1 hj
   rw[b2 j hj'.1]
   exact a3 j ((a1 j).2 hj'.2)
  ·have hj':=(b1 j).1 hj
   show pP _ j=0∨eN _ (pP _ j)
   rw[b3 j hj]
   by_cases hk:pP s j=id
   ·rw[if_pos hk]
    exact(h.cl id hh).imp (fun e=>e) fun e=>(b1 _).2 ⟨hne,e⟩
   ·rw[if_neg hk]
    exact(h.cl j hj'.2).imp (fun e=>e) fun e=>(b1 _).2 ⟨hk,e⟩
  ·have hj':=(b1 j).1 hj
   change r (pP (mD id t.1,t.2) j)<r j
   have hp:eN (mD id t.1,t.2) (pP (mD id t.1,t.2) j):=hp
   rw[b3 j hj] at hp ⊢
   by_cases hk:pP s j=id
   ·rw[if_pos hk] at hp ⊢
    have h1:=hr j hj'.2 (by show eN s (pP s j);rw[hk];exact hh)
    have h2:=hr id hh ((b1 _).1 hp).2
    have e':(cZ j s).on=id:=hk
    rw[e'] at h1
    exact Nat.lt_trans h2 h1
   ·rw[if_neg hk] at hp ⊢
    exact hr j hj'.2 ((b1 _).1 hp).2
 ·exact h
end
end
end Go.Proofs.YtifgibijcmppmaaGreat
