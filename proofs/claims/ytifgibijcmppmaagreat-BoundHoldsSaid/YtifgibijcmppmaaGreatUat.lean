/- A part of the proof: lemmas; each with the conditions that it states. -/
import Derived.Test.YtifgibijcmppmaaGreatUaf
set_option linter.unusedVariables false
set_option linter.unusedSimpArgs false
set_option maxRecDepth 100000
set_option maxHeartbeats 40000000
namespace Go.Proofs.YtifgibijcmppmaaGreat
open Go Go.Proofs Go.Sl
attribute [local irreducible] aN fN cX bP aM aX aA dS dV aT dU pt ro eV star sep bH
section
variable {R C:List HP} {K:KP}
def YA (sd id:Int):Bool:=decide (1≤id) && decide (id≤2147483647) && (decide (id % 2=1) == decide (sd=0))
def pV (sd la id:Int):Int:=if YA (1 - sd) id=true∧la<id then 0 else 1
def oJ (sd nx la id:Int):Bool:=decide (1≤id) && decide (id≤2147483647) && (if YA sd id=true then decide (id<nx) else decide (id≤la))
section
variable {sd nx la id:Int} {p r:Nat}
theorem Ya (h:1≤id) (hK:K (.bool (decide (id % 2=1))) (pt r [I6 id] 3::R)):CT 388 #[PO r] (pt r [I6 id] 3::R) K:=by
 refine aH Tryz.func388 ?_
 repeat' (first|refine v27 ?_|refine w5 ?_ ?_|((refine bh fun h=>?_) <;> try exact w6 h)|(refine aE fun hA=>?_;subst hA)|intro _)
 all_goals(refine aC ?_;exact aB (kb hK (by simp)))
theorem Ei (hK:K (.bool (YA sd id)) R):CT 339 #[I6 sd,I6 id] R K:=by
 by_cases hr:1≤id∧id≤2147483647
 ·refine aH Tryz.func339 ?_
  repeat' (first|refine v26 ?_|refine w5 ?_ ?_|((refine bh fun h=>?_) <;> try exact w6 h)|(refine aE fun hA=>?_;subst hA)|intro _|(show aA _ 388 _ _ _;refine CA (h:=Ya (by omega) ?_)))
  all_goals(refine aC ?_;exact aB (kb hK (by unfold YA;rw[show(sd == 0)=decide (sd=0) from by cases hq:(sd == 0) <;> simp_all];simp[hr.1,hr.2])))
 ·refine aH Tryz.func339 ?_
  repeat' (first|refine v26 ?_|refine w5 ?_ ?_|((refine bh fun h=>?_) <;> try exact w6 h)|(refine aE fun hA=>?_;subst hA)|intro _)
  all_goals(refine aC ?_;exact aB (kb hK (by unfold YA;simp;omega)))
theorem Ia (hK:K (.bool (YA sd id)) (pt p [I6 sd,I6 nx,I6 la] 218::R)):CT 309 #[PO p,I6 id] (pt p [I6 sd,I6 nx,I6 la] 218::R) K:=by
 refine aH Tryz.func309 ?_
 repeat' (first|refine v48 ?_|refine w5 ?_ ?_|((refine bh fun h=>?_) <;> try exact w6 h)|(refine aE fun hA=>?_;subst hA)|intro _|(show aA _ 339 _ _ _;refine CA (h:=Ei ?_)))
 all_goals(refine aC ?_;exact aB (hK))
theorem C6 (hK:K (.bool (oJ sd nx la id)) (pt p [I6 sd,I6 nx,I6 la] 218::R)):CT 218 #[PO p,I6 id] (pt p [I6 sd,I6 nx,I6 la] 218::R) K:=by
 cases ho:YA sd id
 ·refine aH Tryz.func218 ?_
  repeat' (first|refine Jm ?_|refine w5 ?_ ?_|((refine bh fun h=>?_) <;> try exact w6 h)|(refine aE fun hA=>?_;subst hA)|intro _|(show aA _ 309 _ _ _;refine CA (h:=Ia ?_);rw[ho]))
  all_goals(refine aC ?_;exact aB (kb hK (by unfold oJ;simp[ho] <;> omega)))
 ·refine aH Tryz.func218 ?_
  repeat' (first|refine Jm ?_|refine w5 ?_ ?_|((refine bh fun h=>?_) <;> try exact w6 h)|(refine aE fun hA=>?_;subst hA)|intro _|(show aA _ 309 _ _ _;refine CA (h:=Ia ?_);rw[ho]))
  all_goals(refine aC ?_;exact aB (kb hK (by unfold oJ;simp[ho] <;> omega)))
theorem lL (hK:K (I6 nx) (pt p [I6 sd,I6 nx,I6 la] 218::R)):CT 110 #[PO p] (pt p [I6 sd,I6 nx,I6 la] 218::R) K:=by
 refine aH Tryz.func110 ?_
 repeat' (first|refine v4 ?_|refine w5 ?_ ?_|((refine bh fun h=>?_) <;> try exact w6 h)|(refine aE fun hA=>?_;subst hA)|intro _)
 all_goals(refine aC ?_;exact aB (hK))
theorem C3 (hK:K (I6 la) (pt p [I6 sd,I6 nx,I6 la] 218::R)):CT 173 #[PO p] (pt p [I6 sd,I6 nx,I6 la] 218::R) K:=by
 refine aH Tryz.func173 ?_
 repeat' (first|refine v4 ?_|refine w5 ?_ ?_|((refine bh fun h=>?_) <;> try exact w6 h)|(refine aE fun hA=>?_;subst hA)|intro _)
 all_goals(refine aC ?_;exact aB (hK))
theorem XV (h:nx≤2147483647) (h1:0≤nx) (hK:K (.tuple #[I6 (nx+2 - 2),I6 0]) (pt p [I6 sd,I6 (nx+2),I6 la] 218::R)):CT 114 #[PO p] (pt p [I6 sd,I6 nx,I6 la] 218::R) K:=by
 refine aH Tryz.func114 ?_
 repeat' (first|refine v33 ?_|refine w5 ?_ ?_|((refine bh fun h=>?_) <;> try exact w6 h)|(refine aE fun hA=>?_;subst hA)|intro _)
 all_goals(refine aC ?_;exact aB (hK))
theorem uJ (hs:sd=0∨sd=1) (hK:K (I6 (pV sd la id)) (pt p [I6 sd,I6 nx,I6 (if pV sd la id=0 then id else la)] 218::R)):CT 255 #[PO p,I6 id] (pt p [I6 sd,I6 nx,I6 la] 218::R) K:=by
 cases ho:YA (1 - sd) id
 ·have e:pV sd la id=1:=by unfold pV;rw[ho];simp
  rw[e,if_neg (by decide)] at hK
  refine aH Tryz.func255 ?_
  repeat' (first|refine MA ?_|refine w5 ?_ ?_|((refine bh fun h=>?_) <;> try exact w6 h)|(refine aE fun hA=>?_;subst hA)|intro _|(show aA _ 339 _ _ _;refine CA (h:=Ei ?_);rw[ho]))
  all_goals(refine aC ?_;exact aB (hK))
 ·by_cases hl:la<id
  ·have e:pV sd la id=0:=by unfold pV;rw[ho];simp[hl]
   rw[e,if_pos rfl] at hK
   refine aH Tryz.func255 ?_
   repeat' (first|refine MA ?_|refine w5 ?_ ?_|((refine bh fun h=>?_) <;> try exact w6 h)|(refine aE fun hA=>?_;subst hA)|intro _|(show aA _ 339 _ _ _;refine CA (h:=Ei ?_);rw[ho]))
   all_goals(refine aC ?_;exact aB (hK))
  ·have e:pV sd la id=1:=by unfold pV;rw[ho];simp[hl]
   rw[e,if_neg (by decide)] at hK
   refine aH Tryz.func255 ?_
   repeat' (first|refine MA ?_|refine w5 ?_ ?_|((refine bh fun h=>?_) <;> try exact w6 h)|(refine aE fun hA=>?_;subst hA)|intro _|(show aA _ 339 _ _ _;refine CA (h:=Ei ?_);rw[ho]))
   all_goals(refine aC ?_;exact aB (hK))
end
structure Dr where
 se:Bool
 go:Bool
 ov:Bool
 la:Int
 th:Int
 co:Int
def pL (n least:Int):Bool:=decide (least≤n) && decide (n≤2147483647)
def GF (d:Dr) (la:Int):Int:=if d.ov=true then 14 else if pL la 0=false then 2 else if d.se=true then 11 else 0
def FA (d:Dr) (la:Int):Dr:=if GF d la=0 then⟨true,d.go,d.ov,la,d.th,d.co⟩ else d
def Mx (d:Dr) (la co:Int):Int:=if d.ov=true then 14 else if pL la 0=false∨pL co 0=false then 2 else if co≠0 then 0 else if d.go=true∧d.th≤la then 11 else 0
def oU (d:Dr) (la co:Int):Dr:=if Mx d la co≠0 then d else if co≠0 then⟨d.se,d.go,true,d.la,d.th,co⟩ else⟨d.se,true,d.ov,d.la,la,d.co⟩
def GC (d:Dr) (co:Int):Int:=if d.ov=true then 14 else if pL co 1=false then 2 else 0
def CJ (d:Dr) (co:Int):Dr:=if GC d co=0 then⟨d.se,d.go,true,d.la,d.th,co⟩ else d
def Ke (d:Dr):Bool:=!d.ov && !d.se && !d.go
def D3 (d:Dr) (id:Int):Bool:=!d.ov && (!d.se || decide (id≤d.la))
def Ln (d:Dr) (id:Int):Bool:=d.go && decide (d.th<id)
def zO (d:Dr) (n:Int):Dr:=if d.ov=false∧(d.se=true∨d.go=true)∧n≤0 then⟨d.se,d.go,true,d.la,d.th,0⟩ else d
section
variable {p:Nat} {se go ov:Bool} {la th co n id:Int}
theorem vJ {least:Int} (hK:K (.bool (pL n least)) R):CT 267 #[I6 n,I6 least] R K:=by
 refine aH Tryz.func267 ?_
 repeat' (first|refine v1 ?_|refine w5 ?_ ?_|((refine bh fun h=>?_) <;> try exact w6 h)|(refine aE fun hA=>?_;subst hA)|intro _)
 all_goals(refine aC ?_;exact aB (kb hK (by unfold pL;simp <;> omega)))
theorem lU (hK:K (I6 0) (pt p [.bool se,.bool go,.bool false,I6 la,I6 th,I6 co] 213::R)):CT 199 #[PO p] (pt p [.bool se,.bool go,.bool false,I6 la,I6 th,I6 co] 213::R) K:=by
 refine aH Tryz.func199 ?_
 repeat' (first|refine v4 ?_|refine w5 ?_ ?_|((refine bh fun h=>?_) <;> try exact w6 h)|(refine aE fun hA=>?_;subst hA)|intro _)
 all_goals(refine aC ?_;exact aB (hK))
theorem lR (hK:K (I6 14) (pt p [.bool se,.bool go,.bool true,I6 la,I6 th,I6 co] 213::R)):CT 199 #[PO p] (pt p [.bool se,.bool go,.bool true,I6 la,I6 th,I6 co] 213::R) K:=by
 refine aH Tryz.func199 ?_
 repeat' (first|refine v4 ?_|refine w5 ?_ ?_|((refine bh fun h=>?_) <;> try exact w6 h)|(refine aE fun hA=>?_;subst hA)|intro _)
 all_goals(refine aC ?_;exact aB (hK))
def Ez:List (Nat×Nat):= [(0,0),(1,0),(2,0),(3,0),(4,0),(5,0),(6,0),(7,0),(8,0),(9,0)]
theorem X3 (hK:K (.tuple #[.bool ov,I6 co]) (pt p [.bool se,.bool go,.bool ov,I6 la,I6 th,I6 co] 213::R)):CT 82 #[PO p] (pt p [.bool se,.bool go,.bool ov,I6 la,I6 th,I6 co] 213::R) K:=by
 refine aH Tryz.func82 ?_
 repeat' (first|refine v4 ?_|refine dw Ez ?_|refine w5 ?_ ?_|((refine bh fun h=>?_) <;> try exact w6 h)|(refine aE fun hA=>?_;subst hA)|intro _)
 all_goals(refine aC ?_;exact aB (hK))
theorem Er (hK:K (.tuple #[]) (pt p [.bool se,.bool go,.bool true,I6 la,I6 th,I6 n] 213::R)):CT 200 #[PO p,I6 n] (pt p [.bool se,.bool go,.bool ov,I6 la,I6 th,I6 co] 213::R) K:=by
 refine aH Tryz.func200 ?_
 repeat' (first|refine v13 ?_|refine w5 ?_ ?_|((refine bh fun h=>?_) <;> try exact w6 h)|(refine aE fun hA=>?_;subst hA)|intro _)
 all_goals(refine aC ?_;exact aB (hK))
end
end
section
variable {R C:List HP} {K:KP}
def Da (p:Nat) (d:Dr):HP:=pt p [.bool d.se,.bool d.go,.bool d.ov,I6 d.la,I6 d.th,I6 d.co] 213
section
variable {p:Nat} {d:Dr} {la co n id:Int}
theorem O7 (hK:K (.tuple #[.bool d.ov,I6 d.co]) (Da p d::R)):CT 82 #[PO p] (Da p d::R) K:=X3 hK
theorem YJ (hK:K (I6 (GF d la)) (Da p (FA d la)::R)):CT 202 #[PO p,I6 la] (Da p d::R) K:=by
 obtain⟨se,go,ov,ll,th,cc⟩:=d
 cases ov <;> cases hn:pL la 0 <;> cases se <;> simp only[Da,FA,GF,hn,if_true,if_false,Bool.false_eq_true,reduceCtorEq,Int.reduceEq] at hK ⊢
 all_goals
  refine aH Tryz.func202 ?_
  repeat' (first|refine v48 ?_|refine w5 ?_ ?_|((refine bh fun h=>?_) <;> try exact w6 h)|(refine aE fun hA=>?_;subst hA)|intro _|(show aA _ 199 _ _ _;first|refine CA (h:=lU ?_)|refine CA (h:=lR ?_))|(show aA _ 267 _ _ _;refine CA (h:=vJ ?_);rw[hn]))
  all_goals(refine aC ?_;exact aB (hK))
theorem Va (hK:K (I6 (Mx d la co)) (Da p (oU d la co)::R)):CT 252 #[PO p,I6 la,I6 co] (Da p d::R) K:=by
 obtain⟨se,go,ov,ll,th,cc⟩:=d
 by_cases hc:co=0
 ·subst hc
  have hm:pL 0 0=true:=by decide
  cases ov <;> cases hn:pL la 0 <;> cases go <;> by_cases ht:th≤la <;> simp only[Da,oU,Mx,hn,hm,ht,if_true,if_false,Bool.false_eq_true,reduceCtorEq,Int.reduceEq,or_true,or_false,true_or,false_or,true_and,false_and,and_true,and_false,ne_eq,not_true_eq_false,not_false_eq_true,Int.reduceNeg] at hK ⊢
  all_goals
   refine aH Tryz.func252 ?_
   repeat' (first|refine v48 ?_|refine w5 ?_ ?_|((refine bh fun h=>?_) <;> try exact w6 h)|(refine aE fun hA=>?_;subst hA)|intro _|(show aA _ 199 _ _ _;first|refine CA (h:=lU ?_)|refine CA (h:=lR ?_))|(show aA _ 267 _ _ _;refine CA (h:=vJ ?_);first|rw[hn]|rw[hm])|(show aA _ 200 _ _ _;refine CA (h:=Er ?_)))
   all_goals(refine aC ?_;exact aB (hK))
 ·cases ov <;> cases hn:pL la 0 <;> cases hm:pL co 0 <;> simp only[Da,oU,Mx,hn,hm,hc,if_true,if_false,Bool.false_eq_true,reduceCtorEq,Int.reduceEq,or_true,or_false,true_or,false_or,true_and,false_and,and_true,and_false,ne_eq,not_true_eq_false,not_false_eq_true,Int.reduceNeg] at hK ⊢
  all_goals
   refine aH Tryz.func252 ?_
   repeat' (first|refine v48 ?_|refine w5 ?_ ?_|((refine bh fun h=>?_) <;> try exact w6 h)|(refine aE fun hA=>?_;subst hA)|intro _|(show aA _ 199 _ _ _;first|refine CA (h:=lU ?_)|refine CA (h:=lR ?_))|(show aA _ 267 _ _ _;refine CA (h:=vJ ?_);first|rw[hn]|rw[hm])|(show aA _ 200 _ _ _;refine CA (h:=Er ?_)))
   all_goals(refine aC ?_;exact aB (hK))
theorem Ac3 (hK:K (I6 (GC d co)) (Da p (CJ d co)::R)):CT 174 #[PO p,I6 co] (Da p d::R) K:=by
 obtain⟨se,go,ov,ll,th,cc⟩:=d
 cases ov <;> cases hn:pL co 1 <;> simp only[Da,CJ,GC,hn,if_true,if_false,Bool.false_eq_true,reduceCtorEq,Int.reduceEq] at hK ⊢
 all_goals
  refine aH Tryz.func174 ?_
  repeat' (first|refine v21 ?_|refine w5 ?_ ?_|((refine bh fun h=>?_) <;> try exact w6 h)|(refine aE fun hA=>?_;subst hA)|intro _|(show aA _ 199 _ _ _;first|refine CA (h:=lU ?_)|refine CA (h:=lR ?_))|(show aA _ 267 _ _ _;refine CA (h:=vJ ?_);rw[hn])|(show aA _ 200 _ _ _;refine CA (h:=Er ?_)))
  all_goals(refine aC ?_;exact aB (hK))
theorem Bm (hK:K (.bool (Ke d)) (Da p d::R)):CT 111 #[PO p] (Da p d::R) K:=by
 obtain⟨se,go,ov,ll,th,cc⟩:=d
 cases ov <;> cases se <;> cases go <;> simp only[Da,Ke,Bool.not_true,Bool.not_false,Bool.and_true,Bool.and_false,Bool.true_and,Bool.false_and] at hK ⊢
 all_goals
  refine aH Tryz.func111 ?_
  repeat' (first|refine Jm ?_|refine w5 ?_ ?_|((refine bh fun h=>?_) <;> try exact w6 h)|(refine aE fun hA=>?_;subst hA)|intro _|(show aA _ 199 _ _ _;first|refine CA (h:=lU ?_)|refine CA (h:=lR ?_)))
  all_goals(refine aC ?_;exact aB (hK))
theorem Fa (hK:K (.bool (D3 d id)) (Da p d::R)):CT 256 #[PO p,I6 id] (Da p d::R) K:=by
 obtain⟨se,go,ov,ll,th,cc⟩:=d
 cases ov <;> cases se <;> simp only[Da,D3,Bool.not_true,Bool.not_false,Bool.and_true,Bool.and_false,Bool.true_and,Bool.false_and,Bool.true_or,Bool.false_or] at hK ⊢
 all_goals
  refine aH Tryz.func256 ?_
  repeat' (first|refine Jm ?_|refine w5 ?_ ?_|((refine bh fun h=>?_) <;> try exact w6 h)|(refine aE fun hA=>?_;subst hA)|intro _|(show aA _ 199 _ _ _;first|refine CA (h:=lU ?_)|refine CA (h:=lR ?_)))
  all_goals(refine aC ?_;exact aB (hK))
theorem UV (hK:K (.bool (Ln d id)) (Da p d::R)):CT 253 #[PO p,I6 id] (Da p d::R) K:=by
 obtain⟨se,go,ov,ll,th,cc⟩:=d
 cases go <;> simp only[Da,Ln,Bool.true_and,Bool.false_and] at hK ⊢
 all_goals
  refine aH Tryz.func253 ?_
  repeat' (first|refine v16 ?_|refine w5 ?_ ?_|((refine bh fun h=>?_) <;> try exact w6 h)|(refine aE fun hA=>?_;subst hA)|intro _)
  all_goals(refine aC ?_;exact aB (hK))
theorem Aav {r s:Nat} {se go ov:Bool} {ll th cc:Int} (hK:K (.bool ((se || go) && decide (n≤0))) (pt r [PO p] 112::pt s [I6 n] 3::pt p [.bool se,.bool go,.bool ov,I6 ll,I6 th,I6 cc] 213::R)):CT 198 #[PO r,PO s] (pt r [PO p] 112::pt s [I6 n] 3::pt p [.bool se,.bool go,.bool ov,I6 ll,I6 th,I6 cc] 213::R) K:=by
 cases se <;> cases go <;> simp only[Bool.true_and,Bool.false_and,Bool.true_or,Bool.false_or] at hK
 all_goals
  refine aH Tryz.func198 ?_
  repeat' (first|refine v16 ?_|refine w5 ?_ ?_|((refine bh fun h=>?_) <;> try exact w6 h)|(refine aE fun hA=>?_;subst hA)|intro _)
  all_goals(refine aC ?_;exact aB (hK))
theorem Pt (hK:K (.bool (zO d n).ov) (Da p (zO d n)::R)):CT 98 #[PO p,I6 n] (Da p d::R) K:=by
 obtain⟨se,go,ov,ll,th,cc⟩:=d
 cases ov <;> cases se <;> cases go <;> by_cases hn:n≤0 <;> simp only[Da,zO,hn,if_true,if_false,Bool.false_eq_true,reduceCtorEq,or_true,or_false,true_or,false_or,true_and,false_and,and_true,and_false] at hK ⊢
 all_goals
  refine aH Tryz.func98 ?_
  repeat' (first|refine v58 ?_|refine w5 ?_ ?_|((refine bh fun h=>?_) <;> try exact w6 h)|(refine aE fun hA=>?_;subst hA)|intro _|(show aA _ 199 _ _ _;first|refine CA (h:=lU ?_)|refine CA (h:=lR ?_))|(show aA _ 198 _ _ _;refine CA (h:=Aav ?_);simp only[hn,decide_true,decide_false,Bool.or_true,Bool.or_false,Bool.true_or,Bool.false_or,Bool.and_true,Bool.and_false,Bool.true_and,Bool.false_and])|(show aA _ 200 _ _ _;refine CA (h:=Er ?_)))
  all_goals(refine aC ?_;exact aB (hK))
end
end
end Go.Proofs.YtifgibijcmppmaaGreat
