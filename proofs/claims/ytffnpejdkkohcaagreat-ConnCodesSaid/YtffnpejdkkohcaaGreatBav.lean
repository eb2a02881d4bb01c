/- A part of the proof: lemmas; each with the conditions that it states. -/
import Derived.Test.YtffnpejdkkohcaaGreatBag
set_option linter.unusedVariables false
set_option linter.unusedSimpArgs false
set_option maxRecDepth 100000
set_option maxHeartbeats 40000000
namespace Go.Proofs.YtffnpejdkkohcaaGreat
open Go Go.Proofs Go.Sl
attribute [local irreducible] aM eY cU bQ aL aW aA dS dT aZ dR pt ro fN star sep bH
variable {R C:List HP} {K:KP} {sd nx id n:Int} {p r:Nat}
def Qm (sd id:Int):Bool:=decide (1<=id) && decide (id<=2147483647) && (decide (id % 2=1) == decide (sd=0))
def lH (sd la id:Int):Int:=if Qm (1 - sd) id=true/\la<id then 0 else 1
def jV (sd nx la id:Int):Bool:=decide (1<=id) && decide (id<=2147483647) && (if Qm sd id=true then decide (id<nx) else decide (id<=la))
section
variable {la:Int}
theorem UX (h:1<=id) (hK:K (.bool (decide (id % 2=1))) (pt r [I6 id] 3::R)):CT 323 #[PO r] (pt r [I6 id] 3::R) K:=by
 refine aJ Tryz.func323 ?_
 repeat' (first|refine v27 ?_|refine w5 ?_ ?_|((refine bh fun h=>?_) <;> try exact w6 h)|(refine aF fun hA=>?_;subst hA)|intro _)
 all_goals(refine aC ?_;exact aB (kb hK (by simp)))
theorem Dx (hK:K (.bool (Qm sd id)) R):CT 273 #[I6 sd,I6 id] R K:=by
 by_cases hr:1<=id/\id<=2147483647
 ·refine aJ Tryz.func273 ?_
  repeat' (first|refine v26 ?_|refine w5 ?_ ?_|((refine bh fun h=>?_) <;> try exact w6 h)|(refine aF fun hA=>?_;subst hA)|intro _|(show aA _ 323 _ _ _;refine CA (h:=UX (by omega) ?_)))
  all_goals(refine aC ?_;exact aB (kb hK (by unfold Qm;rw[show(sd == 0)=decide (sd=0) from by cases hq:(sd == 0) <;> simp_all];simp[hr.1,hr.2])))
 ·refine aJ Tryz.func273 ?_
  repeat' (first|refine v26 ?_|refine w5 ?_ ?_|((refine bh fun h=>?_) <;> try exact w6 h)|(refine aF fun hA=>?_;subst hA)|intro _)
  all_goals(refine aC ?_;exact aB (kb hK (by unfold Qm;simp;omega)))
theorem IG (hK:K (.bool (Qm sd id)) (pt p [I6 sd,I6 nx,I6 la] 164::R)):CT 245 #[PO p,I6 id] (pt p [I6 sd,I6 nx,I6 la] 164::R) K:=by
 refine aJ Tryz.func245 ?_
 repeat' (first|refine v48 ?_|refine w5 ?_ ?_|((refine bh fun h=>?_) <;> try exact w6 h)|(refine aF fun hA=>?_;subst hA)|intro _|(show aA _ 273 _ _ _;refine CA (h:=Dx ?_)))
 all_goals(refine aC ?_;exact aB (hK))
theorem Cu (hK:K (.bool (jV sd nx la id)) (pt p [I6 sd,I6 nx,I6 la] 164::R)):CT 162 #[PO p,I6 id] (pt p [I6 sd,I6 nx,I6 la] 164::R) K:=by
 cases ho:Qm sd id
 ·refine aJ Tryz.func162 ?_
  repeat' (first|refine I3 ?_|refine w5 ?_ ?_|((refine bh fun h=>?_) <;> try exact w6 h)|(refine aF fun hA=>?_;subst hA)|intro _|(show aA _ 245 _ _ _;refine CA (h:=IG ?_);rw[ho]))
  all_goals(refine aC ?_;exact aB (kb hK (by unfold jV;simp[ho] <;> omega)))
 ·refine aJ Tryz.func162 ?_
  repeat' (first|refine I3 ?_|refine w5 ?_ ?_|((refine bh fun h=>?_) <;> try exact w6 h)|(refine aF fun hA=>?_;subst hA)|intro _|(show aA _ 245 _ _ _;refine CA (h:=IG ?_);rw[ho]))
  all_goals(refine aC ?_;exact aB (kb hK (by unfold jV;simp[ho] <;> omega)))
theorem l5 (hK:K (I6 nx) (pt p [I6 sd,I6 nx,I6 la] 164::R)):CT 78 #[PO p] (pt p [I6 sd,I6 nx,I6 la] 164::R) K:=by
 refine aJ Tryz.func78 ?_
 repeat' (first|refine v4 ?_|refine w5 ?_ ?_|((refine bh fun h=>?_) <;> try exact w6 h)|(refine aF fun hA=>?_;subst hA)|intro _)
 all_goals(refine aC ?_;exact aB (hK))
theorem Q5 (hK:K (I6 la) (pt p [I6 sd,I6 nx,I6 la] 164::R)):CT 124 #[PO p] (pt p [I6 sd,I6 nx,I6 la] 164::R) K:=by
 refine aJ Tryz.func124 ?_
 repeat' (first|refine v4 ?_|refine w5 ?_ ?_|((refine bh fun h=>?_) <;> try exact w6 h)|(refine aF fun hA=>?_;subst hA)|intro _)
 all_goals(refine aC ?_;exact aB (hK))
theorem VQ (h:nx<=2147483647) (h1:0<=nx) (hK:K (.tuple #[I6 (nx+2 - 2),I6 0]) (pt p [I6 sd,I6 (nx+2),I6 la] 164::R)):CT 82 #[PO p] (pt p [I6 sd,I6 nx,I6 la] 164::R) K:=by
 refine aJ Tryz.func82 ?_
 repeat' (first|refine v33 ?_|refine w5 ?_ ?_|((refine bh fun h=>?_) <;> try exact w6 h)|(refine aF fun hA=>?_;subst hA)|intro _)
 all_goals(refine aC ?_;exact aB (hK))
theorem uP (hs:sd=0\/sd=1) (hK:K (I6 (lH sd la id)) (pt p [I6 sd,I6 nx,I6 (if lH sd la id=0 then id else la)] 164::R)):CT 192 #[PO p,I6 id] (pt p [I6 sd,I6 nx,I6 la] 164::R) K:=by
 cases ho:Qm (1 - sd) id
 ·have e:lH sd la id=1:=by unfold lH;rw[ho];simp
  rw[e,if_neg (by decide)] at hK
  refine aJ Tryz.func192 ?_
  repeat' (first|refine LK ?_|refine w5 ?_ ?_|((refine bh fun h=>?_) <;> try exact w6 h)|(refine aF fun hA=>?_;subst hA)|intro _|(show aA _ 273 _ _ _;refine CA (h:=Dx ?_);rw[ho]))
  all_goals(refine aC ?_;exact aB (hK))
 ·by_cases hl:la<id
  ·have e:lH sd la id=0:=by unfold lH;rw[ho];simp[hl]
   rw[e,if_pos rfl] at hK
   refine aJ Tryz.func192 ?_
   repeat' (first|refine LK ?_|refine w5 ?_ ?_|((refine bh fun h=>?_) <;> try exact w6 h)|(refine aF fun hA=>?_;subst hA)|intro _|(show aA _ 273 _ _ _;refine CA (h:=Dx ?_);rw[ho]))
   all_goals(refine aC ?_;exact aB (hK))
  ·have e:lH sd la id=1:=by unfold lH;rw[ho];simp[hl]
   rw[e,if_neg (by decide)] at hK
   refine aJ Tryz.func192 ?_
   repeat' (first|refine LK ?_|refine w5 ?_ ?_|((refine bh fun h=>?_) <;> try exact w6 h)|(refine aF fun hA=>?_;subst hA)|intro _|(show aA _ 273 _ _ _;refine CA (h:=Dx ?_);rw[ho]))
   all_goals(refine aC ?_;exact aB (hK))
end
structure Dr where
 se:Bool
 go:Bool
 ov:Bool
 la:Int
 th:Int
 co:Int
def lM (n least:Int):Bool:=decide (least<=n) && decide (n<=2147483647)
def Tw (d:Dr) (la:Int):Int:=if d.ov=true then 14 else if lM la 0=false then 2 else if d.se=true then 11 else 0
def Lu (d:Dr) (la:Int):Dr:=if Tw d la=0 then⟨true,d.go,d.ov,la,d.th,d.co⟩ else d
def Iw (d:Dr) (la co:Int):Int:=if d.ov=true then 14 else if lM la 0=false\/lM co 0=false then 2 else if co≠0 then 0 else if d.go=true/\d.th<=la then 11 else 0
def iP (d:Dr) (la co:Int):Dr:=if Iw d la co≠0 then d else if co≠0 then⟨d.se,d.go,true,d.la,d.th,co⟩ else⟨d.se,true,d.ov,d.la,la,d.co⟩
def DN (d:Dr) (co:Int):Int:=if d.ov=true then 14 else if lM co 1=false then 2 else 0
def p9 (d:Dr) (co:Int):Dr:=if DN d co=0 then⟨d.se,d.go,true,d.la,d.th,co⟩ else d
def KW (d:Dr):Bool:=!d.ov && !d.se && !d.go
def x4 (d:Dr) (id:Int):Bool:=!d.ov && (!d.se || decide (id<=d.la))
def Fz (d:Dr) (id:Int):Bool:=d.go && decide (d.th<id)
def zH (d:Dr) (n:Int):Dr:=if d.ov=false/\(d.se=true\/d.go=true)/\n<=0 then⟨d.se,d.go,true,d.la,d.th,0⟩ else d
section
variable {se go ov:Bool} {la th co:Int}
theorem Ap {least:Int} (hK:K (.bool (lM n least)) R):CT 204 #[I6 n,I6 least] R K:=by
 refine aJ Tryz.func204 ?_
 repeat' (first|refine v1 ?_|refine w5 ?_ ?_|((refine bh fun h=>?_) <;> try exact w6 h)|(refine aF fun hA=>?_;subst hA)|intro _)
 all_goals(refine aC ?_;exact aB (kb hK (by unfold lM;simp <;> omega)))
theorem oM (hK:K (I6 0) (pt p [.bool se,.bool go,.bool false,I6 la,I6 th,I6 co] 159::R)):CT 151 #[PO p] (pt p [.bool se,.bool go,.bool false,I6 la,I6 th,I6 co] 159::R) K:=by
 refine aJ Tryz.func151 ?_
 repeat' (first|refine v4 ?_|refine w5 ?_ ?_|((refine bh fun h=>?_) <;> try exact w6 h)|(refine aF fun hA=>?_;subst hA)|intro _)
 all_goals(refine aC ?_;exact aB (hK))
theorem oS (hK:K (I6 14) (pt p [.bool se,.bool go,.bool true,I6 la,I6 th,I6 co] 159::R)):CT 151 #[PO p] (pt p [.bool se,.bool go,.bool true,I6 la,I6 th,I6 co] 159::R) K:=by
 refine aJ Tryz.func151 ?_
 repeat' (first|refine v4 ?_|refine w5 ?_ ?_|((refine bh fun h=>?_) <;> try exact w6 h)|(refine aF fun hA=>?_;subst hA)|intro _)
 all_goals(refine aC ?_;exact aB (hK))
def DW:List (Nat×Nat):= [(0,0),(1,0),(2,0),(3,0),(4,0),(5,0),(6,0),(7,0),(8,0),(9,0)]
theorem V7 (hK:K (.tuple #[.bool ov,I6 co]) (pt p [.bool se,.bool go,.bool ov,I6 la,I6 th,I6 co] 159::R)):CT 60 #[PO p] (pt p [.bool se,.bool go,.bool ov,I6 la,I6 th,I6 co] 159::R) K:=by
 refine aJ Tryz.func60 ?_
 repeat' (first|refine v4 ?_|refine dw DW ?_|refine w5 ?_ ?_|((refine bh fun h=>?_) <;> try exact w6 h)|(refine aF fun hA=>?_;subst hA)|intro _)
 all_goals(refine aC ?_;exact aB (hK))
theorem Ef (hK:K (.tuple #[]) (pt p [.bool se,.bool go,.bool true,I6 la,I6 th,I6 n] 159::R)):CT 152 #[PO p,I6 n] (pt p [.bool se,.bool go,.bool ov,I6 la,I6 th,I6 co] 159::R) K:=by
 refine aJ Tryz.func152 ?_
 repeat' (first|refine v13 ?_|refine w5 ?_ ?_|((refine bh fun h=>?_) <;> try exact w6 h)|(refine aF fun hA=>?_;subst hA)|intro _)
 all_goals(refine aC ?_;exact aB (hK))
end
def Gc (p:Nat) (d:Dr):HP:=pt p [.bool d.se,.bool d.go,.bool d.ov,I6 d.la,I6 d.th,I6 d.co] 159
section
variable {d:Dr} {la co:Int}
theorem GG (hK:K (.tuple #[.bool d.ov,I6 d.co]) (Gc p d::R)):CT 60 #[PO p] (Gc p d::R) K:=V7 hK
theorem UM (hK:K (I6 (Iw d la co)) (Gc p (iP d la co)::R)):CT 189 #[PO p,I6 la,I6 co] (Gc p d::R) K:=by
 obtain⟨se,go,ov,ll,th,cc⟩:=d
 by_cases hc:co=0
 ·subst hc
  have hm:lM 0 0=true:=by decide
  cases ov <;> cases hn:lM la 0 <;> cases go <;> by_cases ht:th<=la <;> simp only[Gc,iP,Iw,hn,hm,ht,if_true,if_false,Bool.false_eq_true,reduceCtorEq,Int.reduceEq,or_true,or_false,true_or,false_or,true_and,false_and,and_true,and_false,ne_eq,not_true_eq_false,not_false_eq_true,Int.reduceNeg] at hK ⊢
  all_goals
   refine aJ Tryz.func189 ?_
   repeat' (first|refine v48 ?_|refine w5 ?_ ?_|((refine bh fun h=>?_) <;> try exact w6 h)|(refine aF fun hA=>?_;subst hA)|intro _|(show aA _ 151 _ _ _;first|refine CA (h:=oM ?_)|refine CA (h:=oS ?_))|(show aA _ 204 _ _ _;refine CA (h:=Ap ?_);first|rw[hn]|rw[hm])|(show aA _ 152 _ _ _;refine CA (h:=Ef ?_)))
   all_goals(refine aC ?_;exact aB (hK))
 ·cases ov <;> cases hn:lM la 0 <;> cases hm:lM co 0 <;> simp only[Gc,iP,Iw,hn,hm,hc,if_true,if_false,Bool.false_eq_true,reduceCtorEq,Int.reduceEq,or_true,or_false,true_or,false_or,true_and,false_and,and_true,and_false,ne_eq,not_true_eq_false,not_false_eq_true,Int.reduceNeg] at hK ⊢
  all_goals
   refine aJ Tryz.func189 ?_
   repeat' (first|refine v48 ?_|refine w5 ?_ ?_|((refine bh fun h=>?_) <;> try exact w6 h)|(refine aF fun hA=>?_;subst hA)|intro _|(show aA _ 151 _ _ _;first|refine CA (h:=oM ?_)|refine CA (h:=oS ?_))|(show aA _ 204 _ _ _;refine CA (h:=Ap ?_);first|rw[hn]|rw[hm])|(show aA _ 152 _ _ _;refine CA (h:=Ef ?_)))
   all_goals(refine aC ?_;exact aB (hK))
theorem Aau (hK:K (I6 (DN d co)) (Gc p (p9 d co)::R)):CT 125 #[PO p,I6 co] (Gc p d::R) K:=by
 obtain⟨se,go,ov,ll,th,cc⟩:=d
 cases ov <;> cases hn:lM co 1 <;> simp only[Gc,p9,DN,hn,if_true,if_false,Bool.false_eq_true,reduceCtorEq,Int.reduceEq] at hK ⊢
 all_goals
  refine aJ Tryz.func125 ?_
  repeat' (first|refine v21 ?_|refine w5 ?_ ?_|((refine bh fun h=>?_) <;> try exact w6 h)|(refine aF fun hA=>?_;subst hA)|intro _|(show aA _ 151 _ _ _;first|refine CA (h:=oM ?_)|refine CA (h:=oS ?_))|(show aA _ 204 _ _ _;refine CA (h:=Ap ?_);rw[hn])|(show aA _ 152 _ _ _;refine CA (h:=Ef ?_)))
  all_goals(refine aC ?_;exact aB (hK))
theorem Bc (hK:K (.bool (KW d)) (Gc p d::R)):CT 79 #[PO p] (Gc p d::R) K:=by
 obtain⟨se,go,ov,ll,th,cc⟩:=d
 cases ov <;> cases se <;> cases go <;> simp only[Gc,KW,Bool.not_true,Bool.not_false,Bool.and_true,Bool.and_false,Bool.true_and,Bool.false_and] at hK ⊢
 all_goals
  refine aJ Tryz.func79 ?_
  repeat' (first|refine I3 ?_|refine w5 ?_ ?_|((refine bh fun h=>?_) <;> try exact w6 h)|(refine aF fun hA=>?_;subst hA)|intro _|(show aA _ 151 _ _ _;first|refine CA (h:=oM ?_)|refine CA (h:=oS ?_)))
  all_goals(refine aC ?_;exact aB (hK))
theorem EZ (hK:K (.bool (x4 d id)) (Gc p d::R)):CT 193 #[PO p,I6 id] (Gc p d::R) K:=by
 obtain⟨se,go,ov,ll,th,cc⟩:=d
 cases ov <;> cases se <;> simp only[Gc,x4,Bool.not_true,Bool.not_false,Bool.and_true,Bool.and_false,Bool.true_and,Bool.false_and,Bool.true_or,Bool.false_or] at hK ⊢
 all_goals
  refine aJ Tryz.func193 ?_
  repeat' (first|refine I3 ?_|refine w5 ?_ ?_|((refine bh fun h=>?_) <;> try exact w6 h)|(refine aF fun hA=>?_;subst hA)|intro _|(show aA _ 151 _ _ _;first|refine CA (h:=oM ?_)|refine CA (h:=oS ?_)))
  all_goals(refine aC ?_;exact aB (hK))
theorem Tx (hK:K (.bool (Fz d id)) (Gc p d::R)):CT 190 #[PO p,I6 id] (Gc p d::R) K:=by
 obtain⟨se,go,ov,ll,th,cc⟩:=d
 cases go <;> simp only[Gc,Fz,Bool.true_and,Bool.false_and] at hK ⊢
 all_goals
  refine aJ Tryz.func190 ?_
  repeat' (first|refine v16 ?_|refine w5 ?_ ?_|((refine bh fun h=>?_) <;> try exact w6 h)|(refine aF fun hA=>?_;subst hA)|intro _)
  all_goals(refine aC ?_;exact aB (hK))
theorem XV {s:Nat} {se go ov:Bool} {ll th cc:Int} (hK:K (.bool ((se || go) && decide (n<=0))) (pt r [PO p] 77::pt s [I6 n] 3::pt p [.bool se,.bool go,.bool ov,I6 ll,I6 th,I6 cc] 159::R)):CT 150 #[PO r,PO s] (pt r [PO p] 77::pt s [I6 n] 3::pt p [.bool se,.bool go,.bool ov,I6 ll,I6 th,I6 cc] 159::R) K:=by
 cases se <;> cases go <;> simp only[Bool.true_and,Bool.false_and,Bool.true_or,Bool.false_or] at hK
 all_goals
  refine aJ Tryz.func150 ?_
  repeat' (first|refine v16 ?_|refine w5 ?_ ?_|((refine bh fun h=>?_) <;> try exact w6 h)|(refine aF fun hA=>?_;subst hA)|intro _)
  all_goals(refine aC ?_;exact aB (hK))
theorem NV (hK:K (.bool (zH d n).ov) (Gc p (zH d n)::R)):CT 76 #[PO p,I6 n] (Gc p d::R) K:=by
 obtain⟨se,go,ov,ll,th,cc⟩:=d
 cases ov <;> cases se <;> cases go <;> by_cases hn:n<=0 <;> simp only[Gc,zH,hn,if_true,if_false,Bool.false_eq_true,reduceCtorEq,or_true,or_false,true_or,false_or,true_and,false_and,and_true,and_false] at hK ⊢
 all_goals
  refine aJ Tryz.func76 ?_
  repeat' (first|refine v58 ?_|refine w5 ?_ ?_|((refine bh fun h=>?_) <;> try exact w6 h)|(refine aF fun hA=>?_;subst hA)|intro _|(show aA _ 151 _ _ _;first|refine CA (h:=oM ?_)|refine CA (h:=oS ?_))|(show aA _ 150 _ _ _;refine CA (h:=XV ?_);simp only[hn,decide_true,decide_false,Bool.or_true,Bool.or_false,Bool.true_or,Bool.false_or,Bool.and_true,Bool.and_false,Bool.true_and,Bool.false_and])|(show aA _ 152 _ _ _;refine CA (h:=Ef ?_)))
  all_goals(refine aC ?_;exact aB (hK))
end
end Go.Proofs.YtffnpejdkkohcaaGreat
