/- A part of the proof: lemmas; each with the conditions that it states. -/
import Derived.Test.YtifgibijcmppmaaGreatNae
set_option linter.unusedVariables false
set_option linter.unusedSimpArgs false
namespace Go.Proofs.YtifgibijcmppmaaGreat
open Go Go.Proofs Go.Sl
set_option maxRecDepth 100000
set_option maxHeartbeats 40000000
attribute [local irreducible] aN fB cJ bO aM aY aA dM dQ aW dK pt ro fF star sep bI
section
variable {R C:List HP} {K:Value→List HP→Prop}
def XH (sd id:Int):Bool:=decide (1≤id) && decide (id≤2147483647) && (decide (id % 2=1) == decide (sd=0))
def p8 (sd la id:Int):Int:=if XH (1 - sd) id=true∧la<id then 0 else 1
def oY (sd nx la id:Int):Bool:=decide (1≤id) && decide (id≤2147483647) && (if XH sd id=true then decide (id<nx) else decide (id≤la))
section
variable {sd nx la id:Int} {p r:Nat}
theorem VL (h:1≤id) (hK:K (.bool (decide (id % 2=1))) (pt r [.int .i64 id] 3::R)):aA Tryz.prog 388 #[.pointer (some ⟨r,0,none⟩)] (pt r [.int .i64 id] 3::R) K:=by
 refine aH Tryz.func388 ?_
 repeat' (first|refine v27 ?_|refine wr ?_|refine w5 ?_ ?_|((refine bh fun h=>?_) <;> try exact w6 h)|(refine aE fun hA=>?_;subst hA)|intro _)
 all_goals(refine aC ?_;exact aB (kb hK (by simp)))
theorem CW (hK:K (.bool (XH sd id)) R):aA Tryz.prog 339 #[.int .i64 sd,.int .i64 id] R K:=by
 by_cases hr:1≤id∧id≤2147483647
 ·refine aH Tryz.func339 ?_
  repeat' (first|refine v26 ?_|refine wr ?_|refine w5 ?_ ?_|((refine bh fun h=>?_) <;> try exact w6 h)|(refine aE fun hA=>?_;subst hA)|intro _|(show aA _ 388 _ _ _;refine CA (h:=VL (by omega) ?_)))
  all_goals(refine aC ?_;exact aB (kb hK (by unfold XH;rw[show(sd == 0)=decide (sd=0) from by cases hq:(sd == 0) <;> simp_all];simp[hr.1,hr.2])))
 ·refine aH Tryz.func339 ?_
  repeat' (first|refine v26 ?_|refine wr ?_|refine w5 ?_ ?_|((refine bh fun h=>?_) <;> try exact w6 h)|(refine aE fun hA=>?_;subst hA)|intro _)
  all_goals(refine aC ?_;exact aB (kb hK (by unfold XH;simp;omega)))
theorem GH (hK:K (.bool (XH sd id)) (pt p [.int .i64 sd,.int .i64 nx,.int .i64 la] 218::R)):aA Tryz.prog 309 #[.pointer (some ⟨p,0,none⟩),.int .i64 id] (pt p [.int .i64 sd,.int .i64 nx,.int .i64 la] 218::R) K:=by
 refine aH Tryz.func309 ?_
 repeat' (first|refine v48 ?_|refine wr ?_|refine w5 ?_ ?_|((refine bh fun h=>?_) <;> try exact w6 h)|(refine aE fun hA=>?_;subst hA)|intro _|(show aA _ 339 _ _ _;refine CA (h:=CW ?_)))
 all_goals(refine aC ?_;exact aB (hK))
theorem Cs (hK:K (.bool (oY sd nx la id)) (pt p [.int .i64 sd,.int .i64 nx,.int .i64 la] 218::R)):aA Tryz.prog 218 #[.pointer (some ⟨p,0,none⟩),.int .i64 id] (pt p [.int .i64 sd,.int .i64 nx,.int .i64 la] 218::R) K:=by
 cases ho:XH sd id
 ·refine aH Tryz.func218 ?_
  repeat' (first|refine I7 ?_|refine wr ?_|refine w5 ?_ ?_|((refine bh fun h=>?_) <;> try exact w6 h)|(refine aE fun hA=>?_;subst hA)|intro _|(show aA _ 309 _ _ _;refine CA (h:=GH ?_);rw[ho]))
  all_goals(refine aC ?_;exact aB (kb hK (by unfold oY;simp[ho] <;> omega)))
 ·refine aH Tryz.func218 ?_
  repeat' (first|refine I7 ?_|refine wr ?_|refine w5 ?_ ?_|((refine bh fun h=>?_) <;> try exact w6 h)|(refine aE fun hA=>?_;subst hA)|intro _|(show aA _ 309 _ _ _;refine CA (h:=GH ?_);rw[ho]))
  all_goals(refine aC ?_;exact aB (kb hK (by unfold oY;simp[ho] <;> omega)))
theorem l6 (hK:K (.int .i64 nx) (pt p [.int .i64 sd,.int .i64 nx,.int .i64 la] 218::R)):aA Tryz.prog 110 #[.pointer (some ⟨p,0,none⟩)] (pt p [.int .i64 sd,.int .i64 nx,.int .i64 la] 218::R) K:=by
 refine aH Tryz.func110 ?_
 repeat' (first|refine v4 ?_|refine wr ?_|refine w5 ?_ ?_|((refine bh fun h=>?_) <;> try exact w6 h)|(refine aE fun hA=>?_;subst hA)|intro _)
 all_goals(refine aC ?_;exact aB (hK))
theorem B8 (hK:K (.int .i64 la) (pt p [.int .i64 sd,.int .i64 nx,.int .i64 la] 218::R)):aA Tryz.prog 173 #[.pointer (some ⟨p,0,none⟩)] (pt p [.int .i64 sd,.int .i64 nx,.int .i64 la] 218::R) K:=by
 refine aH Tryz.func173 ?_
 repeat' (first|refine v4 ?_|refine wr ?_|refine w5 ?_ ?_|((refine bh fun h=>?_) <;> try exact w6 h)|(refine aE fun hA=>?_;subst hA)|intro _)
 all_goals(refine aC ?_;exact aB (hK))
theorem Xg (h:nx≤2147483647) (h1:0≤nx) (hK:K (.tuple #[.int .i64 (nx+2 - 2),.int .i64 0]) (pt p [.int .i64 sd,.int .i64 (nx+2),.int .i64 la] 218::R)):aA Tryz.prog 114 #[.pointer (some ⟨p,0,none⟩)] (pt p [.int .i64 sd,.int .i64 nx,.int .i64 la] 218::R) K:=by
 refine aH Tryz.func114 ?_
 repeat' (first|refine v33 ?_|refine wr ?_|refine w5 ?_ ?_|((refine bh fun h=>?_) <;> try exact w6 h)|(refine aE fun hA=>?_;subst hA)|intro _)
 all_goals(refine aC ?_;exact aB (hK))
theorem u1 (hs:sd=0∨sd=1) (hK:K (.int .i64 (p8 sd la id)) (pt p [.int .i64 sd,.int .i64 nx,.int .i64 (if p8 sd la id=0 then id else la)] 218::R)):aA Tryz.prog 255 #[.pointer (some ⟨p,0,none⟩),.int .i64 id] (pt p [.int .i64 sd,.int .i64 nx,.int .i64 la] 218::R) K:=by
 cases ho:XH (1 - sd) id
 ·have e:p8 sd la id=1:=by unfold p8;rw[ho];simp
  rw[e,if_neg (by decide)] at hK
  refine aH Tryz.func255 ?_
  repeat' (first|refine MU ?_|refine wr ?_|refine w5 ?_ ?_|((refine bh fun h=>?_) <;> try exact w6 h)|(refine aE fun hA=>?_;subst hA)|intro _|(show aA _ 339 _ _ _;refine CA (h:=CW ?_);rw[ho]))
  all_goals(refine aC ?_;exact aB (hK))
 ·by_cases hl:la<id
  ·have e:p8 sd la id=0:=by unfold p8;rw[ho];simp[hl]
   rw[e,if_pos rfl] at hK
   refine aH Tryz.func255 ?_
   repeat' (first|refine MU ?_|refine wr ?_|refine w5 ?_ ?_|((refine bh fun h=>?_) <;> try exact w6 h)|(refine aE fun hA=>?_;subst hA)|intro _|(show aA _ 339 _ _ _;refine CA (h:=CW ?_);rw[ho]))
   all_goals(refine aC ?_;exact aB (hK))
  ·have e:p8 sd la id=1:=by unfold p8;rw[ho];simp[hl]
   rw[e,if_neg (by decide)] at hK
   refine aH Tryz.func255 ?_
   repeat' (first|refine MU ?_|refine wr ?_|refine w5 ?_ ?_|((refine bh fun h=>?_) <;> try exact w6 h)|(refine aE fun hA=>?_;subst hA)|intro _|(show aA _ 339 _ _ _;refine CA (h:=CW ?_);rw[ho]))
   all_goals(refine aC ?_;exact aB (hK))
end
structure Dr where
 se:Bool
 go:Bool
 ov:Bool
 la:Int
 th:Int
 co:Int
def p6 (n least:Int):Bool:=decide (least≤n) && decide (n≤2147483647)
def Gb (d:Dr) (la:Int):Int:=if d.ov=true then 14 else if p6 la 0=false then 2 else if d.se=true then 11 else 0
def EY (d:Dr) (la:Int):Dr:=if Gb d la=0 then⟨true,d.go,d.ov,la,d.th,d.co⟩ else d
def LU (d:Dr) (la co:Int):Int:=if d.ov=true then 14 else if p6 la 0=false∨p6 co 0=false then 2 else if co≠0 then 0 else if d.go=true∧d.th≤la then 11 else 0
def p9 (d:Dr) (la co:Int):Dr:=if LU d la co≠0 then d else if co≠0 then⟨d.se,d.go,true,d.la,d.th,co⟩ else⟨d.se,true,d.ov,d.la,la,d.co⟩
def Gt (d:Dr) (co:Int):Int:=if d.ov=true then 14 else if p6 co 1=false then 2 else 0
def B4 (d:Dr) (co:Int):Dr:=if Gt d co=0 then⟨d.se,d.go,true,d.la,d.th,co⟩ else d
def K0 (d:Dr):Bool:=!d.ov && !d.se && !d.go
def CV (d:Dr) (id:Int):Bool:=!d.ov && (!d.se || decide (id≤d.la))
def J9 (d:Dr) (id:Int):Bool:=d.go && decide (d.th<id)
def zL (d:Dr) (n:Int):Dr:=if d.ov=false∧(d.se=true∨d.go=true)∧n≤0 then⟨d.se,d.go,true,d.la,d.th,0⟩ else d
section
variable {p:Nat} {se go ov:Bool} {la th co n id:Int}
theorem vB {least:Int} (hK:K (.bool (p6 n least)) R):aA Tryz.prog 267 #[.int .i64 n,.int .i64 least] R K:=by
 refine aH Tryz.func267 ?_
 repeat' (first|refine v1 ?_|refine wr ?_|refine w5 ?_ ?_|((refine bh fun h=>?_) <;> try exact w6 h)|(refine aE fun hA=>?_;subst hA)|intro _)
 all_goals(refine aC ?_;exact aB (kb hK (by unfold p6;simp <;> omega)))
theorem l7 (hK:K (.int .i64 0) (pt p [.bool se,.bool go,.bool false,.int .i64 la,.int .i64 th,.int .i64 co] 213::R)):aA Tryz.prog 199 #[.pointer (some ⟨p,0,none⟩)] (pt p [.bool se,.bool go,.bool false,.int .i64 la,.int .i64 th,.int .i64 co] 213::R) K:=by
 refine aH Tryz.func199 ?_
 repeat' (first|refine v4 ?_|refine wr ?_|refine w5 ?_ ?_|((refine bh fun h=>?_) <;> try exact w6 h)|(refine aE fun hA=>?_;subst hA)|intro _)
 all_goals(refine aC ?_;exact aB (hK))
theorem l8 (hK:K (.int .i64 14) (pt p [.bool se,.bool go,.bool true,.int .i64 la,.int .i64 th,.int .i64 co] 213::R)):aA Tryz.prog 199 #[.pointer (some ⟨p,0,none⟩)] (pt p [.bool se,.bool go,.bool true,.int .i64 la,.int .i64 th,.int .i64 co] 213::R) K:=by
 refine aH Tryz.func199 ?_
 repeat' (first|refine v4 ?_|refine wr ?_|refine w5 ?_ ?_|((refine bh fun h=>?_) <;> try exact w6 h)|(refine aE fun hA=>?_;subst hA)|intro _)
 all_goals(refine aC ?_;exact aB (hK))
def DL:List (Nat×Nat):= [(0,0),(1,0),(2,0),(3,0),(4,0),(5,0),(6,0),(7,0),(8,0),(9,0)]
theorem VJ (hK:K (.tuple #[.bool ov,.int .i64 co]) (pt p [.bool se,.bool go,.bool ov,.int .i64 la,.int .i64 th,.int .i64 co] 213::R)):aA Tryz.prog 82 #[.pointer (some ⟨p,0,none⟩)] (pt p [.bool se,.bool go,.bool ov,.int .i64 la,.int .i64 th,.int .i64 co] 213::R) K:=by
 refine aH Tryz.func82 ?_
 repeat' (first|refine v4 ?_|refine dw DL ?_|refine wr ?_|refine w5 ?_ ?_|((refine bh fun h=>?_) <;> try exact w6 h)|(refine aE fun hA=>?_;subst hA)|intro _)
 all_goals(refine aC ?_;exact aB (hK))
theorem C8 (hK:K (.tuple #[]) (pt p [.bool se,.bool go,.bool true,.int .i64 la,.int .i64 th,.int .i64 n] 213::R)):aA Tryz.prog 200 #[.pointer (some ⟨p,0,none⟩),.int .i64 n] (pt p [.bool se,.bool go,.bool ov,.int .i64 la,.int .i64 th,.int .i64 co] 213::R) K:=by
 refine aH Tryz.func200 ?_
 repeat' (first|refine v13 ?_|refine wr ?_|refine w5 ?_ ?_|((refine bh fun h=>?_) <;> try exact w6 h)|(refine aE fun hA=>?_;subst hA)|intro _)
 all_goals(refine aC ?_;exact aB (hK))
end
end
section
variable {R C:List HP} {K:Value→List HP→Prop}
def CS (p:Nat) (d:Dr):HP:=pt p [.bool d.se,.bool d.go,.bool d.ov,.int .i64 d.la,.int .i64 d.th,.int .i64 d.co] 213
section
variable {p:Nat} {d:Dr} {la co n id:Int}
theorem H4 (hK:K (.tuple #[.bool d.ov,.int .i64 d.co]) (CS p d::R)):aA Tryz.prog 82 #[.pointer (some ⟨p,0,none⟩)] (CS p d::R) K:=VJ hK
theorem Abf (hK:K (.int .i64 (Gb d la)) (CS p (EY d la)::R)):aA Tryz.prog 202 #[.pointer (some ⟨p,0,none⟩),.int .i64 la] (CS p d::R) K:=by
 obtain⟨se,go,ov,ll,th,cc⟩:=d
 cases ov <;> cases hn:p6 la 0 <;> cases se <;> simp only[CS,EY,Gb,hn,if_true,if_false,Bool.false_eq_true,reduceCtorEq,Int.reduceEq] at hK ⊢
 all_goals
  refine aH Tryz.func202 ?_
  repeat' (first|refine v48 ?_|refine wr ?_|refine w5 ?_ ?_|((refine bh fun h=>?_) <;> try exact w6 h)|(refine aE fun hA=>?_;subst hA)|intro _|(show aA _ 199 _ _ _;first|refine CA (h:=l7 ?_)|refine CA (h:=l8 ?_))|(show aA _ 267 _ _ _;refine CA (h:=vB ?_);rw[hn]))
  all_goals(refine aC ?_;exact aB (hK))
theorem T7 (hK:K (.int .i64 (LU d la co)) (CS p (p9 d la co)::R)):aA Tryz.prog 252 #[.pointer (some ⟨p,0,none⟩),.int .i64 la,.int .i64 co] (CS p d::R) K:=by
 obtain⟨se,go,ov,ll,th,cc⟩:=d
 by_cases hc:co=0
 ·subst hc
  have hm:p6 0 0=true:=by decide
  cases ov <;> cases hn:p6 la 0 <;> cases go <;> by_cases ht:th≤la <;> simp only[CS,p9,LU,hn,hm,ht,if_true,if_false,Bool.false_eq_true,reduceCtorEq,Int.reduceEq,or_true,or_false,true_or,false_or,true_and,false_and,and_true,and_false,ne_eq,not_true_eq_false,not_false_eq_true,Int.reduceNeg] at hK ⊢
  all_goals
   refine aH Tryz.func252 ?_
   repeat' (first|refine v48 ?_|refine wr ?_|refine w5 ?_ ?_|((refine bh fun h=>?_) <;> try exact w6 h)|(refine aE fun hA=>?_;subst hA)|intro _|(show aA _ 199 _ _ _;first|refine CA (h:=l7 ?_)|refine CA (h:=l8 ?_))|(show aA _ 267 _ _ _;refine CA (h:=vB ?_);first|rw[hn]|rw[hm])|(show aA _ 200 _ _ _;refine CA (h:=C8 ?_)))
   all_goals(refine aC ?_;exact aB (hK))
 ·cases ov <;> cases hn:p6 la 0 <;> cases hm:p6 co 0 <;> simp only[CS,p9,LU,hn,hm,hc,if_true,if_false,Bool.false_eq_true,reduceCtorEq,Int.reduceEq,or_true,or_false,true_or,false_or,true_and,false_and,and_true,and_false,ne_eq,not_true_eq_false,not_false_eq_true,Int.reduceNeg] at hK ⊢
  all_goals
   refine aH Tryz.func252 ?_
   repeat' (first|refine v48 ?_|refine wr ?_|refine w5 ?_ ?_|((refine bh fun h=>?_) <;> try exact w6 h)|(refine aE fun hA=>?_;subst hA)|intro _|(show aA _ 199 _ _ _;first|refine CA (h:=l7 ?_)|refine CA (h:=l8 ?_))|(show aA _ 267 _ _ _;refine CA (h:=vB ?_);first|rw[hn]|rw[hm])|(show aA _ 200 _ _ _;refine CA (h:=C8 ?_)))
   all_goals(refine aC ?_;exact aB (hK))
theorem Ab8 (hK:K (.int .i64 (Gt d co)) (CS p (B4 d co)::R)):aA Tryz.prog 174 #[.pointer (some ⟨p,0,none⟩),.int .i64 co] (CS p d::R) K:=by
 obtain⟨se,go,ov,ll,th,cc⟩:=d
 cases ov <;> cases hn:p6 co 1 <;> simp only[CS,B4,Gt,hn,if_true,if_false,Bool.false_eq_true,reduceCtorEq,Int.reduceEq] at hK ⊢
 all_goals
  refine aH Tryz.func174 ?_
  repeat' (first|refine v21 ?_|refine wr ?_|refine w5 ?_ ?_|((refine bh fun h=>?_) <;> try exact w6 h)|(refine aE fun hA=>?_;subst hA)|intro _|(show aA _ 199 _ _ _;first|refine CA (h:=l7 ?_)|refine CA (h:=l8 ?_))|(show aA _ 267 _ _ _;refine CA (h:=vB ?_);rw[hn])|(show aA _ 200 _ _ _;refine CA (h:=C8 ?_)))
  all_goals(refine aC ?_;exact aB (hK))
theorem Bz (hK:K (.bool (K0 d)) (CS p d::R)):aA Tryz.prog 111 #[.pointer (some ⟨p,0,none⟩)] (CS p d::R) K:=by
 obtain⟨se,go,ov,ll,th,cc⟩:=d
 cases ov <;> cases se <;> cases go <;> simp only[CS,K0,Bool.not_true,Bool.not_false,Bool.and_true,Bool.and_false,Bool.true_and,Bool.false_and] at hK ⊢
 all_goals
  refine aH Tryz.func111 ?_
  repeat' (first|refine I7 ?_|refine wr ?_|refine w5 ?_ ?_|((refine bh fun h=>?_) <;> try exact w6 h)|(refine aE fun hA=>?_;subst hA)|intro _|(show aA _ 199 _ _ _;first|refine CA (h:=l7 ?_)|refine CA (h:=l8 ?_)))
  all_goals(refine aC ?_;exact aB (hK))
theorem Fo (hK:K (.bool (CV d id)) (CS p d::R)):aA Tryz.prog 256 #[.pointer (some ⟨p,0,none⟩),.int .i64 id] (CS p d::R) K:=by
 obtain⟨se,go,ov,ll,th,cc⟩:=d
 cases ov <;> cases se <;> simp only[CS,CV,Bool.not_true,Bool.not_false,Bool.and_true,Bool.and_false,Bool.true_and,Bool.false_and,Bool.true_or,Bool.false_or] at hK ⊢
 all_goals
  refine aH Tryz.func256 ?_
  repeat' (first|refine I7 ?_|refine wr ?_|refine w5 ?_ ?_|((refine bh fun h=>?_) <;> try exact w6 h)|(refine aE fun hA=>?_;subst hA)|intro _|(show aA _ 199 _ _ _;first|refine CA (h:=l7 ?_)|refine CA (h:=l8 ?_)))
  all_goals(refine aC ?_;exact aB (hK))
theorem Uc (hK:K (.bool (J9 d id)) (CS p d::R)):aA Tryz.prog 253 #[.pointer (some ⟨p,0,none⟩),.int .i64 id] (CS p d::R) K:=by
 obtain⟨se,go,ov,ll,th,cc⟩:=d
 cases go <;> simp only[CS,J9,Bool.true_and,Bool.false_and] at hK ⊢
 all_goals
  refine aH Tryz.func253 ?_
  repeat' (first|refine v16 ?_|refine wr ?_|refine w5 ?_ ?_|((refine bh fun h=>?_) <;> try exact w6 h)|(refine aE fun hA=>?_;subst hA)|intro _)
  all_goals(refine aC ?_;exact aB (hK))
theorem Ack {r s:Nat} {se go ov:Bool} {ll th cc:Int} (hK:K (.bool ((se || go) && decide (n≤0))) (pt r [.pointer (some ⟨p,0,none⟩)] 112::pt s [.int .i64 n] 3::pt p [.bool se,.bool go,.bool ov,.int .i64 ll,.int .i64 th,.int .i64 cc] 213::R)):aA Tryz.prog 198 #[.pointer (some ⟨r,0,none⟩),.pointer (some ⟨s,0,none⟩)] (pt r [.pointer (some ⟨p,0,none⟩)] 112::pt s [.int .i64 n] 3::pt p [.bool se,.bool go,.bool ov,.int .i64 ll,.int .i64 th,.int .i64 cc] 213::R) K:=by
 cases se <;> cases go <;> simp only[Bool.true_and,Bool.false_and,Bool.true_or,Bool.false_or] at hK
 all_goals
  refine aH Tryz.func198 ?_
  repeat' (first|refine v16 ?_|refine wr ?_|refine w5 ?_ ?_|((refine bh fun h=>?_) <;> try exact w6 h)|(refine aE fun hA=>?_;subst hA)|intro _)
  all_goals(refine aC ?_;exact aB (hK))
theorem Nu (hK:K (.bool (zL d n).ov) (CS p (zL d n)::R)):aA Tryz.prog 98 #[.pointer (some ⟨p,0,none⟩),.int .i64 n] (CS p d::R) K:=by
 obtain⟨se,go,ov,ll,th,cc⟩:=d
 cases ov <;> cases se <;> cases go <;> by_cases hn:n≤0 <;> simp only[CS,zL,hn,if_true,if_false,Bool.false_eq_true,reduceCtorEq,or_true,or_false,true_or,false_or,true_and,false_and,and_true,and_false] at hK ⊢
 all_goals
  refine aH Tryz.func98 ?_
  repeat' (first|refine v58 ?_|refine wr ?_|refine w5 ?_ ?_|((refine bh fun h=>?_) <;> try exact w6 h)|(refine aE fun hA=>?_;subst hA)|intro _|(show aA _ 199 _ _ _;first|refine CA (h:=l7 ?_)|refine CA (h:=l8 ?_))|(show aA _ 198 _ _ _;refine CA (h:=Ack ?_);simp only[hn,decide_true,decide_false,Bool.or_true,Bool.or_false,Bool.true_or,Bool.false_or,Bool.and_true,Bool.and_false,Bool.true_and,Bool.false_and])|(show aA _ 200 _ _ _;refine CA (h:=C8 ?_)))
  all_goals(refine aC ?_;exact aB (hK))
end
end
end Go.Proofs.YtifgibijcmppmaaGreat
