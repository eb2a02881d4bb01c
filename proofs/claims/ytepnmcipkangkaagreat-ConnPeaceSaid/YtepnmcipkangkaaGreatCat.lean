/- A part of the proof: lemmas; each with the conditions that it states. -/
import Derived.Test.YtepnmcipkangkaaGreatCaf
set_option linter.unusedVariables false
set_option linter.unusedSimpArgs false
set_option maxRecDepth 100000
set_option maxHeartbeats 40000000
namespace Go.Proofs.YtepnmcipkangkaaGreat
open Go Go.Proofs Go.Sl
attribute [local irreducible] aN fL cL bM aL aR aA dJ dK aU dI pt ro fC star sep bF
variable {R C:List HP} {K:KP} {sd nx id n b k a:Int} {p r:Nat}
def QY (sd id:Int):Bool:=decide (1<=id) && decide (id<=2147483647) && (decide (id % 2=1) == decide (sd=0))
def nQ (sd la id:Int):Int:=if QY (1 - sd) id=true/\la<id then 0 else 1
def gI (sd nx la id:Int):Bool:=decide (1<=id) && decide (id<=2147483647) && (if QY sd id=true then decide (id<nx) else decide (id<=la))
section
variable {la:Int}
theorem Xi (h:1<=id) (hK:K (.bool (decide (id % 2=1))) (pt r [I6 id] 3::R)):CT 437 #[PO r] (pt r [I6 id] 3::R) K:=by
 refine aH Tryz.func437 ?_
 repeat' (first|refine v27 ?_|refine w5 ?_ ?_|((refine bh fun h=>?_) <;> try exact w6 h)|(refine aE fun hA=>?_;subst hA)|intro _)
 all_goals(refine aC ?_;exact aB (kb hK (by simp)))
theorem D1 (hK:K (.bool (QY sd id)) R):CT 387 #[I6 sd,I6 id] R K:=by
 by_cases hr:1<=id/\id<=2147483647
 ·refine aH Tryz.func387 ?_
  repeat' (first|refine v26 ?_|refine w5 ?_ ?_|((refine bh fun h=>?_) <;> try exact w6 h)|(refine aE fun hA=>?_;subst hA)|intro _|(show aA _ 437 _ _ _;refine CA (h:=Xi (by omega) ?_)))
  all_goals(refine aC ?_;exact aB (kb hK (by unfold QY;rw[show(sd == 0)=decide (sd=0) from by cases hq:(sd == 0) <;> simp_all];simp[hr.1,hr.2])))
 ·refine aH Tryz.func387 ?_
  repeat' (first|refine v26 ?_|refine w5 ?_ ?_|((refine bh fun h=>?_) <;> try exact w6 h)|(refine aE fun hA=>?_;subst hA)|intro _)
  all_goals(refine aC ?_;exact aB (kb hK (by unfold QY;simp;omega)))
theorem I5 (hK:K (.bool (QY sd id)) (pt p [I6 sd,I6 nx,I6 la] 279::R)):CT 342 #[PO p,I6 id] (pt p [I6 sd,I6 nx,I6 la] 279::R) K:=by
 refine aH Tryz.func342 ?_
 repeat' (first|refine v48 ?_|refine w5 ?_ ?_|((refine bh fun h=>?_) <;> try exact w6 h)|(refine aE fun hA=>?_;subst hA)|intro _|(show aA _ 387 _ _ _;refine CA (h:=D1 ?_)))
 all_goals(refine aC ?_;exact aB (hK))
theorem Dm (hK:K (.bool (gI sd nx la id)) (pt p [I6 sd,I6 nx,I6 la] 279::R)):CT 236 #[PO p,I6 id] (pt p [I6 sd,I6 nx,I6 la] 279::R) K:=by
 cases ho:QY sd id
 ·refine aH Tryz.func236 ?_
  repeat' (first|refine J5 ?_|refine w5 ?_ ?_|((refine bh fun h=>?_) <;> try exact w6 h)|(refine aE fun hA=>?_;subst hA)|intro _|(show aA _ 342 _ _ _;refine CA (h:=I5 ?_);rw[ho]))
  all_goals(refine aC ?_;exact aB (kb hK (by unfold gI;simp[ho] <;> omega)))
 ·refine aH Tryz.func236 ?_
  repeat' (first|refine J5 ?_|refine w5 ?_ ?_|((refine bh fun h=>?_) <;> try exact w6 h)|(refine aE fun hA=>?_;subst hA)|intro _|(show aA _ 342 _ _ _;refine CA (h:=I5 ?_);rw[ho]))
  all_goals(refine aC ?_;exact aB (kb hK (by unfold gI;simp[ho] <;> omega)))
theorem m6 (hK:K (I6 nx) (pt p [I6 sd,I6 nx,I6 la] 279::R)):CT 135 #[PO p] (pt p [I6 sd,I6 nx,I6 la] 279::R) K:=by
 refine aH Tryz.func135 ?_
 repeat' (first|refine v4 ?_|refine w5 ?_ ?_|((refine bh fun h=>?_) <;> try exact w6 h)|(refine aE fun hA=>?_;subst hA)|intro _)
 all_goals(refine aC ?_;exact aB (hK))
theorem DJ (hK:K (I6 la) (pt p [I6 sd,I6 nx,I6 la] 279::R)):CT 148 #[PO p] (pt p [I6 sd,I6 nx,I6 la] 279::R) K:=by
 refine aH Tryz.func148 ?_
 repeat' (first|refine v4 ?_|refine w5 ?_ ?_|((refine bh fun h=>?_) <;> try exact w6 h)|(refine aE fun hA=>?_;subst hA)|intro _)
 all_goals(refine aC ?_;exact aB (hK))
theorem XL (h:nx<=2147483647) (h1:0<=nx) (hK:K (.tuple #[I6 (nx+2 - 2),I6 0]) (pt p [I6 sd,I6 (nx+2),I6 la] 279::R)):CT 139 #[PO p] (pt p [I6 sd,I6 nx,I6 la] 279::R) K:=by
 refine aH Tryz.func139 ?_
 repeat' (first|refine v33 ?_|refine w5 ?_ ?_|((refine bh fun h=>?_) <;> try exact w6 h)|(refine aE fun hA=>?_;subst hA)|intro _)
 all_goals(refine aC ?_;exact aB (hK))
theorem vZ (hs:sd=0\/sd=1) (hK:K (I6 (nQ sd la id)) (pt p [I6 sd,I6 nx,I6 (if nQ sd la id=0 then id else la)] 279::R)):CT 300 #[PO p,I6 id] (pt p [I6 sd,I6 nx,I6 la] 279::R) K:=by
 cases ho:QY (1 - sd) id
 ·have e:nQ sd la id=1:=by unfold nQ;rw[ho];simp
  rw[e,if_neg (by decide)] at hK
  refine aH Tryz.func300 ?_
  repeat' (first|refine NY ?_|refine w5 ?_ ?_|((refine bh fun h=>?_) <;> try exact w6 h)|(refine aE fun hA=>?_;subst hA)|intro _|(show aA _ 387 _ _ _;refine CA (h:=D1 ?_);rw[ho]))
  all_goals(refine aC ?_;exact aB (hK))
 ·by_cases hl:la<id
  ·have e:nQ sd la id=0:=by unfold nQ;rw[ho];simp[hl]
   rw[e,if_pos rfl] at hK
   refine aH Tryz.func300 ?_
   repeat' (first|refine NY ?_|refine w5 ?_ ?_|((refine bh fun h=>?_) <;> try exact w6 h)|(refine aE fun hA=>?_;subst hA)|intro _|(show aA _ 387 _ _ _;refine CA (h:=D1 ?_);rw[ho]))
   all_goals(refine aC ?_;exact aB (hK))
  ·have e:nQ sd la id=1:=by unfold nQ;rw[ho];simp[hl]
   rw[e,if_neg (by decide)] at hK
   refine aH Tryz.func300 ?_
   repeat' (first|refine NY ?_|refine w5 ?_ ?_|((refine bh fun h=>?_) <;> try exact w6 h)|(refine aE fun hA=>?_;subst hA)|intro _|(show aA _ 387 _ _ _;refine CA (h:=D1 ?_);rw[ho]))
   all_goals(refine aC ?_;exact aB (hK))
end
structure Dr where
 se:Bool
 go:Bool
 ov:Bool
 la:Int
 th:Int
 co:Int
def pO (n least:Int):Bool:=decide (least<=n) && decide (n<=2147483647)
def Hj (d:Dr) (la:Int):Int:=if d.ov=true then 14 else if pO la 0=false then 2 else if d.se=true then 11 else 0
def BI (d:Dr) (la:Int):Dr:=if Hj d la=0 then⟨true,d.go,d.ov,la,d.th,d.co⟩ else d
def Mh (d:Dr) (la co:Int):Int:=if d.ov=true then 14 else if pO la 0=false\/pO co 0=false then 2 else if co≠0 then 0 else if d.go=true/\d.th<=la then 11 else 0
def mI (d:Dr) (la co:Int):Dr:=if Mh d la co≠0 then d else if co≠0 then⟨d.se,d.go,true,d.la,d.th,co⟩ else⟨d.se,true,d.ov,d.la,la,d.co⟩
def EH (d:Dr) (co:Int):Int:=if d.ov=true then 14 else if pO co 1=false then 2 else 0
def vY (d:Dr) (co:Int):Dr:=if EH d co=0 then⟨d.se,d.go,true,d.la,d.th,co⟩ else d
def KL (d:Dr):Bool:=!d.ov && !d.se && !d.go
def EB (d:Dr) (id:Int):Bool:=!d.ov && (!d.se || decide (id<=d.la))
def Ih (d:Dr) (id:Int):Bool:=d.go && decide (d.th<id)
def uF (d:Dr) (n:Int):Dr:=if d.ov=false/\(d.se=true\/d.go=true)/\n<=0 then⟨d.se,d.go,true,d.la,d.th,0⟩ else d
section
variable {se go ov:Bool} {la th co:Int}
theorem xG {least:Int} (hK:K (.bool (pO n least)) R):CT 245 #[I6 n,I6 least] R K:=by
 refine aH Tryz.func245 ?_
 repeat' (first|refine v1 ?_|refine w5 ?_ ?_|((refine bh fun h=>?_) <;> try exact w6 h)|(refine aE fun hA=>?_;subst hA)|intro _)
 all_goals(refine aC ?_;exact aB (kb hK (by unfold pO;simp <;> omega)))
theorem mZ (hK:K (I6 0) (pt p [.bool se,.bool go,.bool false,I6 la,I6 th,I6 co] 256::R)):CT 196 #[PO p] (pt p [.bool se,.bool go,.bool false,I6 la,I6 th,I6 co] 256::R) K:=by
 refine aH Tryz.func196 ?_
 repeat' (first|refine v4 ?_|refine w5 ?_ ?_|((refine bh fun h=>?_) <;> try exact w6 h)|(refine aE fun hA=>?_;subst hA)|intro _)
 all_goals(refine aC ?_;exact aB (hK))
theorem nE (hK:K (I6 14) (pt p [.bool se,.bool go,.bool true,I6 la,I6 th,I6 co] 256::R)):CT 196 #[PO p] (pt p [.bool se,.bool go,.bool true,I6 la,I6 th,I6 co] 256::R) K:=by
 refine aH Tryz.func196 ?_
 repeat' (first|refine v4 ?_|refine w5 ?_ ?_|((refine bh fun h=>?_) <;> try exact w6 h)|(refine aE fun hA=>?_;subst hA)|intro _)
 all_goals(refine aC ?_;exact aB (hK))
def E2:List (Nat×Nat):= [(0,0),(1,0),(2,0),(3,0),(4,0),(5,0),(6,0),(7,0),(8,0),(9,0)]
theorem YT (hK:K (.tuple #[.bool ov,I6 co]) (pt p [.bool se,.bool go,.bool ov,I6 la,I6 th,I6 co] 256::R)):CT 59 #[PO p] (pt p [.bool se,.bool go,.bool ov,I6 la,I6 th,I6 co] 256::R) K:=by
 refine aH Tryz.func59 ?_
 repeat' (first|refine v4 ?_|refine dw E2 ?_|refine w5 ?_ ?_|((refine bh fun h=>?_) <;> try exact w6 h)|(refine aE fun hA=>?_;subst hA)|intro _)
 all_goals(refine aC ?_;exact aB (hK))
theorem EN (hK:K (.tuple #[]) (pt p [.bool se,.bool go,.bool true,I6 la,I6 th,I6 n] 256::R)):CT 197 #[PO p,I6 n] (pt p [.bool se,.bool go,.bool ov,I6 la,I6 th,I6 co] 256::R) K:=by
 refine aH Tryz.func197 ?_
 repeat' (first|refine v13 ?_|refine w5 ?_ ?_|((refine bh fun h=>?_) <;> try exact w6 h)|(refine aE fun hA=>?_;subst hA)|intro _)
 all_goals(refine aC ?_;exact aB (hK))
end
def uQ (p:Nat) (n:Int):HP:=pt p [I6 n] 347
def wK (n:Int):Bool:=decide (-2147483647<=n) && decide (n<=2147483647)
def mG (n:Int):Bool:=decide (0<=n) && decide (n<=2147483647)
def xM (n b:Int):Int:=if wK (n+b)=true then 0 else 10
def Am (n b:Int):Int:=if wK (n+b)=true then n+b else n
def nI (n b:Int):Int:=if 1<=b/\b<=2147483647 then xM n b else 2
def kI (n b:Int):Int:=if 1<=b/\b<=2147483647 then Am n b else n
def qH (n k:Int):Int:=if k<0 then 2 else if max n 0<k then 9 else 0
def xI (n k:Int):Int:=if qH n k=0 then n - k else n
def kN (n a b:Int):Int:=if mG a=true/\mG b=true then xM n (b - a) else 2
def uL (n a b:Int):Int:=if mG a=true/\mG b=true then Am n (b - a) else n
theorem Cl (hK:K (.bool (mG n)) R):CT 259 #[I6 n] R K:=by
 refine aH Tryz.func259 ?_
 repeat' (first|refine v1 ?_|refine w5 ?_ ?_|((refine bh fun h=>?_) <;> try exact w6 h)|(refine aE fun hA=>?_;subst hA)|intro _)
 all_goals(refine aC ?_;exact aB (kb hK (by unfold mG;simp <;> omega)))
theorem KJ (hK:K (.bool (wK n)) R):CT 448 #[I6 n] R K:=by
 refine aH Tryz.func448 ?_
 repeat' (first|refine v1 ?_|refine w5 ?_ ?_|((refine bh fun h=>?_) <;> try exact w6 h)|(refine aE fun hA=>?_;subst hA)|intro _)
 all_goals(refine aC ?_;exact aB (kb hK (by unfold wK;simp <;> omega)))
theorem BL (h:mG n=true) (hK:∀p,K (.tuple #[PO p,I6 0]) (uQ p n::R)):CT 168 #[I6 n] R K:=by
 refine aH Tryz.func168 ?_
 repeat' (first|refine v21 ?_|refine w5 ?_ ?_|((refine bh fun h=>?_) <;> try exact w6 h)|(refine aE fun hA=>?_;subst hA)|intro _|(show aA _ 259 _ _ _;refine CA (h:=Cl ?_);rw[h]))
 all_goals(refine aC ?_;exact aB (hK _))
theorem Xr (h:mG n=false) (hK:K (.tuple #[.pointer none,I6 3]) R):CT 168 #[I6 n] R K:=by
 refine aH Tryz.func168 ?_
 repeat' (first|refine v21 ?_|refine w5 ?_ ?_|((refine bh fun h=>?_) <;> try exact w6 h)|(refine aE fun hA=>?_;subst hA)|intro _|(show aA _ 259 _ _ _;refine CA (h:=Cl ?_);rw[h]))
 all_goals(refine aC ?_;exact aB (hK))
theorem X7 (hK:K (I6 n) (uQ p n::R)):CT 369 #[PO p] (uQ p n::R) K:=by
 unfold uQ at *
 refine aH Tryz.func369 ?_
 repeat' (first|refine v4 ?_|refine w5 ?_ ?_|((refine bh fun h=>?_) <;> try exact w6 h)|(refine aE fun hA=>?_;subst hA)|intro _)
 all_goals(refine aC ?_;exact aB (hK))
theorem x8 (hK:K (I6 (max n 0)) (uQ p n::R)):CT 268 #[PO p] (uQ p n::R) K:=by
 refine aH Tryz.func268 ?_
 repeat' (first|refine v17 ?_|refine w5 ?_ ?_|((refine bh fun h=>?_) <;> try exact w6 h)|(refine aE fun hA=>?_;subst hA)|intro _|(show aA _ 369 _ _ _;refine CA (h:=X7 ?_)))
 all_goals(refine aC ?_;exact aB (hK))
theorem W4 (hK:∀q,K (PO q) (uQ q n::uQ p n::R)):CT 385 #[PO p] (uQ p n::R) K:=by
 unfold uQ at *
 refine aH Tryz.func385 ?_
 repeat' (first|refine v46 ?_|refine w5 ?_ ?_|((refine bh fun h=>?_) <;> try exact w6 h)|(refine aE fun hA=>?_;subst hA)|intro _)
 all_goals(refine aC ?_;exact aB (hK _))
theorem Qm (hn:-4294967296<=n/\n<=4294967296) (hb:-4294967296<=b/\b<=4294967296) (hK:K (I6 (xM n b)) (uQ p (Am n b)::R)):CT 436 #[PO p,I6 b] (uQ p n::R) K:=by
 cases h:wK (n+b)
 ·simp only[xM,Am,h,if_false,Bool.false_eq_true] at hK
  unfold uQ at *
  refine aH Tryz.func436 ?_
  repeat' (first|refine v37 ?_|refine w5 ?_ ?_|((refine bh fun h=>?_) <;> try exact w6 h)|(refine aE fun hA=>?_;subst hA)|intro _|(show aA _ 448 _ _ _;refine CA (h:=KJ ?_);rw[h]))
  all_goals(refine aC ?_;exact aB (hK))
 ·simp only[xM,Am,h,if_true] at hK
  unfold uQ at *
  refine aH Tryz.func436 ?_
  repeat' (first|refine v37 ?_|refine w5 ?_ ?_|((refine bh fun h=>?_) <;> try exact w6 h)|(refine aE fun hA=>?_;subst hA)|intro _|(show aA _ 448 _ _ _;refine CA (h:=KJ ?_);rw[h]))
  all_goals(refine aC ?_;exact aB (hK))
theorem L6 (hn:-4294967296<=n/\n<=4294967296) (hK:K (I6 (nI n b)) (uQ p (kI n b)::R)):CT 388 #[PO p,I6 b] (uQ p n::R) K:=by
 by_cases h1:1<=b
 ·by_cases h2:b<=2147483647
  ·have hi:mG b=true:=by unfold mG;simp;omega
   simp only[nI,kI,if_pos (show 1<=b/\b<=2147483647 from⟨h1,h2⟩)] at hK
   refine aH Tryz.func388 ?_
   repeat' (first|refine J5 ?_|refine w5 ?_ ?_|((refine bh fun h=>?_) <;> try exact w6 h)|(refine aE fun hA=>?_;subst hA)|intro _|(show aA _ 259 _ _ _;refine CA (h:=Cl ?_);rw[hi])|(show aA _ 436 _ _ _;refine CA (h:=Qm hn (by omega) ?_)))
   all_goals(refine aC ?_;exact aB (hK))
  ·have hi:mG b=false:=by unfold mG;simp;omega
   simp only[nI,kI,if_neg (show ¬(1<=b/\b<=2147483647) by omega)] at hK
   refine aH Tryz.func388 ?_
   repeat' (first|refine J5 ?_|refine w5 ?_ ?_|((refine bh fun h=>?_) <;> try exact w6 h)|(refine aE fun hA=>?_;subst hA)|intro _|(show aA _ 259 _ _ _;refine CA (h:=Cl ?_);rw[hi]))
   all_goals(refine aC ?_;exact aB (hK))
 ·simp only[nI,kI,if_neg (show ¬(1<=b/\b<=2147483647) by omega)] at hK
  refine aH Tryz.func388 ?_
  repeat' (first|refine J5 ?_|refine w5 ?_ ?_|((refine bh fun h=>?_) <;> try exact w6 h)|(refine aE fun hA=>?_;subst hA)|intro _|(show aA _ 259 _ _ _;refine CA (h:=Cl ?_)))
  all_goals(refine aC ?_;exact aB (hK))
theorem Jd (hn:-4294967296<=n/\n<=4294967296) (hk:k<=4294967296) (hK:K (I6 (qH n k)) (uQ p (xI n k)::R)):CT 285 #[PO p,I6 k] (uQ p n::R) K:=by
 by_cases h1:k<0
 ·simp only[qH,xI,if_pos h1,show ¬((2:Int)=0) by decide,if_false] at hK
  refine aH Tryz.func285 ?_
  repeat' (first|refine NY ?_|refine w5 ?_ ?_|((refine bh fun h=>?_) <;> try exact w6 h)|(refine aE fun hA=>?_;subst hA)|intro _|(show aA _ 268 _ _ _;refine CA (h:=x8 ?_)))
  all_goals(refine aC ?_;exact aB (hK))
 ·by_cases h2:max n 0<k
  ·simp only[qH,xI,if_neg h1,if_pos h2,show ¬((9:Int)=0) by decide,if_false] at hK
   refine aH Tryz.func285 ?_
   repeat' (first|refine NY ?_|refine w5 ?_ ?_|((refine bh fun h=>?_) <;> try exact w6 h)|(refine aE fun hA=>?_;subst hA)|intro _|(show aA _ 268 _ _ _;refine CA (h:=x8 ?_)))
   all_goals(refine aC ?_;exact aB (hK))
  ·simp only[qH,xI,if_neg h1,if_neg h2,if_true] at hK
   refine aH Tryz.func285 ?_
   repeat' (first|refine NY ?_|refine w5 ?_ ?_|((refine bh fun h=>?_) <;> try exact w6 h)|(refine aE fun hA=>?_;subst hA)|intro _|(show aA _ 268 _ _ _;refine CA (h:=x8 ?_)))
   all_goals(refine aC ?_;exact aB (hK))
theorem Ii (hn:-4294967296<=n/\n<=4294967296) (hK:K (I6 (kN n a b)) (uQ p (uL n a b)::R)):CT 383 #[PO p,I6 a,I6 b] (uQ p n::R) K:=by
 cases h1:mG a <;> cases h2:mG b <;> simp only[kN,uL,h1,h2,if_true,if_false,Bool.false_eq_true,and_true,and_false,true_and,false_and] at hK
 all_goals
  have g1:mG a=true->0<=a/\a<=2147483647:=fun h=>by unfold mG at h;simpa using h
  have g2:mG b=true->0<=b/\b<=2147483647:=fun h=>by unfold mG at h;simpa using h
  rw[h1] at g1
  rw[h2] at g2
  simp only[forall_const,Bool.false_eq_true,false_implies] at g1 g2
  refine aH Tryz.func383 ?_
  repeat' (first|refine v53 ?_|refine w5 ?_ ?_|((refine bh fun h=>?_) <;> try exact w6 h)|(refine aE fun hA=>?_;subst hA)|intro _|(show aA _ 259 _ _ _;refine CA (h:=Cl ?_);first|rw[h1]|rw[h2])|(show aA _ 436 _ _ _;refine CA (h:=Qm hn (by omega) ?_)))
  all_goals(refine aC ?_;exact aB (hK))
end Go.Proofs.YtepnmcipkangkaaGreat
namespace Go.Proofs.YtepnmcipkangkaaGreat
open Go Go.Proofs Go.Sl
attribute [local irreducible] aN fL cL bM aL aR aA dJ dK aU dI pt ro fC star sep bF
attribute [local irreducible] mp DG
variable {R C:List HP} {K:KP} {x y t:Int} {A:Option Addr} {n c:Nat}
structure iT where
 id:Int
 w:Nat
 sp:Int
def liD:List Value->Option iT
 | [.int .i64 id,.pointer (some ⟨w,0,none⟩),.int .i64 sp]=>some ⟨id,w,sp⟩
 |_=>none
theorem Ams (cs:List Value) (y:iT) (h:liD cs=some y): [I6 y.id,PO y.w,I6 y.sp]=cs:=by
 unfold liD at h
 split at h
 ·cases h;rfl
 ·cases h
def yN:u6 iT:= { enc:=fun p=> [I6 p.id,PO p.w,I6 p.sp],sz:=3,dec:=liD,len:=fun _=>rfl,one:=fun _=>rfl,ok:=Ams }
def Kb (x y:Int):Int:=if x<y then -1 else if y<x then 1 else 0
def AY (t:Int) (l:List iT):Nat:=(l.takeWhile fun e=>decide (e.id<t)).length
def Mr (t:Int) (l:List iT):Bool:=match l[AY t l]? with
 |some e=>decide (e.id=t)
 |none=>false
theorem TG (t:Int):∀l:List iT,AY t l<=l.length
 | []=>Nat.le_refl _
 |e::r=>by
  unfold AY
  rw[List.takeWhile_cons]
  split
  ·have:=TG t r;unfold AY at this;simp;omega
  ·simp
theorem Uu {t:Int}:∀ {l:List iT} {j:Nat} {e:iT},l.Pairwise (fun a b=>a.id<b.id)->l[j]?=some e->(e.id<t↔j<AY t l)
 | [],_,_,_,h=>by cases h
 |z::r,0,e,_,h=>by
  cases h
  unfold AY
  rw[List.takeWhile_cons]
  split
  ·rename_i hz;simp at hz;simp[hz]
  ·rename_i hz;simp at hz;simp;omega
 |z::r,j+1,e,hp,h=>by
  have hp':=(List.pairwise_cons.1 hp)
  have h':r[j]?=some e:=by simpa using h
  have ih:=Uu (t:=t) hp'.2 h'
  unfold AY at ih ⊢
  rw[List.takeWhile_cons]
  split
  ·rw[ih];simp
  ·rename_i hz
   have:=hp'.1 e (List.mem_of_getElem? h')
   simp at hz
   simp
   omega
section
variable {l:List iT} {e:iT}
theorem Jg (hK:K (.bool false) R):CT 360 #[I6 x] R K:=by
 refine aH Tryz.func360 ?_
 repeat' (first|refine v2 ?_|refine w5 ?_ ?_|((refine bh fun h=>?_) <;> try exact w6 h)|(refine aE fun hA=>?_;subst hA)|intro _)
 all_goals(refine aC ?_;exact aB (kb hK (by simp)))
theorem Ach (hK:K (I6 (Kb x y)) R):CT 253 #[I6 x,I6 y] R K:=by
 by_cases h1:x<y
 ·simp only[Kb,if_pos h1] at hK
  refine aH Tryz.func253 ?_
  repeat' (first|refine v0 ?_|refine w5 ?_ ?_|((refine bh fun h=>?_) <;> try exact w6 h)|(refine aE fun hA=>?_;subst hA)|intro _|(show aA _ 360 _ _ _;refine CA (h:=Jg ?_)))
  all_goals(refine aC ?_;exact aB (hK))
 ·by_cases h2:y<x
  ·simp only[Kb,if_neg h1,if_pos h2] at hK
   refine aH Tryz.func253 ?_
   repeat' (first|refine v0 ?_|refine w5 ?_ ?_|((refine bh fun h=>?_) <;> try exact w6 h)|(refine aE fun hA=>?_;subst hA)|intro _|(show aA _ 360 _ _ _;refine CA (h:=Jg ?_)))
   all_goals(refine aC ?_;exact aB (hK))
  ·simp only[Kb,if_neg h1,if_neg h2] at hK
   refine aH Tryz.func253 ?_
   repeat' (first|refine v0 ?_|refine w5 ?_ ?_|((refine bh fun h=>?_) <;> try exact w6 h)|(refine aE fun hA=>?_;subst hA)|intro _|(show aA _ 360 _ _ _;refine CA (h:=Jg ?_)))
   all_goals(refine aC ?_;exact aB (hK))
theorem Mm (hK:K (I6 (Kb e.id t)) R):CT 252 #[.agg #[I6 e.id,PO e.w,I6 e.sp],I6 t] R K:=by
 refine aH Tryz.func252 ?_
 repeat' (first|refine v19 ?_|refine w5 ?_ ?_|((refine bh fun h=>?_) <;> try exact w6 h)|(refine aE fun hA=>?_;subst hA)|intro _|(show aA _ 253 _ _ _;refine CA (h:=Ach ?_)))
 all_goals(refine aC ?_;exact aB (hK))
theorem Aol {i j:Nat} (h:i+j<1000000000):((i:Int)+j) % 18446744073709551616 / 2 ^ (1:Int).toNat=((i+j) / 2:Nat):=by
 rw[show(2:Int) ^ (1:Int).toNat=2 from rfl]
 omega
theorem M4 (hv:dW C A yN l) (hn:l.length=n) (hs:n<=100000) (hp:l.Pairwise fun a b=>a.id<b.id) (hK:K (.tuple #[I6 (AY t l),.bool (Mr t l)]) C):CT 251 #[.slice A n c,I6 t,.func (.func 252) #[] #[]] C K:=by
 subst hn
 have hle:=TG t l
 refine aH Tryz.func251 ?_
 repeat' (first|refine v86 ?_|refine w5 ?_ ?_|((refine bh fun h=>?_) <;> try exact w6 h)|(refine aE fun hA=>?_;subst hA)|intro _)
 refine jA (fun kk a C'=>∃(i jj:Nat),i+kk=jj/\i<=AY t l/\AY t l<=jj/\jj<=l.length/\dH a [(0,.slice A l.length c),(1,I6 t),(2,.func (.func 252) #[] #[]),(8,I6 l.length),(9,I6 i),(10,I6 jj)]/\C'=C) l.length (cJ l.length ⟨0,l.length,by omega,Nat.zero_le _,hle,Nat.le_refl _,⟨rfl,rfl,rfl,rfl,rfl,rfl,trivial⟩,rfl⟩ (by omega)) ?_
 rintro kk a C' ⟨i,jj,hk,h1,h2,h3,ha,rfl⟩
 refine i6 _ ha ?_
 simp only[gJ]
 by_cases hlt:i<jj
 ·have hhalf:=Aol (i:=i) (j:=jj) (by omega)
  obtain⟨e,he⟩:∃e,l[(i+jj) / 2]?=some e:=⟨_,List.getElem?_eq_getElem (by omega)⟩
  have he':l[(((i:Int)+jj) % 18446744073709551616 / 2 ^ (1:Int).toNat).toNat]?=some e:=by rw[hhalf];exact he
  have hiff:=Uu (t:=t) hp he
  by_cases hc:e.id<t
  ·have hv1:Kb e.id t=-1:=if_pos hc
   have hj:=hiff.1 hc
   repeat' (first|refine v86 ?_|refine w5 ?_ ?_|((refine bh fun h=>?_) <;> try exact w6 h)|(refine aE fun hA=>?_;subst hA)|intro _|(show aA _ 252 _ _ _;refine CA (h:=Mm ?_);rw[hv1]))
   all_goals(show aU _ _ _ _;exact cJ (kk - ((i+jj) / 2+1 - i)) ⟨(i+jj) / 2+1,jj,by omega,by omega,h2,h3,⟨rfl,rfl,rfl,rfl,congrArg (Value.int .i64) (by rw[hhalf];omega),rfl,trivial⟩,rfl⟩)
  ·have hj:¬(i+jj) / 2<AY t l:=fun q=>hc (hiff.2 q)
   have hv1:¬Kb e.id t<0:=by unfold Kb;rw[if_neg hc];split <;> omega
   repeat' (first|refine v86 ?_|refine w5 ?_ ?_|((refine bh fun h=>?_) <;> try exact w6 h)|(refine aE fun hA=>?_;subst hA)|intro _|(show aA _ 252 _ _ _;refine CA (h:=Mm ?_)))
   all_goals(show aU _ _ _ _;exact cJ (kk - (jj - (i+jj) / 2)) ⟨i,(i+jj) / 2,by omega,h1,by omega,by omega,⟨rfl,rfl,rfl,rfl,rfl,congrArg (Value.int .i64) hhalf,trivial⟩,rfl⟩)
 ·obtain rfl:i=AY t l:=by omega
  by_cases hn:AY t l<l.length
  ·obtain⟨e,he⟩:∃e,l[AY t l]?=some e:=⟨_,List.getElem?_eq_getElem hn⟩
   have hf:Mr t l=decide (e.id=t):=by unfold Mr;rw[he]
   have hiff:=Uu (t:=t) hp he
   rw[hf] at hK
   have e9:(Kb e.id t == 0)=decide (e.id=t):=by
    unfold Kb
    by_cases hq:e.id=t
    ·simp[hq]
    ·have:¬e.id<t:=fun q=>absurd (hiff.1 q) (Nat.lt_irrefl _)
     rw[if_neg this,if_pos (by omega)]
     simp[hq]
   repeat' (first|refine v86 ?_|refine w5 ?_ ?_|((refine bh fun h=>?_) <;> try exact w6 h)|(refine aE fun hA=>?_;subst hA)|intro _|(show aA _ 252 _ _ _;refine CA (h:=Mm ?_)))
   all_goals(refine aC ?_;exact aB ((by rw[e9];exact hK)))
  ·have hf:Mr t l=false:=by unfold Mr;rw[List.getElem?_eq_none (by omega)]
   rw[hf] at hK
   repeat' (first|refine v86 ?_|refine w5 ?_ ?_|((refine bh fun h=>?_) <;> try exact w6 h)|(refine aE fun hA=>?_;subst hA)|intro _)
   all_goals(refine aC ?_;exact aB (hK))
end
end Go.Proofs.YtepnmcipkangkaaGreat
