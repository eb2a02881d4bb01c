/- A part of the proof: lemmas; each with the conditions that it states. -/
import Derived.Test.YtepnmcipkangkaaGreatPaf
set_option linter.unusedVariables false
set_option linter.unusedSimpArgs false
set_option maxRecDepth 100000
set_option maxHeartbeats 40000000
namespace Go.Proofs.YtepnmcipkangkaaGreat
open Go Go.Proofs Go.Sl
attribute [local irreducible] aN fJ cY bN aM aS aA dM dN aV dL pt ro fB star sep bF
variable {R C:List HP} {K:KP} {sd nx id n b k a:Int} {p r:Nat}
def PI (sd id:Int):Bool:=decide (1<=id) && decide (id<=2147483647) && (decide (id % 2=1) == decide (sd=0))
def nF (sd la id:Int):Int:=if PI (1 - sd) id=true/\la<id then 0 else 1
def gF (sd nx la id:Int):Bool:=decide (1<=id) && decide (id<=2147483647) && (if PI sd id=true then decide (id<nx) else decide (id<=la))
section
variable {la:Int}
theorem YV (h:1<=id) (hK:K (.bool (decide (id % 2=1))) (pt r [I6 id] 3::R)):CT 437 #[PO r] (pt r [I6 id] 3::R) K:=by
 refine aH Tryz.func437 ?_
 repeat' (first|refine v27 ?_|refine w5 ?_ ?_|((refine bh fun h=>?_) <;> try exact w6 h)|(refine aE fun hA=>?_;subst hA)|intro _)
 all_goals(refine aC ?_;exact aB (kb hK (by simp)))
theorem EX (hK:K (.bool (PI sd id)) R):CT 387 #[I6 sd,I6 id] R K:=by
 by_cases hr:1<=id/\id<=2147483647
 ·refine aH Tryz.func387 ?_
  repeat' (first|refine v26 ?_|refine w5 ?_ ?_|((refine bh fun h=>?_) <;> try exact w6 h)|(refine aE fun hA=>?_;subst hA)|intro _|(show aA _ 437 _ _ _;refine CA (h:=YV (by omega) ?_)))
  all_goals(refine aC ?_;exact aB (kb hK (by unfold PI;rw[show(sd == 0)=decide (sd=0) from by cases hq:(sd == 0) <;> simp_all];simp[hr.1,hr.2])))
 ·refine aH Tryz.func387 ?_
  repeat' (first|refine v26 ?_|refine w5 ?_ ?_|((refine bh fun h=>?_) <;> try exact w6 h)|(refine aE fun hA=>?_;subst hA)|intro _)
  all_goals(refine aC ?_;exact aB (kb hK (by unfold PI;simp;omega)))
theorem IC (hK:K (.bool (PI sd id)) (pt p [I6 sd,I6 nx,I6 la] 279::R)):CT 342 #[PO p,I6 id] (pt p [I6 sd,I6 nx,I6 la] 279::R) K:=by
 refine aH Tryz.func342 ?_
 repeat' (first|refine v48 ?_|refine w5 ?_ ?_|((refine bh fun h=>?_) <;> try exact w6 h)|(refine aE fun hA=>?_;subst hA)|intro _|(show aA _ 387 _ _ _;refine CA (h:=EX ?_)))
 all_goals(refine aC ?_;exact aB (hK))
theorem DU (hK:K (.bool (gF sd nx la id)) (pt p [I6 sd,I6 nx,I6 la] 279::R)):CT 236 #[PO p,I6 id] (pt p [I6 sd,I6 nx,I6 la] 279::R) K:=by
 cases ho:PI sd id
 ·refine aH Tryz.func236 ?_
  repeat' (first|refine Kv ?_|refine w5 ?_ ?_|((refine bh fun h=>?_) <;> try exact w6 h)|(refine aE fun hA=>?_;subst hA)|intro _|(show aA _ 342 _ _ _;refine CA (h:=IC ?_);rw[ho]))
  all_goals(refine aC ?_;exact aB (kb hK (by unfold gF;simp[ho] <;> omega)))
 ·refine aH Tryz.func236 ?_
  repeat' (first|refine Kv ?_|refine w5 ?_ ?_|((refine bh fun h=>?_) <;> try exact w6 h)|(refine aE fun hA=>?_;subst hA)|intro _|(show aA _ 342 _ _ _;refine CA (h:=IC ?_);rw[ho]))
  all_goals(refine aC ?_;exact aB (kb hK (by unfold gF;simp[ho] <;> omega)))
theorem mX (hK:K (I6 nx) (pt p [I6 sd,I6 nx,I6 la] 279::R)):CT 135 #[PO p] (pt p [I6 sd,I6 nx,I6 la] 279::R) K:=by
 refine aH Tryz.func135 ?_
 repeat' (first|refine v4 ?_|refine w5 ?_ ?_|((refine bh fun h=>?_) <;> try exact w6 h)|(refine aE fun hA=>?_;subst hA)|intro _)
 all_goals(refine aC ?_;exact aB (hK))
theorem DR (hK:K (I6 la) (pt p [I6 sd,I6 nx,I6 la] 279::R)):CT 148 #[PO p] (pt p [I6 sd,I6 nx,I6 la] 279::R) K:=by
 refine aH Tryz.func148 ?_
 repeat' (first|refine v4 ?_|refine w5 ?_ ?_|((refine bh fun h=>?_) <;> try exact w6 h)|(refine aE fun hA=>?_;subst hA)|intro _)
 all_goals(refine aC ?_;exact aB (hK))
theorem YA (h:nx<=2147483647) (h1:0<=nx) (hK:K (.tuple #[I6 (nx+2 - 2),I6 0]) (pt p [I6 sd,I6 (nx+2),I6 la] 279::R)):CT 139 #[PO p] (pt p [I6 sd,I6 nx,I6 la] 279::R) K:=by
 refine aH Tryz.func139 ?_
 repeat' (first|refine v33 ?_|refine w5 ?_ ?_|((refine bh fun h=>?_) <;> try exact w6 h)|(refine aE fun hA=>?_;subst hA)|intro _)
 all_goals(refine aC ?_;exact aB (hK))
theorem vT (hs:sd=0\/sd=1) (hK:K (I6 (nF sd la id)) (pt p [I6 sd,I6 nx,I6 (if nF sd la id=0 then id else la)] 279::R)):CT 300 #[PO p,I6 id] (pt p [I6 sd,I6 nx,I6 la] 279::R) K:=by
 cases ho:PI (1 - sd) id
 ·have e:nF sd la id=1:=by unfold nF;rw[ho];simp
  rw[e,if_neg (by decide)] at hK
  refine aH Tryz.func300 ?_
  repeat' (first|refine N7 ?_|refine w5 ?_ ?_|((refine bh fun h=>?_) <;> try exact w6 h)|(refine aE fun hA=>?_;subst hA)|intro _|(show aA _ 387 _ _ _;refine CA (h:=EX ?_);rw[ho]))
  all_goals(refine aC ?_;exact aB (hK))
 ·by_cases hl:la<id
  ·have e:nF sd la id=0:=by unfold nF;rw[ho];simp[hl]
   rw[e,if_pos rfl] at hK
   refine aH Tryz.func300 ?_
   repeat' (first|refine N7 ?_|refine w5 ?_ ?_|((refine bh fun h=>?_) <;> try exact w6 h)|(refine aE fun hA=>?_;subst hA)|intro _|(show aA _ 387 _ _ _;refine CA (h:=EX ?_);rw[ho]))
   all_goals(refine aC ?_;exact aB (hK))
  ·have e:nF sd la id=1:=by unfold nF;rw[ho];simp[hl]
   rw[e,if_neg (by decide)] at hK
   refine aH Tryz.func300 ?_
   repeat' (first|refine N7 ?_|refine w5 ?_ ?_|((refine bh fun h=>?_) <;> try exact w6 h)|(refine aE fun hA=>?_;subst hA)|intro _|(show aA _ 387 _ _ _;refine CA (h:=EX ?_);rw[ho]))
   all_goals(refine aC ?_;exact aB (hK))
end
structure Dr where
 se:Bool
 go:Bool
 ov:Bool
 la:Int
 th:Int
 co:Int
def pH (n least:Int):Bool:=decide (least<=n) && decide (n<=2147483647)
def HZ (d:Dr) (la:Int):Int:=if d.ov=true then 14 else if pH la 0=false then 2 else if d.se=true then 11 else 0
def AQ (d:Dr) (la:Int):Dr:=if HZ d la=0 then⟨true,d.go,d.ov,la,d.th,d.co⟩ else d
def OY (d:Dr) (la co:Int):Int:=if d.ov=true then 14 else if pH la 0=false\/pH co 0=false then 2 else if co≠0 then 0 else if d.go=true/\d.th<=la then 11 else 0
def mC (d:Dr) (la co:Int):Dr:=if OY d la co≠0 then d else if co≠0 then⟨d.se,d.go,true,d.la,d.th,co⟩ else⟨d.se,true,d.ov,d.la,la,d.co⟩
def Eo (d:Dr) (co:Int):Int:=if d.ov=true then 14 else if pH co 1=false then 2 else 0
def wJ (d:Dr) (co:Int):Dr:=if Eo d co=0 then⟨d.se,d.go,true,d.la,d.th,co⟩ else d
def L5 (d:Dr):Bool:=!d.ov && !d.se && !d.go
def E4 (d:Dr) (id:Int):Bool:=!d.ov && (!d.se || decide (id<=d.la))
def IB (d:Dr) (id:Int):Bool:=d.go && decide (d.th<id)
def tP (d:Dr) (n:Int):Dr:=if d.ov=false/\(d.se=true\/d.go=true)/\n<=0 then⟨d.se,d.go,true,d.la,d.th,0⟩ else d
section
variable {se go ov:Bool} {la th co:Int}
theorem xF {least:Int} (hK:K (.bool (pH n least)) R):CT 245 #[I6 n,I6 least] R K:=by
 refine aH Tryz.func245 ?_
 repeat' (first|refine v1 ?_|refine w5 ?_ ?_|((refine bh fun h=>?_) <;> try exact w6 h)|(refine aE fun hA=>?_;subst hA)|intro _)
 all_goals(refine aC ?_;exact aB (kb hK (by unfold pH;simp <;> omega)))
theorem mV (hK:K (I6 0) (pt p [.bool se,.bool go,.bool false,I6 la,I6 th,I6 co] 256::R)):CT 196 #[PO p] (pt p [.bool se,.bool go,.bool false,I6 la,I6 th,I6 co] 256::R) K:=by
 refine aH Tryz.func196 ?_
 repeat' (first|refine v4 ?_|refine w5 ?_ ?_|((refine bh fun h=>?_) <;> try exact w6 h)|(refine aE fun hA=>?_;subst hA)|intro _)
 all_goals(refine aC ?_;exact aB (hK))
theorem mR (hK:K (I6 14) (pt p [.bool se,.bool go,.bool true,I6 la,I6 th,I6 co] 256::R)):CT 196 #[PO p] (pt p [.bool se,.bool go,.bool true,I6 la,I6 th,I6 co] 256::R) K:=by
 refine aH Tryz.func196 ?_
 repeat' (first|refine v4 ?_|refine w5 ?_ ?_|((refine bh fun h=>?_) <;> try exact w6 h)|(refine aE fun hA=>?_;subst hA)|intro _)
 all_goals(refine aC ?_;exact aB (hK))
def FF:List (Nat×Nat):= [(0,0),(1,0),(2,0),(3,0),(4,0),(5,0),(6,0),(7,0),(8,0),(9,0)]
theorem Xu (hK:K (.tuple #[.bool ov,I6 co]) (pt p [.bool se,.bool go,.bool ov,I6 la,I6 th,I6 co] 256::R)):CT 59 #[PO p] (pt p [.bool se,.bool go,.bool ov,I6 la,I6 th,I6 co] 256::R) K:=by
 refine aH Tryz.func59 ?_
 repeat' (first|refine v4 ?_|refine dw FF ?_|refine w5 ?_ ?_|((refine bh fun h=>?_) <;> try exact w6 h)|(refine aE fun hA=>?_;subst hA)|intro _)
 all_goals(refine aC ?_;exact aB (hK))
theorem E2 (hK:K (.tuple #[]) (pt p [.bool se,.bool go,.bool true,I6 la,I6 th,I6 n] 256::R)):CT 197 #[PO p,I6 n] (pt p [.bool se,.bool go,.bool ov,I6 la,I6 th,I6 co] 256::R) K:=by
 refine aH Tryz.func197 ?_
 repeat' (first|refine v13 ?_|refine w5 ?_ ?_|((refine bh fun h=>?_) <;> try exact w6 h)|(refine aE fun hA=>?_;subst hA)|intro _)
 all_goals(refine aC ?_;exact aB (hK))
end
def uC (p:Nat) (n:Int):HP:=pt p [I6 n] 347
def vW (n:Int):Bool:=decide (-2147483647<=n) && decide (n<=2147483647)
def lZ (n:Int):Bool:=decide (0<=n) && decide (n<=2147483647)
def xM (n b:Int):Int:=if vW (n+b)=true then 0 else 10
def AA (n b:Int):Int:=if vW (n+b)=true then n+b else n
def m9 (n b:Int):Int:=if 1<=b/\b<=2147483647 then xM n b else 2
def j8 (n b:Int):Int:=if 1<=b/\b<=2147483647 then AA n b else n
def qA (n k:Int):Int:=if k<0 then 2 else if max n 0<k then 9 else 0
def wW (n k:Int):Int:=if qA n k=0 then n - k else n
def j7 (n a b:Int):Int:=if lZ a=true/\lZ b=true then xM n (b - a) else 2
def uD (n a b:Int):Int:=if lZ a=true/\lZ b=true then AA n (b - a) else n
theorem Ce (hK:K (.bool (lZ n)) R):CT 259 #[I6 n] R K:=by
 refine aH Tryz.func259 ?_
 repeat' (first|refine v1 ?_|refine w5 ?_ ?_|((refine bh fun h=>?_) <;> try exact w6 h)|(refine aE fun hA=>?_;subst hA)|intro _)
 all_goals(refine aC ?_;exact aB (kb hK (by unfold lZ;simp <;> omega)))
theorem Lo (hK:K (.bool (vW n)) R):CT 448 #[I6 n] R K:=by
 refine aH Tryz.func448 ?_
 repeat' (first|refine v1 ?_|refine w5 ?_ ?_|((refine bh fun h=>?_) <;> try exact w6 h)|(refine aE fun hA=>?_;subst hA)|intro _)
 all_goals(refine aC ?_;exact aB (kb hK (by unfold vW;simp <;> omega)))
theorem BQ (h:lZ n=true) (hK:∀p,K (.tuple #[PO p,I6 0]) (uC p n::R)):CT 168 #[I6 n] R K:=by
 refine aH Tryz.func168 ?_
 repeat' (first|refine v21 ?_|refine w5 ?_ ?_|((refine bh fun h=>?_) <;> try exact w6 h)|(refine aE fun hA=>?_;subst hA)|intro _|(show aA _ 259 _ _ _;refine CA (h:=Ce ?_);rw[h]))
 all_goals(refine aC ?_;exact aB (hK _))
theorem Y9 (h:lZ n=false) (hK:K (.tuple #[.pointer none,I6 3]) R):CT 168 #[I6 n] R K:=by
 refine aH Tryz.func168 ?_
 repeat' (first|refine v21 ?_|refine w5 ?_ ?_|((refine bh fun h=>?_) <;> try exact w6 h)|(refine aE fun hA=>?_;subst hA)|intro _|(show aA _ 259 _ _ _;refine CA (h:=Ce ?_);rw[h]))
 all_goals(refine aC ?_;exact aB (hK))
theorem ZS (hK:K (I6 n) (uC p n::R)):CT 369 #[PO p] (uC p n::R) K:=by
 unfold uC at *
 refine aH Tryz.func369 ?_
 repeat' (first|refine v4 ?_|refine w5 ?_ ?_|((refine bh fun h=>?_) <;> try exact w6 h)|(refine aE fun hA=>?_;subst hA)|intro _)
 all_goals(refine aC ?_;exact aB (hK))
theorem yU (hK:K (I6 (max n 0)) (uC p n::R)):CT 268 #[PO p] (uC p n::R) K:=by
 refine aH Tryz.func268 ?_
 repeat' (first|refine v17 ?_|refine w5 ?_ ?_|((refine bh fun h=>?_) <;> try exact w6 h)|(refine aE fun hA=>?_;subst hA)|intro _|(show aA _ 369 _ _ _;refine CA (h:=ZS ?_)))
 all_goals(refine aC ?_;exact aB (hK))
theorem Zh (hK:∀q,K (PO q) (uC q n::uC p n::R)):CT 385 #[PO p] (uC p n::R) K:=by
 unfold uC at *
 refine aH Tryz.func385 ?_
 repeat' (first|refine v46 ?_|refine w5 ?_ ?_|((refine bh fun h=>?_) <;> try exact w6 h)|(refine aE fun hA=>?_;subst hA)|intro _)
 all_goals(refine aC ?_;exact aB (hK _))
theorem RP (hn:-4294967296<=n/\n<=4294967296) (hb:-4294967296<=b/\b<=4294967296) (hK:K (I6 (xM n b)) (uC p (AA n b)::R)):CT 436 #[PO p,I6 b] (uC p n::R) K:=by
 cases h:vW (n+b)
 ·simp only[xM,AA,h,if_false,Bool.false_eq_true] at hK
  unfold uC at *
  refine aH Tryz.func436 ?_
  repeat' (first|refine v37 ?_|refine w5 ?_ ?_|((refine bh fun h=>?_) <;> try exact w6 h)|(refine aE fun hA=>?_;subst hA)|intro _|(show aA _ 448 _ _ _;refine CA (h:=Lo ?_);rw[h]))
  all_goals(refine aC ?_;exact aB (hK))
 ·simp only[xM,AA,h,if_true] at hK
  unfold uC at *
  refine aH Tryz.func436 ?_
  repeat' (first|refine v37 ?_|refine w5 ?_ ?_|((refine bh fun h=>?_) <;> try exact w6 h)|(refine aE fun hA=>?_;subst hA)|intro _|(show aA _ 448 _ _ _;refine CA (h:=Lo ?_);rw[h]))
  all_goals(refine aC ?_;exact aB (hK))
theorem LV (hn:-4294967296<=n/\n<=4294967296) (hK:K (I6 (m9 n b)) (uC p (j8 n b)::R)):CT 388 #[PO p,I6 b] (uC p n::R) K:=by
 by_cases h1:1<=b
 ·by_cases h2:b<=2147483647
  ·have hi:lZ b=true:=by unfold lZ;simp;omega
   simp only[m9,j8,if_pos (show 1<=b/\b<=2147483647 from⟨h1,h2⟩)] at hK
   refine aH Tryz.func388 ?_
   repeat' (first|refine Kv ?_|refine w5 ?_ ?_|((refine bh fun h=>?_) <;> try exact w6 h)|(refine aE fun hA=>?_;subst hA)|intro _|(show aA _ 259 _ _ _;refine CA (h:=Ce ?_);rw[hi])|(show aA _ 436 _ _ _;refine CA (h:=RP hn (by omega) ?_)))
   all_goals(refine aC ?_;exact aB (hK))
  ·have hi:lZ b=false:=by unfold lZ;simp;omega
   simp only[m9,j8,if_neg (show ¬(1<=b/\b<=2147483647) by omega)] at hK
   refine aH Tryz.func388 ?_
   repeat' (first|refine Kv ?_|refine w5 ?_ ?_|((refine bh fun h=>?_) <;> try exact w6 h)|(refine aE fun hA=>?_;subst hA)|intro _|(show aA _ 259 _ _ _;refine CA (h:=Ce ?_);rw[hi]))
   all_goals(refine aC ?_;exact aB (hK))
 ·simp only[m9,j8,if_neg (show ¬(1<=b/\b<=2147483647) by omega)] at hK
  refine aH Tryz.func388 ?_
  repeat' (first|refine Kv ?_|refine w5 ?_ ?_|((refine bh fun h=>?_) <;> try exact w6 h)|(refine aE fun hA=>?_;subst hA)|intro _|(show aA _ 259 _ _ _;refine CA (h:=Ce ?_)))
  all_goals(refine aC ?_;exact aB (hK))
theorem IM (hn:-4294967296<=n/\n<=4294967296) (hk:k<=4294967296) (hK:K (I6 (qA n k)) (uC p (wW n k)::R)):CT 285 #[PO p,I6 k] (uC p n::R) K:=by
 by_cases h1:k<0
 ·simp only[qA,wW,if_pos h1,show ¬((2:Int)=0) by decide,if_false] at hK
  refine aH Tryz.func285 ?_
  repeat' (first|refine N7 ?_|refine w5 ?_ ?_|((refine bh fun h=>?_) <;> try exact w6 h)|(refine aE fun hA=>?_;subst hA)|intro _|(show aA _ 268 _ _ _;refine CA (h:=yU ?_)))
  all_goals(refine aC ?_;exact aB (hK))
 ·by_cases h2:max n 0<k
  ·simp only[qA,wW,if_neg h1,if_pos h2,show ¬((9:Int)=0) by decide,if_false] at hK
   refine aH Tryz.func285 ?_
   repeat' (first|refine N7 ?_|refine w5 ?_ ?_|((refine bh fun h=>?_) <;> try exact w6 h)|(refine aE fun hA=>?_;subst hA)|intro _|(show aA _ 268 _ _ _;refine CA (h:=yU ?_)))
   all_goals(refine aC ?_;exact aB (hK))
  ·simp only[qA,wW,if_neg h1,if_neg h2,if_true] at hK
   refine aH Tryz.func285 ?_
   repeat' (first|refine N7 ?_|refine w5 ?_ ?_|((refine bh fun h=>?_) <;> try exact w6 h)|(refine aE fun hA=>?_;subst hA)|intro _|(show aA _ 268 _ _ _;refine CA (h:=yU ?_)))
   all_goals(refine aC ?_;exact aB (hK))
theorem IT (hn:-4294967296<=n/\n<=4294967296) (hK:K (I6 (j7 n a b)) (uC p (uD n a b)::R)):CT 383 #[PO p,I6 a,I6 b] (uC p n::R) K:=by
 cases h1:lZ a <;> cases h2:lZ b <;> simp only[j7,uD,h1,h2,if_true,if_false,Bool.false_eq_true,and_true,and_false,true_and,false_and] at hK
 all_goals
  have g1:lZ a=true->0<=a/\a<=2147483647:=fun h=>by unfold lZ at h;simpa using h
  have g2:lZ b=true->0<=b/\b<=2147483647:=fun h=>by unfold lZ at h;simpa using h
  rw[h1] at g1
  rw[h2] at g2
  simp only[forall_const,Bool.false_eq_true,false_implies] at g1 g2
  refine aH Tryz.func383 ?_
  repeat' (first|refine v53 ?_|refine w5 ?_ ?_|((refine bh fun h=>?_) <;> try exact w6 h)|(refine aE fun hA=>?_;subst hA)|intro _|(show aA _ 259 _ _ _;refine CA (h:=Ce ?_);first|rw[h1]|rw[h2])|(show aA _ 436 _ _ _;refine CA (h:=RP hn (by omega) ?_)))
  all_goals(refine aC ?_;exact aB (hK))
end Go.Proofs.YtepnmcipkangkaaGreat
namespace Go.Proofs.YtepnmcipkangkaaGreat
open Go Go.Proofs Go.Sl
attribute [local irreducible] aN fJ cY bN aM aS aA dM dN aV dL pt ro fB star sep bF
attribute [local irreducible] mp CV
variable {R C:List HP} {K:KP} {x y t:Int} {A:Option Addr} {n c:Nat}
structure iO where
 id:Int
 w:Nat
 sp:Int
def liD:List Value->Option iO
 | [.int .i64 id,.pointer (some ⟨w,0,none⟩),.int .i64 sp]=>some ⟨id,w,sp⟩
 |_=>none
theorem Aou (cs:List Value) (y:iO) (h:liD cs=some y): [I6 y.id,PO y.w,I6 y.sp]=cs:=by
 unfold liD at h
 split at h
 ·cases h;rfl
 ·cases h
def yI:u5 iO:= { enc:=fun p=> [I6 p.id,PO p.w,I6 p.sp],sz:=3,dec:=liD,len:=fun _=>rfl,one:=fun _=>rfl,ok:=Aou }
def KF (x y:Int):Int:=if x<y then -1 else if y<x then 1 else 0
def Bn (t:Int) (l:List iO):Nat:=(l.takeWhile fun e=>decide (e.id<t)).length
def Nh (t:Int) (l:List iO):Bool:=match l[Bn t l]? with
 |some e=>decide (e.id=t)
 |none=>false
theorem TH (t:Int):∀l:List iO,Bn t l<=l.length
 | []=>Nat.le_refl _
 |e::r=>by
  unfold Bn
  rw[List.takeWhile_cons]
  split
  ·have:=TH t r;unfold Bn at this;simp;omega
  ·simp
theorem UF {t:Int}:∀ {l:List iO} {j:Nat} {e:iO},l.Pairwise (fun a b=>a.id<b.id)->l[j]?=some e->(e.id<t↔j<Bn t l)
 | [],_,_,_,h=>by cases h
 |z::r,0,e,_,h=>by
  cases h
  unfold Bn
  rw[List.takeWhile_cons]
  split
  ·rename_i hz;simp at hz;simp[hz]
  ·rename_i hz;simp at hz;simp;omega
 |z::r,j+1,e,hp,h=>by
  have hp':=(List.pairwise_cons.1 hp)
  have h':r[j]?=some e:=by simpa using h
  have ih:=UF (t:=t) hp'.2 h'
  unfold Bn at ih ⊢
  rw[List.takeWhile_cons]
  split
  ·rw[ih];simp
  ·rename_i hz
   have:=hp'.1 e (List.mem_of_getElem? h')
   simp at hz
   simp
   omega
section
variable {l:List iO} {e:iO}
theorem Jv (hK:K (.bool false) R):CT 360 #[I6 x] R K:=by
 refine aH Tryz.func360 ?_
 repeat' (first|refine v2 ?_|refine w5 ?_ ?_|((refine bh fun h=>?_) <;> try exact w6 h)|(refine aE fun hA=>?_;subst hA)|intro _)
 all_goals(refine aC ?_;exact aB (kb hK (by simp)))
theorem Ac3 (hK:K (I6 (KF x y)) R):CT 253 #[I6 x,I6 y] R K:=by
 by_cases h1:x<y
 ·simp only[KF,if_pos h1] at hK
  refine aH Tryz.func253 ?_
  repeat' (first|refine v0 ?_|refine w5 ?_ ?_|((refine bh fun h=>?_) <;> try exact w6 h)|(refine aE fun hA=>?_;subst hA)|intro _|(show aA _ 360 _ _ _;refine CA (h:=Jv ?_)))
  all_goals(refine aC ?_;exact aB (hK))
 ·by_cases h2:y<x
  ·simp only[KF,if_neg h1,if_pos h2] at hK
   refine aH Tryz.func253 ?_
   repeat' (first|refine v0 ?_|refine w5 ?_ ?_|((refine bh fun h=>?_) <;> try exact w6 h)|(refine aE fun hA=>?_;subst hA)|intro _|(show aA _ 360 _ _ _;refine CA (h:=Jv ?_)))
   all_goals(refine aC ?_;exact aB (hK))
  ·simp only[KF,if_neg h1,if_neg h2] at hK
   refine aH Tryz.func253 ?_
   repeat' (first|refine v0 ?_|refine w5 ?_ ?_|((refine bh fun h=>?_) <;> try exact w6 h)|(refine aE fun hA=>?_;subst hA)|intro _|(show aA _ 360 _ _ _;refine CA (h:=Jv ?_)))
   all_goals(refine aC ?_;exact aB (hK))
theorem NH (hK:K (I6 (KF e.id t)) R):CT 252 #[.agg #[I6 e.id,PO e.w,I6 e.sp],I6 t] R K:=by
 refine aH Tryz.func252 ?_
 repeat' (first|refine v19 ?_|refine w5 ?_ ?_|((refine bh fun h=>?_) <;> try exact w6 h)|(refine aE fun hA=>?_;subst hA)|intro _|(show aA _ 253 _ _ _;refine CA (h:=Ac3 ?_)))
 all_goals(refine aC ?_;exact aB (hK))
theorem Aml {i j:Nat} (h:i+j<1000000000):((i:Int)+j) % 18446744073709551616 / 2 ^ (1:Int).toNat=((i+j) / 2:Nat):=by
 rw[show(2:Int) ^ (1:Int).toNat=2 from rfl]
 omega
theorem OT (hv:d4 C A yI l) (hn:l.length=n) (hs:n<=100000) (hp:l.Pairwise fun a b=>a.id<b.id) (hK:K (.tuple #[I6 (Bn t l),.bool (Nh t l)]) C):CT 251 #[.slice A n c,I6 t,.func (.func 252) #[] #[]] C K:=by
 subst hn
 have hle:=TH t l
 refine aH Tryz.func251 ?_
 repeat' (first|refine v86 ?_|refine w5 ?_ ?_|((refine bh fun h=>?_) <;> try exact w6 h)|(refine aE fun hA=>?_;subst hA)|intro _)
 refine jG (fun kk a C'=>∃(i jj:Nat),i+kk=jj/\i<=Bn t l/\Bn t l<=jj/\jj<=l.length/\dP a [(0,.slice A l.length c),(1,I6 t),(2,.func (.func 252) #[] #[]),(8,I6 l.length),(9,I6 i),(10,I6 jj)]/\C'=C) l.length (cN l.length ⟨0,l.length,by omega,Nat.zero_le _,hle,Nat.le_refl _,⟨rfl,rfl,rfl,rfl,rfl,rfl,trivial⟩,rfl⟩ (by omega)) ?_
 rintro kk a C' ⟨i,jj,hk,h1,h2,h3,ha,rfl⟩
 refine iT _ ha ?_
 simp only[gH]
 by_cases hlt:i<jj
 ·have hhalf:=Aml (i:=i) (j:=jj) (by omega)
  obtain⟨e,he⟩:∃e,l[(i+jj) / 2]?=some e:=⟨_,List.getElem?_eq_getElem (by omega)⟩
  have he':l[(((i:Int)+jj) % 18446744073709551616 / 2 ^ (1:Int).toNat).toNat]?=some e:=by rw[hhalf];exact he
  have hiff:=UF (t:=t) hp he
  by_cases hc:e.id<t
  ·have hv1:KF e.id t=-1:=if_pos hc
   have hj:=hiff.1 hc
   repeat' (first|refine v86 ?_|refine w5 ?_ ?_|((refine bh fun h=>?_) <;> try exact w6 h)|(refine aE fun hA=>?_;subst hA)|intro _|(show aA _ 252 _ _ _;refine CA (h:=NH ?_);rw[hv1]))
   all_goals(show aV _ _ _ _;exact cN (kk - ((i+jj) / 2+1 - i)) ⟨(i+jj) / 2+1,jj,by omega,by omega,h2,h3,⟨rfl,rfl,rfl,rfl,congrArg (Value.int .i64) (by rw[hhalf];omega),rfl,trivial⟩,rfl⟩)
  ·have hj:¬(i+jj) / 2<Bn t l:=fun q=>hc (hiff.2 q)
   have hv1:¬KF e.id t<0:=by unfold KF;rw[if_neg hc];split <;> omega
   repeat' (first|refine v86 ?_|refine w5 ?_ ?_|((refine bh fun h=>?_) <;> try exact w6 h)|(refine aE fun hA=>?_;subst hA)|intro _|(show aA _ 252 _ _ _;refine CA (h:=NH ?_)))
   all_goals(show aV _ _ _ _;exact cN (kk - (jj - (i+jj) / 2)) ⟨i,(i+jj) / 2,by omega,h1,by omega,by omega,⟨rfl,rfl,rfl,rfl,rfl,congrArg (Value.int .i64) hhalf,trivial⟩,rfl⟩)
 ·obtain rfl:i=Bn t l:=by omega
  by_cases hn:Bn t l<l.length
  ·obtain⟨e,he⟩:∃e,l[Bn t l]?=some e:=⟨_,List.getElem?_eq_getElem hn⟩
   have hf:Nh t l=decide (e.id=t):=by unfold Nh;rw[he]
   have hiff:=UF (t:=t) hp he
   rw[hf] at hK
   have e9:(KF e.id t == 0)=decide (e.id=t):=by
    unfold KF
    by_cases hq:e.id=t
    ·simp[hq]
    ·have:¬e.id<t:=fun q=>absurd (hiff.1 q) (Nat.lt_irrefl _)
     rw[if_neg this,if_pos (by omega)]
     simp[hq]
   repeat' (first|refine v86 ?_|refine w5 ?_ ?_|((refine bh fun h=>?_) <;> try exact w6 h)|(refine aE fun hA=>?_;subst hA)|intro _|(show aA _ 252 _ _ _;refine CA (h:=NH ?_)))
   all_goals(refine aC ?_;exact aB ((by rw[e9];exact hK)))
  ·have hf:Nh t l=false:=by unfold Nh;rw[List.getElem?_eq_none (by omega)]
   rw[hf] at hK
   repeat' (first|refine v86 ?_|refine w5 ?_ ?_|((refine bh fun h=>?_) <;> try exact w6 h)|(refine aE fun hA=>?_;subst hA)|intro _)
   all_goals(refine aC ?_;exact aB (hK))
end
end Go.Proofs.YtepnmcipkangkaaGreat
