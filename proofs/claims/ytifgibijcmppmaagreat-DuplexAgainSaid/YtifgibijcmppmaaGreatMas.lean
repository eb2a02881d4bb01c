/- A part of the proof: lemmas; each with the conditions that it states. -/
import Derived.Test.YtifgibijcmppmaaGreatMag
import Derived.Test.YtifgibijcmppmaaGreatMar
set_option linter.unusedVariables false
set_option linter.unusedSimpArgs false
namespace Go.Proofs.YtifgibijcmppmaaGreat
open Go Go.Proofs Go.Sl
set_option maxRecDepth 100000
set_option maxHeartbeats 40000000
attribute [local irreducible] aM fG cV bP aN aW aA dP dX aV dO pt ro eW star sep bH
section
variable {R C:List HP} {K:Value→List HP→Prop}
def l7 (p:Nat) (ev wa no he:Int) (ou lo:Bool) (si nn:Int):HP:=pt p [.int .i64 ev,.int .i64 wa,.int .i64 no,.int .i64 he,.bool ou,.bool lo,.int .i64 si,.int .i64 nn] 221
def vN (n:Int):ByteArray:=uR [⟨0,4,⟨#[]⟩⟩,⟨n % 2147483648,4,⟨#[]⟩⟩]
theorem Afn {n:Int} (hK:K (.bool (decide (0≤n) && decide (n≤1048576))) R):aA Tryz.prog 140 #[.int .i64 n] R K:=by
 refine aH Tryz.func140 ?_
 repeat' (first|refine v1 ?_|refine wr ?_|refine w5 ?_ ?_|((refine bh fun h=>?_) <;> try exact w6 h)|(refine aE fun hA=>?_;subst hA)|intro _)
 all_goals(refine aC ?_;exact aB (kb hK (by simp <;> omega)))
theorem QI {e w:Int} (he:0≤e∧e≤1048576) (hw:0≤w∧w≤1048576) (hK:∀p,K (.tuple #[.pointer (some ⟨p,0,none⟩),.int .i64 0]) (l7 p e w 0 0 false false 0 0::R)):aA Tryz.prog 53 #[.int .i64 e,.int .i64 w] R K:=by
 have h1:(decide (0≤e) && decide (e≤1048576))=true:=by simp[he]
 have h2:(decide (0≤w) && decide (w≤1048576))=true:=by simp[hw]
 refine aH Tryz.func53 ?_
 repeat' (first|refine v53 ?_|refine wr ?_|refine w5 ?_ ?_|((refine bh fun h=>?_) <;> try exact w6 h)|(refine aE fun hA=>?_;subst hA)|intro _|(show aA _ 140 _ _ _;refine CA (h:=Afn ?_)))
 all_goals first
  |(refine aC ?_;exact aB (hK _))
  |(exfalso;simp_all)
theorem F5 {p:Nat} {ev wa no he si nn:Int} {ou lo:Bool} {now:Int} (hK:K (.int .i64 (max no now)) (l7 p ev wa (max no now) he ou lo si nn::R)):aA Tryz.prog 246 #[.pointer (some ⟨p,0,none⟩),.int .i64 now] (l7 p ev wa no he ou lo si nn::R) K:=by
 refine aH Tryz.func246 ?_
 repeat' (first|refine v14 ?_|refine wr ?_|refine w5 ?_ ?_|((refine bh fun h=>?_) <;> try exact w6 h)|(refine aE fun hA=>?_;subst hA)|intro _)
 (refine aC ?_;exact aB (hK))
def E7:List (Nat×Nat):= [(0,1),(1,1),(2,1),(3,1),(4,1),(5,1),(6,1),(7,1),(8,1),(9,0),(10,0),(11,0),(12,0),(13,0)]
theorem DD {p:Nat} {ev wa no he si nn:Int} {ou lo:Bool} (hn:0≤nn) (hK:K (.string (vN nn)) (l7 p ev wa no he ou lo si nn::R)):aA Tryz.prog 251 #[.pointer (some ⟨p,0,none⟩)] (l7 p ev wa no he ou lo si nn::R) K:=by
 refine aH Tryz.func251 ?_
 repeat' (first|refine v83 ?_|refine dw E7 ?_|refine wr ?_|refine w5 ?_ ?_|((refine bh fun h=>?_) <;> try exact w6 h)|(refine aE fun hA=>?_;subst hA)|intro _|(show aA _ 336 _ _ _;refine CA (h:=Acg ?_))|(show aA _ 335 _ _ _;refine CA (h:=QV (by exact jY) (by exact rfl) (by decide) ?_)))
 (refine aC ?_;exact aB (hK))
theorem Pq {p:Nat} {ev wa no he si nn:Int} {ou lo:Bool} {now:Int} (hK:K (.tuple #[]) (l7 p ev wa (max no now) (max no now) ou lo si nn::R)):aA Tryz.prog 161 #[.pointer (some ⟨p,0,none⟩),.int .i64 now] (l7 p ev wa no he ou lo si nn::R) K:=by
 refine aH Tryz.func161 ?_
 repeat' (first|refine v48 ?_|refine wr ?_|refine w5 ?_ ?_|((refine bh fun h=>?_) <;> try exact w6 h)|(refine aE fun hA=>?_;subst hA)|intro _|(show aA _ 246 _ _ _;refine CA (h:=F5 ?_)))
 (refine aC ?_;exact aB (hK))
theorem Aco {p:Nat} {ev wa no he si nn:Int} {ou lo:Bool} {now:Int} {s:ByteArray} (hb:ou=false) (hK:K (.bool false) (l7 p ev wa no he ou lo si nn::R)):aA Tryz.prog 165 #[.pointer (some ⟨p,0,none⟩),.int .i64 now,.string s] (l7 p ev wa no he ou lo si nn::R) K:=by
 refine aH Tryz.func165 ?_
 repeat' (first|refine L2 ?_|refine wr ?_|refine w5 ?_ ?_|((refine bh fun h=>?_) <;> try exact w6 h)|(refine aE fun hA=>?_;subst hA)|intro _)
 all_goals first
  |(refine aC ?_;exact aB (hK))
  |(exfalso;simp_all)
theorem Abu {p:Nat} {ev wa no he si nn:Int} {lo:Bool} {now m:Int} (hmx:max no now=m) (hn:0≤nn) (hK:K (.bool true) (l7 p ev wa m m false lo si nn::R)):aA Tryz.prog 165 #[.pointer (some ⟨p,0,none⟩),.int .i64 now,.string (vN nn)] (l7 p ev wa no he true lo si nn::R) K:=by
 subst hmx
 refine aH Tryz.func165 ?_
 repeat' (first|refine L2 ?_|refine wr ?_|refine w5 ?_ ?_|((refine bh fun h=>?_) <;> try exact w6 h)|(refine aE fun hA=>?_;subst hA)|intro _|(show aA _ 251 _ _ _;refine CA (h:=DD (by assumption) ?_))|(show aA _ 161 _ _ _;refine CA (h:=Pq ?_)))
 all_goals first
  |(refine aC ?_;exact aB (hK))
  |(exfalso;simp_all)
def zU (ev wa he:Int) (ou lo:Bool) (si m:Int):Int:=if lo=true∨(ou=true∧wa≤m - si) then 2 else if ou=true∨m - he<ev then 0 else 1
def kY:List Nat:= [0,1,3,7,15,31,63,127,255,511,1023,1023,3071,7167,15359,32767,1023,66559,197631,459775,1048575,2097151,4194303,8388607]
def kV:List Nat:= [8388607,4194303,2097151,1048575,459775,197631,66559,1023,32767,15359,7167,3071,1023,1023,511,255,127,63,31,15,7,3,1,0]
def kW:List (Nat×Nat):= [(0,0),(1,0),(2,0),(3,0),(4,0),(5,0),(6,0),(7,0),(8,0),(9,0),(10,0),(11,0),(12,0),(13,0),(14,0),(15,0),(16,0),(17,0),(18,0),(19,0),(20,0),(21,0),(22,0),(23,0)]
def k6:List (Nat×Nat):= [(0,0),(1,0),(2,0),(3,0),(4,0),(5,0),(6,0),(7,0),(8,0),(9,0),(10,0),(11,0),(12,0),(13,0),(14,0),(15,0),(16,0),(17,0)]
theorem Acc {p:Nat} {ev wa no he si nn:Int} {ou lo:Bool} {now m:Int} (hk:zU ev wa he ou lo si m=0) (hmx:max no now=m) (h0:ev≠0) (hm:-1000000000000≤m∧m≤1000000000000) (hs:-1000000000000≤si∧si≤1000000000000) (hh:-1000000000000≤he∧he≤1000000000000) (hn:0≤nn∧nn≤1000000000000)
  (hK:K (.tuple #[.int .i64 0,.string ⟨#[]⟩]) (l7 p ev wa m he ou lo si nn::R)):aA Tryz.prog 181 #[.pointer (some ⟨p,0,none⟩),.int .i64 now] (l7 p ev wa no he ou lo si nn::R) K:=by
 subst hmx
 unfold zU at hk
 refine aH Tryz.func181 ?_
 repeat' (first|refine v71 ?_|refine PX kY kV kW ?_|refine dw k6 ?_|refine wr ?_|refine w5 ?_ ?_|((refine bh fun h=>?_) <;> try exact w6 h)|(refine aE fun hA=>?_;subst hA)|intro _|(show aA _ 246 _ _ _;refine CA (h:=F5 ?_))|(show aA _ 251 _ _ _;refine CA (h:=DD (by omega) ?_)))
 all_goals first
  |(refine aC ?_;exact aB (hK))
  |(exfalso;simp_all;done)
  |(exfalso;simp_all <;> omega)
theorem Abm {p:Nat} {ev wa no he si nn:Int} {ou lo:Bool} {now m:Int} (hk:zU ev wa he ou lo si m=1) (hmx:max no now=m) (h0:ev≠0) (hm:-1000000000000≤m∧m≤1000000000000) (hs:-1000000000000≤si∧si≤1000000000000) (hh:-1000000000000≤he∧he≤1000000000000) (hn:0≤nn∧nn≤1000000000000)
  (hK:K (.tuple #[.int .i64 1,.string (vN (nn+1))]) (l7 p ev wa m he true lo m (nn+1)::R)):aA Tryz.prog 181 #[.pointer (some ⟨p,0,none⟩),.int .i64 now] (l7 p ev wa no he ou lo si nn::R) K:=by
 subst hmx
 unfold zU at hk
 refine aH Tryz.func181 ?_
 repeat' (first|refine v71 ?_|refine PX kY kV kW ?_|refine dw k6 ?_|refine wr ?_|refine w5 ?_ ?_|((refine bh fun h=>?_) <;> try exact w6 h)|(refine aE fun hA=>?_;subst hA)|intro _|(show aA _ 246 _ _ _;refine CA (h:=F5 ?_))|(show aA _ 251 _ _ _;refine CA (h:=DD (by omega) ?_)))
 all_goals first
  |(refine aC ?_;exact aB (hK))
  |(exfalso;simp_all;done)
  |(exfalso;simp_all <;> omega)
theorem Abb {p:Nat} {ev wa no he si nn:Int} {ou lo:Bool} {now m:Int} (hk:zU ev wa he ou lo si m=2) (hmx:max no now=m) (h0:ev≠0) (hm:-1000000000000≤m∧m≤1000000000000) (hs:-1000000000000≤si∧si≤1000000000000) (hh:-1000000000000≤he∧he≤1000000000000) (hn:0≤nn∧nn≤1000000000000)
  (hK:K (.tuple #[.int .i64 2,.string ⟨#[]⟩]) (l7 p ev wa m he ou true si nn::R)):aA Tryz.prog 181 #[.pointer (some ⟨p,0,none⟩),.int .i64 now] (l7 p ev wa no he ou lo si nn::R) K:=by
 subst hmx
 unfold zU at hk
 refine aH Tryz.func181 ?_
 repeat' (first|refine v71 ?_|refine PX kY kV kW ?_|refine dw k6 ?_|refine wr ?_|refine w5 ?_ ?_|((refine bh fun h=>?_) <;> try exact w6 h)|(refine aE fun hA=>?_;subst hA)|intro _|(show aA _ 246 _ _ _;refine CA (h:=F5 ?_))|(show aA _ 251 _ _ _;refine CA (h:=DD (by omega) ?_)))
 all_goals first
  |(refine aC ?_;exact aB (hK))
  |(exfalso;simp_all;done)
  |(exfalso;simp_all <;> omega)
theorem QC {p:Nat} {ev wa no he si nn:Int} {ou lo:Bool} {now:Int} (h0:ev=0) (hK:K (.tuple #[.int .i64 0,.string ⟨#[]⟩]) (l7 p ev wa no he ou lo si nn::R)):aA Tryz.prog 181 #[.pointer (some ⟨p,0,none⟩),.int .i64 now] (l7 p ev wa no he ou lo si nn::R) K:=by
 refine aH Tryz.func181 ?_
 repeat' (first|refine v71 ?_|refine PX kY kV kW ?_|refine dw k6 ?_|refine wr ?_|refine w5 ?_ ?_|((refine bh fun h=>?_) <;> try exact w6 h)|(refine aE fun hA=>?_;subst hA)|intro _)
 all_goals first
  |(refine aC ?_;exact aB (hK))
  |(exfalso;omega)
end
section
variable {R C:List HP} {K:Value→List HP→Prop}
def sM (p:Nat) (n:Int):HP:=pt p [.int .i64 n] 303
def Cg (n:Int):Bool:=decide (-2147483647≤n) && decide (n≤2147483647)
def lQ (n:Int):Bool:=decide (0≤n) && decide (n≤2147483647)
def Ce (n b:Int):Int:=if Cg (n+b)=true then 0 else 10
def Dn (n b:Int):Int:=if Cg (n+b)=true then n+b else n
def qO (n b:Int):Int:=if 1≤b∧b≤2147483647 then Ce n b else 2
def lI (n b:Int):Int:=if 1≤b∧b≤2147483647 then Dn n b else n
def oG (n k:Int):Int:=if k<0 then 2 else if max n 0<k then 9 else 0
def uY (n k:Int):Int:=if oG n k=0 then n - k else n
def lC (n a b:Int):Int:=if lQ a=true∧lQ b=true then Ce n (b - a) else 2
def z1 (n a b:Int):Int:=if lQ a=true∧lQ b=true then Dn n (b - a) else n
section
variable {p:Nat} {n b k a:Int}
theorem AP (hK:K (.bool (lQ n)) R):aA Tryz.prog 238 #[.int .i64 n] R K:=by
 refine aH Tryz.func238 ?_
 repeat' (first|refine v1 ?_|refine wr ?_|refine w5 ?_ ?_|((refine bh fun h=>?_) <;> try exact w6 h)|(refine aE fun hA=>?_;subst hA)|intro _)
 all_goals(refine aC ?_;exact aB (kb hK (by unfold lQ;simp <;> omega)))
theorem K7 (hK:K (.bool (Cg n)) R):aA Tryz.prog 396 #[.int .i64 n] R K:=by
 refine aH Tryz.func396 ?_
 repeat' (first|refine v1 ?_|refine wr ?_|refine w5 ?_ ?_|((refine bh fun h=>?_) <;> try exact w6 h)|(refine aE fun hA=>?_;subst hA)|intro _)
 all_goals(refine aC ?_;exact aB (kb hK (by unfold Cg;simp <;> omega)))
theorem Aa (h:lQ n=true) (hK:∀p,K (.tuple #[.pointer (some ⟨p,0,none⟩),.int .i64 0]) (sM p n::R)):aA Tryz.prog 141 #[.int .i64 n] R K:=by
 refine aH Tryz.func141 ?_
 repeat' (first|refine v21 ?_|refine wr ?_|refine w5 ?_ ?_|((refine bh fun h=>?_) <;> try exact w6 h)|(refine aE fun hA=>?_;subst hA)|intro _|(show aA _ 238 _ _ _;refine CA (h:=AP ?_);rw[h]))
 all_goals(refine aC ?_;exact aB (hK _))
theorem Xi (h:lQ n=false) (hK:K (.tuple #[.pointer none,.int .i64 3]) R):aA Tryz.prog 141 #[.int .i64 n] R K:=by
 refine aH Tryz.func141 ?_
 repeat' (first|refine v21 ?_|refine wr ?_|refine w5 ?_ ?_|((refine bh fun h=>?_) <;> try exact w6 h)|(refine aE fun hA=>?_;subst hA)|intro _|(show aA _ 238 _ _ _;refine CA (h:=AP ?_);rw[h]))
 all_goals(refine aC ?_;exact aB (hK))
theorem Vn (hK:K (.int .i64 n) (sM p n::R)):aA Tryz.prog 351 #[.pointer (some ⟨p,0,none⟩)] (sM p n::R) K:=by
 unfold sM at *
 refine aH Tryz.func351 ?_
 repeat' (first|refine v4 ?_|refine wr ?_|refine w5 ?_ ?_|((refine bh fun h=>?_) <;> try exact w6 h)|(refine aE fun hA=>?_;subst hA)|intro _)
 all_goals(refine aC ?_;exact aB (hK))
theorem wW (hK:K (.int .i64 (max n 0)) (sM p n::R)):aA Tryz.prog 276 #[.pointer (some ⟨p,0,none⟩)] (sM p n::R) K:=by
 refine aH Tryz.func276 ?_
 repeat' (first|refine v17 ?_|refine wr ?_|refine w5 ?_ ?_|((refine bh fun h=>?_) <;> try exact w6 h)|(refine aE fun hA=>?_;subst hA)|intro _|(show aA _ 351 _ _ _;refine CA (h:=Vn ?_)))
 all_goals(refine aC ?_;exact aB (hK))
theorem WL (hK:∀q,K (.pointer (some ⟨q,0,none⟩)) (sM q n::sM p n::R)):aA Tryz.prog 333 #[.pointer (some ⟨p,0,none⟩)] (sM p n::R) K:=by
 unfold sM at *
 refine aH Tryz.func333 ?_
 repeat' (first|refine v46 ?_|refine wr ?_|refine w5 ?_ ?_|((refine bh fun h=>?_) <;> try exact w6 h)|(refine aE fun hA=>?_;subst hA)|intro _)
 all_goals(refine aC ?_;exact aB (hK _))
theorem O3 (hn:-4294967296≤n∧n≤4294967296) (hb:-4294967296≤b∧b≤4294967296) (hK:K (.int .i64 (Ce n b)) (sM p (Dn n b)::R)):aA Tryz.prog 381 #[.pointer (some ⟨p,0,none⟩),.int .i64 b] (sM p n::R) K:=by
 cases h:Cg (n+b)
 ·simp only[Ce,Dn,h,if_false,Bool.false_eq_true] at hK
  unfold sM at *
  refine aH Tryz.func381 ?_
  repeat' (first|refine v37 ?_|refine wr ?_|refine w5 ?_ ?_|((refine bh fun h=>?_) <;> try exact w6 h)|(refine aE fun hA=>?_;subst hA)|intro _|(show aA _ 396 _ _ _;refine CA (h:=K7 ?_);rw[h]))
  all_goals(refine aC ?_;exact aB (hK))
 ·simp only[Ce,Dn,h,if_true] at hK
  unfold sM at *
  refine aH Tryz.func381 ?_
  repeat' (first|refine v37 ?_|refine wr ?_|refine w5 ?_ ?_|((refine bh fun h=>?_) <;> try exact w6 h)|(refine aE fun hA=>?_;subst hA)|intro _|(show aA _ 396 _ _ _;refine CA (h:=K7 ?_);rw[h]))
  all_goals(refine aC ?_;exact aB (hK))
theorem KD (hn:-4294967296≤n∧n≤4294967296) (hK:K (.int .i64 (qO n b)) (sM p (lI n b)::R)):aA Tryz.prog 340 #[.pointer (some ⟨p,0,none⟩),.int .i64 b] (sM p n::R) K:=by
 by_cases h1:1≤b
 ·by_cases h2:b≤2147483647
  ·have hi:lQ b=true:=by unfold lQ;simp;omega
   simp only[qO,lI,if_pos (show 1≤b∧b≤2147483647 from⟨h1,h2⟩)] at hK
   refine aH Tryz.func340 ?_
   repeat' (first|refine I1 ?_|refine wr ?_|refine w5 ?_ ?_|((refine bh fun h=>?_) <;> try exact w6 h)|(refine aE fun hA=>?_;subst hA)|intro _|(show aA _ 238 _ _ _;refine CA (h:=AP ?_);rw[hi])|(show aA _ 381 _ _ _;refine CA (h:=O3 hn (by omega) ?_)))
   all_goals(refine aC ?_;exact aB (hK))
  ·have hi:lQ b=false:=by unfold lQ;simp;omega
   simp only[qO,lI,if_neg (show ¬(1≤b∧b≤2147483647) by omega)] at hK
   refine aH Tryz.func340 ?_
   repeat' (first|refine I1 ?_|refine wr ?_|refine w5 ?_ ?_|((refine bh fun h=>?_) <;> try exact w6 h)|(refine aE fun hA=>?_;subst hA)|intro _|(show aA _ 238 _ _ _;refine CA (h:=AP ?_);rw[hi]))
   all_goals(refine aC ?_;exact aB (hK))
 ·simp only[qO,lI,if_neg (show ¬(1≤b∧b≤2147483647) by omega)] at hK
  refine aH Tryz.func340 ?_
  repeat' (first|refine I1 ?_|refine wr ?_|refine w5 ?_ ?_|((refine bh fun h=>?_) <;> try exact w6 h)|(refine aE fun hA=>?_;subst hA)|intro _|(show aA _ 238 _ _ _;refine CA (h:=AP ?_)))
  all_goals(refine aC ?_;exact aB (hK))
theorem Io (hn:-4294967296≤n∧n≤4294967296) (hk:k≤4294967296) (hK:K (.int .i64 (oG n k)) (sM p (uY n k)::R)):aA Tryz.prog 294 #[.pointer (some ⟨p,0,none⟩),.int .i64 k] (sM p n::R) K:=by
 by_cases h1:k<0
 ·simp only[oG,uY,if_pos h1,show ¬((2:Int)=0) by decide,if_false] at hK
  refine aH Tryz.func294 ?_
  repeat' (first|refine L2 ?_|refine wr ?_|refine w5 ?_ ?_|((refine bh fun h=>?_) <;> try exact w6 h)|(refine aE fun hA=>?_;subst hA)|intro _|(show aA _ 276 _ _ _;refine CA (h:=wW ?_)))
  all_goals(refine aC ?_;exact aB (hK))
 ·by_cases h2:max n 0<k
  ·simp only[oG,uY,if_neg h1,if_pos h2,show ¬((9:Int)=0) by decide,if_false] at hK
   refine aH Tryz.func294 ?_
   repeat' (first|refine L2 ?_|refine wr ?_|refine w5 ?_ ?_|((refine bh fun h=>?_) <;> try exact w6 h)|(refine aE fun hA=>?_;subst hA)|intro _|(show aA _ 276 _ _ _;refine CA (h:=wW ?_)))
   all_goals(refine aC ?_;exact aB (hK))
  ·simp only[oG,uY,if_neg h1,if_neg h2,if_true] at hK
   refine aH Tryz.func294 ?_
   repeat' (first|refine L2 ?_|refine wr ?_|refine w5 ?_ ?_|((refine bh fun h=>?_) <;> try exact w6 h)|(refine aE fun hA=>?_;subst hA)|intro _|(show aA _ 276 _ _ _;refine CA (h:=wW ?_)))
   all_goals(refine aC ?_;exact aB (hK))
theorem HN (hn:-4294967296≤n∧n≤4294967296) (hK:K (.int .i64 (lC n a b)) (sM p (z1 n a b)::R)):aA Tryz.prog 331 #[.pointer (some ⟨p,0,none⟩),.int .i64 a,.int .i64 b] (sM p n::R) K:=by
 cases h1:lQ a <;> cases h2:lQ b <;> simp only[lC,z1,h1,h2,if_true,if_false,Bool.false_eq_true,and_true,and_false,true_and,false_and] at hK
 all_goals
  have g1:lQ a=true→0≤a∧a≤2147483647:=fun h=>by unfold lQ at h;simpa using h
  have g2:lQ b=true→0≤b∧b≤2147483647:=fun h=>by unfold lQ at h;simpa using h
  rw[h1] at g1
  rw[h2] at g2
  simp only[forall_const,Bool.false_eq_true,false_implies] at g1 g2
  refine aH Tryz.func331 ?_
  repeat' (first|refine v53 ?_|refine wr ?_|refine w5 ?_ ?_|((refine bh fun h=>?_) <;> try exact w6 h)|(refine aE fun hA=>?_;subst hA)|intro _|(show aA _ 238 _ _ _;refine CA (h:=AP ?_);first|rw[h1]|rw[h2])|(show aA _ 381 _ _ _;refine CA (h:=O3 hn (by omega) ?_)))
  all_goals(refine aC ?_;exact aB (hK))
end
end
end Go.Proofs.YtifgibijcmppmaaGreat
namespace Go.Proofs.YtifgibijcmppmaaGreat
open Go Go.Proofs Go.Sl
set_option maxRecDepth 100000
set_option maxHeartbeats 40000000
attribute [local irreducible] aM fG cV bP aN aW aA dP dX aV dO pt ro eW star sep bH
attribute [local irreducible] mp Ec
section
variable {R C:List HP} {K:Value→List HP→Prop}
structure gU where
 id:Int
 w:Nat
 sp:Int
def liD:List Value→Option gU
 | [.int .i64 id,.pointer (some ⟨w,0,none⟩),.int .i64 sp]=>some ⟨id,w,sp⟩
 |_=>none
theorem Ah4 (cs:List Value) (y:gU) (h:liD cs=some y): [.int .i64 y.id,.pointer (some ⟨y.w,0,none⟩),.int .i64 y.sp]=cs:=by
 unfold liD at h
 split at h
 ·cases h;rfl
 ·cases h
def vX:tG gU:= { enc:=fun p=> [.int .i64 p.id,.pointer (some ⟨p.w,0,none⟩),.int .i64 p.sp],sz:=3,dec:=liD,len:=fun _=>rfl,one:=fun _=>rfl,ok:=Ah4 }
def Jq (x y:Int):Int:=if x<y then -1 else if y<x then 1 else 0
def zB (t:Int) (l:List gU):Nat:=(l.takeWhile fun e=>decide (e.id<t)).length
def Ms (t:Int) (l:List gU):Bool:=match l[zB t l]? with
 |some e=>decide (e.id=t)
 |none=>false
theorem SL (t:Int):∀l:List gU,zB t l≤l.length
 | []=>Nat.le_refl _
 |e::r=>by
  unfold zB
  rw[List.takeWhile_cons]
  split
  ·have:=SL t r;unfold zB at this;simp;omega
  ·simp
theorem SQ {t:Int}:∀ {l:List gU} {j:Nat} {e:gU},l.Pairwise (fun a b=>a.id<b.id)→l[j]?=some e→(e.id<t↔j<zB t l)
 | [],_,_,_,h=>by cases h
 |z::r,0,e,_,h=>by
  cases h
  unfold zB
  rw[List.takeWhile_cons]
  split
  ·rename_i hz;simp at hz;simp[hz]
  ·rename_i hz;simp at hz;simp;omega
 |z::r,j+1,e,hp,h=>by
  have hp':=(List.pairwise_cons.1 hp)
  have h':r[j]?=some e:=by simpa using h
  have ih:=SQ (t:=t) hp'.2 h'
  unfold zB at ih ⊢
  rw[List.takeWhile_cons]
  split
  ·rw[ih];simp
  ·rename_i hz
   have:=hp'.1 e (List.mem_of_getElem? h')
   simp at hz
   simp
   omega
section
variable {x y t:Int} {A:Option Addr} {n c:Nat} {l:List gU} {e:gU}
theorem I0 (hK:K (.bool false) R):aA Tryz.prog 393 #[.int .i64 x] R K:=by
 refine aH Tryz.func393 ?_
 repeat' (first|refine v2 ?_|refine wr ?_|refine w5 ?_ ?_|((refine bh fun h=>?_) <;> try exact w6 h)|(refine aE fun hA=>?_;subst hA)|intro _)
 all_goals(refine aC ?_;exact aB (kb hK (by simp)))
theorem Acn (hK:K (.int .i64 (Jq x y)) R):aA Tryz.prog 366 #[.int .i64 x,.int .i64 y] R K:=by
 by_cases h1:x<y
 ·simp only[Jq,if_pos h1] at hK
  refine aH Tryz.func366 ?_
  repeat' (first|refine v0 ?_|refine wr ?_|refine w5 ?_ ?_|((refine bh fun h=>?_) <;> try exact w6 h)|(refine aE fun hA=>?_;subst hA)|intro _|(show aA _ 393 _ _ _;refine CA (h:=I0 ?_)))
  all_goals(refine aC ?_;exact aB (hK))
 ·by_cases h2:y<x
  ·simp only[Jq,if_neg h1,if_pos h2] at hK
   refine aH Tryz.func366 ?_
   repeat' (first|refine v0 ?_|refine wr ?_|refine w5 ?_ ?_|((refine bh fun h=>?_) <;> try exact w6 h)|(refine aE fun hA=>?_;subst hA)|intro _|(show aA _ 393 _ _ _;refine CA (h:=I0 ?_)))
   all_goals(refine aC ?_;exact aB (hK))
  ·simp only[Jq,if_neg h1,if_neg h2] at hK
   refine aH Tryz.func366 ?_
   repeat' (first|refine v0 ?_|refine wr ?_|refine w5 ?_ ?_|((refine bh fun h=>?_) <;> try exact w6 h)|(refine aE fun hA=>?_;subst hA)|intro _|(show aA _ 393 _ _ _;refine CA (h:=I0 ?_)))
   all_goals(refine aC ?_;exact aB (hK))
theorem Lv (hK:K (.int .i64 (Jq e.id t)) R):aA Tryz.prog 365 #[.agg #[.int .i64 e.id,.pointer (some ⟨e.w,0,none⟩),.int .i64 e.sp],.int .i64 t] R K:=by
 refine aH Tryz.func365 ?_
 repeat' (first|refine v19 ?_|refine wr ?_|refine w5 ?_ ?_|((refine bh fun h=>?_) <;> try exact w6 h)|(refine aE fun hA=>?_;subst hA)|intro _|(show aA _ 366 _ _ _;refine CA (h:=Acn ?_)))
 all_goals(refine aC ?_;exact aB (hK))
theorem Ahw {i j:Nat} (h:i+j<1000000000):((i:Int)+j) % 18446744073709551616 / 2 ^ (1:Int).toNat=((i+j) / 2:Nat):=by
 rw[show(2:Int) ^ (1:Int).toNat=2 from rfl]
 omega
theorem Mf (hv:dL C A vX l) (hn:l.length=n) (hs:n≤100000) (hp:l.Pairwise fun a b=>a.id<b.id) (hK:K (.tuple #[.int .i64 (zB t l),.bool (Ms t l)]) C):aA Tryz.prog 364 #[.slice A n c,.int .i64 t,.func (.func 365) #[] #[]] C K:=by
 subst hn
 have hle:=SL t l
 refine aH Tryz.func364 ?_
 repeat' (first|refine v86 ?_|refine wr ?_|refine w5 ?_ ?_|((refine bh fun h=>?_) <;> try exact w6 h)|(refine aE fun hA=>?_;subst hA)|intro _)
 refine iL (fun kk a C'=>∃(i jj:Nat),i+kk=jj∧i≤zB t l∧zB t l≤jj∧jj≤l.length∧dC a [(0,.slice A l.length c),(1,.int .i64 t),(2,.func (.func 365) #[] #[]),(8,.int .i64 l.length),(9,.int .i64 i),(10,.int .i64 jj)]∧C'=C) l.length (cC l.length ⟨0,l.length,by omega,Nat.zero_le _,hle,Nat.le_refl _,⟨rfl,rfl,rfl,rfl,rfl,rfl,trivial⟩,rfl⟩ (by omega)) ?_
 rintro kk a C' ⟨i,jj,hk,h1,h2,h3,ha,rfl⟩
 refine gV _ ha ?_
 simp only[fN]
 by_cases hlt:i<jj
 ·have hhalf:=Ahw (i:=i) (j:=jj) (by omega)
  obtain⟨e,he⟩:∃e,l[(i+jj) / 2]?=some e:=⟨_,List.getElem?_eq_getElem (by omega)⟩
  have he':l[(((i:Int)+jj) % 18446744073709551616 / 2 ^ (1:Int).toNat).toNat]?=some e:=by rw[hhalf];exact he
  have hiff:=SQ (t:=t) hp he
  by_cases hc:e.id<t
  ·have hv1:Jq e.id t=-1:=if_pos hc
   have hj:=hiff.1 hc
   repeat' (first|refine v86 ?_|refine wr ?_|refine w5 ?_ ?_|((refine bh fun h=>?_) <;> try exact w6 h)|(refine aE fun hA=>?_;subst hA)|intro _|(show aA _ 365 _ _ _;refine CA (h:=Lv ?_);rw[hv1]))
   all_goals(show aV _ _ _ _;exact cC (kk - ((i+jj) / 2+1 - i)) ⟨(i+jj) / 2+1,jj,by omega,by omega,h2,h3,⟨rfl,rfl,rfl,rfl,congrArg (Value.int .i64) (by rw[hhalf];omega),rfl,trivial⟩,rfl⟩)
  ·have hj:¬(i+jj) / 2<zB t l:=fun q=>hc (hiff.2 q)
   have hv1:¬Jq e.id t<0:=by unfold Jq;rw[if_neg hc];split <;> omega
   repeat' (first|refine v86 ?_|refine wr ?_|refine w5 ?_ ?_|((refine bh fun h=>?_) <;> try exact w6 h)|(refine aE fun hA=>?_;subst hA)|intro _|(show aA _ 365 _ _ _;refine CA (h:=Lv ?_)))
   all_goals(show aV _ _ _ _;exact cC (kk - (jj - (i+jj) / 2)) ⟨i,(i+jj) / 2,by omega,h1,by omega,by omega,⟨rfl,rfl,rfl,rfl,rfl,congrArg (Value.int .i64) hhalf,trivial⟩,rfl⟩)
 ·obtain rfl:i=zB t l:=by omega
  by_cases hn:zB t l<l.length
  ·obtain⟨e,he⟩:∃e,l[zB t l]?=some e:=⟨_,List.getElem?_eq_getElem hn⟩
   have hf:Ms t l=decide (e.id=t):=by unfold Ms;rw[he]
   have hiff:=SQ (t:=t) hp he
   rw[hf] at hK
   have e9:(Jq e.id t == 0)=decide (e.id=t):=by
    unfold Jq
    by_cases hq:e.id=t
    ·simp[hq]
    ·have:¬e.id<t:=fun q=>absurd (hiff.1 q) (Nat.lt_irrefl _)
     rw[if_neg this,if_pos (by omega)]
     simp[hq]
   repeat' (first|refine v86 ?_|refine wr ?_|refine w5 ?_ ?_|((refine bh fun h=>?_) <;> try exact w6 h)|(refine aE fun hA=>?_;subst hA)|intro _|(show aA _ 365 _ _ _;refine CA (h:=Lv ?_)))
   all_goals(refine aC ?_;exact aB ((by rw[e9];exact hK)))
  ·have hf:Ms t l=false:=by unfold Ms;rw[List.getElem?_eq_none (by omega)]
   rw[hf] at hK
   repeat' (first|refine v86 ?_|refine wr ?_|refine w5 ?_ ?_|((refine bh fun h=>?_) <;> try exact w6 h)|(refine aE fun hA=>?_;subst hA)|intro _)
   all_goals(refine aC ?_;exact aB (hK))
end
end
section
variable {R C:List HP} {K:Value→List HP→Prop}
section
variable {p w0 n c:Nat} {sp t n0:Int} {A:Option Addr} {l:List gU} {e:gU}
theorem tL (hs:l.length≤100000) (hp:l.Pairwise fun a b=>a.id<b.id) (hK:K (.tuple #[.int .i64 (zB t l),.bool (Ms t l)]) (pt p [.pointer (some ⟨w0,0,none⟩),.int .i64 sp,.slice A l.length c] 235::bU A c 329 vX l::R)):aA Tryz.prog 307 #[.pointer (some ⟨p,0,none⟩),.int .i64 t] (pt p [.pointer (some ⟨w0,0,none⟩),.int .i64 sp,.slice A l.length c] 235::bU A c 329 vX l::R) K:=by
 refine aH Tryz.func307 ?_
 repeat' (first|refine v10 ?_|refine wr ?_|refine w5 ?_ ?_|((refine bh fun h=>?_) <;> try exact w6 h)|(refine aE fun hA=>?_;subst hA)|intro _|(show aA _ 364 _ _ _;refine CA (h:=Mf (l:=l) (by exact jY) rfl hs hp ?_)))
 all_goals(refine aC ?_;exact aB (hK))
theorem JF (hs:l.length≤100000) (hp:l.Pairwise fun a b=>a.id<b.id) (hf:Ms t l=false) (hK:K (.tuple #[.pointer none,.int .i64 7]) (pt p [.pointer (some ⟨w0,0,none⟩),.int .i64 sp,.slice A l.length c] 235::bU A c 329 vX l::R)):aA Tryz.prog 275 #[.pointer (some ⟨p,0,none⟩),.int .i64 t] (pt p [.pointer (some ⟨w0,0,none⟩),.int .i64 sp,.slice A l.length c] 235::bU A c 329 vX l::R) K:=by
 refine aH Tryz.func275 ?_
 repeat' (first|refine v41 ?_|refine wr ?_|refine w5 ?_ ?_|((refine bh fun h=>?_) <;> try exact w6 h)|(refine aE fun hA=>?_;subst hA)|intro _|(show aA _ 307 _ _ _;refine CA (h:=tL hs hp ?_);rw[hf]))
 all_goals(refine aC ?_;exact aB (hK))
theorem Aiw (h:Ms t l=true):∃e,l[zB t l]?=some e∧e.id=t∧zB t l<l.length:=by
 unfold Ms at h
 cases he:l[zB t l]? with
 |none=>rw[he] at h;cases h
 |some e=>
  rw[he] at h
  exact⟨e,rfl,by simpa using h,(List.getElem?_eq_some_iff.1 he).1⟩
theorem EH (hs:l.length≤100000) (hp:l.Pairwise fun a b=>a.id<b.id) (hf:Ms t l=true) (hK:∀B off,A=some ⟨B,off,none⟩→K (.tuple #[.pointer (some ⟨B,off+zB t l * 3,none⟩),.int .i64 0]) (pt p [.pointer (some ⟨w0,0,none⟩),.int .i64 sp,.slice A l.length c] 235::bU A c 329 vX l::R)):aA Tryz.prog 275 #[.pointer (some ⟨p,0,none⟩),.int .i64 t] (pt p [.pointer (some ⟨w0,0,none⟩),.int .i64 sp,.slice A l.length c] 235::bU A c 329 vX l::R) K:=by
 obtain⟨e,he,_,hlt⟩:=Aiw hf
 refine oZ (aT.there aT.here) (by omega) fun B off hA=>?_
 subst hA
 refine aH Tryz.func275 ?_
 repeat' (first|refine v41 ?_|refine wr ?_|refine w5 ?_ ?_|((refine bh fun h=>?_) <;> try exact w6 h)|(refine aE fun hA=>?_;subst hA)|intro _|(show aA _ 307 _ _ _;refine CA (h:=tL hs hp ?_);rw[hf]))
 all_goals(refine aC ?_;exact aB (hK _ _ rfl))
def nE:List (Nat×Nat):= [(0,0),(1,0),(2,0),(3,0),(4,1),(5,1),(6,1),(7,1),(8,1),(9,1),(10,0),(11,0)]
theorem VG (hs:l.length≤100000) (hp:l.Pairwise fun a b=>a.id<b.id) (hf:Ms t l=false) (hK:K (.int .i64 0) (pt p [.pointer (some ⟨w0,0,none⟩),.int .i64 sp,.slice A l.length c] 235::bU A c 329 vX l::R)):aA Tryz.prog 184 #[.pointer (some ⟨p,0,none⟩),.int .i64 t] (pt p [.pointer (some ⟨w0,0,none⟩),.int .i64 sp,.slice A l.length c] 235::bU A c 329 vX l::R) K:=by
 refine aH Tryz.func184 ?_
 repeat' (first|refine v35 ?_|refine dw nE ?_|refine wr ?_|refine w5 ?_ ?_|((refine bh fun h=>?_) <;> try exact w6 h)|(refine aE fun hA=>?_;subst hA)|intro _|(show aA _ 275 _ _ _;refine CA (h:=JF hs hp hf ?_)))
 all_goals(refine aC ?_;exact aB (hK))
theorem J4 {m:Int} (hs:l.length≤100000) (hp:l.Pairwise fun a b=>a.id<b.id) (hf:Ms t l=true) (he:l[zB t l]?=some e) (hK:K (.int .i64 (min (max m 0) (max n0 0))) (pt p [.pointer (some ⟨w0,0,none⟩),.int .i64 sp,.slice A l.length c] 235::bU A c 329 vX l::sM w0 n0::sM e.w m::R)):aA Tryz.prog 184 #[.pointer (some ⟨p,0,none⟩),.int .i64 t] (pt p [.pointer (some ⟨w0,0,none⟩),.int .i64 sp,.slice A l.length c] 235::bU A c 329 vX l::sM w0 n0::sM e.w m::R) K:=by
 refine oZ (aT.there aT.here) (by have:=(List.getElem?_eq_some_iff.1 he).1;omega) fun B off hA=>?_
 subst hA
 refine aH Tryz.func184 ?_
 repeat' (first|refine v35 ?_|refine dw nE ?_|refine wr ?_|refine w5 ?_ ?_|((refine bh fun h=>?_) <;> try exact w6 h)|(refine aE fun hA=>?_;subst hA)|intro _|(show aA _ 275 _ _ _;refine CA (h:=EH hs hp hf (fun B' off' hA'=>?_))))
 cases hA'
 repeat' (first|refine v35 ?_|refine dw nE ?_|refine wr ?_|refine w5 ?_ ?_|((refine bh fun h=>?_) <;> try exact w6 h)|(refine aE fun hA=>?_;subst hA)|intro _|(show aA _ 276 _ _ _;first|refine CA (h:=wW (p:=e.w) ?_)|refine CA (h:=wW ?_)))
 all_goals(refine aC ?_;exact aB (hK))
end
end
section
variable {R C:List HP} {K:Value→List HP→Prop}
section
variable {p w0 n c:Nat} {sp t n0 m k b:Int} {A:Option Addr} {l:List gU} {e:gU}
theorem W8 (hs:l.length≤100000) (hp:l.Pairwise fun a b=>a.id<b.id) (hf:Ms t l=true) (he:l[zB t l]?=some e) (hk:0≤k) (hkf:k≤min (max m 0) (max n0 0)) (hm:-4294967296≤m∧m≤4294967296) (hn:-4294967296≤n0∧n0≤4294967296) (hsp:0≤sp∧sp≤1000000000000) (hes:0≤e.sp∧e.sp≤1000000000000)
  (hK:K (.int .i64 0) (pt p [.pointer (some ⟨w0,0,none⟩),.int .i64 (sp+k),.slice A l.length c] 235::bU A c 329 vX (l.set (zB t l) ⟨e.id,e.w,e.sp+k⟩)::sM w0 (n0 - k)::sM e.w (m - k)::R)):aA Tryz.prog 194 #[.pointer (some ⟨p,0,none⟩),.int .i64 t,.int .i64 k] (pt p [.pointer (some ⟨w0,0,none⟩),.int .i64 sp,.slice A l.length c] 235::bU A c 329 vX l::sM w0 n0::sM e.w m::R) K:=by
 have e1:oG m k=0:=by unfold oG;rw[if_neg (by omega),if_neg (by omega)]
 have e2:oG n0 k=0:=by unfold oG;rw[if_neg (by omega),if_neg (by omega)]
 have f1:uY m k=m - k:=by unfold uY;rw[if_pos e1]
 have f2:uY n0 k=n0 - k:=by unfold uY;rw[if_pos e2]
 refine oZ (aT.there aT.here) (by have:=(List.getElem?_eq_some_iff.1 he).1;omega) fun B off hA=>?_
 subst hA
 refine aH Tryz.func194 ?_
 repeat' (first|refine Z2 ?_|refine wr ?_|refine w5 ?_ ?_|((refine bh fun h=>?_) <;> try exact w6 h)|(refine aE fun hA=>?_;subst hA)|intro _|(show aA _ 275 _ _ _;refine CA (h:=EH hs hp hf (fun B' off' hA'=>?_))))
 cases hA'
 repeat' (first|refine Z2 ?_|refine wr ?_|refine w5 ?_ ?_|((refine bh fun h=>?_) <;> try exact w6 h)|(refine aE fun hA=>?_;subst hA)|intro _|(show aA _ 184 _ _ _;refine CA (h:=J4 hs hp hf he ?_))|(show aA _ 294 _ _ _;first|(refine CA (h:=Io (p:=e.w) (n:=m) hm (by omega) ?_);rw[f1])|(refine CA (h:=Io (p:=w0) (n:=n0) hn (by omega) ?_);rw[f2]))|(show aM _ _ _ _ _ _ _;first|refine GC ?_|refine tE ?_))
 all_goals(refine aC ?_;exact aB (hK))
theorem Wa (hn:-4294967296≤n0∧n0≤4294967296) (hK:K (.int .i64 (qO n0 b)) (pt p [.pointer (some ⟨w0,0,none⟩),.int .i64 sp,.slice A n c] 235::sM w0 (lI n0 b)::R)):aA Tryz.prog 258 #[.pointer (some ⟨p,0,none⟩),.int .i64 0,.int .i64 b] (pt p [.pointer (some ⟨w0,0,none⟩),.int .i64 sp,.slice A n c] 235::sM w0 n0::R) K:=by
 refine aH Tryz.func258 ?_
 repeat' (first|refine v58 ?_|refine wr ?_|refine w5 ?_ ?_|((refine bh fun h=>?_) <;> try exact w6 h)|(refine aE fun hA=>?_;subst hA)|intro _|(show aA _ 340 _ _ _;refine CA (h:=KD hn ?_)))
 all_goals(refine aC ?_;exact aB (hK))
theorem Vl (hs:l.length≤100000) (hp:l.Pairwise fun a b=>a.id<b.id) (ht:t≠0) (hf:Ms t l=false) (hK:K (.int .i64 7) (pt p [.pointer (some ⟨w0,0,none⟩),.int .i64 sp,.slice A l.length c] 235::bU A c 329 vX l::R)):aA Tryz.prog 258 #[.pointer (some ⟨p,0,none⟩),.int .i64 t,.int .i64 b] (pt p [.pointer (some ⟨w0,0,none⟩),.int .i64 sp,.slice A l.length c] 235::bU A c 329 vX l::R) K:=by
 refine aH Tryz.func258 ?_
 repeat' (first|refine v58 ?_|refine wr ?_|refine w5 ?_ ?_|((refine bh fun h=>?_) <;> try exact w6 h)|(refine aE fun hA=>?_;subst hA)|intro _|(show aA _ 275 _ _ _;refine CA (h:=JF hs hp hf ?_)))
 all_goals(refine aC ?_;exact aB (hK))
theorem Wq (hs:l.length≤100000) (hp:l.Pairwise fun a b=>a.id<b.id) (ht:t≠0) (hf:Ms t l=true) (he:l[zB t l]?=some e) (hm:-4294967296≤m∧m≤4294967296) (hK:K (.int .i64 (qO m b)) (pt p [.pointer (some ⟨w0,0,none⟩),.int .i64 sp,.slice A l.length c] 235::bU A c 329 vX l::sM e.w (lI m b)::R)):aA Tryz.prog 258 #[.pointer (some ⟨p,0,none⟩),.int .i64 t,.int .i64 b] (pt p [.pointer (some ⟨w0,0,none⟩),.int .i64 sp,.slice A l.length c] 235::bU A c 329 vX l::sM e.w m::R) K:=by
 refine oZ (aT.there aT.here) (by have:=(List.getElem?_eq_some_iff.1 he).1;omega) fun B off hA=>?_
 subst hA
 refine aH Tryz.func258 ?_
 repeat' (first|refine v58 ?_|refine wr ?_|refine w5 ?_ ?_|((refine bh fun h=>?_) <;> try exact w6 h)|(refine aE fun hA=>?_;subst hA)|intro _|(show aA _ 275 _ _ _;refine CA (h:=EH hs hp hf (fun B' off' hA'=>?_))))
 cases hA'
 repeat' (first|refine v58 ?_|refine wr ?_|refine w5 ?_ ?_|((refine bh fun h=>?_) <;> try exact w6 h)|(refine aE fun hA=>?_;subst hA)|intro _|(show aA _ 340 _ _ _;refine CA (h:=KD hm ?_)))
 all_goals(refine aC ?_;exact aB (hK))
end
end
end Go.Proofs.YtifgibijcmppmaaGreat
