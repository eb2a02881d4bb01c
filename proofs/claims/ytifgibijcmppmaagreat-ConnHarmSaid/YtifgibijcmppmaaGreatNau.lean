/- A part of the proof: lemmas; each with the conditions that it states. -/
import Derived.Test.YtifgibijcmppmaaGreatNaf
import Derived.Test.YtifgibijcmppmaaGreatNat
import Derived.Test.YtifgibijcmppmaaGreatNas
set_option linter.unusedVariables false
set_option linter.unusedSimpArgs false
namespace Go.Proofs.YtifgibijcmppmaaGreat
open Go Go.Proofs Go.Sl
set_option maxRecDepth 100000
set_option maxHeartbeats 40000000
attribute [local irreducible] aN fB cJ bO aM aY aA dM dQ aW dK pt ro fF star sep bI
section
variable {R C:List HP} {K:Value→List HP→Prop}
def mU (p:Nat) (ev wa no he:Int) (ou lo:Bool) (si nn:Int):HP:=pt p [.int .i64 ev,.int .i64 wa,.int .i64 no,.int .i64 he,.bool ou,.bool lo,.int .i64 si,.int .i64 nn] 221
def wE (n:Int):ByteArray:=u7 [⟨0,4,⟨#[]⟩⟩,⟨n % 2147483648,4,⟨#[]⟩⟩]
theorem Aej {n:Int} (hK:K (.bool (decide (0≤n) && decide (n≤1048576))) R):aA Tryz.prog 140 #[.int .i64 n] R K:=by
 refine aH Tryz.func140 ?_
 repeat' (first|refine v1 ?_|refine wr ?_|refine w5 ?_ ?_|((refine bh fun h=>?_) <;> try exact w6 h)|(refine aE fun hA=>?_;subst hA)|intro _)
 all_goals(refine aC ?_;exact aB (kb hK (by simp <;> omega)))
theorem RE {e w:Int} (he:0≤e∧e≤1048576) (hw:0≤w∧w≤1048576) (hK:∀p,K (.tuple #[.pointer (some ⟨p,0,none⟩),.int .i64 0]) (mU p e w 0 0 false false 0 0::R)):aA Tryz.prog 53 #[.int .i64 e,.int .i64 w] R K:=by
 have h1:(decide (0≤e) && decide (e≤1048576))=true:=by simp[he]
 have h2:(decide (0≤w) && decide (w≤1048576))=true:=by simp[hw]
 refine aH Tryz.func53 ?_
 repeat' (first|refine v53 ?_|refine wr ?_|refine w5 ?_ ?_|((refine bh fun h=>?_) <;> try exact w6 h)|(refine aE fun hA=>?_;subst hA)|intro _|(show aA _ 140 _ _ _;refine CA (h:=Aej ?_)))
 all_goals first
  |(refine aC ?_;exact aB (hK _))
  |(exfalso;simp_all)
theorem GC {p:Nat} {ev wa no he si nn:Int} {ou lo:Bool} {now:Int} (hK:K (.int .i64 (max no now)) (mU p ev wa (max no now) he ou lo si nn::R)):aA Tryz.prog 246 #[.pointer (some ⟨p,0,none⟩),.int .i64 now] (mU p ev wa no he ou lo si nn::R) K:=by
 refine aH Tryz.func246 ?_
 repeat' (first|refine v14 ?_|refine wr ?_|refine w5 ?_ ?_|((refine bh fun h=>?_) <;> try exact w6 h)|(refine aE fun hA=>?_;subst hA)|intro _)
 (refine aC ?_;exact aB (hK))
def Ez:List (Nat×Nat):= [(0,1),(1,1),(2,1),(3,1),(4,1),(5,1),(6,1),(7,1),(8,1),(9,0),(10,0),(11,0),(12,0),(13,0)]
theorem D1 {p:Nat} {ev wa no he si nn:Int} {ou lo:Bool} (hn:0≤nn) (hK:K (.string (wE nn)) (mU p ev wa no he ou lo si nn::R)):aA Tryz.prog 251 #[.pointer (some ⟨p,0,none⟩)] (mU p ev wa no he ou lo si nn::R) K:=by
 refine aH Tryz.func251 ?_
 repeat' (first|refine Nm ?_|refine dw Ez ?_|refine wr ?_|refine w5 ?_ ?_|((refine bh fun h=>?_) <;> try exact w6 h)|(refine aE fun hA=>?_;subst hA)|intro _|(show aA _ 336 _ _ _;refine CA (h:=Ab2 ?_))|(show aA _ 335 _ _ _;refine CA (h:=QF (by exact kR) (by exact rfl) (by decide) ?_)))
 (refine aC ?_;exact aB (hK))
theorem Og {p:Nat} {ev wa no he si nn:Int} {ou lo:Bool} {now:Int} (hK:K (.tuple #[]) (mU p ev wa (max no now) (max no now) ou lo si nn::R)):aA Tryz.prog 161 #[.pointer (some ⟨p,0,none⟩),.int .i64 now] (mU p ev wa no he ou lo si nn::R) K:=by
 refine aH Tryz.func161 ?_
 repeat' (first|refine v48 ?_|refine wr ?_|refine w5 ?_ ?_|((refine bh fun h=>?_) <;> try exact w6 h)|(refine aE fun hA=>?_;subst hA)|intro _|(show aA _ 246 _ _ _;refine CA (h:=GC ?_)))
 (refine aC ?_;exact aB (hK))
theorem Aae {p:Nat} {ev wa no he si nn:Int} {ou lo:Bool} {now:Int} {s:ByteArray} (hb:ou=false) (hK:K (.bool false) (mU p ev wa no he ou lo si nn::R)):aA Tryz.prog 165 #[.pointer (some ⟨p,0,none⟩),.int .i64 now,.string s] (mU p ev wa no he ou lo si nn::R) K:=by
 refine aH Tryz.func165 ?_
 repeat' (first|refine MU ?_|refine wr ?_|refine w5 ?_ ?_|((refine bh fun h=>?_) <;> try exact w6 h)|(refine aE fun hA=>?_;subst hA)|intro _)
 all_goals first
  |(refine aC ?_;exact aB (hK))
  |(exfalso;simp_all)
theorem Yk {p:Nat} {ev wa no he si nn:Int} {lo:Bool} {now m:Int} (hmx:max no now=m) (hn:0≤nn) (hK:K (.bool true) (mU p ev wa m m false lo si nn::R)):aA Tryz.prog 165 #[.pointer (some ⟨p,0,none⟩),.int .i64 now,.string (wE nn)] (mU p ev wa no he true lo si nn::R) K:=by
 subst hmx
 refine aH Tryz.func165 ?_
 repeat' (first|refine MU ?_|refine wr ?_|refine w5 ?_ ?_|((refine bh fun h=>?_) <;> try exact w6 h)|(refine aE fun hA=>?_;subst hA)|intro _|(show aA _ 251 _ _ _;refine CA (h:=D1 (by assumption) ?_))|(show aA _ 161 _ _ _;refine CA (h:=Og ?_)))
 all_goals first
  |(refine aC ?_;exact aB (hK))
  |(exfalso;simp_all)
def Ay (ev wa he:Int) (ou lo:Bool) (si m:Int):Int:=if lo=true∨(ou=true∧wa≤m - si) then 2 else if ou=true∨m - he<ev then 0 else 1
def lS:List Nat:= [0,1,3,7,15,31,63,127,255,511,1023,1023,3071,7167,15359,32767,1023,66559,197631,459775,1048575,2097151,4194303,8388607]
def lX:List Nat:= [8388607,4194303,2097151,1048575,459775,197631,66559,1023,32767,15359,7167,3071,1023,1023,511,255,127,63,31,15,7,3,1,0]
def lU:List (Nat×Nat):= [(0,0),(1,0),(2,0),(3,0),(4,0),(5,0),(6,0),(7,0),(8,0),(9,0),(10,0),(11,0),(12,0),(13,0),(14,0),(15,0),(16,0),(17,0),(18,0),(19,0),(20,0),(21,0),(22,0),(23,0)]
def lT:List (Nat×Nat):= [(0,0),(1,0),(2,0),(3,0),(4,0),(5,0),(6,0),(7,0),(8,0),(9,0),(10,0),(11,0),(12,0),(13,0),(14,0),(15,0),(16,0),(17,0)]
theorem Aal {p:Nat} {ev wa no he si nn:Int} {ou lo:Bool} {now m:Int} (hk:Ay ev wa he ou lo si m=0) (hmx:max no now=m) (h0:ev≠0) (hm:-1000000000000≤m∧m≤1000000000000) (hs:-1000000000000≤si∧si≤1000000000000) (hh:-1000000000000≤he∧he≤1000000000000) (hn:0≤nn∧nn≤1000000000000)
  (hK:K (.tuple #[.int .i64 0,.string ⟨#[]⟩]) (mU p ev wa m he ou lo si nn::R)):aA Tryz.prog 181 #[.pointer (some ⟨p,0,none⟩),.int .i64 now] (mU p ev wa no he ou lo si nn::R) K:=by
 subst hmx
 unfold Ay at hk
 refine aH Tryz.func181 ?_
 repeat' (first|refine XP ?_|refine Iu lS lX lU ?_|refine dw lT ?_|refine wr ?_|refine w5 ?_ ?_|((refine bh fun h=>?_) <;> try exact w6 h)|(refine aE fun hA=>?_;subst hA)|intro _|(show aA _ 246 _ _ _;refine CA (h:=GC ?_))|(show aA _ 251 _ _ _;refine CA (h:=D1 (by omega) ?_)))
 all_goals first
  |(refine aC ?_;exact aB (hK))
  |(exfalso;simp_all;done)
  |(exfalso;simp_all <;> omega)
theorem Aaf {p:Nat} {ev wa no he si nn:Int} {ou lo:Bool} {now m:Int} (hk:Ay ev wa he ou lo si m=1) (hmx:max no now=m) (h0:ev≠0) (hm:-1000000000000≤m∧m≤1000000000000) (hs:-1000000000000≤si∧si≤1000000000000) (hh:-1000000000000≤he∧he≤1000000000000) (hn:0≤nn∧nn≤1000000000000)
  (hK:K (.tuple #[.int .i64 1,.string (wE (nn+1))]) (mU p ev wa m he true lo m (nn+1)::R)):aA Tryz.prog 181 #[.pointer (some ⟨p,0,none⟩),.int .i64 now] (mU p ev wa no he ou lo si nn::R) K:=by
 subst hmx
 unfold Ay at hk
 refine aH Tryz.func181 ?_
 repeat' (first|refine XP ?_|refine Iu lS lX lU ?_|refine dw lT ?_|refine wr ?_|refine w5 ?_ ?_|((refine bh fun h=>?_) <;> try exact w6 h)|(refine aE fun hA=>?_;subst hA)|intro _|(show aA _ 246 _ _ _;refine CA (h:=GC ?_))|(show aA _ 251 _ _ _;refine CA (h:=D1 (by omega) ?_)))
 all_goals first
  |(refine aC ?_;exact aB (hK))
  |(exfalso;simp_all;done)
  |(exfalso;simp_all <;> omega)
theorem Abn {p:Nat} {ev wa no he si nn:Int} {ou lo:Bool} {now m:Int} (hk:Ay ev wa he ou lo si m=2) (hmx:max no now=m) (h0:ev≠0) (hm:-1000000000000≤m∧m≤1000000000000) (hs:-1000000000000≤si∧si≤1000000000000) (hh:-1000000000000≤he∧he≤1000000000000) (hn:0≤nn∧nn≤1000000000000)
  (hK:K (.tuple #[.int .i64 2,.string ⟨#[]⟩]) (mU p ev wa m he ou true si nn::R)):aA Tryz.prog 181 #[.pointer (some ⟨p,0,none⟩),.int .i64 now] (mU p ev wa no he ou lo si nn::R) K:=by
 subst hmx
 unfold Ay at hk
 refine aH Tryz.func181 ?_
 repeat' (first|refine XP ?_|refine Iu lS lX lU ?_|refine dw lT ?_|refine wr ?_|refine w5 ?_ ?_|((refine bh fun h=>?_) <;> try exact w6 h)|(refine aE fun hA=>?_;subst hA)|intro _|(show aA _ 246 _ _ _;refine CA (h:=GC ?_))|(show aA _ 251 _ _ _;refine CA (h:=D1 (by omega) ?_)))
 all_goals first
  |(refine aC ?_;exact aB (hK))
  |(exfalso;simp_all;done)
  |(exfalso;simp_all <;> omega)
theorem SJ {p:Nat} {ev wa no he si nn:Int} {ou lo:Bool} {now:Int} (h0:ev=0) (hK:K (.tuple #[.int .i64 0,.string ⟨#[]⟩]) (mU p ev wa no he ou lo si nn::R)):aA Tryz.prog 181 #[.pointer (some ⟨p,0,none⟩),.int .i64 now] (mU p ev wa no he ou lo si nn::R) K:=by
 refine aH Tryz.func181 ?_
 repeat' (first|refine XP ?_|refine Iu lS lX lU ?_|refine dw lT ?_|refine wr ?_|refine w5 ?_ ?_|((refine bh fun h=>?_) <;> try exact w6 h)|(refine aE fun hA=>?_;subst hA)|intro _)
 all_goals first
  |(refine aC ?_;exact aB (hK))
  |(exfalso;omega)
end
section
variable {R C:List HP} {K:Value→List HP→Prop}
def tC (p:Nat) (n:Int):HP:=pt p [.int .i64 n] 303
def CO (n:Int):Bool:=decide (-2147483647≤n) && decide (n≤2147483647)
def mM (n:Int):Bool:=decide (0≤n) && decide (n≤2147483647)
def Cw (n b:Int):Int:=if CO (n+b)=true then 0 else 10
def Eh (n b:Int):Int:=if CO (n+b)=true then n+b else n
def rH (n b:Int):Int:=if 1≤b∧b≤2147483647 then Cw n b else 2
def mH (n b:Int):Int:=if 1≤b∧b≤2147483647 then Eh n b else n
def p7 (n k:Int):Int:=if k<0 then 2 else if max n 0<k then 9 else 0
def vE (n k:Int):Int:=if p7 n k=0 then n - k else n
def mC (n a b:Int):Int:=if mM a=true∧mM b=true then Cw n (b - a) else 2
def Aa (n a b:Int):Int:=if mM a=true∧mM b=true then Eh n (b - a) else n
section
variable {p:Nat} {n b k a:Int}
theorem Bf (hK:K (.bool (mM n)) R):aA Tryz.prog 238 #[.int .i64 n] R K:=by
 refine aH Tryz.func238 ?_
 repeat' (first|refine v1 ?_|refine wr ?_|refine w5 ?_ ?_|((refine bh fun h=>?_) <;> try exact w6 h)|(refine aE fun hA=>?_;subst hA)|intro _)
 all_goals(refine aC ?_;exact aB (kb hK (by unfold mM;simp <;> omega)))
theorem JI (hK:K (.bool (CO n)) R):aA Tryz.prog 396 #[.int .i64 n] R K:=by
 refine aH Tryz.func396 ?_
 repeat' (first|refine v1 ?_|refine wr ?_|refine w5 ?_ ?_|((refine bh fun h=>?_) <;> try exact w6 h)|(refine aE fun hA=>?_;subst hA)|intro _)
 all_goals(refine aC ?_;exact aB (kb hK (by unfold CO;simp <;> omega)))
theorem Ai (h:mM n=true) (hK:∀p,K (.tuple #[.pointer (some ⟨p,0,none⟩),.int .i64 0]) (tC p n::R)):aA Tryz.prog 141 #[.int .i64 n] R K:=by
 refine aH Tryz.func141 ?_
 repeat' (first|refine v21 ?_|refine wr ?_|refine w5 ?_ ?_|((refine bh fun h=>?_) <;> try exact w6 h)|(refine aE fun hA=>?_;subst hA)|intro _|(show aA _ 238 _ _ _;refine CA (h:=Bf ?_);rw[h]))
 all_goals(refine aC ?_;exact aB (hK _))
theorem V0 (h:mM n=false) (hK:K (.tuple #[.pointer none,.int .i64 3]) R):aA Tryz.prog 141 #[.int .i64 n] R K:=by
 refine aH Tryz.func141 ?_
 repeat' (first|refine v21 ?_|refine wr ?_|refine w5 ?_ ?_|((refine bh fun h=>?_) <;> try exact w6 h)|(refine aE fun hA=>?_;subst hA)|intro _|(show aA _ 238 _ _ _;refine CA (h:=Bf ?_);rw[h]))
 all_goals(refine aC ?_;exact aB (hK))
theorem WC (hK:K (.int .i64 n) (tC p n::R)):aA Tryz.prog 351 #[.pointer (some ⟨p,0,none⟩)] (tC p n::R) K:=by
 unfold tC at *
 refine aH Tryz.func351 ?_
 repeat' (first|refine v4 ?_|refine wr ?_|refine w5 ?_ ?_|((refine bh fun h=>?_) <;> try exact w6 h)|(refine aE fun hA=>?_;subst hA)|intro _)
 all_goals(refine aC ?_;exact aB (hK))
theorem w9 (hK:K (.int .i64 (max n 0)) (tC p n::R)):aA Tryz.prog 276 #[.pointer (some ⟨p,0,none⟩)] (tC p n::R) K:=by
 refine aH Tryz.func276 ?_
 repeat' (first|refine v17 ?_|refine wr ?_|refine w5 ?_ ?_|((refine bh fun h=>?_) <;> try exact w6 h)|(refine aE fun hA=>?_;subst hA)|intro _|(show aA _ 351 _ _ _;refine CA (h:=WC ?_)))
 all_goals(refine aC ?_;exact aB (hK))
theorem W8 (hK:∀q,K (.pointer (some ⟨q,0,none⟩)) (tC q n::tC p n::R)):aA Tryz.prog 333 #[.pointer (some ⟨p,0,none⟩)] (tC p n::R) K:=by
 unfold tC at *
 refine aH Tryz.func333 ?_
 repeat' (first|refine v46 ?_|refine wr ?_|refine w5 ?_ ?_|((refine bh fun h=>?_) <;> try exact w6 h)|(refine aE fun hA=>?_;subst hA)|intro _)
 all_goals(refine aC ?_;exact aB (hK _))
theorem Pg (hn:-4294967296≤n∧n≤4294967296) (hb:-4294967296≤b∧b≤4294967296) (hK:K (.int .i64 (Cw n b)) (tC p (Eh n b)::R)):aA Tryz.prog 381 #[.pointer (some ⟨p,0,none⟩),.int .i64 b] (tC p n::R) K:=by
 cases h:CO (n+b)
 ·simp only[Cw,Eh,h,if_false,Bool.false_eq_true] at hK
  unfold tC at *
  refine aH Tryz.func381 ?_
  repeat' (first|refine v37 ?_|refine wr ?_|refine w5 ?_ ?_|((refine bh fun h=>?_) <;> try exact w6 h)|(refine aE fun hA=>?_;subst hA)|intro _|(show aA _ 396 _ _ _;refine CA (h:=JI ?_);rw[h]))
  all_goals(refine aC ?_;exact aB (hK))
 ·simp only[Cw,Eh,h,if_true] at hK
  unfold tC at *
  refine aH Tryz.func381 ?_
  repeat' (first|refine v37 ?_|refine wr ?_|refine w5 ?_ ?_|((refine bh fun h=>?_) <;> try exact w6 h)|(refine aE fun hA=>?_;subst hA)|intro _|(show aA _ 396 _ _ _;refine CA (h:=JI ?_);rw[h]))
  all_goals(refine aC ?_;exact aB (hK))
theorem J6 (hn:-4294967296≤n∧n≤4294967296) (hK:K (.int .i64 (rH n b)) (tC p (mH n b)::R)):aA Tryz.prog 340 #[.pointer (some ⟨p,0,none⟩),.int .i64 b] (tC p n::R) K:=by
 by_cases h1:1≤b
 ·by_cases h2:b≤2147483647
  ·have hi:mM b=true:=by unfold mM;simp;omega
   simp only[rH,mH,if_pos (show 1≤b∧b≤2147483647 from⟨h1,h2⟩)] at hK
   refine aH Tryz.func340 ?_
   repeat' (first|refine I7 ?_|refine wr ?_|refine w5 ?_ ?_|((refine bh fun h=>?_) <;> try exact w6 h)|(refine aE fun hA=>?_;subst hA)|intro _|(show aA _ 238 _ _ _;refine CA (h:=Bf ?_);rw[hi])|(show aA _ 381 _ _ _;refine CA (h:=Pg hn (by omega) ?_)))
   all_goals(refine aC ?_;exact aB (hK))
  ·have hi:mM b=false:=by unfold mM;simp;omega
   simp only[rH,mH,if_neg (show ¬(1≤b∧b≤2147483647) by omega)] at hK
   refine aH Tryz.func340 ?_
   repeat' (first|refine I7 ?_|refine wr ?_|refine w5 ?_ ?_|((refine bh fun h=>?_) <;> try exact w6 h)|(refine aE fun hA=>?_;subst hA)|intro _|(show aA _ 238 _ _ _;refine CA (h:=Bf ?_);rw[hi]))
   all_goals(refine aC ?_;exact aB (hK))
 ·simp only[rH,mH,if_neg (show ¬(1≤b∧b≤2147483647) by omega)] at hK
  refine aH Tryz.func340 ?_
  repeat' (first|refine I7 ?_|refine wr ?_|refine w5 ?_ ?_|((refine bh fun h=>?_) <;> try exact w6 h)|(refine aE fun hA=>?_;subst hA)|intro _|(show aA _ 238 _ _ _;refine CA (h:=Bf ?_)))
  all_goals(refine aC ?_;exact aB (hK))
theorem Ig (hn:-4294967296≤n∧n≤4294967296) (hk:k≤4294967296) (hK:K (.int .i64 (p7 n k)) (tC p (vE n k)::R)):aA Tryz.prog 294 #[.pointer (some ⟨p,0,none⟩),.int .i64 k] (tC p n::R) K:=by
 by_cases h1:k<0
 ·simp only[p7,vE,if_pos h1,show ¬((2:Int)=0) by decide,if_false] at hK
  refine aH Tryz.func294 ?_
  repeat' (first|refine MU ?_|refine wr ?_|refine w5 ?_ ?_|((refine bh fun h=>?_) <;> try exact w6 h)|(refine aE fun hA=>?_;subst hA)|intro _|(show aA _ 276 _ _ _;refine CA (h:=w9 ?_)))
  all_goals(refine aC ?_;exact aB (hK))
 ·by_cases h2:max n 0<k
  ·simp only[p7,vE,if_neg h1,if_pos h2,show ¬((9:Int)=0) by decide,if_false] at hK
   refine aH Tryz.func294 ?_
   repeat' (first|refine MU ?_|refine wr ?_|refine w5 ?_ ?_|((refine bh fun h=>?_) <;> try exact w6 h)|(refine aE fun hA=>?_;subst hA)|intro _|(show aA _ 276 _ _ _;refine CA (h:=w9 ?_)))
   all_goals(refine aC ?_;exact aB (hK))
  ·simp only[p7,vE,if_neg h1,if_neg h2,if_true] at hK
   refine aH Tryz.func294 ?_
   repeat' (first|refine MU ?_|refine wr ?_|refine w5 ?_ ?_|((refine bh fun h=>?_) <;> try exact w6 h)|(refine aE fun hA=>?_;subst hA)|intro _|(show aA _ 276 _ _ _;refine CA (h:=w9 ?_)))
   all_goals(refine aC ?_;exact aB (hK))
theorem IP (hn:-4294967296≤n∧n≤4294967296) (hK:K (.int .i64 (mC n a b)) (tC p (Aa n a b)::R)):aA Tryz.prog 331 #[.pointer (some ⟨p,0,none⟩),.int .i64 a,.int .i64 b] (tC p n::R) K:=by
 cases h1:mM a <;> cases h2:mM b <;> simp only[mC,Aa,h1,h2,if_true,if_false,Bool.false_eq_true,and_true,and_false,true_and,false_and] at hK
 all_goals
  have g1:mM a=true→0≤a∧a≤2147483647:=fun h=>by unfold mM at h;simpa using h
  have g2:mM b=true→0≤b∧b≤2147483647:=fun h=>by unfold mM at h;simpa using h
  rw[h1] at g1
  rw[h2] at g2
  simp only[forall_const,Bool.false_eq_true,false_implies] at g1 g2
  refine aH Tryz.func331 ?_
  repeat' (first|refine v53 ?_|refine wr ?_|refine w5 ?_ ?_|((refine bh fun h=>?_) <;> try exact w6 h)|(refine aE fun hA=>?_;subst hA)|intro _|(show aA _ 238 _ _ _;refine CA (h:=Bf ?_);first|rw[h1]|rw[h2])|(show aA _ 381 _ _ _;refine CA (h:=Pg hn (by omega) ?_)))
  all_goals(refine aC ?_;exact aB (hK))
end
end
end Go.Proofs.YtifgibijcmppmaaGreat
namespace Go.Proofs.YtifgibijcmppmaaGreat
open Go Go.Proofs Go.Sl
set_option maxRecDepth 100000
set_option maxHeartbeats 40000000
attribute [local irreducible] aN fB cJ bO aM aY aA dM dQ aW dK pt ro fF star sep bI
attribute [local irreducible] mp El
section
variable {R C:List HP} {K:Value→List HP→Prop}
structure iK where
 id:Int
 w:Nat
 sp:Int
def liD:List Value→Option iK
 | [.int .i64 id,.pointer (some ⟨w,0,none⟩),.int .i64 sp]=>some ⟨id,w,sp⟩
 |_=>none
theorem Aj5 (cs:List Value) (y:iK) (h:liD cs=some y): [.int .i64 y.id,.pointer (some ⟨y.w,0,none⟩),.int .i64 y.sp]=cs:=by
 unfold liD at h
 split at h
 ·cases h;rfl
 ·cases h
def wN:t6 iK:= { enc:=fun p=> [.int .i64 p.id,.pointer (some ⟨p.w,0,none⟩),.int .i64 p.sp],sz:=3,dec:=liD,len:=fun _=>rfl,one:=fun _=>rfl,ok:=Aj5 }
def Jv (x y:Int):Int:=if x<y then -1 else if y<x then 1 else 0
def AD (t:Int) (l:List iK):Nat:=(l.takeWhile fun e=>decide (e.id<t)).length
def Lo (t:Int) (l:List iK):Bool:=match l[AD t l]? with
 |some e=>decide (e.id=t)
 |none=>false
theorem RU (t:Int):∀l:List iK,AD t l≤l.length
 | []=>Nat.le_refl _
 |e::r=>by
  unfold AD
  rw[List.takeWhile_cons]
  split
  ·have:=RU t r;unfold AD at this;simp;omega
  ·simp
theorem Rs {t:Int}:∀ {l:List iK} {j:Nat} {e:iK},l.Pairwise (fun a b=>a.id<b.id)→l[j]?=some e→(e.id<t↔j<AD t l)
 | [],_,_,_,h=>by cases h
 |z::r,0,e,_,h=>by
  cases h
  unfold AD
  rw[List.takeWhile_cons]
  split
  ·rename_i hz;simp at hz;simp[hz]
  ·rename_i hz;simp at hz;simp;omega
 |z::r,j+1,e,hp,h=>by
  have hp':=(List.pairwise_cons.1 hp)
  have h':r[j]?=some e:=by simpa using h
  have ih:=Rs (t:=t) hp'.2 h'
  unfold AD at ih ⊢
  rw[List.takeWhile_cons]
  split
  ·rw[ih];simp
  ·rename_i hz
   have:=hp'.1 e (List.mem_of_getElem? h')
   simp at hz
   simp
   omega
section
variable {x y t:Int} {A:Option Addr} {n c:Nat} {l:List iK} {e:iK}
theorem Iq (hK:K (.bool false) R):aA Tryz.prog 393 #[.int .i64 x] R K:=by
 refine aH Tryz.func393 ?_
 repeat' (first|refine v2 ?_|refine wr ?_|refine w5 ?_ ?_|((refine bh fun h=>?_) <;> try exact w6 h)|(refine aE fun hA=>?_;subst hA)|intro _)
 all_goals(refine aC ?_;exact aB (kb hK (by simp)))
theorem ZN (hK:K (.int .i64 (Jv x y)) R):aA Tryz.prog 366 #[.int .i64 x,.int .i64 y] R K:=by
 by_cases h1:x<y
 ·simp only[Jv,if_pos h1] at hK
  refine aH Tryz.func366 ?_
  repeat' (first|refine v0 ?_|refine wr ?_|refine w5 ?_ ?_|((refine bh fun h=>?_) <;> try exact w6 h)|(refine aE fun hA=>?_;subst hA)|intro _|(show aA _ 393 _ _ _;refine CA (h:=Iq ?_)))
  all_goals(refine aC ?_;exact aB (hK))
 ·by_cases h2:y<x
  ·simp only[Jv,if_neg h1,if_pos h2] at hK
   refine aH Tryz.func366 ?_
   repeat' (first|refine v0 ?_|refine wr ?_|refine w5 ?_ ?_|((refine bh fun h=>?_) <;> try exact w6 h)|(refine aE fun hA=>?_;subst hA)|intro _|(show aA _ 393 _ _ _;refine CA (h:=Iq ?_)))
   all_goals(refine aC ?_;exact aB (hK))
  ·simp only[Jv,if_neg h1,if_neg h2] at hK
   refine aH Tryz.func366 ?_
   repeat' (first|refine v0 ?_|refine wr ?_|refine w5 ?_ ?_|((refine bh fun h=>?_) <;> try exact w6 h)|(refine aE fun hA=>?_;subst hA)|intro _|(show aA _ 393 _ _ _;refine CA (h:=Iq ?_)))
   all_goals(refine aC ?_;exact aB (hK))
theorem LX (hK:K (.int .i64 (Jv e.id t)) R):aA Tryz.prog 365 #[.agg #[.int .i64 e.id,.pointer (some ⟨e.w,0,none⟩),.int .i64 e.sp],.int .i64 t] R K:=by
 refine aH Tryz.func365 ?_
 repeat' (first|refine v19 ?_|refine wr ?_|refine w5 ?_ ?_|((refine bh fun h=>?_) <;> try exact w6 h)|(refine aE fun hA=>?_;subst hA)|intro _|(show aA _ 366 _ _ _;refine CA (h:=ZN ?_)))
 all_goals(refine aC ?_;exact aB (hK))
theorem Aid {i j:Nat} (h:i+j<1000000000):((i:Int)+j) % 18446744073709551616 / 2 ^ (1:Int).toNat=((i+j) / 2:Nat):=by
 rw[show(2:Int) ^ (1:Int).toNat=2 from rfl]
 omega
theorem MY (hv:cZ C A wN l) (hn:l.length=n) (hs:n≤100000) (hp:l.Pairwise fun a b=>a.id<b.id) (hK:K (.tuple #[.int .i64 (AD t l),.bool (Lo t l)]) C):aA Tryz.prog 364 #[.slice A n c,.int .i64 t,.func (.func 365) #[] #[]] C K:=by
 subst hn
 have hle:=RU t l
 refine aH Tryz.func364 ?_
 repeat' (first|refine v86 ?_|refine wr ?_|refine w5 ?_ ?_|((refine bh fun h=>?_) <;> try exact w6 h)|(refine aE fun hA=>?_;subst hA)|intro _)
 refine iF (fun kk a C'=>∃(i jj:Nat),i+kk=jj∧i≤AD t l∧AD t l≤jj∧jj≤l.length∧cN a [(0,.slice A l.length c),(1,.int .i64 t),(2,.func (.func 365) #[] #[]),(8,.int .i64 l.length),(9,.int .i64 i),(10,.int .i64 jj)]∧C'=C) l.length (b9 l.length ⟨0,l.length,by omega,Nat.zero_le _,hle,Nat.le_refl _,⟨rfl,rfl,rfl,rfl,rfl,rfl,trivial⟩,rfl⟩ (by omega)) ?_
 rintro kk a C' ⟨i,jj,hk,h1,h2,h3,ha,rfl⟩
 refine gF _ ha ?_
 simp only[eQ]
 by_cases hlt:i<jj
 ·have hhalf:=Aid (i:=i) (j:=jj) (by omega)
  obtain⟨e,he⟩:∃e,l[(i+jj) / 2]?=some e:=⟨_,List.getElem?_eq_getElem (by omega)⟩
  have he':l[(((i:Int)+jj) % 18446744073709551616 / 2 ^ (1:Int).toNat).toNat]?=some e:=by rw[hhalf];exact he
  have hiff:=Rs (t:=t) hp he
  by_cases hc:e.id<t
  ·have hv1:Jv e.id t=-1:=if_pos hc
   have hj:=hiff.1 hc
   repeat' (first|refine v86 ?_|refine wr ?_|refine w5 ?_ ?_|((refine bh fun h=>?_) <;> try exact w6 h)|(refine aE fun hA=>?_;subst hA)|intro _|(show aA _ 365 _ _ _;refine CA (h:=LX ?_);rw[hv1]))
   all_goals(show aW _ _ _ _;exact b9 (kk - ((i+jj) / 2+1 - i)) ⟨(i+jj) / 2+1,jj,by omega,by omega,h2,h3,⟨rfl,rfl,rfl,rfl,congrArg (Value.int .i64) (by rw[hhalf];omega),rfl,trivial⟩,rfl⟩)
  ·have hj:¬(i+jj) / 2<AD t l:=fun q=>hc (hiff.2 q)
   have hv1:¬Jv e.id t<0:=by unfold Jv;rw[if_neg hc];split <;> omega
   repeat' (first|refine v86 ?_|refine wr ?_|refine w5 ?_ ?_|((refine bh fun h=>?_) <;> try exact w6 h)|(refine aE fun hA=>?_;subst hA)|intro _|(show aA _ 365 _ _ _;refine CA (h:=LX ?_)))
   all_goals(show aW _ _ _ _;exact b9 (kk - (jj - (i+jj) / 2)) ⟨i,(i+jj) / 2,by omega,h1,by omega,by omega,⟨rfl,rfl,rfl,rfl,rfl,congrArg (Value.int .i64) hhalf,trivial⟩,rfl⟩)
 ·obtain rfl:i=AD t l:=by omega
  by_cases hn:AD t l<l.length
  ·obtain⟨e,he⟩:∃e,l[AD t l]?=some e:=⟨_,List.getElem?_eq_getElem hn⟩
   have hf:Lo t l=decide (e.id=t):=by unfold Lo;rw[he]
   have hiff:=Rs (t:=t) hp he
   rw[hf] at hK
   have e9:(Jv e.id t == 0)=decide (e.id=t):=by
    unfold Jv
    by_cases hq:e.id=t
    ·simp[hq]
    ·have:¬e.id<t:=fun q=>absurd (hiff.1 q) (Nat.lt_irrefl _)
     rw[if_neg this,if_pos (by omega)]
     simp[hq]
   repeat' (first|refine v86 ?_|refine wr ?_|refine w5 ?_ ?_|((refine bh fun h=>?_) <;> try exact w6 h)|(refine aE fun hA=>?_;subst hA)|intro _|(show aA _ 365 _ _ _;refine CA (h:=LX ?_)))
   all_goals(refine aC ?_;exact aB ((by rw[e9];exact hK)))
  ·have hf:Lo t l=false:=by unfold Lo;rw[List.getElem?_eq_none (by omega)]
   rw[hf] at hK
   repeat' (first|refine v86 ?_|refine wr ?_|refine w5 ?_ ?_|((refine bh fun h=>?_) <;> try exact w6 h)|(refine aE fun hA=>?_;subst hA)|intro _)
   all_goals(refine aC ?_;exact aB (hK))
end
end
section
variable {R C:List HP} {K:Value→List HP→Prop}
structure jR where
 id:Int
 a:Nat
def Zh:List Value→Option jR
 | [.int .i64 id,.pointer (some ⟨w,0,none⟩)]=>some ⟨id,w⟩
 |_=>none
theorem X9 (cs:List Value) (y:jR) (h:Zh cs=some y): [.int .i64 y.id,.pointer (some ⟨y.a,0,none⟩)]=cs:=by
 unfold Zh at h
 split at h
 ·cases h;rfl
 ·cases h
def fI:t6 jR:= { enc:=fun p=> [.int .i64 p.id,.pointer (some ⟨p.a,0,none⟩)],sz:=2,dec:=Zh,len:=fun _=>rfl,one:=fun _=>rfl,ok:=X9 }
def EZ {α:Type} (xs:List α) (lo k i p:Nat):Option α:=if lo≤p∧p<lo+k∧(p<lo+i∨lo+k≤p+i) then xs[2 * lo+k - 1 - p]? else xs[p]?
theorem Uu {α:Type} {P M S ys:List α} {i:Nat} (hi:M.length≤2 * i+1) (h:∀p,ys[p]?=EZ (P++(M++S)) P.length M.length i p):ys=P++(M.reverse++S):=by
 apply List.ext_getElem?
 intro p
 rw[h]
 unfold EZ
 by_cases h1:p<P.length
 ·rw[if_neg (by omega),List.getElem?_append_left h1,List.getElem?_append_left h1]
 ·by_cases h2:p<P.length+M.length
  ·have rhs:(P++(M.reverse++S))[p]?=M[M.length - 1 - (p - P.length)]?:=by rw[List.getElem?_append_right (by omega),List.getElem?_append_left (by rw[List.length_reverse];omega),List.getElem?_reverse (by omega)]
   have lhs:∀t,P.length≤t→t<P.length+M.length→(P++(M++S))[t]?=M[t - P.length]?:=fun t h3 h4=>by rw[List.getElem?_append_right h3,List.getElem?_append_left (by omega)]
   rw[rhs]
   by_cases h3:P.length≤p∧p<P.length+M.length∧(p<P.length+i∨P.length+M.length≤p+i)
   ·rw[if_pos h3,lhs _ (by omega) (by omega)]
    congr 1
    omega
   ·rw[if_neg h3,lhs _ (by omega) (by omega)]
    congr 1
    omega
  ·rw[if_neg (by omega),List.getElem?_append_right (by omega),List.getElem?_append_right (by omega),List.getElem?_append_right (by omega),List.getElem?_append_right (by rw[List.length_reverse];omega),List.length_reverse]
theorem Nw {α:Type} {xs ys:List α} {lo k i:Nat} {u v:α} (hk:lo+k≤xs.length) (hi:2 * i+1<k) (hl:ys.length=xs.length) (h:∀p,ys[p]?=EZ xs lo k i p) (hu:ys[lo+i]?=some u) (hv:ys[lo+(k - 1 - i)]?=some v) (p:Nat):((ys.set (lo+i) v).set (lo+(k - 1 - i)) u)[p]?=EZ xs lo k (i+1) p:=by
 have e1:xs[lo+i]?=some u:=by rw[← hu,h];unfold EZ;rw[if_neg (by omega)]
 have e2:xs[lo+(k - 1 - i)]?=some v:=by rw[← hv,h];unfold EZ;rw[if_neg (by omega)]
 rw[List.getElem?_set,List.getElem?_set,List.length_set]
 by_cases h1:lo+(k - 1 - i)=p
 ·subst h1
  rw[if_pos rfl,if_pos (by omega)]
  unfold EZ
  rw[if_pos (by omega),← e1]
  congr 1
  omega
 ·rw[if_neg h1]
  by_cases h2:lo+i=p
  ·subst h2
   rw[if_pos rfl,if_pos (by omega)]
   unfold EZ
   rw[if_pos (by omega),← e2]
   congr 1
   omega
  ·rw[if_neg h2,h]
   unfold EZ
   by_cases h3:lo≤p∧p<lo+k∧(p<lo+i∨lo+k≤p+i)
   ·rw[if_pos h3,if_pos (by omega)]
   ·rw[if_neg h3,if_neg (by omega)]
section
variable {A:Option Addr} {B off kc c0 lo k:Nat}
def qJ:List (Nat×Nat):= [(0,0),(1,0),(4,0),(5,0),(6,0),(7,0),(8,0),(9,0),(10,0),(11,0),(12,0),(13,1),(2,1),(3,1),(14,0),(15,1)]
theorem L5 {P M S xs:List iK} (hxs:xs=P++(M++S)) (hlo:lo=P.length) (hk:k=M.length) (hA:A=some ⟨B,off+lo * 3,none⟩) (hs:xs.length≤100000) (hK:K (.tuple #[]) (bT (some ⟨B,off,none⟩) c0 329 wN (P++(M.reverse++S))::R)):aA Tryz.prog 410 #[.slice A k kc] (bT (some ⟨B,off,none⟩) c0 329 wN xs::R) K:=by
 subst hA
 have hlk:lo+k≤xs.length:=by rw[hxs,hlo,hk];simp only[List.length_append];omega
 refine aH Tryz.func410 ?_
 repeat' (first|refine v28 ?_|refine dw qJ ?_|refine wr ?_|refine w5 ?_ ?_|((refine bh fun h=>?_) <;> try exact w6 h)|(refine aE fun hA=>?_;subst hA)|intro _)
 refine iF (fun kk a C'=>∃(i:Nat) (ys:List iK),i+kk=k∧2 * i≤k+1∧ys.length=xs.length∧(∀p,ys[p]?=EZ xs lo k i p)∧cN a [(0,.slice (some ⟨B,off+lo * 3,none⟩) k kc),(2,.int .i64 i),(3,.int .i64 ((k:Int) - 1 - i))]∧C'=bT (some ⟨B,off,none⟩) c0 329 wN ys::R) k (b9 k ⟨0,xs,by omega,by omega,rfl,(fun p=>by unfold EZ;rw[if_neg (by omega)]),⟨rfl,rfl,congrArg (Value.int .i64) (by omega),trivial⟩,rfl⟩ (by omega)) ?_
 rintro kk a C' ⟨i,ys,hi,h2,hl,hp,ha,rfl⟩
 refine gF _ ha ?_
 simp only[eQ]
 by_cases hlt:(i:Int)<(k:Int) - 1 - i
 ·obtain⟨u,hu⟩:∃u,ys[lo+i]?=some u:=⟨_,List.getElem?_eq_getElem (by omega)⟩
  obtain⟨v,hv⟩:∃v,ys[lo+(k - 1 - i)]?=some v:=⟨_,List.getElem?_eq_getElem (by omega)⟩
  have hti:((i:Nat):Int).toNat=i:=Int.toNat_natCast i
  have htj:((k:Int) - 1 - i).toNat=k - 1 - i:=by omega
  have hu':ys[lo+((i:Nat):Int).toNat]?=some u:=by rw[hti];exact hu
  have hv':ys[lo+((k:Int) - 1 - i).toNat]?=some v:=by rw[htj];exact hv
  have hv2:(ys.set (lo+((i:Nat):Int).toNat) v)[lo+((k:Int) - 1 - i).toNat]?=some v:=by rw[htj,hti,List.getElem?_set,if_neg (by omega)];exact hv
  have hsw:=Nw hlk (by omega) hl hp hu hv
  repeat' (first|(show aN _ _ _ _ _ _ _;refine Pj (lo:=lo) ?_)|refine v28 ?_|refine dw qJ ?_|refine wr ?_|refine w5 ?_ ?_|((refine bh fun h=>?_) <;> try exact w6 h)|(refine aE fun hA=>?_;subst hA)|intro _|(show aN _ _ _ _ _ _ _;first|refine aO (u:=v) ?_ (hj:=hv')|refine aO (u:=u) ?_ (hj:=hu')|refine t8 (y':=v) ?_ (hj:=hu')|refine t8 (y':=u) ?_ (hj:=hv2)))
  all_goals(show aW _ _ _ _;exact b9 (kk - 1) ⟨i+1,(ys.set (lo+((i:Nat):Int).toNat) v).set (lo+((k:Int) - 1 - i).toNat) u,by omega,by omega,by rw[List.length_set,List.length_set];exact hl,by rw[hti,htj];exact hsw,⟨rfl,rfl,congrArg (Value.int .i64) (by omega),trivial⟩,rfl⟩)
 ·have he:ys=P++(M.reverse++S):=Uu (i:=i) (by omega) (by rw[← hxs,← hlo,← hk];exact hp)
  subst he
  repeat' (first|refine v28 ?_|refine dw qJ ?_|refine wr ?_|refine w5 ?_ ?_|((refine bh fun h=>?_) <;> try exact w6 h)|(refine aE fun hA=>?_;subst hA)|intro _)
  all_goals(refine aC ?_;exact aB (hK))
theorem Abw {P D xs:List iK} {y:iK} {r:Int} (hxs:xs=P++(D++ [y])) (hlo:lo=P.length) (hk:k=D.length+1) (hr:r=D.length) (hkc:k≤kc) (hA:A=some ⟨B,off+lo * 3,none⟩) (hs:xs.length≤100000) (hK:K (.tuple #[]) (bT (some ⟨B,off,none⟩) c0 329 wN (P++(y::D))::R)):aA Tryz.prog 394 #[.slice A k kc,.int .i64 r] (bT (some ⟨B,off,none⟩) c0 329 wN xs::R) K:=by
 subst hA hr
 have hlen:xs.length=lo+k:=by rw[hxs,hlo,hk];simp <;> omega
 refine aH Tryz.func394 ?_
 repeat' (first|(show aN _ _ _ _ _ _ _;refine nH (sz:=3) ?_;intro A' hA')|refine v8 ?_|refine wr ?_|refine w5 ?_ ?_|((refine bh fun h=>?_) <;> try exact w6 h)|(refine aE fun hA=>?_;subst hA)|intro _)
 have hs2:P.length+D.length+1≤100000:=by rw[hxs,List.length_append,List.length_append] at hs;exact hs
 refine CA (h:=L5 (P:=P) (M:=D) (S:= [y]) hxs hlo (by simp) (by rw[Gf hA' (by omega)] <;> simp) hs ?_)
 repeat' (first|(show aN _ _ _ _ _ _ _;refine nH (sz:=3) ?_;intro A2 hA2)|refine v8 ?_|refine wr ?_|refine w5 ?_ ?_|((refine bh fun h=>?_) <;> try exact w6 h)|(refine aE fun hA=>?_;subst hA)|intro _)
 refine CA (h:=L5 (xs:=P++(D.reverse++ [y])) (P:=P++D.reverse) (M:= [y]) (S:= []) (by simp) (lo:=lo+D.length) (by simp[hlo]) (by simp[hk]) ((Gf hA2 (by omega)).trans (congrArg (fun o=>some (⟨B,o,none⟩:Addr)) (by rw[Int.toNat_natCast];omega))) (by simp only[List.length_append,List.length_reverse,List.length_cons,List.length_nil];omega) ?_)
 repeat' (first|refine v8 ?_|refine wr ?_|refine w5 ?_ ?_|((refine bh fun h=>?_) <;> try exact w6 h)|(refine aE fun hA=>?_;subst hA)|intro _)
 refine CA (h:=L5 (xs:=P++D.reverse++([y].reverse++ [])) (P:=P) (M:=D.reverse++ [y]) (S:= []) (by simp) hlo (by simp[hk]) rfl (by simp only[List.length_append,List.length_reverse,List.length_cons,List.length_nil];omega) ?_)
 rw[show P++((D.reverse++ [y]).reverse++ [])=P++(y::D) by simp]
 repeat' (first|refine v8 ?_|refine wr ?_|refine w5 ?_ ?_|((refine bh fun h=>?_) <;> try exact w6 h)|(refine aE fun hA=>?_;subst hA)|intro _)
 all_goals(refine aC ?_;exact aB (hK))
theorem Ab4 {P D xs:List iK} {y:iK} (hxs:xs=P++(D++ [y])) (hlo:lo=P.length) (hk:k=D.length+1) (hkc:k≤kc) (hA:A=some ⟨B,off+lo * 3,none⟩) (hs:xs.length≤100000) (hK:K (.tuple #[]) (bT (some ⟨B,off,none⟩) c0 329 wN (P++(y::D))::R)):aA Tryz.prog 368 #[.slice A k kc,.int .i64 1] (bT (some ⟨B,off,none⟩) c0 329 wN xs::R) K:=by
 have hlen:xs.length=lo+k:=by rw[hxs,hlo,hk];simp <;> omega
 refine aH Tryz.func368 ?_
 repeat' (first|refine v8 ?_|refine wr ?_|refine w5 ?_ ?_|((refine bh fun h=>?_) <;> try exact w6 h)|(refine aE fun hA=>?_;subst hA)|intro _|(show aA _ 394 _ _ _;refine CA (h:=Abw hxs hlo hk (by omega) hkc hA hs ?_)))
 all_goals(refine aC ?_;exact aB (hK))
def qP:List (Nat×Nat):= [(0,0),(1,0),(4,0),(5,0),(6,0),(7,0),(8,0),(9,0),(10,0),(11,0),(12,0),(13,1),(2,1),(3,1),(14,0),(15,1)]
theorem Li {P M S xs:List jR} (hxs:xs=P++(M++S)) (hlo:lo=P.length) (hk:k=M.length) (hA:A=some ⟨B,off+lo * 2,none⟩) (hs:xs.length≤100000) (hK:K (.tuple #[]) (bT (some ⟨B,off,none⟩) c0 255 fI (P++(M.reverse++S))::R)):aA Tryz.prog 409 #[.slice A k kc] (bT (some ⟨B,off,none⟩) c0 255 fI xs::R) K:=by
 subst hA
 have hlk:lo+k≤xs.length:=by rw[hxs,hlo,hk];simp only[List.length_append];omega
 refine aH Tryz.func409 ?_
 repeat' (first|refine v28 ?_|refine dw qP ?_|refine wr ?_|refine w5 ?_ ?_|((refine bh fun h=>?_) <;> try exact w6 h)|(refine aE fun hA=>?_;subst hA)|intro _)
 refine iF (fun kk a C'=>∃(i:Nat) (ys:List jR),i+kk=k∧2 * i≤k+1∧ys.length=xs.length∧(∀p,ys[p]?=EZ xs lo k i p)∧cN a [(0,.slice (some ⟨B,off+lo * 2,none⟩) k kc),(2,.int .i64 i),(3,.int .i64 ((k:Int) - 1 - i))]∧C'=bT (some ⟨B,off,none⟩) c0 255 fI ys::R) k (b9 k ⟨0,xs,by omega,by omega,rfl,(fun p=>by unfold EZ;rw[if_neg (by omega)]),⟨rfl,rfl,congrArg (Value.int .i64) (by omega),trivial⟩,rfl⟩ (by omega)) ?_
 rintro kk a C' ⟨i,ys,hi,h2,hl,hp,ha,rfl⟩
 refine gF _ ha ?_
 simp only[eQ]
 by_cases hlt:(i:Int)<(k:Int) - 1 - i
 ·obtain⟨u,hu⟩:∃u,ys[lo+i]?=some u:=⟨_,List.getElem?_eq_getElem (by omega)⟩
  obtain⟨v,hv⟩:∃v,ys[lo+(k - 1 - i)]?=some v:=⟨_,List.getElem?_eq_getElem (by omega)⟩
  have hti:((i:Nat):Int).toNat=i:=Int.toNat_natCast i
  have htj:((k:Int) - 1 - i).toNat=k - 1 - i:=by omega
  have hu':ys[lo+((i:Nat):Int).toNat]?=some u:=by rw[hti];exact hu
  have hv':ys[lo+((k:Int) - 1 - i).toNat]?=some v:=by rw[htj];exact hv
  have hv2:(ys.set (lo+((i:Nat):Int).toNat) v)[lo+((k:Int) - 1 - i).toNat]?=some v:=by rw[htj,hti,List.getElem?_set,if_neg (by omega)];exact hv
  have hsw:=Nw hlk (by omega) hl hp hu hv
  repeat' (first|(show aN _ _ _ _ _ _ _;refine Pj (lo:=lo) ?_)|refine v28 ?_|refine dw qP ?_|refine wr ?_|refine w5 ?_ ?_|((refine bh fun h=>?_) <;> try exact w6 h)|(refine aE fun hA=>?_;subst hA)|intro _|(show aN _ _ _ _ _ _ _;first|refine aO (u:=v) ?_ (hj:=hv')|refine aO (u:=u) ?_ (hj:=hu')|refine t8 (y':=v) ?_ (hj:=hu')|refine t8 (y':=u) ?_ (hj:=hv2)))
  all_goals(show aW _ _ _ _;exact b9 (kk - 1) ⟨i+1,(ys.set (lo+((i:Nat):Int).toNat) v).set (lo+((k:Int) - 1 - i).toNat) u,by omega,by omega,by rw[List.length_set,List.length_set];exact hl,by rw[hti,htj];exact hsw,⟨rfl,rfl,congrArg (Value.int .i64) (by omega),trivial⟩,rfl⟩)
 ·have he:ys=P++(M.reverse++S):=Uu (i:=i) (by omega) (by rw[← hxs,← hlo,← hk];exact hp)
  subst he
  repeat' (first|refine v28 ?_|refine dw qP ?_|refine wr ?_|refine w5 ?_ ?_|((refine bh fun h=>?_) <;> try exact w6 h)|(refine aE fun hA=>?_;subst hA)|intro _)
  all_goals(refine aC ?_;exact aB (hK))
theorem Abm {P D xs:List jR} {y:jR} {r:Int} (hxs:xs=P++(D++ [y])) (hlo:lo=P.length) (hk:k=D.length+1) (hr:r=D.length) (hkc:k≤kc) (hA:A=some ⟨B,off+lo * 2,none⟩) (hs:xs.length≤100000) (hK:K (.tuple #[]) (bT (some ⟨B,off,none⟩) c0 255 fI (P++(y::D))::R)):aA Tryz.prog 392 #[.slice A k kc,.int .i64 r] (bT (some ⟨B,off,none⟩) c0 255 fI xs::R) K:=by
 subst hA hr
 have hlen:xs.length=lo+k:=by rw[hxs,hlo,hk];simp <;> omega
 refine aH Tryz.func392 ?_
 repeat' (first|(show aN _ _ _ _ _ _ _;refine nH (sz:=2) ?_;intro A' hA')|refine v8 ?_|refine wr ?_|refine w5 ?_ ?_|((refine bh fun h=>?_) <;> try exact w6 h)|(refine aE fun hA=>?_;subst hA)|intro _)
 have hs2:P.length+D.length+1≤100000:=by rw[hxs,List.length_append,List.length_append] at hs;exact hs
 refine CA (h:=Li (P:=P) (M:=D) (S:= [y]) hxs hlo (by simp) (by rw[Gf hA' (by omega)] <;> simp) hs ?_)
 repeat' (first|(show aN _ _ _ _ _ _ _;refine nH (sz:=2) ?_;intro A2 hA2)|refine v8 ?_|refine wr ?_|refine w5 ?_ ?_|((refine bh fun h=>?_) <;> try exact w6 h)|(refine aE fun hA=>?_;subst hA)|intro _)
 refine CA (h:=Li (xs:=P++(D.reverse++ [y])) (P:=P++D.reverse) (M:= [y]) (S:= []) (by simp) (lo:=lo+D.length) (by simp[hlo]) (by simp[hk]) ((Gf hA2 (by omega)).trans (congrArg (fun o=>some (⟨B,o,none⟩:Addr)) (by rw[Int.toNat_natCast];omega))) (by simp only[List.length_append,List.length_reverse,List.length_cons,List.length_nil];omega) ?_)
 repeat' (first|refine v8 ?_|refine wr ?_|refine w5 ?_ ?_|((refine bh fun h=>?_) <;> try exact w6 h)|(refine aE fun hA=>?_;subst hA)|intro _)
 refine CA (h:=Li (xs:=P++D.reverse++([y].reverse++ [])) (P:=P) (M:=D.reverse++ [y]) (S:= []) (by simp) hlo (by simp[hk]) rfl (by simp only[List.length_append,List.length_reverse,List.length_cons,List.length_nil];omega) ?_)
 rw[show P++((D.reverse++ [y]).reverse++ [])=P++(y::D) by simp]
 repeat' (first|refine v8 ?_|refine wr ?_|refine w5 ?_ ?_|((refine bh fun h=>?_) <;> try exact w6 h)|(refine aE fun hA=>?_;subst hA)|intro _)
 all_goals(refine aC ?_;exact aB (hK))
theorem Y9 {P D xs:List jR} {y:jR} (hxs:xs=P++(D++ [y])) (hlo:lo=P.length) (hk:k=D.length+1) (hkc:k≤kc) (hA:A=some ⟨B,off+lo * 2,none⟩) (hs:xs.length≤100000) (hK:K (.tuple #[]) (bT (some ⟨B,off,none⟩) c0 255 fI (P++(y::D))::R)):aA Tryz.prog 363 #[.slice A k kc,.int .i64 1] (bT (some ⟨B,off,none⟩) c0 255 fI xs::R) K:=by
 have hlen:xs.length=lo+k:=by rw[hxs,hlo,hk];simp <;> omega
 refine aH Tryz.func363 ?_
 repeat' (first|refine v8 ?_|refine wr ?_|refine w5 ?_ ?_|((refine bh fun h=>?_) <;> try exact w6 h)|(refine aE fun hA=>?_;subst hA)|intro _|(show aA _ 392 _ _ _;refine CA (h:=Abm hxs hlo hk (by omega) hkc hA hs ?_)))
 all_goals(refine aC ?_;exact aB (hK))
end
end
section
variable {R C:List HP} {K:Value→List HP→Prop}
section
theorem TX {α:Type} {xs:List α} {y:α} {i:Nat} (hi:i<xs.length) {ys0 ys1:List (Option α)} (h0:ys0=(xs.take i).map some++List.replicate (xs.length+1 - i) none) (h1:ys1=ys0.take i++([some y]++ys0.drop (i+1))):ys1.take (i+1)++((xs.drop i).map some++ys1.drop (i+1+((xs.drop i).map some).length))=(xs.take i++(y::xs.drop i)).map some:=by
 have l0:((xs.take i).map some).length=i:=by rw[List.length_map,List.length_take];omega
 have e0:ys0.take i=(xs.take i).map some:=by rw[h0,List.take_left' l0]
 have e1:ys1.take (i+1)=(xs.take i).map some++ [some y]:=by
  rw[h1,e0,← List.append_assoc,List.take_left' (by rw[List.length_append,l0];rfl)]
 have l1:ys1.length=xs.length+1:=by
  rw[h1,e0,h0]
  simp only[List.length_append,List.length_drop,List.length_map,List.length_take,List.length_replicate,List.length_cons,List.length_nil]
  omega
 have e2:ys1.drop (i+1+((xs.drop i).map some).length)= []:=List.drop_eq_nil_of_le (by rw[l1,List.length_map,List.length_drop];omega)
 rw[e1,e2]
 simp
theorem Aag {α:Type} {xs ys:List α} {y:α} {i:Nat} (hi:i<xs.length) (h:ys=xs.take (i+1)++(xs.drop i++xs.drop (i+1+(xs.drop i).length))):ys.take i++([y]++ys.drop (i+1))=xs.take i++(y::xs.drop i):=by
 have e:xs.drop (i+1+(xs.drop i).length)= []:=List.drop_eq_nil_of_le (by rw[List.length_drop];omega)
 have l:(xs.take (i+1)).length=i+1:=by rw[List.length_take];omega
 rw[h,e,List.append_nil,List.drop_left' l,List.take_append_of_le_length (by omega),List.take_take,Nat.min_eq_left (by omega)]
 simp
variable {A:Option Addr} {r c n i:Nat}
def cR:List (Nat×Nat):= [(0,0),(1,0),(2,0),(3,0),(4,0),(5,0),(6,0),(7,0),(8,1)]
def cV:List (Nat×Nat):= [(0,0),(1,0),(2,0),(3,0),(4,0),(5,0),(6,0),(7,0),(8,1)]
theorem Y2 {xs:List iK} {y:iK} {B off:Nat} (hn:xs.length=n) (hi:i<n) (hs:n≤1000) (hc:n≤c) (hroom:(c:Int)<(n:Int)+1) (hK:∀A' c',K (.slice A' (n+1) c') (bT A' c' 329 wN (xs.take i++(y::xs.drop i))::R)):aA Tryz.prog 308 #[.slice (some ⟨B,off,none⟩) n c,.int .i64 i,.slice (some ⟨r,0,none⟩) 1 1] (bT (some ⟨B,off,none⟩) c 329 wN xs::pt r [.int .i64 y.id,.pointer (some ⟨y.w,0,none⟩),.int .i64 y.sp] 329::R) K:=by
 subst hn
 have hdl:(xs.drop i).length=xs.length - i:=List.length_drop ..
 have htl:((xs.take i).map some).length=i:=by rw[List.length_map,List.length_take];omega
 refine aH Tryz.func308 ?_
 repeat' (first|(show aN _ _ _ _ _ _ _;first|refine oZ ?_|refine eA (sz:=3) ?_)|refine JU ?_|refine dw cR ?_|refine dw cV ?_|refine wr ?_|refine w5 ?_ ?_|((refine bh fun h=>?_) <;> try exact w6 h)|(refine aE fun hA=>?_;subst hA)|intro _)
 refine JE (E:=wN) (xs:=xs.take i) (k:=xs.length+1 - i) ⟨rfl,rfl⟩ (fun r2 N hN=>?_) (D5 (off:=off) (lo:=0) d9 i (Nat.zero_le _) rfl)
 repeat' (first|(show aN _ _ _ _ _ _ _;first|refine oZ ?_|refine eA (sz:=3) ?_)|refine JU ?_|refine dw cR ?_|refine dw cV ?_|refine wr ?_|refine w5 ?_ ?_|((refine bh fun h=>?_) <;> try exact w6 h)|(refine aE fun hA=>?_;subst hA)|intro _)
 refine rL (sz:=3) (j:=i) (vs:= [some y]) ?_ (hsrc:=Gk (vs:= [y]) xM)
 repeat' (first|(show aN _ _ _ _ _ _ _;first|refine oZ ?_|refine eA (sz:=3) ?_)|refine JU ?_|refine dw cR ?_|refine dw cV ?_|refine wr ?_|refine w5 ?_ ?_|((refine bh fun h=>?_) <;> try exact w6 h)|(refine aE fun hA=>?_;subst hA)|intro _)
 refine rL (sz:=3) (j:=i+1) (vs:=(xs.drop i).map some) ?_ (hsrc:=Gk (Da (sz:=3) (j:=i)))
 repeat' (first|(show aN _ _ _ _ _ _ _;first|refine oZ ?_|refine eA (sz:=3) ?_)|refine JU ?_|refine dw cR ?_|refine dw cV ?_|refine wr ?_|refine w5 ?_ ?_|((refine bh fun h=>?_) <;> try exact w6 h)|(refine aE fun hA=>?_;subst hA)|intro _)
 (refine aC ?_;exact aL (aG.trans (by exact bA) ((OM (TX hi rfl rfl)))) ((kv (hK _ _) (congrArg (fun n=>Value.slice _ n _) (by omega)))))
theorem Ac9 {xs:List iK} {y:iK} {B off:Nat} (hn:xs.length=n) (hi:i<n) (hs:n≤1000) (hc:n≤c) (hroom:¬(c:Int)<(n:Int)+1) (hK:∀A' c',K (.slice A' (n+1) c') (bT A' c' 329 wN (xs.take i++(y::xs.drop i))::R)):aA Tryz.prog 308 #[.slice (some ⟨B,off,none⟩) n c,.int .i64 i,.slice (some ⟨r,0,none⟩) 1 1] (bT (some ⟨B,off,none⟩) c 329 wN xs::pt r [.int .i64 y.id,.pointer (some ⟨y.w,0,none⟩),.int .i64 y.sp] 329::R) K:=by
 subst hn
 have hdl:(xs.drop i).length=xs.length - i:=List.length_drop ..
 refine aH Tryz.func308 ?_
 repeat' (first|(show aN _ _ _ _ _ _ _;first|refine oZ ?_|refine eA (sz:=3) ?_)|refine dw cR ?_|refine dw cV ?_|refine w1m ?_|refine w5 ?_ ?_|((refine bh fun h=>?_) <;> try exact w6 h)|(refine aE fun hA=>?_;subst hA)|intro _)
 refine Ib (E:=wN) (sz:=3) (tS:=233) (tR:=4) (off:=off) (j:=i+1) (fun b=>?_)
 cases b
 ·repeat' (first|(show aN _ _ _ _ _ _ _;first|refine oZ ?_|refine eA (sz:=3) ?_)|refine JU ?_|refine dw cR ?_|refine dw cV ?_|refine wr ?_|refine w5 ?_ ?_|((refine bh fun h=>?_) <;> try exact w6 h)|(refine aE fun hA=>?_;subst hA)|intro _)
  refine rL (sz:=3) (j:=i+1) (vs:=xs.drop i) ?_ (hsrc:=Da (sz:=3) (j:=i))
  repeat' (first|(show aN _ _ _ _ _ _ _;first|refine oZ ?_|refine eA (sz:=3) ?_)|refine JU ?_|refine dw cR ?_|refine dw cV ?_|refine wr ?_|refine w5 ?_ ?_|((refine bh fun h=>?_) <;> try exact w6 h)|(refine aE fun hA=>?_;subst hA)|intro _)
  refine rL (sz:=3) (j:=i) (vs:= [y]) ?_ (hsrc:=xM)
  repeat' (first|(show aN _ _ _ _ _ _ _;first|refine oZ ?_|refine eA (sz:=3) ?_)|refine JU ?_|refine dw cR ?_|refine dw cV ?_|refine wr ?_|refine w5 ?_ ?_|((refine bh fun h=>?_) <;> try exact w6 h)|(refine aE fun hA=>?_;subst hA)|intro _)
  (refine aC ?_;exact aL (aG.trans (by exact bA) ((U5 (Aag hi rfl)))) ((kv (hK _ _) (DC (by omega) (by omega) (by omega)))))
 ·repeat' (first|(show aN _ _ _ _ _ _ _;first|refine oZ ?_|refine eA (sz:=3) ?_)|refine JU ?_|refine dw cR ?_|refine dw cV ?_|refine wr ?_|refine w5 ?_ ?_|((refine bh fun h=>?_) <;> try exact w6 h)|(refine aE fun hA=>?_;subst hA)|intro _)
  refine rL (sz:=3) (j:=xs.length) (vs:= [y]) ?_ (hsrc:=xM)
  repeat' (first|(show aN _ _ _ _ _ _ _;first|refine oZ ?_|refine eA (sz:=3) ?_)|refine JU ?_|refine dw cR ?_|refine dw cV ?_|refine wr ?_|refine w5 ?_ ?_|((refine bh fun h=>?_) <;> try exact w6 h)|(refine aE fun hA=>?_;subst hA)|intro _|(show aA _ 368 _ _ _;refine CA (h:=Ab4 (xs:=xs.take xs.length++([y]++xs.drop (xs.length+ [y].length))) (P:=xs.take i) (D:=xs.drop i) (y:=y) (lo:=i) (by rw[List.take_of_length_le (Nat.le_refl _),List.drop_eq_nil_of_le (by simp),List.append_nil,← List.append_assoc,List.take_append_drop]) (by rw[List.length_take];omega) (by rw[hdl];omega) (by omega) (vH (by omega)) (by simp only[List.length_append,List.length_take,List.length_drop,List.length_cons,List.length_nil];omega) ?_)))
  all_goals(refine aC ?_;exact aB ((kv (hK (some ⟨B,off,none⟩) c) (DC (by omega) (by omega) (by omega)))))
theorem Ad2 {xs:List iK} {y:iK} (hn:xs.length=n) (hi:i≤n) (hs:n≤1000) (hK:∀A' c',K (.slice A' (n+1) c') (bT A' c' 329 wN (xs.take i++(y::xs.drop i))::R)):aA Tryz.prog 308 #[.slice A n c,.int .i64 i,.slice (some ⟨r,0,none⟩) 1 1] (bT A c 329 wN xs::pt r [.int .i64 y.id,.pointer (some ⟨y.w,0,none⟩),.int .i64 y.sp] 329::R) K:=by
 refine iS aV.here fun hc=>?_
 subst hn
 rcases Nat.lt_or_ge i xs.length with hlt|hge
 ·refine pO aV.here (by omega) fun B off hA=>?_
  subst hA
  by_cases hroom:(c:Int)<(xs.length:Int)+1
  ·exact Y2 rfl hlt hs hc hroom hK
  ·exact Ac9 rfl hlt hs hc hroom hK
 ·have hi':i=xs.length:=by omega
  subst hi'
  rw[List.take_of_length_le (Nat.le_refl _),List.drop_eq_nil_of_le (Nat.le_refl _)] at hK
  refine aH Tryz.func308 ?_
  repeat' (first|(show aN _ _ _ _ _ _ _;first|(refine nH ?_;intro A1 hA1)|(refine cY (E:=wN) (xs:=xs) (ys:= [y]) ?_ (hsrc:=yD);intro A2 c2))|refine JU ?_|refine dw cR ?_|refine dw cV ?_|refine wr ?_|refine w5 ?_ ?_|((refine bh fun h=>?_) <;> try exact w6 h)|(refine aE fun hA=>?_;subst hA)|intro _)
  all_goals(refine aC ?_;exact aB ((by rw[List.length_append];exact hK _ _)))
def cU:List (Nat×Nat):= [(0,0),(1,0),(2,0),(3,0),(4,0),(5,0),(6,0),(7,0),(8,1)]
def cW:List (Nat×Nat):= [(0,0),(1,0),(2,0),(3,0),(4,0),(5,0),(6,0),(7,0),(8,1)]
theorem ZS {xs:List jR} {y:jR} {B off:Nat} (hn:xs.length=n) (hi:i<n) (hs:n≤1000) (hc:n≤c) (hroom:(c:Int)<(n:Int)+1) (hK:∀A' c',K (.slice A' (n+1) c') (bT A' c' 255 fI (xs.take i++(y::xs.drop i))::R)):aA Tryz.prog 302 #[.slice (some ⟨B,off,none⟩) n c,.int .i64 i,.slice (some ⟨r,0,none⟩) 1 1] (bT (some ⟨B,off,none⟩) c 255 fI xs::pt r [.int .i64 y.id,.pointer (some ⟨y.a,0,none⟩)] 255::R) K:=by
 subst hn
 have hdl:(xs.drop i).length=xs.length - i:=List.length_drop ..
 have htl:((xs.take i).map some).length=i:=by rw[List.length_map,List.length_take];omega
 refine aH Tryz.func302 ?_
 repeat' (first|(show aN _ _ _ _ _ _ _;first|refine oZ ?_|refine eA (sz:=2) ?_)|refine JU ?_|refine dw cU ?_|refine dw cW ?_|refine wr ?_|refine w5 ?_ ?_|((refine bh fun h=>?_) <;> try exact w6 h)|(refine aE fun hA=>?_;subst hA)|intro _)
 refine JE (E:=fI) (xs:=xs.take i) (k:=xs.length+1 - i) ⟨rfl,rfl⟩ (fun r2 N hN=>?_) (D5 (off:=off) (lo:=0) d9 i (Nat.zero_le _) rfl)
 repeat' (first|(show aN _ _ _ _ _ _ _;first|refine oZ ?_|refine eA (sz:=2) ?_)|refine JU ?_|refine dw cU ?_|refine dw cW ?_|refine wr ?_|refine w5 ?_ ?_|((refine bh fun h=>?_) <;> try exact w6 h)|(refine aE fun hA=>?_;subst hA)|intro _)
 refine rL (sz:=2) (j:=i) (vs:= [some y]) ?_ (hsrc:=Gk (vs:= [y]) xM)
 repeat' (first|(show aN _ _ _ _ _ _ _;first|refine oZ ?_|refine eA (sz:=2) ?_)|refine JU ?_|refine dw cU ?_|refine dw cW ?_|refine wr ?_|refine w5 ?_ ?_|((refine bh fun h=>?_) <;> try exact w6 h)|(refine aE fun hA=>?_;subst hA)|intro _)
 refine rL (sz:=2) (j:=i+1) (vs:=(xs.drop i).map some) ?_ (hsrc:=Gk (Da (sz:=2) (j:=i)))
 repeat' (first|(show aN _ _ _ _ _ _ _;first|refine oZ ?_|refine eA (sz:=2) ?_)|refine JU ?_|refine dw cU ?_|refine dw cW ?_|refine wr ?_|refine w5 ?_ ?_|((refine bh fun h=>?_) <;> try exact w6 h)|(refine aE fun hA=>?_;subst hA)|intro _)
 (refine aC ?_;exact aL (aG.trans (by exact bA) ((OM (TX hi rfl rfl)))) ((kv (hK _ _) (congrArg (fun n=>Value.slice _ n _) (by omega)))))
theorem Zt {xs:List jR} {y:jR} {B off:Nat} (hn:xs.length=n) (hi:i<n) (hs:n≤1000) (hc:n≤c) (hroom:¬(c:Int)<(n:Int)+1) (hK:∀A' c',K (.slice A' (n+1) c') (bT A' c' 255 fI (xs.take i++(y::xs.drop i))::R)):aA Tryz.prog 302 #[.slice (some ⟨B,off,none⟩) n c,.int .i64 i,.slice (some ⟨r,0,none⟩) 1 1] (bT (some ⟨B,off,none⟩) c 255 fI xs::pt r [.int .i64 y.id,.pointer (some ⟨y.a,0,none⟩)] 255::R) K:=by
 subst hn
 have hdl:(xs.drop i).length=xs.length - i:=List.length_drop ..
 refine aH Tryz.func302 ?_
 repeat' (first|(show aN _ _ _ _ _ _ _;first|refine oZ ?_|refine eA (sz:=2) ?_)|refine dw cU ?_|refine dw cW ?_|refine w1m ?_|refine w5 ?_ ?_|((refine bh fun h=>?_) <;> try exact w6 h)|(refine aE fun hA=>?_;subst hA)|intro _)
 refine Ib (E:=fI) (sz:=2) (tS:=224) (tR:=4) (off:=off) (j:=i+1) (fun b=>?_)
 cases b
 ·repeat' (first|(show aN _ _ _ _ _ _ _;first|refine oZ ?_|refine eA (sz:=2) ?_)|refine JU ?_|refine dw cU ?_|refine dw cW ?_|refine wr ?_|refine w5 ?_ ?_|((refine bh fun h=>?_) <;> try exact w6 h)|(refine aE fun hA=>?_;subst hA)|intro _)
  refine rL (sz:=2) (j:=i+1) (vs:=xs.drop i) ?_ (hsrc:=Da (sz:=2) (j:=i))
  repeat' (first|(show aN _ _ _ _ _ _ _;first|refine oZ ?_|refine eA (sz:=2) ?_)|refine JU ?_|refine dw cU ?_|refine dw cW ?_|refine wr ?_|refine w5 ?_ ?_|((refine bh fun h=>?_) <;> try exact w6 h)|(refine aE fun hA=>?_;subst hA)|intro _)
  refine rL (sz:=2) (j:=i) (vs:= [y]) ?_ (hsrc:=xM)
  repeat' (first|(show aN _ _ _ _ _ _ _;first|refine oZ ?_|refine eA (sz:=2) ?_)|refine JU ?_|refine dw cU ?_|refine dw cW ?_|refine wr ?_|refine w5 ?_ ?_|((refine bh fun h=>?_) <;> try exact w6 h)|(refine aE fun hA=>?_;subst hA)|intro _)
  (refine aC ?_;exact aL (aG.trans (by exact bA) ((U5 (Aag hi rfl)))) ((kv (hK _ _) (DC (by omega) (by omega) (by omega)))))
 ·repeat' (first|(show aN _ _ _ _ _ _ _;first|refine oZ ?_|refine eA (sz:=2) ?_)|refine JU ?_|refine dw cU ?_|refine dw cW ?_|refine wr ?_|refine w5 ?_ ?_|((refine bh fun h=>?_) <;> try exact w6 h)|(refine aE fun hA=>?_;subst hA)|intro _)
  refine rL (sz:=2) (j:=xs.length) (vs:= [y]) ?_ (hsrc:=xM)
  repeat' (first|(show aN _ _ _ _ _ _ _;first|refine oZ ?_|refine eA (sz:=2) ?_)|refine JU ?_|refine dw cU ?_|refine dw cW ?_|refine wr ?_|refine w5 ?_ ?_|((refine bh fun h=>?_) <;> try exact w6 h)|(refine aE fun hA=>?_;subst hA)|intro _|(show aA _ 363 _ _ _;refine CA (h:=Y9 (xs:=xs.take xs.length++([y]++xs.drop (xs.length+ [y].length))) (P:=xs.take i) (D:=xs.drop i) (y:=y) (lo:=i) (by rw[List.take_of_length_le (Nat.le_refl _),List.drop_eq_nil_of_le (by simp),List.append_nil,← List.append_assoc,List.take_append_drop]) (by rw[List.length_take];omega) (by rw[hdl];omega) (by omega) (vH (by omega)) (by simp only[List.length_append,List.length_take,List.length_drop,List.length_cons,List.length_nil];omega) ?_)))
  all_goals(refine aC ?_;exact aB ((kv (hK (some ⟨B,off,none⟩) c) (DC (by omega) (by omega) (by omega)))))
theorem Af3 {xs:List jR} {y:jR} (hn:xs.length=n) (hi:i≤n) (hs:n≤1000) (hK:∀A' c',K (.slice A' (n+1) c') (bT A' c' 255 fI (xs.take i++(y::xs.drop i))::R)):aA Tryz.prog 302 #[.slice A n c,.int .i64 i,.slice (some ⟨r,0,none⟩) 1 1] (bT A c 255 fI xs::pt r [.int .i64 y.id,.pointer (some ⟨y.a,0,none⟩)] 255::R) K:=by
 refine iS aV.here fun hc=>?_
 subst hn
 rcases Nat.lt_or_ge i xs.length with hlt|hge
 ·refine pO aV.here (by omega) fun B off hA=>?_
  subst hA
  by_cases hroom:(c:Int)<(xs.length:Int)+1
  ·exact ZS rfl hlt hs hc hroom hK
  ·exact Zt rfl hlt hs hc hroom hK
 ·have hi':i=xs.length:=by omega
  subst hi'
  rw[List.take_of_length_le (Nat.le_refl _),List.drop_eq_nil_of_le (Nat.le_refl _)] at hK
  refine aH Tryz.func302 ?_
  repeat' (first|(show aN _ _ _ _ _ _ _;first|(refine nH ?_;intro A1 hA1)|(refine cY (E:=fI) (xs:=xs) (ys:= [y]) ?_ (hsrc:=yD);intro A2 c2))|refine JU ?_|refine dw cU ?_|refine dw cW ?_|refine wr ?_|refine w5 ?_ ?_|((refine bh fun h=>?_) <;> try exact w6 h)|(refine aE fun hA=>?_;subst hA)|intro _)
  all_goals(refine aC ?_;exact aB ((by rw[List.length_append];exact hK _ _)))
end
end
section
variable {R C:List HP} {K:Value→List HP→Prop}
section
variable {p w0 n c:Nat} {sp t n0:Int} {A:Option Addr} {l:List iK} {e:iK}
theorem uV (hs:l.length≤100000) (hp:l.Pairwise fun a b=>a.id<b.id) (hK:K (.tuple #[.int .i64 (AD t l),.bool (Lo t l)]) (pt p [.pointer (some ⟨w0,0,none⟩),.int .i64 sp,.slice A l.length c] 235::bT A c 329 wN l::R)):aA Tryz.prog 307 #[.pointer (some ⟨p,0,none⟩),.int .i64 t] (pt p [.pointer (some ⟨w0,0,none⟩),.int .i64 sp,.slice A l.length c] 235::bT A c 329 wN l::R) K:=by
 refine aH Tryz.func307 ?_
 repeat' (first|refine SL ?_|refine wr ?_|refine w5 ?_ ?_|((refine bh fun h=>?_) <;> try exact w6 h)|(refine aE fun hA=>?_;subst hA)|intro _|(show aA _ 364 _ _ _;refine CA (h:=MY (l:=l) (by exact kR) rfl hs hp ?_)))
 all_goals(refine aC ?_;exact aB (hK))
theorem J7 (hs:l.length≤100000) (hp:l.Pairwise fun a b=>a.id<b.id) (hf:Lo t l=false) (hK:K (.tuple #[.pointer none,.int .i64 7]) (pt p [.pointer (some ⟨w0,0,none⟩),.int .i64 sp,.slice A l.length c] 235::bT A c 329 wN l::R)):aA Tryz.prog 275 #[.pointer (some ⟨p,0,none⟩),.int .i64 t] (pt p [.pointer (some ⟨w0,0,none⟩),.int .i64 sp,.slice A l.length c] 235::bT A c 329 wN l::R) K:=by
 refine aH Tryz.func275 ?_
 repeat' (first|refine v41 ?_|refine wr ?_|refine w5 ?_ ?_|((refine bh fun h=>?_) <;> try exact w6 h)|(refine aE fun hA=>?_;subst hA)|intro _|(show aA _ 307 _ _ _;refine CA (h:=uV hs hp ?_);rw[hf]))
 all_goals(refine aC ?_;exact aB (hK))
theorem Akc (h:Lo t l=true):∃e,l[AD t l]?=some e∧e.id=t∧AD t l<l.length:=by
 unfold Lo at h
 cases he:l[AD t l]? with
 |none=>rw[he] at h;cases h
 |some e=>
  rw[he] at h
  exact⟨e,rfl,by simpa using h,(List.getElem?_eq_some_iff.1 he).1⟩
theorem E6 (hs:l.length≤100000) (hp:l.Pairwise fun a b=>a.id<b.id) (hf:Lo t l=true) (hK:∀B off,A=some ⟨B,off,none⟩→K (.tuple #[.pointer (some ⟨B,off+AD t l * 3,none⟩),.int .i64 0]) (pt p [.pointer (some ⟨w0,0,none⟩),.int .i64 sp,.slice A l.length c] 235::bT A c 329 wN l::R)):aA Tryz.prog 275 #[.pointer (some ⟨p,0,none⟩),.int .i64 t] (pt p [.pointer (some ⟨w0,0,none⟩),.int .i64 sp,.slice A l.length c] 235::bT A c 329 wN l::R) K:=by
 obtain⟨e,he,_,hlt⟩:=Akc hf
 refine pO (aV.there aV.here) (by omega) fun B off hA=>?_
 subst hA
 refine aH Tryz.func275 ?_
 repeat' (first|refine v41 ?_|refine wr ?_|refine w5 ?_ ?_|((refine bh fun h=>?_) <;> try exact w6 h)|(refine aE fun hA=>?_;subst hA)|intro _|(show aA _ 307 _ _ _;refine CA (h:=uV hs hp ?_);rw[hf]))
 all_goals(refine aC ?_;exact aB (hK _ _ rfl))
def oJ:List (Nat×Nat):= [(0,0),(1,0),(2,0),(3,0),(4,1),(5,1),(6,1),(7,1),(8,1),(9,1),(10,0),(11,0)]
theorem Xv (hs:l.length≤100000) (hp:l.Pairwise fun a b=>a.id<b.id) (hf:Lo t l=false) (hK:K (.int .i64 0) (pt p [.pointer (some ⟨w0,0,none⟩),.int .i64 sp,.slice A l.length c] 235::bT A c 329 wN l::R)):aA Tryz.prog 184 #[.pointer (some ⟨p,0,none⟩),.int .i64 t] (pt p [.pointer (some ⟨w0,0,none⟩),.int .i64 sp,.slice A l.length c] 235::bT A c 329 wN l::R) K:=by
 refine aH Tryz.func184 ?_
 repeat' (first|refine v35 ?_|refine dw oJ ?_|refine wr ?_|refine w5 ?_ ?_|((refine bh fun h=>?_) <;> try exact w6 h)|(refine aE fun hA=>?_;subst hA)|intro _|(show aA _ 275 _ _ _;refine CA (h:=J7 hs hp hf ?_)))
 all_goals(refine aC ?_;exact aB (hK))
theorem JH {m:Int} (hs:l.length≤100000) (hp:l.Pairwise fun a b=>a.id<b.id) (hf:Lo t l=true) (he:l[AD t l]?=some e) (hK:K (.int .i64 (min (max m 0) (max n0 0))) (pt p [.pointer (some ⟨w0,0,none⟩),.int .i64 sp,.slice A l.length c] 235::bT A c 329 wN l::tC w0 n0::tC e.w m::R)):aA Tryz.prog 184 #[.pointer (some ⟨p,0,none⟩),.int .i64 t] (pt p [.pointer (some ⟨w0,0,none⟩),.int .i64 sp,.slice A l.length c] 235::bT A c 329 wN l::tC w0 n0::tC e.w m::R) K:=by
 refine pO (aV.there aV.here) (by have:=(List.getElem?_eq_some_iff.1 he).1;omega) fun B off hA=>?_
 subst hA
 refine aH Tryz.func184 ?_
 repeat' (first|refine v35 ?_|refine dw oJ ?_|refine wr ?_|refine w5 ?_ ?_|((refine bh fun h=>?_) <;> try exact w6 h)|(refine aE fun hA=>?_;subst hA)|intro _|(show aA _ 275 _ _ _;refine CA (h:=E6 hs hp hf (fun B' off' hA'=>?_))))
 cases hA'
 repeat' (first|refine v35 ?_|refine dw oJ ?_|refine wr ?_|refine w5 ?_ ?_|((refine bh fun h=>?_) <;> try exact w6 h)|(refine aE fun hA=>?_;subst hA)|intro _|(show aA _ 276 _ _ _;first|refine CA (h:=w9 (p:=e.w) ?_)|refine CA (h:=w9 ?_)))
 all_goals(refine aC ?_;exact aB (hK))
end
end
section
variable {R C:List HP} {K:Value→List HP→Prop}
section
variable {p w0 n c:Nat} {sp t n0 m k b:Int} {A:Option Addr} {l:List iK} {e:iK}
theorem Wq (hs:l.length≤100000) (hp:l.Pairwise fun a b=>a.id<b.id) (hf:Lo t l=true) (he:l[AD t l]?=some e) (hk:0≤k) (hkf:k≤min (max m 0) (max n0 0)) (hm:-4294967296≤m∧m≤4294967296) (hn:-4294967296≤n0∧n0≤4294967296) (hsp:0≤sp∧sp≤1000000000000) (hes:0≤e.sp∧e.sp≤1000000000000)
  (hK:K (.int .i64 0) (pt p [.pointer (some ⟨w0,0,none⟩),.int .i64 (sp+k),.slice A l.length c] 235::bT A c 329 wN (l.set (AD t l) ⟨e.id,e.w,e.sp+k⟩)::tC w0 (n0 - k)::tC e.w (m - k)::R)):aA Tryz.prog 194 #[.pointer (some ⟨p,0,none⟩),.int .i64 t,.int .i64 k] (pt p [.pointer (some ⟨w0,0,none⟩),.int .i64 sp,.slice A l.length c] 235::bT A c 329 wN l::tC w0 n0::tC e.w m::R) K:=by
 have e1:p7 m k=0:=by unfold p7;rw[if_neg (by omega),if_neg (by omega)]
 have e2:p7 n0 k=0:=by unfold p7;rw[if_neg (by omega),if_neg (by omega)]
 have f1:vE m k=m - k:=by unfold vE;rw[if_pos e1]
 have f2:vE n0 k=n0 - k:=by unfold vE;rw[if_pos e2]
 refine pO (aV.there aV.here) (by have:=(List.getElem?_eq_some_iff.1 he).1;omega) fun B off hA=>?_
 subst hA
 refine aH Tryz.func194 ?_
 repeat' (first|refine v49 ?_|refine wr ?_|refine w5 ?_ ?_|((refine bh fun h=>?_) <;> try exact w6 h)|(refine aE fun hA=>?_;subst hA)|intro _|(show aA _ 275 _ _ _;refine CA (h:=E6 hs hp hf (fun B' off' hA'=>?_))))
 cases hA'
 repeat' (first|refine v49 ?_|refine wr ?_|refine w5 ?_ ?_|((refine bh fun h=>?_) <;> try exact w6 h)|(refine aE fun hA=>?_;subst hA)|intro _|(show aA _ 184 _ _ _;refine CA (h:=JH hs hp hf he ?_))|(show aA _ 294 _ _ _;first|(refine CA (h:=Ig (p:=e.w) (n:=m) hm (by omega) ?_);rw[f1])|(refine CA (h:=Ig (p:=w0) (n:=n0) hn (by omega) ?_);rw[f2]))|(show aN _ _ _ _ _ _ _;first|refine Hb ?_|refine t8 ?_))
 all_goals(refine aC ?_;exact aB (hK))
theorem WR (hn:-4294967296≤n0∧n0≤4294967296) (hK:K (.int .i64 (rH n0 b)) (pt p [.pointer (some ⟨w0,0,none⟩),.int .i64 sp,.slice A n c] 235::tC w0 (mH n0 b)::R)):aA Tryz.prog 258 #[.pointer (some ⟨p,0,none⟩),.int .i64 0,.int .i64 b] (pt p [.pointer (some ⟨w0,0,none⟩),.int .i64 sp,.slice A n c] 235::tC w0 n0::R) K:=by
 refine aH Tryz.func258 ?_
 repeat' (first|refine v58 ?_|refine wr ?_|refine w5 ?_ ?_|((refine bh fun h=>?_) <;> try exact w6 h)|(refine aE fun hA=>?_;subst hA)|intro _|(show aA _ 340 _ _ _;refine CA (h:=J6 hn ?_)))
 all_goals(refine aC ?_;exact aB (hK))
theorem Wz (hs:l.length≤100000) (hp:l.Pairwise fun a b=>a.id<b.id) (ht:t≠0) (hf:Lo t l=false) (hK:K (.int .i64 7) (pt p [.pointer (some ⟨w0,0,none⟩),.int .i64 sp,.slice A l.length c] 235::bT A c 329 wN l::R)):aA Tryz.prog 258 #[.pointer (some ⟨p,0,none⟩),.int .i64 t,.int .i64 b] (pt p [.pointer (some ⟨w0,0,none⟩),.int .i64 sp,.slice A l.length c] 235::bT A c 329 wN l::R) K:=by
 refine aH Tryz.func258 ?_
 repeat' (first|refine v58 ?_|refine wr ?_|refine w5 ?_ ?_|((refine bh fun h=>?_) <;> try exact w6 h)|(refine aE fun hA=>?_;subst hA)|intro _|(show aA _ 275 _ _ _;refine CA (h:=J7 hs hp hf ?_)))
 all_goals(refine aC ?_;exact aB (hK))
theorem WB (hs:l.length≤100000) (hp:l.Pairwise fun a b=>a.id<b.id) (ht:t≠0) (hf:Lo t l=true) (he:l[AD t l]?=some e) (hm:-4294967296≤m∧m≤4294967296) (hK:K (.int .i64 (rH m b)) (pt p [.pointer (some ⟨w0,0,none⟩),.int .i64 sp,.slice A l.length c] 235::bT A c 329 wN l::tC e.w (mH m b)::R)):aA Tryz.prog 258 #[.pointer (some ⟨p,0,none⟩),.int .i64 t,.int .i64 b] (pt p [.pointer (some ⟨w0,0,none⟩),.int .i64 sp,.slice A l.length c] 235::bT A c 329 wN l::tC e.w m::R) K:=by
 refine pO (aV.there aV.here) (by have:=(List.getElem?_eq_some_iff.1 he).1;omega) fun B off hA=>?_
 subst hA
 refine aH Tryz.func258 ?_
 repeat' (first|refine v58 ?_|refine wr ?_|refine w5 ?_ ?_|((refine bh fun h=>?_) <;> try exact w6 h)|(refine aE fun hA=>?_;subst hA)|intro _|(show aA _ 275 _ _ _;refine CA (h:=E6 hs hp hf (fun B' off' hA'=>?_))))
 cases hA'
 repeat' (first|refine v58 ?_|refine wr ?_|refine w5 ?_ ?_|((refine bh fun h=>?_) <;> try exact w6 h)|(refine aE fun hA=>?_;subst hA)|intro _|(show aA _ 340 _ _ _;refine CA (h:=J6 hm ?_)))
 all_goals(refine aC ?_;exact aB (hK))
end
end
end Go.Proofs.YtifgibijcmppmaaGreat
