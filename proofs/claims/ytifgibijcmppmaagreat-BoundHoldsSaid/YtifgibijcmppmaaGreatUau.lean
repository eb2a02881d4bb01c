/- A part of the proof: lemmas; each with the conditions that it states. -/
import Derived.Test.YtifgibijcmppmaaGreatUat
import Derived.Test.YtifgibijcmppmaaGreatUar
set_option linter.unusedVariables false
set_option linter.unusedSimpArgs false
set_option maxRecDepth 100000
set_option maxHeartbeats 40000000
namespace Go.Proofs.YtifgibijcmppmaaGreat
open Go Go.Proofs Go.Sl
attribute [local irreducible] aN fN cX bP aM aX aA dS dV aT dU pt ro eV star sep bH
section
variable {R C:List HP} {K:KP}
def sO (p:Nat) (n:Int):HP:=pt p [I6 n] 303
def CV (n:Int):Bool:=decide (-2147483647≤n) && decide (n≤2147483647)
def mF (n:Int):Bool:=decide (0≤n) && decide (n≤2147483647)
def CO (n b:Int):Int:=if CV (n+b)=true then 0 else 10
def Eo (n b:Int):Int:=if CV (n+b)=true then n+b else n
def qW (n b:Int):Int:=if 1≤b∧b≤2147483647 then CO n b else 2
def lX (n b:Int):Int:=if 1≤b∧b≤2147483647 then Eo n b else n
def oR (n k:Int):Int:=if k<0 then 2 else if max n 0<k then 9 else 0
def vO (n k:Int):Int:=if oR n k=0 then n - k else n
def lT (n a b:Int):Int:=if mF a=true∧mF b=true then CO n (b - a) else 2
def Aw (n a b:Int):Int:=if mF a=true∧mF b=true then Eo n (b - a) else n
section
variable {p:Nat} {n b k a:Int}
theorem AY (hK:K (.bool (mF n)) R):CT 238 #[I6 n] R K:=by
 refine aH Tryz.func238 ?_
 repeat' (first|refine v1 ?_|refine w5 ?_ ?_|((refine bh fun h=>?_) <;> try exact w6 h)|(refine aE fun hA=>?_;subst hA)|intro _)
 all_goals(refine aC ?_;exact aB (kb hK (by unfold mF;simp <;> omega)))
theorem Lh (hK:K (.bool (CV n)) R):CT 396 #[I6 n] R K:=by
 refine aH Tryz.func396 ?_
 repeat' (first|refine v1 ?_|refine w5 ?_ ?_|((refine bh fun h=>?_) <;> try exact w6 h)|(refine aE fun hA=>?_;subst hA)|intro _)
 all_goals(refine aC ?_;exact aB (kb hK (by unfold CV;simp <;> omega)))
theorem zH (h:mF n=true) (hK:∀p,K (.tuple #[PO p,I6 0]) (sO p n::R)):CT 141 #[I6 n] R K:=by
 refine aH Tryz.func141 ?_
 repeat' (first|refine v21 ?_|refine w5 ?_ ?_|((refine bh fun h=>?_) <;> try exact w6 h)|(refine aE fun hA=>?_;subst hA)|intro _|(show aA _ 238 _ _ _;refine CA (h:=AY ?_);rw[h]))
 all_goals(refine aC ?_;exact aB (hK _))
theorem XZ (h:mF n=false) (hK:K (.tuple #[.pointer none,I6 3]) R):CT 141 #[I6 n] R K:=by
 refine aH Tryz.func141 ?_
 repeat' (first|refine v21 ?_|refine w5 ?_ ?_|((refine bh fun h=>?_) <;> try exact w6 h)|(refine aE fun hA=>?_;subst hA)|intro _|(show aA _ 238 _ _ _;refine CA (h:=AY ?_);rw[h]))
 all_goals(refine aC ?_;exact aB (hK))
theorem Wt (hK:K (I6 n) (sO p n::R)):CT 351 #[PO p] (sO p n::R) K:=by
 unfold sO at *
 refine aH Tryz.func351 ?_
 repeat' (first|refine v4 ?_|refine w5 ?_ ?_|((refine bh fun h=>?_) <;> try exact w6 h)|(refine aE fun hA=>?_;subst hA)|intro _)
 all_goals(refine aC ?_;exact aB (hK))
theorem xH (hK:K (I6 (max n 0)) (sO p n::R)):CT 276 #[PO p] (sO p n::R) K:=by
 refine aH Tryz.func276 ?_
 repeat' (first|refine v17 ?_|refine w5 ?_ ?_|((refine bh fun h=>?_) <;> try exact w6 h)|(refine aE fun hA=>?_;subst hA)|intro _|(show aA _ 351 _ _ _;refine CA (h:=Wt ?_)))
 all_goals(refine aC ?_;exact aB (hK))
theorem V5 (hK:∀q,K (PO q) (sO q n::sO p n::R)):CT 333 #[PO p] (sO p n::R) K:=by
 unfold sO at *
 refine aH Tryz.func333 ?_
 repeat' (first|refine v46 ?_|refine w5 ?_ ?_|((refine bh fun h=>?_) <;> try exact w6 h)|(refine aE fun hA=>?_;subst hA)|intro _)
 all_goals(refine aC ?_;exact aB (hK _))
theorem PN (hn:-4294967296≤n∧n≤4294967296) (hb:-4294967296≤b∧b≤4294967296) (hK:K (I6 (CO n b)) (sO p (Eo n b)::R)):CT 381 #[PO p,I6 b] (sO p n::R) K:=by
 cases h:CV (n+b)
 ·simp only[CO,Eo,h,if_false,Bool.false_eq_true] at hK
  unfold sO at *
  refine aH Tryz.func381 ?_
  repeat' (first|refine v37 ?_|refine w5 ?_ ?_|((refine bh fun h=>?_) <;> try exact w6 h)|(refine aE fun hA=>?_;subst hA)|intro _|(show aA _ 396 _ _ _;refine CA (h:=Lh ?_);rw[h]))
  all_goals(refine aC ?_;exact aB (hK))
 ·simp only[CO,Eo,h,if_true] at hK
  unfold sO at *
  refine aH Tryz.func381 ?_
  repeat' (first|refine v37 ?_|refine w5 ?_ ?_|((refine bh fun h=>?_) <;> try exact w6 h)|(refine aE fun hA=>?_;subst hA)|intro _|(show aA _ 396 _ _ _;refine CA (h:=Lh ?_);rw[h]))
  all_goals(refine aC ?_;exact aB (hK))
theorem K8 (hn:-4294967296≤n∧n≤4294967296) (hK:K (I6 (qW n b)) (sO p (lX n b)::R)):CT 340 #[PO p,I6 b] (sO p n::R) K:=by
 by_cases h1:1≤b
 ·by_cases h2:b≤2147483647
  ·have hi:mF b=true:=by unfold mF;simp;omega
   simp only[qW,lX,if_pos (show 1≤b∧b≤2147483647 from⟨h1,h2⟩)] at hK
   refine aH Tryz.func340 ?_
   repeat' (first|refine Jm ?_|refine w5 ?_ ?_|((refine bh fun h=>?_) <;> try exact w6 h)|(refine aE fun hA=>?_;subst hA)|intro _|(show aA _ 238 _ _ _;refine CA (h:=AY ?_);rw[hi])|(show aA _ 381 _ _ _;refine CA (h:=PN hn (by omega) ?_)))
   all_goals(refine aC ?_;exact aB (hK))
  ·have hi:mF b=false:=by unfold mF;simp;omega
   simp only[qW,lX,if_neg (show ¬(1≤b∧b≤2147483647) by omega)] at hK
   refine aH Tryz.func340 ?_
   repeat' (first|refine Jm ?_|refine w5 ?_ ?_|((refine bh fun h=>?_) <;> try exact w6 h)|(refine aE fun hA=>?_;subst hA)|intro _|(show aA _ 238 _ _ _;refine CA (h:=AY ?_);rw[hi]))
   all_goals(refine aC ?_;exact aB (hK))
 ·simp only[qW,lX,if_neg (show ¬(1≤b∧b≤2147483647) by omega)] at hK
  refine aH Tryz.func340 ?_
  repeat' (first|refine Jm ?_|refine w5 ?_ ?_|((refine bh fun h=>?_) <;> try exact w6 h)|(refine aE fun hA=>?_;subst hA)|intro _|(show aA _ 238 _ _ _;refine CA (h:=AY ?_)))
  all_goals(refine aC ?_;exact aB (hK))
theorem Io (hn:-4294967296≤n∧n≤4294967296) (hk:k≤4294967296) (hK:K (I6 (oR n k)) (sO p (vO n k)::R)):CT 294 #[PO p,I6 k] (sO p n::R) K:=by
 by_cases h1:k<0
 ·simp only[oR,vO,if_pos h1,show ¬((2:Int)=0) by decide,if_false] at hK
  refine aH Tryz.func294 ?_
  repeat' (first|refine MA ?_|refine w5 ?_ ?_|((refine bh fun h=>?_) <;> try exact w6 h)|(refine aE fun hA=>?_;subst hA)|intro _|(show aA _ 276 _ _ _;refine CA (h:=xH ?_)))
  all_goals(refine aC ?_;exact aB (hK))
 ·by_cases h2:max n 0<k
  ·simp only[oR,vO,if_neg h1,if_pos h2,show ¬((9:Int)=0) by decide,if_false] at hK
   refine aH Tryz.func294 ?_
   repeat' (first|refine MA ?_|refine w5 ?_ ?_|((refine bh fun h=>?_) <;> try exact w6 h)|(refine aE fun hA=>?_;subst hA)|intro _|(show aA _ 276 _ _ _;refine CA (h:=xH ?_)))
   all_goals(refine aC ?_;exact aB (hK))
  ·simp only[oR,vO,if_neg h1,if_neg h2,if_true] at hK
   refine aH Tryz.func294 ?_
   repeat' (first|refine MA ?_|refine w5 ?_ ?_|((refine bh fun h=>?_) <;> try exact w6 h)|(refine aE fun hA=>?_;subst hA)|intro _|(show aA _ 276 _ _ _;refine CA (h:=xH ?_)))
   all_goals(refine aC ?_;exact aB (hK))
theorem G5 (hn:-4294967296≤n∧n≤4294967296) (hK:K (I6 (lT n a b)) (sO p (Aw n a b)::R)):CT 331 #[PO p,I6 a,I6 b] (sO p n::R) K:=by
 cases h1:mF a <;> cases h2:mF b <;> simp only[lT,Aw,h1,h2,if_true,if_false,Bool.false_eq_true,and_true,and_false,true_and,false_and] at hK
 all_goals
  have g1:mF a=true→0≤a∧a≤2147483647:=fun h=>by unfold mF at h;simpa using h
  have g2:mF b=true→0≤b∧b≤2147483647:=fun h=>by unfold mF at h;simpa using h
  rw[h1] at g1
  rw[h2] at g2
  simp only[forall_const,Bool.false_eq_true,false_implies] at g1 g2
  refine aH Tryz.func331 ?_
  repeat' (first|refine v53 ?_|refine w5 ?_ ?_|((refine bh fun h=>?_) <;> try exact w6 h)|(refine aE fun hA=>?_;subst hA)|intro _|(show aA _ 238 _ _ _;refine CA (h:=AY ?_);first|rw[h1]|rw[h2])|(show aA _ 381 _ _ _;refine CA (h:=PN hn (by omega) ?_)))
  all_goals(refine aC ?_;exact aB (hK))
end
end
end Go.Proofs.YtifgibijcmppmaaGreat
namespace Go.Proofs.YtifgibijcmppmaaGreat
open Go Go.Proofs Go.Sl
attribute [local irreducible] aN fN cX bP aM aX aA dS dV aT dU pt ro eV star sep bH
attribute [local irreducible] mp ED
section
variable {R C:List HP} {K:KP}
structure iA where
 id:Int
 w:Nat
 sp:Int
def liD:List Value→Option iA
 | [.int .i64 id,.pointer (some ⟨w,0,none⟩),.int .i64 sp]=>some ⟨id,w,sp⟩
 |_=>none
theorem Ai3 (cs:List Value) (y:iA) (h:liD cs=some y): [I6 y.id,PO y.w,I6 y.sp]=cs:=by
 unfold liD at h
 split at h
 ·cases h;rfl
 ·cases h
def xO:tJ iA:= { enc:=fun p=> [I6 p.id,PO p.w,I6 p.sp],sz:=3,dec:=liD,len:=fun _=>rfl,one:=fun _=>rfl,ok:=Ai3 }
def JV (x y:Int):Int:=if x<y then -1 else if y<x then 1 else 0
def zI (t:Int) (l:List iA):Nat:=(l.takeWhile fun e=>decide (e.id<t)).length
def Nz (t:Int) (l:List iA):Bool:=match l[zI t l]? with
 |some e=>decide (e.id=t)
 |none=>false
theorem Tz (t:Int):∀l:List iA,zI t l≤l.length
 | []=>Nat.le_refl _
 |e::r=>by
  unfold zI
  rw[List.takeWhile_cons]
  split
  ·have:=Tz t r;unfold zI at this;simp;omega
  ·simp
theorem R0 {t:Int}:∀ {l:List iA} {j:Nat} {e:iA},l.Pairwise (fun a b=>a.id<b.id)→l[j]?=some e→(e.id<t↔j<zI t l)
 | [],_,_,_,h=>by cases h
 |z::r,0,e,_,h=>by
  cases h
  unfold zI
  rw[List.takeWhile_cons]
  split
  ·rename_i hz;simp at hz;simp[hz]
  ·rename_i hz;simp at hz;simp;omega
 |z::r,j+1,e,hp,h=>by
  have hp':=(List.pairwise_cons.1 hp)
  have h':r[j]?=some e:=by simpa using h
  have ih:=R0 (t:=t) hp'.2 h'
  unfold zI at ih ⊢
  rw[List.takeWhile_cons]
  split
  ·rw[ih];simp
  ·rename_i hz
   have:=hp'.1 e (List.mem_of_getElem? h')
   simp at hz
   simp
   omega
section
variable {x y t:Int} {A:Option Addr} {n c:Nat} {l:List iA} {e:iA}
theorem HA (hK:K (.bool false) R):CT 393 #[I6 x] R K:=by
 refine aH Tryz.func393 ?_
 repeat' (first|refine v2 ?_|refine w5 ?_ ?_|((refine bh fun h=>?_) <;> try exact w6 h)|(refine aE fun hA=>?_;subst hA)|intro _)
 all_goals(refine aC ?_;exact aB (kb hK (by simp)))
theorem Ack (hK:K (I6 (JV x y)) R):CT 366 #[I6 x,I6 y] R K:=by
 by_cases h1:x<y
 ·simp only[JV,if_pos h1] at hK
  refine aH Tryz.func366 ?_
  repeat' (first|refine v0 ?_|refine w5 ?_ ?_|((refine bh fun h=>?_) <;> try exact w6 h)|(refine aE fun hA=>?_;subst hA)|intro _|(show aA _ 393 _ _ _;refine CA (h:=HA ?_)))
  all_goals(refine aC ?_;exact aB (hK))
 ·by_cases h2:y<x
  ·simp only[JV,if_neg h1,if_pos h2] at hK
   refine aH Tryz.func366 ?_
   repeat' (first|refine v0 ?_|refine w5 ?_ ?_|((refine bh fun h=>?_) <;> try exact w6 h)|(refine aE fun hA=>?_;subst hA)|intro _|(show aA _ 393 _ _ _;refine CA (h:=HA ?_)))
   all_goals(refine aC ?_;exact aB (hK))
  ·simp only[JV,if_neg h1,if_neg h2] at hK
   refine aH Tryz.func366 ?_
   repeat' (first|refine v0 ?_|refine w5 ?_ ?_|((refine bh fun h=>?_) <;> try exact w6 h)|(refine aE fun hA=>?_;subst hA)|intro _|(show aA _ 393 _ _ _;refine CA (h:=HA ?_)))
   all_goals(refine aC ?_;exact aB (hK))
theorem LO (hK:K (I6 (JV e.id t)) R):CT 365 #[.agg #[I6 e.id,PO e.w,I6 e.sp],I6 t] R K:=by
 refine aH Tryz.func365 ?_
 repeat' (first|refine v19 ?_|refine w5 ?_ ?_|((refine bh fun h=>?_) <;> try exact w6 h)|(refine aE fun hA=>?_;subst hA)|intro _|(show aA _ 366 _ _ _;refine CA (h:=Ack ?_)))
 all_goals(refine aC ?_;exact aB (hK))
theorem Aks {i j:Nat} (h:i+j<1000000000):((i:Int)+j) % 18446744073709551616 / 2 ^ (1:Int).toNat=((i+j) / 2:Nat):=by
 rw[show(2:Int) ^ (1:Int).toNat=2 from rfl]
 omega
theorem MY (hv:dT C A xO l) (hn:l.length=n) (hs:n≤100000) (hp:l.Pairwise fun a b=>a.id<b.id) (hK:K (.tuple #[I6 (zI t l),.bool (Nz t l)]) C):CT 364 #[.slice A n c,I6 t,.func (.func 365) #[] #[]] C K:=by
 subst hn
 have hle:=Tz t l
 refine aH Tryz.func364 ?_
 repeat' (first|refine v86 ?_|refine w5 ?_ ?_|((refine bh fun h=>?_) <;> try exact w6 h)|(refine aE fun hA=>?_;subst hA)|intro _)
 refine fZ (fun kk a C'=>∃(i jj:Nat),i+kk=jj∧i≤zI t l∧zI t l≤jj∧jj≤l.length∧cJ a [(0,.slice A l.length c),(1,I6 t),(2,.func (.func 365) #[] #[]),(8,I6 l.length),(9,I6 i),(10,I6 jj)]∧C'=C) l.length (bV l.length ⟨0,l.length,by omega,Nat.zero_le _,hle,Nat.le_refl _,⟨rfl,rfl,rfl,rfl,rfl,rfl,trivial⟩,rfl⟩ (by omega)) ?_
 rintro kk a C' ⟨i,jj,hk,h1,h2,h3,ha,rfl⟩
 refine fP _ ha ?_
 simp only[eP]
 by_cases hlt:i<jj
 ·have hhalf:=Aks (i:=i) (j:=jj) (by omega)
  obtain⟨e,he⟩:∃e,l[(i+jj) / 2]?=some e:=⟨_,List.getElem?_eq_getElem (by omega)⟩
  have he':l[(((i:Int)+jj) % 18446744073709551616 / 2 ^ (1:Int).toNat).toNat]?=some e:=by rw[hhalf];exact he
  have hiff:=R0 (t:=t) hp he
  by_cases hc:e.id<t
  ·have hv1:JV e.id t=-1:=if_pos hc
   have hj:=hiff.1 hc
   repeat' (first|refine v86 ?_|refine w5 ?_ ?_|((refine bh fun h=>?_) <;> try exact w6 h)|(refine aE fun hA=>?_;subst hA)|intro _|(show aA _ 365 _ _ _;refine CA (h:=LO ?_);rw[hv1]))
   all_goals(show aT _ _ _ _;exact bV (kk - ((i+jj) / 2+1 - i)) ⟨(i+jj) / 2+1,jj,by omega,by omega,h2,h3,⟨rfl,rfl,rfl,rfl,congrArg (Value.int .i64) (by rw[hhalf];omega),rfl,trivial⟩,rfl⟩)
  ·have hj:¬(i+jj) / 2<zI t l:=fun q=>hc (hiff.2 q)
   have hv1:¬JV e.id t<0:=by unfold JV;rw[if_neg hc];split <;> omega
   repeat' (first|refine v86 ?_|refine w5 ?_ ?_|((refine bh fun h=>?_) <;> try exact w6 h)|(refine aE fun hA=>?_;subst hA)|intro _|(show aA _ 365 _ _ _;refine CA (h:=LO ?_)))
   all_goals(show aT _ _ _ _;exact bV (kk - (jj - (i+jj) / 2)) ⟨i,(i+jj) / 2,by omega,h1,by omega,by omega,⟨rfl,rfl,rfl,rfl,rfl,congrArg (Value.int .i64) hhalf,trivial⟩,rfl⟩)
 ·obtain rfl:i=zI t l:=by omega
  by_cases hn:zI t l<l.length
  ·obtain⟨e,he⟩:∃e,l[zI t l]?=some e:=⟨_,List.getElem?_eq_getElem hn⟩
   have hf:Nz t l=decide (e.id=t):=by unfold Nz;rw[he]
   have hiff:=R0 (t:=t) hp he
   rw[hf] at hK
   have e9:(JV e.id t == 0)=decide (e.id=t):=by
    unfold JV
    by_cases hq:e.id=t
    ·simp[hq]
    ·have:¬e.id<t:=fun q=>absurd (hiff.1 q) (Nat.lt_irrefl _)
     rw[if_neg this,if_pos (by omega)]
     simp[hq]
   repeat' (first|refine v86 ?_|refine w5 ?_ ?_|((refine bh fun h=>?_) <;> try exact w6 h)|(refine aE fun hA=>?_;subst hA)|intro _|(show aA _ 365 _ _ _;refine CA (h:=LO ?_)))
   all_goals(refine aC ?_;exact aB ((by rw[e9];exact hK)))
  ·have hf:Nz t l=false:=by unfold Nz;rw[List.getElem?_eq_none (by omega)]
   rw[hf] at hK
   repeat' (first|refine v86 ?_|refine w5 ?_ ?_|((refine bh fun h=>?_) <;> try exact w6 h)|(refine aE fun hA=>?_;subst hA)|intro _)
   all_goals(refine aC ?_;exact aB (hK))
end
end
section
variable {R C:List HP} {K:KP}
structure Nd where
 on:Int
 w:Int
def qR:Nd→Value:=fun n=>.agg #[I6 n.on,I6 n.w]
def Akp:List Value→Option Int
 | [.int .i64 y]=>some y
 |_=>none
theorem Ah2 (cs:List Value) (y:Int) (h:Akp cs=some y): [I6 y]=cs:=by
 unfold Akp at h
 split at h
 ·cases h;rfl
 ·cases h
def jI:tJ Int:= { enc:=fun n=> [I6 n],sz:=1,dec:=Akp,len:=fun _=>rfl,one:=fun _=>rfl,ok:=Ah2 }
def dZ (id:Int) (l:List (KE Nd)):Bool:=(gQ id l).isSome
def yZ (on w:Int):Bool:=decide (0≤on) && decide (on≤2147483647) && decide (1≤w) && decide (w≤256)
def b8 (id:Int) (l:List (KE Nd)):List Int:=Np ((l.filter fun e=>decide (e.v.on=id)).map KE.k)
theorem Aaq {id:Int} {l:List (KE Nd)}:Jh true (.agg #[I6 0,I6 0]) (iY id (kM qR l) 0)=.tuple #[qR ((gQ id l).getD ⟨0,0⟩),.bool (dZ id l)]:=by
 rw[Ug]
 unfold dZ
 cases gQ id l <;> rfl
theorem pQ {id:Int} {l:List (KE Nd)}:Jh false (.agg #[I6 0,I6 0]) (iY id (kM qR l) 0)=qR ((gQ id l).getD ⟨0,0⟩):=by
 rw[Ug]
 cases gQ id l <;> rfl
theorem PQ {A:Option Addr} {c n:Nat} {xs:List Int} (hn:xs.length=n) (hs:n<1000000000000000) (hK:K (.tuple #[]) (bQ A c 3 jI (Np xs)::R)):CT 356 #[.slice A n c] (bQ A c 3 jI xs::R) K:=
 aA.ofSort Tryz.func356 rfl (by decide +kernel) (fun _=>rfl) (Any.slices_Sort_int Tryz.lays189) (Any.slices_Sort_int_none Tryz.lays189) aV.here hn hs hK
section
variable {p q ck:Nat} {most id on w:Int} {x:Bool} {l:List (KE Nd)}
theorem jX (hK:K (.bool (yZ on w)) R):CT 303 #[.agg #[I6 on,I6 w,.bool x]] R K:=by
 refine aH Tryz.func303 ?_
 repeat' (first|refine v19 ?_|refine w5 ?_ ?_|((refine bh fun h=>?_) <;> try exact w6 h)|(refine aE fun hA=>?_;subst hA)|intro _)
 all_goals(refine aC ?_;exact aB (kb hK (by unfold yZ;simp <;> omega)))
theorem fE (hK:K (.bool (dZ id l)) (pt p [I6 most,.map (some q)] 229::mp q (kM qR l) ck::R)):CT 304 #[PO p,I6 id] (pt p [I6 most,.map (some q)] 229::mp q (kM qR l) ck::R) K:=by
 refine aH Tryz.func304 ?_
 repeat' (first|refine v30 ?_|refine w5 ?_ ?_|((refine bh fun h=>?_) <;> try exact w6 h)|(refine aE fun hA=>?_;subst hA)|intro _|(show aN _ _ _ _ _ _ _;refine jD ?_ (hv:=Aaq)))
 all_goals(refine aC ?_;exact aB (hK))
theorem Bu (hok:Rb l ck) (hl:l.length≤100000) (hK:∀A c,K (.slice A (b8 id l).length c) (bQ A c 3 jI (b8 id l)::pt p [I6 most,.map (some q)] 229::mp q (kM qR l) ck::R)):CT 355 #[PO p,I6 id] (pt p [I6 most,.map (some q)] 229::mp q (kM qR l) ck::R) K:=by
 obtain⟨hnd,hck⟩:=hok
 refine aH Tryz.func355 ?_
 repeat' (first|(show aN _ _ _ _ _ _ _;refine Aho ?_;intro _)|refine Q7 ?_|refine w5 ?_ ?_|((refine bh fun h=>?_) <;> try exact w6 h)|(refine aE fun hA=>?_;subst hA)|intro _)
 rename_i it
 refine l7 (aG.nilrow 3 jI _) ?_
 refine fZ (fun kk a C'=>∃(os:List (KE Nd)) (ks:List Int) (seen:List Nat) (A:Option Addr) (c:Nat),FQ l seen≤kk∧seen.Nodup∧(∀e∈os,e∈l)∧ks=(os.filter fun e=>decide (e.v.on=id)).map KE.k∧seen=os.map KE.b∧cJ a [(0,PO p),(1,I6 id),(5,.slice A ks.length c),(15,PO it)]∧C'=bQ A c 3 jI ks::ED it q ck seen ck::pt p [I6 most,.map (some q)] 229::mp q (kM qR l) ck::R) (FQ l []) (bV (FQ l []) ⟨[],[],[],none,0,Nat.le_refl _,List.nodup_nil,(fun e he=>by cases he),rfl,rfl,⟨rfl,rfl,rfl,rfl,trivial⟩,rfl⟩ (by omega)) ?_
 rintro kk a C' ⟨os,ks,seen,A,c,hk,hno,hos,hks,hse,ha,rfl⟩
 have hle:=Ak7 (by rw[← hse];exact hno) hos
 have hlk:ks.length≤os.length:=by rw[hks,List.length_map];exact List.length_filter_le _ _
 refine fP _ ha ?_
 simp only[eP]
 repeat' (first|refine Q7 ?_|refine w5 ?_ ?_|((refine bh fun h=>?_) <;> try exact w6 h)|(refine aE fun hA=>?_;subst hA)|intro _)
 refine Ak2 (fun e he hn=>?_) (fun hs=>?_) rfl (by(repeat (first|exact aV.here|apply aV.there)) <;> exact aV.here) ⟨_,by((repeat (first|exact aV.here|apply aV.there)) <;> exact aV.here)⟩ (fun e he=>by obtain⟨z,hz,rfl⟩:=List.mem_map.1 he;exact hck z hz) (by
  cases l with
  |nil=>exact .inr (.inl rfl)
  |cons z l=>exact .inr (.inr ⟨⟨z.k,qR z.v,z.b⟩,List.mem_cons_self ..,hck z (List.mem_cons_self ..)⟩)) (by exact rfl)
 ·obtain⟨e0,he0,rfl⟩:=List.mem_map.1 he
  have hn:e0.b ∉ seen:=hn
  have hfb:=Aht (enc:=qR) hnd he0
  have hlt:=TJ he0 hn
  have hnn:(seen++ [e0.b]).Nodup:=List.nodup_append.2 ⟨hno,by simp,fun b hb b' hb' he=>by
   rw[List.mem_singleton] at hb'
   subst hb' he
   exact hn hb⟩
  have hmm:∀e∈os++ [e0],e∈l:=fun e he=>by
   rcases List.mem_append.1 he with he|he
   ·exact hos e he
   ·rw[List.mem_singleton.1 he];exact he0
  refine E2 rfl ?_
  by_cases ho:e0.v.on=id
  ·repeat' (first|(show aN _ _ _ _ _ _ _;first|refine VI ?_ (he:=hfb)|(refine cU (E:=jI) (xs:=ks) (ys:= [e0.k]) ?_;intro _ _))|refine Q7 ?_|refine w5 ?_ ?_|((refine bh fun h=>?_) <;> try exact w6 h)|(refine aE fun hA=>?_;subst hA)|intro _)
   all_goals exact bV (FQ l (seen++ [e0.b])) ⟨os++ [e0],ks++ [e0.k],seen++ [e0.b],_,_,Nat.le_refl _,hnn,hmm,by rw[hks];simp[ho],by rw[hse];simp,⟨rfl,rfl,rfl,rfl,trivial⟩,rfl⟩ (Nat.lt_of_lt_of_le hlt hk)
  ·repeat' (first|(show aN _ _ _ _ _ _ _;refine VI ?_ (he:=hfb))|refine Q7 ?_|refine w5 ?_ ?_|((refine bh fun h=>?_) <;> try exact w6 h)|(refine aE fun hA=>?_;subst hA)|intro _)
   all_goals exact bV (FQ l (seen++ [e0.b])) ⟨os++ [e0],ks,seen++ [e0.b],_,_,Nat.le_refl _,hnn,hmm,by rw[hks];simp[ho],by rw[hse];simp,⟨rfl,rfl,rfl,rfl,trivial⟩,rfl⟩ (Nat.lt_of_lt_of_le hlt hk)
 ·refine E2 rfl ?_
  have hpm:os.Perm l:=Aep hnd (by rw[← hse];exact hno) hos fun e he=>by rw[← hse];exact hs ⟨e.k,qR e.v,e.b⟩ (List.mem_map_of_mem (f:=fun e:KE Nd=>(⟨e.k,qR e.v,e.b⟩:kO)) he)
  have hsr:Np ks=b8 id l:=by
   rw[hks]
   exact VW ((hpm.filter _).map KE.k)
  have hlen:(b8 id l).length=ks.length:=by rw[← hsr,zL]
  rw[hlen] at hK
  repeat' (first|refine Q7 ?_|refine w5 ?_ ?_|((refine bh fun h=>?_) <;> try exact w6 h)|(refine aE fun hA=>?_;subst hA)|intro _|(show aA _ 356 _ _ _;refine CA (h:=PQ (xs:=ks) rfl (by omega) ?_);rw[hsr]))
  all_goals(refine aC ?_;exact aB (hK _ _))
end
end
section
variable {R C:List HP} {K:KP}
section
variable {p w0 n c:Nat} {sp t n0:Int} {A:Option Addr} {l:List iA} {e:iA}
theorem uH (hs:l.length≤100000) (hp:l.Pairwise fun a b=>a.id<b.id) (hK:K (.tuple #[I6 (zI t l),.bool (Nz t l)]) (pt p [PO w0,I6 sp,.slice A l.length c] 235::bQ A c 329 xO l::R)):CT 307 #[PO p,I6 t] (pt p [PO w0,I6 sp,.slice A l.length c] 235::bQ A c 329 xO l::R) K:=by
 refine aH Tryz.func307 ?_
 repeat' (first|refine Yw ?_|refine w5 ?_ ?_|((refine bh fun h=>?_) <;> try exact w6 h)|(refine aE fun hA=>?_;subst hA)|intro _|(show aA _ 364 _ _ _;refine CA (h:=MY (l:=l) (by exact kF) rfl hs hp ?_)))
 all_goals(refine aC ?_;exact aB (hK))
theorem Lr (hs:l.length≤100000) (hp:l.Pairwise fun a b=>a.id<b.id) (hf:Nz t l=false) (hK:K (.tuple #[.pointer none,I6 7]) (pt p [PO w0,I6 sp,.slice A l.length c] 235::bQ A c 329 xO l::R)):CT 275 #[PO p,I6 t] (pt p [PO w0,I6 sp,.slice A l.length c] 235::bQ A c 329 xO l::R) K:=by
 refine aH Tryz.func275 ?_
 repeat' (first|refine v41 ?_|refine w5 ?_ ?_|((refine bh fun h=>?_) <;> try exact w6 h)|(refine aE fun hA=>?_;subst hA)|intro _|(show aA _ 307 _ _ _;refine CA (h:=uH hs hp ?_);rw[hf]))
 all_goals(refine aC ?_;exact aB (hK))
theorem Ai9 (h:Nz t l=true):∃e,l[zI t l]?=some e∧e.id=t∧zI t l<l.length:=by
 unfold Nz at h
 cases he:l[zI t l]? with
 |none=>rw[he] at h;cases h
 |some e=>
  rw[he] at h
  exact⟨e,rfl,by simpa using h,(List.getElem?_eq_some_iff.1 he).1⟩
theorem E3 (hs:l.length≤100000) (hp:l.Pairwise fun a b=>a.id<b.id) (hf:Nz t l=true) (hK:∀B off,A=some ⟨B,off,none⟩→K (.tuple #[.pointer (some ⟨B,off+zI t l * 3,none⟩),I6 0]) (pt p [PO w0,I6 sp,.slice A l.length c] 235::bQ A c 329 xO l::R)):CT 275 #[PO p,I6 t] (pt p [PO w0,I6 sp,.slice A l.length c] 235::bQ A c 329 xO l::R) K:=by
 obtain⟨e,he,_,hlt⟩:=Ai9 hf
 refine pS (aV.there aV.here) (by omega) fun B off hA=>?_
 subst hA
 refine aH Tryz.func275 ?_
 repeat' (first|refine v41 ?_|refine w5 ?_ ?_|((refine bh fun h=>?_) <;> try exact w6 h)|(refine aE fun hA=>?_;subst hA)|intro _|(show aA _ 307 _ _ _;refine CA (h:=uH hs hp ?_);rw[hf]))
 all_goals(refine aC ?_;exact aB (hK _ _ rfl))
def nR:List (Nat×Nat):= [(0,0),(1,0),(2,0),(3,0),(4,1),(5,1),(6,1),(7,1),(8,1),(9,1),(10,0),(11,0)]
theorem Wi (hs:l.length≤100000) (hp:l.Pairwise fun a b=>a.id<b.id) (hf:Nz t l=false) (hK:K (I6 0) (pt p [PO w0,I6 sp,.slice A l.length c] 235::bQ A c 329 xO l::R)):CT 184 #[PO p,I6 t] (pt p [PO w0,I6 sp,.slice A l.length c] 235::bQ A c 329 xO l::R) K:=by
 refine aH Tryz.func184 ?_
 repeat' (first|refine v35 ?_|refine dw nR ?_|refine w5 ?_ ?_|((refine bh fun h=>?_) <;> try exact w6 h)|(refine aE fun hA=>?_;subst hA)|intro _|(show aA _ 275 _ _ _;refine CA (h:=Lr hs hp hf ?_)))
 all_goals(refine aC ?_;exact aB (hK))
theorem KG {m:Int} (hs:l.length≤100000) (hp:l.Pairwise fun a b=>a.id<b.id) (hf:Nz t l=true) (he:l[zI t l]?=some e) (hK:K (I6 (min (max m 0) (max n0 0))) (pt p [PO w0,I6 sp,.slice A l.length c] 235::bQ A c 329 xO l::sO w0 n0::sO e.w m::R)):CT 184 #[PO p,I6 t] (pt p [PO w0,I6 sp,.slice A l.length c] 235::bQ A c 329 xO l::sO w0 n0::sO e.w m::R) K:=by
 refine pS (aV.there aV.here) (by have:=(List.getElem?_eq_some_iff.1 he).1;omega) fun B off hA=>?_
 subst hA
 refine aH Tryz.func184 ?_
 repeat' (first|refine v35 ?_|refine dw nR ?_|refine w5 ?_ ?_|((refine bh fun h=>?_) <;> try exact w6 h)|(refine aE fun hA=>?_;subst hA)|intro _|(show aA _ 275 _ _ _;refine CA (h:=E3 hs hp hf (fun B' off' hA'=>?_))))
 cases hA'
 repeat' (first|refine v35 ?_|refine dw nR ?_|refine w5 ?_ ?_|((refine bh fun h=>?_) <;> try exact w6 h)|(refine aE fun hA=>?_;subst hA)|intro _|(show aA _ 276 _ _ _;first|refine CA (h:=xH (p:=e.w) ?_)|refine CA (h:=xH ?_)))
 all_goals(refine aC ?_;exact aB (hK))
end
end
section
variable {R C:List HP} {K:KP}
section
variable {p w0 n c:Nat} {sp t n0 m k b:Int} {A:Option Addr} {l:List iA} {e:iA}
theorem XX (hs:l.length≤100000) (hp:l.Pairwise fun a b=>a.id<b.id) (hf:Nz t l=true) (he:l[zI t l]?=some e) (hk:0≤k) (hkf:k≤min (max m 0) (max n0 0)) (hm:-4294967296≤m∧m≤4294967296) (hn:-4294967296≤n0∧n0≤4294967296) (hsp:0≤sp∧sp≤1000000000000) (hes:0≤e.sp∧e.sp≤1000000000000)
  (hK:K (I6 0) (pt p [PO w0,I6 (sp+k),.slice A l.length c] 235::bQ A c 329 xO (l.set (zI t l) ⟨e.id,e.w,e.sp+k⟩)::sO w0 (n0 - k)::sO e.w (m - k)::R)):CT 194 #[PO p,I6 t,I6 k] (pt p [PO w0,I6 sp,.slice A l.length c] 235::bQ A c 329 xO l::sO w0 n0::sO e.w m::R) K:=by
 have e1:oR m k=0:=by unfold oR;rw[if_neg (by omega),if_neg (by omega)]
 have e2:oR n0 k=0:=by unfold oR;rw[if_neg (by omega),if_neg (by omega)]
 have f1:vO m k=m - k:=by unfold vO;rw[if_pos e1]
 have f2:vO n0 k=n0 - k:=by unfold vO;rw[if_pos e2]
 refine pS (aV.there aV.here) (by have:=(List.getElem?_eq_some_iff.1 he).1;omega) fun B off hA=>?_
 subst hA
 refine aH Tryz.func194 ?_
 repeat' (first|refine v49 ?_|refine w5 ?_ ?_|((refine bh fun h=>?_) <;> try exact w6 h)|(refine aE fun hA=>?_;subst hA)|intro _|(show aA _ 275 _ _ _;refine CA (h:=E3 hs hp hf (fun B' off' hA'=>?_))))
 cases hA'
 repeat' (first|refine v49 ?_|refine w5 ?_ ?_|((refine bh fun h=>?_) <;> try exact w6 h)|(refine aE fun hA=>?_;subst hA)|intro _|(show aA _ 184 _ _ _;refine CA (h:=KG hs hp hf he ?_))|(show aA _ 294 _ _ _;first|(refine CA (h:=Io (p:=e.w) (n:=m) hm (by omega) ?_);rw[f1])|(refine CA (h:=Io (p:=w0) (n:=n0) hn (by omega) ?_);rw[f2]))|(show aN _ _ _ _ _ _ _;first|refine IM ?_|refine tL ?_))
 all_goals(refine aC ?_;exact aB (hK))
theorem XA (hn:-4294967296≤n0∧n0≤4294967296) (hK:K (I6 (qW n0 b)) (pt p [PO w0,I6 sp,.slice A n c] 235::sO w0 (lX n0 b)::R)):CT 258 #[PO p,I6 0,I6 b] (pt p [PO w0,I6 sp,.slice A n c] 235::sO w0 n0::R) K:=by
 refine aH Tryz.func258 ?_
 repeat' (first|refine v58 ?_|refine w5 ?_ ?_|((refine bh fun h=>?_) <;> try exact w6 h)|(refine aE fun hA=>?_;subst hA)|intro _|(show aA _ 340 _ _ _;refine CA (h:=K8 hn ?_)))
 all_goals(refine aC ?_;exact aB (hK))
theorem Yc (hs:l.length≤100000) (hp:l.Pairwise fun a b=>a.id<b.id) (ht:t≠0) (hf:Nz t l=false) (hK:K (I6 7) (pt p [PO w0,I6 sp,.slice A l.length c] 235::bQ A c 329 xO l::R)):CT 258 #[PO p,I6 t,I6 b] (pt p [PO w0,I6 sp,.slice A l.length c] 235::bQ A c 329 xO l::R) K:=by
 refine aH Tryz.func258 ?_
 repeat' (first|refine v58 ?_|refine w5 ?_ ?_|((refine bh fun h=>?_) <;> try exact w6 h)|(refine aE fun hA=>?_;subst hA)|intro _|(show aA _ 275 _ _ _;refine CA (h:=Lr hs hp hf ?_)))
 all_goals(refine aC ?_;exact aB (hK))
theorem VU (hs:l.length≤100000) (hp:l.Pairwise fun a b=>a.id<b.id) (ht:t≠0) (hf:Nz t l=true) (he:l[zI t l]?=some e) (hm:-4294967296≤m∧m≤4294967296) (hK:K (I6 (qW m b)) (pt p [PO w0,I6 sp,.slice A l.length c] 235::bQ A c 329 xO l::sO e.w (lX m b)::R)):CT 258 #[PO p,I6 t,I6 b] (pt p [PO w0,I6 sp,.slice A l.length c] 235::bQ A c 329 xO l::sO e.w m::R) K:=by
 refine pS (aV.there aV.here) (by have:=(List.getElem?_eq_some_iff.1 he).1;omega) fun B off hA=>?_
 subst hA
 refine aH Tryz.func258 ?_
 repeat' (first|refine v58 ?_|refine w5 ?_ ?_|((refine bh fun h=>?_) <;> try exact w6 h)|(refine aE fun hA=>?_;subst hA)|intro _|(show aA _ 275 _ _ _;refine CA (h:=E3 hs hp hf (fun B' off' hA'=>?_))))
 cases hA'
 repeat' (first|refine v58 ?_|refine w5 ?_ ?_|((refine bh fun h=>?_) <;> try exact w6 h)|(refine aE fun hA=>?_;subst hA)|intro _|(show aA _ 340 _ _ _;refine CA (h:=K8 hm ?_)))
 all_goals(refine aC ?_;exact aB (hK))
end
end
section
variable {R C:List HP} {K:KP}
abbrev eN:=List (KE Nd)×Nat
def fB (id:Int) (n:Nd) (s:eN):eN:=(tC id n s.2 s.1,kCk id s.2 s.1)
def dB (id:Int) (s:eN):Nd:=(gQ id s.1).getD ⟨0,0⟩
def iP (id on:Int) (s:eN):eN:=fB id ⟨on,(dB id s).w⟩ s
def iI (id:Int):List Int→eN→eN
 | [],s=>s
 |k::r,s=>iI id r (if k=id then s else iP k id s)
def pJ (id on w:Int) (x:Bool) (s:eN):eN:=fB id ⟨on,w⟩ (if x=true then iI id (b8 on s.1) s else s)
def AV (on:Int) (s:eN):Bool:=decide (on≠0) && !dZ on s.1
theorem Sj {id k:Int} {ks:List Int} {j:Nat} {s:eN} (h:ks[j]?=some k):iI id (ks.drop j) s=iI id (ks.drop (j+1)) (if k=id then s else iP k id s):=by
 have hj:=(List.getElem?_eq_some_iff.1 h).1
 rw[List.drop_eq_getElem_cons hj,(List.getElem?_eq_some_iff.1 h).2]
 rfl
section
variable {p q:Nat} {most id on w:Int} {x:Bool} {s:eN}
theorem Ar (h:AV on s=true) (hK:K (.agg #[I6 0,I6 w,.bool false]) (pt p [I6 most,.map (some q)] 229::mp q (kM qR s.1) s.2::R)):CT 306 #[PO p,.agg #[I6 on,I6 w,.bool x]] (pt p [I6 most,.map (some q)] 229::mp q (kM qR s.1) s.2::R) K:=by
 unfold AV at h
 rw[Bool.and_eq_true,decide_eq_true_eq,Bool.not_eq_true'] at h
 obtain⟨h1,h2⟩:=h
 refine aH Tryz.func306 ?_
 repeat' (first|refine GA ?_|refine w5 ?_ ?_|((refine bh fun h=>?_) <;> try exact w6 h)|(refine aE fun hA=>?_;subst hA)|intro _|(show aA _ 304 _ _ _;refine CA (h:=fE ?_);rw[h2]))
 all_goals(refine aC ?_;exact aB (hK))
theorem Av (h:AV on s=false) (hK:K (.agg #[I6 on,I6 w,.bool x]) (pt p [I6 most,.map (some q)] 229::mp q (kM qR s.1) s.2::R)):CT 306 #[PO p,.agg #[I6 on,I6 w,.bool x]] (pt p [I6 most,.map (some q)] 229::mp q (kM qR s.1) s.2::R) K:=by
 unfold AV at h
 by_cases h1:on=0
 ·subst h1
  refine aH Tryz.func306 ?_
  repeat' (first|refine GA ?_|refine w5 ?_ ?_|((refine bh fun h=>?_) <;> try exact w6 h)|(refine aE fun hA=>?_;subst hA)|intro _)
  all_goals(refine aC ?_;exact aB (hK))
 ·have h2:dZ on s.1=true:=by simpa[h1] using h
  refine aH Tryz.func306 ?_
  repeat' (first|refine GA ?_|refine w5 ?_ ?_|((refine bh fun h=>?_) <;> try exact w6 h)|(refine aE fun hA=>?_;subst hA)|intro _|(show aA _ 304 _ _ _;refine CA (h:=fE ?_);rw[h2]))
  all_goals(refine aC ?_;exact aB (hK))
def CN:List (Nat×Nat):= [(6,0),(7,0),(8,0),(9,0),(10,0),(11,1),(0,1),(1,1),(2,1),(3,1),(4,1),(5,1),(12,0),(13,0),(14,1)]
theorem Fc (hK:K (.tuple #[]) (pt p [I6 most,.map (some q)] 229::mp q (kM qR (iP id on s).1) (iP id on s).2::R)):CT 343 #[PO p,I6 id,I6 on] (pt p [I6 most,.map (some q)] 229::mp q (kM qR s.1) s.2::R) K:=by
 simp only[iP,fB,dB] at hK
 refine aH Tryz.func343 ?_
 repeat' (first|refine v25 ?_|refine dw CN ?_|refine w5 ?_ ?_|((refine bh fun h=>?_) <;> try exact w6 h)|(refine aE fun hA=>?_;subst hA)|intro _|(show aN _ _ _ _ _ _ _;first|(refine jD ?_ (hv:=pQ);simp only[qR])|refine i9 ?_|refine kE ?_ (hv:=Q1 (enc:=qR) (v:=⟨on,_⟩)) (hu:=by exact rfl)))
 all_goals(refine aC ?_;exact aB (hK))
theorem Gg (hK:K (I6 (if dZ id s.1=true then(dB id s).w else 0)) (pt p [I6 most,.map (some q)] 229::mp q (kM qR s.1) s.2::R)):CT 289 #[PO p,I6 id] (pt p [I6 most,.map (some q)] 229::mp q (kM qR s.1) s.2::R) K:=by
 cases h:dZ id s.1
 ·rw[h,if_neg (by decide)] at hK
  refine aH Tryz.func289 ?_
  repeat' (first|refine Jm ?_|refine w5 ?_ ?_|((refine bh fun h=>?_) <;> try exact w6 h)|(refine aE fun hA=>?_;subst hA)|intro _|(show aA _ 304 _ _ _;refine CA (h:=fE ?_);rw[h]))
  all_goals(refine aC ?_;exact aB (hK))
 ·rw[h,if_pos rfl] at hK
  simp only[dB] at hK
  refine aH Tryz.func289 ?_
  repeat' (first|refine Jm ?_|refine w5 ?_ ?_|((refine bh fun h=>?_) <;> try exact w6 h)|(refine aE fun hA=>?_;subst hA)|intro _|(show aA _ 304 _ _ _;refine CA (h:=fE ?_);rw[h])|(show aN _ _ _ _ _ _ _;first|(refine jD ?_ (hv:=pQ);simp only[qR])|refine i9 ?_))
  all_goals(refine aC ?_;exact aB (hK))
end
end
end Go.Proofs.YtifgibijcmppmaaGreat
