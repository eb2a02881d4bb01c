/- A part of the proof: lemmas; each with the conditions that it states. -/
import Derived.Test.YtffnpejdkkohcaaGreatBav
import Derived.Test.YtffnpejdkkohcaaGreatBau
set_option linter.unusedVariables false
set_option linter.unusedSimpArgs false
set_option maxRecDepth 100000
set_option maxHeartbeats 40000000
namespace Go.Proofs.YtffnpejdkkohcaaGreat
open Go Go.Proofs Go.Sl
attribute [local irreducible] aM eY cU bQ aL aW aA dS dT aZ dR pt ro fN star sep bH
variable {R C:List HP} {K:KP} {p:Nat} {n b k a:Int}
def sV (p:Nat) (n:Int):HP:=pt p [I6 n] 243
def CQ (n:Int):Bool:=decide (-2147483647<=n) && decide (n<=2147483647)
def lL (n:Int):Bool:=decide (0<=n) && decide (n<=2147483647)
def zU (n b:Int):Int:=if CQ (n+b)=true then 0 else 10
def DK (n b:Int):Int:=if CQ (n+b)=true then n+b else n
def j5 (n b:Int):Int:=if 1<=b/\b<=2147483647 then zU n b else 2
def gA (n b:Int):Int:=if 1<=b/\b<=2147483647 then DK n b else n
def o8 (n k:Int):Int:=if k<0 then 2 else if max n 0<k then 9 else 0
def u9 (n k:Int):Int:=if o8 n k=0 then n - k else n
def gR (n a b:Int):Int:=if lL a=true/\lL b=true then zU n (b - a) else 2
def vR (n a b:Int):Int:=if lL a=true/\lL b=true then DK n (b - a) else n
theorem Bb (hK:K (.bool (lL n)) R):CT 175 #[I6 n] R K:=by
 refine aJ Tryz.func175 ?_
 repeat' (first|refine v1 ?_|refine w5 ?_ ?_|((refine bh fun h=>?_) <;> try exact w6 h)|(refine aF fun hA=>?_;subst hA)|intro _)
 all_goals(refine aC ?_;exact aB (kb hK (by unfold lL;simp <;> omega)))
theorem JW (hK:K (.bool (CQ n)) R):CT 332 #[I6 n] R K:=by
 refine aJ Tryz.func332 ?_
 repeat' (first|refine v1 ?_|refine w5 ?_ ?_|((refine bh fun h=>?_) <;> try exact w6 h)|(refine aF fun hA=>?_;subst hA)|intro _)
 all_goals(refine aC ?_;exact aB (kb hK (by unfold CQ;simp <;> omega)))
theorem zY (h:lL n=true) (hK:∀p,K (.tuple #[PO p,I6 0]) (sV p n::R)):CT 92 #[I6 n] R K:=by
 refine aJ Tryz.func92 ?_
 repeat' (first|refine v21 ?_|refine w5 ?_ ?_|((refine bh fun h=>?_) <;> try exact w6 h)|(refine aF fun hA=>?_;subst hA)|intro _|(show aA _ 175 _ _ _;refine CA (h:=Bb ?_);rw[h]))
 all_goals(refine aC ?_;exact aB (hK _))
theorem Xk (h:lL n=false) (hK:K (.tuple #[.pointer none,I6 3]) R):CT 92 #[I6 n] R K:=by
 refine aJ Tryz.func92 ?_
 repeat' (first|refine v21 ?_|refine w5 ?_ ?_|((refine bh fun h=>?_) <;> try exact w6 h)|(refine aF fun hA=>?_;subst hA)|intro _|(show aA _ 175 _ _ _;refine CA (h:=Bb ?_);rw[h]))
 all_goals(refine aC ?_;exact aB (hK))
theorem U4 (hK:K (I6 n) (sV p n::R)):CT 285 #[PO p] (sV p n::R) K:=by
 unfold sV at *
 refine aJ Tryz.func285 ?_
 repeat' (first|refine v4 ?_|refine w5 ?_ ?_|((refine bh fun h=>?_) <;> try exact w6 h)|(refine aF fun hA=>?_;subst hA)|intro _)
 all_goals(refine aC ?_;exact aB (hK))
theorem xE (hK:K (I6 (max n 0)) (sV p n::R)):CT 213 #[PO p] (sV p n::R) K:=by
 refine aJ Tryz.func213 ?_
 repeat' (first|refine v17 ?_|refine w5 ?_ ?_|((refine bh fun h=>?_) <;> try exact w6 h)|(refine aF fun hA=>?_;subst hA)|intro _|(show aA _ 285 _ _ _;refine CA (h:=U4 ?_)))
 all_goals(refine aC ?_;exact aB (hK))
theorem Wv (hK:∀q,K (PO q) (sV q n::sV p n::R)):CT 267 #[PO p] (sV p n::R) K:=by
 unfold sV at *
 refine aJ Tryz.func267 ?_
 repeat' (first|refine v46 ?_|refine w5 ?_ ?_|((refine bh fun h=>?_) <;> try exact w6 h)|(refine aF fun hA=>?_;subst hA)|intro _)
 all_goals(refine aC ?_;exact aB (hK _))
theorem Ov (hn:-4294967296<=n/\n<=4294967296) (hb:-4294967296<=b/\b<=4294967296) (hK:K (I6 (zU n b)) (sV p (DK n b)::R)):CT 316 #[PO p,I6 b] (sV p n::R) K:=by
 cases h:CQ (n+b)
 ·simp only[zU,DK,h,if_false,Bool.false_eq_true] at hK
  unfold sV at *
  refine aJ Tryz.func316 ?_
  repeat' (first|refine v37 ?_|refine w5 ?_ ?_|((refine bh fun h=>?_) <;> try exact w6 h)|(refine aF fun hA=>?_;subst hA)|intro _|(show aA _ 332 _ _ _;refine CA (h:=JW ?_);rw[h]))
  all_goals(refine aC ?_;exact aB (hK))
 ·simp only[zU,DK,h,if_true] at hK
  unfold sV at *
  refine aJ Tryz.func316 ?_
  repeat' (first|refine v37 ?_|refine w5 ?_ ?_|((refine bh fun h=>?_) <;> try exact w6 h)|(refine aF fun hA=>?_;subst hA)|intro _|(show aA _ 332 _ _ _;refine CA (h:=JW ?_);rw[h]))
  all_goals(refine aC ?_;exact aB (hK))
theorem KS (hn:-4294967296<=n/\n<=4294967296) (hK:K (I6 (j5 n b)) (sV p (gA n b)::R)):CT 274 #[PO p,I6 b] (sV p n::R) K:=by
 by_cases h1:1<=b
 ·by_cases h2:b<=2147483647
  ·have hi:lL b=true:=by unfold lL;simp;omega
   simp only[j5,gA,if_pos (show 1<=b/\b<=2147483647 from⟨h1,h2⟩)] at hK
   refine aJ Tryz.func274 ?_
   repeat' (first|refine I3 ?_|refine w5 ?_ ?_|((refine bh fun h=>?_) <;> try exact w6 h)|(refine aF fun hA=>?_;subst hA)|intro _|(show aA _ 175 _ _ _;refine CA (h:=Bb ?_);rw[hi])|(show aA _ 316 _ _ _;refine CA (h:=Ov hn (by omega) ?_)))
   all_goals(refine aC ?_;exact aB (hK))
  ·have hi:lL b=false:=by unfold lL;simp;omega
   simp only[j5,gA,if_neg (show ¬(1<=b/\b<=2147483647) by omega)] at hK
   refine aJ Tryz.func274 ?_
   repeat' (first|refine I3 ?_|refine w5 ?_ ?_|((refine bh fun h=>?_) <;> try exact w6 h)|(refine aF fun hA=>?_;subst hA)|intro _|(show aA _ 175 _ _ _;refine CA (h:=Bb ?_);rw[hi]))
   all_goals(refine aC ?_;exact aB (hK))
 ·simp only[j5,gA,if_neg (show ¬(1<=b/\b<=2147483647) by omega)] at hK
  refine aJ Tryz.func274 ?_
  repeat' (first|refine I3 ?_|refine w5 ?_ ?_|((refine bh fun h=>?_) <;> try exact w6 h)|(refine aF fun hA=>?_;subst hA)|intro _|(show aA _ 175 _ _ _;refine CA (h:=Bb ?_)))
  all_goals(refine aC ?_;exact aB (hK))
theorem G4 (hn:-4294967296<=n/\n<=4294967296) (hk:k<=4294967296) (hK:K (I6 (o8 n k)) (sV p (u9 n k)::R)):CT 232 #[PO p,I6 k] (sV p n::R) K:=by
 by_cases h1:k<0
 ·simp only[o8,u9,if_pos h1,show ¬((2:Int)=0) by decide,if_false] at hK
  refine aJ Tryz.func232 ?_
  repeat' (first|refine LK ?_|refine w5 ?_ ?_|((refine bh fun h=>?_) <;> try exact w6 h)|(refine aF fun hA=>?_;subst hA)|intro _|(show aA _ 213 _ _ _;refine CA (h:=xE ?_)))
  all_goals(refine aC ?_;exact aB (hK))
 ·by_cases h2:max n 0<k
  ·simp only[o8,u9,if_neg h1,if_pos h2,show ¬((9:Int)=0) by decide,if_false] at hK
   refine aJ Tryz.func232 ?_
   repeat' (first|refine LK ?_|refine w5 ?_ ?_|((refine bh fun h=>?_) <;> try exact w6 h)|(refine aF fun hA=>?_;subst hA)|intro _|(show aA _ 213 _ _ _;refine CA (h:=xE ?_)))
   all_goals(refine aC ?_;exact aB (hK))
  ·simp only[o8,u9,if_neg h1,if_neg h2,if_true] at hK
   refine aJ Tryz.func232 ?_
   repeat' (first|refine LK ?_|refine w5 ?_ ?_|((refine bh fun h=>?_) <;> try exact w6 h)|(refine aF fun hA=>?_;subst hA)|intro _|(show aA _ 213 _ _ _;refine CA (h:=xE ?_)))
   all_goals(refine aC ?_;exact aB (hK))
theorem GY (hn:-4294967296<=n/\n<=4294967296) (hK:K (I6 (gR n a b)) (sV p (vR n a b)::R)):CT 265 #[PO p,I6 a,I6 b] (sV p n::R) K:=by
 cases h1:lL a <;> cases h2:lL b <;> simp only[gR,vR,h1,h2,if_true,if_false,Bool.false_eq_true,and_true,and_false,true_and,false_and] at hK
 all_goals
  have g1:lL a=true->0<=a/\a<=2147483647:=fun h=>by unfold lL at h;simpa using h
  have g2:lL b=true->0<=b/\b<=2147483647:=fun h=>by unfold lL at h;simpa using h
  rw[h1] at g1
  rw[h2] at g2
  simp only[forall_const,Bool.false_eq_true,false_implies] at g1 g2
  refine aJ Tryz.func265 ?_
  repeat' (first|refine v53 ?_|refine w5 ?_ ?_|((refine bh fun h=>?_) <;> try exact w6 h)|(refine aF fun hA=>?_;subst hA)|intro _|(show aA _ 175 _ _ _;refine CA (h:=Bb ?_);first|rw[h1]|rw[h2])|(show aA _ 316 _ _ _;refine CA (h:=Ov hn (by omega) ?_)))
  all_goals(refine aC ?_;exact aB (hK))
end Go.Proofs.YtffnpejdkkohcaaGreat
namespace Go.Proofs.YtffnpejdkkohcaaGreat
open Go Go.Proofs Go.Sl
attribute [local irreducible] aM eY cU bQ aL aW aA dS dT aZ dR pt ro fN star sep bH
attribute [local irreducible] mp FV
variable {R C:List HP} {K:KP} {x y t r:Int} {A:Option Addr} {n c i lo k B off kc c0:Nat} {α:Type}
structure iA where
 id:Int
 w:Nat
 sp:Int
def liD:List Value->Option iA
 | [.int .i64 id,.pointer (some ⟨w,0,none⟩),.int .i64 sp]=>some ⟨id,w,sp⟩
 |_=>none
theorem Ah1 (cs:List Value) (y:iA) (h:liD cs=some y): [I6 y.id,PO y.w,I6 y.sp]=cs:=by
 unfold liD at h
 split at h
 ·cases h;rfl
 ·cases h
def wO:tP iA:= { enc:=fun p=> [I6 p.id,PO p.w,I6 p.sp],sz:=3,dec:=liD,len:=fun _=>rfl,one:=fun _=>rfl,ok:=Ah1 }
def Jm (x y:Int):Int:=if x<y then -1 else if y<x then 1 else 0
def AM (t:Int) (l:List iA):Nat:=(l.takeWhile fun e=>decide (e.id<t)).length
def Md (t:Int) (l:List iA):Bool:=match l[AM t l]? with
 |some e=>decide (e.id=t)
 |none=>false
theorem RX (t:Int):∀l:List iA,AM t l<=l.length
 | []=>Nat.le_refl _
 |e::r=>by
  unfold AM
  rw[List.takeWhile_cons]
  split
  ·have:=RX t r;unfold AM at this;simp;omega
  ·simp
theorem Sd {t:Int}:∀ {l:List iA} {j:Nat} {e:iA},l.Pairwise (fun a b=>a.id<b.id)->l[j]?=some e->(e.id<t↔j<AM t l)
 | [],_,_,_,h=>by cases h
 |z::r,0,e,_,h=>by
  cases h
  unfold AM
  rw[List.takeWhile_cons]
  split
  ·rename_i hz;simp at hz;simp[hz]
  ·rename_i hz;simp at hz;simp;omega
 |z::r,j+1,e,hp,h=>by
  have hp':=(List.pairwise_cons.1 hp)
  have h':r[j]?=some e:=by simpa using h
  have ih:=Sd (t:=t) hp'.2 h'
  unfold AM at ih ⊢
  rw[List.takeWhile_cons]
  split
  ·rw[ih];simp
  ·rename_i hz
   have:=hp'.1 e (List.mem_of_getElem? h')
   simp at hz
   simp
   omega
section
variable {l:List iA} {e:iA}
theorem Ih (hK:K (.bool false) R):CT 329 #[I6 x] R K:=by
 refine aJ Tryz.func329 ?_
 repeat' (first|refine v2 ?_|refine w5 ?_ ?_|((refine bh fun h=>?_) <;> try exact w6 h)|(refine aF fun hA=>?_;subst hA)|intro _)
 all_goals(refine aC ?_;exact aB (kb hK (by simp)))
theorem Za (hK:K (I6 (Jm x y)) R):CT 300 #[I6 x,I6 y] R K:=by
 by_cases h1:x<y
 ·simp only[Jm,if_pos h1] at hK
  refine aJ Tryz.func300 ?_
  repeat' (first|refine v0 ?_|refine w5 ?_ ?_|((refine bh fun h=>?_) <;> try exact w6 h)|(refine aF fun hA=>?_;subst hA)|intro _|(show aA _ 329 _ _ _;refine CA (h:=Ih ?_)))
  all_goals(refine aC ?_;exact aB (hK))
 ·by_cases h2:y<x
  ·simp only[Jm,if_neg h1,if_pos h2] at hK
   refine aJ Tryz.func300 ?_
   repeat' (first|refine v0 ?_|refine w5 ?_ ?_|((refine bh fun h=>?_) <;> try exact w6 h)|(refine aF fun hA=>?_;subst hA)|intro _|(show aA _ 329 _ _ _;refine CA (h:=Ih ?_)))
   all_goals(refine aC ?_;exact aB (hK))
  ·simp only[Jm,if_neg h1,if_neg h2] at hK
   refine aJ Tryz.func300 ?_
   repeat' (first|refine v0 ?_|refine w5 ?_ ?_|((refine bh fun h=>?_) <;> try exact w6 h)|(refine aF fun hA=>?_;subst hA)|intro _|(show aA _ 329 _ _ _;refine CA (h:=Ih ?_)))
   all_goals(refine aC ?_;exact aB (hK))
theorem Me (hK:K (I6 (Jm e.id t)) R):CT 299 #[.agg #[I6 e.id,PO e.w,I6 e.sp],I6 t] R K:=by
 refine aJ Tryz.func299 ?_
 repeat' (first|refine v19 ?_|refine w5 ?_ ?_|((refine bh fun h=>?_) <;> try exact w6 h)|(refine aF fun hA=>?_;subst hA)|intro _|(show aA _ 300 _ _ _;refine CA (h:=Za ?_)))
 all_goals(refine aC ?_;exact aB (hK))
theorem Ai7 {j:Nat} (h:i+j<1000000000):((i:Int)+j) % 18446744073709551616 / 2 ^ (1:Int).toNat=((i+j) / 2:Nat):=by
 rw[show(2:Int) ^ (1:Int).toNat=2 from rfl]
 omega
theorem MS (hv:dE C A wO l) (hn:l.length=n) (hs:n<=100000) (hp:l.Pairwise fun a b=>a.id<b.id) (hK:K (.tuple #[I6 (AM t l),.bool (Md t l)]) C):CT 298 #[.slice A n c,I6 t,.func (.func 299) #[] #[]] C K:=by
 subst hn
 have hle:=RX t l
 refine aJ Tryz.func298 ?_
 repeat' (first|refine v86 ?_|refine w5 ?_ ?_|((refine bh fun h=>?_) <;> try exact w6 h)|(refine aF fun hA=>?_;subst hA)|intro _)
 refine iH (fun kk a C'=>∃(i jj:Nat),i+kk=jj/\i<=AM t l/\AM t l<=jj/\jj<=l.length/\cW a [(0,.slice A l.length c),(1,I6 t),(2,.func (.func 299) #[] #[]),(8,I6 l.length),(9,I6 i),(10,I6 jj)]/\C'=C) l.length (cG l.length ⟨0,l.length,by omega,Nat.zero_le _,hle,Nat.le_refl _,⟨rfl,rfl,rfl,rfl,rfl,rfl,trivial⟩,rfl⟩ (by omega)) ?_
 rintro kk a C' ⟨i,jj,hk,h1,h2,h3,ha,rfl⟩
 refine gJ _ ha ?_
 simp only[fF]
 by_cases hlt:i<jj
 ·have hhalf:=Ai7 (i:=i) (j:=jj) (by omega)
  obtain⟨e,he⟩:∃e,l[(i+jj) / 2]?=some e:=⟨_,List.getElem?_eq_getElem (by omega)⟩
  have he':l[(((i:Int)+jj) % 18446744073709551616 / 2 ^ (1:Int).toNat).toNat]?=some e:=by rw[hhalf];exact he
  have hiff:=Sd (t:=t) hp he
  by_cases hc:e.id<t
  ·have hv1:Jm e.id t=-1:=if_pos hc
   have hj:=hiff.1 hc
   repeat' (first|refine v86 ?_|refine w5 ?_ ?_|((refine bh fun h=>?_) <;> try exact w6 h)|(refine aF fun hA=>?_;subst hA)|intro _|(show aA _ 299 _ _ _;refine CA (h:=Me ?_);rw[hv1]))
   all_goals(show aZ _ _ _ _;exact cG (kk - ((i+jj) / 2+1 - i)) ⟨(i+jj) / 2+1,jj,by omega,by omega,h2,h3,⟨rfl,rfl,rfl,rfl,congrArg (Value.int .i64) (by rw[hhalf];omega),rfl,trivial⟩,rfl⟩)
  ·have hj:¬(i+jj) / 2<AM t l:=fun q=>hc (hiff.2 q)
   have hv1:¬Jm e.id t<0:=by unfold Jm;rw[if_neg hc];split <;> omega
   repeat' (first|refine v86 ?_|refine w5 ?_ ?_|((refine bh fun h=>?_) <;> try exact w6 h)|(refine aF fun hA=>?_;subst hA)|intro _|(show aA _ 299 _ _ _;refine CA (h:=Me ?_)))
   all_goals(show aZ _ _ _ _;exact cG (kk - (jj - (i+jj) / 2)) ⟨i,(i+jj) / 2,by omega,h1,by omega,by omega,⟨rfl,rfl,rfl,rfl,rfl,congrArg (Value.int .i64) hhalf,trivial⟩,rfl⟩)
 ·obtain rfl:i=AM t l:=by omega
  by_cases hn:AM t l<l.length
  ·obtain⟨e,he⟩:∃e,l[AM t l]?=some e:=⟨_,List.getElem?_eq_getElem hn⟩
   have hf:Md t l=decide (e.id=t):=by unfold Md;rw[he]
   have hiff:=Sd (t:=t) hp he
   rw[hf] at hK
   have e9:(Jm e.id t == 0)=decide (e.id=t):=by
    unfold Jm
    by_cases hq:e.id=t
    ·simp[hq]
    ·have:¬e.id<t:=fun q=>absurd (hiff.1 q) (Nat.lt_irrefl _)
     rw[if_neg this,if_pos (by omega)]
     simp[hq]
   repeat' (first|refine v86 ?_|refine w5 ?_ ?_|((refine bh fun h=>?_) <;> try exact w6 h)|(refine aF fun hA=>?_;subst hA)|intro _|(show aA _ 299 _ _ _;refine CA (h:=Me ?_)))
   all_goals(refine aC ?_;exact aB ((by rw[e9];exact hK)))
  ·have hf:Md t l=false:=by unfold Md;rw[List.getElem?_eq_none (by omega)]
   rw[hf] at hK
   repeat' (first|refine v86 ?_|refine w5 ?_ ?_|((refine bh fun h=>?_) <;> try exact w6 h)|(refine aF fun hA=>?_;subst hA)|intro _)
   all_goals(refine aC ?_;exact aB (hK))
end
structure jR where
 id:Int
 a:Nat
def Abq:List Value->Option jR
 | [.int .i64 id,.pointer (some ⟨w,0,none⟩)]=>some ⟨id,w⟩
 |_=>none
theorem Aab (cs:List Value) (y:jR) (h:Abq cs=some y): [I6 y.id,PO y.a]=cs:=by
 unfold Abq at h
 split at h
 ·cases h;rfl
 ·cases h
def fL:tP jR:= { enc:=fun p=> [I6 p.id,PO p.a],sz:=2,dec:=Abq,len:=fun _=>rfl,one:=fun _=>rfl,ok:=Aab }
def EQ {α:Type} (xs:List α) (lo k i p:Nat):Option α:=if lo<=p/\p<lo+k/\(p<lo+i\/lo+k<=p+i) then xs[2 * lo+k - 1 - p]? else xs[p]?
theorem Ur {P M S ys:List α} (hi:M.length<=2 * i+1) (h:∀p,ys[p]?=EQ (P++(M++S)) P.length M.length i p):ys=P++(M.reverse++S):=by
 apply List.ext_getElem?
 intro p
 rw[h]
 unfold EQ
 by_cases h1:p<P.length
 ·rw[if_neg (by omega),List.getElem?_append_left h1,List.getElem?_append_left h1]
 ·by_cases h2:p<P.length+M.length
  ·have rhs:(P++(M.reverse++S))[p]?=M[M.length - 1 - (p - P.length)]?:=by rw[List.getElem?_append_right (by omega),List.getElem?_append_left (by rw[List.length_reverse];omega),List.getElem?_reverse (by omega)]
   have lhs:∀t,P.length<=t->t<P.length+M.length->(P++(M++S))[t]?=M[t - P.length]?:=fun t h3 h4=>by rw[List.getElem?_append_right h3,List.getElem?_append_left (by omega)]
   rw[rhs]
   by_cases h3:P.length<=p/\p<P.length+M.length/\(p<P.length+i\/P.length+M.length<=p+i)
   ·rw[if_pos h3,lhs _ (by omega) (by omega)]
    congr 1
    omega
   ·rw[if_neg h3,lhs _ (by omega) (by omega)]
    congr 1
    omega
  ·rw[if_neg (by omega),List.getElem?_append_right (by omega),List.getElem?_append_right (by omega),List.getElem?_append_right (by omega),List.getElem?_append_right (by rw[List.length_reverse];omega),List.length_reverse]
theorem PT {xs ys:List α} {u v:α} (hk:lo+k<=xs.length) (hi:2 * i+1<k) (hl:ys.length=xs.length) (h:∀p,ys[p]?=EQ xs lo k i p) (hu:ys[lo+i]?=some u) (hv:ys[lo+(k - 1 - i)]?=some v) (p:Nat):((ys.set (lo+i) v).set (lo+(k - 1 - i)) u)[p]?=EQ xs lo k (i+1) p:=by
 have e1:xs[lo+i]?=some u:=by rw[<- hu,h];unfold EQ;rw[if_neg (by omega)]
 have e2:xs[lo+(k - 1 - i)]?=some v:=by rw[<- hv,h];unfold EQ;rw[if_neg (by omega)]
 rw[List.getElem?_set,List.getElem?_set,List.length_set]
 by_cases h1:lo+(k - 1 - i)=p
 ·subst h1
  rw[if_pos rfl,if_pos (by omega)]
  unfold EQ
  rw[if_pos (by omega),<- e1]
  congr 1
  omega
 ·rw[if_neg h1]
  by_cases h2:lo+i=p
  ·subst h2
   rw[if_pos rfl,if_pos (by omega)]
   unfold EQ
   rw[if_pos (by omega),<- e2]
   congr 1
   omega
  ·rw[if_neg h2,h]
   unfold EQ
   by_cases h3:lo<=p/\p<lo+k/\(p<lo+i\/lo+k<=p+i)
   ·rw[if_pos h3,if_pos (by omega)]
   ·rw[if_neg h3,if_neg (by omega)]
def rG:List (Nat×Nat):= [(0,0),(1,0),(4,0),(5,0),(6,0),(7,0),(8,0),(9,0),(10,0),(11,0),(12,0),(13,1),(2,1),(3,1),(14,0),(15,1)]
theorem LN {P M S xs:List iA} (hxs:xs=P++(M++S)) (hlo:lo=P.length) (hk:k=M.length) (hA:A=some ⟨B,off+lo * 3,none⟩) (hs:xs.length<=100000) (hK:K (.tuple #[]) (bU (some ⟨B,off,none⟩) c0 270 wO (P++(M.reverse++S))::R)):CT 346 #[.slice A k kc] (bU (some ⟨B,off,none⟩) c0 270 wO xs::R) K:=by
 subst hA
 have hlk:lo+k<=xs.length:=by rw[hxs,hlo,hk];simp only[List.length_append];omega
 refine aJ Tryz.func346 ?_
 repeat' (first|refine v28 ?_|refine dw rG ?_|refine w5 ?_ ?_|((refine bh fun h=>?_) <;> try exact w6 h)|(refine aF fun hA=>?_;subst hA)|intro _)
 refine iH (fun kk a C'=>∃(i:Nat) (ys:List iA),i+kk=k/\2 * i<=k+1/\ys.length=xs.length/\(∀p,ys[p]?=EQ xs lo k i p)/\cW a [(0,.slice (some ⟨B,off+lo * 3,none⟩) k kc),(2,I6 i),(3,I6 ((k:Int) - 1 - i))]/\C'=bU (some ⟨B,off,none⟩) c0 270 wO ys::R) k (cG k ⟨0,xs,by omega,by omega,rfl,(fun p=>by unfold EQ;rw[if_neg (by omega)]),⟨rfl,rfl,congrArg (Value.int .i64) (by omega),trivial⟩,rfl⟩ (by omega)) ?_
 rintro kk a C' ⟨i,ys,hi,h2,hl,hp,ha,rfl⟩
 refine gJ _ ha ?_
 simp only[fF]
 by_cases hlt:(i:Int)<(k:Int) - 1 - i
 ·obtain⟨u,hu⟩:∃u,ys[lo+i]?=some u:=⟨_,List.getElem?_eq_getElem (by omega)⟩
  obtain⟨v,hv⟩:∃v,ys[lo+(k - 1 - i)]?=some v:=⟨_,List.getElem?_eq_getElem (by omega)⟩
  have hti:((i:Nat):Int).toNat=i:=Int.toNat_natCast i
  have htj:((k:Int) - 1 - i).toNat=k - 1 - i:=by omega
  have hu':ys[lo+((i:Nat):Int).toNat]?=some u:=by rw[hti];exact hu
  have hv':ys[lo+((k:Int) - 1 - i).toNat]?=some v:=by rw[htj];exact hv
  have hv2:(ys.set (lo+((i:Nat):Int).toNat) v)[lo+((k:Int) - 1 - i).toNat]?=some v:=by rw[htj,hti,List.getElem?_set,if_neg (by omega)];exact hv
  have hsw:=PT hlk (by omega) hl hp hu hv
  repeat' (first|(show aM _ _ _ _ _ _ _;refine OO (lo:=lo) ?_)|refine v28 ?_|refine dw rG ?_|refine w5 ?_ ?_|((refine bh fun h=>?_) <;> try exact w6 h)|(refine aF fun hA=>?_;subst hA)|intro _|(show aM _ _ _ _ _ _ _;first|refine aO (u:=v) ?_ (hj:=hv')|refine aO (u:=u) ?_ (hj:=hu')|refine tN (y':=v) ?_ (hj:=hu')|refine tN (y':=u) ?_ (hj:=hv2)))
  all_goals(show aZ _ _ _ _;exact cG (kk - 1) ⟨i+1,(ys.set (lo+((i:Nat):Int).toNat) v).set (lo+((k:Int) - 1 - i).toNat) u,by omega,by omega,by rw[List.length_set,List.length_set];exact hl,by rw[hti,htj];exact hsw,⟨rfl,rfl,congrArg (Value.int .i64) (by omega),trivial⟩,rfl⟩)
 ·have he:ys=P++(M.reverse++S):=Ur (i:=i) (by omega) (by rw[<- hxs,<- hlo,<- hk];exact hp)
  subst he
  repeat' (first|refine v28 ?_|refine dw rG ?_|refine w5 ?_ ?_|((refine bh fun h=>?_) <;> try exact w6 h)|(refine aF fun hA=>?_;subst hA)|intro _)
  all_goals(refine aC ?_;exact aB (hK))
theorem YF {P D xs:List iA} {y:iA} (hxs:xs=P++(D++ [y])) (hlo:lo=P.length) (hk:k=D.length+1) (hr:r=D.length) (hkc:k<=kc) (hA:A=some ⟨B,off+lo * 3,none⟩) (hs:xs.length<=100000) (hK:K (.tuple #[]) (bU (some ⟨B,off,none⟩) c0 270 wO (P++(y::D))::R)):CT 330 #[.slice A k kc,I6 r] (bU (some ⟨B,off,none⟩) c0 270 wO xs::R) K:=by
 subst hA hr
 have hlen:xs.length=lo+k:=by rw[hxs,hlo,hk];simp <;> omega
 refine aJ Tryz.func330 ?_
 repeat' (first|(show aM _ _ _ _ _ _ _;refine mX (sz:=3) ?_;intro A' hA')|refine v8 ?_|refine w5 ?_ ?_|((refine bh fun h=>?_) <;> try exact w6 h)|(refine aF fun hA=>?_;subst hA)|intro _)
 have hs2:P.length+D.length+1<=100000:=by rw[hxs,List.length_append,List.length_append] at hs;exact hs
 refine CA (h:=LN (P:=P) (M:=D) (S:= [y]) hxs hlo (by simp) (by rw[Gp hA' (by omega)] <;> simp) hs ?_)
 repeat' (first|(show aM _ _ _ _ _ _ _;refine mX (sz:=3) ?_;intro A2 hA2)|refine v8 ?_|refine w5 ?_ ?_|((refine bh fun h=>?_) <;> try exact w6 h)|(refine aF fun hA=>?_;subst hA)|intro _)
 refine CA (h:=LN (xs:=P++(D.reverse++ [y])) (P:=P++D.reverse) (M:= [y]) (S:= []) (by simp) (lo:=lo+D.length) (by simp[hlo]) (by simp[hk]) ((Gp hA2 (by omega)).trans (congrArg (fun o=>some (⟨B,o,none⟩:Addr)) (by rw[Int.toNat_natCast];omega))) (by simp only[List.length_append,List.length_reverse,List.length_cons,List.length_nil];omega) ?_)
 repeat' (first|refine v8 ?_|refine w5 ?_ ?_|((refine bh fun h=>?_) <;> try exact w6 h)|(refine aF fun hA=>?_;subst hA)|intro _)
 refine CA (h:=LN (xs:=P++D.reverse++([y].reverse++ [])) (P:=P) (M:=D.reverse++ [y]) (S:= []) (by simp) hlo (by simp[hk]) rfl (by simp only[List.length_append,List.length_reverse,List.length_cons,List.length_nil];omega) ?_)
 rw[show P++((D.reverse++ [y]).reverse++ [])=P++(y::D) by simp]
 repeat' (first|refine v8 ?_|refine w5 ?_ ?_|((refine bh fun h=>?_) <;> try exact w6 h)|(refine aF fun hA=>?_;subst hA)|intro _)
 all_goals(refine aC ?_;exact aB (hK))
theorem Aai {P D xs:List iA} {y:iA} (hxs:xs=P++(D++ [y])) (hlo:lo=P.length) (hk:k=D.length+1) (hkc:k<=kc) (hA:A=some ⟨B,off+lo * 3,none⟩) (hs:xs.length<=100000) (hK:K (.tuple #[]) (bU (some ⟨B,off,none⟩) c0 270 wO (P++(y::D))::R)):CT 302 #[.slice A k kc,I6 1] (bU (some ⟨B,off,none⟩) c0 270 wO xs::R) K:=by
 have hlen:xs.length=lo+k:=by rw[hxs,hlo,hk];simp <;> omega
 refine aJ Tryz.func302 ?_
 repeat' (first|refine v8 ?_|refine w5 ?_ ?_|((refine bh fun h=>?_) <;> try exact w6 h)|(refine aF fun hA=>?_;subst hA)|intro _|(show aA _ 330 _ _ _;refine CA (h:=YF hxs hlo hk (by omega) hkc hA hs ?_)))
 all_goals(refine aC ?_;exact aB (hK))
def rE:List (Nat×Nat):= [(0,0),(1,0),(4,0),(5,0),(6,0),(7,0),(8,0),(9,0),(10,0),(11,0),(12,0),(13,1),(2,1),(3,1),(14,0),(15,1)]
theorem K6 {P M S xs:List jR} (hxs:xs=P++(M++S)) (hlo:lo=P.length) (hk:k=M.length) (hA:A=some ⟨B,off+lo * 2,none⟩) (hs:xs.length<=100000) (hK:K (.tuple #[]) (bU (some ⟨B,off,none⟩) c0 203 fL (P++(M.reverse++S))::R)):CT 345 #[.slice A k kc] (bU (some ⟨B,off,none⟩) c0 203 fL xs::R) K:=by
 subst hA
 have hlk:lo+k<=xs.length:=by rw[hxs,hlo,hk];simp only[List.length_append];omega
 refine aJ Tryz.func345 ?_
 repeat' (first|refine v28 ?_|refine dw rE ?_|refine w5 ?_ ?_|((refine bh fun h=>?_) <;> try exact w6 h)|(refine aF fun hA=>?_;subst hA)|intro _)
 refine iH (fun kk a C'=>∃(i:Nat) (ys:List jR),i+kk=k/\2 * i<=k+1/\ys.length=xs.length/\(∀p,ys[p]?=EQ xs lo k i p)/\cW a [(0,.slice (some ⟨B,off+lo * 2,none⟩) k kc),(2,I6 i),(3,I6 ((k:Int) - 1 - i))]/\C'=bU (some ⟨B,off,none⟩) c0 203 fL ys::R) k (cG k ⟨0,xs,by omega,by omega,rfl,(fun p=>by unfold EQ;rw[if_neg (by omega)]),⟨rfl,rfl,congrArg (Value.int .i64) (by omega),trivial⟩,rfl⟩ (by omega)) ?_
 rintro kk a C' ⟨i,ys,hi,h2,hl,hp,ha,rfl⟩
 refine gJ _ ha ?_
 simp only[fF]
 by_cases hlt:(i:Int)<(k:Int) - 1 - i
 ·obtain⟨u,hu⟩:∃u,ys[lo+i]?=some u:=⟨_,List.getElem?_eq_getElem (by omega)⟩
  obtain⟨v,hv⟩:∃v,ys[lo+(k - 1 - i)]?=some v:=⟨_,List.getElem?_eq_getElem (by omega)⟩
  have hti:((i:Nat):Int).toNat=i:=Int.toNat_natCast i
  have htj:((k:Int) - 1 - i).toNat=k - 1 - i:=by omega
  have hu':ys[lo+((i:Nat):Int).toNat]?=some u:=by rw[hti];exact hu
  have hv':ys[lo+((k:Int) - 1 - i).toNat]?=some v:=by rw[htj];exact hv
  have hv2:(ys.set (lo+((i:Nat):Int).toNat) v)[lo+((k:Int) - 1 - i).toNat]?=some v:=by rw[htj,hti,List.getElem?_set,if_neg (by omega)];exact hv
  have hsw:=PT hlk (by omega) hl hp hu hv
  repeat' (first|(show aM _ _ _ _ _ _ _;refine OO (lo:=lo) ?_)|refine v28 ?_|refine dw rE ?_|refine w5 ?_ ?_|((refine bh fun h=>?_) <;> try exact w6 h)|(refine aF fun hA=>?_;subst hA)|intro _|(show aM _ _ _ _ _ _ _;first|refine aO (u:=v) ?_ (hj:=hv')|refine aO (u:=u) ?_ (hj:=hu')|refine tN (y':=v) ?_ (hj:=hu')|refine tN (y':=u) ?_ (hj:=hv2)))
  all_goals(show aZ _ _ _ _;exact cG (kk - 1) ⟨i+1,(ys.set (lo+((i:Nat):Int).toNat) v).set (lo+((k:Int) - 1 - i).toNat) u,by omega,by omega,by rw[List.length_set,List.length_set];exact hl,by rw[hti,htj];exact hsw,⟨rfl,rfl,congrArg (Value.int .i64) (by omega),trivial⟩,rfl⟩)
 ·have he:ys=P++(M.reverse++S):=Ur (i:=i) (by omega) (by rw[<- hxs,<- hlo,<- hk];exact hp)
  subst he
  repeat' (first|refine v28 ?_|refine dw rE ?_|refine w5 ?_ ?_|((refine bh fun h=>?_) <;> try exact w6 h)|(refine aF fun hA=>?_;subst hA)|intro _)
  all_goals(refine aC ?_;exact aB (hK))
theorem Yr {P D xs:List jR} {y:jR} (hxs:xs=P++(D++ [y])) (hlo:lo=P.length) (hk:k=D.length+1) (hr:r=D.length) (hkc:k<=kc) (hA:A=some ⟨B,off+lo * 2,none⟩) (hs:xs.length<=100000) (hK:K (.tuple #[]) (bU (some ⟨B,off,none⟩) c0 203 fL (P++(y::D))::R)):CT 328 #[.slice A k kc,I6 r] (bU (some ⟨B,off,none⟩) c0 203 fL xs::R) K:=by
 subst hA hr
 have hlen:xs.length=lo+k:=by rw[hxs,hlo,hk];simp <;> omega
 refine aJ Tryz.func328 ?_
 repeat' (first|(show aM _ _ _ _ _ _ _;refine mX (sz:=2) ?_;intro A' hA')|refine v8 ?_|refine w5 ?_ ?_|((refine bh fun h=>?_) <;> try exact w6 h)|(refine aF fun hA=>?_;subst hA)|intro _)
 have hs2:P.length+D.length+1<=100000:=by rw[hxs,List.length_append,List.length_append] at hs;exact hs
 refine CA (h:=K6 (P:=P) (M:=D) (S:= [y]) hxs hlo (by simp) (by rw[Gp hA' (by omega)] <;> simp) hs ?_)
 repeat' (first|(show aM _ _ _ _ _ _ _;refine mX (sz:=2) ?_;intro A2 hA2)|refine v8 ?_|refine w5 ?_ ?_|((refine bh fun h=>?_) <;> try exact w6 h)|(refine aF fun hA=>?_;subst hA)|intro _)
 refine CA (h:=K6 (xs:=P++(D.reverse++ [y])) (P:=P++D.reverse) (M:= [y]) (S:= []) (by simp) (lo:=lo+D.length) (by simp[hlo]) (by simp[hk]) ((Gp hA2 (by omega)).trans (congrArg (fun o=>some (⟨B,o,none⟩:Addr)) (by rw[Int.toNat_natCast];omega))) (by simp only[List.length_append,List.length_reverse,List.length_cons,List.length_nil];omega) ?_)
 repeat' (first|refine v8 ?_|refine w5 ?_ ?_|((refine bh fun h=>?_) <;> try exact w6 h)|(refine aF fun hA=>?_;subst hA)|intro _)
 refine CA (h:=K6 (xs:=P++D.reverse++([y].reverse++ [])) (P:=P) (M:=D.reverse++ [y]) (S:= []) (by simp) hlo (by simp[hk]) rfl (by simp only[List.length_append,List.length_reverse,List.length_cons,List.length_nil];omega) ?_)
 rw[show P++((D.reverse++ [y]).reverse++ [])=P++(y::D) by simp]
 repeat' (first|refine v8 ?_|refine w5 ?_ ?_|((refine bh fun h=>?_) <;> try exact w6 h)|(refine aF fun hA=>?_;subst hA)|intro _)
 all_goals(refine aC ?_;exact aB (hK))
theorem Aa6 {P D xs:List jR} {y:jR} (hxs:xs=P++(D++ [y])) (hlo:lo=P.length) (hk:k=D.length+1) (hkc:k<=kc) (hA:A=some ⟨B,off+lo * 2,none⟩) (hs:xs.length<=100000) (hK:K (.tuple #[]) (bU (some ⟨B,off,none⟩) c0 203 fL (P++(y::D))::R)):CT 297 #[.slice A k kc,I6 1] (bU (some ⟨B,off,none⟩) c0 203 fL xs::R) K:=by
 have hlen:xs.length=lo+k:=by rw[hxs,hlo,hk];simp <;> omega
 refine aJ Tryz.func297 ?_
 repeat' (first|refine v8 ?_|refine w5 ?_ ?_|((refine bh fun h=>?_) <;> try exact w6 h)|(refine aF fun hA=>?_;subst hA)|intro _|(show aA _ 328 _ _ _;refine CA (h:=Yr hxs hlo hk (by omega) hkc hA hs ?_)))
 all_goals(refine aC ?_;exact aB (hK))
end Go.Proofs.YtffnpejdkkohcaaGreat
