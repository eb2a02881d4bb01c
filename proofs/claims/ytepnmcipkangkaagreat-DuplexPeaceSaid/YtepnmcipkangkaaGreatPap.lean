/- A part of the proof: lemmas; each with the conditions that it states. -/
import Derived.Test.YtepnmcipkangkaaGreatPag
import Derived.Test.YtepnmcipkangkaaGreatPas
set_option linter.unusedVariables false
set_option linter.unusedSimpArgs false
set_option maxRecDepth 100000
set_option maxHeartbeats 40000000
namespace Go.Proofs.YtepnmcipkangkaaGreat
open Go Go.Proofs Go.Sl
attribute [local irreducible] aN fJ cY bN aM aS aA dM dN aV dL pt ro fB star sep bF
variable {R C:List HP} {K:KP}
structure Pr where
 i:Int
 v:Int
def prD:List Value->Option Pr
 | [.int .i64 i,.int .i64 v]=>some ⟨i,v⟩
 |_=>none
theorem Amy (cs:List Value) (y:Pr) (h:prD cs=some y): [I6 y.i,I6 y.v]=cs:=by
 unfold prD at h
 split at h
 ·cases h;rfl
 ·cases h
def tI:u5 Pr:= { enc:=fun p=> [I6 p.i,I6 p.v],sz:=2,dec:=prD,len:=fun _=>rfl,one:=fun _=>rfl,ok:=Amy }
structure Fm where
 t:Int
 st:Int
 e:Bool
 d:ByteArray
 k:Int
 on:Int
 w:Int
 x:Bool
 c:Int
 la:Int
 n:Int
 pa:Option Addr
 pn:Nat
 pc:Nat
 ps:List Pr
theorem BU {n l h:Int} (hK:K (.bool (decide (l<=n) && decide (n<=h))) R):CT 332 #[I6 n,I6 l,I6 h] R K:=by
 refine aH Tryz.func332 ?_
 repeat' (first|refine v1 ?_|refine w5 ?_ ?_|((refine bh fun h=>?_) <;> try exact w6 h)|(refine aE fun hA=>?_;subst hA)|intro _)
 all_goals(refine aC ?_;exact aB (kb hK (by simp <;> omega)))
def Hu (n:Int):Bool:=decide (0<=n) && decide (n<=2147483647)
theorem oQ {n:Int} (hK:K (.bool (Hu n)) R):CT 228 #[I6 n] R K:=by
 refine aH Tryz.func228 ?_
 repeat' (first|refine v0 ?_|refine w5 ?_ ?_|((refine bh fun h=>?_) <;> try exact w6 h)|(refine aE fun hA=>?_;subst hA)|intro _|(show aA _ 332 _ _ _;refine CA (h:=BU ?_)))
 (refine aC ?_;exact aB (hK))
def OH (on w:Int):Bool:=Hu on && (decide (1<=w) && decide (w<=256))
theorem oV (n:Int):Hu n=true↔(0<=n/\n<=2147483647):=by unfold Hu;simp
theorem VY {on w:Int} {x:Bool} (hK:K (.bool (OH on w)) R):CT 335 #[.agg #[I6 on,I6 w,.bool x]] R K:=by
 refine aH Tryz.func335 ?_
 repeat' (first|refine v19 ?_|refine w5 ?_ ?_|((refine bh fun h=>?_) <;> try exact w6 h)|(refine aE fun hA=>?_;subst hA)|intro _|(show aA _ 332 _ _ _;refine CA (h:=BU ?_))|(show aA _ 228 _ _ _;refine CA (h:=oQ ?_)))
 all_goals(refine aC ?_;exact aB (kb hK (by unfold OH;simp[*])))
def C9 (on w:Int) (x:Bool):Bool:=decide (on=0) && decide (w=0) && !x
def O3:List Pr->List Pr->Bool
 | [],[]=>true
 |a::l,b::m=>(a.i == b.i && a.v == b.v) && O3 l m
 |_,_=>false
theorem Rf:∀l:List Pr,O3 l l=true
 | []=>rfl
 |a::l=>by simp[O3,Rf l]
theorem W3:∀ {l m:List Pr},O3 l m=true->l.length=m.length
 | [],[],_=>rfl
 |a::l,b::m,h=>by
  simp only[O3,Bool.and_eq_true] at h
  simp[W3 h.2]
 | [],_::_,h=>by cases h
 |_::_,[],h=>by cases h
theorem Aio (l:List Pr):O3 l []=decide (l.length=0):=by cases l <;> simp[O3]
def jW:List (Nat×Nat):= [(0,0),(1,0),(2,0),(3,0),(4,0),(5,0),(6,0),(7,0),(8,0)]
theorem Aeu {A B:Option Addr} {n n' c c':Nat} {xs ys:List Pr} (hv:d4 C A tI xs) (hw:d4 C B tI ys) (hn:xs.length=n) (hn':ys.length=n') (hn2:n<1000000000000000) (hK:K (.bool (O3 xs ys)) C):CT 334 #[.slice A n c,.slice B n' c'] C K:=by
 by_cases hnn:n=n'
 ·subst hnn
  refine aH Tryz.func334 ?_
  repeat' (first|refine v29 ?_|refine dw jW ?_|refine w5 ?_ ?_|((refine bh fun h=>?_) <;> try exact w6 h)|(refine aE fun hA=>?_;subst hA)|intro _)
  refine jG (fun m a C'=>∃j:Nat,j+m=n/\C'=C/\O3 xs ys=O3 (xs.drop j) (ys.drop j)/\dP a [(0,.slice A n c),(1,.slice B n c'),(12,I6 n),(13,I6 j)]) n (cN n ⟨0,by omega,rfl,rfl,rfl,rfl,rfl,rfl,trivial⟩) ?_
  rintro n1 a C' ⟨j,hj,rfl,hp,ha⟩
  refine iT _ ha ?_
  simp only[gH]
  by_cases hlt:j<n
  ·obtain⟨x,hx,hd⟩:=lH (l:=xs) (j:=j) (by omega)
   obtain⟨y,hy,hd'⟩:=lH (l:=ys) (j:=j) (by omega)
   rw[hd,hd',O3] at hp
   by_cases hxy:x.i=y.i/\x.v=y.v
   ·have e1:(x.i == y.i)=true:=by simpa using hxy.1
    have e2:(x.v == y.v)=true:=by simpa using hxy.2
    rw[e1,e2,Bool.and_self,Bool.true_and] at hp
    repeat' (first|refine v29 ?_|refine dw jW ?_|refine w5 ?_ ?_|((refine bh fun h=>?_) <;> try exact w6 h)|(refine aE fun hA=>?_;subst hA)|intro _)
    exact cN (n1 - 1) ⟨j+1,by omega,rfl,hp,rfl,rfl,rfl,rfl,trivial⟩
   ·have e1:(x.i == y.i && x.v == y.v)=false:=by
     rw[Bool.and_eq_false_iff];simp;omega
    rw[e1,Bool.false_and] at hp
    rw[hp] at hK
    repeat' (first|refine v29 ?_|refine dw jW ?_|refine w5 ?_ ?_|((refine bh fun h=>?_) <;> try exact w6 h)|(refine aE fun hA=>?_;subst hA)|intro _)
    (refine aC ?_;exact aB (hK))
  ·obtain rfl:j=n:=by omega
   rw[List.drop_eq_nil_of_le (by omega),List.drop_eq_nil_of_le (by omega),O3] at hp
   rw[hp] at hK
   repeat' (first|refine v29 ?_|refine dw jW ?_|refine w5 ?_ ?_|((refine bh fun h=>?_) <;> try exact w6 h)|(refine aE fun hA=>?_;subst hA)|intro _)
   (refine aC ?_;exact aB (hK))
 ·have e:O3 xs ys=false:=by
   cases h:O3 xs ys
   ·rfl
   ·have:=W3 h;omega
  rw[e] at hK
  refine aH Tryz.func334 ?_
  repeat' (first|refine v29 ?_|refine dw jW ?_|refine w5 ?_ ?_|((refine bh fun h=>?_) <;> try exact w6 h)|(refine aE fun hA=>?_;subst hA)|intro _)
  all_goals(refine aC ?_;exact aB (hK))
def oE (t:Int) (e:Bool):Bool:=if t=0\/t=1 then e else false
def oD (t:Int) (d:ByteArray):ByteArray:=if t=0\/t=1\/t=7\/t=8 then d else⟨#[]⟩
def oK (t k:Int):Int:=if t=2 then k else 0
def oO (t on:Int):Int:=if t=2\/t=3 then on else 0
def oX (t:Int) (x:Bool):Bool:=if t=2\/t=3 then x else false
def oC (t c:Int):Int:=if t=4\/t=9 then c else 0
def oL (t l:Int):Int:=if t=9 then l else 0
def oN (t n:Int):Int:=if t=10\/t=11 then n else 0
def oPa (t:Int) (p:Option Addr):Option Addr:=if t=5 then p else none
def oPn (t:Int) (n:Nat):Nat:=if t=5 then n else 0
def oPs (t:Int) (l:List Pr):List Pr:=if t=5 then l else []
def yT:List (Nat×Nat):= [(0,0),(1,0),(4,0),(5,1),(2,1),(3,1),(6,0),(7,1)]
def y8:List (Nat×Nat):= [(0,0),(1,0),(4,0),(5,1),(2,1),(3,1),(6,0),(7,1)]
def wQ:List (Nat×Nat):= [(0,0),(1,0),(4,0),(5,1),(2,1),(3,1),(6,0),(7,1)]
theorem Nl {t st:Int} {e:Bool} {d:ByteArray} {k on w:Int} {x:Bool} {c la n:Int} {pa:Option Addr} {pn pc:Nat} (hK:K (.agg #[I6 t,I6 st,.bool (oE t e),.string (oD t d),I6 (oK t k),I6 (oO t on),I6 (oO t w),.bool (oX t x),I6 (oC t c),I6 (oL t la),I6 (oN t n),.slice (oPa t pa) (oPn t pn) (oPn t pc)]) R):CT 230 #[.agg #[I6 t,I6 st,.bool e,.string d,I6 k,I6 on,I6 w,.bool x,I6 c,I6 la,I6 n,.slice pa pn pc]] R K:=by
 rcases(by omega:(t<0\/11<t\/t=6)\/t=0\/t=1\/t=2\/t=3\/t=4\/t=5\/t=7\/t=8\/t=9\/t=10\/t=11) with h|h|h|h|h|h|h|h|h|h|h|h
 ·have q0:¬t=0:=by omega
  have q1:¬t=1:=by omega
  have q2:¬t=2:=by omega
  have q3:¬t=3:=by omega
  have q4:¬t=4:=by omega
  have q5:¬t=5:=by omega
  have q7:¬t=7:=by omega
  have q8:¬t=8:=by omega
  have q9:¬t=9:=by omega
  have q10:¬t=10:=by omega
  have q11:¬t=11:=by omega
  simp only[oE,oD,oK,oO,oX,oC,oL,oN,oPa,oPn,q0,q1,q2,q3,q4,q5,q7,q8,q9,q10,q11,or_self,if_false] at hK
  refine aH Tryz.func230 ?_
  repeat' (first|refine KM ?_|refine dw yT ?_|refine dw y8 ?_|refine dw wQ ?_|refine w5 ?_ ?_|((refine bh fun h=>?_) <;> try exact w6 h)|(refine aE fun hA=>?_;subst hA)|intro _)
  all_goals(refine aC ?_;exact aB (hK))
 all_goals
  subst h
  simp[oE,oD,oK,oO,oX,oC,oL,oN,oPa,oPn] at hK
  refine aH Tryz.func230 ?_
  repeat' (first|refine KM ?_|refine dw yT ?_|refine dw y8 ?_|refine dw wQ ?_|refine w5 ?_ ?_|((refine bh fun h=>?_) <;> try exact w6 h)|(refine aE fun hA=>?_;subst hA)|intro _)
  all_goals(refine aC ?_;exact aB (hK))
def KY (l:List Pr):Bool:=l.all fun p=>decide (0<=p.i) && decide (p.i<=65535) && Hu p.v
def zW (t:Int) (d:ByteArray) (k on w c la n:Int) (ps:List Pr):Bool:=if t=0\/t=1 then decide (d.size<=256) else if t=2 then(decide (k=1) || decide (k=2)) && OH on w else if t=3 then OH on w else if t=7\/t=8 then decide (d.size=8) else if t=5 then KY ps && decide (ps.length<=8) else Hu c && Hu la && Hu n
theorem LI {t st:Int} {e:Bool} {d:ByteArray} {k on w:Int} {x:Bool} {c la n:Int} {pa:Option Addr} {pn pc:Nat} {ps:List Pr} (hv:d4 C pa tI ps) (hn:ps.length=pn) (hn2:pn<1000000000000000) (hK:K (.bool (zW t d k on w c la n ps)) C):CT 231 #[.agg #[I6 t,I6 st,.bool e,.string d,I6 k,I6 on,I6 w,.bool x,I6 c,I6 la,I6 n,.slice pa pn pc]] C K:=by
 subst hn
 by_cases h5:t=5
 ·subst h5
  simp[zW] at hK
  refine aH Tryz.func231 ?_
  repeat' (first|refine Kx ?_|refine w5 ?_ ?_|((refine bh fun h=>?_) <;> try exact w6 h)|(refine aE fun hA=>?_;subst hA)|intro _)
  rename_i r
  have hv2:d4 (pt r [I6 5,I6 st,.bool e,.string d,I6 k,I6 on,I6 w,.bool x,I6 c,I6 la,I6 n,.slice pa ps.length pc] 178::C) pa tI ps:=bM hv
  refine jG (fun m a C'=>∃j:Nat,j+m=ps.length/\C'=pt r [I6 5,I6 st,.bool e,.string d,I6 k,I6 on,I6 w,.bool x,I6 c,I6 la,I6 n,.slice pa ps.length pc] 178::C/\KY ps=KY (ps.drop j)/\dP a [(1,PO r),(44,.slice pa ps.length pc),(45,I6 ps.length),(46,I6 j)]) ps.length (cN ps.length ⟨0,by omega,rfl,rfl,rfl,rfl,rfl,rfl,trivial⟩) ?_
  rintro n1 a C' ⟨j,hj,rfl,hp,ha⟩
  refine iT _ ha ?_
  simp only[gH]
  by_cases hlt:j<ps.length
  ·obtain⟨y,hy,hd⟩:=lH (l:=ps) (j:=j) (by omega)
   rw[hd] at hp
   simp only[KY,List.all_cons] at hp
   by_cases hok:(decide (0<=y.i) && decide (y.i<=65535) && Hu y.v)=true
   ·rw[hok,Bool.true_and] at hp
    simp only[Bool.and_eq_true,decide_eq_true_eq] at hok
    obtain⟨⟨o1,o2⟩,o3⟩:=hok
    repeat' (first|refine Kx ?_|refine w5 ?_ ?_|((refine bh fun h=>?_) <;> try exact w6 h)|(refine aE fun hA=>?_;subst hA)|intro _|(show aA _ 332 _ _ _;refine CA (h:=BU ?_))|(show aA _ 228 _ _ _;refine CA (h:=oQ ?_)))
    exact cN (n1 - 1) ⟨j+1,by omega,rfl,hp,rfl,rfl,rfl,rfl,trivial⟩
   ·have hok':(decide (0<=y.i) && decide (y.i<=65535) && Hu y.v)=false:=by simpa using hok
    rw[hok',Bool.false_and] at hp
    have hps:KY ps=false:=hp
    rw[hps,Bool.false_and] at hK
    have h3:(y.i<0\/65535<y.i)\/Hu y.v=false:=by
     simp only[Bool.and_eq_false_iff,decide_eq_false_iff_not] at hok'
     rcases hok' with(h|h)|h
     ·exact .inl (.inl (by omega))
     ·exact .inl (.inr (by omega))
     ·exact .inr h
    rcases h3 with h3|h3
    ·repeat' (first|refine Kx ?_|refine w5 ?_ ?_|((refine bh fun h=>?_) <;> try exact w6 h)|(refine aE fun hA=>?_;subst hA)|intro _|(show aA _ 332 _ _ _;refine CA (h:=BU ?_))|(show aA _ 228 _ _ _;refine CA (h:=oQ ?_)))
     all_goals(refine aC ?_;exact aB (hK))
    ·repeat' (first|refine Kx ?_|refine w5 ?_ ?_|((refine bh fun h=>?_) <;> try exact w6 h)|(refine aE fun hA=>?_;subst hA)|intro _|(show aA _ 332 _ _ _;refine CA (h:=BU ?_))|(show aA _ 228 _ _ _;refine CA (h:=oQ ?_)))
     all_goals(refine aC ?_;exact aB (hK))
  ·obtain rfl:j=ps.length:=by omega
   rw[List.drop_eq_nil_of_le (by omega)] at hp
   have hps:KY ps=true:=hp
   rw[hps,Bool.true_and] at hK
   repeat' (first|refine Kx ?_|refine w5 ?_ ?_|((refine bh fun h=>?_) <;> try exact w6 h)|(refine aE fun hA=>?_;subst hA)|intro _)
   (refine aC ?_;exact aB (kb hK (by simp <;> omega)))
 ·rcases(by omega:(t<0\/11<t\/t=6\/t=4\/t=9\/t=10\/t=11)\/t=0\/t=1\/t=2\/t=3\/t=7\/t=8) with h|h|h|h|h|h|h
  ·have q0:¬t=0:=by omega
   have q1:¬t=1:=by omega
   have q2:¬t=2:=by omega
   have q3:¬t=3:=by omega
   have q7:¬t=7:=by omega
   have q8:¬t=8:=by omega
   simp only[zW,q0,q1,q2,q3,h5,q7,q8,or_self,if_false] at hK
   refine aH Tryz.func231 ?_
   repeat' (first|refine Kx ?_|refine w5 ?_ ?_|((refine bh fun h=>?_) <;> try exact w6 h)|(refine aE fun hA=>?_;subst hA)|intro _|(show aA _ 228 _ _ _;refine CA (h:=oQ ?_))|(show aA _ 335 _ _ _;refine CA (h:=VY ?_)))
   all_goals(refine aC ?_;exact aB (kb hK (by simp[*])))
  all_goals
   subst h
   simp[zW] at hK
   refine aH Tryz.func231 ?_
   repeat' (first|refine Kx ?_|refine w5 ?_ ?_|((refine bh fun h=>?_) <;> try exact w6 h)|(refine aE fun hA=>?_;subst hA)|intro _|(show aA _ 228 _ _ _;refine CA (h:=oQ ?_))|(show aA _ 335 _ _ _;refine CA (h:=VY ?_)))
   all_goals(refine aC ?_;exact aB (kb hK (by simp[*] <;> omega)))
theorem Ua {s t:ByteArray}:s.toList=t.toList↔s=t:=by
 constructor
 ·intro h;rw[Hm,Hm] at h;exact F1 h
 ·rintro rfl;rfl
theorem Ab1 {t st:Int} {e:Bool} {d:ByteArray} {k on w:Int} {x:Bool} {c la n:Int} {pa:Option Addr} {pn pc:Nat} (hK:K (.agg #[I6 t,I6 st,.bool e,.string d,I6 k,I6 on,I6 w,.bool x,I6 c,I6 la,I6 n]) R):CT 333 #[.agg #[I6 t,I6 st,.bool e,.string d,I6 k,I6 on,I6 w,.bool x,I6 c,I6 la,I6 n,.slice pa pn pc]] R K:=by
 refine aH Tryz.func333 ?_
 repeat' (first|refine v61 ?_|refine w5 ?_ ?_|((refine bh fun h=>?_) <;> try exact w6 h)|(refine aE fun hA=>?_;subst hA)|intro _)
 (refine aC ?_;exact aB (hK))
def Hh (t st:Int) (e:Bool) (d:ByteArray) (k on w:Int) (x:Bool) (c la n t1 st1:Int) (e1:Bool) (d1:ByteArray) (k1 on1 w1:Int) (x1:Bool) (c1 AJ n1:Int):Prop:=t=t1/\st=st1/\e=e1/\d=d1/\k=k1/\on=on1/\w=w1/\x=x1/\c=c1/\la=AJ/\n=n1
instance (t st:Int) (e:Bool) (d:ByteArray) (k on w:Int) (x:Bool) (c la n t1 st1:Int) (e1:Bool) (d1:ByteArray) (k1 on1 w1:Int) (x1:Bool) (c1 AJ n1:Int):Decidable (Hh t st e d k on w x c la n t1 st1 e1 d1 k1 on1 w1 x1 c1 AJ n1):=by unfold Hh;infer_instance
def Es:List (Nat×Nat):= [(0,0),(1,1),(2,1),(3,1),(4,0),(5,0),(6,0),(7,0),(8,0),(9,0),(10,1),(11,0),(12,0)]
theorem JR {t st:Int} {e:Bool} {d:ByteArray} {k on w:Int} {x:Bool} {c la n:Int} {pa:Option Addr} {pn pc:Nat} {t1 st1:Int} {e1:Bool} {d1:ByteArray} {k1 on1 w1:Int} {x1:Bool} {c1 AJ n1:Int} {Nu:Option Addr} {pn1 pc1:Nat} {ps ps1:List Pr} (hv:d4 C pa tI ps) (hw:d4 C Nu tI ps1) (hn:ps.length=pn) (hn':ps1.length=pn1) (hn2:pn<1000000000000000)
  (hK:K (.bool (decide (Hh t st e d k on w x c la n t1 st1 e1 d1 k1 on1 w1 x1 c1 AJ n1) && O3 ps ps1)) C):CT 229 #[.agg #[I6 t,I6 st,.bool e,.string d,I6 k,I6 on,I6 w,.bool x,I6 c,I6 la,I6 n,.slice pa pn pc],.agg #[I6 t1,I6 st1,.bool e1,.string d1,I6 k1,I6 on1,I6 w1,.bool x1,I6 c1,I6 AJ,I6 n1,.slice Nu pn1 pc1]] C K:=by
 refine aH Tryz.func229 ?_
 repeat' (first|refine v44 ?_|refine dw Es ?_|refine w5 ?_ ?_|((refine bh fun h=>?_) <;> try exact w6 h)|(refine aE fun hA=>?_;subst hA)|intro _|(show aA _ 333 _ _ _;refine CA (h:=Ab1 ?_))|(show aA _ 334 _ _ _;refine CA (h:=Aeu (xs:=ps) (ys:=ps1) (by exact lF) (by exact lF) hn hn' hn2 ?_)))
 ·rename_i h
  have hd:decide (Hh t st e d k on w x c la n t1 st1 e1 d1 k1 on1 w1 x1 c1 AJ n1)=true:=decide_eq_true (by obtain⟨a1,a2,a3,a4,a5,⟨a6,a7,a8⟩,a9,a10,a11⟩:=h;exact⟨a1,a2,a3,Ua.1 a4,a5,a6,a7,a8,a9,a10,a11⟩)
  rw[hd,Bool.true_and] at hK
  (refine aC ?_;exact aB (hK))
 ·rename_i h
  have hd:decide (Hh t st e d k on w x c la n t1 st1 e1 d1 k1 on1 w1 x1 c1 AJ n1)=false:=decide_eq_false (by
   rintro⟨a1,a2,a3,a4,a5,a6,a7,a8,a9,a10,a11⟩
   rw[<- Ua] at a4
   rcases h with h|h|h|h|h|(h|h|h)|h|h|h <;> exact h (by assumption))
  rw[hd,Bool.false_and] at hK
  (refine aC ?_;exact aB (hK))
def z6 (t st:Int):Bool:=Hu st && ((decide (st=0) && (decide (5<=t) && decide (t<=10))) || (decide (0<st) && (decide (t<=4) || decide (10<=t))))
def wN (t st:Int) (e:Bool) (d:ByteArray) (k on w:Int) (x:Bool) (c la n:Int) (ps:List Pr):Bool:=decide (0<=t) && decide (t<=11) && z6 t st && (decide (Hh t st e d k on w x c la n t st (oE t e) (oD t d) (oK t k) (oO t on) (oO t w) (oX t x) (oC t c) (oL t la) (oN t n)) && O3 ps (oPs t ps)) && zW t d k on w c la n ps
def Oj (t st:Int) (e:Bool) (d:ByteArray) (k on w:Int) (x:Bool) (c la n:Int) (ps:List Pr):Int:=if wN t st e d k on w x c la n ps=true then 0 else 2
theorem vG {k:Int} (h0:0<=k) (h1:k<=11) (hK:K (.tuple #[.bool (decide (5<=k) && decide (k<=10)),.bool (decide (k<=4) || decide (10<=k)),I6 0]) R):CT 227 #[I6 k] R K:=by
 obtain⟨e1,e2,e3,e4,e5⟩:=Hf k h0 h1
 refine P3 ?_
 rw[e1,e2,e4];exact hK
theorem Qi {k:Int} (h0:k<0\/11<k) (hK:K (.tuple #[.bool false,.bool false,I6 3]) R):CT 227 #[I6 k] R K:=by
 have e1:nP k=(false,false,0,0):=by unfold nP;rw[if_pos (by omega)]
 have e2:ES k=3:=by unfold ES;rw[if_pos (by omega)]
 refine P3 ?_
 rw[e1,e2];exact hK
theorem Ts {pa:Option Addr} {ps:List Pr} {t:Int} (hv:d4 C pa tI ps):d4 C (oPa t pa) tI (oPs t ps):=by
 unfold oPa oPs
 split
 ·exact hv
 ·exact eN
theorem Age {ps:List Pr} {t:Int} {pn:Nat} (hn:ps.length=pn):(oPs t ps).length=oPn t pn:=by
 unfold oPn oPs
 split
 ·exact hn
 ·rfl
def gU:List (Nat×Nat):= [(0,0),(1,0),(2,0),(3,0),(4,0),(5,0),(6,0),(8,0),(9,1),(7,1),(10,1),(11,0),(12,0),(13,0),(14,0),(15,1),(16,0),(17,0)]
theorem Cv {t st:Int} {e:Bool} {d:ByteArray} {k on w:Int} {x:Bool} {c la n:Int} {pa:Option Addr} {pn pc:Nat} {ps:List Pr} (hv:d4 C pa tI ps) (hn:ps.length=pn) (hn2:pn<1000000000000000) (hK:K (I6 (Oj t st e d k on w x c la n ps)) C):CT 137 #[.agg #[I6 t,I6 st,.bool e,.string d,I6 k,I6 on,I6 w,.bool x,I6 c,I6 la,I6 n,.slice pa pn pc]] C K:=by
 by_cases ht:0<=t/\t<=11
 ·obtain⟨h0,h1⟩:=ht
  have d0:decide (0<=t)=true:=decide_eq_true h0
  have d1:decide (t<=11)=true:=decide_eq_true h1
  unfold Oj wN at hK
  rw[d0,d1,Bool.true_and,Bool.true_and] at hK
  cases hs:z6 t st
  ·rw[hs] at hK
   simp only[Bool.false_and,Bool.false_eq_true,if_false] at hK
   cases h3:Hu st
   ·refine aH Tryz.func137 ?_
    repeat' (first|refine Cc ?_|refine dw gU ?_|refine w5 ?_ ?_|((refine bh fun h=>?_) <;> try exact w6 h)|(refine aE fun hA=>?_;subst hA)|intro _|(show aA _ 227 _ _ _;refine CA (h:=vG (by assumption) (by assumption) ?_))|(show aA _ 228 _ _ _;refine CA (h:=oQ ?_)))
    all_goals(refine aC ?_;exact aB (hK))
   ·have h4:=(oV st).1 h3
    unfold z6 at hs
    rw[h3,Bool.true_and] at hs
    simp only[Bool.and_eq_false_iff,Bool.or_eq_false_iff,decide_eq_false_iff_not] at hs
    refine aH Tryz.func137 ?_
    repeat' (first|refine Cc ?_|refine dw gU ?_|refine w5 ?_ ?_|((refine bh fun h=>?_) <;> try exact w6 h)|(refine aE fun hA=>?_;subst hA)|intro _|(show aA _ 227 _ _ _;refine CA (h:=vG (by assumption) (by assumption) ?_))|(show aA _ 228 _ _ _;refine CA (h:=oQ ?_)))
    all_goals(refine aC ?_;exact aB (hK))
  ·rw[hs,Bool.true_and] at hK
   have h3:Hu st=true:=by unfold z6 at hs;rw[Bool.and_eq_true] at hs;exact hs.1
   have h4:=(oV st).1 h3
   unfold z6 at hs
   rw[h3,Bool.true_and] at hs
   simp only[Bool.and_eq_true,Bool.or_eq_true,decide_eq_true_eq] at hs
   cases hq:(decide (Hh t st e d k on w x c la n t st (oE t e) (oD t d) (oK t k) (oO t on) (oO t w) (oX t x) (oC t c) (oL t la) (oN t n)) && O3 ps (oPs t ps))
   ·rw[hq] at hK
    simp only[Bool.false_and,Bool.false_eq_true,if_false] at hK
    refine aH Tryz.func137 ?_
    repeat' (first|refine Cc ?_|refine dw gU ?_|refine w5 ?_ ?_|((refine bh fun h=>?_) <;> try exact w6 h)|(refine aE fun hA=>?_;subst hA)|intro _|(show aA _ 227 _ _ _;refine CA (h:=vG (by assumption) (by assumption) ?_))|(show aA _ 228 _ _ _;refine CA (h:=oQ ?_))|(show aA _ 230 _ _ _;refine CA (h:=Nl ?_))|(show aA _ 229 _ _ _;refine CA (h:=JR (ps:=ps) (ps1:=oPs t ps) (bM hv) (Ts (bM hv)) hn (Age hn) hn2 ?_)))
    all_goals(refine aC ?_;exact aB (hK))
   ·rw[hq,Bool.true_and] at hK
    cases hf:zW t d k on w c la n ps
    ·rw[hf] at hK
     simp only[Bool.false_eq_true,if_false] at hK
     refine aH Tryz.func137 ?_
     repeat' (first|refine Cc ?_|refine dw gU ?_|refine w5 ?_ ?_|((refine bh fun h=>?_) <;> try exact w6 h)|(refine aE fun hA=>?_;subst hA)|intro _|(show aA _ 227 _ _ _;refine CA (h:=vG (by assumption) (by assumption) ?_))|(show aA _ 228 _ _ _;refine CA (h:=oQ ?_))|(show aA _ 230 _ _ _;refine CA (h:=Nl ?_))|(show aA _ 229 _ _ _;refine CA (h:=JR (ps:=ps) (ps1:=oPs t ps) (bM hv) (Ts (bM hv)) hn (Age hn) hn2 ?_))|(show aA _ 231 _ _ _;refine CA (h:=LI (ps:=ps) (bM hv) hn hn2 ?_)))
     all_goals(refine aC ?_;exact aB (hK))
    ·rw[hf] at hK
     simp only[if_true] at hK
     refine aH Tryz.func137 ?_
     repeat' (first|refine Cc ?_|refine dw gU ?_|refine w5 ?_ ?_|((refine bh fun h=>?_) <;> try exact w6 h)|(refine aE fun hA=>?_;subst hA)|intro _|(show aA _ 227 _ _ _;refine CA (h:=vG (by assumption) (by assumption) ?_))|(show aA _ 228 _ _ _;refine CA (h:=oQ ?_))|(show aA _ 230 _ _ _;refine CA (h:=Nl ?_))|(show aA _ 229 _ _ _;refine CA (h:=JR (ps:=ps) (ps1:=oPs t ps) (bM hv) (Ts (bM hv)) hn (Age hn) hn2 ?_))|(show aA _ 231 _ _ _;refine CA (h:=LI (ps:=ps) (bM hv) hn hn2 ?_)))
     all_goals(refine aC ?_;exact aB (hK))
 ·have d0:(decide (0<=t) && decide (t<=11))=false:=by rw[Bool.and_eq_false_iff];simp;omega
  unfold Oj wN at hK
  rw[d0] at hK
  simp only[Bool.false_and,Bool.false_eq_true,if_false] at hK
  refine aH Tryz.func137 ?_
  repeat' (first|refine Cc ?_|refine dw gU ?_|refine w5 ?_ ?_|((refine bh fun h=>?_) <;> try exact w6 h)|(refine aE fun hA=>?_;subst hA)|intro _|(show aA _ 227 _ _ _;refine CA (h:=Qi (by omega) ?_))|(show aA _ 228 _ _ _;refine CA (h:=oQ ?_)))
  all_goals(refine aC ?_;exact aB (hK))
def sJ (t st:Int) (e:Bool) (d:ByteArray) (k on w:Int) (x:Bool) (c la n:Int) (ps:List Pr):Prop:=(0<=t/\t<=11)/\(0<=st/\st<=2147483647)/\(st=0->5<=t/\t<=10)/\(0<st->t<=4\/10<=t)/\(e=true->t<=1)/\(k≠0->t=2)/\(c≠0->t=4\/t=9)/\(la≠0->t=9)/\(n≠0->10<=t)/\(0<ps.length->t=5)/\(C9 on w x=false->t=2\/t=3)/\(0<d.size->t<=1\/t=7\/t=8)/\(t<=1->d.size<=256)/\(t=7\/t=8->d.size=8)/\(t=2->k=1\/k=2)/\(t=2\/t=3->OH on w=true)/\KY ps=true/\Hu c=true/\Hu la=true/\Hu n=true/\ps.length<=8
theorem Amb {d:ByteArray}:d=⟨#[]⟩↔d.size=0:=by
 constructor
 ·rintro rfl;rfl
 ·intro h;apply ByteArray.ext;exact Array.eq_empty_of_size_eq_zero h
theorem Ph (on w:Int) (x:Bool):C9 on w x=true↔(on=0/\w=0/\x=false):=by unfold C9;cases x <;> simp
theorem Ahe {l:List Pr}:l.length=0->KY l=true:=fun h=>by rw[List.length_eq_zero_iff.1 h];rfl
theorem HL (t st:Int) (e:Bool) (d:ByteArray) (k on w:Int) (x:Bool) (c la n:Int) (ps:List Pr):wN t st e d k on w x c la n ps=true↔sJ t st e d k on w x c la n ps:=by
 have hn0:Hu 0=true:=by decide
 have hst:=oV st
 have h0:= @Ahe ps
 have hnn:=Ph on w x
 have hpn:O3 ps []=true↔ps.length=0:=by rw[Aio];simp
 have hps:=Rf ps
 have hd:= @Amb d
 rcases(by omega:(t<0\/11<t)\/t=0\/t=1\/t=2\/t=3\/t=4\/t=5\/t=6\/t=7\/t=8\/t=9\/t=10\/t=11) with h|h|h|h|h|h|h|h|h|h|h|h|h
 ·constructor
  ·intro hh
   unfold wN at hh
   simp only[Bool.and_eq_true,decide_eq_true_eq] at hh
   omega
  ·intro hh
   have:=hh.1
   omega
 all_goals
  subst h
  unfold wN sJ z6 Hh zW
  simp only[oE,oD,oK,oO,oX,oC,oL,oN,oPs,Bool.and_eq_true,Bool.or_eq_true,decide_eq_true_eq]
  grind
end Go.Proofs.YtepnmcipkangkaaGreat
section
namespace Go.Proofs.YtepnmcipkangkaaGreat
open Go Go.Proofs Go.Sl
attribute [local irreducible] aN fJ cY bN aM aS aA dM dN aV dL pt ro fB star sep bF
variable {R C:List HP} {K:KP} {n t k on w c la:Int} {e x:Bool} {d:ByteArray} {ps:List Pr}
def Aho (r:Nat) (xs:List Pc):HP:=fB fun A=>fB fun c=>sep (pt r [.slice A xs.length c] 427) (bV A c 423 pcC xs)
theorem VC {r n c:Nat} {A:Option Addr} {xs ys:List Pc} (hv:d4 R A pcC ys) (hn:ys.length=n) (hl:xs.length+n<1000000000) (hK:K (.tuple #[]) (Aho r (xs++ys)::R)):
  CT 375 #[.slice A n c,PO r] (Aho r xs::R) K:=by
 refine aA.ex fun A=>aA.ex fun c=>aA.sep ?_
 refine aH Tryz.func375 ?_
 repeat' (first|refine v36 ?_|refine w5 ?_ ?_|((refine bh fun h=>?_) <;> try exact w6 h)|(refine aE fun hA=>?_;subst hA)|intro _)
 refine aC ?_
 exact aK (by exact aZ) hK
theorem P5 (hK:K (.agg #[I6 n,I6 4,.string ⟨#[]⟩]) R):CT 376 #[I6 n] R K:=by
 refine aH Tryz.func376 ?_
 repeat' (first|refine v31 ?_|refine w5 ?_ ?_|((refine bh fun h=>?_) <;> try exact w6 h)|(refine aE fun hA=>?_;subst hA)|intro _|(show aA _ 367 _ _ _;refine CA (h:=Adi ?_)))
 (refine aC ?_;exact aB (hK))
theorem W4 (hK:K (I6 (tH e)) R):CT 288 #[.bool e] R K:=by
 refine aH Tryz.func288 ?_
 cases e
 all_goals
  repeat' (first|refine v0 ?_|refine w5 ?_ ?_|((refine bh fun h=>?_) <;> try exact w6 h)|(refine aE fun hA=>?_;subst hA)|intro _)
  (refine aC ?_;exact aB (hK))
def eX (t:Int) (d:ByteArray) (k on w:Int) (x:Bool) (c la n:Int):List Pc:=if t=0\/t=1\/t=7\/t=8 then [⟨0,0,d⟩] else if t=2\/t=3 then [⟨k,1,⟨#[]⟩⟩,⟨tH x,1,⟨#[]⟩⟩,⟨w - 1,1,⟨#[]⟩⟩,⟨0,1,⟨#[]⟩⟩,⟨on,4,⟨#[]⟩⟩] else if t=4 then [⟨c,4,⟨#[]⟩⟩] else if t=9 then [⟨la,4,⟨#[]⟩⟩,⟨c,4,⟨#[]⟩⟩] else if t=10\/t=11 then [⟨n,4,⟨#[]⟩⟩] else []
def Ac (ps:List Pr):List Pc:=ps.flatMap fun p=> [⟨p.i,2,⟨#[]⟩⟩,⟨p.v,4,⟨#[]⟩⟩]
theorem Ex (h:t=0\/t=1\/t=7\/t=8):eX t d k on w x c la n= [⟨0,0,d⟩]:=by unfold eX;rw[if_pos h]
theorem hp2 (h:t=2\/t=3):eX t d k on w x c la n= [⟨k,1,⟨#[]⟩⟩,⟨tH x,1,⟨#[]⟩⟩,⟨w - 1,1,⟨#[]⟩⟩,⟨0,1,⟨#[]⟩⟩,⟨on,4,⟨#[]⟩⟩]:=by unfold eX;rw[if_neg (by omega),if_pos h]
theorem hp3 (h:t=4):eX t d k on w x c la n= [⟨c,4,⟨#[]⟩⟩]:=by unfold eX;rw[if_neg (by omega),if_neg (by omega),if_pos h]
theorem hp4 (h:t=9):eX t d k on w x c la n= [⟨la,4,⟨#[]⟩⟩,⟨c,4,⟨#[]⟩⟩]:=by unfold eX;rw[if_neg (by omega),if_neg (by omega),if_neg (by omega),if_pos h]
theorem hp5 (h:t=10\/t=11):eX t d k on w x c la n= [⟨n,4,⟨#[]⟩⟩]:=by unfold eX;rw[if_neg (by omega),if_neg (by omega),if_neg (by omega),if_neg (by omega),if_pos h]
theorem hp6 (h:¬(t=0\/t=1\/t=7\/t=8)/\¬(t=2\/t=3)/\¬t=4/\¬t=9/\¬(t=10\/t=11)):eX t d k on w x c la n= []:=by unfold eX;rw[if_neg h.1,if_neg h.2.1,if_neg h.2.2.1,if_neg h.2.2.2.1,if_neg h.2.2.2.2]
theorem Zf (t:Int) (d:ByteArray) (k on w:Int) (x:Bool) (c la n:Int):(eX t d k on w x c la n).length<=5:=by
 unfold eX
 (repeat' split) <;> simp
theorem IJ:∀ps:List Pr,(Ac ps).length=2 * ps.length
 | []=>rfl
 |p::l=>by
  have:=IJ l
  unfold Ac at this ⊢
  simp only[List.flatMap_cons,List.length_append,List.length_cons,List.length_nil,this]
  omega
theorem ZP {j:Nat} {y:Pr} (h:ps[j]?=some y):Ac (ps.take (j+1))=Ac (ps.take j)++ [⟨y.i,2,⟨#[]⟩⟩,⟨y.v,4,⟨#[]⟩⟩]:=by
 unfold Ac
 rw[List.take_add_one,h]
 simp
def jY:List Nat:= [0,0,2,6,0,16,48,126,254,0,512,1536,3584,8190,16382,0,0,65536,196608,524286,1048574,2097151]
def jZ:List Nat:= [2097151,1048574,524286,196608,65536,0,0,16382,8190,3584,1536,512,0,254,126,48,16,0,6,2,0,0]
def jR:List (Nat×Nat):= [(1,0),(2,0),(3,1),(4,1),(5,1),(6,1),(7,1),(8,1),(9,3),(10,3),(11,3),(12,3),(13,1),(14,1),(15,5),(16,5),(17,5),(18,5),(19,1),(20,1),(0,7),(21,1)]
def jV:List (Nat×Nat):= [(1,0),(2,0),(3,0),(4,1),(5,1),(6,1),(7,1),(8,1),(9,1),(0,3),(10,1)]
def jO:List (Nat×Nat):= [(1,0),(2,0),(3,1),(4,1),(5,1),(6,1),(7,1),(8,1),(0,3),(9,1)]
theorem U2 {st:Int} {pa:Option Addr} {pn pc:Nat} (hv:d4 C pa tI ps) (hn:ps.length=pn) (hn2:pn<100000000) (hk:1<=w/\w<=1000\/¬(t=2\/t=3)) (hK:K (.string (wL (eX t d k on w x c la n++Ac ps))) C):CT 286 #[.agg #[I6 t,I6 st,.bool e,.string d,I6 k,I6 on,I6 w,.bool x,I6 c,I6 la,I6 n,.slice pa pn pc]] C K:=by
 subst hn
 have hh:=Zf t d k on w x c la n
 refine aH Tryz.func286 ?_
 repeat' (first|(show fJ _ (.block 0 _) _ _ _;refine Am1 (fun a C'=>∃b r:Nat,C'=Aho r (eX t d k on w x c la n)::pt b [I6 t,I6 st,.bool e,.string d,I6 k,I6 on,I6 w,.bool x,I6 c,I6 la,I6 n,.slice pa ps.length pc] 178::C/\dP a [(1,PO b),(3,PO r),(4,.func (.func 375) #[] #[PO r]),(5,.func (.func 376) #[] #[])]) ?_ (fun a C' hI=>?_))|refine KA ?_|refine R6 jY jZ jR ?_|refine dw jV ?_|refine dw jO ?_|refine w5 ?_ ?_|((refine bh fun h=>?_) <;> try exact w6 h)|(refine aE fun hA=>?_;subst hA)|intro _|(show aA _ 375 _ _ _;refine CA (h:=VC (xs:= []) (by exact lF) (by exact rfl) (by decide) ?_))|(show aA _ 376 _ _ _;refine CA (h:=P5 ?_))|(show aA _ 288 _ _ _;refine CA (h:=W4 ?_))|(show aA _ 367 _ _ _;refine CA (h:=Adi ?_))|(show aA _ 377 _ _ _;refine CA (h:=Aqj ?_)))
 all_goals first
  |(show dL _ _ _
    first
     |rw[Ex (by omega)]
     |rw[hp2 (by omega)]
     |rw[hp3 (by omega)]
     |rw[hp4 (by omega)]
     |rw[hp5 (by omega)]
     |rw[hp6 (by omega)]
    exact Abm ⟨_,_,rfl,rfl,rfl,rfl,rfl,trivial⟩)
  |skip
 obtain⟨b,r,rfl,ha⟩:=hI
 refine⟨?_⟩
 refine t_n ?_
 refine iT _ ha ?_
 simp only[gH]
 repeat' (first|refine KA ?_|refine R6 jY jZ jR ?_|refine dw jV ?_|refine dw jO ?_|refine w5 ?_ ?_|((refine bh fun h=>?_) <;> try exact w6 h)|(refine aE fun hA=>?_;subst hA)|intro _)
 have hpl:=IJ ps
 have e0:eX t d k on w x c la n=eX t d k on w x c la n++Ac (ps.take 0):=by rw[List.take_zero];exact(List.append_nil _).symm
 rw[e0]
 have hv2:d4 (pt b [I6 t,I6 st,.bool e,.string d,I6 k,I6 on,I6 w,.bool x,I6 c,I6 la,I6 n,.slice pa ps.length pc] 178::C) pa tI ps:=bM hv
 refine jG (fun m a C'=>∃j:Nat,j+m=ps.length/\C'=Aho r (eX t d k on w x c la n++Ac (ps.take j))::pt b [I6 t,I6 st,.bool e,.string d,I6 k,I6 on,I6 w,.bool x,I6 c,I6 la,I6 n,.slice pa ps.length pc] 178::C/\dP a [(3,PO r),(4,.func (.func 375) #[] #[PO r]),(5,.func (.func 376) #[] #[]),(82,.slice pa ps.length pc),(83,I6 ps.length),(84,I6 j)]) ps.length (cN ps.length ⟨0,by omega,rfl,rfl,rfl,rfl,rfl,rfl,rfl,trivial⟩) ?_
 rintro n1 a C' ⟨j,hj,rfl,ha⟩
 refine iT _ ha ?_
 simp only[gH]
 by_cases hlt:j<ps.length
 ·obtain⟨y,hy,hd⟩:=lH (l:=ps) (j:=j) (by omega)
  have ht:=ZP hy
  have hl2:(eX t d k on w x c la n++Ac (ps.take j)).length+2<1000000000:=by
   rw[List.length_append,IJ,List.length_take];omega
  repeat' (first|refine KA ?_|refine R6 jY jZ jR ?_|refine dw jV ?_|refine dw jO ?_|refine w5 ?_ ?_|((refine bh fun h=>?_) <;> try exact w6 h)|(refine aE fun hA=>?_;subst hA)|intro _|(show aA _ 375 _ _ _;refine CA (h:=VC (xs:=eX t d k on w x c la n++Ac (ps.take j)) (by exact lF) (by exact rfl) hl2 ?_))|(show aA _ 376 _ _ _;refine CA (h:=P5 ?_))|(show aA _ 367 _ _ _;refine CA (h:=Adi ?_)))
  all_goals exact cN (n1 - 1) ⟨j+1,by omega,by rw[ht,<- List.append_assoc],rfl,rfl,rfl,rfl,rfl,rfl,trivial⟩
 ·obtain rfl:j=ps.length:=by omega
  rw[List.take_of_length_le (Nat.le_refl _)]
  refine xQ fun A=>xQ fun c'=>HJ ?_
  have hl2:(eX t d k on w x c la n++Ac ps).length=(eX t d k on w x c la n).length+(Ac ps).length:=List.length_append
  repeat' (first|refine KA ?_|refine R6 jY jZ jR ?_|refine dw jV ?_|refine dw jO ?_|refine w5 ?_ ?_|((refine bh fun h=>?_) <;> try exact w6 h)|(refine aE fun hA=>?_;subst hA)|intro _|(show aA _ 366 _ _ _;refine CA (h:=SP (ps:=eX t d k on w x c la n++Ac ps) (by exact lF) rfl (by omega) ?_)))
  (refine aC ?_;exact aB (hK))
end Go.Proofs.YtepnmcipkangkaaGreat
namespace Go.Proofs.YtepnmcipkangkaaGreat
open Go Go.Proofs Go.Sl
attribute [local irreducible] aN fJ cY bN aM aS aA dM dN aV dL pt ro fB star sep bF
variable {R C:List HP} {K:KP} {n:Int}
theorem Lx:∀(ps:List Pc) (n:Int),0<=n->eP ps=0->n+(k8 ps).length<=4096->KL ps n<=4096
 | [],n,_,_,h=>by simp[KL,k8] at h ⊢;omega
 |p::l,n,h0,he,h=>by
  obtain⟨h1,h2⟩:=AP he
  have hl:=MN (n:=p.n) (s:=p.s) (FB h1)
  have hc:((k8 (p::l)).length:Int)=k7 p.w p.s+(k8 l).length:=by rw[<- hl];simp[k8]
  have hnn:=GB p.w p.s
  have hm:min (k7 p.w p.s) 4097=k7 p.w p.s:=by omega
  unfold KL
  rw[hm,if_neg (by omega)]
  exact Lx l _ (by omega) h2 (by omega)
theorem Am0 {ps:List Pc} (h:eP ps=0) (h2:(k8 ps).length<=4096):wL ps=⟨(k8 ps).toArray⟩:=by
 have h3:=Lx ps 0 (by omega) h (by omega)
 have he:xT ps=0:=by
  unfold xT
  rw[if_pos h,if_neg (by omega)]
 unfold wL
 rw[if_pos he]
theorem Ip:∀(a b:List Pc),eP a=0->eP b=0->eP (a++b)=0
 | [],b,_,h=>h
 |p::l,b,h1,h=>by
  obtain⟨h2,h3⟩:=AP h1
  show(if jA p.n p.w=0 then eP (l++b) else _)=0
  rw[if_pos h2]
  exact Ip l b h3 h
def SG (ps:List Pr):List UInt8:=ps.flatMap fun p=>wB p.i 2++wB p.v 4
def nD (t:Int) (d:ByteArray) (k on w:Int) (x:Bool) (c la n:Int) (ps:List Pr):List UInt8:=if t=2\/t=3 then wB k 1++(wB (tH x) 1++(wB (w - 1) 1++(wB 0 1++wB on 4))) else if t=4 then wB c 4 else if t=9 then wB la 4++wB c 4 else if t=10\/t=11 then wB n 4 else d.data.toList++SG ps
theorem Cy:∀ps:List Pr,(SG ps).length=6 * ps.length
 | []=>rfl
 |p::l=>by
  have:=Cy l
  unfold SG at this ⊢
  simp only[List.flatMap_cons,List.length_append,List.length_cons,this,kR]
  have a2:(2:Int).toNat=2:=rfl
  have a4:(4:Int).toNat=4:=rfl
  omega
theorem LR (h:Hu n=true):jA n 4=0:=by
 obtain⟨p1,p3,p4⟩:=Od
 have m:=DZ (n:=n) (w:=4) (by decide)
 rw[show(4:Int).toNat=4 from rfl,p4] at m
 have:=(oV n).1 h
 exact m.2 (by omega)
theorem Aox (h:0<=n/\n<=65535):jA n 2=0:=by
 have m:=DZ (n:=n) (w:=2) (by decide)
 rw[show(2:Int).toNat=2 from rfl,Abi] at m
 exact m.2 (by omega)
theorem Ajz (h:0<=n/\n<=255):jA n 1=0:=by
 obtain⟨p1,p3,p4⟩:=Od
 have m:=DZ (n:=n) (w:=1) (by decide)
 rw[show(1:Int).toNat=1 from rfl,p1] at m
 exact m.2 (by omega)
theorem IW:∀ {ps:List Pr},KY ps=true->eP (Ac ps)=0
 | [],_=>rfl
 |p::l,h=>by
  simp only[KY,List.all_cons,Bool.and_eq_true,decide_eq_true_eq] at h
  have:=IW (ps:=l) (by unfold KY;simpa using h.2)
  show eP (⟨p.i,2,⟨#[]⟩⟩::⟨p.v,4,⟨#[]⟩⟩::Ac l)=0
  simp only[eP]
  rw[if_pos (Aox h.1.1),if_pos (LR h.1.2)]
  exact this
theorem IL:∀ps:List Pr,k8 (Ac ps)=SG ps
 | []=>rfl
 |p::l=>by
  have:=IL l
  show k8 (⟨p.i,2,⟨#[]⟩⟩::⟨p.v,4,⟨#[]⟩⟩::Ac l)=SG (p::l)
  unfold k8 at this ⊢
  rw[List.flatMap_cons,List.flatMap_cons,this]
  simp[Qz,SG]
theorem Ri (a b:List Pc):k8 (a++b)=k8 a++k8 b:=by unfold k8;simp
theorem Fp {t st:Int} {e:Bool} {d:ByteArray} {k on w:Int} {x:Bool} {c la:Int} {ps:List Pr} (h:sJ t st e d k on w x c la n ps):wL (eX t d k on w x c la n++Ac ps)=⟨(nD t d k on w x c la n ps).toArray⟩/\(nD t d k on w x c la n ps).length<=256:=by
 obtain⟨h1,h2,h3,h4,h5,h6,h7,h8,h9,h10,h11,h12,h13,h14,h15,h16,h17,h18,h19,h20,h21⟩:=h
 have hd:d.data.toList.length=d.size:=by simp
 have hp:=IW h17
 have hl:=Cy ps
 have a1:(1:Int).toNat=1:=rfl
 have a4:(4:Int).toNat=4:=rfl
 have key:∀hs:List Pc,eX t d k on w x c la n=hs->eP hs=0->k8 hs++SG ps=nD t d k on w x c la n ps->(nD t d k on w x c la n ps).length<=256->wL (eX t d k on w x c la n++Ac ps)=⟨(nD t d k on w x c la n ps).toArray⟩/\(nD t d k on w x c la n ps).length<=256:=by
  intro hs e1 e2 e3 e4
  rw[e1,Am0 (Ip _ _ e2 hp) (by rw[Ri,IL,e3];omega),Ri,IL,e3]
  exact⟨rfl,e4⟩
 have hps:¬t=5->SG ps= []:=fun h=>by
  have:ps.length=0:=by
   rcases Nat.eq_zero_or_pos ps.length with h'|h'
   ·exact h'
   ·exact absurd (h10 h') h
  rw[List.length_eq_zero_iff.1 this];rfl
 rcases(by omega:(t=0\/t=1\/t=7\/t=8)\/(t=2\/t=3)\/t=4\/t=9\/(t=10\/t=11)\/t=5\/t=6) with h|h|h|h|h|h|h
 ·refine key [⟨0,0,d⟩] (by unfold eX;rw[if_pos h]) rfl ?_ ?_
  ·rw[hps (by omega)]
   unfold nD
   rw[if_neg (by omega),if_neg (by omega),if_neg (by omega),if_neg (by omega),hps (by omega)]
   simp[k8,Qz,show wB 0 0= [] from rfl]
  ·unfold nD
   rw[if_neg (by omega),if_neg (by omega),if_neg (by omega),if_neg (by omega),hps (by omega)]
   rw[List.append_nil,hd]
   by_cases h':t<=1
   ·exact h13 h'
   ·have:=h14 (by omega);omega
 ·have hdep:=h16 h
  unfold OH at hdep
  simp only[Bool.and_eq_true,decide_eq_true_eq] at hdep
  have hb:=Fe x
  have hk:0<=k/\k<=255:=by
   by_cases h2:t=2
   ·have:=h15 h2;omega
   ·have:k=0:=Classical.byContradiction fun h'=>h2 (h6 h')
    omega
  refine key [⟨k,1,⟨#[]⟩⟩,⟨tH x,1,⟨#[]⟩⟩,⟨w - 1,1,⟨#[]⟩⟩,⟨0,1,⟨#[]⟩⟩,⟨on,4,⟨#[]⟩⟩] (by unfold eX;rw[if_neg (by omega),if_pos h]) ?_ ?_ ?_
  ·simp only[eP]
   rw[if_pos (Ajz hk),if_pos (Ajz (by omega)),if_pos (Ajz (by omega)),if_pos (Ajz (by omega)),if_pos (LR hdep.1)]
  ·rw[hps (by omega)]
   unfold nD
   rw[if_pos h]
   simp[k8,Qz]
  ·unfold nD
   rw[if_pos h]
   simp only[List.length_append,kR]
   omega
 ·refine key [⟨c,4,⟨#[]⟩⟩] (by unfold eX;rw[if_neg (by omega),if_neg (by omega),if_pos h]) ?_ ?_ ?_
  ·simp only[eP]
   rw[if_pos (LR h18)]
  ·rw[hps (by omega)]
   unfold nD
   rw[if_neg (by omega),if_pos h]
   simp[k8,Qz]
  ·unfold nD
   rw[if_neg (by omega),if_pos h,kR]
   omega
 ·refine key [⟨la,4,⟨#[]⟩⟩,⟨c,4,⟨#[]⟩⟩] (by unfold eX;rw[if_neg (by omega),if_neg (by omega),if_neg (by omega),if_pos h]) ?_ ?_ ?_
  ·simp only[eP]
   rw[if_pos (LR h19),if_pos (LR h18)]
  ·rw[hps (by omega)]
   unfold nD
   rw[if_neg (by omega),if_neg (by omega),if_pos h]
   simp[k8,Qz]
  ·unfold nD
   rw[if_neg (by omega),if_neg (by omega),if_pos h,List.length_append,kR,kR]
   omega
 ·refine key [⟨n,4,⟨#[]⟩⟩] (by unfold eX;rw[if_neg (by omega),if_neg (by omega),if_neg (by omega),if_neg (by omega),if_pos h]) ?_ ?_ ?_
  ·simp only[eP]
   rw[if_pos (LR h20)]
  ·rw[hps (by omega)]
   unfold nD
   rw[if_neg (by omega),if_neg (by omega),if_neg (by omega),if_pos h]
   simp[k8,Qz]
  ·unfold nD
   rw[if_neg (by omega),if_neg (by omega),if_neg (by omega),if_pos h,kR]
   omega
 all_goals
  have hd0:d.data.toList= []:=by
   rcases Nat.eq_zero_or_pos d.size with h'|h'
   ·exact List.length_eq_zero_iff.1 (by omega)
   ·have:=h12 h';omega
  refine key [] (by unfold eX;rw[if_neg (by omega),if_neg (by omega),if_neg (by omega),if_neg (by omega),if_neg (by omega)]) rfl ?_ ?_
  ·unfold nD
   rw[if_neg (by omega),if_neg (by omega),if_neg (by omega),if_neg (by omega),hd0]
   rfl
  ·unfold nD
   rw[if_neg (by omega),if_neg (by omega),if_neg (by omega),if_neg (by omega),hd0,List.nil_append]
   omega
end Go.Proofs.YtepnmcipkangkaaGreat
end
namespace Go.Proofs.YtepnmcipkangkaaGreat
open Go Go.Proofs Go.Sl
attribute [local irreducible] aN fJ cY bN aM aS aA dM dN aV dL pt ro fB star sep bF
variable {R C:List HP} {K:KP} {l t f:Int} {p:ByteArray}
def gD (t:Int) (p:ByteArray):ByteArray:=if t=0\/t=1\/t=7\/t=8 then p else⟨#[]⟩
def gK (t:Int) (p:ByteArray):Int:=if t=2\/t=3 then rK p 0 1 else 0
def gO (t:Int) (p:ByteArray):Int:=if t=2\/t=3 then rK p 4 8 else 0
def gW (t:Int) (p:ByteArray):Int:=if t=2\/t=3 then rK p 2 3+1 else 0
def gX (t:Int) (p:ByteArray):Bool:=if t=2\/t=3 then(rK p 1 2 == 1) else false
def gC (t:Int) (p:ByteArray):Int:=if t=4 then rK p 0 4 else if t=9 then rK p 4 8 else 0
def gL (t:Int) (p:ByteArray):Int:=if t=9 then rK p 0 4 else 0
def gN (t:Int) (p:ByteArray):Int:=if t=10\/t=11 then rK p 0 4 else 0
def Ajf (p:ByteArray) (j:Nat):Pr:=⟨rK p (6 * j) (6 * j+2),rK p (6 * j+2) (6 * j+2+4)⟩
def Om (p:ByteArray) (n:Nat):List Pr:=(List.range n).map (Ajf p)
def gP (t:Int) (p:ByteArray):List Pr:=if t=5 then Om p (p.size / 6) else []
theorem Yn (p:ByteArray) (n:Nat):Om p (n+1)=Om p n++ [Ajf p n]:=by unfold Om;rw[List.range_succ];simp
theorem Sz (p:ByteArray) (n:Nat):(Om p n).length=n:=by unfold Om;simp
theorem Aot (t:Int) (p:ByteArray):(gP t p).length=if t=5 then p.size / 6 else 0:=by
 unfold gP
 split
 ·exact Sz _ _
 ·rfl
def Tw (t:Int) (p:ByteArray):Prop:=0<=t/\t<=11/\p.size<=256/\(t=5->p.size % 6=0/\p.size<=48)/\(t=2\/t=3\/t=7\/t=8\/t=9->p.size=8)/\(t=4\/t=10\/t=11->p.size=4)/\(t=6->p.size=0)
theorem Z4 {s:Int} (h:mW l t f s=0) (hl:l=p.size):Tw t p:=by
 subst hl
 unfold mW EH at h
 unfold Tw
 (repeat' split at h) <;> omega
theorem Apy {p i:Nat} {s:ByteArray} (h:i+2<=s.size) (hK:K (I6 (rK s i (i+2))) (eU p (s.extract (i+2) s.size) false::R)):CT 379 #[PO p,I6 2] (eU p (s.extract i s.size) false::R) K:=
 Ou (by decide) (by omega) h hK
theorem Aak (p:ByteArray):AS p.size p false=p:=by
 obtain⟨t1,t2,t3⟩:=WY (s:=p) (at_:=0) (n:=p.size) (by omega) (by omega) (by omega)
 simpa using t2
def dY:List (Nat×Nat):= [(2,0),(3,1),(4,1),(5,1),(6,0),(7,1),(0,3),(1,3),(8,1),(9,0),(10,1)]
theorem Si {st:Int} (h:Tw t p) (hK:∀A c,K (.agg #[I6 t,I6 st,.bool (f == 1),.string (gD t p),I6 (gK t p),I6 (gO t p),I6 (gW t p),.bool (gX t p),I6 (gC t p),I6 (gL t p),I6 (gN t p),.slice A (gP t p).length c]) (bV A c 349 tI (gP t p)::R)):CT 382 #[.agg #[I6 l,I6 t,I6 f,I6 st],.string p] R K:=by
 obtain⟨h1,h2,h3,h4,h5,h6,h7⟩:=h
 rcases(by omega:(t=0\/t=1\/t=7\/t=8)\/(t=2\/t=3)\/t=4\/t=9\/(t=10\/t=11)\/t=6\/t=5) with h|h|h|h|h|h|h
 ·have q1:¬(t=2\/t=3):=by omega
  have q2:¬t=4:=by omega
  have q3:¬t=9:=by omega
  have q4:¬(t=10\/t=11):=by omega
  have q5:¬t=5:=by omega
  simp only[gD,gK,gO,gW,gX,gC,gL,gN,gP,if_pos h,if_neg q1,if_neg q2,if_neg q3,if_neg q4,if_neg q5,List.length_nil] at hK
  refine aH Tryz.func382 ?_
  repeat' (first|refine Vv ?_|refine dw dY ?_|refine w5 ?_ ?_|((refine bh fun h=>?_) <;> try exact w6 h)|(refine aE fun hA=>?_;subst hA)|intro _|(show aA _ 378 _ _ _;refine CA (h:=Vn p (fun r=>?_)))|(show aA _ 434 _ _ _;refine CA (h:=Ag4 (by simp[l5]) ?_)))
  all_goals(rw[Aak];(refine aC ?_;exact aB (hK none 0)))
 ·have q1:¬(t=0\/t=1\/t=7\/t=8):=by omega
  have q2:¬t=4:=by omega
  have q3:¬t=9:=by omega
  have q4:¬(t=10\/t=11):=by omega
  have q5:¬t=5:=by omega
  simp only[gD,gK,gO,gW,gX,gC,gL,gN,gP,if_pos h,if_neg q1,if_neg q2,if_neg q3,if_neg q4,if_neg q5,List.length_nil] at hK
  have n1:0<=rK p (0+1+1) (0+1+1+1)/\rK p (0+1+1) (0+1+1+1)<256:=⟨(Ev p 2 3).1,by have:=(Ev p 2 3).2;simpa using this⟩
  refine aH Tryz.func382 ?_
  repeat' (first|refine Vv ?_|refine dw dY ?_|refine w5 ?_ ?_|((refine bh fun h=>?_) <;> try exact w6 h)|(refine aE fun hA=>?_;subst hA)|intro _|(show aA _ 378 _ _ _;refine CA (h:=vS (fun r=>?_)))|(show aA _ 379 _ _ _;refine CA (h:=PN (by omega) ?_))|(show aA _ 379 _ _ _;refine CA (h:=LO (by omega) ?_)))
  all_goals(refine aC ?_;exact aB (hK none 0))
 ·subst h
  simp[gD,gK,gO,gW,gX,gC,gL,gN,gP] at hK
  refine aH Tryz.func382 ?_
  repeat' (first|refine Vv ?_|refine dw dY ?_|refine w5 ?_ ?_|((refine bh fun h=>?_) <;> try exact w6 h)|(refine aE fun hA=>?_;subst hA)|intro _|(show aA _ 378 _ _ _;refine CA (h:=vS (fun r=>?_)))|(show aA _ 379 _ _ _;refine CA (h:=PN (by omega) ?_))|(show aA _ 379 _ _ _;refine CA (h:=LO (by omega) ?_)))
  all_goals(refine aC ?_;exact aB (hK none 0))
 ·subst h
  simp[gD,gK,gO,gW,gX,gC,gL,gN,gP] at hK
  refine aH Tryz.func382 ?_
  repeat' (first|refine Vv ?_|refine dw dY ?_|refine w5 ?_ ?_|((refine bh fun h=>?_) <;> try exact w6 h)|(refine aE fun hA=>?_;subst hA)|intro _|(show aA _ 378 _ _ _;refine CA (h:=vS (fun r=>?_)))|(show aA _ 379 _ _ _;refine CA (h:=PN (by omega) ?_))|(show aA _ 379 _ _ _;refine CA (h:=LO (by omega) ?_)))
  all_goals(refine aC ?_;exact aB (hK none 0))
 ·have q1:¬(t=0\/t=1\/t=7\/t=8):=by omega
  have q2:¬t=4:=by omega
  have q3:¬t=9:=by omega
  have q4:¬(t=2\/t=3):=by omega
  have q5:¬t=5:=by omega
  simp only[gD,gK,gO,gW,gX,gC,gL,gN,gP,if_pos h,if_neg q1,if_neg q2,if_neg q3,if_neg q4,if_neg q5,List.length_nil] at hK
  refine aH Tryz.func382 ?_
  repeat' (first|refine Vv ?_|refine dw dY ?_|refine w5 ?_ ?_|((refine bh fun h=>?_) <;> try exact w6 h)|(refine aE fun hA=>?_;subst hA)|intro _|(show aA _ 378 _ _ _;refine CA (h:=vS (fun r=>?_)))|(show aA _ 379 _ _ _;refine CA (h:=PN (by omega) ?_))|(show aA _ 379 _ _ _;refine CA (h:=LO (by omega) ?_)))
  all_goals(refine aC ?_;exact aB (hK none 0))
 ·subst h
  simp[gD,gK,gO,gW,gX,gC,gL,gN,gP] at hK
  refine aH Tryz.func382 ?_
  repeat' (first|refine Vv ?_|refine dw dY ?_|refine w5 ?_ ?_|((refine bh fun h=>?_) <;> try exact w6 h)|(refine aE fun hA=>?_;subst hA)|intro _|(show aA _ 378 _ _ _;refine CA (h:=vS (fun r=>?_))))
  all_goals(refine aC ?_;exact aB (hK none 0))
 ·subst h
  obtain⟨hm,h48⟩:=h4 rfl
  simp[gD,gK,gO,gW,gX,gC,gL,gN,gP] at hK
  refine aH Tryz.func382 ?_
  repeat' (first|refine Vv ?_|refine dw dY ?_|refine w5 ?_ ?_|((refine bh fun h=>?_) <;> try exact w6 h)|(refine aE fun hA=>?_;subst hA)|intro _|(show aA _ 378 _ _ _;refine CA (h:=vS (fun r=>?_))))
  rename_i r1 r2 r3
  refine jG (fun m a C'=>∃(j:Nat) (B:Option Addr) (kk:Nat),6 * j+m=p.size/\C'=pt r3 [I6 5,I6 st,.bool (f == 1),.string ⟨#[]⟩,I6 0,I6 0,I6 0,.bool false,I6 0,I6 0,I6 0,.slice B (Om p j).length kk] 178::bV B kk 349 tI (Om p j)::eU r (p.extract (6 * j) p.size) false::pt r2 [I6 0,I6 0,.bool false,.string ⟨#[]⟩,I6 0,I6 0,I6 0,.bool false,I6 0,I6 0,I6 0,.slice none 0 0] 178::R/\dP a [(4,PO r2),(5,PO r3),(6,PO r)]) p.size
   (cN p.size ⟨0,none,0,by omega,rfl,rfl,rfl,rfl,trivial⟩) ?_
  rintro n1 a C' ⟨j,B,kk,hj,rfl,ha⟩
  refine iT _ ha ?_
  simp only[gH]
  have hs:(p.extract (6 * j) p.size).size=p.size - 6 * j:=by simp
  have hpl:=Sz p j
  by_cases hlt:6 * j<p.size
  ·have h6:6 * j+2+4<=p.size:=by omega
   repeat' (first|refine Vv ?_|refine dw dY ?_|refine w5 ?_ ?_|((refine bh fun h=>?_) <;> try exact w6 h)|(refine aE fun hA=>?_;subst hA)|intro _|(show aA _ 435 _ _ _;refine CA (h:=Oo _ _ _ ?_))|(show aA _ 379 _ _ _;refine CA (h:=Apy (by omega) ?_))|(show aA _ 379 _ _ _;refine CA (h:=LO (by omega) ?_)))
   all_goals exact cN (n1 - 6) ⟨j+1,_,_,by omega,by rw[Yn,show 6 * (j+1)=6 * j+2+4 by omega],rfl,rfl,rfl,trivial⟩
  ·have:j=p.size / 6:=by omega
   subst this
   repeat' (first|refine Vv ?_|refine dw dY ?_|refine w5 ?_ ?_|((refine bh fun h=>?_) <;> try exact w6 h)|(refine aE fun hA=>?_;subst hA)|intro _|(show aA _ 435 _ _ _;refine CA (h:=Oo _ _ _ ?_)))
   all_goals(refine aC ?_;exact aB (hK _ _))
end Go.Proofs.YtepnmcipkangkaaGreat
section
namespace Go.Proofs.YtepnmcipkangkaaGreat
open Go Go.Proofs Go.Sl
attribute [local irreducible] aN fJ cY bN aM aS aA dM dN aV dL pt ro fB star sep bF
variable {R C:List HP} {K:KP}
def b2 (t st:Int):Bool:=!(decide (0<=t) && decide (t<=11) && z6 t st)
def b4 (t:Int) (e:Bool) (k c la n:Int) (m:Nat):Bool:=(e && decide (1<t)) || (!decide (k=0) && !decide (t=2)) || (!decide (c=0) && !decide (t=4) && !decide (t=9)) || (!decide (la=0) && !decide (t=9)) || (!decide (n=0) && decide (t<10)) || (decide (0<m) && !decide (t=5))
end Go.Proofs.YtepnmcipkangkaaGreat
namespace Go.Proofs.YtepnmcipkangkaaGreat
open Go Go.Proofs Go.Sl
attribute [local irreducible] aN fJ cY bN aM aS aA dM dN aV dL pt ro fB star sep bF
variable {R C:List HP} {K:KP}
def b6 (t:Int) (d:ByteArray) (on w:Int) (x:Bool):Bool:=(!C9 on w x && !decide (t=2) && !decide (t=3)) || (!decide (d=⟨#[]⟩) && decide (1<t) && !decide (t=7) && !decide (t=8))
def b8 (t:Int) (d:ByteArray) (k on w:Int):Bool:=(decide (t<=1) && decide (256<d.size)) || ((decide (t=7) || decide (t=8)) && !decide (d.size=8)) || (decide (t=2) && !decide (k=1) && !decide (k=2)) || ((decide (t=2) || decide (t=3)) && !OH on w)
end Go.Proofs.YtepnmcipkangkaaGreat
end
section
namespace Go.Proofs.YtepnmcipkangkaaGreat
open Go Go.Proofs Go.Sl
attribute [local irreducible] aN fJ cY bN aM aS aA dM dN aV dL pt ro fB star sep bF
attribute [local irreducible] ByteArray.extract rK eU
variable {R C:List HP} {K:KP}
def gB (t st:Int) (e:Bool) (p:ByteArray):Bool:=wN t st e (gD t p) (gK t p) (gO t p) (gW t p) (gX t p) (gC t p) (gL t p) (gN t p) (gP t p)
def gY (t:Int) (p:ByteArray):ByteArray:=⟨(nD t (gD t p) (gK t p) (gO t p) (gW t p) (gX t p) (gC t p) (gL t p) (gN t p) (gP t p)).toArray⟩
def gOk (t st:Int) (e:Bool) (p:ByteArray):Bool:=gB t st e p && decide (gY t p=p)
end Go.Proofs.YtepnmcipkangkaaGreat
namespace Go.Proofs.YtepnmcipkangkaaGreat
open Go Go.Proofs Go.Sl
attribute [local irreducible] aN fJ cY bN aM aS aA dM dN aV dL pt ro fB star sep bF
attribute [local irreducible] ByteArray.extract rK eU
variable {R C:List HP} {K:KP}
theorem WK {t st:Int} {e:Bool} {d:ByteArray} {k on w:Int} {x:Bool} {c la n:Int} {pa:Option Addr} {pn pc:Nat} {ps:List Pr} (h:sJ t st e d k on w x c la n ps) (hv:d4 C pa tI ps) (hn:ps.length=pn) (hK:K (.string ⟨(nD t d k on w x c la n ps).toArray⟩) C):CT 286 #[.agg #[I6 t,I6 st,.bool e,.string d,I6 k,I6 on,I6 w,.bool x,I6 c,I6 la,I6 n,.slice pa pn pc]] C K:=by
 have hl:=h.2.2.2.2.2.2.2.2.2.2.2.2.2.2.2.2.2.2.2.2
 have hd:=h.2.2.2.2.2.2.2.2.2.2.2.2.2.2.2.1
 refine U2 hv hn (by omega) ?_ (by rw[(Fp h).1];exact hK)
 by_cases h2:t=2\/t=3
 ·have:=hd h2
  unfold OH at this
  simp only[Bool.and_eq_true,decide_eq_true_eq] at this
  omega
 ·exact .inr h2
def gE (l t f s:Int) (p:ByteArray):Int:=if mW l t f s=0 then(if(p.size:Int)=l then(if gOk t s (f == 1) p=true then 0 else 1) else 6) else mW l t f s
def Apf:Value:=.agg #[I6 0,I6 0,.bool false,.string ⟨#[]⟩,I6 0,I6 0,I6 0,.bool false,I6 0,I6 0,I6 0,.slice none 0 0]
theorem VN {l t f s:Int} {p:ByteArray} (hf:-9223372036854775808<=f/\f<=9223372036854775807) (hK1:gE l t f s p=0->∀A c,K (.tuple #[.agg #[I6 t,I6 s,.bool (f == 1),.string (gD t p),I6 (gK t p),I6 (gO t p),I6 (gW t p),.bool (gX t p),I6 (gC t p),I6 (gL t p),I6 (gN t p),.slice A (gP t p).length c],I6 0]) (bV A c 349 tI (gP t p)::R))
  (hK2:gE l t f s p≠0->K (.tuple #[Apf,I6 (gE l t f s p)]) R):CT 291 #[.agg #[I6 l,I6 t,I6 f,I6 s],.string p] R K:=by
 by_cases h1:mW l t f s=0
 ·by_cases h2:(p.size:Int)=l
  ·have hL:=Z4 h1 h2.symm
   have hgl:=Aot t p
   have hp1000:(gP t p).length<1000000000000000:=by rw[hgl];have:=hL.2.2.1;split <;> omega
   unfold gE at hK1 hK2
   rw[if_pos h1,if_pos h2] at hK1 hK2
   unfold gOk gB at hK1 hK2
   cases hb:wN t s (f == 1) (gD t p) (gK t p) (gO t p) (gW t p) (gX t p) (gC t p) (gL t p) (gN t p) (gP t p)
   ·rw[hb] at hK2
    simp only[Bool.false_and,Bool.false_eq_true,if_false] at hK2
    have hi:Oj t s (f == 1) (gD t p) (gK t p) (gO t p) (gW t p) (gX t p) (gC t p) (gL t p) (gN t p) (gP t p)=2:=by unfold Oj;rw[hb];rfl
    refine aH Tryz.func291 ?_
    repeat' (first|refine v82 ?_|refine w5 ?_ ?_|((refine bh fun h=>?_) <;> try exact w6 h)|(refine aE fun hA=>?_;subst hA)|intro _|(show aA _ 290 _ _ _;refine CA (h:=xG hf ?_))|(show aA _ 382 _ _ _;refine CA (h:=Si hL (fun A c=>?_)))|(show aA _ 137 _ _ _;refine CA (h:=Cv (ps:=gP t p) (by exact lF) rfl hp1000 ?_)))
    all_goals(refine aC ?_;exact aB (hK2 (by decide)))
   ·rw[hb] at hK1 hK2
    have hR:=(HL _ _ _ _ _ _ _ _ _ _ _ _).1 hb
    have hi:Oj t s (f == 1) (gD t p) (gK t p) (gO t p) (gW t p) (gX t p) (gC t p) (gL t p) (gN t p) (gP t p)=0:=by unfold Oj;rw[hb];rfl
    refine aH Tryz.func291 ?_
    repeat' (first|refine v82 ?_|refine w5 ?_ ?_|((refine bh fun h=>?_) <;> try exact w6 h)|(refine aE fun hA=>?_;subst hA)|intro _|(show aA _ 290 _ _ _;refine CA (h:=xG hf ?_))|(show aA _ 382 _ _ _;refine CA (h:=Si hL (fun A c=>?_)))|(show aA _ 137 _ _ _;refine CA (h:=Cv (ps:=gP t p) (by exact lF) rfl hp1000 ?_))|(show aA _ 286 _ _ _;refine CA (h:=WK (ps:=gP t p) hR (by exact lF) rfl ?_)))
    ·have hd:decide (gY t p=p)=false:=decide_eq_false fun e=>h (congrArg ByteArray.toList e)
     rw[hd] at hK2
     (refine aC ?_;exact aB (hK2 (by decide)))
    ·have hd:decide (gY t p=p)=true:=decide_eq_true (Ua.1 h)
     rw[hd] at hK1
     (refine aC ?_;exact aB (hK1 rfl _ _))
  ·unfold gE at hK2
   rw[if_pos h1,if_neg h2] at hK2
   refine aH Tryz.func291 ?_
   repeat' (first|refine v82 ?_|refine w5 ?_ ?_|((refine bh fun h=>?_) <;> try exact w6 h)|(refine aE fun hA=>?_;subst hA)|intro _|(show aA _ 290 _ _ _;refine CA (h:=xG hf ?_)))
   all_goals(refine aC ?_;exact aB (hK2 (by decide)))
 ·unfold gE at hK2
  rw[if_neg h1] at hK2
  refine aH Tryz.func291 ?_
  repeat' (first|refine v82 ?_|refine w5 ?_ ?_|((refine bh fun h=>?_) <;> try exact w6 h)|(refine aE fun hA=>?_;subst hA)|intro _|(show aA _ 290 _ _ _;refine CA (h:=xG hf ?_)))
  all_goals(refine aC ?_;exact aB (hK2 h1))
end Go.Proofs.YtepnmcipkangkaaGreat
end
section
namespace Go.Proofs.YtepnmcipkangkaaGreat
open Go Go.Proofs Go.Sl
attribute [local irreducible] aN fJ cY bN aM aS aA dM dN aV dL pt ro fB star sep bF
attribute [local irreducible] ByteArray.extract rK eU
variable {R C:List HP} {K:KP} {t st k on w c la n:Int} {e x:Bool} {d:ByteArray} {ps:List Pr} {pa:Option Addr} {pn pc:Nat}
def frB (t st:Int) (e:Bool) (d:ByteArray) (k on w:Int) (x:Bool) (c la n:Int) (ps:List Pr):ByteArray:=jK ((ByteArray.mk (nD t d k on w x c la n ps).toArray).size:Nat) t (tH e) st++⟨(nD t d k on w x c la n ps).toArray⟩
theorem vH (h:sJ t st e d k on w x c la n ps):W2 ((ByteArray.mk (nD t d k on w x c la n ps).toArray).size:Nat) t (tH e) st=true:=by
 have hl:=(Fp h).2
 have hb:=Fe e
 obtain⟨h1,h2,_⟩:=h
 unfold W2
 simp only[Bool.and_eq_true,decide_eq_true_eq,xC]
 omega
theorem yW {l f s:Int} (h:W2 l t f s=true):(jK l t f s).size=9:=by
 have e:=FT h
 have:(jK l t f s).data.toList.length=(jK l t f s).size:=by simp
 rw[<- this,e]
 simp only[List.length_append,kR]
 decide
theorem i5 (h:wN t st e d k on w x c la n ps=true) (hv:d4 C pa tI ps) (hn:ps.length=pn) (hn2:pn<1000000000000000) (hK:K (I6 0) C):CT 137 #[.agg #[I6 t,I6 st,.bool e,.string d,I6 k,I6 on,I6 w,.bool x,I6 c,I6 la,I6 n,.slice pa pn pc]] C K:=by
 refine Cv hv hn hn2 ?_
 unfold Oj;rw[h];exact hK
theorem B3 (h:wN t st e d k on w x c la n ps=false) (hv:d4 C pa tI ps) (hn:ps.length=pn) (hn2:pn<1000000000000000) (hK:K (I6 2) C):CT 137 #[.agg #[I6 t,I6 st,.bool e,.string d,I6 k,I6 on,I6 w,.bool x,I6 c,I6 la,I6 n,.slice pa pn pc]] C K:=by
 refine Cv hv hn hn2 ?_
 unfold Oj;rw[h];exact hK
def FA:List (Nat×Nat):= [(4,0),(5,0),(6,1),(0,1),(1,1),(2,1),(3,1),(7,1),(8,1),(9,0),(10,1),(11,0),(12,0),(13,0),(14,0),(15,0)]
theorem Q8 (h:sJ t st e d k on w x c la n ps) (hv:d4 C pa tI ps) (hn:ps.length=pn) (hK:K (.tuple #[.string (frB t st e d k on w x c la n ps),I6 0]) C):CT 198 #[.agg #[I6 t,I6 st,.bool e,.string d,I6 k,I6 on,I6 w,.bool x,I6 c,I6 la,I6 n,.slice pa pn pc]] C K:=by
 have hl:=h.2.2.2.2.2.2.2.2.2.2.2.2.2.2.2.2.2.2.2.2
 have hc:=(HL _ _ _ _ _ _ _ _ _ _ _ _).2 h
 have hn2:pn<1000000000000000:=by omega
 have ho:=vH h
 have hs:=yW ho
 have hp:=(Fp h).2
 have hps:(ByteArray.mk (nD t d k on w x c la n ps).toArray).size<=256:=by rw[xC];exact hp
 unfold frB at hK
 refine aH Tryz.func198 ?_
 repeat' (first|refine v60 ?_|refine dw FA ?_|refine w5 ?_ ?_|((refine bh fun h=>?_) <;> try exact w6 h)|(refine aE fun hA=>?_;subst hA)|intro _|(show aA _ 137 _ _ _;refine CA (h:=i5 (ps:=ps) hc (bM hv) hn hn2 ?_))|(show aA _ 286 _ _ _;refine CA (h:=WK (ps:=ps) h (bM hv) hn ?_))|(show aA _ 288 _ _ _;refine CA (h:=W4 ?_))|(show aA _ 287 _ _ _;refine CA (h:=Ag1 ho ?_)))
 all_goals(refine aC ?_;exact aB (hK))
end Go.Proofs.YtepnmcipkangkaaGreat
namespace Go.Proofs.YtepnmcipkangkaaGreat
open Go Go.Proofs Go.Sl
attribute [local irreducible] aN fJ cY bN aM aS aA dM dN aV dL pt ro fB star sep bF
attribute [local irreducible] ByteArray.extract rK eU
variable {R C:List HP} {K:KP} {l t f s:Int} {p:ByteArray}
theorem Acd (hf:-9223372036854775808<=f/\f<=9223372036854775807) (h:gE l t f s p=0) (hK:∀A c,K (.tuple #[.agg #[I6 t,I6 s,.bool (f == 1),.string (gD t p),I6 (gK t p),I6 (gO t p),I6 (gW t p),.bool (gX t p),I6 (gC t p),I6 (gL t p),I6 (gN t p),.slice A (gP t p).length c],I6 0]) (bV A c 349 tI (gP t p)::R)):CT 291 #[.agg #[I6 l,I6 t,I6 f,I6 s],.string p] R K:=VN hf (fun _=>hK) (fun h'=>absurd h h')
theorem Agv (hf:-9223372036854775808<=f/\f<=9223372036854775807) (h:gE l t f s p≠0) (hK:K (.tuple #[.agg #[I6 0,I6 0,.bool false,.string ⟨#[]⟩,I6 0,I6 0,I6 0,.bool false,I6 0,I6 0,I6 0,.slice none 0 0],I6 (gE l t f s p)]) R):CT 291 #[.agg #[I6 l,I6 t,I6 f,I6 s],.string p] R K:=VN hf (fun h'=>absurd h' h) (fun _=>hK)
end Go.Proofs.YtepnmcipkangkaaGreat
namespace Go.Proofs.YtepnmcipkangkaaGreat
open Go Go.Proofs Go.Sl
attribute [local irreducible] aN fJ cY bN aM aS aA dM dN aV dL pt ro fB star sep bF
attribute [local irreducible] ByteArray.extract rK eU
variable {R C:List HP} {K:KP} {y:Fm}
def fmD:List Value->Option Fm
 | [.int .i64 t,.int .i64 st,.bool e,.string d,.int .i64 k,.int .i64 on,.int .i64 w,.bool x,.int .i64 c,.int .i64 la,.int .i64 n,.slice pa pn pc]=>some ⟨t,st,e,d,k,on,w,x,c,la,n,pa,pn,pc,[]⟩
 |_=>none
theorem An4 (cs:List Value) (y:Fm) (h:fmD cs=some y): [I6 y.t,I6 y.st,.bool y.e,.string y.d,I6 y.k,I6 y.on,I6 y.w,.bool y.x,I6 y.c,I6 y.la,I6 y.n,.slice y.pa y.pn y.pc]=cs:=by
 unfold fmD at h
 split at h
 ·cases h;rfl
 ·cases h
def u7:u5 Fm:= { enc:=fun y=> [I6 y.t,I6 y.st,.bool y.e,.string y.d,I6 y.k,I6 y.on,I6 y.w,.bool y.x,I6 y.c,I6 y.la,I6 y.n,.slice y.pa y.pn y.pc],sz:=12,dec:=fmD,len:=fun _=>rfl,one:=fun _=>rfl,ok:=An4 }
def FmV (C:List HP) (y:Fm):Prop:=d4 C y.pa tI y.ps/\y.ps.length=y.pn
def lM (y:Fm):Bool:=wN y.t y.st y.e y.d y.k y.on y.w y.x y.c y.la y.n y.ps
def xP (y:Fm):ByteArray:=frB y.t y.st y.e y.d y.k y.on y.w y.x y.c y.la y.n y.ps
def bR (y:Fm):Prop:=sJ y.t y.st y.e y.d y.k y.on y.w y.x y.c y.la y.n y.ps
theorem iX (y:Fm):lM y=true↔bR y:=HL _ _ _ _ _ _ _ _ _ _ _ _
theorem Al4 (h:bR y):(xP y).size<=265:=by
 have h1:=yW (vH h)
 have h2:=(Fp h).2
 have:(xP y).size=9+(nD y.t y.d y.k y.on y.w y.x y.c y.la y.n y.ps).length:=by
  unfold xP frB
  rw[ByteArray.size_append,h1,xC]
 omega
def kC (l:List Fm):List UInt8:=l.flatMap fun y=>(xP y).data.toList
theorem HI:∀ {l:List Fm},(∀y∈l,bR y)->(kC l).length<=265 * l.length
 | [],_=>by simp[kC]
 |y::l,h=>by
  have h1:=Al4 (h y (by simp))
  have h2:=HI (l:=l) fun z hz=>h z (List.mem_cons_of_mem _ hz)
  have e:(xP y).data.toList.length=(xP y).size:=by simp
  have e2:(kC (y::l)).length=(xP y).size+(kC l).length:=by rw[<- e];simp[kC]
  rw[e2,List.length_cons];omega
theorem Yq {l:List Fm} {j:Nat} (h:l[j]?=some y):kC (l.take (j+1))=kC (l.take j)++(xP y).data.toList:=by
 unfold kC
 rw[List.take_add_one,h]
 simp
theorem Pb {A:Option Addr} {n c:Nat} {xs:List Fm} (hr:∀y∈xs,bR y) (hv:d4 C A u7 xs) (hps:∀y∈xs,FmV C y) (hn:xs.length=n) (hn2:n<=1000000) (hK:K (.tuple #[.string ⟨(kC xs).toArray⟩,I6 0]) C):CT 112 #[.slice A n c] C K:=by
 subst hn
 refine aH Tryz.func112 ?_
 repeat' (first|refine v74 ?_|refine w5 ?_ ?_|((refine bh fun h=>?_) <;> try exact w6 h)|(refine aE fun hA=>?_;subst hA)|intro _)
 refine jG (fun m a C'=>∃(j:Nat) (B:Option Addr) (kk:Nat),j+m=xs.length/\C'=bV B kk 5 dT (kC (xs.take j))::C/\dP a [(4,.slice B (kC (xs.take j)).length kk),(9,.slice A xs.length c),(10,I6 xs.length),(11,I6 j)]) xs.length (cN xs.length ⟨0,none,0,by omega,rfl,rfl,rfl,rfl,rfl,trivial⟩) ?_
 rintro n1 a C' ⟨j,B,kk,hj,rfl,ha⟩
 refine iT _ ha ?_
 simp only[gH]
 have hle:=HI (l:=xs.take j) fun y hy=>hr y (List.mem_of_mem_take hy)
 rw[List.length_take] at hle
 by_cases hlt:j<xs.length
 ·obtain⟨y,hy,hd⟩:=lH (l:=xs) (j:=j) (by omega)
  have hm:=List.mem_of_getElem? hy
  have hp:=hps y hm
  have hR:bR y:=hr y hm
  have ht:=Yq hy
  have hsz:=Al4 hR
  have hdl:(xP y).data.toList.length=(xP y).size:=by simp
  unfold xP at ht hsz hdl
  repeat' (first|refine v74 ?_|refine w5 ?_ ?_|((refine bh fun h=>?_) <;> try exact w6 h)|(refine aE fun hA=>?_;subst hA)|intro _|(show aA _ 198 _ _ _;refine CA (h:=Q8 (ps:=y.ps) hR (bM (bM hp.1)) hp.2 ?_)))
  all_goals exact cN (n1 - 1) ⟨j+1,_,_,by omega,by rw[ht],by rw[ht];rfl,rfl,rfl,rfl,trivial⟩
 ·obtain rfl:j=xs.length:=by omega
  rw[List.take_of_length_le (Nat.le_refl _)]
  repeat' (first|refine v74 ?_|refine w5 ?_ ?_|((refine bh fun h=>?_) <;> try exact w6 h)|(refine aE fun hA=>?_;subst hA)|intro _)
  all_goals(refine aC ?_;exact aB (hK))
end Go.Proofs.YtepnmcipkangkaaGreat
namespace Go.Proofs.YtepnmcipkangkaaGreat
open Go Go.Proofs Go.Sl
attribute [local irreducible] aN fJ cY bN aM aS aA dM dN aV dL pt ro fB star sep bF
variable {W:World}
def zP (y:Fm):HP:=oI y.pa tI y.ps
theorem BO (y:Fm):FR (zP y):=pR _ _ _
theorem BW (y:Fm):Bh (zP y):=ZK _ _ _
theorem yD {C:List HP} {l:List Fm} {y:Fm} (hy:y∈l):d4 (lS zP l::C) y.pa tI y.ps:=Afa (aG.allget (P:=zP) BO BW hy) kN
end Go.Proofs.YtepnmcipkangkaaGreat
end
namespace Go.Proofs.YtepnmcipkangkaaGreat
open Go Go.Proofs Go.Sl
attribute [local irreducible] aN fJ cY bN aM aS aA dM dN aV dL pt ro fB star sep bF
section
variable {R C:List HP} {K:KP}
structure Pp where
 li:Int
 nw:Int
 si:Int
 st:Bool
 fi:Bool
def slP (p:Nat) (s:Pp):HP:=pt p [I6 s.li,I6 s.nw,I6 s.si,.bool s.st,.bool s.fi] 284
def f5 (s:Pp) (n:Int):Pp:=if s.fi=true then s else⟨s.li,max s.nw n,if s.st=true then max s.nw n else s.si,s.st,s.fi⟩
def nL (s:Pp) (n:Int) (b:Bool):Pp:=if s.li=0 then s else if s.fi=true then⟨s.li,max s.nw n,s.si,s.st,s.fi⟩ else if b=false then⟨s.li,max s.nw n,0,false,s.fi⟩ else if s.st=false then⟨s.li,max s.nw n,max s.nw n,true,decide (s.li<=max s.nw n - max s.nw n)⟩ else⟨s.li,max s.nw n,s.si,s.st,decide (s.li<=max s.nw n - s.si)⟩
def Ah (s:Pp) (n:Int) (b:Bool):Bool:=if s.li=0 then false else if s.fi=true then true else if b=false then false else(nL s n b).fi
section
variable {p r q:Nat} {s:Pp} {li nw si n:Int} {st fi b:Bool}
theorem Mw (hK:K (I6 (max nw n)) (pt p [I6 li,I6 (max nw n),I6 si,.bool st,.bool fi] 284::R)):CT 269 #[PO p,I6 n] (pt p [I6 li,I6 nw,I6 si,.bool st,.bool fi] 284::R) K:=by
 refine aH Tryz.func269 ?_
 repeat' (first|refine v14 ?_|refine w5 ?_ ?_|((refine bh fun h=>?_) <;> try exact w6 h)|(refine aE fun hA=>?_;subst hA)|intro _)
 all_goals(refine aC ?_;exact aB (hK))
theorem Bv (hK:K (.tuple #[]) (slP p (f5 s n)::R)):CT 304 #[PO p,I6 n] (slP p s::R) K:=by
 obtain⟨li,nw,si,st,fi⟩:=s
 cases fi <;> cases st <;> simp only[slP,f5,if_true,if_false,Bool.false_eq_true,reduceCtorEq] at hK ⊢
 all_goals
  refine aH Tryz.func304 ?_
  repeat' (first|refine Bw ?_|refine w5 ?_ ?_|((refine bh fun h=>?_) <;> try exact w6 h)|(refine aE fun hA=>?_;subst hA)|intro _|(show aA _ 269 _ _ _;refine CA (h:=Mw ?_)))
  all_goals(refine aC ?_;exact aB (hK))
def Ec:List (Nat×Nat):= [(0,0),(1,0),(2,0),(3,0),(4,0),(5,0),(6,0),(7,0),(8,0),(9,0),(10,0),(11,0)]
theorem Yt (hb:-1000000000000000<=si/\si<=1000000000000000) (hn:-1000000000000000<=n/\n<=1000000000000000) (hK:K (.bool (decide (li<=n - si))) (pt q [I6 n] 3::pt r [PO p] 115::pt p [I6 li,I6 nw,I6 si,.bool st,.bool fi] 284::R)):CT 270 #[PO q,PO r] (pt q [I6 n] 3::pt r [PO p] 115::pt p [I6 li,I6 nw,I6 si,.bool st,.bool fi] 284::R) K:=by
 refine aH Tryz.func270 ?_
 repeat' (first|refine v22 ?_|refine dw Ec ?_|refine w5 ?_ ?_|((refine bh fun h=>?_) <;> try exact w6 h)|(refine aE fun hA=>?_;subst hA)|intro _)
 all_goals(refine aC ?_;exact aB (kb hK (by simp)))
def vC:List (Nat×Nat):= [(0,0),(2,0),(3,0),(4,1),(1,1),(5,0),(6,0),(7,1)]
def uB:List (Nat×Nat):= [(0,0),(3,0),(4,0),(5,1),(1,1),(2,1),(6,0),(7,0),(8,1)]
def uG:List (Nat×Nat):= [(1,0),(2,1),(0,1),(3,0),(4,0),(5,1)]
theorem FV (h1:0<=s.nw/\s.nw<=100000000000000) (h2:0<=s.si/\s.si<=100000000000000) (h3:0<=n/\n<=100000000000000) (hK:K (.bool (Ah s n b)) (slP p (nL s n b)::R)):CT 183 #[PO p,I6 n,.bool b] (slP p s::R) K:=by
 obtain⟨li,nw,si,st,fi⟩:=s
 simp only at h1 h2
 by_cases hl:li=0
 ·subst hl
  simp only[slP,nL,Ah,if_true] at hK ⊢
  refine aH Tryz.func183 ?_
  repeat' (first|refine SE ?_|refine dw vC ?_|refine dw uB ?_|refine dw uG ?_|refine w5 ?_ ?_|((refine bh fun h=>?_) <;> try exact w6 h)|(refine aE fun hA=>?_;subst hA)|intro _)
  all_goals(refine aC ?_;exact aB (hK))
 ·cases fi <;> cases b <;> cases st <;> simp only[slP,nL,Ah,hl,if_true,if_false,Bool.false_eq_true,reduceCtorEq] at hK ⊢
  all_goals
   refine aH Tryz.func183 ?_
   repeat' (first|refine SE ?_|refine dw vC ?_|refine dw uB ?_|refine dw uG ?_|refine w5 ?_ ?_|((refine bh fun h=>?_) <;> try exact w6 h)|(refine aE fun hA=>?_;subst hA)|intro _|(show aA _ 269 _ _ _;refine CA (h:=Mw ?_))|(show aA _ 270 _ _ _;refine CA (h:=Yt (by omega) (by omega) ?_)))
   all_goals(refine aC ?_;exact aB (hK))
end
end
end Go.Proofs.YtepnmcipkangkaaGreat
