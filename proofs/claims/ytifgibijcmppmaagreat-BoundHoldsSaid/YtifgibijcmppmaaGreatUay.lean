/- A part of the proof: lemmas; each with the conditions that it states. -/
import Derived.Test.YtifgibijcmppmaaGreatUag
import Derived.Test.YtifgibijcmppmaaGreatUat
import Derived.Test.YtifgibijcmppmaaGreatUar
set_option linter.unusedVariables false
set_option linter.unusedSimpArgs false
set_option maxRecDepth 100000
set_option maxHeartbeats 40000000
namespace Go.Proofs.YtifgibijcmppmaaGreat
open Go Go.Proofs Go.Sl
attribute [local irreducible] aN fN cX bP aM aX aA dS dV aT dU pt ro eV star sep bH
section
variable {R C:List HP} {K:KP}
structure Pr where
 i:Int
 v:Int
def prD:List Value→Option Pr
 | [.int .i64 i,.int .i64 v]=>some ⟨i,v⟩
 |_=>none
theorem Ajs (cs:List Value) (y:Pr) (h:prD cs=some y): [I6 y.i,I6 y.v]=cs:=by
 unfold prD at h
 split at h
 ·cases h;rfl
 ·cases h
def rE:tJ Pr:= { enc:=fun p=> [I6 p.i,I6 p.v],sz:=2,dec:=prD,len:=fun _=>rfl,one:=fun _=>rfl,ok:=Ajs }
structure Fm where
 t:Int
 st:Int
 e:Bool
 d:ByteArray
 k:Int
 on:Int
 w:Int
 x:Bool
 c:Int
 la:Int
 n:Int
 pa:Option Addr
 pn:Nat
 pc:Nat
 ps:List Pr
theorem AP {n l h:Int} (hK:K (.bool (decide (l≤n) && decide (n≤h))) R):CT 298 #[I6 n,I6 l,I6 h] R K:=by
 refine aH Tryz.func298 ?_
 repeat' (first|refine v1 ?_|refine w5 ?_ ?_|((refine bh fun h=>?_) <;> try exact w6 h)|(refine aE fun hA=>?_;subst hA)|intro _)
 all_goals(refine aC ?_;exact aB (kb hK (by simp <;> omega)))
def HR (n:Int):Bool:=decide (0≤n) && decide (n≤2147483647)
theorem nK {n:Int} (hK:K (.bool (HR n)) R):CT 210 #[I6 n] R K:=by
 refine aH Tryz.func210 ?_
 repeat' (first|refine v0 ?_|refine w5 ?_ ?_|((refine bh fun h=>?_) <;> try exact w6 h)|(refine aE fun hA=>?_;subst hA)|intro _|(show aA _ 298 _ _ _;refine CA (h:=AP ?_)))
 (refine aC ?_;exact aB (hK))
def Te (on w:Int):Bool:=HR on && (decide (1≤w) && decide (w≤256))
theorem vW (n:Int):HR n=true↔(0≤n∧n≤2147483647):=by unfold HR;simp
theorem Uy {on w:Int} {x:Bool} (hK:K (.bool (Te on w)) R):CT 301 #[.agg #[I6 on,I6 w,.bool x]] R K:=by
 refine aH Tryz.func301 ?_
 repeat' (first|refine v19 ?_|refine w5 ?_ ?_|((refine bh fun h=>?_) <;> try exact w6 h)|(refine aE fun hA=>?_;subst hA)|intro _|(show aA _ 298 _ _ _;refine CA (h:=AP ?_))|(show aA _ 210 _ _ _;refine CA (h:=nK ?_)))
 all_goals(refine aC ?_;exact aB (kb hK (by unfold Te;simp[*])))
def IW (on w:Int) (x:Bool):Bool:=decide (on=0) && decide (w=0) && !x
def NO:List Pr→List Pr→Bool
 | [],[]=>true
 |a::l,b::m=>(a.i == b.i && a.v == b.v) && NO l m
 |_,_=>false
theorem QF:∀l:List Pr,NO l l=true
 | []=>rfl
 |a::l=>by simp[NO,QF l]
theorem Vr:∀ {l m:List Pr},NO l m=true→l.length=m.length
 | [],[],_=>rfl
 |a::l,b::m,h=>by
  simp only[NO,Bool.and_eq_true] at h
  simp[Vr h.2]
 | [],_::_,h=>by cases h
 |_::_,[],h=>by cases h
theorem Afd (l:List Pr):NO l []=decide (l.length=0):=by cases l <;> simp[NO]
def jA:List (Nat×Nat):= [(0,0),(1,0),(2,0),(3,0),(4,0),(5,0),(6,0),(7,0),(8,0)]
theorem Za {A B:Option Addr} {n n' c c':Nat} {xs ys:List Pr} (hv:dT C A rE xs) (hw:dT C B rE ys) (hn:xs.length=n) (hn':ys.length=n') (hn2:n<1000000000000000) (hK:K (.bool (NO xs ys)) C):CT 300 #[.slice A n c,.slice B n' c'] C K:=by
 by_cases hnn:n=n'
 ·subst hnn
  refine aH Tryz.func300 ?_
  repeat' (first|refine v29 ?_|refine dw jA ?_|refine w5 ?_ ?_|((refine bh fun h=>?_) <;> try exact w6 h)|(refine aE fun hA=>?_;subst hA)|intro _)
  refine fZ (fun m a C'=>∃j:Nat,j+m=n∧C'=C∧NO xs ys=NO (xs.drop j) (ys.drop j)∧cJ a [(0,.slice A n c),(1,.slice B n c'),(12,I6 n),(13,I6 j)]) n (bV n ⟨0,by omega,rfl,rfl,rfl,rfl,rfl,rfl,trivial⟩) ?_
  rintro n1 a C' ⟨j,hj,rfl,hp,ha⟩
  refine fP _ ha ?_
  simp only[eP]
  by_cases hlt:j<n
  ·obtain⟨x,hx,hd⟩:=i7 (l:=xs) (j:=j) (by omega)
   obtain⟨y,hy,hd'⟩:=i7 (l:=ys) (j:=j) (by omega)
   rw[hd,hd',NO] at hp
   by_cases hxy:x.i=y.i∧x.v=y.v
   ·have e1:(x.i == y.i)=true:=by simpa using hxy.1
    have e2:(x.v == y.v)=true:=by simpa using hxy.2
    rw[e1,e2,Bool.and_self,Bool.true_and] at hp
    repeat' (first|refine v29 ?_|refine dw jA ?_|refine w5 ?_ ?_|((refine bh fun h=>?_) <;> try exact w6 h)|(refine aE fun hA=>?_;subst hA)|intro _)
    exact bV (n1 - 1) ⟨j+1,by omega,rfl,hp,rfl,rfl,rfl,rfl,trivial⟩
   ·have e1:(x.i == y.i && x.v == y.v)=false:=by
     rw[Bool.and_eq_false_iff];simp;omega
    rw[e1,Bool.false_and] at hp
    rw[hp] at hK
    repeat' (first|refine v29 ?_|refine dw jA ?_|refine w5 ?_ ?_|((refine bh fun h=>?_) <;> try exact w6 h)|(refine aE fun hA=>?_;subst hA)|intro _)
    (refine aC ?_;exact aB (hK))
  ·obtain rfl:j=n:=by omega
   rw[List.drop_eq_nil_of_le (by omega),List.drop_eq_nil_of_le (by omega),NO] at hp
   rw[hp] at hK
   repeat' (first|refine v29 ?_|refine dw jA ?_|refine w5 ?_ ?_|((refine bh fun h=>?_) <;> try exact w6 h)|(refine aE fun hA=>?_;subst hA)|intro _)
   (refine aC ?_;exact aB (hK))
 ·have e:NO xs ys=false:=by
   cases h:NO xs ys
   ·rfl
   ·have:=Vr h;omega
  rw[e] at hK
  refine aH Tryz.func300 ?_
  repeat' (first|refine v29 ?_|refine dw jA ?_|refine w5 ?_ ?_|((refine bh fun h=>?_) <;> try exact w6 h)|(refine aE fun hA=>?_;subst hA)|intro _)
  all_goals(refine aC ?_;exact aB (hK))
end
section
variable {R C:List HP} {K:KP}
def oE (t:Int) (e:Bool):Bool:=if t=0∨t=1 then e else false
def oD (t:Int) (d:ByteArray):ByteArray:=if t=0∨t=1∨t=7∨t=8 then d else⟨#[]⟩
def oK (t k:Int):Int:=if t=2 then k else 0
def oO (t on:Int):Int:=if t=2∨t=3 then on else 0
def oX (t:Int) (x:Bool):Bool:=if t=2∨t=3 then x else false
def oC (t c:Int):Int:=if t=4∨t=9 then c else 0
def oL (t l:Int):Int:=if t=9 then l else 0
def oN (t n:Int):Int:=if t=10∨t=11 then n else 0
def oPa (t:Int) (p:Option Addr):Option Addr:=if t=5 then p else none
def oPn (t:Int) (n:Nat):Nat:=if t=5 then n else 0
def oPs (t:Int) (l:List Pr):List Pr:=if t=5 then l else []
def wZ:List (Nat×Nat):= [(0,0),(1,0),(4,0),(5,1),(2,1),(3,1),(6,0),(7,1)]
def wK:List (Nat×Nat):= [(0,0),(1,0),(4,0),(5,1),(2,1),(3,1),(6,0),(7,1)]
def u7:List (Nat×Nat):= [(0,0),(1,0),(4,0),(5,1),(2,1),(3,1),(6,0),(7,1)]
theorem L3 {t st:Int} {e:Bool} {d:ByteArray} {k on w:Int} {x:Bool} {c la n:Int} {pa:Option Addr} {pn pc:Nat} (hK:K (.agg #[I6 t,I6 st,.bool (oE t e),.string (oD t d),I6 (oK t k),I6 (oO t on),I6 (oO t w),.bool (oX t x),I6 (oC t c),I6 (oL t la),I6 (oN t n),.slice (oPa t pa) (oPn t pn) (oPn t pc)]) R):CT 212 #[.agg #[I6 t,I6 st,.bool e,.string d,I6 k,I6 on,I6 w,.bool x,I6 c,I6 la,I6 n,.slice pa pn pc]] R K:=by
 rcases(by omega:(t<0∨11<t∨t=6)∨t=0∨t=1∨t=2∨t=3∨t=4∨t=5∨t=7∨t=8∨t=9∨t=10∨t=11) with h|h|h|h|h|h|h|h|h|h|h|h
 ·have q0:¬t=0:=by omega
  have q1:¬t=1:=by omega
  have q2:¬t=2:=by omega
  have q3:¬t=3:=by omega
  have q4:¬t=4:=by omega
  have q5:¬t=5:=by omega
  have q7:¬t=7:=by omega
  have q8:¬t=8:=by omega
  have q9:¬t=9:=by omega
  have q10:¬t=10:=by omega
  have q11:¬t=11:=by omega
  simp only[oE,oD,oK,oO,oX,oC,oL,oN,oPa,oPn,q0,q1,q2,q3,q4,q5,q7,q8,q9,q10,q11,or_self,if_false] at hK
  refine aH Tryz.func212 ?_
  repeat' (first|refine JK ?_|refine dw wZ ?_|refine dw wK ?_|refine dw u7 ?_|refine w5 ?_ ?_|((refine bh fun h=>?_) <;> try exact w6 h)|(refine aE fun hA=>?_;subst hA)|intro _)
  all_goals(refine aC ?_;exact aB (hK))
 all_goals
  subst h
  simp[oE,oD,oK,oO,oX,oC,oL,oN,oPa,oPn] at hK
  refine aH Tryz.func212 ?_
  repeat' (first|refine JK ?_|refine dw wZ ?_|refine dw wK ?_|refine dw u7 ?_|refine w5 ?_ ?_|((refine bh fun h=>?_) <;> try exact w6 h)|(refine aE fun hA=>?_;subst hA)|intro _)
  all_goals(refine aC ?_;exact aB (hK))
def Rq (l:List Pr):Bool:=l.all fun p=>decide (0≤p.i) && decide (p.i≤65535) && HR p.v
def x9 (t:Int) (d:ByteArray) (k on w c la n:Int) (ps:List Pr):Bool:=if t=0∨t=1 then decide (d.size≤256) else if t=2 then(decide (k=1) || decide (k=2)) && Te on w else if t=3 then Te on w else if t=7∨t=8 then decide (d.size=8) else if t=5 then Rq ps && decide (ps.length≤8) else HR c && HR la && HR n
theorem KY {t st:Int} {e:Bool} {d:ByteArray} {k on w:Int} {x:Bool} {c la n:Int} {pa:Option Addr} {pn pc:Nat} {ps:List Pr} (hv:dT C pa rE ps) (hn:ps.length=pn) (hn2:pn<1000000000000000) (hK:K (.bool (x9 t d k on w c la n ps)) C):CT 213 #[.agg #[I6 t,I6 st,.bool e,.string d,I6 k,I6 on,I6 w,.bool x,I6 c,I6 la,I6 n,.slice pa pn pc]] C K:=by
 subst hn
 by_cases h5:t=5
 ·subst h5
  simp[x9] at hK
  refine aH Tryz.func213 ?_
  repeat' (first|refine Jq ?_|refine w5 ?_ ?_|((refine bh fun h=>?_) <;> try exact w6 h)|(refine aE fun hA=>?_;subst hA)|intro _)
  rename_i r
  have hv2:dT (pt r [I6 5,I6 st,.bool e,.string d,I6 k,I6 on,I6 w,.bool x,I6 c,I6 la,I6 n,.slice pa ps.length pc] 45::C) pa rE ps:=bM hv
  refine fZ (fun m a C'=>∃j:Nat,j+m=ps.length∧C'=pt r [I6 5,I6 st,.bool e,.string d,I6 k,I6 on,I6 w,.bool x,I6 c,I6 la,I6 n,.slice pa ps.length pc] 45::C∧Rq ps=Rq (ps.drop j)∧cJ a [(1,PO r),(44,.slice pa ps.length pc),(45,I6 ps.length),(46,I6 j)]) ps.length (bV ps.length ⟨0,by omega,rfl,rfl,rfl,rfl,rfl,rfl,trivial⟩) ?_
  rintro n1 a C' ⟨j,hj,rfl,hp,ha⟩
  refine fP _ ha ?_
  simp only[eP]
  by_cases hlt:j<ps.length
  ·obtain⟨y,hy,hd⟩:=i7 (l:=ps) (j:=j) (by omega)
   rw[hd] at hp
   simp only[Rq,List.all_cons] at hp
   by_cases hok:(decide (0≤y.i) && decide (y.i≤65535) && HR y.v)=true
   ·rw[hok,Bool.true_and] at hp
    simp only[Bool.and_eq_true,decide_eq_true_eq] at hok
    obtain⟨⟨o1,o2⟩,o3⟩:=hok
    repeat' (first|refine Jq ?_|refine w5 ?_ ?_|((refine bh fun h=>?_) <;> try exact w6 h)|(refine aE fun hA=>?_;subst hA)|intro _|(show aA _ 298 _ _ _;refine CA (h:=AP ?_))|(show aA _ 210 _ _ _;refine CA (h:=nK ?_)))
    exact bV (n1 - 1) ⟨j+1,by omega,rfl,hp,rfl,rfl,rfl,rfl,trivial⟩
   ·have hok':(decide (0≤y.i) && decide (y.i≤65535) && HR y.v)=false:=by simpa using hok
    rw[hok',Bool.false_and] at hp
    have hps:Rq ps=false:=hp
    rw[hps,Bool.false_and] at hK
    have h3:(y.i<0∨65535<y.i)∨HR y.v=false:=by
     simp only[Bool.and_eq_false_iff,decide_eq_false_iff_not] at hok'
     rcases hok' with(h|h)|h
     ·exact .inl (.inl (by omega))
     ·exact .inl (.inr (by omega))
     ·exact .inr h
    rcases h3 with h3|h3
    ·repeat' (first|refine Jq ?_|refine w5 ?_ ?_|((refine bh fun h=>?_) <;> try exact w6 h)|(refine aE fun hA=>?_;subst hA)|intro _|(show aA _ 298 _ _ _;refine CA (h:=AP ?_))|(show aA _ 210 _ _ _;refine CA (h:=nK ?_)))
     all_goals(refine aC ?_;exact aB (hK))
    ·repeat' (first|refine Jq ?_|refine w5 ?_ ?_|((refine bh fun h=>?_) <;> try exact w6 h)|(refine aE fun hA=>?_;subst hA)|intro _|(show aA _ 298 _ _ _;refine CA (h:=AP ?_))|(show aA _ 210 _ _ _;refine CA (h:=nK ?_)))
     all_goals(refine aC ?_;exact aB (hK))
  ·obtain rfl:j=ps.length:=by omega
   rw[List.drop_eq_nil_of_le (by omega)] at hp
   have hps:Rq ps=true:=hp
   rw[hps,Bool.true_and] at hK
   repeat' (first|refine Jq ?_|refine w5 ?_ ?_|((refine bh fun h=>?_) <;> try exact w6 h)|(refine aE fun hA=>?_;subst hA)|intro _)
   (refine aC ?_;exact aB (kb hK (by simp <;> omega)))
 ·rcases(by omega:(t<0∨11<t∨t=6∨t=4∨t=9∨t=10∨t=11)∨t=0∨t=1∨t=2∨t=3∨t=7∨t=8) with h|h|h|h|h|h|h
  ·have q0:¬t=0:=by omega
   have q1:¬t=1:=by omega
   have q2:¬t=2:=by omega
   have q3:¬t=3:=by omega
   have q7:¬t=7:=by omega
   have q8:¬t=8:=by omega
   simp only[x9,q0,q1,q2,q3,h5,q7,q8,or_self,if_false] at hK
   refine aH Tryz.func213 ?_
   repeat' (first|refine Jq ?_|refine w5 ?_ ?_|((refine bh fun h=>?_) <;> try exact w6 h)|(refine aE fun hA=>?_;subst hA)|intro _|(show aA _ 210 _ _ _;refine CA (h:=nK ?_))|(show aA _ 301 _ _ _;refine CA (h:=Uy ?_)))
   all_goals(refine aC ?_;exact aB (kb hK (by simp[*])))
  all_goals
   subst h
   simp[x9] at hK
   refine aH Tryz.func213 ?_
   repeat' (first|refine Jq ?_|refine w5 ?_ ?_|((refine bh fun h=>?_) <;> try exact w6 h)|(refine aE fun hA=>?_;subst hA)|intro _|(show aA _ 210 _ _ _;refine CA (h:=nK ?_))|(show aA _ 301 _ _ _;refine CA (h:=Uy ?_)))
   all_goals(refine aC ?_;exact aB (kb hK (by simp[*] <;> omega)))
end
section
variable {R C:List HP} {K:KP}
theorem S6 {s t:ByteArray}:s.toList=t.toList↔s=t:=by
 constructor
 ·intro h;rw[Gf,Gf] at h;exact FF h
 ·rintro rfl;rfl
theorem Acc {t st:Int} {e:Bool} {d:ByteArray} {k on w:Int} {x:Bool} {c la n:Int} {pa:Option Addr} {pn pc:Nat} (hK:K (.agg #[I6 t,I6 st,.bool e,.string d,I6 k,I6 on,I6 w,.bool x,I6 c,I6 la,I6 n]) R):CT 299 #[.agg #[I6 t,I6 st,.bool e,.string d,I6 k,I6 on,I6 w,.bool x,I6 c,I6 la,I6 n,.slice pa pn pc]] R K:=by
 refine aH Tryz.func299 ?_
 repeat' (first|refine v61 ?_|refine w5 ?_ ?_|((refine bh fun h=>?_) <;> try exact w6 h)|(refine aE fun hA=>?_;subst hA)|intro _)
 (refine aC ?_;exact aB (hK))
def FO (t st:Int) (e:Bool) (d:ByteArray) (k on w:Int) (x:Bool) (c la n t1 st1:Int) (e1:Bool) (d1:ByteArray) (k1 on1 w1:Int) (x1:Bool) (c1 la1 n1:Int):Prop:=t=t1∧st=st1∧e=e1∧d=d1∧k=k1∧on=on1∧w=w1∧x=x1∧c=c1∧la=la1∧n=n1
instance (t st:Int) (e:Bool) (d:ByteArray) (k on w:Int) (x:Bool) (c la n t1 st1:Int) (e1:Bool) (d1:ByteArray) (k1 on1 w1:Int) (x1:Bool) (c1 la1 n1:Int):Decidable (FO t st e d k on w x c la n t1 st1 e1 d1 k1 on1 w1 x1 c1 la1 n1):=by unfold FO;infer_instance
def Dm:List (Nat×Nat):= [(0,0),(1,1),(2,1),(3,1),(4,0),(5,0),(6,0),(7,0),(8,0),(9,0),(10,1),(11,0),(12,0)]
theorem Hz {t st:Int} {e:Bool} {d:ByteArray} {k on w:Int} {x:Bool} {c la n:Int} {pa:Option Addr} {pn pc:Nat} {t1 st1:Int} {e1:Bool} {d1:ByteArray} {k1 on1 w1:Int} {x1:Bool} {c1 la1 n1:Int} {Ry:Option Addr} {pn1 pc1:Nat} {ps ps1:List Pr} (hv:dT C pa rE ps) (hw:dT C Ry rE ps1) (hn:ps.length=pn) (hn':ps1.length=pn1) (hn2:pn<1000000000000000)
  (hK:K (.bool (decide (FO t st e d k on w x c la n t1 st1 e1 d1 k1 on1 w1 x1 c1 la1 n1) && NO ps ps1)) C):CT 211 #[.agg #[I6 t,I6 st,.bool e,.string d,I6 k,I6 on,I6 w,.bool x,I6 c,I6 la,I6 n,.slice pa pn pc],.agg #[I6 t1,I6 st1,.bool e1,.string d1,I6 k1,I6 on1,I6 w1,.bool x1,I6 c1,I6 la1,I6 n1,.slice Ry pn1 pc1]] C K:=by
 refine aH Tryz.func211 ?_
 repeat' (first|refine v44 ?_|refine dw Dm ?_|refine w5 ?_ ?_|((refine bh fun h=>?_) <;> try exact w6 h)|(refine aE fun hA=>?_;subst hA)|intro _|(show aA _ 299 _ _ _;refine CA (h:=Acc ?_))|(show aA _ 300 _ _ _;refine CA (h:=Za (xs:=ps) (ys:=ps1) (by exact kF) (by exact kF) hn hn' hn2 ?_)))
 ·rename_i h
  have hd:decide (FO t st e d k on w x c la n t1 st1 e1 d1 k1 on1 w1 x1 c1 la1 n1)=true:=decide_eq_true (by obtain⟨a1,a2,a3,a4,a5,⟨a6,a7,a8⟩,a9,a10,a11⟩:=h;exact⟨a1,a2,a3,S6.1 a4,a5,a6,a7,a8,a9,a10,a11⟩)
  rw[hd,Bool.true_and] at hK
  (refine aC ?_;exact aB (hK))
 ·rename_i h
  have hd:decide (FO t st e d k on w x c la n t1 st1 e1 d1 k1 on1 w1 x1 c1 la1 n1)=false:=decide_eq_false (by
   rintro⟨a1,a2,a3,a4,a5,a6,a7,a8,a9,a10,a11⟩
   rw[← S6] at a4
   rcases h with h|h|h|h|h|(h|h|h)|h|h|h <;> exact h (by assumption))
  rw[hd,Bool.false_and] at hK
  (refine aC ?_;exact aB (hK))
def yD (t st:Int):Bool:=HR st && ((decide (st=0) && (decide (5≤t) && decide (t≤10))) || (decide (0<st) && (decide (t≤4) || decide (10≤t))))
def u4 (t st:Int) (e:Bool) (d:ByteArray) (k on w:Int) (x:Bool) (c la n:Int) (ps:List Pr):Bool:=decide (0≤t) && decide (t≤11) && yD t st && (decide (FO t st e d k on w x c la n t st (oE t e) (oD t d) (oK t k) (oO t on) (oO t w) (oX t x) (oC t c) (oL t la) (oN t n)) && NO ps (oPs t ps)) && x9 t d k on w c la n ps
def NI (t st:Int) (e:Bool) (d:ByteArray) (k on w:Int) (x:Bool) (c la n:Int) (ps:List Pr):Int:=if u4 t st e d k on w x c la n ps=true then 0 else 2
theorem uM {k:Int} (h0:0≤k) (h1:k≤11) (hK:K (.tuple #[.bool (decide (5≤k) && decide (k≤10)),.bool (decide (k≤4) || decide (10≤k)),I6 0]) R):CT 209 #[I6 k] R K:=by
 obtain⟨e1,e2,e3,e4,e5⟩:=FY k h0 h1
 refine Pm ?_
 rw[e1,e2,e4];exact hK
theorem Oc {k:Int} (h0:k<0∨11<k) (hK:K (.tuple #[.bool false,.bool false,I6 3]) R):CT 209 #[I6 k] R K:=by
 have e1:mO k=(false,false,0,0):=by unfold mO;rw[if_pos (by omega)]
 have e2:Dl k=3:=by unfold Dl;rw[if_pos (by omega)]
 refine Pm ?_
 rw[e1,e2];exact hK
theorem Sw {C:List HP} {pa:Option Addr} {ps:List Pr} {t:Int} (hv:dT C pa rE ps):dT C (oPa t pa) rE (oPs t ps):=by
 unfold oPa oPs
 split
 ·exact hv
 ·exact eI
theorem Ab9 {ps:List Pr} {t:Int} {pn:Nat} (hn:ps.length=pn):(oPs t ps).length=oPn t pn:=by
 unfold oPn oPs
 split
 ·exact hn
 ·rfl
def gG:List (Nat×Nat):= [(0,0),(1,0),(2,0),(3,0),(4,0),(5,0),(6,0),(8,0),(9,1),(7,1),(10,1),(11,0),(12,0),(13,0),(14,0),(15,1),(16,0),(17,0)]
theorem BC {t st:Int} {e:Bool} {d:ByteArray} {k on w:Int} {x:Bool} {c la n:Int} {pa:Option Addr} {pn pc:Nat} {ps:List Pr} (hv:dT C pa rE ps) (hn:ps.length=pn) (hn2:pn<1000000000000000) (hK:K (I6 (NI t st e d k on w x c la n ps)) C):CT 112 #[.agg #[I6 t,I6 st,.bool e,.string d,I6 k,I6 on,I6 w,.bool x,I6 c,I6 la,I6 n,.slice pa pn pc]] C K:=by
 by_cases ht:0≤t∧t≤11
 ·obtain⟨h0,h1⟩:=ht
  have d0:decide (0≤t)=true:=decide_eq_true h0
  have d1:decide (t≤11)=true:=decide_eq_true h1
  unfold NI u4 at hK
  rw[d0,d1,Bool.true_and,Bool.true_and] at hK
  cases hs:yD t st
  ·rw[hs] at hK
   simp only[Bool.false_and,Bool.false_eq_true,if_false] at hK
   cases h3:HR st
   ·refine aH Tryz.func112 ?_
    repeat' (first|refine Bc ?_|refine dw gG ?_|refine w5 ?_ ?_|((refine bh fun h=>?_) <;> try exact w6 h)|(refine aE fun hA=>?_;subst hA)|intro _|(show aA _ 209 _ _ _;refine CA (h:=uM (by assumption) (by assumption) ?_))|(show aA _ 210 _ _ _;refine CA (h:=nK ?_)))
    all_goals(refine aC ?_;exact aB (hK))
   ·have h4:=(vW st).1 h3
    unfold yD at hs
    rw[h3,Bool.true_and] at hs
    simp only[Bool.and_eq_false_iff,Bool.or_eq_false_iff,decide_eq_false_iff_not] at hs
    refine aH Tryz.func112 ?_
    repeat' (first|refine Bc ?_|refine dw gG ?_|refine w5 ?_ ?_|((refine bh fun h=>?_) <;> try exact w6 h)|(refine aE fun hA=>?_;subst hA)|intro _|(show aA _ 209 _ _ _;refine CA (h:=uM (by assumption) (by assumption) ?_))|(show aA _ 210 _ _ _;refine CA (h:=nK ?_)))
    all_goals(refine aC ?_;exact aB (hK))
  ·rw[hs,Bool.true_and] at hK
   have h3:HR st=true:=by unfold yD at hs;rw[Bool.and_eq_true] at hs;exact hs.1
   have h4:=(vW st).1 h3
   unfold yD at hs
   rw[h3,Bool.true_and] at hs
   simp only[Bool.and_eq_true,Bool.or_eq_true,decide_eq_true_eq] at hs
   cases hq:(decide (FO t st e d k on w x c la n t st (oE t e) (oD t d) (oK t k) (oO t on) (oO t w) (oX t x) (oC t c) (oL t la) (oN t n)) && NO ps (oPs t ps))
   ·rw[hq] at hK
    simp only[Bool.false_and,Bool.false_eq_true,if_false] at hK
    refine aH Tryz.func112 ?_
    repeat' (first|refine Bc ?_|refine dw gG ?_|refine w5 ?_ ?_|((refine bh fun h=>?_) <;> try exact w6 h)|(refine aE fun hA=>?_;subst hA)|intro _|(show aA _ 209 _ _ _;refine CA (h:=uM (by assumption) (by assumption) ?_))|(show aA _ 210 _ _ _;refine CA (h:=nK ?_))|(show aA _ 212 _ _ _;refine CA (h:=L3 ?_))|(show aA _ 211 _ _ _;refine CA (h:=Hz (ps:=ps) (ps1:=oPs t ps) (bM hv) (Sw (bM hv)) hn (Ab9 hn) hn2 ?_)))
    all_goals(refine aC ?_;exact aB (hK))
   ·rw[hq,Bool.true_and] at hK
    cases hf:x9 t d k on w c la n ps
    ·rw[hf] at hK
     simp only[Bool.false_eq_true,if_false] at hK
     refine aH Tryz.func112 ?_
     repeat' (first|refine Bc ?_|refine dw gG ?_|refine w5 ?_ ?_|((refine bh fun h=>?_) <;> try exact w6 h)|(refine aE fun hA=>?_;subst hA)|intro _|(show aA _ 209 _ _ _;refine CA (h:=uM (by assumption) (by assumption) ?_))|(show aA _ 210 _ _ _;refine CA (h:=nK ?_))|(show aA _ 212 _ _ _;refine CA (h:=L3 ?_))|(show aA _ 211 _ _ _;refine CA (h:=Hz (ps:=ps) (ps1:=oPs t ps) (bM hv) (Sw (bM hv)) hn (Ab9 hn) hn2 ?_))|(show aA _ 213 _ _ _;refine CA (h:=KY (ps:=ps) (bM hv) hn hn2 ?_)))
     all_goals(refine aC ?_;exact aB (hK))
    ·rw[hf] at hK
     simp only[if_true] at hK
     refine aH Tryz.func112 ?_
     repeat' (first|refine Bc ?_|refine dw gG ?_|refine w5 ?_ ?_|((refine bh fun h=>?_) <;> try exact w6 h)|(refine aE fun hA=>?_;subst hA)|intro _|(show aA _ 209 _ _ _;refine CA (h:=uM (by assumption) (by assumption) ?_))|(show aA _ 210 _ _ _;refine CA (h:=nK ?_))|(show aA _ 212 _ _ _;refine CA (h:=L3 ?_))|(show aA _ 211 _ _ _;refine CA (h:=Hz (ps:=ps) (ps1:=oPs t ps) (bM hv) (Sw (bM hv)) hn (Ab9 hn) hn2 ?_))|(show aA _ 213 _ _ _;refine CA (h:=KY (ps:=ps) (bM hv) hn hn2 ?_)))
     all_goals(refine aC ?_;exact aB (hK))
 ·have d0:(decide (0≤t) && decide (t≤11))=false:=by rw[Bool.and_eq_false_iff];simp;omega
  unfold NI u4 at hK
  rw[d0] at hK
  simp only[Bool.false_and,Bool.false_eq_true,if_false] at hK
  refine aH Tryz.func112 ?_
  repeat' (first|refine Bc ?_|refine dw gG ?_|refine w5 ?_ ?_|((refine bh fun h=>?_) <;> try exact w6 h)|(refine aE fun hA=>?_;subst hA)|intro _|(show aA _ 209 _ _ _;refine CA (h:=Oc (by omega) ?_))|(show aA _ 210 _ _ _;refine CA (h:=nK ?_)))
  all_goals(refine aC ?_;exact aB (hK))
end
end Go.Proofs.YtifgibijcmppmaaGreat
namespace Go.Proofs.YtifgibijcmppmaaGreat
open Go Go.Proofs Go.Sl
attribute [local irreducible] aN fN cX bP aM aX aA dS dV aT dU pt ro eV star sep bH
attribute [local irreducible] mp ED
section
variable {R C:List HP} {K:KP}
def LB:Int→Value:=fun n=>I6 n
def p9 (id:Int) (l:List (KE Int)):Int:=(gQ id l).getD 0
def Na (n:Int):Int:=max (min n 1024) (-1024)
def HT (id n:Int) (ck:Nat) (l:List (KE Int)):List (KE Int):=if n=0 then mQ id l else tC id (Na n) ck l
def Xa (id n:Int) (ck:Nat) (l:List (KE Int)):Nat:=if n=0 then ck else kCk id ck l
def fL (n:Int):Int:=if n≤16 then 1 else(n - 1) / 16+1
theorem Ag7 {id:Int} {l:List (KE Int)}:Jh false (I6 0) (iY id (kM LB l) 0)=I6 (p9 id l):=by
 rw[Ug]
 unfold p9
 cases gQ id l <;> rfl
section
variable {p q ck:Nat} {id n k:Int} {l:List (KE Int)}
theorem Abn (hK:∀p q,K (PO p) (pt p [.map (some q)] 211::mp q (kM LB []) 0::R)):CT 45 #[] R K:=by
 refine aH Tryz.func45 ?_
 repeat' (first|refine v6 ?_|refine w5 ?_ ?_|((refine bh fun h=>?_) <;> try exact w6 h)|(refine aE fun hA=>?_;subst hA)|intro _|(show aN _ _ _ _ _ _ _;refine Fp ?_;intro _))
 all_goals(refine aC ?_;exact aB (hK _ _))
theorem Bj (h:0≤n∧n≤100000000) (hK:K (I6 (fL n)) R):CT 196 #[I6 n] R K:=by
 by_cases h1:n≤16
 ·simp only[fL,if_pos h1] at hK
  refine aH Tryz.func196 ?_
  repeat' (first|refine v24 ?_|refine w5 ?_ ?_|((refine bh fun h=>?_) <;> try exact w6 h)|(refine aE fun hA=>?_;subst hA)|intro _)
  all_goals(refine aC ?_;exact aB (hK))
 ·simp only[fL,if_neg h1] at hK
  refine aH Tryz.func196 ?_
  repeat' (first|refine v24 ?_|refine w5 ?_ ?_|((refine bh fun h=>?_) <;> try exact w6 h)|(refine aE fun hA=>?_;subst hA)|intro _)
  all_goals(refine aC ?_;exact aB (hK))
theorem p5 (hK:K (I6 (p9 id l)) (pt p [.map (some q)] 211::mp q (kM LB l) ck::R)):CT 286 #[PO p,I6 id] (pt p [.map (some q)] 211::mp q (kM LB l) ck::R) K:=by
 refine aH Tryz.func286 ?_
 repeat' (first|refine v4 ?_|refine w5 ?_ ?_|((refine bh fun h=>?_) <;> try exact w6 h)|(refine aE fun hA=>?_;subst hA)|intro _|(show aN _ _ _ _ _ _ _;refine jD ?_ (hv:=Ag7)))
 all_goals(refine aC ?_;exact aB (hK))
theorem H9 (hK:K (.tuple #[]) (pt p [.map (some q)] 211::mp q (kM LB (HT id n ck l)) (Xa id n ck l)::R)):CT 287 #[PO p,I6 id,I6 n] (pt p [.map (some q)] 211::mp q (kM LB l) ck::R) K:=by
 by_cases h:n=0
 ·subst h
  simp only[HT,Xa,if_true] at hK
  refine aH Tryz.func287 ?_
  repeat' (first|refine v39 ?_|refine w5 ?_ ?_|((refine bh fun h=>?_) <;> try exact w6 h)|(refine aE fun hA=>?_;subst hA)|intro _|(show aN _ _ _ _ _ _ _;first|refine G_delete ?_ (hv:=YN)|refine Lm ?_ (hv:=YN)))
  all_goals(refine aC ?_;exact aB (hK))
 ·simp only[HT,Xa,if_neg h] at hK
  refine aH Tryz.func287 ?_
  repeat' (first|refine v39 ?_|refine w5 ?_ ?_|((refine bh fun h=>?_) <;> try exact w6 h)|(refine aE fun hA=>?_;subst hA)|intro _|(show aN _ _ _ _ _ _ _;refine kE ?_ (hv:=Q1 (v:=Na n)) (hu:=by exact rfl)))
  all_goals(refine aC ?_;exact aB (hK))
theorem u9 (hk:1≤k∧k≤1024) (hb:-10000≤p9 id l∧p9 id l≤10000) (hK:K (I6 0) (pt p [.map (some q)] 211::mp q (kM LB (HT id (p9 id l - k) ck l)) (Xa id (p9 id l - k) ck l)::R)):CT 195 #[PO p,I6 id,I6 k] (pt p [.map (some q)] 211::mp q (kM LB l) ck::R) K:=by
 refine aH Tryz.func195 ?_
 repeat' (first|refine v15 ?_|refine w5 ?_ ?_|((refine bh fun h=>?_) <;> try exact w6 h)|(refine aE fun hA=>?_;subst hA)|intro _|(show aA _ 286 _ _ _;refine CA (h:=p5 ?_))|(show aA _ 287 _ _ _;refine CA (h:=H9 ?_)))
 all_goals(refine aC ?_;exact aB (hK))
theorem N7 (hK:K (.bool (p9 id l != 0)) (pt p [.map (some q)] 211::mp q (kM LB (if p9 id l=0 then l else mQ id l)) ck::R)):CT 315 #[PO p,I6 id] (pt p [.map (some q)] 211::mp q (kM LB l) ck::R) K:=by
 by_cases h:p9 id l=0
 ·simp only[h,if_true] at hK
  refine aH Tryz.func315 ?_
  repeat' (first|refine v2 ?_|refine w5 ?_ ?_|((refine bh fun h=>?_) <;> try exact w6 h)|(refine aE fun hA=>?_;subst hA)|intro _|(show aA _ 286 _ _ _;refine CA (h:=p5 ?_);rw[h]))
  all_goals(refine aC ?_;exact aB (hK))
 ·simp only[if_neg h] at hK
  have hb:(p9 id l != 0)=true:=by simpa using h
  refine aH Tryz.func315 ?_
  repeat' (first|(show Br _ _ _;refine Br.t hb ?_)|refine v2 ?_|refine w5 ?_ ?_|((refine bh fun h=>?_) <;> try exact w6 h)|(refine aE fun hA=>?_;subst hA)|intro _|(show aA _ 286 _ _ _;refine CA (h:=p5 ?_))|(show aA _ 287 _ _ _;refine CA (h:=H9 ?_);simp only[HT,Xa,if_true]))
  all_goals(refine aC ?_;exact aB (hK))
end
end
end Go.Proofs.YtifgibijcmppmaaGreat
