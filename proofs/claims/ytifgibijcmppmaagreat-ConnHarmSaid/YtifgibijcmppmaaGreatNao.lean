/- A part of the proof: lemmas; each with the conditions that it states. -/
import Derived.Test.YtifgibijcmppmaaGreatNaf
set_option linter.unusedVariables false
set_option linter.unusedSimpArgs false
section
namespace Go.Proofs.YtifgibijcmppmaaGreat
open Go Go.Proofs Go.Sl
set_option maxRecDepth 100000
set_option maxHeartbeats 40000000
attribute [local irreducible] aN fB cJ bO aM aY aA dM dQ aW dK pt ro fF star sep bI
variable {R C:List HP} {K:Value→List HP→Prop}
def wQ (l t f s:Int):Int:=if l<0∨256<l then 6 else if t<0∨11<t∨s<0 then 1 else if(s=0∧¬(5≤t∧t≤10))∨(0<s∧¬(t≤4∨10≤t)) then 1 else if f≠0∧(f≠1∨1<t) then 1 else if t=5∧(l % 6≠0∨48<l) then 6 else if 0≤FB t∧l≠FB t then 6 else 0
theorem Afe {k:Int} (h0:0≤k) (h1:k≤1) (hK:K (.tuple #[.agg #[.bool false,.bool true,.int .i64 (-1),.int .i64 1],.int .i64 0]) R):aA Tryz.prog 297 #[.int .i64 k] R K:=by
 refine Ls ?_
 rcases(by omega:k=0∨k=1) with rfl|rfl <;> exact hK
theorem Ae8 {k:Int} (h0:2≤k) (h1:k≤11) (hK:K (.tuple #[.agg #[.bool (decide (5≤k) && decide (k≤10)),.bool (decide (k≤4) || decide (10≤k)),.int .i64 (FB k),.int .i64 0],.int .i64 0]) R):aA Tryz.prog 297 #[.int .i64 k] R K:=by
 refine Ls ?_
 obtain⟨e1,e2,e3,e4,e5⟩:=FE k (by omega) h1
 rw[e1,e2,e3,e4,e5,if_neg (by omega)]
 exact hK
theorem Aec {k:Int} (h0:k<0∨11<k) (hK:K (.tuple #[.agg #[.bool false,.bool false,.int .i64 0,.int .i64 0],.int .i64 3]) R):aA Tryz.prog 297 #[.int .i64 k] R K:=by
 refine Ls ?_
 have e1:m6 k=(false,false,0,0):=by unfold m6;rw[if_pos (by omega)]
 have e2:DV k=3:=by unfold DV;rw[if_pos (by omega)]
 rw[e1,e2]
 exact hK
def Tw (p:Nat) (l t f s:Int):HP:=pt p [.int .i64 l,.int .i64 t,.int .i64 f,.int .i64 s] 158
def Ht (t l long:Int):Bool:=decide ((t=5→(l % 6=0∧l≤48))∧(t≠5→(long<0∨l=long)))
theorem X3 {p q:Nat} {l t f s long flags:Int} {z o:Bool} (h0:0≤l) (hK:K (.bool (Ht t l long)) (Tw p l t f s::pt q [.bool z,.bool o,.int .i64 long,.int .i64 flags] 341::R)):
  aA Tryz.prog 329 #[.pointer (some ⟨p,0,none⟩),.pointer (some ⟨q,0,none⟩)] (Tw p l t f s::pt q [.bool z,.bool o,.int .i64 long,.int .i64 flags] 341::R) K:=by
 unfold Tw at *
 refine aH Tryz.func329 ?_
 repeat' (first|refine v27 ?_|refine wr ?_|refine w5 ?_ ?_|((refine bh fun h=>?_) <;> try exact w6 h)|(refine aE fun hA=>?_;subst hA)|intro _)
 all_goals(refine aC ?_;exact aB (kb hK (by unfold Ht;simp only[decide_eq_true_eq] <;> simp <;> omega)))
theorem vN {l t f s:Int} (hf:-9223372036854775808≤f∧f≤9223372036854775807) (hK:K (.int .i64 (wQ l t f s)) R):aA Tryz.prog 244 #[.agg #[.int .i64 l,.int .i64 t,.int .i64 f,.int .i64 s]] R K:=by
 have h5:t=5→FB t=-1:=fun h=>by subst h;rfl
 have h1:t≤1→FB t=-1:=fun h=>by unfold FB;rw[if_neg (by omega),if_neg (by omega),if_neg (by omega)]
 have c1:= @X3
 unfold Tw at c1
 rcases(by omega:(t<0∨11<t)∨(0≤t∧t≤1)∨(2≤t∧t≤11)) with h|h|h
 all_goals
  refine aH Tryz.func244 ?_
  repeat' (first|refine v96 ?_|refine wr ?_|refine w5 ?_ ?_|((refine bh fun h=>?_) <;> try exact w6 h)|(refine aE fun hA=>?_;subst hA)|intro _|(show aA _ 297 _ _ _;refine CA (h:=Afe (by omega) (by omega) ?_))|(show aA _ 297 _ _ _;refine CA (h:=Ae8 (by omega) (by omega) ?_))|(show aA _ 297 _ _ _;refine CA (h:=Aec (by omega) ?_))|(show aA _ 329 _ _ _;refine CA (h:=c1 (by omega) ?_)))
  all_goals(try simp only[Ht,decide_eq_true_eq,decide_eq_false_iff_not] at *)
  all_goals(refine aC ?_;exact aB (ki hK (by unfold wQ;(repeat' split) <;> omega)))
end Go.Proofs.YtifgibijcmppmaaGreat
namespace Go.Proofs.YtifgibijcmppmaaGreat
open Go Go.Proofs Go.Sl
set_option maxRecDepth 100000
set_option maxHeartbeats 40000000
attribute [local irreducible] aN fB cJ bO aM aY aA dM dQ aW dK pt ro fF star sep bI
variable {R C:List HP} {K:Value→List HP→Prop}
def hgE (s:ByteArray):Int:=if s.size<9 then 5 else if 2147483647<xT s 5 9 then 6 else 0
def SZ (s:ByteArray) (i j:Nat):Int:=if hgE s=0 then xT s i j else 0
def hgV (s:ByteArray):Value:=.tuple #[.agg #[.int .i64 (SZ s 0 3),.int .i64 (SZ s 3 4),.int .i64 (SZ s 4 5),.int .i64 (SZ s 5 9)],.int .i64 (hgE s)]
theorem Aih (s:ByteArray):V9 s=hgV s:=by
 unfold V9 hgV SZ hgE
 by_cases h:s.size<9
 ·simp[h]
 ·by_cases h2:2147483647<xT s 5 9
  ·simp[h,h2]
  ·simp[h,h2]
theorem Abs {s:ByteArray} (hK:K (.tuple #[.agg #[.int .i64 (SZ s 0 3),.int .i64 (SZ s 3 4),.int .i64 (SZ s 4 5),.int .i64 (SZ s 5 9)],.int .i64 (hgE s)]) R):aA Tryz.prog 243 #[.string s] R K:=Ad6 (by rw[Aih];exact hK)
def z7 (l t f s:Int):ByteArray:=rB l 3++rB t 1++rB f 1++rB s 4
theorem Kq {l t f s:Int} (h:Vm l t f s=true):(z7 l t f s).data.toList=wB l 3++wB t 1++wB f 1++wB s 4:=by
 unfold Vm at h
 simp only[Bool.and_eq_true,decide_eq_true_eq] at h
 unfold z7 rB
 rw[if_neg (by omega),if_neg (by omega),if_neg (by omega),if_neg (by omega)]
 simp
theorem S9:(256:Int) ^ (1:Nat)=256∧(256:Int) ^ (3:Nat)=16777216∧(256:Int) ^ (4:Nat)=4294967296:=by decide
theorem B5 {n w:Int} (hw:0<w∧w≤4):(iY n w=0↔(0≤n∧n<256 ^ w.toNat)):=by
 constructor
 ·intro h;exact Ady h hw.1
 ·intro h
  unfold iY
  have e:(2:Int) ^ (8 * w).toNat=256 ^ w.toNat:=by
   have:(8 * w).toNat=8 * w.toNat:=by omega
   rw[this,Int.pow_mul];rfl
  rw[e,Int.ediv_eq_zero_of_lt h.1 h.2,if_neg (by omega),if_neg (by omega)]
theorem O9 {l t f s:Int}:(Vm l t f s=true→JG l t f s=z7 l t f s∧JK l t f s=0)∧(Vm l t f s=false→JG l t f s=⟨#[]⟩∧JK l t f s=2):=by
 obtain⟨p1,p3,p4⟩:=S9
 have m1:=B5 (n:=l) (w:=3) (by decide)
 have m2:=B5 (n:=t) (w:=1) (by decide)
 have m3:=B5 (n:=f) (w:=1) (by decide)
 have m4:=B5 (n:=s) (w:=4) (by decide)
 rw[show(3:Int).toNat=3 from rfl,p3] at m1
 rw[show(1:Int).toNat=1 from rfl,p1] at m2 m3
 rw[show(4:Int).toNat=4 from rfl,p4] at m4
 have hf:eM (Yi l t f s)=0↔(iY l 3=0∧iY t 1=0∧iY f 1=0∧iY s 4=0):=by
  unfold Yi
  simp only[eM]
  by_cases h1:iY l 3=0 <;> by_cases h2:iY t 1=0 <;> by_cases h3:iY f 1=0 <;> by_cases h4:iY s 4=0 <;> simp[h1,h2,h3,h4]
 constructor
 ·intro h
  have hl:=Kq h
  unfold Vm at h
  simp only[Bool.and_eq_true,decide_eq_true_eq] at h
  have hz:eM (Yi l t f s)=0:=hf.2 ⟨m1.2 (by omega),m2.2 (by omega),m3.2 (by omega),m4.2 (by omega)⟩
  have he:xL (Yi l t f s)=0:=by
   unfold xL
   rw[if_pos hz,if_neg]
   have:Je (Yi l t f s) 0=9:=by
    unfold Yi
    simp[Je,kD] <;> decide
   omega
  unfold JG JK
  rw[if_neg (by omega),if_neg (by omega),if_pos he]
  refine⟨x5 ?_,rfl⟩
  rw[hl,(H7 he).2.2.2]
  simp[kQ,Yi,NN]
 ·intro h
  unfold JG JK
  by_cases hs:2147483647<s
  ·rw[if_pos hs,if_pos hs];exact⟨rfl,rfl⟩
  ·rw[if_neg hs,if_neg hs]
   have he:¬xL (Yi l t f s)=0:=by
    intro he
    obtain⟨a,b,c,d⟩:=hf.1 (H7 he).1
    rw[m1] at a
    rw[m2] at b
    rw[m3] at c
    rw[m4] at d
    unfold Vm at h
    simp at h
    omega
   rw[if_neg he,NA he]
   exact⟨rfl,rfl⟩
theorem Aan {l t f s:Int} (h:Vm l t f s=true) (hK:K (.tuple #[.string (z7 l t f s),.int .i64 0]) R):aA Tryz.prog 269 #[.agg #[.int .i64 l,.int .i64 t,.int .i64 f,.int .i64 s]] R K:=by
 refine Ago ?_
 rw[(O9.1 h).1,(O9.1 h).2]
 exact hK
end Go.Proofs.YtifgibijcmppmaaGreat
end
namespace Go.Proofs.YtifgibijcmppmaaGreat
open Go Go.Proofs Go.Sl
set_option maxRecDepth 100000
set_option maxHeartbeats 40000000
attribute [local irreducible] aN fB cJ bO aM aY aA dM dQ aW dK pt ro fF star sep bI
section
variable {R C:List HP} {K:Value→List HP→Prop}
structure Pr where
 i:Int
 v:Int
def prD:List Value→Option Pr
 | [.int .i64 i,.int .i64 v]=>some ⟨i,v⟩
 |_=>none
theorem Ai7 (cs:List Value) (y:Pr) (h:prD cs=some y): [.int .i64 y.i,.int .i64 y.v]=cs:=by
 unfold prD at h
 split at h
 ·cases h;rfl
 ·cases h
def nV:t6 Pr:= { enc:=fun p=> [.int .i64 p.i,.int .i64 p.v],sz:=2,dec:=prD,len:=fun _=>rfl,one:=fun _=>rfl,ok:=Ai7 }
structure Fm where
 t:Int
 st:Int
 e:Bool
 d:ByteArray
 k:Int
 on:Int
 w:Int
 x:Bool
 c:Int
 la:Int
 n:Int
 pa:Option Addr
 pn:Nat
 pc:Nat
 ps:List Pr
theorem Az {n l h:Int} (hK:K (.bool (decide (l≤n) && decide (n≤h))) R):aA Tryz.prog 298 #[.int .i64 n,.int .i64 l,.int .i64 h] R K:=by
 refine aH Tryz.func298 ?_
 repeat' (first|refine v1 ?_|refine wr ?_|refine w5 ?_ ?_|((refine bh fun h=>?_) <;> try exact w6 h)|(refine aE fun hA=>?_;subst hA)|intro _)
 all_goals(refine aC ?_;exact aB (kb hK (by simp <;> omega)))
def BW (n:Int):Bool:=decide (0≤n) && decide (n≤2147483647)
theorem nQ {n:Int} (hK:K (.bool (BW n)) R):aA Tryz.prog 210 #[.int .i64 n] R K:=by
 refine aH Tryz.func210 ?_
 repeat' (first|refine v0 ?_|refine wr ?_|refine w5 ?_ ?_|((refine bh fun h=>?_) <;> try exact w6 h)|(refine aE fun hA=>?_;subst hA)|intro _|(show aA _ 298 _ _ _;refine CA (h:=Az ?_)))
 (refine aC ?_;exact aB (hK))
def Ii (on w:Int):Bool:=BW on && (decide (1≤w) && decide (w≤256))
theorem lV (n:Int):BW n=true↔(0≤n∧n≤2147483647):=by unfold BW;simp
theorem Acb (n:Int):BW n=false↔(n<0∨2147483647<n):=by unfold BW;simp <;> omega
theorem TV {on w:Int} {x:Bool} (hK:K (.bool (Ii on w)) R):aA Tryz.prog 301 #[.agg #[.int .i64 on,.int .i64 w,.bool x]] R K:=by
 refine aH Tryz.func301 ?_
 repeat' (first|refine v19 ?_|refine wr ?_|refine w5 ?_ ?_|((refine bh fun h=>?_) <;> try exact w6 h)|(refine aE fun hA=>?_;subst hA)|intro _|(show aA _ 298 _ _ _;refine CA (h:=Az ?_))|(show aA _ 210 _ _ _;refine CA (h:=nQ ?_)))
 all_goals(refine aC ?_;exact aB (kb hK (by unfold Ii;simp[*])))
theorem xI {n:Int} (hK:K (.bool (BW n)) R):aA Tryz.prog 62 #[.int .i64 n] R K:=by
 refine aH Tryz.func62 ?_
 repeat' (first|refine v1 ?_|refine wr ?_|refine w5 ?_ ?_|((refine bh fun h=>?_) <;> try exact w6 h)|(refine aE fun hA=>?_;subst hA)|intro _)
 all_goals(refine aC ?_;exact aB (kb hK (by unfold BW;simp <;> omega)))
theorem Ae2 {on w:Int} {x:Bool} (hK:K (.bool (Ii on w)) R):aA Tryz.prog 66 #[.agg #[.int .i64 on,.int .i64 w,.bool x]] R K:=by
 refine aH Tryz.func66 ?_
 repeat' (first|refine v19 ?_|refine wr ?_|refine w5 ?_ ?_|((refine bh fun h=>?_) <;> try exact w6 h)|(refine aE fun hA=>?_;subst hA)|intro _|(show aA _ 62 _ _ _;refine CA (h:=xI ?_)))
 all_goals(refine aC ?_;exact aB (kb hK (by unfold Ii;simp[*] <;> omega)))
def BR (on w:Int) (x:Bool):Bool:=decide (on=0) && decide (w=0) && !x
theorem YZ {on w:Int} {x:Bool} (hK:K (.bool (BR on w x)) R):aA Tryz.prog 65 #[.agg #[.int .i64 on,.int .i64 w,.bool x]] R K:=by
 cases x
 all_goals
  refine aH Tryz.func65 ?_
  repeat' (first|refine v44 ?_|refine wr ?_|refine w5 ?_ ?_|((refine bh fun h=>?_) <;> try exact w6 h)|(refine aE fun hA=>?_;subst hA)|intro _)
  all_goals(refine aC ?_;exact aB (kb hK (by unfold BR;simp[*])))
def Nk:List Pr→List Pr→Bool
 | [],[]=>true
 |a::l,b::m=>(a.i == b.i && a.v == b.v) && Nk l m
 |_,_=>false
theorem NT:∀l:List Pr,Nk l l=true
 | []=>rfl
 |a::l=>by simp[Nk,NT l]
theorem Uj:∀ {l m:List Pr},Nk l m=true→l.length=m.length
 | [],[],_=>rfl
 |a::l,b::m,h=>by
  simp only[Nk,Bool.and_eq_true] at h
  simp[Uj h.2]
 | [],_::_,h=>by cases h
 |_::_,[],h=>by cases h
theorem Aft (l:List Pr):Nk l []=decide (l.length=0):=by cases l <;> simp[Nk]
def jS:List (Nat×Nat):= [(0,0),(1,0),(2,0),(3,0),(4,0),(5,0),(6,0),(7,0),(8,0)]
theorem YC {A B:Option Addr} {n n' c c':Nat} {xs ys:List Pr} (hv:cZ C A nV xs) (hw:cZ C B nV ys) (hn:xs.length=n) (hn':ys.length=n') (hn2:n<1000000000000000) (hK:K (.bool (Nk xs ys)) C):aA Tryz.prog 300 #[.slice A n c,.slice B n' c'] C K:=by
 by_cases hnn:n=n'
 ·subst hnn
  refine aH Tryz.func300 ?_
  repeat' (first|refine v29 ?_|refine dw jS ?_|refine wr ?_|refine w5 ?_ ?_|((refine bh fun h=>?_) <;> try exact w6 h)|(refine aE fun hA=>?_;subst hA)|intro _)
  refine iF (fun m a C'=>∃j:Nat,j+m=n∧C'=C∧Nk xs ys=Nk (xs.drop j) (ys.drop j)∧cN a [(0,.slice A n c),(1,.slice B n c'),(12,.int .i64 n),(13,.int .i64 j)]) n (b9 n ⟨0,by omega,rfl,rfl,rfl,rfl,rfl,rfl,trivial⟩) ?_
  rintro n1 a C' ⟨j,hj,rfl,hp,ha⟩
  refine gF _ ha ?_
  simp only[eQ]
  by_cases hlt:j<n
  ·obtain⟨x,hx,hd⟩:=jP (l:=xs) (j:=j) (by omega)
   obtain⟨y,hy,hd'⟩:=jP (l:=ys) (j:=j) (by omega)
   rw[hd,hd',Nk] at hp
   by_cases hxy:x.i=y.i∧x.v=y.v
   ·have e1:(x.i == y.i)=true:=by simpa using hxy.1
    have e2:(x.v == y.v)=true:=by simpa using hxy.2
    rw[e1,e2,Bool.and_self,Bool.true_and] at hp
    repeat' (first|refine v29 ?_|refine dw jS ?_|refine wr ?_|refine w5 ?_ ?_|((refine bh fun h=>?_) <;> try exact w6 h)|(refine aE fun hA=>?_;subst hA)|intro _)
    exact b9 (n1 - 1) ⟨j+1,by omega,rfl,hp,rfl,rfl,rfl,rfl,trivial⟩
   ·have e1:(x.i == y.i && x.v == y.v)=false:=by
     rw[Bool.and_eq_false_iff];simp;omega
    rw[e1,Bool.false_and] at hp
    rw[hp] at hK
    repeat' (first|refine v29 ?_|refine dw jS ?_|refine wr ?_|refine w5 ?_ ?_|((refine bh fun h=>?_) <;> try exact w6 h)|(refine aE fun hA=>?_;subst hA)|intro _)
    (refine aC ?_;exact aB (hK))
  ·obtain rfl:j=n:=by omega
   rw[List.drop_eq_nil_of_le (by omega),List.drop_eq_nil_of_le (by omega),Nk] at hp
   rw[hp] at hK
   repeat' (first|refine v29 ?_|refine dw jS ?_|refine wr ?_|refine w5 ?_ ?_|((refine bh fun h=>?_) <;> try exact w6 h)|(refine aE fun hA=>?_;subst hA)|intro _)
   (refine aC ?_;exact aB (hK))
 ·have e:Nk xs ys=false:=by
   cases h:Nk xs ys
   ·rfl
   ·have:=Uj h;omega
  rw[e] at hK
  refine aH Tryz.func300 ?_
  repeat' (first|refine v29 ?_|refine dw jS ?_|refine wr ?_|refine w5 ?_ ?_|((refine bh fun h=>?_) <;> try exact w6 h)|(refine aE fun hA=>?_;subst hA)|intro _)
  all_goals(refine aC ?_;exact aB (hK))
end
section
variable {R C:List HP} {K:Value→List HP→Prop}
def oE (t:Int) (e:Bool):Bool:=if t=0∨t=1 then e else false
def oD (t:Int) (d:ByteArray):ByteArray:=if t=0∨t=1∨t=7∨t=8 then d else⟨#[]⟩
def oK (t k:Int):Int:=if t=2 then k else 0
def oO (t on:Int):Int:=if t=2∨t=3 then on else 0
def oX (t:Int) (x:Bool):Bool:=if t=2∨t=3 then x else false
def oC (t c:Int):Int:=if t=4∨t=9 then c else 0
def oL (t l:Int):Int:=if t=9 then l else 0
def oN (t n:Int):Int:=if t=10∨t=11 then n else 0
def oPa (t:Int) (p:Option Addr):Option Addr:=if t=5 then p else none
def oPn (t:Int) (n:Nat):Nat:=if t=5 then n else 0
def oPs (t:Int) (l:List Pr):List Pr:=if t=5 then l else []
def wY:List (Nat×Nat):= [(0,0),(1,0),(4,0),(5,1),(2,1),(3,1),(6,0),(7,1)]
def xC:List (Nat×Nat):= [(0,0),(1,0),(4,0),(5,1),(2,1),(3,1),(6,0),(7,1)]
def vP:List (Nat×Nat):= [(0,0),(1,0),(4,0),(5,1),(2,1),(3,1),(6,0),(7,1)]
theorem Lf {t st:Int} {e:Bool} {d:ByteArray} {k on w:Int} {x:Bool} {c la n:Int} {pa:Option Addr} {pn pc:Nat} (hK:K (.agg #[.int .i64 t,.int .i64 st,.bool (oE t e),.string (oD t d),.int .i64 (oK t k),.int .i64 (oO t on),.int .i64 (oO t w),.bool (oX t x),.int .i64 (oC t c),.int .i64 (oL t la),.int .i64 (oN t n),.slice (oPa t pa) (oPn t pn) (oPn t pc)]) R):aA Tryz.prog 212 #[.agg #[.int .i64 t,.int .i64 st,.bool e,.string d,.int .i64 k,.int .i64 on,.int .i64 w,.bool x,.int .i64 c,.int .i64 la,.int .i64 n,.slice pa pn pc]] R K:=by
 rcases(by omega:(t<0∨11<t∨t=6)∨t=0∨t=1∨t=2∨t=3∨t=4∨t=5∨t=7∨t=8∨t=9∨t=10∨t=11) with h|h|h|h|h|h|h|h|h|h|h|h
 ·have q0:¬t=0:=by omega
  have q1:¬t=1:=by omega
  have q2:¬t=2:=by omega
  have q3:¬t=3:=by omega
  have q4:¬t=4:=by omega
  have q5:¬t=5:=by omega
  have q7:¬t=7:=by omega
  have q8:¬t=8:=by omega
  have q9:¬t=9:=by omega
  have q10:¬t=10:=by omega
  have q11:¬t=11:=by omega
  simp only[oE,oD,oK,oO,oX,oC,oL,oN,oPa,oPn,q0,q1,q2,q3,q4,q5,q7,q8,q9,q10,q11,or_self,if_false] at hK
  refine aH Tryz.func212 ?_
  repeat' (first|refine XO ?_|refine dw wY ?_|refine dw xC ?_|refine dw vP ?_|refine wr ?_|refine w5 ?_ ?_|((refine bh fun h=>?_) <;> try exact w6 h)|(refine aE fun hA=>?_;subst hA)|intro _)
  all_goals(refine aC ?_;exact aB (hK))
 all_goals
  subst h
  simp[oE,oD,oK,oO,oX,oC,oL,oN,oPa,oPn] at hK
  refine aH Tryz.func212 ?_
  repeat' (first|refine XO ?_|refine dw wY ?_|refine dw xC ?_|refine dw vP ?_|refine wr ?_|refine w5 ?_ ?_|((refine bh fun h=>?_) <;> try exact w6 h)|(refine aE fun hA=>?_;subst hA)|intro _)
  all_goals(refine aC ?_;exact aB (hK))
def Jg (l:List Pr):Bool:=l.all fun p=>decide (0≤p.i) && decide (p.i≤65535) && BW p.v
def x8 (t:Int) (d:ByteArray) (k on w c la n:Int) (ps:List Pr):Bool:=if t=0∨t=1 then decide (d.size≤256) else if t=2 then(decide (k=1) || decide (k=2)) && Ii on w else if t=3 then Ii on w else if t=7∨t=8 then decide (d.size=8) else if t=5 then Jg ps && decide (ps.length≤8) else BW c && BW la && BW n
theorem Kf {t st:Int} {e:Bool} {d:ByteArray} {k on w:Int} {x:Bool} {c la n:Int} {pa:Option Addr} {pn pc:Nat} {ps:List Pr} (hv:cZ C pa nV ps) (hn:ps.length=pn) (hn2:pn<1000000000000000) (hK:K (.bool (x8 t d k on w c la n ps)) C):aA Tryz.prog 213 #[.agg #[.int .i64 t,.int .i64 st,.bool e,.string d,.int .i64 k,.int .i64 on,.int .i64 w,.bool x,.int .i64 c,.int .i64 la,.int .i64 n,.slice pa pn pc]] C K:=by
 subst hn
 by_cases h5:t=5
 ·subst h5
  simp[x8] at hK
  refine aH Tryz.func213 ?_
  repeat' (first|refine TR ?_|refine wr ?_|refine w5 ?_ ?_|((refine bh fun h=>?_) <;> try exact w6 h)|(refine aE fun hA=>?_;subst hA)|intro _)
  rename_i r
  have hv2:cZ (pt r [.int .i64 5,.int .i64 st,.bool e,.string d,.int .i64 k,.int .i64 on,.int .i64 w,.bool x,.int .i64 c,.int .i64 la,.int .i64 n,.slice pa ps.length pc] 45::C) pa nV ps:=bB hv
  refine iF (fun m a C'=>∃j:Nat,j+m=ps.length∧C'=pt r [.int .i64 5,.int .i64 st,.bool e,.string d,.int .i64 k,.int .i64 on,.int .i64 w,.bool x,.int .i64 c,.int .i64 la,.int .i64 n,.slice pa ps.length pc] 45::C∧Jg ps=Jg (ps.drop j)∧cN a [(1,.pointer (some ⟨r,0,none⟩)),(44,.slice pa ps.length pc),(45,.int .i64 ps.length),(46,.int .i64 j)]) ps.length (b9 ps.length ⟨0,by omega,rfl,rfl,rfl,rfl,rfl,rfl,trivial⟩) ?_
  rintro n1 a C' ⟨j,hj,rfl,hp,ha⟩
  refine gF _ ha ?_
  simp only[eQ]
  by_cases hlt:j<ps.length
  ·obtain⟨y,hy,hd⟩:=jP (l:=ps) (j:=j) (by omega)
   rw[hd] at hp
   simp only[Jg,List.all_cons] at hp
   by_cases hok:(decide (0≤y.i) && decide (y.i≤65535) && BW y.v)=true
   ·rw[hok,Bool.true_and] at hp
    simp only[Bool.and_eq_true,decide_eq_true_eq] at hok
    obtain⟨⟨o1,o2⟩,o3⟩:=hok
    repeat' (first|refine TR ?_|refine wr ?_|refine w5 ?_ ?_|((refine bh fun h=>?_) <;> try exact w6 h)|(refine aE fun hA=>?_;subst hA)|intro _|(show aA _ 298 _ _ _;refine CA (h:=Az ?_))|(show aA _ 210 _ _ _;refine CA (h:=nQ ?_)))
    exact b9 (n1 - 1) ⟨j+1,by omega,rfl,hp,rfl,rfl,rfl,rfl,trivial⟩
   ·have hok':(decide (0≤y.i) && decide (y.i≤65535) && BW y.v)=false:=by simpa using hok
    rw[hok',Bool.false_and] at hp
    have hps:Jg ps=false:=hp
    rw[hps,Bool.false_and] at hK
    have h3:(y.i<0∨65535<y.i)∨BW y.v=false:=by
     simp only[Bool.and_eq_false_iff,decide_eq_false_iff_not] at hok'
     rcases hok' with(h|h)|h
     ·exact .inl (.inl (by omega))
     ·exact .inl (.inr (by omega))
     ·exact .inr h
    rcases h3 with h3|h3
    ·repeat' (first|refine TR ?_|refine wr ?_|refine w5 ?_ ?_|((refine bh fun h=>?_) <;> try exact w6 h)|(refine aE fun hA=>?_;subst hA)|intro _|(show aA _ 298 _ _ _;refine CA (h:=Az ?_))|(show aA _ 210 _ _ _;refine CA (h:=nQ ?_)))
     all_goals(refine aC ?_;exact aB (hK))
    ·repeat' (first|refine TR ?_|refine wr ?_|refine w5 ?_ ?_|((refine bh fun h=>?_) <;> try exact w6 h)|(refine aE fun hA=>?_;subst hA)|intro _|(show aA _ 298 _ _ _;refine CA (h:=Az ?_))|(show aA _ 210 _ _ _;refine CA (h:=nQ ?_)))
     all_goals(refine aC ?_;exact aB (hK))
  ·obtain rfl:j=ps.length:=by omega
   rw[List.drop_eq_nil_of_le (by omega)] at hp
   have hps:Jg ps=true:=hp
   rw[hps,Bool.true_and] at hK
   repeat' (first|refine TR ?_|refine wr ?_|refine w5 ?_ ?_|((refine bh fun h=>?_) <;> try exact w6 h)|(refine aE fun hA=>?_;subst hA)|intro _)
   (refine aC ?_;exact aB (kb hK (by simp <;> omega)))
 ·rcases(by omega:(t<0∨11<t∨t=6∨t=4∨t=9∨t=10∨t=11)∨t=0∨t=1∨t=2∨t=3∨t=7∨t=8) with h|h|h|h|h|h|h
  ·have q0:¬t=0:=by omega
   have q1:¬t=1:=by omega
   have q2:¬t=2:=by omega
   have q3:¬t=3:=by omega
   have q7:¬t=7:=by omega
   have q8:¬t=8:=by omega
   simp only[x8,q0,q1,q2,q3,h5,q7,q8,or_self,if_false] at hK
   refine aH Tryz.func213 ?_
   repeat' (first|refine TR ?_|refine wr ?_|refine w5 ?_ ?_|((refine bh fun h=>?_) <;> try exact w6 h)|(refine aE fun hA=>?_;subst hA)|intro _|(show aA _ 210 _ _ _;refine CA (h:=nQ ?_))|(show aA _ 301 _ _ _;refine CA (h:=TV ?_)))
   all_goals(refine aC ?_;exact aB (kb hK (by simp[*])))
  all_goals
   subst h
   simp[x8] at hK
   refine aH Tryz.func213 ?_
   repeat' (first|refine TR ?_|refine wr ?_|refine w5 ?_ ?_|((refine bh fun h=>?_) <;> try exact w6 h)|(refine aE fun hA=>?_;subst hA)|intro _|(show aA _ 210 _ _ _;refine CA (h:=nQ ?_))|(show aA _ 301 _ _ _;refine CA (h:=TV ?_)))
   all_goals(refine aC ?_;exact aB (kb hK (by simp[*] <;> omega)))
end
section
variable {R C:List HP} {K:Value→List HP→Prop}
theorem LK {s t:ByteArray}:s.toList=t.toList↔s=t:=by
 constructor
 ·intro h;rw[FM,FM] at h;exact x5 h
 ·rintro rfl;rfl
theorem YR {t st:Int} {e:Bool} {d:ByteArray} {k on w:Int} {x:Bool} {c la n:Int} {pa:Option Addr} {pn pc:Nat} (hK:K (.agg #[.int .i64 t,.int .i64 st,.bool e,.string d,.int .i64 k,.int .i64 on,.int .i64 w,.bool x,.int .i64 c,.int .i64 la,.int .i64 n]) R):aA Tryz.prog 299 #[.agg #[.int .i64 t,.int .i64 st,.bool e,.string d,.int .i64 k,.int .i64 on,.int .i64 w,.bool x,.int .i64 c,.int .i64 la,.int .i64 n,.slice pa pn pc]] R K:=by
 refine aH Tryz.func299 ?_
 repeat' (first|refine v61 ?_|refine wr ?_|refine w5 ?_ ?_|((refine bh fun h=>?_) <;> try exact w6 h)|(refine aE fun hA=>?_;subst hA)|intro _)
 (refine aC ?_;exact aB (hK))
def FO (t st:Int) (e:Bool) (d:ByteArray) (k on w:Int) (x:Bool) (c la n t1 st1:Int) (e1:Bool) (d1:ByteArray) (k1 on1 w1:Int) (x1:Bool) (c1 la1 n1:Int):Prop:=t=t1∧st=st1∧e=e1∧d=d1∧k=k1∧on=on1∧w=w1∧x=x1∧c=c1∧la=la1∧n=n1
instance (t st:Int) (e:Bool) (d:ByteArray) (k on w:Int) (x:Bool) (c la n t1 st1:Int) (e1:Bool) (d1:ByteArray) (k1 on1 w1:Int) (x1:Bool) (c1 la1 n1:Int):Decidable (FO t st e d k on w x c la n t1 st1 e1 d1 k1 on1 w1 x1 c1 la1 n1):=by unfold FO;infer_instance
def DT:List (Nat×Nat):= [(0,0),(1,1),(2,1),(3,1),(4,0),(5,0),(6,0),(7,0),(8,0),(9,0),(10,1),(11,0),(12,0)]
theorem GX {t st:Int} {e:Bool} {d:ByteArray} {k on w:Int} {x:Bool} {c la n:Int} {pa:Option Addr} {pn pc:Nat} {t1 st1:Int} {e1:Bool} {d1:ByteArray} {k1 on1 w1:Int} {x1:Bool} {c1 la1 n1:Int} {R7:Option Addr} {pn1 pc1:Nat} {ps ps1:List Pr} (hv:cZ C pa nV ps) (hw:cZ C R7 nV ps1) (hn:ps.length=pn) (hn':ps1.length=pn1) (hn2:pn<1000000000000000)
  (hK:K (.bool (decide (FO t st e d k on w x c la n t1 st1 e1 d1 k1 on1 w1 x1 c1 la1 n1) && Nk ps ps1)) C):aA Tryz.prog 211 #[.agg #[.int .i64 t,.int .i64 st,.bool e,.string d,.int .i64 k,.int .i64 on,.int .i64 w,.bool x,.int .i64 c,.int .i64 la,.int .i64 n,.slice pa pn pc],.agg #[.int .i64 t1,.int .i64 st1,.bool e1,.string d1,.int .i64 k1,.int .i64 on1,.int .i64 w1,.bool x1,.int .i64 c1,.int .i64 la1,.int .i64 n1,.slice R7 pn1 pc1]] C K:=by
 refine aH Tryz.func211 ?_
 repeat' (first|refine v44 ?_|refine dw DT ?_|refine wr ?_|refine w5 ?_ ?_|((refine bh fun h=>?_) <;> try exact w6 h)|(refine aE fun hA=>?_;subst hA)|intro _|(show aA _ 299 _ _ _;refine CA (h:=YR ?_))|(show aA _ 300 _ _ _;refine CA (h:=YC (xs:=ps) (ys:=ps1) (by exact kR) (by exact kR) hn hn' hn2 ?_)))
 ·rename_i h
  have hd:decide (FO t st e d k on w x c la n t1 st1 e1 d1 k1 on1 w1 x1 c1 la1 n1)=true:=decide_eq_true (by obtain⟨a1,a2,a3,a4,a5,⟨a6,a7,a8⟩,a9,a10,a11⟩:=h;exact⟨a1,a2,a3,LK.1 a4,a5,a6,a7,a8,a9,a10,a11⟩)
  rw[hd,Bool.true_and] at hK
  (refine aC ?_;exact aB (hK))
 ·rename_i h
  have hd:decide (FO t st e d k on w x c la n t1 st1 e1 d1 k1 on1 w1 x1 c1 la1 n1)=false:=decide_eq_false (by
   rintro⟨a1,a2,a3,a4,a5,a6,a7,a8,a9,a10,a11⟩
   rw[← LK] at a4
   rcases h with h|h|h|h|h|(h|h|h)|h|h|h <;> exact h (by assumption))
  rw[hd,Bool.false_and] at hK
  (refine aC ?_;exact aB (hK))
def rK (t st:Int):Bool:=BW st && ((decide (st=0) && (decide (5≤t) && decide (t≤10))) || (decide (0<st) && (decide (t≤4) || decide (10≤t))))
def o7 (t st:Int) (e:Bool) (d:ByteArray) (k on w:Int) (x:Bool) (c la n:Int) (ps:List Pr):Bool:=decide (0≤t) && decide (t≤11) && rK t st && (decide (FO t st e d k on w x c la n t st (oE t e) (oD t d) (oK t k) (oO t on) (oO t w) (oX t x) (oC t c) (oL t la) (oN t n)) && Nk ps (oPs t ps)) && x8 t d k on w c la n ps
def LN (t st:Int) (e:Bool) (d:ByteArray) (k on w:Int) (x:Bool) (c la n:Int) (ps:List Pr):Int:=if o7 t st e d k on w x c la n ps=true then 0 else 2
theorem uH {k:Int} (h0:0≤k) (h1:k≤11) (hK:K (.tuple #[.bool (decide (5≤k) && decide (k≤10)),.bool (decide (k≤4) || decide (10≤k)),.int .i64 0]) R):aA Tryz.prog 209 #[.int .i64 k] R K:=by
 obtain⟨e1,e2,e3,e4,e5⟩:=FE k h0 h1
 refine Ob ?_
 rw[e1,e2,e4];exact hK
theorem NX {k:Int} (h0:k<0∨11<k) (hK:K (.tuple #[.bool false,.bool false,.int .i64 3]) R):aA Tryz.prog 209 #[.int .i64 k] R K:=by
 have e1:m6 k=(false,false,0,0):=by unfold m6;rw[if_pos (by omega)]
 have e2:DV k=3:=by unfold DV;rw[if_pos (by omega)]
 refine Ob ?_
 rw[e1,e2];exact hK
theorem Ru {C:List HP} {pa:Option Addr} {ps:List Pr} {t:Int} (hv:cZ C pa nV ps):cZ C (oPa t pa) nV (oPs t ps):=by
 unfold oPa oPs
 split
 ·exact hv
 ·exact eH
theorem Y4 {ps:List Pr} {t:Int} {pn:Nat} (hn:ps.length=pn):(oPs t ps).length=oPn t pn:=by
 unfold oPn oPs
 split
 ·exact hn
 ·rfl
def gR:List (Nat×Nat):= [(0,0),(1,0),(2,0),(3,0),(4,0),(5,0),(6,0),(8,0),(9,1),(7,1),(10,1),(11,0),(12,0),(13,0),(14,0),(15,1),(16,0),(17,0)]
theorem AV {t st:Int} {e:Bool} {d:ByteArray} {k on w:Int} {x:Bool} {c la n:Int} {pa:Option Addr} {pn pc:Nat} {ps:List Pr} (hv:cZ C pa nV ps) (hn:ps.length=pn) (hn2:pn<1000000000000000) (hK:K (.int .i64 (LN t st e d k on w x c la n ps)) C):aA Tryz.prog 112 #[.agg #[.int .i64 t,.int .i64 st,.bool e,.string d,.int .i64 k,.int .i64 on,.int .i64 w,.bool x,.int .i64 c,.int .i64 la,.int .i64 n,.slice pa pn pc]] C K:=by
 by_cases ht:0≤t∧t≤11
 ·obtain⟨h0,h1⟩:=ht
  have d0:decide (0≤t)=true:=decide_eq_true h0
  have d1:decide (t≤11)=true:=decide_eq_true h1
  unfold LN o7 at hK
  rw[d0,d1,Bool.true_and,Bool.true_and] at hK
  cases hs:rK t st
  ·rw[hs] at hK
   simp only[Bool.false_and,Bool.false_eq_true,if_false] at hK
   cases h3:BW st
   ·refine aH Tryz.func112 ?_
    repeat' (first|refine AK ?_|refine dw gR ?_|refine wr ?_|refine w5 ?_ ?_|((refine bh fun h=>?_) <;> try exact w6 h)|(refine aE fun hA=>?_;subst hA)|intro _|(show aA _ 209 _ _ _;refine CA (h:=uH (by assumption) (by assumption) ?_))|(show aA _ 210 _ _ _;refine CA (h:=nQ ?_)))
    all_goals(refine aC ?_;exact aB (hK))
   ·have h4:=(lV st).1 h3
    unfold rK at hs
    rw[h3,Bool.true_and] at hs
    simp only[Bool.and_eq_false_iff,Bool.or_eq_false_iff,decide_eq_false_iff_not] at hs
    refine aH Tryz.func112 ?_
    repeat' (first|refine AK ?_|refine dw gR ?_|refine wr ?_|refine w5 ?_ ?_|((refine bh fun h=>?_) <;> try exact w6 h)|(refine aE fun hA=>?_;subst hA)|intro _|(show aA _ 209 _ _ _;refine CA (h:=uH (by assumption) (by assumption) ?_))|(show aA _ 210 _ _ _;refine CA (h:=nQ ?_)))
    all_goals(refine aC ?_;exact aB (hK))
  ·rw[hs,Bool.true_and] at hK
   have h3:BW st=true:=by unfold rK at hs;rw[Bool.and_eq_true] at hs;exact hs.1
   have h4:=(lV st).1 h3
   unfold rK at hs
   rw[h3,Bool.true_and] at hs
   simp only[Bool.and_eq_true,Bool.or_eq_true,decide_eq_true_eq] at hs
   cases hq:(decide (FO t st e d k on w x c la n t st (oE t e) (oD t d) (oK t k) (oO t on) (oO t w) (oX t x) (oC t c) (oL t la) (oN t n)) && Nk ps (oPs t ps))
   ·rw[hq] at hK
    simp only[Bool.false_and,Bool.false_eq_true,if_false] at hK
    refine aH Tryz.func112 ?_
    repeat' (first|refine AK ?_|refine dw gR ?_|refine wr ?_|refine w5 ?_ ?_|((refine bh fun h=>?_) <;> try exact w6 h)|(refine aE fun hA=>?_;subst hA)|intro _|(show aA _ 209 _ _ _;refine CA (h:=uH (by assumption) (by assumption) ?_))|(show aA _ 210 _ _ _;refine CA (h:=nQ ?_))|(show aA _ 212 _ _ _;refine CA (h:=Lf ?_))|(show aA _ 211 _ _ _;refine CA (h:=GX (ps:=ps) (ps1:=oPs t ps) (bB hv) (Ru (bB hv)) hn (Y4 hn) hn2 ?_)))
    all_goals(refine aC ?_;exact aB (hK))
   ·rw[hq,Bool.true_and] at hK
    cases hf:x8 t d k on w c la n ps
    ·rw[hf] at hK
     simp only[Bool.false_eq_true,if_false] at hK
     refine aH Tryz.func112 ?_
     repeat' (first|refine AK ?_|refine dw gR ?_|refine wr ?_|refine w5 ?_ ?_|((refine bh fun h=>?_) <;> try exact w6 h)|(refine aE fun hA=>?_;subst hA)|intro _|(show aA _ 209 _ _ _;refine CA (h:=uH (by assumption) (by assumption) ?_))|(show aA _ 210 _ _ _;refine CA (h:=nQ ?_))|(show aA _ 212 _ _ _;refine CA (h:=Lf ?_))|(show aA _ 211 _ _ _;refine CA (h:=GX (ps:=ps) (ps1:=oPs t ps) (bB hv) (Ru (bB hv)) hn (Y4 hn) hn2 ?_))|(show aA _ 213 _ _ _;refine CA (h:=Kf (ps:=ps) (bB hv) hn hn2 ?_)))
     all_goals(refine aC ?_;exact aB (hK))
    ·rw[hf] at hK
     simp only[if_true] at hK
     refine aH Tryz.func112 ?_
     repeat' (first|refine AK ?_|refine dw gR ?_|refine wr ?_|refine w5 ?_ ?_|((refine bh fun h=>?_) <;> try exact w6 h)|(refine aE fun hA=>?_;subst hA)|intro _|(show aA _ 209 _ _ _;refine CA (h:=uH (by assumption) (by assumption) ?_))|(show aA _ 210 _ _ _;refine CA (h:=nQ ?_))|(show aA _ 212 _ _ _;refine CA (h:=Lf ?_))|(show aA _ 211 _ _ _;refine CA (h:=GX (ps:=ps) (ps1:=oPs t ps) (bB hv) (Ru (bB hv)) hn (Y4 hn) hn2 ?_))|(show aA _ 213 _ _ _;refine CA (h:=Kf (ps:=ps) (bB hv) hn hn2 ?_)))
     all_goals(refine aC ?_;exact aB (hK))
 ·have d0:(decide (0≤t) && decide (t≤11))=false:=by rw[Bool.and_eq_false_iff];simp;omega
  unfold LN o7 at hK
  rw[d0] at hK
  simp only[Bool.false_and,Bool.false_eq_true,if_false] at hK
  refine aH Tryz.func112 ?_
  repeat' (first|refine AK ?_|refine dw gR ?_|refine wr ?_|refine w5 ?_ ?_|((refine bh fun h=>?_) <;> try exact w6 h)|(refine aE fun hA=>?_;subst hA)|intro _|(show aA _ 209 _ _ _;refine CA (h:=NX (by omega) ?_))|(show aA _ 210 _ _ _;refine CA (h:=nQ ?_)))
  all_goals(refine aC ?_;exact aB (hK))
end
section
variable {R C:List HP} {K:Value→List HP→Prop}
def k6 (t st:Int) (e:Bool) (d:ByteArray) (k on w:Int) (x:Bool) (c la n:Int) (ps:List Pr):Prop:=(0≤t∧t≤11)∧(0≤st∧st≤2147483647)∧(st=0→5≤t∧t≤10)∧(0<st→t≤4∨10≤t)∧(e=true→t≤1)∧(k≠0→t=2)∧(c≠0→t=4∨t=9)∧(la≠0→t=9)∧(n≠0→10≤t)∧(0<ps.length→t=5)∧(BR on w x=false→t=2∨t=3)∧(0<d.size→t≤1∨t=7∨t=8)∧(t≤1→d.size≤256)∧(t=7∨t=8→d.size=8)∧(t=2→k=1∨k=2)∧(t=2∨t=3→Ii on w=true)∧Jg ps=true∧BW c=true∧BW la=true∧BW n=true∧ps.length≤8
theorem Ab9 {d:ByteArray}:d=⟨#[]⟩↔d.size=0:=by
 constructor
 ·rintro rfl;rfl
 ·intro h;apply ByteArray.ext;exact Array.eq_empty_of_size_eq_zero h
theorem Ac2 (on w:Int) (x:Bool):BR on w x=true↔(on=0∧w=0∧x=false):=by unfold BR;cases x <;> simp
theorem Yn {l:List Pr}:l.length=0→Jg l=true:=fun h=>by rw[List.length_eq_zero_iff.1 h];rfl
theorem tO (t st:Int) (e:Bool) (d:ByteArray) (k on w:Int) (x:Bool) (c la n:Int) (ps:List Pr):o7 t st e d k on w x c la n ps=true↔k6 t st e d k on w x c la n ps:=by
 have hn0:BW 0=true:=by decide
 have hst:=lV st
 have h0:= @Yn ps
 have hnn:=Ac2 on w x
 have hpn:Nk ps []=true↔ps.length=0:=by rw[Aft];simp
 have hps:=NT ps
 have hd:= @Ab9 d
 rcases(by omega:(t<0∨11<t)∨t=0∨t=1∨t=2∨t=3∨t=4∨t=5∨t=6∨t=7∨t=8∨t=9∨t=10∨t=11) with h|h|h|h|h|h|h|h|h|h|h|h|h
 ·constructor
  ·intro hh
   unfold o7 at hh
   simp only[Bool.and_eq_true,decide_eq_true_eq] at hh
   omega
  ·intro hh
   have:=hh.1
   omega
 all_goals
  subst h
  unfold o7 k6 rK FO x8
  simp only[oE,oD,oK,oO,oX,oC,oL,oN,oPs,Bool.and_eq_true,Bool.or_eq_true,decide_eq_true_eq]
  grind
end
end Go.Proofs.YtifgibijcmppmaaGreat
namespace Go.Proofs.YtifgibijcmppmaaGreat
open Go Go.Proofs Go.Sl
def GJ (e:Bool):Int:=match e with
 |true=>1
 |false=>0
theorem N4 (e:Bool):0≤GJ e∧GJ e≤1:=by cases e <;> decide
theorem YX:(256:Int) ^ (2:Nat)=65536:=by decide
end Go.Proofs.YtifgibijcmppmaaGreat
section
namespace Go.Proofs.YtifgibijcmppmaaGreat
open Go Go.Proofs Go.Sl
set_option maxRecDepth 100000
set_option maxHeartbeats 40000000
attribute [local irreducible] aN fB cJ bO aM aY aA dM dQ aW dK pt ro fF star sep bI
variable {R C:List HP} {K:Value→List HP→Prop}
def Ag6 (r:Nat) (xs:List Pc):HP:=fF fun A=>fF fun c=>sep (pt r [.slice A xs.length c] 377) (bT A c 369 pcC xs)
theorem U3 {r n c:Nat} {A:Option Addr} {xs ys:List Pc} (hv:cZ R A pcC ys) (hn:ys.length=n) (hl:xs.length+n<1000000000) (hK:K (.tuple #[]) (Ag6 r (xs++ys)::R)):
  aA Tryz.prog 347 #[.slice A n c,.pointer (some ⟨r,0,none⟩)] (Ag6 r xs::R) K:=by
 refine aA.ex fun A=>aA.ex fun c=>aA.sep ?_
 refine aH Tryz.func347 ?_
 repeat' (first|refine v36 ?_|refine wr ?_|refine w5 ?_ ?_|((refine bh fun h=>?_) <;> try exact w6 h)|(refine aE fun hA=>?_;subst hA)|intro _)
 refine aC ?_
 exact aL (by exact bA) hK
theorem N3 {n:Int} (hK:K (.agg #[.int .i64 n,.int .i64 4,.string ⟨#[]⟩]) R):aA Tryz.prog 348 #[.int .i64 n] R K:=by
 refine aH Tryz.func348 ?_
 repeat' (first|refine v31 ?_|refine wr ?_|refine w5 ?_ ?_|((refine bh fun h=>?_) <;> try exact w6 h)|(refine aE fun hA=>?_;subst hA)|intro _|(show aA _ 336 _ _ _;refine CA (h:=Ab2 ?_)))
 (refine aC ?_;exact aB (hK))
theorem TP {e:Bool} (hK:K (.int .i64 (GJ e)) R):aA Tryz.prog 270 #[.bool e] R K:=by
 refine aH Tryz.func270 ?_
 cases e
 all_goals
  repeat' (first|refine v0 ?_|refine wr ?_|refine w5 ?_ ?_|((refine bh fun h=>?_) <;> try exact w6 h)|(refine aE fun hA=>?_;subst hA)|intro _)
  (refine aC ?_;exact aB (hK))
def eR (t:Int) (d:ByteArray) (k on w:Int) (x:Bool) (c la n:Int):List Pc:=if t=0∨t=1∨t=7∨t=8 then [⟨0,0,d⟩] else if t=2∨t=3 then [⟨k,1,⟨#[]⟩⟩,⟨GJ x,1,⟨#[]⟩⟩,⟨w - 1,1,⟨#[]⟩⟩,⟨0,1,⟨#[]⟩⟩,⟨on,4,⟨#[]⟩⟩] else if t=4 then [⟨c,4,⟨#[]⟩⟩] else if t=9 then [⟨la,4,⟨#[]⟩⟩,⟨c,4,⟨#[]⟩⟩] else if t=10∨t=11 then [⟨n,4,⟨#[]⟩⟩] else []
def yG (ps:List Pr):List Pc:=ps.flatMap fun p=> [⟨p.i,2,⟨#[]⟩⟩,⟨p.v,4,⟨#[]⟩⟩]
section
variable {t:Int} {d:ByteArray} {k on w:Int} {x:Bool} {c la n:Int}
theorem L2 (h:t=0∨t=1∨t=7∨t=8):eR t d k on w x c la n= [⟨0,0,d⟩]:=by unfold eR;rw[if_pos h]
theorem hp2 (h:t=2∨t=3):eR t d k on w x c la n= [⟨k,1,⟨#[]⟩⟩,⟨GJ x,1,⟨#[]⟩⟩,⟨w - 1,1,⟨#[]⟩⟩,⟨0,1,⟨#[]⟩⟩,⟨on,4,⟨#[]⟩⟩]:=by unfold eR;rw[if_neg (by omega),if_pos h]
theorem hp3 (h:t=4):eR t d k on w x c la n= [⟨c,4,⟨#[]⟩⟩]:=by unfold eR;rw[if_neg (by omega),if_neg (by omega),if_pos h]
theorem hp4 (h:t=9):eR t d k on w x c la n= [⟨la,4,⟨#[]⟩⟩,⟨c,4,⟨#[]⟩⟩]:=by unfold eR;rw[if_neg (by omega),if_neg (by omega),if_neg (by omega),if_pos h]
theorem hp5 (h:t=10∨t=11):eR t d k on w x c la n= [⟨n,4,⟨#[]⟩⟩]:=by unfold eR;rw[if_neg (by omega),if_neg (by omega),if_neg (by omega),if_neg (by omega),if_pos h]
theorem hp6 (h:¬(t=0∨t=1∨t=7∨t=8)∧¬(t=2∨t=3)∧¬t=4∧¬t=9∧¬(t=10∨t=11)):eR t d k on w x c la n= []:=by unfold eR;rw[if_neg h.1,if_neg h.2.1,if_neg h.2.2.1,if_neg h.2.2.2.1,if_neg h.2.2.2.2]
end
theorem Wu (t:Int) (d:ByteArray) (k on w:Int) (x:Bool) (c la n:Int):(eR t d k on w x c la n).length≤5:=by
 unfold eR
 (repeat' split) <;> simp
theorem HF:∀ps:List Pr,(yG ps).length=2 * ps.length
 | []=>rfl
 |p::l=>by
  have:=HF l
  unfold yG at this ⊢
  simp only[List.flatMap_cons,List.length_append,List.length_cons,List.length_nil,this]
  omega
theorem V7 {ps:List Pr} {j:Nat} {y:Pr} (h:ps[j]?=some y):yG (ps.take (j+1))=yG (ps.take j)++ [⟨y.i,2,⟨#[]⟩⟩,⟨y.v,4,⟨#[]⟩⟩]:=by
 unfold yG
 rw[List.take_add_one,h]
 simp
def jQ:List Nat:= [0,0,2,6,0,16,48,126,254,0,512,1536,3584,8190,16382,0,0,65536,196608,524286,1048574,2097151]
def jL:List Nat:= [2097151,1048574,524286,196608,65536,0,0,16382,8190,3584,1536,512,0,254,126,48,16,0,6,2,0,0]
def jK:List (Nat×Nat):= [(1,0),(2,0),(3,1),(4,1),(5,1),(6,1),(7,1),(8,1),(9,3),(10,3),(11,3),(12,3),(13,1),(14,1),(15,5),(16,5),(17,5),(18,5),(19,1),(20,1),(0,7),(21,1)]
def jM:List (Nat×Nat):= [(1,0),(2,0),(3,0),(4,1),(5,1),(6,1),(7,1),(8,1),(9,1),(0,3),(10,1)]
def jG:List (Nat×Nat):= [(1,0),(2,0),(3,1),(4,1),(5,1),(6,1),(7,1),(8,1),(0,3),(9,1)]
theorem Tg {t st:Int} {e:Bool} {d:ByteArray} {k on w:Int} {x:Bool} {c la n:Int} {pa:Option Addr} {pn pc:Nat} {ps:List Pr} (hv:cZ C pa nV ps) (hn:ps.length=pn) (hn2:pn<100000000) (hk:1≤w∧w≤1000∨¬(t=2∨t=3)) (hK:K (.string (u7 (eR t d k on w x c la n++yG ps))) C):aA Tryz.prog 268 #[.agg #[.int .i64 t,.int .i64 st,.bool e,.string d,.int .i64 k,.int .i64 on,.int .i64 w,.bool x,.int .i64 c,.int .i64 la,.int .i64 n,.slice pa pn pc]] C K:=by
 subst hn
 have hh:=Wu t d k on w x c la n
 refine aH Tryz.func268 ?_
 repeat' (first|(show fB _ (.block 0 _) _ _ _;refine Akg (fun a C'=>∃b r:Nat,C'=Ag6 r (eR t d k on w x c la n)::pt b [.int .i64 t,.int .i64 st,.bool e,.string d,.int .i64 k,.int .i64 on,.int .i64 w,.bool x,.int .i64 c,.int .i64 la,.int .i64 n,.slice pa ps.length pc] 45::C∧cN a [(1,.pointer (some ⟨b,0,none⟩)),(3,.pointer (some ⟨r,0,none⟩)),(4,.func (.func 347) #[] #[.pointer (some ⟨r,0,none⟩)]),(5,.func (.func 348) #[] #[])]) ?_ (fun a C' hI=>?_))|refine I5 ?_|refine Iu jQ jL jK ?_|refine dw jM ?_|refine dw jG ?_|refine wr ?_|refine w5 ?_ ?_|((refine bh fun h=>?_) <;> try exact w6 h)|(refine aE fun hA=>?_;subst hA)|intro _|(show aA _ 347 _ _ _;refine CA (h:=U3 (xs:= []) (by exact kR) (by exact rfl) (by decide) ?_))|(show aA _ 348 _ _ _;refine CA (h:=N3 ?_))|(show aA _ 270 _ _ _;refine CA (h:=TP ?_))|(show aA _ 336 _ _ _;refine CA (h:=Ab2 ?_))|(show aA _ 349 _ _ _;refine CA (h:=Al7 ?_)))
 all_goals first
  |(show dK _ _ _
    first
     |rw[L2 (by omega)]
     |rw[hp2 (by omega)]
     |rw[hp3 (by omega)]
     |rw[hp4 (by omega)]
     |rw[hp5 (by omega)]
     |rw[hp6 (by omega)]
    exact YL ⟨_,_,rfl,rfl,rfl,rfl,rfl,trivial⟩)
  |skip
 obtain⟨b,r,rfl,ha⟩:=hI
 refine⟨?_⟩
 refine t_n ?_
 refine gF _ ha ?_
 simp only[eQ]
 repeat' (first|refine I5 ?_|refine Iu jQ jL jK ?_|refine dw jM ?_|refine dw jG ?_|refine wr ?_|refine w5 ?_ ?_|((refine bh fun h=>?_) <;> try exact w6 h)|(refine aE fun hA=>?_;subst hA)|intro _)
 have hpl:=HF ps
 have e0:eR t d k on w x c la n=eR t d k on w x c la n++yG (ps.take 0):=by rw[List.take_zero];exact(List.append_nil _).symm
 rw[e0]
 have hv2:cZ (pt b [.int .i64 t,.int .i64 st,.bool e,.string d,.int .i64 k,.int .i64 on,.int .i64 w,.bool x,.int .i64 c,.int .i64 la,.int .i64 n,.slice pa ps.length pc] 45::C) pa nV ps:=bB hv
 refine iF (fun m a C'=>∃j:Nat,j+m=ps.length∧C'=Ag6 r (eR t d k on w x c la n++yG (ps.take j))::pt b [.int .i64 t,.int .i64 st,.bool e,.string d,.int .i64 k,.int .i64 on,.int .i64 w,.bool x,.int .i64 c,.int .i64 la,.int .i64 n,.slice pa ps.length pc] 45::C∧cN a [(3,.pointer (some ⟨r,0,none⟩)),(4,.func (.func 347) #[] #[.pointer (some ⟨r,0,none⟩)]),(5,.func (.func 348) #[] #[]),(82,.slice pa ps.length pc),(83,.int .i64 ps.length),(84,.int .i64 j)]) ps.length (b9 ps.length ⟨0,by omega,rfl,rfl,rfl,rfl,rfl,rfl,rfl,trivial⟩) ?_
 rintro n1 a C' ⟨j,hj,rfl,ha⟩
 refine gF _ ha ?_
 simp only[eQ]
 by_cases hlt:j<ps.length
 ·obtain⟨y,hy,hd⟩:=jP (l:=ps) (j:=j) (by omega)
  have ht:=V7 hy
  have hl2:(eR t d k on w x c la n++yG (ps.take j)).length+2<1000000000:=by
   rw[List.length_append,HF,List.length_take];omega
  repeat' (first|refine I5 ?_|refine Iu jQ jL jK ?_|refine dw jM ?_|refine dw jG ?_|refine wr ?_|refine w5 ?_ ?_|((refine bh fun h=>?_) <;> try exact w6 h)|(refine aE fun hA=>?_;subst hA)|intro _|(show aA _ 347 _ _ _;refine CA (h:=U3 (xs:=eR t d k on w x c la n++yG (ps.take j)) (by exact kR) (by exact rfl) hl2 ?_))|(show aA _ 348 _ _ _;refine CA (h:=N3 ?_))|(show aA _ 336 _ _ _;refine CA (h:=Ab2 ?_)))
  all_goals exact b9 (n1 - 1) ⟨j+1,by omega,by rw[ht,← List.append_assoc],rfl,rfl,rfl,rfl,rfl,rfl,trivial⟩
 ·obtain rfl:j=ps.length:=by omega
  rw[List.take_of_length_le (Nat.le_refl _)]
  refine wG fun A=>wG fun c'=>Gr ?_
  have hl2:(eR t d k on w x c la n++yG ps).length=(eR t d k on w x c la n).length+(yG ps).length:=List.length_append
  repeat' (first|refine I5 ?_|refine Iu jQ jL jK ?_|refine dw jM ?_|refine dw jG ?_|refine wr ?_|refine w5 ?_ ?_|((refine bh fun h=>?_) <;> try exact w6 h)|(refine aE fun hA=>?_;subst hA)|intro _|(show aA _ 335 _ _ _;refine CA (h:=QF (ps:=eR t d k on w x c la n++yG ps) (by exact kR) rfl (by omega) ?_)))
  (refine aC ?_;exact aB (hK))
end Go.Proofs.YtifgibijcmppmaaGreat
namespace Go.Proofs.YtifgibijcmppmaaGreat
open Go Go.Proofs Go.Sl
set_option maxRecDepth 100000
set_option maxHeartbeats 40000000
attribute [local irreducible] aN fB cJ bO aM aY aA dM dQ aW dK pt ro fF star sep bI
variable {R C:List HP} {K:Value→List HP→Prop}
theorem KT:∀(ps:List Pc) (n:Int),0≤n→eM ps=0→n+(kQ ps).length≤4096→Je ps n≤4096
 | [],n,_,_,h=>by simp[Je,kQ] at h ⊢;omega
 |p::l,n,h0,he,h=>by
  obtain⟨h1,h2⟩:=AA he
  have hl:=MH (n:=p.n) (s:=p.s) (Dz h1)
  have hc:((kQ (p::l)).length:Int)=kD p.w p.s+(kQ l).length:=by rw[← hl];simp[kQ]
  have hnn:=Fj p.w p.s
  have hm:min (kD p.w p.s) 4097=kD p.w p.s:=by omega
  unfold Je
  rw[hm,if_neg (by omega)]
  exact KT l _ (by omega) h2 (by omega)
theorem Aj9 {ps:List Pc} (h:eM ps=0) (h2:(kQ ps).length≤4096):u7 ps=⟨(kQ ps).toArray⟩:=by
 have h3:=KT ps 0 (by omega) h (by omega)
 have he:xL ps=0:=by
  unfold xL
  rw[if_pos h,if_neg (by omega)]
 unfold u7
 rw[if_pos he]
theorem HO:∀(a b:List Pc),eM a=0→eM b=0→eM (a++b)=0
 | [],b,_,h=>h
 |p::l,b,h1,h=>by
  obtain⟨h2,h3⟩:=AA h1
  show(if iY p.n p.w=0 then eM (l++b) else _)=0
  rw[if_pos h2]
  exact HO l b h3 h
def Xd (ps:List Pr):List UInt8:=ps.flatMap fun p=>wB p.i 2++wB p.v 4
def nC (t:Int) (d:ByteArray) (k on w:Int) (x:Bool) (c la n:Int) (ps:List Pr):List UInt8:=if t=2∨t=3 then wB k 1++(wB (GJ x) 1++(wB (w - 1) 1++(wB 0 1++wB on 4))) else if t=4 then wB c 4 else if t=9 then wB la 4++wB c 4 else if t=10∨t=11 then wB n 4 else d.data.toList++Xd ps
theorem Gu:∀ps:List Pr,(Xd ps).length=6 * ps.length
 | []=>rfl
 |p::l=>by
  have:=Gu l
  unfold Xd at this ⊢
  simp only[List.flatMap_cons,List.length_append,List.length_cons,this,nZ]
  have a2:(2:Int).toNat=2:=rfl
  have a4:(4:Int).toNat=4:=rfl
  omega
theorem Aba {ps:List Pr} {j:Nat} {y:Pr} (h:ps[j]?=some y):Xd (ps.take (j+1))=Xd (ps.take j)++(wB y.i 2++wB y.v 4):=by
 unfold Xd
 rw[List.take_add_one,h]
 simp
theorem KJ {n:Int} (h:BW n=true):iY n 4=0:=by
 obtain⟨p1,p3,p4⟩:=S9
 have m:=B5 (n:=n) (w:=4) (by decide)
 rw[show(4:Int).toNat=4 from rfl,p4] at m
 have:=(lV n).1 h
 exact m.2 (by omega)
theorem Ak3 {n:Int} (h:0≤n∧n≤65535):iY n 2=0:=by
 have m:=B5 (n:=n) (w:=2) (by decide)
 rw[show(2:Int).toNat=2 from rfl,YX] at m
 exact m.2 (by omega)
theorem Ae1 {n:Int} (h:0≤n∧n≤255):iY n 1=0:=by
 obtain⟨p1,p3,p4⟩:=S9
 have m:=B5 (n:=n) (w:=1) (by decide)
 rw[show(1:Int).toNat=1 from rfl,p1] at m
 exact m.2 (by omega)
theorem Ia:∀ {ps:List Pr},Jg ps=true→eM (yG ps)=0
 | [],_=>rfl
 |p::l,h=>by
  simp only[Jg,List.all_cons,Bool.and_eq_true,decide_eq_true_eq] at h
  have:=Ia (ps:=l) (by unfold Jg;simpa using h.2)
  show eM (⟨p.i,2,⟨#[]⟩⟩::⟨p.v,4,⟨#[]⟩⟩::yG l)=0
  simp only[eM]
  rw[if_pos (Ak3 h.1.1),if_pos (KJ h.1.2)]
  exact this
theorem IF:∀ps:List Pr,kQ (yG ps)=Xd ps
 | []=>rfl
 |p::l=>by
  have:=IF l
  show kQ (⟨p.i,2,⟨#[]⟩⟩::⟨p.v,4,⟨#[]⟩⟩::yG l)=Xd (p::l)
  unfold kQ at this ⊢
  rw[List.flatMap_cons,List.flatMap_cons,this]
  simp[NN,Xd]
theorem Pl (a b:List Pc):kQ (a++b)=kQ a++kQ b:=by unfold kQ;simp
theorem DG {t st:Int} {e:Bool} {d:ByteArray} {k on w:Int} {x:Bool} {c la n:Int} {ps:List Pr} (h:k6 t st e d k on w x c la n ps):u7 (eR t d k on w x c la n++yG ps)=⟨(nC t d k on w x c la n ps).toArray⟩∧(nC t d k on w x c la n ps).length≤256:=by
 obtain⟨h1,h2,h3,h4,h5,h6,h7,h8,h9,h10,h11,h12,h13,h14,h15,h16,h17,h18,h19,h20,h21⟩:=h
 have hd:d.data.toList.length=d.size:=by simp
 have hp:=Ia h17
 have hl:=Gu ps
 have a1:(1:Int).toNat=1:=rfl
 have a4:(4:Int).toNat=4:=rfl
 have key:∀hs:List Pc,eR t d k on w x c la n=hs→eM hs=0→kQ hs++Xd ps=nC t d k on w x c la n ps→(nC t d k on w x c la n ps).length≤256→u7 (eR t d k on w x c la n++yG ps)=⟨(nC t d k on w x c la n ps).toArray⟩∧(nC t d k on w x c la n ps).length≤256:=by
  intro hs e1 e2 e3 e4
  rw[e1,Aj9 (HO _ _ e2 hp) (by rw[Pl,IF,e3];omega),Pl,IF,e3]
  exact⟨rfl,e4⟩
 have hps:¬t=5→Xd ps= []:=fun h=>by
  have:ps.length=0:=by
   rcases Nat.eq_zero_or_pos ps.length with h'|h'
   ·exact h'
   ·exact absurd (h10 h') h
  rw[List.length_eq_zero_iff.1 this];rfl
 rcases(by omega:(t=0∨t=1∨t=7∨t=8)∨(t=2∨t=3)∨t=4∨t=9∨(t=10∨t=11)∨t=5∨t=6) with h|h|h|h|h|h|h
 ·refine key [⟨0,0,d⟩] (by unfold eR;rw[if_pos h]) rfl ?_ ?_
  ·rw[hps (by omega)]
   unfold nC
   rw[if_neg (by omega),if_neg (by omega),if_neg (by omega),if_neg (by omega),hps (by omega)]
   simp[kQ,NN,show wB 0 0= [] from rfl]
  ·unfold nC
   rw[if_neg (by omega),if_neg (by omega),if_neg (by omega),if_neg (by omega),hps (by omega)]
   rw[List.append_nil,hd]
   by_cases h':t≤1
   ·exact h13 h'
   ·have:=h14 (by omega);omega
 ·have hdep:=h16 h
  unfold Ii at hdep
  simp only[Bool.and_eq_true,decide_eq_true_eq] at hdep
  have hb:=N4 x
  have hk:0≤k∧k≤255:=by
   by_cases h2:t=2
   ·have:=h15 h2;omega
   ·have:k=0:=Classical.byContradiction fun h'=>h2 (h6 h')
    omega
  refine key [⟨k,1,⟨#[]⟩⟩,⟨GJ x,1,⟨#[]⟩⟩,⟨w - 1,1,⟨#[]⟩⟩,⟨0,1,⟨#[]⟩⟩,⟨on,4,⟨#[]⟩⟩] (by unfold eR;rw[if_neg (by omega),if_pos h]) ?_ ?_ ?_
  ·simp only[eM]
   rw[if_pos (Ae1 hk),if_pos (Ae1 (by omega)),if_pos (Ae1 (by omega)),if_pos (Ae1 (by omega)),if_pos (KJ hdep.1)]
  ·rw[hps (by omega)]
   unfold nC
   rw[if_pos h]
   simp[kQ,NN]
  ·unfold nC
   rw[if_pos h]
   simp only[List.length_append,nZ]
   omega
 ·refine key [⟨c,4,⟨#[]⟩⟩] (by unfold eR;rw[if_neg (by omega),if_neg (by omega),if_pos h]) ?_ ?_ ?_
  ·simp only[eM]
   rw[if_pos (KJ h18)]
  ·rw[hps (by omega)]
   unfold nC
   rw[if_neg (by omega),if_pos h]
   simp[kQ,NN]
  ·unfold nC
   rw[if_neg (by omega),if_pos h,nZ]
   omega
 ·refine key [⟨la,4,⟨#[]⟩⟩,⟨c,4,⟨#[]⟩⟩] (by unfold eR;rw[if_neg (by omega),if_neg (by omega),if_neg (by omega),if_pos h]) ?_ ?_ ?_
  ·simp only[eM]
   rw[if_pos (KJ h19),if_pos (KJ h18)]
  ·rw[hps (by omega)]
   unfold nC
   rw[if_neg (by omega),if_neg (by omega),if_pos h]
   simp[kQ,NN]
  ·unfold nC
   rw[if_neg (by omega),if_neg (by omega),if_pos h,List.length_append,nZ,nZ]
   omega
 ·refine key [⟨n,4,⟨#[]⟩⟩] (by unfold eR;rw[if_neg (by omega),if_neg (by omega),if_neg (by omega),if_neg (by omega),if_pos h]) ?_ ?_ ?_
  ·simp only[eM]
   rw[if_pos (KJ h20)]
  ·rw[hps (by omega)]
   unfold nC
   rw[if_neg (by omega),if_neg (by omega),if_neg (by omega),if_pos h]
   simp[kQ,NN]
  ·unfold nC
   rw[if_neg (by omega),if_neg (by omega),if_neg (by omega),if_pos h,nZ]
   omega
 all_goals
  have hd0:d.data.toList= []:=by
   rcases Nat.eq_zero_or_pos d.size with h'|h'
   ·exact List.length_eq_zero_iff.1 (by omega)
   ·have:=h12 h';omega
  refine key [] (by unfold eR;rw[if_neg (by omega),if_neg (by omega),if_neg (by omega),if_neg (by omega),if_neg (by omega)]) rfl ?_ ?_
  ·unfold nC
   rw[if_neg (by omega),if_neg (by omega),if_neg (by omega),if_neg (by omega),hd0]
   rfl
  ·unfold nC
   rw[if_neg (by omega),if_neg (by omega),if_neg (by omega),if_neg (by omega),hd0,List.nil_append]
   omega
end Go.Proofs.YtifgibijcmppmaaGreat
end
namespace Go.Proofs.YtifgibijcmppmaaGreat
open Go Go.Proofs Go.Sl
set_option maxRecDepth 100000
set_option maxHeartbeats 40000000
attribute [local irreducible] aN fB cJ bO aM aY aA dM dQ aW dK pt ro fF star sep bI
section
variable {R C:List HP} {K:Value→List HP→Prop}
theorem Acy (s:ByteArray) (i j:Nat):xT s i j=zR ((s.data.toList.drop i).take (j - i)):=by
 unfold xT;simp[List.extract]
theorem DO (s:ByteArray) (i j:Nat):0≤xT s i j∧xT s i j<256 ^ (j - i):=by
 rw[Acy]
 refine⟨U8 _,Int.lt_of_lt_of_le (UA _) ?_⟩
 exact_mod_cast Nat.pow_le_pow_right (by decide) (by rw[List.length_take];omega)
end
end Go.Proofs.YtifgibijcmppmaaGreat
section
namespace Go.Proofs.YtifgibijcmppmaaGreat
open Go Go.Proofs Go.Sl
set_option maxRecDepth 100000
set_option maxHeartbeats 40000000
attribute [local irreducible] aN fB cJ bO aM aY aA dM dQ aW dK pt ro fF star sep bI
variable {R C:List HP} {K:Value→List HP→Prop}
def b2 (t st:Int):Bool:=!(decide (0≤t) && decide (t≤11) && rK t st)
def b4 (t:Int) (e:Bool) (k c la n:Int) (m:Nat):Bool:=(e && decide (1<t)) || (!decide (k=0) && !decide (t=2)) || (!decide (c=0) && !decide (t=4) && !decide (t=9)) || (!decide (la=0) && !decide (t=9)) || (!decide (n=0) && decide (t<10)) || (decide (0<m) && !decide (t=5))
theorem Alz {Q:Exit→Fr→List HP→Prop} {a:Fr} {t st:Int} {e:Bool} {d:ByteArray} {k on w:Int} {x:Bool} {c la n:Int} {pa:Option Addr} {pn pc:Nat} {r:Nat} (ha:cN a [(1,.pointer (some ⟨r,0,none⟩)),(2,.bool false),(3,.int .i64 t)]) (hK:∀a,Q .normal (eQ a [(1,.pointer (some ⟨r,0,none⟩)),(2,.bool false),(3,.int .i64 t),(38,.bool (b2 t st))]) (pt r [.int .i64 t,.int .i64 st,.bool e,.string d,.int .i64 k,.int .i64 on,.int .i64 w,.bool x,.int .i64 c,.int .i64 la,.int .i64 n,.slice pa pn pc] 45::C)):fB Tryz.prog (DJ Tryz.f12 2) Q a (pt r [.int .i64 t,.int .i64 st,.bool e,.string d,.int .i64 k,.int .i64 on,.int .i64 w,.bool x,.int .i64 c,.int .i64 la,.int .i64 n,.slice pa pn pc] 45::C):=by
 have hst:=lV st
 have hno:=Acb st
 refine gF _ ha ?_
 simp only[eQ]
 repeat' (first|refine EL ?_|refine wr ?_|refine w5 ?_ ?_|((refine bh fun h=>?_) <;> try exact w6 h)|(refine aE fun hA=>?_;subst hA)|intro _|(show aA _ 62 _ _ _;refine CA (h:=xI ?_))|(show aA _ 63 _ _ _;refine CA (h:=Abd ?_))|(show aA _ 64 _ _ _;refine CA (h:=Aes ?_)))
 all_goals exact AY (p:=fun a=>Q .normal a _) [(1,.pointer (some ⟨r,0,none⟩)),(2,.bool false),(3,.int .i64 t),(38,.bool (b2 t st))] ⟨rfl,rfl,rfl,congrArg Value.bool (by unfold b2 rK;grind),trivial⟩ (hK _)
theorem Akn {Q:Exit→Fr→List HP→Prop} {a:Fr} {t st:Int} {e:Bool} {d:ByteArray} {k on w:Int} {x:Bool} {c la n:Int} {pa:Option Addr} {pn pc:Nat} {r:Nat} (ha:cN a [(1,.pointer (some ⟨r,0,none⟩)),(2,.bool false),(3,.int .i64 t)]) (hK:∀a,Q .normal (eQ a [(1,.pointer (some ⟨r,0,none⟩)),(2,.bool false),(3,.int .i64 t),(94,.bool (b4 t e k c la n pn))]) (pt r [.int .i64 t,.int .i64 st,.bool e,.string d,.int .i64 k,.int .i64 on,.int .i64 w,.bool x,.int .i64 c,.int .i64 la,.int .i64 n,.slice pa pn pc] 45::C)):fB Tryz.prog (DJ Tryz.f12 4) Q a (pt r [.int .i64 t,.int .i64 st,.bool e,.string d,.int .i64 k,.int .i64 on,.int .i64 w,.bool x,.int .i64 c,.int .i64 la,.int .i64 n,.slice pa pn pc] 45::C):=by
 refine gF _ ha ?_
 simp only[eQ]
 repeat' (first|refine EL ?_|refine wr ?_|refine w5 ?_ ?_|((refine bh fun h=>?_) <;> try exact w6 h)|(refine aE fun hA=>?_;subst hA)|intro _)
 all_goals exact AY (p:=fun a=>Q .normal a _) [(1,.pointer (some ⟨r,0,none⟩)),(2,.bool false),(3,.int .i64 t),(94,.bool (b4 t e k c la n pn))] ⟨rfl,rfl,rfl,congrArg Value.bool (by unfold b4;grind),trivial⟩ (hK _)
end Go.Proofs.YtifgibijcmppmaaGreat
namespace Go.Proofs.YtifgibijcmppmaaGreat
open Go Go.Proofs Go.Sl
set_option maxRecDepth 100000
set_option maxHeartbeats 40000000
attribute [local irreducible] aN fB cJ bO aM aY aA dM dQ aW dK pt ro fF star sep bI
variable {R C:List HP} {K:Value→List HP→Prop}
def b6 (t:Int) (d:ByteArray) (on w:Int) (x:Bool):Bool:=(!BR on w x && !decide (t=2) && !decide (t=3)) || (!decide (d=⟨#[]⟩) && decide (1<t) && !decide (t=7) && !decide (t=8))
def b8 (t:Int) (d:ByteArray) (k on w:Int):Bool:=(decide (t≤1) && decide (256<d.size)) || ((decide (t=7) || decide (t=8)) && !decide (d.size=8)) || (decide (t=2) && !decide (k=1) && !decide (k=2)) || ((decide (t=2) || decide (t=3)) && !Ii on w)
theorem Ako {Q:Exit→Fr→List HP→Prop} {a:Fr} {t st:Int} {e:Bool} {d:ByteArray} {k on w:Int} {x:Bool} {c la n:Int} {pa:Option Addr} {pn pc:Nat} {r:Nat} (ha:cN a [(1,.pointer (some ⟨r,0,none⟩)),(2,.bool false),(3,.int .i64 t)]) (hK:∀a,Q .normal (eQ a [(1,.pointer (some ⟨r,0,none⟩)),(2,.bool false),(3,.int .i64 t),(123,.bool (b6 t d on w x))]) (pt r [.int .i64 t,.int .i64 st,.bool e,.string d,.int .i64 k,.int .i64 on,.int .i64 w,.bool x,.int .i64 c,.int .i64 la,.int .i64 n,.slice pa pn pc] 45::C)):fB Tryz.prog (DJ Tryz.f12 6) Q a (pt r [.int .i64 t,.int .i64 st,.bool e,.string d,.int .i64 k,.int .i64 on,.int .i64 w,.bool x,.int .i64 c,.int .i64 la,.int .i64 n,.slice pa pn pc] 45::C):=by
 refine gF _ ha ?_
 simp only[eQ]
 have hs:= @LK d ⟨#[]⟩
 repeat' (first|refine EL ?_|refine wr ?_|refine w5 ?_ ?_|((refine bh fun h=>?_) <;> try exact w6 h)|(refine aE fun hA=>?_;subst hA)|intro _|(show aA _ 65 _ _ _;refine CA (h:=YZ ?_)))
 all_goals exact AY (p:=fun a=>Q .normal a _) [(1,.pointer (some ⟨r,0,none⟩)),(2,.bool false),(3,.int .i64 t),(123,.bool (b6 t d on w x))] ⟨rfl,rfl,rfl,congrArg Value.bool (by clear ha hK;unfold b6;grind),trivial⟩ (hK _)
theorem Alx {Q:Exit→Fr→List HP→Prop} {a:Fr} {t st:Int} {e:Bool} {d:ByteArray} {k on w:Int} {x:Bool} {c la n:Int} {pa:Option Addr} {pn pc:Nat} {r:Nat} (ha:cN a [(1,.pointer (some ⟨r,0,none⟩)),(2,.bool false),(3,.int .i64 t)]) (hK:∀a,Q .normal (eQ a [(1,.pointer (some ⟨r,0,none⟩)),(2,.bool false),(3,.int .i64 t),(173,.bool (b8 t d k on w))]) (pt r [.int .i64 t,.int .i64 st,.bool e,.string d,.int .i64 k,.int .i64 on,.int .i64 w,.bool x,.int .i64 c,.int .i64 la,.int .i64 n,.slice pa pn pc] 45::C)):fB Tryz.prog (DJ Tryz.f12 8) Q a (pt r [.int .i64 t,.int .i64 st,.bool e,.string d,.int .i64 k,.int .i64 on,.int .i64 w,.bool x,.int .i64 c,.int .i64 la,.int .i64 n,.slice pa pn pc] 45::C):=by
 refine gF _ ha ?_
 simp only[eQ]
 repeat' (first|refine EL ?_|refine wr ?_|refine w5 ?_ ?_|((refine bh fun h=>?_) <;> try exact w6 h)|(refine aE fun hA=>?_;subst hA)|intro _|(show aA _ 66 _ _ _;refine CA (h:=Ae2 ?_)))
 all_goals exact AY (p:=fun a=>Q .normal a _) [(1,.pointer (some ⟨r,0,none⟩)),(2,.bool false),(3,.int .i64 t),(173,.bool (b8 t d k on w))] ⟨rfl,rfl,rfl,congrArg Value.bool (by clear ha hK;unfold b8;grind),trivial⟩ (hK _)
end Go.Proofs.YtifgibijcmppmaaGreat
end
