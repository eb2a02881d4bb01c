/- A part of the proof: lemmas; each with the conditions that it states. -/
import Derived.Test.YtffnpejdkkohcaaGreatBah
set_option linter.unusedVariables false
set_option linter.unusedSimpArgs false
set_option maxRecDepth 100000
set_option maxHeartbeats 40000000
section
namespace Go.Proofs.YtffnpejdkkohcaaGreat
open Go Go.Proofs Go.Sl
attribute [local irreducible] aM eY cU bQ aL aW aA dS dT aZ dR pt ro fN star sep bH
variable {R C:List HP} {K:KP} {k:Int}
def sU (l t f s:Int):Int:=if l<0\/256<l then 6 else if t<0\/11<t\/s<0 then 1 else if(s=0/\¬(5<=t/\t<=10))\/(0<s/\¬(t<=4\/10<=t)) then 1 else if f≠0/\(f≠1\/1<t) then 1 else if t=5/\(l % 6≠0\/48<l) then 6 else if 0<=DD t/\l≠DD t then 6 else 0
theorem Ags (h0:0<=k) (h1:k<=1) (hK:K (.tuple #[.agg #[.bool false,.bool true,I6 (-1),I6 1],I6 0]) R):CT 233 #[I6 k] R K:=by
 refine Lj ?_
 rcases(by omega:k=0\/k=1) with rfl|rfl <;> exact hK
theorem Adl (h0:2<=k) (h1:k<=11) (hK:K (.tuple #[.agg #[.bool (decide (5<=k) && decide (k<=10)),.bool (decide (k<=4) || decide (10<=k)),I6 (DD k),I6 0],I6 0]) R):CT 233 #[I6 k] R K:=by
 refine Lj ?_
 obtain⟨e1,e2,e3,e4,e5⟩:=FR k (by omega) h1
 rw[e1,e2,e3,e4,e5,if_neg (by omega)]
 exact hK
theorem Af7 (h0:k<0\/11<k) (hK:K (.tuple #[.agg #[.bool false,.bool false,I6 0,I6 0],I6 3]) R):CT 233 #[I6 k] R K:=by
 refine Lj ?_
 have e1:mK k=(false,false,0,0):=by unfold mK;rw[if_pos (by omega)]
 have e2:De k=3:=by unfold De;rw[if_pos (by omega)]
 rw[e1,e2]
 exact hK
def UF (p:Nat) (l t f s:Int):HP:=pt p [I6 l,I6 t,I6 f,I6 s] 124
def IA (t l long:Int):Bool:=decide ((t=5->(l % 6=0/\l<=48))/\(t≠5->(long<0\/l=long)))
theorem ZE {p q:Nat} {l t f s long flags:Int} {z o:Bool} (h0:0<=l) (hK:K (.bool (IA t l long)) (UF p l t f s::pt q [.bool z,.bool o,I6 long,I6 flags] 282::R)):
  CT 263 #[PO p,PO q] (UF p l t f s::pt q [.bool z,.bool o,I6 long,I6 flags] 282::R) K:=by
 unfold UF at *
 refine aJ Tryz.func263 ?_
 repeat' (first|refine v27 ?_|refine w5 ?_ ?_|((refine bh fun h=>?_) <;> try exact w6 h)|(refine aF fun hA=>?_;subst hA)|intro _)
 all_goals(refine aC ?_;exact aB (kb hK (by unfold IA;simp only[decide_eq_true_eq] <;> simp <;> omega)))
theorem vK {l t f s:Int} (hf:-9223372036854775808<=f/\f<=9223372036854775807) (hK:K (I6 (sU l t f s)) R):CT 181 #[.agg #[I6 l,I6 t,I6 f,I6 s]] R K:=by
 have h5:t=5->DD t=-1:=fun h=>by subst h;rfl
 have h1:t<=1->DD t=-1:=fun h=>by unfold DD;rw[if_neg (by omega),if_neg (by omega),if_neg (by omega)]
 have c1:= @ZE
 unfold UF at c1
 rcases(by omega:(t<0\/11<t)\/(0<=t/\t<=1)\/(2<=t/\t<=11)) with h|h|h
 all_goals
  refine aJ Tryz.func181 ?_
  repeat' (first|refine v96 ?_|refine w5 ?_ ?_|((refine bh fun h=>?_) <;> try exact w6 h)|(refine aF fun hA=>?_;subst hA)|intro _|(show aA _ 233 _ _ _;refine CA (h:=Ags (by omega) (by omega) ?_))|(show aA _ 233 _ _ _;refine CA (h:=Adl (by omega) (by omega) ?_))|(show aA _ 233 _ _ _;refine CA (h:=Af7 (by omega) ?_))|(show aA _ 263 _ _ _;refine CA (h:=c1 (by omega) ?_)))
  all_goals(try simp only[IA,decide_eq_true_eq,decide_eq_false_iff_not] at *)
  all_goals(refine aC ?_;exact aB (ki hK (by unfold sU;(repeat' split) <;> omega)))
end Go.Proofs.YtffnpejdkkohcaaGreat
namespace Go.Proofs.YtffnpejdkkohcaaGreat
open Go Go.Proofs Go.Sl
attribute [local irreducible] aM eY cU bQ aL aW aA dS dT aZ dR pt ro fN star sep bH
variable {R C:List HP} {K:KP} {l t f s:Int}
def Xq (s:ByteArray):Int:=if s.size<9 then 5 else if 2147483647<qL s 5 9 then 6 else 0
def Gy (s:ByteArray) (i j:Nat):Int:=if Xq s=0 then qL s i j else 0
def hgV (s:ByteArray):Value:=.tuple #[.agg #[I6 (Gy s 0 3),I6 (Gy s 3 4),I6 (Gy s 4 5),I6 (Gy s 5 9)],I6 (Xq s)]
theorem Akc (s:ByteArray):Vk s=hgV s:=by
 unfold Vk hgV Gy Xq
 by_cases h:s.size<9
 ·simp[h]
 ·by_cases h2:2147483647<qL s 5 9
  ·simp[h,h2]
  ·simp[h,h2]
theorem X4 {s:ByteArray} (hK:K (.tuple #[.agg #[I6 (Gy s 0 3),I6 (Gy s 3 4),I6 (Gy s 4 5),I6 (Gy s 5 9)],I6 (Xq s)]) R):CT 180 #[.string s] R K:=Af6 (by rw[Akc];exact hK)
def i9 (l t f s:Int):ByteArray:=rB l 3++rB t 1++rB f 1++rB s 4
theorem EG (h:NN l t f s=true):(i9 l t f s).data.toList=wB l 3++wB t 1++wB f 1++wB s 4:=by
 unfold NN at h
 simp only[Bool.and_eq_true,decide_eq_true_eq] at h
 unfold i9 rB
 rw[if_neg (by omega),if_neg (by omega),if_neg (by omega),if_neg (by omega)]
 simp
theorem MK:(256:Int) ^ (1:Nat)=256/\(256:Int) ^ (3:Nat)=16777216/\(256:Int) ^ (4:Nat)=4294967296:=by decide
theorem Cq {n w:Int} (hw:0<w/\w<=4):(iU n w=0↔(0<=n/\n<256 ^ w.toNat)):=by
 constructor
 ·intro h;exact Agx h hw.1
 ·intro h
  unfold iU
  have e:(2:Int) ^ (8 * w).toNat=256 ^ w.toNat:=by
   have:(8 * w).toNat=8 * w.toNat:=by omega
   rw[this,Int.pow_mul];rfl
  rw[e,Int.ediv_eq_zero_of_lt h.1 h.2,if_neg (by omega),if_neg (by omega)]
theorem Pi:(NN l t f s=true->J4 l t f s=i9 l t f s/\J1 l t f s=0)/\(NN l t f s=false->J4 l t f s=⟨#[]⟩/\J1 l t f s=2):=by
 obtain⟨p1,p3,p4⟩:=MK
 have m1:=Cq (n:=l) (w:=3) (by decide)
 have m2:=Cq (n:=t) (w:=1) (by decide)
 have m3:=Cq (n:=f) (w:=1) (by decide)
 have m4:=Cq (n:=s) (w:=4) (by decide)
 rw[show(3:Int).toNat=3 from rfl,p3] at m1
 rw[show(1:Int).toNat=1 from rfl,p1] at m2 m3
 rw[show(4:Int).toNat=4 from rfl,p4] at m4
 have hf:eJ (Yo l t f s)=0↔(iU l 3=0/\iU t 1=0/\iU f 1=0/\iU s 4=0):=by
  unfold Yo
  simp only[eJ]
  by_cases h1:iU l 3=0 <;> by_cases h2:iU t 1=0 <;> by_cases h3:iU f 1=0 <;> by_cases h4:iU s 4=0 <;> simp[h1,h2,h3,h4]
 constructor
 ·intro h
  have hl:=EG h
  unfold NN at h
  simp only[Bool.and_eq_true,decide_eq_true_eq] at h
  have hz:eJ (Yo l t f s)=0:=hf.2 ⟨m1.2 (by omega),m2.2 (by omega),m3.2 (by omega),m4.2 (by omega)⟩
  have he:xG (Yo l t f s)=0:=by
   unfold xG
   rw[if_pos hz,if_neg]
   have:Jj (Yo l t f s) 0=9:=by
    unfold Yo
    simp[Jj,kK] <;> decide
   omega
  unfold J4 J1
  rw[if_neg (by omega),if_neg (by omega),if_pos he]
  refine⟨yB ?_,rfl⟩
  rw[hl,(GM he).2.2.2]
  simp[kP,Yo,OG]
 ·intro h
  unfold J4 J1
  by_cases hs:2147483647<s
  ·rw[if_pos hs,if_pos hs];exact⟨rfl,rfl⟩
  ·rw[if_neg hs,if_neg hs]
   have he:¬xG (Yo l t f s)=0:=by
    intro he
    obtain⟨a,b,c,d⟩:=hf.1 (GM he).1
    rw[m1] at a
    rw[m2] at b
    rw[m3] at c
    rw[m4] at d
    unfold NN at h
    simp at h
    omega
   rw[if_neg he,N0 he]
   exact⟨rfl,rfl⟩
theorem XH (h:NN l t f s=true) (hK:K (.tuple #[.string (i9 l t f s),I6 0]) R):CT 206 #[.agg #[I6 l,I6 t,I6 f,I6 s]] R K:=by
 refine Aeg ?_
 rw[(Pi.1 h).1,(Pi.1 h).2]
 exact hK
end Go.Proofs.YtffnpejdkkohcaaGreat
end
namespace Go.Proofs.YtffnpejdkkohcaaGreat
open Go Go.Proofs Go.Sl
attribute [local irreducible] aM eY cU bQ aL aW aA dS dT aZ dR pt ro fN star sep bH
variable {R C:List HP} {K:KP}
structure Pr where
 i:Int
 v:Int
def prD:List Value->Option Pr
 | [.int .i64 i,.int .i64 v]=>some ⟨i,v⟩
 |_=>none
theorem Aix (cs:List Value) (y:Pr) (h:prD cs=some y): [I6 y.i,I6 y.v]=cs:=by
 unfold prD at h
 split at h
 ·cases h;rfl
 ·cases h
def oG:tP Pr:= { enc:=fun p=> [I6 p.i,I6 p.v],sz:=2,dec:=prD,len:=fun _=>rfl,one:=fun _=>rfl,ok:=Aix }
structure Fm where
 t:Int
 st:Int
 e:Bool
 d:ByteArray
 k:Int
 on:Int
 w:Int
 x:Bool
 c:Int
 la:Int
 n:Int
 pa:Option Addr
 pn:Nat
 pc:Nat
 ps:List Pr
theorem zF {n l h:Int} (hK:K (.bool (decide (l<=n) && decide (n<=h))) R):CT 234 #[I6 n,I6 l,I6 h] R K:=by
 refine aJ Tryz.func234 ?_
 repeat' (first|refine v1 ?_|refine w5 ?_ ?_|((refine bh fun h=>?_) <;> try exact w6 h)|(refine aF fun hA=>?_;subst hA)|intro _)
 all_goals(refine aC ?_;exact aB (kb hK (by simp <;> omega)))
def y8 (n:Int):Bool:=decide (0<=n) && decide (n<=2147483647)
theorem nK {n:Int} (hK:K (.bool (y8 n)) R):CT 154 #[I6 n] R K:=by
 refine aJ Tryz.func154 ?_
 repeat' (first|refine v0 ?_|refine w5 ?_ ?_|((refine bh fun h=>?_) <;> try exact w6 h)|(refine aF fun hA=>?_;subst hA)|intro _|(show aA _ 234 _ _ _;refine CA (h:=zF ?_)))
 (refine aC ?_;exact aB (hK))
def Gb (on w:Int):Bool:=y8 on && (decide (1<=w) && decide (w<=256))
theorem gI (n:Int):y8 n=true↔(0<=n/\n<=2147483647):=by unfold y8;simp
theorem XL (n:Int):y8 n=false↔(n<0\/2147483647<n):=by unfold y8;simp <;> omega
theorem Tg {on w:Int} {x:Bool} (hK:K (.bool (Gb on w)) R):CT 237 #[.agg #[I6 on,I6 w,.bool x]] R K:=by
 refine aJ Tryz.func237 ?_
 repeat' (first|refine v19 ?_|refine w5 ?_ ?_|((refine bh fun h=>?_) <;> try exact w6 h)|(refine aF fun hA=>?_;subst hA)|intro _|(show aA _ 234 _ _ _;refine CA (h:=zF ?_))|(show aA _ 154 _ _ _;refine CA (h:=nK ?_)))
 all_goals(refine aC ?_;exact aB (kb hK (by unfold Gb;simp[*])))
theorem xI {n:Int} (hK:K (.bool (y8 n)) R):CT 40 #[I6 n] R K:=by
 refine aJ Tryz.func40 ?_
 repeat' (first|refine v1 ?_|refine w5 ?_ ?_|((refine bh fun h=>?_) <;> try exact w6 h)|(refine aF fun hA=>?_;subst hA)|intro _)
 all_goals(refine aC ?_;exact aB (kb hK (by unfold y8;simp <;> omega)))
theorem Ae0 {on w:Int} {x:Bool} (hK:K (.bool (Gb on w)) R):CT 44 #[.agg #[I6 on,I6 w,.bool x]] R K:=by
 refine aJ Tryz.func44 ?_
 repeat' (first|refine v19 ?_|refine w5 ?_ ?_|((refine bh fun h=>?_) <;> try exact w6 h)|(refine aF fun hA=>?_;subst hA)|intro _|(show aA _ 40 _ _ _;refine CA (h:=xI ?_)))
 all_goals(refine aC ?_;exact aB (kb hK (by unfold Gb;simp[*] <;> omega)))
def u5 (on w:Int) (x:Bool):Bool:=decide (on=0) && decide (w=0) && !x
theorem Zu {on w:Int} {x:Bool} (hK:K (.bool (u5 on w x)) R):CT 43 #[.agg #[I6 on,I6 w,.bool x]] R K:=by
 cases x
 all_goals
  refine aJ Tryz.func43 ?_
  repeat' (first|refine v44 ?_|refine w5 ?_ ?_|((refine bh fun h=>?_) <;> try exact w6 h)|(refine aF fun hA=>?_;subst hA)|intro _)
  all_goals(refine aC ?_;exact aB (kb hK (by unfold u5;simp[*])))
def Nc:List Pr->List Pr->Bool
 | [],[]=>true
 |a::l,b::m=>(a.i == b.i && a.v == b.v) && Nc l m
 |_,_=>false
theorem NK:∀l:List Pr,Nc l l=true
 | []=>rfl
 |a::l=>by simp[Nc,NK l]
theorem UG:∀ {l m:List Pr},Nc l m=true->l.length=m.length
 | [],[],_=>rfl
 |a::l,b::m,h=>by
  simp only[Nc,Bool.and_eq_true] at h
  simp[UG h.2]
 | [],_::_,h=>by cases h
 |_::_,[],h=>by cases h
theorem Ag1 (l:List Pr):Nc l []=decide (l.length=0):=by cases l <;> simp[Nc]
def jN:List (Nat×Nat):= [(0,0),(1,0),(2,0),(3,0),(4,0),(5,0),(6,0),(7,0),(8,0)]
theorem Abc {A B:Option Addr} {n n' c c':Nat} {xs ys:List Pr} (hv:dE C A oG xs) (hw:dE C B oG ys) (hn:xs.length=n) (hn':ys.length=n') (hn2:n<1000000000000000) (hK:K (.bool (Nc xs ys)) C):CT 236 #[.slice A n c,.slice B n' c'] C K:=by
 by_cases hnn:n=n'
 ·subst hnn
  refine aJ Tryz.func236 ?_
  repeat' (first|refine v29 ?_|refine dw jN ?_|refine w5 ?_ ?_|((refine bh fun h=>?_) <;> try exact w6 h)|(refine aF fun hA=>?_;subst hA)|intro _)
  refine iH (fun m a C'=>∃j:Nat,j+m=n/\C'=C/\Nc xs ys=Nc (xs.drop j) (ys.drop j)/\cW a [(0,.slice A n c),(1,.slice B n c'),(12,I6 n),(13,I6 j)]) n (cG n ⟨0,by omega,rfl,rfl,rfl,rfl,rfl,rfl,trivial⟩) ?_
  rintro n1 a C' ⟨j,hj,rfl,hp,ha⟩
  refine gJ _ ha ?_
  simp only[fF]
  by_cases hlt:j<n
  ·obtain⟨x,hx,hd⟩:=i0 (l:=xs) (j:=j) (by omega)
   obtain⟨y,hy,hd'⟩:=i0 (l:=ys) (j:=j) (by omega)
   rw[hd,hd',Nc] at hp
   by_cases hxy:x.i=y.i/\x.v=y.v
   ·have e1:(x.i == y.i)=true:=by simpa using hxy.1
    have e2:(x.v == y.v)=true:=by simpa using hxy.2
    rw[e1,e2,Bool.and_self,Bool.true_and] at hp
    repeat' (first|refine v29 ?_|refine dw jN ?_|refine w5 ?_ ?_|((refine bh fun h=>?_) <;> try exact w6 h)|(refine aF fun hA=>?_;subst hA)|intro _)
    exact cG (n1 - 1) ⟨j+1,by omega,rfl,hp,rfl,rfl,rfl,rfl,trivial⟩
   ·have e1:(x.i == y.i && x.v == y.v)=false:=by
     rw[Bool.and_eq_false_iff];simp;omega
    rw[e1,Bool.false_and] at hp
    rw[hp] at hK
    repeat' (first|refine v29 ?_|refine dw jN ?_|refine w5 ?_ ?_|((refine bh fun h=>?_) <;> try exact w6 h)|(refine aF fun hA=>?_;subst hA)|intro _)
    (refine aC ?_;exact aB (hK))
  ·obtain rfl:j=n:=by omega
   rw[List.drop_eq_nil_of_le (by omega),List.drop_eq_nil_of_le (by omega),Nc] at hp
   rw[hp] at hK
   repeat' (first|refine v29 ?_|refine dw jN ?_|refine w5 ?_ ?_|((refine bh fun h=>?_) <;> try exact w6 h)|(refine aF fun hA=>?_;subst hA)|intro _)
   (refine aC ?_;exact aB (hK))
 ·have e:Nc xs ys=false:=by
   cases h:Nc xs ys
   ·rfl
   ·have:=UG h;omega
  rw[e] at hK
  refine aJ Tryz.func236 ?_
  repeat' (first|refine v29 ?_|refine dw jN ?_|refine w5 ?_ ?_|((refine bh fun h=>?_) <;> try exact w6 h)|(refine aF fun hA=>?_;subst hA)|intro _)
  all_goals(refine aC ?_;exact aB (hK))
def oE (t:Int) (e:Bool):Bool:=if t=0\/t=1 then e else false
def oD (t:Int) (d:ByteArray):ByteArray:=if t=0\/t=1\/t=7\/t=8 then d else⟨#[]⟩
def oK (t k:Int):Int:=if t=2 then k else 0
def oO (t on:Int):Int:=if t=2\/t=3 then on else 0
def oX (t:Int) (x:Bool):Bool:=if t=2\/t=3 then x else false
def oC (t c:Int):Int:=if t=4\/t=9 then c else 0
def oL (t l:Int):Int:=if t=9 then l else 0
def oN (t n:Int):Int:=if t=10\/t=11 then n else 0
def oPa (t:Int) (p:Option Addr):Option Addr:=if t=5 then p else none
def oPn (t:Int) (n:Nat):Nat:=if t=5 then n else 0
def oPs (t:Int) (l:List Pr):List Pr:=if t=5 then l else []
def wI:List (Nat×Nat):= [(0,0),(1,0),(4,0),(5,1),(2,1),(3,1),(6,0),(7,1)]
def wU:List (Nat×Nat):= [(0,0),(1,0),(4,0),(5,1),(2,1),(3,1),(6,0),(7,1)]
def u0:List (Nat×Nat):= [(0,0),(1,0),(4,0),(5,1),(2,1),(3,1),(6,0),(7,1)]
theorem Lf {t st:Int} {e:Bool} {d:ByteArray} {k on w:Int} {x:Bool} {c la n:Int} {pa:Option Addr} {pn pc:Nat} (hK:K (.agg #[I6 t,I6 st,.bool (oE t e),.string (oD t d),I6 (oK t k),I6 (oO t on),I6 (oO t w),.bool (oX t x),I6 (oC t c),I6 (oL t la),I6 (oN t n),.slice (oPa t pa) (oPn t pn) (oPn t pc)]) R):CT 156 #[.agg #[I6 t,I6 st,.bool e,.string d,I6 k,I6 on,I6 w,.bool x,I6 c,I6 la,I6 n,.slice pa pn pc]] R K:=by
 rcases(by omega:(t<0\/11<t\/t=6)\/t=0\/t=1\/t=2\/t=3\/t=4\/t=5\/t=7\/t=8\/t=9\/t=10\/t=11) with h|h|h|h|h|h|h|h|h|h|h|h
 ·have q0:¬t=0:=by omega
  have q1:¬t=1:=by omega
  have q2:¬t=2:=by omega
  have q3:¬t=3:=by omega
  have q4:¬t=4:=by omega
  have q5:¬t=5:=by omega
  have q7:¬t=7:=by omega
  have q8:¬t=8:=by omega
  have q9:¬t=9:=by omega
  have q10:¬t=10:=by omega
  have q11:¬t=11:=by omega
  simp only[oE,oD,oK,oO,oX,oC,oL,oN,oPa,oPn,q0,q1,q2,q3,q4,q5,q7,q8,q9,q10,q11,or_self,if_false] at hK
  refine aJ Tryz.func156 ?_
  repeat' (first|refine v64 ?_|refine dw wI ?_|refine dw wU ?_|refine dw u0 ?_|refine w5 ?_ ?_|((refine bh fun h=>?_) <;> try exact w6 h)|(refine aF fun hA=>?_;subst hA)|intro _)
  all_goals(refine aC ?_;exact aB (hK))
 all_goals
  subst h
  simp[oE,oD,oK,oO,oX,oC,oL,oN,oPa,oPn] at hK
  refine aJ Tryz.func156 ?_
  repeat' (first|refine v64 ?_|refine dw wI ?_|refine dw wU ?_|refine dw u0 ?_|refine w5 ?_ ?_|((refine bh fun h=>?_) <;> try exact w6 h)|(refine aF fun hA=>?_;subst hA)|intro _)
  all_goals(refine aC ?_;exact aB (hK))
def BF (l:List Pr):Bool:=l.all fun p=>decide (0<=p.i) && decide (p.i<=65535) && y8 p.v
def xZ (t:Int) (d:ByteArray) (k on w c la n:Int) (ps:List Pr):Bool:=if t=0\/t=1 then decide (d.size<=256) else if t=2 then(decide (k=1) || decide (k=2)) && Gb on w else if t=3 then Gb on w else if t=7\/t=8 then decide (d.size=8) else if t=5 then BF ps && decide (ps.length<=8) else y8 c && y8 la && y8 n
theorem J8 {t st:Int} {e:Bool} {d:ByteArray} {k on w:Int} {x:Bool} {c la n:Int} {pa:Option Addr} {pn pc:Nat} {ps:List Pr} (hv:dE C pa oG ps) (hn:ps.length=pn) (hn2:pn<1000000000000000) (hK:K (.bool (xZ t d k on w c la n ps)) C):CT 157 #[.agg #[I6 t,I6 st,.bool e,.string d,I6 k,I6 on,I6 w,.bool x,I6 c,I6 la,I6 n,.slice pa pn pc]] C K:=by
 subst hn
 by_cases h5:t=5
 ·subst h5
  simp[xZ] at hK
  refine aJ Tryz.func157 ?_
  repeat' (first|refine TJ ?_|refine w5 ?_ ?_|((refine bh fun h=>?_) <;> try exact w6 h)|(refine aF fun hA=>?_;subst hA)|intro _)
  rename_i r
  have hv2:dE (pt r [I6 5,I6 st,.bool e,.string d,I6 k,I6 on,I6 w,.bool x,I6 c,I6 la,I6 n,.slice pa ps.length pc] 45::C) pa oG ps:=bF hv
  refine iH (fun m a C'=>∃j:Nat,j+m=ps.length/\C'=pt r [I6 5,I6 st,.bool e,.string d,I6 k,I6 on,I6 w,.bool x,I6 c,I6 la,I6 n,.slice pa ps.length pc] 45::C/\BF ps=BF (ps.drop j)/\cW a [(1,PO r),(44,.slice pa ps.length pc),(45,I6 ps.length),(46,I6 j)]) ps.length (cG ps.length ⟨0,by omega,rfl,rfl,rfl,rfl,rfl,rfl,trivial⟩) ?_
  rintro n1 a C' ⟨j,hj,rfl,hp,ha⟩
  refine gJ _ ha ?_
  simp only[fF]
  by_cases hlt:j<ps.length
  ·obtain⟨y,hy,hd⟩:=i0 (l:=ps) (j:=j) (by omega)
   rw[hd] at hp
   simp only[BF,List.all_cons] at hp
   by_cases hok:(decide (0<=y.i) && decide (y.i<=65535) && y8 y.v)=true
   ·rw[hok,Bool.true_and] at hp
    simp only[Bool.and_eq_true,decide_eq_true_eq] at hok
    obtain⟨⟨o1,o2⟩,o3⟩:=hok
    repeat' (first|refine TJ ?_|refine w5 ?_ ?_|((refine bh fun h=>?_) <;> try exact w6 h)|(refine aF fun hA=>?_;subst hA)|intro _|(show aA _ 234 _ _ _;refine CA (h:=zF ?_))|(show aA _ 154 _ _ _;refine CA (h:=nK ?_)))
    exact cG (n1 - 1) ⟨j+1,by omega,rfl,hp,rfl,rfl,rfl,rfl,trivial⟩
   ·have hok':(decide (0<=y.i) && decide (y.i<=65535) && y8 y.v)=false:=by simpa using hok
    rw[hok',Bool.false_and] at hp
    have hps:BF ps=false:=hp
    rw[hps,Bool.false_and] at hK
    have h3:(y.i<0\/65535<y.i)\/y8 y.v=false:=by
     simp only[Bool.and_eq_false_iff,decide_eq_false_iff_not] at hok'
     rcases hok' with(h|h)|h
     ·exact .inl (.inl (by omega))
     ·exact .inl (.inr (by omega))
     ·exact .inr h
    rcases h3 with h3|h3
    ·repeat' (first|refine TJ ?_|refine w5 ?_ ?_|((refine bh fun h=>?_) <;> try exact w6 h)|(refine aF fun hA=>?_;subst hA)|intro _|(show aA _ 234 _ _ _;refine CA (h:=zF ?_))|(show aA _ 154 _ _ _;refine CA (h:=nK ?_)))
     all_goals(refine aC ?_;exact aB (hK))
    ·repeat' (first|refine TJ ?_|refine w5 ?_ ?_|((refine bh fun h=>?_) <;> try exact w6 h)|(refine aF fun hA=>?_;subst hA)|intro _|(show aA _ 234 _ _ _;refine CA (h:=zF ?_))|(show aA _ 154 _ _ _;refine CA (h:=nK ?_)))
     all_goals(refine aC ?_;exact aB (hK))
  ·obtain rfl:j=ps.length:=by omega
   rw[List.drop_eq_nil_of_le (by omega)] at hp
   have hps:BF ps=true:=hp
   rw[hps,Bool.true_and] at hK
   repeat' (first|refine TJ ?_|refine w5 ?_ ?_|((refine bh fun h=>?_) <;> try exact w6 h)|(refine aF fun hA=>?_;subst hA)|intro _)
   (refine aC ?_;exact aB (kb hK (by simp <;> omega)))
 ·rcases(by omega:(t<0\/11<t\/t=6\/t=4\/t=9\/t=10\/t=11)\/t=0\/t=1\/t=2\/t=3\/t=7\/t=8) with h|h|h|h|h|h|h
  ·have q0:¬t=0:=by omega
   have q1:¬t=1:=by omega
   have q2:¬t=2:=by omega
   have q3:¬t=3:=by omega
   have q7:¬t=7:=by omega
   have q8:¬t=8:=by omega
   simp only[xZ,q0,q1,q2,q3,h5,q7,q8,or_self,if_false] at hK
   refine aJ Tryz.func157 ?_
   repeat' (first|refine TJ ?_|refine w5 ?_ ?_|((refine bh fun h=>?_) <;> try exact w6 h)|(refine aF fun hA=>?_;subst hA)|intro _|(show aA _ 154 _ _ _;refine CA (h:=nK ?_))|(show aA _ 237 _ _ _;refine CA (h:=Tg ?_)))
   all_goals(refine aC ?_;exact aB (kb hK (by simp[*])))
  all_goals
   subst h
   simp[xZ] at hK
   refine aJ Tryz.func157 ?_
   repeat' (first|refine TJ ?_|refine w5 ?_ ?_|((refine bh fun h=>?_) <;> try exact w6 h)|(refine aF fun hA=>?_;subst hA)|intro _|(show aA _ 154 _ _ _;refine CA (h:=nK ?_))|(show aA _ 237 _ _ _;refine CA (h:=Tg ?_)))
   all_goals(refine aC ?_;exact aB (kb hK (by simp[*] <;> omega)))
theorem Lh {s t:ByteArray}:s.toList=t.toList↔s=t:=by
 constructor
 ·intro h;rw[FC,FC] at h;exact yB h
 ·rintro rfl;rfl
theorem X5 {t st:Int} {e:Bool} {d:ByteArray} {k on w:Int} {x:Bool} {c la n:Int} {pa:Option Addr} {pn pc:Nat} (hK:K (.agg #[I6 t,I6 st,.bool e,.string d,I6 k,I6 on,I6 w,.bool x,I6 c,I6 la,I6 n]) R):CT 235 #[.agg #[I6 t,I6 st,.bool e,.string d,I6 k,I6 on,I6 w,.bool x,I6 c,I6 la,I6 n,.slice pa pn pc]] R K:=by
 refine aJ Tryz.func235 ?_
 repeat' (first|refine v61 ?_|refine w5 ?_ ?_|((refine bh fun h=>?_) <;> try exact w6 h)|(refine aF fun hA=>?_;subst hA)|intro _)
 (refine aC ?_;exact aB (hK))
def FM (t st:Int) (e:Bool) (d:ByteArray) (k on w:Int) (x:Bool) (c la n t1 st1:Int) (e1:Bool) (d1:ByteArray) (k1 on1 w1:Int) (x1:Bool) (c1 la1 n1:Int):Prop:=t=t1/\st=st1/\e=e1/\d=d1/\k=k1/\on=on1/\w=w1/\x=x1/\c=c1/\la=la1/\n=n1
instance (t st:Int) (e:Bool) (d:ByteArray) (k on w:Int) (x:Bool) (c la n t1 st1:Int) (e1:Bool) (d1:ByteArray) (k1 on1 w1:Int) (x1:Bool) (c1 la1 n1:Int):Decidable (FM t st e d k on w x c la n t1 st1 e1 d1 k1 on1 w1 x1 c1 la1 n1):=by unfold FM;infer_instance
def Dn:List (Nat×Nat):= [(0,0),(1,1),(2,1),(3,1),(4,0),(5,0),(6,0),(7,0),(8,0),(9,0),(10,1),(11,0),(12,0)]
theorem IM {t st:Int} {e:Bool} {d:ByteArray} {k on w:Int} {x:Bool} {c la n:Int} {pa:Option Addr} {pn pc:Nat} {t1 st1:Int} {e1:Bool} {d1:ByteArray} {k1 on1 w1:Int} {x1:Bool} {c1 la1 n1:Int} {Nb:Option Addr} {pn1 pc1:Nat} {ps ps1:List Pr} (hv:dE C pa oG ps) (hw:dE C Nb oG ps1) (hn:ps.length=pn) (hn':ps1.length=pn1) (hn2:pn<1000000000000000)
  (hK:K (.bool (decide (FM t st e d k on w x c la n t1 st1 e1 d1 k1 on1 w1 x1 c1 la1 n1) && Nc ps ps1)) C):CT 155 #[.agg #[I6 t,I6 st,.bool e,.string d,I6 k,I6 on,I6 w,.bool x,I6 c,I6 la,I6 n,.slice pa pn pc],.agg #[I6 t1,I6 st1,.bool e1,.string d1,I6 k1,I6 on1,I6 w1,.bool x1,I6 c1,I6 la1,I6 n1,.slice Nb pn1 pc1]] C K:=by
 refine aJ Tryz.func155 ?_
 repeat' (first|refine v44 ?_|refine dw Dn ?_|refine w5 ?_ ?_|((refine bh fun h=>?_) <;> try exact w6 h)|(refine aF fun hA=>?_;subst hA)|intro _|(show aA _ 235 _ _ _;refine CA (h:=X5 ?_))|(show aA _ 236 _ _ _;refine CA (h:=Abc (xs:=ps) (ys:=ps1) (by exact kU) (by exact kU) hn hn' hn2 ?_)))
 ·rename_i h
  have hd:decide (FM t st e d k on w x c la n t1 st1 e1 d1 k1 on1 w1 x1 c1 la1 n1)=true:=decide_eq_true (by obtain⟨a1,a2,a3,a4,a5,⟨a6,a7,a8⟩,a9,a10,a11⟩:=h;exact⟨a1,a2,a3,Lh.1 a4,a5,a6,a7,a8,a9,a10,a11⟩)
  rw[hd,Bool.true_and] at hK
  (refine aC ?_;exact aB (hK))
 ·rename_i h
  have hd:decide (FM t st e d k on w x c la n t1 st1 e1 d1 k1 on1 w1 x1 c1 la1 n1)=false:=decide_eq_false (by
   rintro⟨a1,a2,a3,a4,a5,a6,a7,a8,a9,a10,a11⟩
   rw[<- Lh] at a4
   rcases h with h|h|h|h|h|(h|h|h)|h|h|h <;> exact h (by assumption))
  rw[hd,Bool.false_and] at hK
  (refine aC ?_;exact aB (hK))
def rQ (t st:Int):Bool:=y8 st && ((decide (st=0) && (decide (5<=t) && decide (t<=10))) || (decide (0<st) && (decide (t<=4) || decide (10<=t))))
def vY (t st:Int) (e:Bool) (d:ByteArray) (k on w:Int) (x:Bool) (c la n:Int) (ps:List Pr):Bool:=decide (0<=t) && decide (t<=11) && rQ t st && (decide (FM t st e d k on w x c la n t st (oE t e) (oD t d) (oK t k) (oO t on) (oO t w) (oX t x) (oC t c) (oL t la) (oN t n)) && Nc ps (oPs t ps)) && xZ t d k on w c la n ps
def MR (t st:Int) (e:Bool) (d:ByteArray) (k on w:Int) (x:Bool) (c la n:Int) (ps:List Pr):Int:=if vY t st e d k on w x c la n ps=true then 0 else 2
theorem tW {k:Int} (h0:0<=k) (h1:k<=11) (hK:K (.tuple #[.bool (decide (5<=k) && decide (k<=10)),.bool (decide (k<=4) || decide (10<=k)),I6 0]) R):CT 153 #[I6 k] R K:=by
 obtain⟨e1,e2,e3,e4,e5⟩:=FR k h0 h1
 refine Ps ?_
 rw[e1,e2,e4];exact hK
theorem Pv {k:Int} (h0:k<0\/11<k) (hK:K (.tuple #[.bool false,.bool false,I6 3]) R):CT 153 #[I6 k] R K:=by
 have e1:mK k=(false,false,0,0):=by unfold mK;rw[if_pos (by omega)]
 have e2:De k=3:=by unfold De;rw[if_pos (by omega)]
 refine Ps ?_
 rw[e1,e2];exact hK
theorem Rh {pa:Option Addr} {ps:List Pr} {t:Int} (hv:dE C pa oG ps):dE C (oPa t pa) oG (oPs t ps):=by
 unfold oPa oPs
 split
 ·exact hv
 ·exact nD
theorem YZ {ps:List Pr} {t:Int} {pn:Nat} (hn:ps.length=pn):(oPs t ps).length=oPn t pn:=by
 unfold oPn oPs
 split
 ·exact hn
 ·rfl
def hM:List (Nat×Nat):= [(0,0),(1,0),(2,0),(3,0),(4,0),(5,0),(6,0),(8,0),(9,1),(7,1),(10,1),(11,0),(12,0),(13,0),(14,0),(15,1),(16,0),(17,0)]
theorem Bs {t st:Int} {e:Bool} {d:ByteArray} {k on w:Int} {x:Bool} {c la n:Int} {pa:Option Addr} {pn pc:Nat} {ps:List Pr} (hv:dE C pa oG ps) (hn:ps.length=pn) (hn2:pn<1000000000000000) (hK:K (I6 (MR t st e d k on w x c la n ps)) C):CT 80 #[.agg #[I6 t,I6 st,.bool e,.string d,I6 k,I6 on,I6 w,.bool x,I6 c,I6 la,I6 n,.slice pa pn pc]] C K:=by
 by_cases ht:0<=t/\t<=11
 ·obtain⟨h0,h1⟩:=ht
  have d0:decide (0<=t)=true:=decide_eq_true h0
  have d1:decide (t<=11)=true:=decide_eq_true h1
  unfold MR vY at hK
  rw[d0,d1,Bool.true_and,Bool.true_and] at hK
  cases hs:rQ t st
  ·rw[hs] at hK
   simp only[Bool.false_and,Bool.false_eq_true,if_false] at hK
   cases h3:y8 st
   ·refine aJ Tryz.func80 ?_
    repeat' (first|refine By ?_|refine dw hM ?_|refine w5 ?_ ?_|((refine bh fun h=>?_) <;> try exact w6 h)|(refine aF fun hA=>?_;subst hA)|intro _|(show aA _ 153 _ _ _;refine CA (h:=tW (by assumption) (by assumption) ?_))|(show aA _ 154 _ _ _;refine CA (h:=nK ?_)))
    all_goals(refine aC ?_;exact aB (hK))
   ·have h4:=(gI st).1 h3
    unfold rQ at hs
    rw[h3,Bool.true_and] at hs
    simp only[Bool.and_eq_false_iff,Bool.or_eq_false_iff,decide_eq_false_iff_not] at hs
    refine aJ Tryz.func80 ?_
    repeat' (first|refine By ?_|refine dw hM ?_|refine w5 ?_ ?_|((refine bh fun h=>?_) <;> try exact w6 h)|(refine aF fun hA=>?_;subst hA)|intro _|(show aA _ 153 _ _ _;refine CA (h:=tW (by assumption) (by assumption) ?_))|(show aA _ 154 _ _ _;refine CA (h:=nK ?_)))
    all_goals(refine aC ?_;exact aB (hK))
  ·rw[hs,Bool.true_and] at hK
   have h3:y8 st=true:=by unfold rQ at hs;rw[Bool.and_eq_true] at hs;exact hs.1
   have h4:=(gI st).1 h3
   unfold rQ at hs
   rw[h3,Bool.true_and] at hs
   simp only[Bool.and_eq_true,Bool.or_eq_true,decide_eq_true_eq] at hs
   cases hq:(decide (FM t st e d k on w x c la n t st (oE t e) (oD t d) (oK t k) (oO t on) (oO t w) (oX t x) (oC t c) (oL t la) (oN t n)) && Nc ps (oPs t ps))
   ·rw[hq] at hK
    simp only[Bool.false_and,Bool.false_eq_true,if_false] at hK
    refine aJ Tryz.func80 ?_
    repeat' (first|refine By ?_|refine dw hM ?_|refine w5 ?_ ?_|((refine bh fun h=>?_) <;> try exact w6 h)|(refine aF fun hA=>?_;subst hA)|intro _|(show aA _ 153 _ _ _;refine CA (h:=tW (by assumption) (by assumption) ?_))|(show aA _ 154 _ _ _;refine CA (h:=nK ?_))|(show aA _ 156 _ _ _;refine CA (h:=Lf ?_))|(show aA _ 155 _ _ _;refine CA (h:=IM (ps:=ps) (ps1:=oPs t ps) (bF hv) (Rh (bF hv)) hn (YZ hn) hn2 ?_)))
    all_goals(refine aC ?_;exact aB (hK))
   ·rw[hq,Bool.true_and] at hK
    cases hf:xZ t d k on w c la n ps
    ·rw[hf] at hK
     simp only[Bool.false_eq_true,if_false] at hK
     refine aJ Tryz.func80 ?_
     repeat' (first|refine By ?_|refine dw hM ?_|refine w5 ?_ ?_|((refine bh fun h=>?_) <;> try exact w6 h)|(refine aF fun hA=>?_;subst hA)|intro _|(show aA _ 153 _ _ _;refine CA (h:=tW (by assumption) (by assumption) ?_))|(show aA _ 154 _ _ _;refine CA (h:=nK ?_))|(show aA _ 156 _ _ _;refine CA (h:=Lf ?_))|(show aA _ 155 _ _ _;refine CA (h:=IM (ps:=ps) (ps1:=oPs t ps) (bF hv) (Rh (bF hv)) hn (YZ hn) hn2 ?_))|(show aA _ 157 _ _ _;refine CA (h:=J8 (ps:=ps) (bF hv) hn hn2 ?_)))
     all_goals(refine aC ?_;exact aB (hK))
    ·rw[hf] at hK
     simp only[if_true] at hK
     refine aJ Tryz.func80 ?_
     repeat' (first|refine By ?_|refine dw hM ?_|refine w5 ?_ ?_|((refine bh fun h=>?_) <;> try exact w6 h)|(refine aF fun hA=>?_;subst hA)|intro _|(show aA _ 153 _ _ _;refine CA (h:=tW (by assumption) (by assumption) ?_))|(show aA _ 154 _ _ _;refine CA (h:=nK ?_))|(show aA _ 156 _ _ _;refine CA (h:=Lf ?_))|(show aA _ 155 _ _ _;refine CA (h:=IM (ps:=ps) (ps1:=oPs t ps) (bF hv) (Rh (bF hv)) hn (YZ hn) hn2 ?_))|(show aA _ 157 _ _ _;refine CA (h:=J8 (ps:=ps) (bF hv) hn hn2 ?_)))
     all_goals(refine aC ?_;exact aB (hK))
 ·have d0:(decide (0<=t) && decide (t<=11))=false:=by rw[Bool.and_eq_false_iff];simp;omega
  unfold MR vY at hK
  rw[d0] at hK
  simp only[Bool.false_and,Bool.false_eq_true,if_false] at hK
  refine aJ Tryz.func80 ?_
  repeat' (first|refine By ?_|refine dw hM ?_|refine w5 ?_ ?_|((refine bh fun h=>?_) <;> try exact w6 h)|(refine aF fun hA=>?_;subst hA)|intro _|(show aA _ 153 _ _ _;refine CA (h:=Pv (by omega) ?_))|(show aA _ 154 _ _ _;refine CA (h:=nK ?_)))
  all_goals(refine aC ?_;exact aB (hK))
def jB (t st:Int) (e:Bool) (d:ByteArray) (k on w:Int) (x:Bool) (c la n:Int) (ps:List Pr):Prop:=(0<=t/\t<=11)/\(0<=st/\st<=2147483647)/\(st=0->5<=t/\t<=10)/\(0<st->t<=4\/10<=t)/\(e=true->t<=1)/\(k≠0->t=2)/\(c≠0->t=4\/t=9)/\(la≠0->t=9)/\(n≠0->10<=t)/\(0<ps.length->t=5)/\(u5 on w x=false->t=2\/t=3)/\(0<d.size->t<=1\/t=7\/t=8)/\(t<=1->d.size<=256)/\(t=7\/t=8->d.size=8)/\(t=2->k=1\/k=2)/\(t=2\/t=3->Gb on w=true)/\BF ps=true/\y8 c=true/\y8 la=true/\y8 n=true/\ps.length<=8
theorem Ue {d:ByteArray}:d=⟨#[]⟩↔d.size=0:=by
 constructor
 ·rintro rfl;rfl
 ·intro h;apply ByteArray.ext;exact Array.eq_empty_of_size_eq_zero h
theorem Qb (on w:Int) (x:Bool):u5 on w x=true↔(on=0/\w=0/\x=false):=by unfold u5;cases x <;> simp
theorem Rb {l:List Pr}:l.length=0->BF l=true:=fun h=>by rw[List.length_eq_zero_iff.1 h];rfl
theorem tK (t st:Int) (e:Bool) (d:ByteArray) (k on w:Int) (x:Bool) (c la n:Int) (ps:List Pr):vY t st e d k on w x c la n ps=true↔jB t st e d k on w x c la n ps:=by
 have hn0:y8 0=true:=by decide
 have hst:=gI st
 have h0:= @Rb ps
 have hnn:=Qb on w x
 have hpn:Nc ps []=true↔ps.length=0:=by rw[Ag1];simp
 have hps:=NK ps
 have hd:= @Ue d
 rcases(by omega:(t<0\/11<t)\/t=0\/t=1\/t=2\/t=3\/t=4\/t=5\/t=6\/t=7\/t=8\/t=9\/t=10\/t=11) with h|h|h|h|h|h|h|h|h|h|h|h|h
 ·constructor
  ·intro hh
   unfold vY at hh
   simp only[Bool.and_eq_true,decide_eq_true_eq] at hh
   omega
  ·intro hh
   have:=hh.1
   omega
 all_goals
  subst h
  unfold vY jB rQ FM xZ
  simp only[oE,oD,oK,oO,oX,oC,oL,oN,oPs,Bool.and_eq_true,Bool.or_eq_true,decide_eq_true_eq]
  grind
end Go.Proofs.YtffnpejdkkohcaaGreat
namespace Go.Proofs.YtffnpejdkkohcaaGreat
open Go Go.Proofs Go.Sl
def qX (e:Bool):Int:=match e with
 |true=>1
 |false=>0
theorem Dt (e:Bool):0<=qX e/\qX e<=1:=by cases e <;> decide
theorem Abv:(256:Int) ^ (2:Nat)=65536:=by decide
end Go.Proofs.YtffnpejdkkohcaaGreat
section
namespace Go.Proofs.YtffnpejdkkohcaaGreat
open Go Go.Proofs Go.Sl
attribute [local irreducible] aM eY cU bQ aL aW aA dS dT aZ dR pt ro fN star sep bH
variable {R C:List HP} {K:KP} {n t k on w c la:Int} {e x:Bool} {d:ByteArray} {ps:List Pr}
def Aef (r:Nat) (xs:List Pc):HP:=fN fun A=>fN fun c=>sep (pt r [.slice A xs.length c] 318) (bU A c 310 pcC xs)
theorem SP {r n c:Nat} {A:Option Addr} {xs ys:List Pc} (hv:dE R A pcC ys) (hn:ys.length=n) (hl:xs.length+n<1000000000) (hK:K (.tuple #[]) (Aef r (xs++ys)::R)):
  CT 281 #[.slice A n c,PO r] (Aef r xs::R) K:=by
 refine aA.ex fun A=>aA.ex fun c=>aA.sep ?_
 refine aJ Tryz.func281 ?_
 repeat' (first|refine v36 ?_|refine w5 ?_ ?_|((refine bh fun h=>?_) <;> try exact w6 h)|(refine aF fun hA=>?_;subst hA)|intro _)
 refine aC ?_
 exact aQ (by exact bE) hK
theorem Pn (hK:K (.agg #[I6 n,I6 4,.string ⟨#[]⟩]) R):CT 282 #[I6 n] R K:=by
 refine aJ Tryz.func282 ?_
 repeat' (first|refine v31 ?_|refine w5 ?_ ?_|((refine bh fun h=>?_) <;> try exact w6 h)|(refine aF fun hA=>?_;subst hA)|intro _|(show aA _ 270 _ _ _;refine CA (h:=Abl ?_)))
 (refine aC ?_;exact aB (hK))
theorem T5 (hK:K (I6 (qX e)) R):CT 207 #[.bool e] R K:=by
 refine aJ Tryz.func207 ?_
 cases e
 all_goals
  repeat' (first|refine v0 ?_|refine w5 ?_ ?_|((refine bh fun h=>?_) <;> try exact w6 h)|(refine aF fun hA=>?_;subst hA)|intro _)
  (refine aC ?_;exact aB (hK))
def eQ (t:Int) (d:ByteArray) (k on w:Int) (x:Bool) (c la n:Int):List Pc:=if t=0\/t=1\/t=7\/t=8 then [⟨0,0,d⟩] else if t=2\/t=3 then [⟨k,1,⟨#[]⟩⟩,⟨qX x,1,⟨#[]⟩⟩,⟨w - 1,1,⟨#[]⟩⟩,⟨0,1,⟨#[]⟩⟩,⟨on,4,⟨#[]⟩⟩] else if t=4 then [⟨c,4,⟨#[]⟩⟩] else if t=9 then [⟨la,4,⟨#[]⟩⟩,⟨c,4,⟨#[]⟩⟩] else if t=10\/t=11 then [⟨n,4,⟨#[]⟩⟩] else []
def yI (ps:List Pr):List Pc:=ps.flatMap fun p=> [⟨p.i,2,⟨#[]⟩⟩,⟨p.v,4,⟨#[]⟩⟩]
theorem I8 (h:t=0\/t=1\/t=7\/t=8):eQ t d k on w x c la n= [⟨0,0,d⟩]:=by unfold eQ;rw[if_pos h]
theorem hp2 (h:t=2\/t=3):eQ t d k on w x c la n= [⟨k,1,⟨#[]⟩⟩,⟨qX x,1,⟨#[]⟩⟩,⟨w - 1,1,⟨#[]⟩⟩,⟨0,1,⟨#[]⟩⟩,⟨on,4,⟨#[]⟩⟩]:=by unfold eQ;rw[if_neg (by omega),if_pos h]
theorem hp3 (h:t=4):eQ t d k on w x c la n= [⟨c,4,⟨#[]⟩⟩]:=by unfold eQ;rw[if_neg (by omega),if_neg (by omega),if_pos h]
theorem hp4 (h:t=9):eQ t d k on w x c la n= [⟨la,4,⟨#[]⟩⟩,⟨c,4,⟨#[]⟩⟩]:=by unfold eQ;rw[if_neg (by omega),if_neg (by omega),if_neg (by omega),if_pos h]
theorem hp5 (h:t=10\/t=11):eQ t d k on w x c la n= [⟨n,4,⟨#[]⟩⟩]:=by unfold eQ;rw[if_neg (by omega),if_neg (by omega),if_neg (by omega),if_neg (by omega),if_pos h]
theorem hp6 (h:¬(t=0\/t=1\/t=7\/t=8)/\¬(t=2\/t=3)/\¬t=4/\¬t=9/\¬(t=10\/t=11)):eQ t d k on w x c la n= []:=by unfold eQ;rw[if_neg h.1,if_neg h.2.1,if_neg h.2.2.1,if_neg h.2.2.2.1,if_neg h.2.2.2.2]
theorem Xf (t:Int) (d:ByteArray) (k on w:Int) (x:Bool) (c la n:Int):(eQ t d k on w x c la n).length<=5:=by
 unfold eQ
 (repeat' split) <;> simp
theorem H7:∀ps:List Pr,(yI ps).length=2 * ps.length
 | []=>rfl
 |p::l=>by
  have:=H7 l
  unfold yI at this ⊢
  simp only[List.flatMap_cons,List.length_append,List.length_cons,List.length_nil,this]
  omega
theorem Wo {j:Nat} {y:Pr} (h:ps[j]?=some y):yI (ps.take (j+1))=yI (ps.take j)++ [⟨y.i,2,⟨#[]⟩⟩,⟨y.v,4,⟨#[]⟩⟩]:=by
 unfold yI
 rw[List.take_add_one,h]
 simp
def jG:List Nat:= [0,0,2,6,0,16,48,126,254,0,512,1536,3584,8190,16382,0,0,65536,196608,524286,1048574,2097151]
def jP:List Nat:= [2097151,1048574,524286,196608,65536,0,0,16382,8190,3584,1536,512,0,254,126,48,16,0,6,2,0,0]
def jQ:List (Nat×Nat):= [(1,0),(2,0),(3,1),(4,1),(5,1),(6,1),(7,1),(8,1),(9,3),(10,3),(11,3),(12,3),(13,1),(14,1),(15,5),(16,5),(17,5),(18,5),(19,1),(20,1),(0,7),(21,1)]
def jK:List (Nat×Nat):= [(1,0),(2,0),(3,0),(4,1),(5,1),(6,1),(7,1),(8,1),(9,1),(0,3),(10,1)]
def jL:List (Nat×Nat):= [(1,0),(2,0),(3,1),(4,1),(5,1),(6,1),(7,1),(8,1),(0,3),(9,1)]
theorem QL {st:Int} {pa:Option Addr} {pn pc:Nat} (hv:dE C pa oG ps) (hn:ps.length=pn) (hn2:pn<100000000) (hk:1<=w/\w<=1000\/¬(t=2\/t=3)) (hK:K (.string (uV (eQ t d k on w x c la n++yI ps))) C):CT 205 #[.agg #[I6 t,I6 st,.bool e,.string d,I6 k,I6 on,I6 w,.bool x,I6 c,I6 la,I6 n,.slice pa pn pc]] C K:=by
 subst hn
 have hh:=Xf t d k on w x c la n
 refine aJ Tryz.func205 ?_
 repeat' (first|(show eY _ (.block 0 _) _ _ _;refine Ajr (fun a C'=>∃b r:Nat,C'=Aef r (eQ t d k on w x c la n)::pt b [I6 t,I6 st,.bool e,.string d,I6 k,I6 on,I6 w,.bool x,I6 c,I6 la,I6 n,.slice pa ps.length pc] 45::C/\cW a [(1,PO b),(3,PO r),(4,.func (.func 281) #[] #[PO r]),(5,.func (.func 282) #[] #[])]) ?_ (fun a C' hI=>?_))|refine I9 ?_|refine ON jG jP jQ ?_|refine dw jK ?_|refine dw jL ?_|refine w5 ?_ ?_|((refine bh fun h=>?_) <;> try exact w6 h)|(refine aF fun hA=>?_;subst hA)|intro _|(show aA _ 281 _ _ _;refine CA (h:=SP (xs:= []) (by exact kU) (by exact rfl) (by decide) ?_))|(show aA _ 282 _ _ _;refine CA (h:=Pn ?_))|(show aA _ 207 _ _ _;refine CA (h:=T5 ?_))|(show aA _ 270 _ _ _;refine CA (h:=Abl ?_))|(show aA _ 283 _ _ _;refine CA (h:=Amp ?_)))
 all_goals first
  |(show dR _ _ _
    first
     |rw[I8 (by omega)]
     |rw[hp2 (by omega)]
     |rw[hp3 (by omega)]
     |rw[hp4 (by omega)]
     |rw[hp5 (by omega)]
     |rw[hp6 (by omega)]
    exact Abs ⟨_,_,rfl,rfl,rfl,rfl,rfl,trivial⟩)
  |skip
 obtain⟨b,r,rfl,ha⟩:=hI
 refine⟨?_⟩
 refine t_n ?_
 refine gJ _ ha ?_
 simp only[fF]
 repeat' (first|refine I9 ?_|refine ON jG jP jQ ?_|refine dw jK ?_|refine dw jL ?_|refine w5 ?_ ?_|((refine bh fun h=>?_) <;> try exact w6 h)|(refine aF fun hA=>?_;subst hA)|intro _)
 have hpl:=H7 ps
 have e0:eQ t d k on w x c la n=eQ t d k on w x c la n++yI (ps.take 0):=by rw[List.take_zero];exact(List.append_nil _).symm
 rw[e0]
 have hv2:dE (pt b [I6 t,I6 st,.bool e,.string d,I6 k,I6 on,I6 w,.bool x,I6 c,I6 la,I6 n,.slice pa ps.length pc] 45::C) pa oG ps:=bF hv
 refine iH (fun m a C'=>∃j:Nat,j+m=ps.length/\C'=Aef r (eQ t d k on w x c la n++yI (ps.take j))::pt b [I6 t,I6 st,.bool e,.string d,I6 k,I6 on,I6 w,.bool x,I6 c,I6 la,I6 n,.slice pa ps.length pc] 45::C/\cW a [(3,PO r),(4,.func (.func 281) #[] #[PO r]),(5,.func (.func 282) #[] #[]),(82,.slice pa ps.length pc),(83,I6 ps.length),(84,I6 j)]) ps.length (cG ps.length ⟨0,by omega,rfl,rfl,rfl,rfl,rfl,rfl,rfl,trivial⟩) ?_
 rintro n1 a C' ⟨j,hj,rfl,ha⟩
 refine gJ _ ha ?_
 simp only[fF]
 by_cases hlt:j<ps.length
 ·obtain⟨y,hy,hd⟩:=i0 (l:=ps) (j:=j) (by omega)
  have ht:=Wo hy
  have hl2:(eQ t d k on w x c la n++yI (ps.take j)).length+2<1000000000:=by
   rw[List.length_append,H7,List.length_take];omega
  repeat' (first|refine I9 ?_|refine ON jG jP jQ ?_|refine dw jK ?_|refine dw jL ?_|refine w5 ?_ ?_|((refine bh fun h=>?_) <;> try exact w6 h)|(refine aF fun hA=>?_;subst hA)|intro _|(show aA _ 281 _ _ _;refine CA (h:=SP (xs:=eQ t d k on w x c la n++yI (ps.take j)) (by exact kU) (by exact rfl) hl2 ?_))|(show aA _ 282 _ _ _;refine CA (h:=Pn ?_))|(show aA _ 270 _ _ _;refine CA (h:=Abl ?_)))
  all_goals exact cG (n1 - 1) ⟨j+1,by omega,by rw[ht,<- List.append_assoc],rfl,rfl,rfl,rfl,rfl,rfl,trivial⟩
 ·obtain rfl:j=ps.length:=by omega
  rw[List.take_of_length_le (Nat.le_refl _)]
  refine vX fun A=>vX fun c'=>GB ?_
  have hl2:(eQ t d k on w x c la n++yI ps).length=(eQ t d k on w x c la n).length+(yI ps).length:=List.length_append
  repeat' (first|refine I9 ?_|refine ON jG jP jQ ?_|refine dw jK ?_|refine dw jL ?_|refine w5 ?_ ?_|((refine bh fun h=>?_) <;> try exact w6 h)|(refine aF fun hA=>?_;subst hA)|intro _|(show aA _ 269 _ _ _;refine CA (h:=Qx (ps:=eQ t d k on w x c la n++yI ps) (by exact kU) rfl (by omega) ?_)))
  (refine aC ?_;exact aB (hK))
end Go.Proofs.YtffnpejdkkohcaaGreat
namespace Go.Proofs.YtffnpejdkkohcaaGreat
open Go Go.Proofs Go.Sl
attribute [local irreducible] aM eY cU bQ aL aW aA dS dT aZ dR pt ro fN star sep bH
variable {R C:List HP} {K:KP} {ps:List Pr} {n:Int}
theorem KD:∀(ps:List Pc) (n:Int),0<=n->eJ ps=0->n+(kP ps).length<=4096->Jj ps n<=4096
 | [],n,_,_,h=>by simp[Jj,kP] at h ⊢;omega
 |p::l,n,h0,he,h=>by
  obtain⟨h1,h2⟩:=zL he
  have hl:=ML (n:=p.n) (s:=p.s) (Ea h1)
  have hc:((kP (p::l)).length:Int)=kK p.w p.s+(kP l).length:=by rw[<- hl];simp[kP]
  have hnn:=E2 p.w p.s
  have hm:min (kK p.w p.s) 4097=kK p.w p.s:=by omega
  unfold Jj
  rw[hm,if_neg (by omega)]
  exact KD l _ (by omega) h2 (by omega)
theorem Aiv {ps:List Pc} (h:eJ ps=0) (h2:(kP ps).length<=4096):uV ps=⟨(kP ps).toArray⟩:=by
 have h3:=KD ps 0 (by omega) h (by omega)
 have he:xG ps=0:=by
  unfold xG
  rw[if_pos h,if_neg (by omega)]
 unfold uV
 rw[if_pos he]
theorem GJ:∀(a b:List Pc),eJ a=0->eJ b=0->eJ (a++b)=0
 | [],b,_,h=>h
 |p::l,b,h1,h=>by
  obtain⟨h2,h3⟩:=zL h1
  show(if iU p.n p.w=0 then eJ (l++b) else _)=0
  rw[if_pos h2]
  exact GJ l b h3 h
def Jg (ps:List Pr):List UInt8:=ps.flatMap fun p=>wB p.i 2++wB p.v 4
def kE (t:Int) (d:ByteArray) (k on w:Int) (x:Bool) (c la n:Int) (ps:List Pr):List UInt8:=if t=2\/t=3 then wB k 1++(wB (qX x) 1++(wB (w - 1) 1++(wB 0 1++wB on 4))) else if t=4 then wB c 4 else if t=9 then wB la 4++wB c 4 else if t=10\/t=11 then wB n 4 else d.data.toList++Jg ps
theorem vQ:∀ps:List Pr,(Jg ps).length=6 * ps.length
 | []=>rfl
 |p::l=>by
  have:=vQ l
  unfold Jg at this ⊢
  simp only[List.flatMap_cons,List.length_append,List.length_cons,this,iT]
  have a2:(2:Int).toNat=2:=rfl
  have a4:(4:Int).toNat=4:=rfl
  omega
theorem Ye {j:Nat} {y:Pr} (h:ps[j]?=some y):Jg (ps.take (j+1))=Jg (ps.take j)++(wB y.i 2++wB y.v 4):=by
 unfold Jg
 rw[List.take_add_one,h]
 simp
theorem Ki (h:y8 n=true):iU n 4=0:=by
 obtain⟨p1,p3,p4⟩:=MK
 have m:=Cq (n:=n) (w:=4) (by decide)
 rw[show(4:Int).toNat=4 from rfl,p4] at m
 have:=(gI n).1 h
 exact m.2 (by omega)
theorem Ak3 (h:0<=n/\n<=65535):iU n 2=0:=by
 have m:=Cq (n:=n) (w:=2) (by decide)
 rw[show(2:Int).toNat=2 from rfl,Abv] at m
 exact m.2 (by omega)
theorem Ae5 (h:0<=n/\n<=255):iU n 1=0:=by
 obtain⟨p1,p3,p4⟩:=MK
 have m:=Cq (n:=n) (w:=1) (by decide)
 rw[show(1:Int).toNat=1 from rfl,p1] at m
 exact m.2 (by omega)
theorem Hw:∀ {ps:List Pr},BF ps=true->eJ (yI ps)=0
 | [],_=>rfl
 |p::l,h=>by
  simp only[BF,List.all_cons,Bool.and_eq_true,decide_eq_true_eq] at h
  have:=Hw (ps:=l) (by unfold BF;simpa using h.2)
  show eJ (⟨p.i,2,⟨#[]⟩⟩::⟨p.v,4,⟨#[]⟩⟩::yI l)=0
  simp only[eJ]
  rw[if_pos (Ak3 h.1.1),if_pos (Ki h.1.2)]
  exact this
theorem Hv:∀ps:List Pr,kP (yI ps)=Jg ps
 | []=>rfl
 |p::l=>by
  have:=Hv l
  show kP (⟨p.i,2,⟨#[]⟩⟩::⟨p.v,4,⟨#[]⟩⟩::yI l)=Jg (p::l)
  unfold kP at this ⊢
  rw[List.flatMap_cons,List.flatMap_cons,this]
  simp[OG,Jg]
theorem PI (a b:List Pc):kP (a++b)=kP a++kP b:=by unfold kP;simp
theorem BB {t st:Int} {e:Bool} {d:ByteArray} {k on w:Int} {x:Bool} {c la:Int} (h:jB t st e d k on w x c la n ps):uV (eQ t d k on w x c la n++yI ps)=⟨(kE t d k on w x c la n ps).toArray⟩/\(kE t d k on w x c la n ps).length<=256:=by
 obtain⟨h1,h2,h3,h4,h5,h6,h7,h8,h9,h10,h11,h12,h13,h14,h15,h16,h17,h18,h19,h20,h21⟩:=h
 have hd:d.data.toList.length=d.size:=by simp
 have hp:=Hw h17
 have hl:=vQ ps
 have a1:(1:Int).toNat=1:=rfl
 have a4:(4:Int).toNat=4:=rfl
 have key:∀hs:List Pc,eQ t d k on w x c la n=hs->eJ hs=0->kP hs++Jg ps=kE t d k on w x c la n ps->(kE t d k on w x c la n ps).length<=256->uV (eQ t d k on w x c la n++yI ps)=⟨(kE t d k on w x c la n ps).toArray⟩/\(kE t d k on w x c la n ps).length<=256:=by
  intro hs e1 e2 e3 e4
  rw[e1,Aiv (GJ _ _ e2 hp) (by rw[PI,Hv,e3];omega),PI,Hv,e3]
  exact⟨rfl,e4⟩
 have hps:¬t=5->Jg ps= []:=fun h=>by
  have:ps.length=0:=by
   rcases Nat.eq_zero_or_pos ps.length with h'|h'
   ·exact h'
   ·exact absurd (h10 h') h
  rw[List.length_eq_zero_iff.1 this];rfl
 rcases(by omega:(t=0\/t=1\/t=7\/t=8)\/(t=2\/t=3)\/t=4\/t=9\/(t=10\/t=11)\/t=5\/t=6) with h|h|h|h|h|h|h
 ·refine key [⟨0,0,d⟩] (by unfold eQ;rw[if_pos h]) rfl ?_ ?_
  ·rw[hps (by omega)]
   unfold kE
   rw[if_neg (by omega),if_neg (by omega),if_neg (by omega),if_neg (by omega),hps (by omega)]
   simp[kP,OG,show wB 0 0= [] from rfl]
  ·unfold kE
   rw[if_neg (by omega),if_neg (by omega),if_neg (by omega),if_neg (by omega),hps (by omega)]
   rw[List.append_nil,hd]
   by_cases h':t<=1
   ·exact h13 h'
   ·have:=h14 (by omega);omega
 ·have hdep:=h16 h
  unfold Gb at hdep
  simp only[Bool.and_eq_true,decide_eq_true_eq] at hdep
  have hb:=Dt x
  have hk:0<=k/\k<=255:=by
   by_cases h2:t=2
   ·have:=h15 h2;omega
   ·have:k=0:=Classical.byContradiction fun h'=>h2 (h6 h')
    omega
  refine key [⟨k,1,⟨#[]⟩⟩,⟨qX x,1,⟨#[]⟩⟩,⟨w - 1,1,⟨#[]⟩⟩,⟨0,1,⟨#[]⟩⟩,⟨on,4,⟨#[]⟩⟩] (by unfold eQ;rw[if_neg (by omega),if_pos h]) ?_ ?_ ?_
  ·simp only[eJ]
   rw[if_pos (Ae5 hk),if_pos (Ae5 (by omega)),if_pos (Ae5 (by omega)),if_pos (Ae5 (by omega)),if_pos (Ki hdep.1)]
  ·rw[hps (by omega)]
   unfold kE
   rw[if_pos h]
   simp[kP,OG]
  ·unfold kE
   rw[if_pos h]
   simp only[List.length_append,iT]
   omega
 ·refine key [⟨c,4,⟨#[]⟩⟩] (by unfold eQ;rw[if_neg (by omega),if_neg (by omega),if_pos h]) ?_ ?_ ?_
  ·simp only[eJ]
   rw[if_pos (Ki h18)]
  ·rw[hps (by omega)]
   unfold kE
   rw[if_neg (by omega),if_pos h]
   simp[kP,OG]
  ·unfold kE
   rw[if_neg (by omega),if_pos h,iT]
   omega
 ·refine key [⟨la,4,⟨#[]⟩⟩,⟨c,4,⟨#[]⟩⟩] (by unfold eQ;rw[if_neg (by omega),if_neg (by omega),if_neg (by omega),if_pos h]) ?_ ?_ ?_
  ·simp only[eJ]
   rw[if_pos (Ki h19),if_pos (Ki h18)]
  ·rw[hps (by omega)]
   unfold kE
   rw[if_neg (by omega),if_neg (by omega),if_pos h]
   simp[kP,OG]
  ·unfold kE
   rw[if_neg (by omega),if_neg (by omega),if_pos h,List.length_append,iT,iT]
   omega
 ·refine key [⟨n,4,⟨#[]⟩⟩] (by unfold eQ;rw[if_neg (by omega),if_neg (by omega),if_neg (by omega),if_neg (by omega),if_pos h]) ?_ ?_ ?_
  ·simp only[eJ]
   rw[if_pos (Ki h20)]
  ·rw[hps (by omega)]
   unfold kE
   rw[if_neg (by omega),if_neg (by omega),if_neg (by omega),if_pos h]
   simp[kP,OG]
  ·unfold kE
   rw[if_neg (by omega),if_neg (by omega),if_neg (by omega),if_pos h,iT]
   omega
 all_goals
  have hd0:d.data.toList= []:=by
   rcases Nat.eq_zero_or_pos d.size with h'|h'
   ·exact List.length_eq_zero_iff.1 (by omega)
   ·have:=h12 h';omega
  refine key [] (by unfold eQ;rw[if_neg (by omega),if_neg (by omega),if_neg (by omega),if_neg (by omega),if_neg (by omega)]) rfl ?_ ?_
  ·unfold kE
   rw[if_neg (by omega),if_neg (by omega),if_neg (by omega),if_neg (by omega),hd0]
   rfl
  ·unfold kE
   rw[if_neg (by omega),if_neg (by omega),if_neg (by omega),if_neg (by omega),hd0,List.nil_append]
   omega
end Go.Proofs.YtffnpejdkkohcaaGreat
end
namespace Go.Proofs.YtffnpejdkkohcaaGreat
open Go Go.Proofs Go.Sl
attribute [local irreducible] aM eY cU bQ aL aW aA dS dT aZ dR pt ro fN star sep bH
variable {R C:List HP} {K:KP}
theorem wG (s:ByteArray) (i j:Nat):qL s i j=o7 ((s.data.toList.drop i).take (j - i)):=by
 unfold qL;simp[List.extract]
theorem x8 {n w:Int} (hw:0<=w) (h0:0<=n) (h1:n<256 ^ w.toNat):o7 (wB n w)=n:=by
 obtain⟨k,rfl⟩:∃k:Nat,w=k:=⟨w.toNat,by omega⟩
 rw[Aco,Int.emod_eq_of_lt h0 (by rwa[Int.toNat_natCast] at h1)]
theorem Ak0 {l t f s:Int} {b:ByteArray} (h:NN l t f s=true):Xq (i9 l t f s++b)=0/\Gy (i9 l t f s++b) 0 3=l/\Gy (i9 l t f s++b) 3 4=t/\Gy (i9 l t f s++b) 4 5=f/\Gy (i9 l t f s++b) 5 9=s:=by
 obtain⟨p1,p3,p4⟩:=MK
 have hl:(i9 l t f s++b).data.toList=wB l 3++(wB t 1++(wB f 1++(wB s 4++b.data.toList))):=by
  rw[ByteArray.data_append,Array.toList_append,EG h];simp
 have l1:=iT l 3
 have l2:=iT t 1
 have l3:=iT f 1
 have l4:=iT s 4
 rw[show(3:Int).toNat=3 from rfl] at l1
 rw[show(1:Int).toNat=1 from rfl] at l2 l3
 rw[show(4:Int).toNat=4 from rfl] at l4
 unfold NN at h
 simp only[Bool.and_eq_true,decide_eq_true_eq] at h
 have n1:=x8 (n:=l) (w:=3) (by decide) (by omega) (by rw[show(3:Int).toNat=3 from rfl,p3];omega)
 have n2:=x8 (n:=t) (w:=1) (by decide) (by omega) (by rw[show(1:Int).toNat=1 from rfl,p1];omega)
 have n3:=x8 (n:=f) (w:=1) (by decide) (by omega) (by rw[show(1:Int).toNat=1 from rfl,p1];omega)
 have n4:=x8 (n:=s) (w:=4) (by decide) (by omega) (by rw[show(4:Int).toNat=4 from rfl,p4];omega)
 have a1:qL (i9 l t f s++b) 0 3=l:=by
  rw[wG,hl,List.drop_zero,List.take_left' (by omega),n1]
 have a2:qL (i9 l t f s++b) 3 4=t:=by
  rw[wG,hl,List.drop_left' (by omega),List.take_left' (by omega),n2]
 have a3:qL (i9 l t f s++b) 4 5=f:=by
  rw[wG,hl,<- List.append_assoc,List.drop_left' (by rw[List.length_append];omega),List.take_left' (by omega),n3]
 have a4:qL (i9 l t f s++b) 5 9=s:=by
  rw[wG,hl,<- List.append_assoc,<- List.append_assoc,List.drop_left' (by rw[List.length_append,List.length_append];omega),List.take_left' (by omega),n4]
 have hsz:(i9 l t f s++b).size=9+b.size:=by
  have:(i9 l t f s++b).data.toList.length=(i9 l t f s++b).size:=by simp
  rw[<- this,hl]
  simp only[List.length_append,l1,l2,l3,l4]
  have:b.data.toList.length=b.size:=by simp
  omega
 have he:Xq (i9 l t f s++b)=0:=by
  unfold Xq
  rw[if_neg (by omega),if_neg (by rw[a4];omega)]
 unfold Gy
 rw[he,if_pos rfl,if_pos rfl,if_pos rfl,if_pos rfl]
 exact⟨rfl,a1,a2,a3,a4⟩
theorem C7 (s:ByteArray) (i j:Nat):0<=qL s i j/\qL s i j<256 ^ (j - i):=by
 rw[wG]
 refine⟨UB _,Int.lt_of_lt_of_le (TF _) ?_⟩
 exact_mod_cast Nat.pow_le_pow_right (by decide) (by rw[List.length_take];omega)
end Go.Proofs.YtffnpejdkkohcaaGreat
namespace Go.Proofs.YtffnpejdkkohcaaGreat
open Go Go.Proofs Go.Sl
def bq (l:List UInt8):ByteArray:=⟨l.toArray⟩
structure AC where
 kd:Int
 sd:Int
 id:Int
 n:Int
 cd:Int
 s:ByteArray
 on:Int
 ww:Int
 xx:Bool
 xw:Int
 xs:Int
 xi:Int
def isL (c:UInt8):Prop:=c=115\/c=105\/c=110\/c=99\/c=116\/c=111\/c=119\/c=120\/c=112\/c=113\/c=114
instance (c:UInt8):Decidable (isL c):=by unfold isL;infer_instance
end Go.Proofs.YtffnpejdkkohcaaGreat
