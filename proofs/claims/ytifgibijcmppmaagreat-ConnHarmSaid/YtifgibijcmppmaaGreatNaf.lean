/- A part of the proof: lemmas; each with the conditions that it states. -/
import Derived.Test.YtifgibijcmppmaaGreatNae
set_option linter.unusedVariables false
set_option linter.unusedSimpArgs false
section
namespace Go.Proofs.YtifgibijcmppmaaGreat
open Go Go.Proofs Go.Sl
set_option maxRecDepth 100000
set_option maxHeartbeats 40000000
attribute [local irreducible] aN fB cJ bO aM aY aA dM dQ aW dK pt ro fF star sep bI
variable {R:List HP} {K:Value→List HP→Prop}
def eX (p:Nat) (s:ByteArray) (bad:Bool):HP:=pt p [.string s,.bool bad] 404
theorem Tz (s:ByteArray) (hK:∀r,K (.pointer (some ⟨r,0,none⟩)) (eX r s false::R)):aA Tryz.prog 326 #[.string s] R K:=by
 refine aH Tryz.func326 ?_
 repeat' (first|refine v6 ?_|refine wr ?_|refine w5 ?_ ?_|((refine bh fun h=>?_) <;> try exact w6 h)|(refine aE fun hA=>?_;subst hA)|intro _)
 (refine aC ?_;exact aB (hK _))
theorem ZI (p:Nat) (s:ByteArray) (bad:Bool) (hK:K (.bool bad) (eX p s bad::R)):aA Tryz.prog 328 #[.pointer (some ⟨p,0,none⟩)] (eX p s bad::R) K:=by
 unfold eX at *
 refine aH Tryz.func328 ?_
 repeat' (first|refine v23 ?_|refine wr ?_|refine w5 ?_ ?_|((refine bh fun h=>?_) <;> try exact w6 h)|(refine aE fun hA=>?_;subst hA)|intro _)
 (refine aC ?_;exact aB (hK))
theorem Mf (p:Nat) (s:ByteArray) (bad:Bool) (hK:K (.int .i64 s.size) (eX p s bad::R)):aA Tryz.prog 380 #[.pointer (some ⟨p,0,none⟩)] (eX p s bad::R) K:=by
 unfold eX at *
 refine aH Tryz.func380 ?_
 repeat' (first|refine v4 ?_|refine wr ?_|refine w5 ?_ ?_|((refine bh fun h=>?_) <;> try exact w6 h)|(refine aE fun hA=>?_;subst hA)|intro _)
 (refine aC ?_;exact aB (hK))
def lL (n:Int) (s:ByteArray) (bad:Bool):Bool:=!bad && decide (0≤n) && decide (n≤s.size)
def zO (n:Int) (s:ByteArray) (bad:Bool):ByteArray:=match lL n s bad with
 |true=>s.extract 0 n.toNat
 |false=>⟨#[]⟩
def DI (n:Int) (s:ByteArray) (bad:Bool):ByteArray:=match lL n s bad with
 |true=>s.extract n.toNat s.size
 |false=>s
theorem Uo {p:Nat} {n:Int} {s:ByteArray} {bad:Bool} (hK:K (.string (zO n s bad)) (eX p (DI n s bad) (!lL n s bad)::R)):aA Tryz.prog 378 #[.pointer (some ⟨p,0,none⟩),.int .i64 n] (eX p s bad::R) K:=by
 refine aH Tryz.func378 ?_
 repeat' (first|refine v62 ?_|refine wr ?_|refine w5 ?_ ?_|((refine bh fun h=>?_) <;> try exact w6 h)|(refine aE fun hA=>?_;subst hA)|intro _|(show aA _ 328 _ _ _;refine CA (h:=ZI _ _ _ ?_)))
 all_goals
  first
  |(have e:lL n s bad=false:=by(unfold lL;simp[*] <;> omega))
  |(have e:lL n s bad=true:=by(unfold lL;simp[*] <;> omega))
  simp only[zO,DI,e,Bool.not_true,Bool.not_false] at hK
  subst_vars
  (refine aC ?_;exact aB (hK))
theorem Aeo {p:Nat} {s:ByteArray} {bad:Bool} (hK:K (.string (zO s.size s bad)) (eX p (DI s.size s bad) (!lL s.size s bad)::R)):aA Tryz.prog 379 #[.pointer (some ⟨p,0,none⟩)] (eX p s bad::R) K:=by
 refine aH Tryz.func379 ?_
 repeat' (first|refine v0 ?_|refine wr ?_|refine w5 ?_ ?_|((refine bh fun h=>?_) <;> try exact w6 h)|(refine aE fun hA=>?_;subst hA)|intro _|(show aA _ 380 _ _ _;refine CA (h:=Mf _ _ _ ?_))|(show aA _ 378 _ _ _;refine CA (h:=Uo ?_)))
 (refine aC ?_;exact aB (hK))
end Go.Proofs.YtifgibijcmppmaaGreat
namespace Go.Proofs.YtifgibijcmppmaaGreat
open Go Go.Proofs Go.Sl
set_option maxRecDepth 100000
set_option maxHeartbeats 40000000
attribute [local irreducible] aN fB cJ bO aM aY aA dM dQ aW dK pt ro fF star sep bI
variable {R:List HP} {K:Value→List HP→Prop}
def zR (l:List UInt8):Int:=l.foldl (fun u b=>u * 256+b.toNat) 0
theorem E1 (l:List UInt8) (b:UInt8):zR (l++ [b])=zR l * 256+b.toNat:=by simp[zR]
theorem U8 (l:List UInt8):0≤zR l:=by
 have key:∀n (l:List UInt8),l.length=n→0≤zR l:=by
  intro n
  induction n with
  |zero=>intro l hl;rw[List.length_eq_zero_iff.1 hl];decide
  |succ n ih=>
   intro l hl
   have hne:l≠ []:=by intro h;rw[h] at hl;cases hl
   rw[← List.dropLast_concat_getLast hne,E1]
   have:=ih l.dropLast (by simp[hl])
   omega
 exact key _ l rfl
theorem UA (l:List UInt8):zR l<256 ^ l.length:=by
 have key:∀n (l:List UInt8),l.length=n→zR l<256 ^ n:=by
  intro n
  induction n with
  |zero=>intro l hl;rw[List.length_eq_zero_iff.1 hl];decide
  |succ n ih=>
   intro l hl
   have hne:l≠ []:=by intro h;rw[h] at hl;cases hl
   rw[← List.dropLast_concat_getLast hne,E1]
   have:=ih l.dropLast (by simp[hl])
   have:=(l.getLast hne).toNat_lt
   rw[Int.pow_succ]
   omega
 exact key _ l rfl
theorem Zx (l:List UInt8) (h:l.length≤4):0≤zR l∧zR l<4294967296:=by
 refine⟨U8 l,Int.lt_of_lt_of_le (UA l) ?_⟩
 have:(256:Int) ^ l.length≤256 ^ 4:=by exact_mod_cast Nat.pow_le_pow_right (by decide) h
 exact this
theorem Xu (l:List UInt8) (j:Nat) (b:UInt8) (hb:l[j]?=some b):zR (l.take (j+1))=zR (l.take j) * 256+b.toNat:=by rw[List.take_add_one,hb];exact E1 _ _
theorem Al3 {l:List UInt8} {j:Nat} (h:j<l.length):∃b,l[j]?=some b:=⟨_,List.getElem?_eq_getElem h⟩
def uW (n:Int):Int:=if n<1∨4<n then -1 else n
def uN (n:Int) (s:ByteArray) (bad:Bool):Int:=zR (zO (uW n) s bad).data.toList
theorem W2 (n:Int) (s:ByteArray) (bad:Bool):(zO n s bad).data.toList.length≤n.toNat:=by
 unfold zO
 split
 ·simp;omega
 ·simp
theorem Ah7 {Q:Exit→Fr→List HP→Prop} {a:Fr} {C:List HP} (u:ByteArray) (r N:Nat) (e:TypeId) (hu:u.data.toList.length≤4) (ha:cN a [(17,.slice (some ⟨r,0,none⟩) u.size N),(18,.int .i64 u.size),(19,.int .i64 0),(5,.int .i64 0)])
  (hC:∃C',C=bT (some ⟨r,0,none⟩) N e d8 u.data.toList::C') (hK:∀a,Q (.exit 0) (eQ a [(5,.int .i64 (zR u.data.toList))]) C):fB Tryz.prog (Rf Tryz.f327 0) Q a C:=by
 obtain⟨C',rfl⟩:=hC
 have hsz:u.data.toList.length=u.size:=by simp
 refine iF (fun m a C=>∃j,j+m=u.size∧C=bT (some ⟨r,0,none⟩) N e d8 u.data.toList::C'∧cN a [(17,.slice (some ⟨r,0,none⟩) u.size N),(18,.int .i64 u.size),(19,.int .i64 (j:Nat)),(5,.int .i64 (zR (u.data.toList.take j)))]) u.size
  (b9 u.size ⟨0,by omega,rfl,ha⟩) ?_
 rintro n a C ⟨j,hj,rfl,ha⟩
 refine gF _ ha ?_
 simp only[eQ]
 have hb:=Zx (u.data.toList.take j) (by simp;omega)
 by_cases hlt:j<u.size
 ·obtain⟨b,hb⟩:=Al3 (l:=u.data.toList) (j:=j) (by omega)
  have hb2:=b.toNat_lt
  repeat' (first|refine w1 ?_|refine w5 ?_ ?_|((refine bh fun h=>?_) <;> try exact w6 h)|(refine aE fun hA=>?_;subst hA)|intro _)
  show aW _ _ _ _
  exact b9 (n - 1) ⟨j+1,by omega,rfl,rfl,rfl,rfl,by rw[Xu _ _ _ hb];rfl,trivial⟩
 ·obtain rfl:j=u.size:=by omega
  repeat' (first|refine w1 ?_|refine w5 ?_ ?_|((refine bh fun h=>?_) <;> try exact w6 h)|(refine aE fun hA=>?_;subst hA)|intro _)
  exact AY (p:=fun a=>Q (.exit 0) a _) [(5,.int .i64 (zR u.data.toList))] ⟨by rw[List.take_of_length_le (by omega)];rfl,trivial⟩ (hK _)
theorem Alb {p:Nat} {n:Int} {s:ByteArray} {bad:Bool} (hK:K (.int .i64 (uN n s bad)) (eX p (DI (uW n) s bad) (!lL (uW n) s bad)::R)):aA Tryz.prog 327 #[.pointer (some ⟨p,0,none⟩),.int .i64 n] (eX p s bad::R) K:=by
 unfold uN uW at hK
 refine aH Tryz.func327 ?_
 repeat' (first|refine v86 ?_|refine wr ?_|refine w5 ?_ ?_|((refine bh fun h=>?_) <;> try exact w6 h)|(refine aE fun hA=>?_;subst hA)|intro _|(show aA _ 378 _ _ _;refine CA (h:=Uo ?_))|refine Ah7 _ _ _ _ ?_ ⟨rfl,rfl,rfl,rfl,trivial⟩ ⟨_,rfl⟩ (fun a=>?_))
 all_goals first
  |(rw[if_pos (by omega)] at hK;(refine aC ?_;exact aB (hK)))
  |(rw[if_neg (by omega)] at hK;(refine aC ?_;exact aB (hK)))
  |exact Nat.le_trans (W2 _ _ _) (by omega)
end Go.Proofs.YtifgibijcmppmaaGreat
end
namespace Go.Proofs.YtifgibijcmppmaaGreat
open Go Go.Proofs Go.Sl
set_option maxRecDepth 100000
set_option maxHeartbeats 40000000
attribute [local irreducible] aN fB cJ bO aM aY aA dM dQ aW dK pt ro fF star sep bI
section
variable {R C:List HP} {K:Value→List HP→Prop}
structure Pc where
 n:Int
 w:Int
 s:ByteArray
def pcD:List Value→Option Pc
 | [.int .i64 n,.int .i64 w,.string s]=>some ⟨n,w,s⟩
 |_=>none
theorem Ajq (cs:List Value) (y:Pc) (h:pcD cs=some y): [.int .i64 y.n,.int .i64 y.w,.string y.s]=cs:=by
 unfold pcD at h
 split at h
 ·cases h;rfl
 ·cases h
def pcC:t6 Pc:= { enc:=fun p=> [.int .i64 p.n,.int .i64 p.w,.string p.s],sz:=3,dec:=pcD,len:=fun _=>rfl,one:=fun _=>rfl,ok:=Ajq }
def iY (n w:Int):Int:=if w<0∨4<w then 2 else if 0<w∧(n<0∨0<n / 2 ^ (8 * w).toNat) then 3 else 0
def kD (w:Int) (s:ByteArray):Int:=if w=0 then s.size else if w<0∨4<w then 0 else w
def wB (n w:Int):List UInt8:=(List.range w.toNat).map fun(i:Nat)=>sJ (n / 2 ^ (8 * (w - 1 - (i:Int))).toNat)
def NN (n w:Int) (s:ByteArray):List UInt8:=(if w=0 then s.data.toList else [])++wB n w
theorem Ab2 {n w:Int} (hK:K (.agg #[.int .i64 n,.int .i64 w,.string ⟨#[]⟩]) R):aA Tryz.prog 336 #[.int .i64 n,.int .i64 w] R K:=by
 refine aH Tryz.func336 ?_
 repeat' (first|refine v5 ?_|refine wr ?_|refine w5 ?_ ?_|((refine bh fun h=>?_) <;> try exact w6 h)|(refine aE fun hA=>?_;subst hA)|intro _)
 (refine aC ?_;exact aB (hK))
theorem Al7 {s:ByteArray} (hK:K (.agg #[.int .i64 0,.int .i64 0,.string s]) R):aA Tryz.prog 349 #[.string s] R K:=by
 refine aH Tryz.func349 ?_
 repeat' (first|refine v5 ?_|refine wr ?_|refine w5 ?_ ?_|((refine bh fun h=>?_) <;> try exact w6 h)|(refine aE fun hA=>?_;subst hA)|intro _)
 (refine aC ?_;exact aB (hK))
theorem Ajd {n w:Int} {s:ByteArray} (hK:K (.int .i64 (iY n w)) R):aA Tryz.prog 382 #[.agg #[.int .i64 n,.int .i64 w,.string s]] R K:=by
 refine aH Tryz.func382 ?_
 repeat' (first|refine v56 ?_|refine wr ?_|refine w5 ?_ ?_|((refine bh fun h=>?_) <;> try exact w6 h)|(refine aE fun hA=>?_;subst hA)|intro _)
 all_goals(refine aC ?_;exact aB (ki hK (by unfold iY;(repeat' split) <;> first|rfl|omega|(exfalso;omega)|simp_all)))
theorem Yf {n w:Int} {s:ByteArray} (hK:K (.int .i64 (kD w s)) R):aA Tryz.prog 397 #[.agg #[.int .i64 n,.int .i64 w,.string s]] R K:=by
 refine aH Tryz.func397 ?_
 repeat' (first|refine v23 ?_|refine wr ?_|refine w5 ?_ ?_|((refine bh fun h=>?_) <;> try exact w6 h)|(refine aE fun hA=>?_;subst hA)|intro _)
 all_goals(refine aC ?_;exact aB (ki hK (by unfold kD;(repeat' split) <;> first|rfl|omega|(exfalso;omega)|simp_all)))
def Je:List Pc→Int→Int
 | [],n=>n
 |p::l,n=>if 4096<n+min (kD p.w p.s) 4097 then 4097 else Je l (n+min (kD p.w p.s) 4097)
theorem Fj (w:Int) (s:ByteArray):0≤kD w s:=by unfold kD;(repeat' split) <;> first|rfl|omega|(exfalso;omega)|simp_all
theorem jP {α:Type} {l:List α} {j:Nat} (h:j<l.length):∃x,l[j]?=some x∧l.drop j=x::l.drop (j+1):=⟨l[j],List.getElem?_eq_getElem h,List.drop_eq_getElem_cons h⟩
theorem Agi {A:Option Addr} {n c:Nat} {ps:List Pc} (hv:cZ C A pcC ps) (hn:ps.length=n) (hn2:n<1000000000000000) (hK:K (.int .i64 (Je ps 0)) C):aA Tryz.prog 383 #[.slice A n c] C K:=by
 refine aH Tryz.func383 ?_
 repeat' (first|refine v55 ?_|refine wr ?_|refine w5 ?_ ?_|((refine bh fun h=>?_) <;> try exact w6 h)|(refine aE fun hA=>?_;subst hA)|intro _)
 refine iF (fun m a C'=>∃(j:Nat) (t:Int),j+m=n∧C'=C∧0≤t∧t≤4096∧Je ps 0=Je (ps.drop j) t∧cN a [(6,.slice A n c),(7,.int .i64 n),(8,.int .i64 j),(3,.int .i64 t)]) n (b9 n ⟨0,0,by omega,rfl,by omega,by omega,rfl,rfl,rfl,rfl,rfl,trivial⟩) ?_
 rintro n1 a C' ⟨j,t,hj,rfl,h0,h1,hs,ha⟩
 refine gF _ ha ?_
 simp only[eQ]
 by_cases hlt:j<n
 ·obtain⟨p,hp,hd⟩:=jP (l:=ps) (j:=j) (by omega)
  have hnn:=Fj p.w p.s
  rw[hd,Je] at hs
  repeat' (first|refine v55 ?_|refine wr ?_|refine w5 ?_ ?_|((refine bh fun h=>?_) <;> try exact w6 h)|(refine aE fun hA=>?_;subst hA)|intro _|(show aA _ 397 _ _ _;refine CA (h:=Yf ?_)))
  ·rw[if_pos (by assumption)] at hs
   (refine aC ?_;exact aB (ki hK hs))
  ·rw[if_neg (by omega)] at hs
   exact b9 (n1 - 1) ⟨j+1,_,by omega,rfl,by omega,by omega,hs,rfl,rfl,rfl,rfl,trivial⟩
 ·obtain rfl:j=n:=by omega
  repeat' (first|refine v55 ?_|refine wr ?_|refine w5 ?_ ?_|((refine bh fun h=>?_) <;> try exact w6 h)|(refine aE fun hA=>?_;subst hA)|intro _)
  (refine aC ?_;exact aB (ki hK (by rw[hs,List.drop_eq_nil_of_le (by omega)];rfl)))
def WS (b:Nat) (bs:List UInt8):HP:=fF fun A=>fF fun c=>sep (pt b [.slice A bs.length c] 214) (bT A c 5 d8 bs)
theorem Aew (n w:Int) (j:Nat) (h:(j:Int)<w):(wB n w).take (j+1)=(wB n w).take j++ [sJ (n / 2 ^ (8 * (w - 1 - (j:Int))).toNat)]:=by
 unfold wB
 rw[List.take_add_one,List.getElem?_map,List.getElem?_range (by omega)]
 rfl
theorem nZ (n w:Int):(wB n w).length=w.toNat:=by simp[wB]
theorem Oz {Q:Exit→Fr→List HP→Prop} {a:Fr} {b r:Nat} {n w:Int} {s:ByteArray} (bs:List UInt8) (hw:0≤w∧w≤4) (hl:bs.length<2000000000000) (hE:aG C (WS b bs::pt r [.int .i64 n,.int .i64 w,.string s] 369::R))
  (ha:cN a [(1,.pointer (some ⟨b,0,none⟩)),(2,.pointer (some ⟨r,0,none⟩)),(12,.int .i64 w),(13,.int .i64 0)]) (hK:∀a C',aG C' (WS b (bs++wB n w)::R)→Q (.exit 0) a C'):fB Tryz.prog (Rf Tryz.f384 0) Q a C:=by
 refine nR hE ?_
 have hwl:=nZ n w
 refine iF (fun m a C=>∃j:Nat,(j:Int)+m=w∧C=WS b (bs++(wB n w).take j)::pt r [.int .i64 n,.int .i64 w,.string s] 369::R∧cN a [(1,.pointer (some ⟨b,0,none⟩)),(2,.pointer (some ⟨r,0,none⟩)),(12,.int .i64 w),(13,.int .i64 j)])
  w.toNat (b9 w.toNat ⟨0,by omega,by rw[List.take_zero,List.append_nil],ha⟩) ?_
 rintro m a C ⟨j,hj,rfl,ha⟩
 refine gF _ ha ?_
 simp only[eQ]
 have hle:(bs++(wB n w).take j).length<2000000000010:=by rw[List.length_append,List.length_take];omega
 by_cases hlt:(j:Int)<w
 ·have ht:=Aew n w j hlt
  refine wG fun A=>wG fun c=>Gr ?_
  repeat' (first|refine w1 ?_|refine w5 ?_ ?_|((refine bh fun h=>?_) <;> try exact w6 h)|(refine aE fun hA=>?_;subst hA)|intro _)
  refine b9 (m - 1) ⟨j+1,by omega,rfl,rfl,rfl,rfl,rfl,trivial⟩ (by omega) ?_
  rw[ht,← List.append_assoc]
  exact bA
 ·have:j=w.toNat:=by omega
  subst this
  repeat' (first|refine w1 ?_|refine w5 ?_ ?_|((refine bh fun h=>?_) <;> try exact w6 h)|(refine aE fun hA=>?_;subst hA)|intro _)
  refine hK _ _ ?_
  rw[List.take_of_length_le (by omega)]
  exact bA
def yU:List (Nat×Nat):= [(1,0),(2,0),(3,0),(4,0),(5,0),(6,0),(7,0),(8,0),(9,0),(10,0),(11,1),(0,1),(12,1),(13,1)]
theorem Aju {b:Nat} {n w:Int} {s:ByteArray} {bs:List UInt8} (hw:0≤w∧w≤4) (hl:bs.length+(NN n w s).length<1000000000000) (hK:K (.tuple #[]) (WS b (bs++NN n w s)::R)):
  aA Tryz.prog 384 #[.agg #[.int .i64 n,.int .i64 w,.string s],.pointer (some ⟨b,0,none⟩)] (WS b bs::R) K:=by
 have hs:s.data.toList.length=s.size:=by simp
 by_cases h0:w=0
 ·subst h0
  simp only[NN,if_true,List.length_append] at hl
  simp only[NN,if_true,← List.append_assoc] at hK
  refine aA.ex fun A=>aA.ex fun c=>aA.sep ?_
  refine aH Tryz.func384 ?_
  repeat' (first|refine v91 ?_|refine dw yU ?_|refine wr ?_|refine w5 ?_ ?_|((refine bh fun h=>?_) <;> try exact w6 h)|(refine aE fun hA=>?_;subst hA)|intro _|refine Oz (R:=R) (n:=n) (w:=0) (s:=s) (bs++s.data.toList) (by omega) (by simp;omega) (by exact bA) ⟨rfl,rfl,rfl,rfl,trivial⟩ (fun a C' hE=>?_))
  refine aC ?_
  exact aL hE hK
 ·simp only[NN,h0,if_false,List.nil_append] at hK
  refine aH Tryz.func384 ?_
  repeat' (first|refine v91 ?_|refine dw yU ?_|refine wr ?_|refine w5 ?_ ?_|((refine bh fun h=>?_) <;> try exact w6 h)|(refine aE fun hA=>?_;subst hA)|intro _|refine Oz (R:=R) (n:=n) (w:=w) (s:=s) bs (by omega) (by omega) (by exact bA) ⟨rfl,rfl,rfl,rfl,trivial⟩ (fun a C' hE=>?_))
  refine aC ?_
  exact aL hE hK
end
section
variable {R C:List HP} {K:Value→List HP→Prop}
def eM:List Pc→Int
 | []=>0
 |p::l=>if iY p.n p.w=0 then eM l else iY p.n p.w
def kQ (ps:List Pc):List UInt8:=ps.flatMap fun p=>NN p.n p.w p.s
theorem AA {p:Pc} {l:List Pc} (h:eM (p::l)=0):iY p.n p.w=0∧eM l=0:=by
 unfold eM at h
 split at h
 ·exact⟨by assumption,h⟩
 ·rename_i h';exact absurd h h'
theorem Dz {n w:Int} (h:iY n w=0):0≤w∧w≤4:=by
 unfold iY at h
 split at h
 ·cases h
 ·omega
theorem MH {n w:Int} {s:ByteArray} (h:0≤w∧w≤4):((NN n w s).length:Int)=kD w s:=by
 unfold NN kD
 rw[List.length_append,nZ]
 split
 ·subst_vars;simp
 ·rw[if_neg (by omega)];simp;omega
theorem RY:∀(ps:List Pc) (n:Int),0≤n→eM ps=0→Je ps n≤4096→n+(kQ ps).length=Je ps n
 | [],n,_,_,_=>by simp[Je,kQ]
 |p::l,n,h0,he,h=>by
  obtain⟨h1,h2⟩:=AA he
  have hl:=MH (n:=p.n) (s:=p.s) (Dz h1)
  unfold Je at h ⊢
  split at h
  ·omega
  ·rename_i h3
   rw[if_neg h3]
   have hnn:=Fj p.w p.s
   have:=RY l (n+min (kD p.w p.s) 4097) (by omega) h2 h
   have hle:n+min (kD p.w p.s) 4097≤Je l (n+min (kD p.w p.s) 4097):=by rw[← this];omega
   rw[← this]
   simp only[kQ,List.flatMap_cons,List.length_append]
   have:min (kD p.w p.s) 4097=kD p.w p.s∨4097≤kD p.w p.s:=by omega
   have hc:((List.flatMap (fun p=>NN p.n p.w p.s) l).length:Int)=(kQ l).length:=rfl
   omega
def xL (ps:List Pc):Int:=if eM ps=0 then(if 4096<Je ps 0 then 4 else 0) else eM ps
def u7 (ps:List Pc):ByteArray:=if xL ps=0 then⟨(kQ ps).toArray⟩ else⟨#[]⟩
theorem FJ {ps:List Pc} {j:Nat} {p:Pc} (h:ps.drop j=p::ps.drop (j+1)):eM (ps.drop j)=if iY p.n p.w=0 then eM (ps.drop (j+1)) else iY p.n p.w:=by rw[h];rfl
theorem QF {A:Option Addr} {n c:Nat} {ps:List Pc} (hv:cZ C A pcC ps) (hn:ps.length=n) (hn2:n<1000000000000000) (hK:K (.tuple #[.string (u7 ps),.int .i64 (xL ps)]) C):aA Tryz.prog 335 #[.slice A n c] C K:=by
 have hz0:=RY ps 0 (by omega)
 refine aH Tryz.func335 ?_
 repeat' (first|refine v74 ?_|refine wr ?_|refine w5 ?_ ?_|((refine bh fun h=>?_) <;> try exact w6 h)|(refine aE fun hA=>?_;subst hA)|intro _)
 refine iF (fun m a C'=>∃(j:Nat),j+m=n∧C'=C∧eM ps=eM (ps.drop j)∧cN a [(0,.slice A n c),(11,.slice A n c),(12,.int .i64 n),(13,.int .i64 j)]) n (b9 n ⟨0,by omega,rfl,rfl,rfl,rfl,rfl,rfl,trivial⟩) ?_
 rintro n1 a C' ⟨j,hj,rfl,hs,ha⟩
 refine gF _ ha ?_
 simp only[eQ]
 by_cases hlt:j<n
 ·obtain⟨p,hp,hd⟩:=jP (l:=ps) (j:=j) (by omega)
  rw[FJ hd] at hs
  repeat' (first|refine v74 ?_|refine wr ?_|refine w5 ?_ ?_|((refine bh fun h=>?_) <;> try exact w6 h)|(refine aE fun hA=>?_;subst hA)|intro _|(show aA _ 382 _ _ _;refine CA (h:=Ajd ?_)))
  ·have h:iY p.n p.w≠0:=by assumption
   rw[if_neg h] at hs
   have he:xL ps=iY p.n p.w:=by unfold xL;rw[if_neg (by rw[hs];exact h),hs]
   have hb:u7 ps=⟨#[]⟩:=by unfold u7;rw[if_neg (by rw[he];exact h)]
   rw[he,hb] at hK
   (refine aC ?_;exact aB (hK))
  ·have h:iY p.n p.w=0:=by assumption
   rw[if_pos h] at hs
   exact b9 (n1 - 1) ⟨j+1,by omega,rfl,hs,rfl,rfl,rfl,rfl,trivial⟩
 ·obtain rfl:j=n:=by omega
  rw[List.drop_eq_nil_of_le (by omega)] at hs
  have hs0:eM ps=0:=hs
  repeat' (first|refine v74 ?_|refine wr ?_|refine w5 ?_ ?_|((refine bh fun h=>?_) <;> try exact w6 h)|(refine aE fun hA=>?_;subst hA)|intro _|(show aA _ 383 _ _ _;refine CA (h:=Agi (by assumption) (by assumption) (by omega) ?_)))
  ·have h:4096<Je ps 0:=by assumption
   have he:xL ps=4:=by unfold xL;rw[if_pos hs0,if_pos h]
   have hb:u7 ps=⟨#[]⟩:=by unfold u7;rw[if_neg (by rw[he];decide)]
   rw[he,hb] at hK
   (refine aC ?_;exact aB (hK))
  ·rename_i b
   have h:Je ps 0≤4096:=by assumption
   have hz:=hz0 hs0 h
   have he:xL ps=0:=by unfold xL;rw[if_pos hs0,if_neg (by omega)]
   have hb:u7 ps=⟨(kQ ps).toArray⟩:=by unfold u7;rw[if_pos he]
   rw[he,hb] at hK
   refine iF (fun m a C2=>∃(i:Nat),i+m=j∧C2=WS b (kQ (ps.take i))::C'∧eM (ps.drop i)=0∧cN a [(7,.pointer (some ⟨b,0,none⟩)),(8,.func (.func 384) #[] #[.pointer (some ⟨b,0,none⟩)]),(27,.slice A j c),(28,.int .i64 j),(29,.int .i64 i)]) j (b9 j ⟨0,by omega,rfl,hs0,rfl,rfl,rfl,rfl,rfl,trivial⟩) ?_
   rintro n2 a C2 ⟨i,hi,rfl,hf,ha⟩
   refine gF _ ha ?_
   simp only[eQ]
   by_cases hlt:i<j
   ·obtain⟨p,hp,hd⟩:=jP (l:=ps) (j:=i) (by omega)
    rw[FJ hd] at hf
    split at hf
    ·rename_i hm
     have htk:kQ (ps.take (i+1))=kQ (ps.take i)++NN p.n p.w p.s:=by
      rw[List.take_add_one,hp];simp[kQ]
     have hle:((kQ (ps.take (i+1))).length:Int)≤(kQ ps).length:=by
      have:kQ ps=kQ (ps.take (i+1))++kQ (ps.drop (i+1)):=by
       unfold kQ;rw[← List.flatMap_append,List.take_append_drop]
      rw[this,List.length_append];omega
     have hpl:=MH (n:=p.n) (s:=p.s) (Dz hm)
     have hss:p.w=0→kD p.w p.s=p.s.size:=fun h0=>by unfold kD;rw[if_pos h0]
     rw[htk,List.length_append] at hle
     repeat' (first|refine v74 ?_|refine wr ?_|refine w5 ?_ ?_|((refine bh fun h=>?_) <;> try exact w6 h)|(refine aE fun hA=>?_;subst hA)|intro _|(show aA _ 384 _ _ _;refine CA (h:=Aju (Dz hm) (by omega) ?_)))
     exact b9 (n2 - 1) ⟨i+1,by omega,by rw[htk],hf,rfl,rfl,rfl,rfl,rfl,trivial⟩
    ·rename_i h1;exact absurd hf h1
   ·obtain rfl:i=j:=by omega
    rw[List.take_of_length_le (by omega)]
    refine wG fun A=>wG fun c=>Gr ?_
    repeat' (first|refine v74 ?_|refine wr ?_|refine w5 ?_ ?_|((refine bh fun h=>?_) <;> try exact w6 h)|(refine aE fun hA=>?_;subst hA)|intro _)
    (refine aC ?_;exact aB (hK))
theorem H7 {ps:List Pc} (h:xL ps=0):eM ps=0∧Je ps 0=(u7 ps).size∧(u7 ps).size≤4096∧(u7 ps).data.toList=kQ ps:=by
 have h1:eM ps=0:=by
  by_cases h2:eM ps=0
  ·exact h2
  ·unfold xL at h;rw[if_neg h2] at h;exact h
 have h2:Je ps 0≤4096:=by
  unfold xL at h;rw[if_pos h1] at h
  split at h
  ·cases h
  ·omega
 have h3:=RY ps 0 (by omega) h1 h2
 have h4:u7 ps=⟨(kQ ps).toArray⟩:=by unfold u7;rw[if_pos h]
 have h5:(u7 ps).size=(kQ ps).length:=by rw[h4];simp[ByteArray.size]
 exact⟨h1,by omega,by omega,by rw[h4]⟩
theorem NA {ps:List Pc} (h:¬xL ps=0):u7 ps=⟨#[]⟩:=by unfold u7;rw[if_neg h]
end
end Go.Proofs.YtifgibijcmppmaaGreat
namespace Go.Proofs.YtifgibijcmppmaaGreat
open Go Go.Proofs Go.Sl
theorem Adp (n:Int) (k:Nat):wB n (k+1:Nat)=sJ (n / 2 ^ (8 * k))::wB n (k:Nat):=by
 unfold wB
 rw[Int.toNat_natCast,Int.toNat_natCast,List.range_succ_eq_map,List.map_cons,List.map_map]
 have e1:(8 * (((k+1:Nat):Int) - 1 - ((0:Nat):Int))).toNat=8 * k:=by omega
 rw[e1]
 congr 1
 apply List.map_congr_left
 intro i hi
 simp only[Function.comp]
 have e2:(8 * (((k+1:Nat):Int) - 1 - ((i.succ:Nat):Int))).toNat=(8 * ((k:Int) - 1 - (i:Int))).toNat:=by omega
 rw[e2]
theorem FM (s:ByteArray):s.toList=s.data.toList:=by
 exact ByteArray.toList_eq s
end Go.Proofs.YtifgibijcmppmaaGreat
namespace Go.Proofs.YtifgibijcmppmaaGreat
open Go Go.Proofs Go.Sl
set_option maxRecDepth 100000
set_option maxHeartbeats 40000000
attribute [local irreducible] aN fB cJ bO aM aY aA dM dQ aW dK pt ro fF star sep bI
section
variable {R C:List HP} {K:Value→List HP→Prop}
theorem x5 {s t:ByteArray} (h:s.data.toList=t.data.toList):s=t:=by
 apply ByteArray.ext;exact Array.toList_inj.1 h
theorem Ady {n w:Int} (h:iY n w=0) (hw:0<w):0≤n∧n<256 ^ w.toNat:=by
 have h4:=Dz h
 have h2:0≤n∧¬0<n / 2 ^ (8 * w).toNat:=by
  unfold iY at h
  split at h
  ·cases h
  ·split at h
   ·cases h
   ·omega
 refine⟨h2.1,?_⟩
 have e:(2:Int) ^ (8 * w).toNat=256 ^ w.toNat:=by
  have:(8 * w).toNat=8 * w.toNat:=by omega
  rw[this,Int.pow_mul];rfl
 rw[e] at h2
 have hq:(0:Int)<256 ^ w.toNat:=Int.pow_pos (by decide)
 generalize (256:Int) ^ w.toNat=q at *
 have h3:=Int.emod_lt_of_pos n hq
 have h4:=Int.emod_def n q
 have h5:n / q=0:=by
  have:0≤n / q:=Int.ediv_nonneg h2.1 (by omega)
  omega
 rw[h5] at h4
 omega
theorem Acu {p:Nat} {s:ByteArray} {bad:Bool} (h:lL s.size s bad=true) (hK:K (.string (zO s.size s bad)) (eX p (DI s.size s bad) false::R)):aA Tryz.prog 379 #[.pointer (some ⟨p,0,none⟩)] (eX p s bad::R) K:=by
 refine Aeo ?_
 rw[h];exact hK
theorem Als {p:Nat} {n:Int} {s:ByteArray} {bad:Bool} (h:lL (uW n) s bad=true) (hK:K (.int .i64 (uN n s bad)) (eX p (DI (uW n) s bad) false::R)):aA Tryz.prog 327 #[.pointer (some ⟨p,0,none⟩),.int .i64 n] (eX p s bad::R) K:=by
 refine Alb ?_
 rw[h];exact hK
theorem Ahn {p:Nat} {n:Int} {s:ByteArray} {bad:Bool} (h:lL (uW n) s bad=false) (hK:K (.int .i64 0) (eX p s true::R)):aA Tryz.prog 327 #[.pointer (some ⟨p,0,none⟩),.int .i64 n] (eX p s bad::R) K:=by
 refine Alb ?_
 unfold uN zO DI
 rw[h];exact hK
theorem Uk {s:ByteArray} {at_ n:Int} (h0:0≤at_) (h1:0≤n) (h2:at_+n≤s.size):lL n (s.extract at_.toNat s.size) false=true∧zO n (s.extract at_.toNat s.size) false=s.extract at_.toNat (at_+n).toNat∧DI n (s.extract at_.toNat s.size) false=s.extract (at_+n).toNat s.size:=by
 have hok:lL n (s.extract at_.toNat s.size) false=true:=by
  unfold lL
  simp
  omega
 refine⟨hok,?_,?_⟩
 ·unfold zO
  rw[hok]
  apply x5
  simp
  congr 1
  omega
 ·unfold DI
  rw[hok]
  apply x5
  simp
  have e:at_.toNat+n.toNat=(at_+n).toNat:=by omega
  rw[e]
  congr 1
  omega
theorem Ahr {u:ByteArray} {n:Int} {bad:Bool} (h:bad=true∨n<0∨u.size<n):lL n u bad=false:=by
 unfold lL
 rcases h with rfl|h|h
 ·rfl
 ·simp;intro;omega
 ·simp;intro;omega
end
section
variable {R C:List HP} {K:Value→List HP→Prop}
def rB (n w:Int):ByteArray:=if n<0 then⟨#[]⟩ else⟨(wB n w).toArray⟩
def rOk (n w:Int):Bool:=if n<0 then false else decide (n / 256 ^ w.toNat=0)
theorem JN (n:Int):sJ (n % 256)=sJ n:=by
 unfold sJ
 congr 1
 omega
theorem M9 (n:Int) (i:Nat):n / 256 ^ i / 256=n / 256 ^ (i+1):=by
 rw[Int.pow_succ,Int.ediv_ediv_of_nonneg (Int.le_of_lt (Int.pow_pos (by decide)))]
theorem Ajr (k:Nat):(2:Int) ^ (8 * k)=256 ^ k:=by rw[Int.pow_mul];rfl
theorem Afy {n w:Int} (hw:0≤w∧w≤100) (hn:n≤9223372036854775807) (hK:K (.tuple #[.string (rB n w),.bool (rOk n w)]) R):aA Tryz.prog 272 #[.int .i64 n,.int .i64 w] R K:=by
 unfold rB rOk at hK
 refine aH Tryz.func272 ?_
 repeat' (first|refine v38 ?_|refine wr ?_|refine w5 ?_ ?_|((refine bh fun h=>?_) <;> try exact w6 h)|(refine aE fun hA=>?_;subst hA)|intro _)
 ·rw[if_pos (by assumption),if_pos (by assumption)] at hK
  (refine aC ?_;exact aB (hK))
 have h0:0≤n:=by assumption
 rw[if_neg (by omega),if_neg (by omega)] at hK
 refine iF (fun m a C'=>∃(i:Nat) (out:ByteArray) (q:Int),(i:Int)+m=w∧C'=R∧out.data.toList=wB n i∧q=n / 256 ^ i∧0≤q∧q≤9223372036854775807∧cN a [(0,.int .i64 q),(1,.int .i64 w),(6,.string out),(7,.int .i64 i)]) w.toNat
  (b9 w.toNat ⟨0,⟨#[]⟩,n,by omega,rfl,rfl,by simp,h0,hn,rfl,rfl,rfl,rfl,trivial⟩) ?_
 rintro m a C' ⟨i,out,q,hi,rfl,ho,hq,q0,q1,ha⟩
 refine gF _ ha ?_
 simp only[eQ]
 have hsz:out.size=i:=by
  have:out.data.toList.length=out.size:=by simp
  rw[← this,ho,nZ];omega
 by_cases hlt:(i:Int)<w
 ·have hq2:q / 256=n / 256 ^ (i+1):=by rw[hq,M9]
  repeat' (first|refine v38 ?_|refine wr ?_|refine w5 ?_ ?_|((refine bh fun h=>?_) <;> try exact w6 h)|(refine aE fun hA=>?_;subst hA)|intro _)
  refine b9 (m - 1) ⟨i+1,_,q / 256,by omega,rfl,?_,hq2,by omega,by omega,rfl,rfl,rfl,rfl,trivial⟩
  rw[Adp,Ajr,← hq]
  simp[ho,JN]
 ·have:w=i:=by omega
  subst this
  have e:out=⟨(wB n i).toArray⟩:=by apply ByteArray.ext;apply Array.toList_inj.1;simp[ho]
  subst e
  repeat' (first|refine v38 ?_|refine wr ?_|refine w5 ?_ ?_|((refine bh fun h=>?_) <;> try exact w6 h)|(refine aE fun hA=>?_;subst hA)|intro _)
  rw[Int.toNat_natCast,← hq] at hK
  (refine aC ?_;exact aB (kv hK (by congr 3)))
theorem Bp {n w:Int} (hw:0≤w∧w≤100) (hn:n≤9223372036854775807) (hK:K (.string (rB n w)) R):aA Tryz.prog 177 #[.int .i64 n,.int .i64 w] R K:=by
 refine aH Tryz.func177 ?_
 repeat' (first|refine v0 ?_|refine wr ?_|refine w5 ?_ ?_|((refine bh fun h=>?_) <;> try exact w6 h)|(refine aE fun hA=>?_;subst hA)|intro _|(show aA _ 272 _ _ _;refine CA (h:=Afy (by assumption) (by assumption) ?_)))
 (refine aC ?_;exact aB (hK))
end
section
variable {R C:List HP} {K:Value→List HP→Prop}
def YM:List (Bool×Bool×Int×Int):= [(false,true,-1,1),(false,true,-1,1),(false,true,8,0),(false,true,8,0),(false,true,4,0),(true,false,-1,0),(true,false,0,0),(true,false,8,0),(true,false,8,0),(true,false,8,0),(true,true,4,0),(false,true,4,0)]
def Aia:List Value:=YM.flatMap fun x=> [.bool x.1,.bool x.2.1,.int .i64 x.2.2.1,.int .i64 x.2.2.2]
theorem OK (hK:K (.agg Aia.toArray) R):aA Tryz.prog 361 #[] R K:=by
 refine aH Tryz.func361 ?_
 repeat' (first|refine v5 ?_|refine wr ?_|refine w5 ?_ ?_|((refine bh fun h=>?_) <;> try exact w6 h)|(refine aE fun hA=>?_;subst hA)|intro _)
 (refine aC ?_;exact aB (hK))
def m6 (k:Int):Bool×Bool×Int×Int:=if k<0∨12≤k then(false,false,0,0) else YM.getD k.toNat (false,false,0,0)
def DV (k:Int):Int:=if k<0∨12≤k then 3 else 0
theorem Ls {k:Int} (hK:K (.tuple #[.agg #[.bool (m6 k).1,.bool (m6 k).2.1,.int .i64 (m6 k).2.2.1,.int .i64 (m6 k).2.2.2],.int .i64 (DV k)]) R):aA Tryz.prog 297 #[.int .i64 k] R K:=by
 rcases(by omega:(k<0∨12≤k)∨k=0∨k=1∨k=2∨k=3∨k=4∨k=5∨k=6∨k=7∨k=8∨k=9∨k=10∨k=11) with h|h|h|h|h|h|h|h|h|h|h|h|h
 ·have e1:m6 k=(false,false,0,0):=by unfold m6;rw[if_pos h]
  have e2:DV k=3:=by unfold DV;rw[if_pos h]
  rw[e1,e2] at hK
  refine aH Tryz.func297 ?_
  repeat' (first|refine v82 ?_|refine wr ?_|refine w5 ?_ ?_|((refine bh fun h=>?_) <;> try exact w6 h)|(refine aE fun hA=>?_;subst hA)|intro _|(show aA _ 361 _ _ _;refine CA (h:=OK ?_)))
  all_goals(refine aC ?_;exact aB (hK))
 all_goals
  subst h
  refine aH Tryz.func297 ?_
  repeat' (first|refine v82 ?_|refine wr ?_|refine w5 ?_ ?_|((refine bh fun h=>?_) <;> try exact w6 h)|(refine aE fun hA=>?_;subst hA)|intro _|(show aA _ 361 _ _ _;refine CA (h:=OK ?_)))
  (refine aC ?_;exact aB (hK))
def DX:List (Nat×Nat):= [(0,0),(1,0),(2,0),(3,0),(4,0),(5,0),(6,0),(7,0)]
theorem Ob {k:Int} (hK:K (.tuple #[.bool (m6 k).1,.bool (m6 k).2.1,.int .i64 (DV k)]) R):aA Tryz.prog 209 #[.int .i64 k] R K:=by
 refine aH Tryz.func209 ?_
 repeat' (first|refine v31 ?_|refine dw DX ?_|refine wr ?_|refine w5 ?_ ?_|((refine bh fun h=>?_) <;> try exact w6 h)|(refine aE fun hA=>?_;subst hA)|intro _|(show aA _ 297 _ _ _;refine CA (h:=Ls ?_)))
 (refine aC ?_;exact aB (hK))
end
section
variable {R C:List HP} {K:Value→List HP→Prop}
theorem Abd {k:Int} (hK:K (.bool (decide (5≤k) && decide (k≤10))) R):aA Tryz.prog 63 #[.int .i64 k] R K:=by
 refine aH Tryz.func63 ?_
 repeat' (first|refine v1 ?_|refine wr ?_|refine w5 ?_ ?_|((refine bh fun h=>?_) <;> try exact w6 h)|(refine aE fun hA=>?_;subst hA)|intro _)
 all_goals(refine aC ?_;exact aB (kb hK (by simp <;> omega)))
theorem Aes {k:Int} (hK:K (.bool (decide (k≤4) || decide (10≤k))) R):aA Tryz.prog 64 #[.int .i64 k] R K:=by
 refine aH Tryz.func64 ?_
 repeat' (first|refine v1 ?_|refine wr ?_|refine w5 ?_ ?_|((refine bh fun h=>?_) <;> try exact w6 h)|(refine aE fun hA=>?_;subst hA)|intro _)
 all_goals(refine aC ?_;exact aB (kb hK (by simp <;> omega)))
def FB (k:Int):Int:=if k=2∨k=3∨k=7∨k=8∨k=9 then 8 else if k=4∨k=10∨k=11 then 4 else if k=6 then 0 else -1
theorem FE (k:Int) (h0:0≤k) (h1:k≤11):(m6 k).1=(decide (5≤k) && decide (k≤10))∧(m6 k).2.1=(decide (k≤4) || decide (10≤k))∧(m6 k).2.2.1=FB k∧DV k=0∧(m6 k).2.2.2=(if k≤1 then 1 else 0):=by
 rcases(by omega:k=0∨k=1∨k=2∨k=3∨k=4∨k=5∨k=6∨k=7∨k=8∨k=9∨k=10∨k=11) with h|h|h|h|h|h|h|h|h|h|h|h <;> subst h <;> decide
def Yi (l t f s:Int):List Pc:= [⟨l,3,⟨#[]⟩⟩,⟨t,1,⟨#[]⟩⟩,⟨f,1,⟨#[]⟩⟩,⟨s,4,⟨#[]⟩⟩]
def Vm (l t f s:Int):Bool:=decide (0≤l) && decide (l<16777216) && decide (0≤t) && decide (t<256) && decide (0≤f) && decide (f<256) && decide (0≤s) && decide (s≤2147483647)
def JG (l t f s:Int):ByteArray:=if 2147483647<s then⟨#[]⟩ else u7 (Yi l t f s)
def JK (l t f s:Int):Int:=if 2147483647<s then 2 else if xL (Yi l t f s)=0 then 0 else 2
def EO:List (Nat×Nat):= [(0,0),(1,0),(2,1),(3,1),(4,1),(5,1),(6,2),(7,2),(8,1),(9,3),(10,3),(11,1),(12,1),(13,1),(14,0),(15,0),(16,0),(17,0),(18,0)]
theorem Ago {l t f s:Int} (hK:K (.tuple #[.string (JG l t f s),.int .i64 (JK l t f s)]) R):aA Tryz.prog 269 #[.agg #[.int .i64 l,.int .i64 t,.int .i64 f,.int .i64 s]] R K:=by
 unfold JG JK at hK
 refine aH Tryz.func269 ?_
 repeat' (first|refine Xy ?_|refine dw EO ?_|refine wr ?_|refine w5 ?_ ?_|((refine bh fun h=>?_) <;> try exact w6 h)|(refine aE fun hA=>?_;subst hA)|intro _|(show aA _ 336 _ _ _;refine CA (h:=Ab2 ?_))|(show aA _ 335 _ _ _;refine CA (h:=QF (ps:=Yi l t f s) (by exact kR) (by exact rfl) (by decide) ?_)))
 all_goals first
  |(rw[if_pos (by assumption),if_pos (by assumption)] at hK;(refine aC ?_;exact aB (hK)))
  |(rw[if_neg (by omega),if_neg (by omega),if_pos (by assumption)] at hK;(refine aC ?_;exact aB (hK)))
  |(rw[if_neg (by omega),if_neg (by omega),if_neg (by assumption),NA (by assumption)] at hK;(refine aC ?_;exact aB (hK)))
def F6:List (Nat×Nat):= [(0,0),(1,0),(2,1),(3,1),(4,1),(5,1),(7,2),(8,2),(9,1),(11,3),(12,3),(13,1),(6,2),(10,1),(14,0),(15,0)]
theorem Aha {l t f s:Int} (hl:l≤9223372036854775807) (ht:t≤9223372036854775807) (hf:f≤9223372036854775807) (hs:s≤9223372036854775807) (hK:K (.string (rB l 3++rB t 1++rB f 1++rB s 4)) R):aA Tryz.prog 81 #[.agg #[.int .i64 l,.int .i64 t,.int .i64 f,.int .i64 s]] R K:=by
 have rb:∀n w:Int,0≤w→w≤4→(rB n w).size≤4:=fun n w h0 h1=>by
  unfold rB;split
  ·decide
  ·rw[o9,nZ];omega
 have b1:=rb l 3 (by decide) (by decide)
 have b2:=rb t 1 (by decide) (by decide)
 have b3:=rb f 1 (by decide) (by decide)
 have b4:=rb s 4 (by decide) (by decide)
 refine aH Tryz.func81 ?_
 repeat' (first|refine Xy ?_|refine dw F6 ?_|refine wr ?_|refine w5 ?_ ?_|((refine bh fun h=>?_) <;> try exact w6 h)|(refine aE fun hA=>?_;subst hA)|intro _|(show aA _ 177 _ _ _;refine CA (h:=Bp (by decide) (by assumption) ?_)))
 (refine aC ?_;exact aB (hK))
end
section
variable {R C:List HP} {K:Value→List HP→Prop}
def sub (s:ByteArray) (i j:Nat):ByteArray:=s.extract i j
def xT (s:ByteArray) (i j:Nat):Int:=zR (s.extract i j).data.toList
theorem LP {p i j:Nat} {w:Int} {s:ByteArray} (hw:1≤w∧w≤4) (hj:(j:Int)=i+w) (h:j≤s.size) (hK:K (.int .i64 (xT s i j)) (eX p (s.extract j s.size) false::R)):aA Tryz.prog 327 #[.pointer (some ⟨p,0,none⟩),.int .i64 w] (eX p (s.extract i s.size) false::R) K:=by
 have hW:uW w=w:=by unfold uW;rw[if_neg (by omega)]
 obtain⟨t1,t2,t3⟩:=Uk (s:=s) (at_:=i) (n:=w) (by omega) (by omega) (by omega)
 have e:((i:Int)+w).toNat=j:=by omega
 rw[e] at t2 t3
 rw[Int.toNat_natCast] at t1 t2 t3
 refine Als (by rw[hW];exact t1) ?_
 rw[hW,t3]
 unfold uN
 rw[hW,t2]
 exact hK
theorem Qo {p i:Nat} {s:ByteArray} (h:i+1≤s.size) (hK:K (.int .i64 (xT s i (i+1))) (eX p (s.extract (i+1) s.size) false::R)):aA Tryz.prog 327 #[.pointer (some ⟨p,0,none⟩),.int .i64 1] (eX p (s.extract i s.size) false::R) K:=
 LP (by decide) (by omega) h hK
theorem Ald {p i:Nat} {s:ByteArray} (h:i+3≤s.size) (hK:K (.int .i64 (xT s i (i+3))) (eX p (s.extract (i+3) s.size) false::R)):aA Tryz.prog 327 #[.pointer (some ⟨p,0,none⟩),.int .i64 3] (eX p (s.extract i s.size) false::R) K:=
 LP (by decide) (by omega) h hK
theorem JA {p i:Nat} {s:ByteArray} (h:i+4≤s.size) (hK:K (.int .i64 (xT s i (i+4))) (eX p (s.extract (i+4) s.size) false::R)):aA Tryz.prog 327 #[.pointer (some ⟨p,0,none⟩),.int .i64 4] (eX p (s.extract i s.size) false::R) K:=
 LP (by decide) (by omega) h hK
theorem Agv {p i:Nat} {w:Int} {s:ByteArray} (hw:1≤w∧w≤4) (hi:i≤s.size) (h:(s.size:Int)<i+w) (hK:K (.int .i64 0) (eX p (s.extract i s.size) true::R)):aA Tryz.prog 327 #[.pointer (some ⟨p,0,none⟩),.int .i64 w] (eX p (s.extract i s.size) false::R) K:=by
 have hW:uW w=w:=by unfold uW;rw[if_neg (by omega)]
 refine Ahn ?_ hK
 rw[hW]
 exact Ahr (.inr (.inr (by simp;omega)))
theorem Agd {p:Nat} {w:Int} {s:ByteArray} (hK:K (.int .i64 0) (eX p s true::R)):aA Tryz.prog 327 #[.pointer (some ⟨p,0,none⟩),.int .i64 w] (eX p s true::R) K:=
 Ahn (Ahr (.inl rfl)) hK
theorem uD {s:ByteArray} (hK:∀r,K (.pointer (some ⟨r,0,none⟩)) (eX r (s.extract 0 s.size) false::R)):aA Tryz.prog 326 #[.string s] R K:=by
 refine Tz s fun r=>?_
 have e:s.extract 0 s.size=s:=by apply x5;simp
 have:=hK r
 rwa[e] at this
def V9 (s:ByteArray):Value:=if s.size<9∨2147483647<xT s 5 9 then .tuple #[.agg #[.int .i64 0,.int .i64 0,.int .i64 0,.int .i64 0],.int .i64 (if s.size<9 then 5 else 6)] else .tuple #[.agg #[.int .i64 (xT s 0 3),.int .i64 (xT s 3 4),.int .i64 (xT s 4 5),.int .i64 (xT s 5 9)],.int .i64 0]
attribute [local irreducible] ByteArray.extract xT
theorem Ad6 {s:ByteArray} (hK:K (V9 s) R):aA Tryz.prog 243 #[.string s] R K:=by
 refine aH Tryz.func243 ?_
 rcases(by omega:s.size<3∨s.size=3∨s.size=4∨(5≤s.size∧s.size<9)∨9≤s.size) with h|h|h|h|h
 all_goals
  repeat' (first|refine v75 ?_|refine wr ?_|refine w5 ?_ ?_|((refine bh fun h=>?_) <;> try exact w6 h)|(refine aE fun hA=>?_;subst hA)|intro _|(show aA _ 326 _ _ _;refine CA (h:=uD (fun p=>?_)))|(show aA _ 327 _ _ _;refine CA (h:=Ald (by omega) ?_))|(show aA _ 327 _ _ _;refine CA (h:=Qo (by omega) ?_))|(show aA _ 327 _ _ _;refine CA (h:=JA (by omega) ?_))|(show aA _ 327 _ _ _;refine CA (h:=Agv (by decide) (by omega) (by omega) ?_))|(show aA _ 327 _ _ _;refine CA (h:=Agd ?_))|(show aA _ 328 _ _ _;refine CA (h:=ZI _ _ _ ?_)))
 all_goals first
  |(refine aC ?_;exact aB (kv hK (by unfold V9;rw[if_pos (Or.inl (by omega)),if_pos (by omega)])))
  |(refine aC ?_;exact aB (kv hK (by unfold V9;rw[if_pos (Or.inr (by assumption)),if_neg (by omega)])))
  |(refine aC ?_;exact aB (kv hK (by unfold V9;rw[if_neg (fun h=>h.elim (fun h=>by omega) (fun h=>absurd h (Int.not_lt.2 (by assumption))))])))
end
end Go.Proofs.YtifgibijcmppmaaGreat
