/- A part of the proof: lemmas; each with the conditions that it states. -/
import Derived.Test.YtifgibijcmppmaaGreatUaf
set_option linter.unusedVariables false
set_option linter.unusedSimpArgs false
set_option maxRecDepth 100000
set_option maxHeartbeats 40000000
section
namespace Go.Proofs.YtifgibijcmppmaaGreat
open Go Go.Proofs Go.Sl
attribute [local irreducible] aN fN cX bP aM aX aA dS dV aT dU pt ro eV star sep bH
variable {R:List HP} {K:KP}
def eT (p:Nat) (s:ByteArray) (bad:Bool):HP:=pt p [.string s,.bool bad] 404
theorem Ut (s:ByteArray) (hK:∀r,K (PO r) (eT r s false::R)):CT 326 #[.string s] R K:=by
 refine aH Tryz.func326 ?_
 repeat' (first|refine v6 ?_|refine w5 ?_ ?_|((refine bh fun h=>?_) <;> try exact w6 h)|(refine aE fun hA=>?_;subst hA)|intro _)
 (refine aC ?_;exact aB (hK _))
theorem Aag (p:Nat) (s:ByteArray) (bad:Bool) (hK:K (.bool bad) (eT p s bad::R)):CT 328 #[PO p] (eT p s bad::R) K:=by
 unfold eT at *
 refine aH Tryz.func328 ?_
 repeat' (first|refine v23 ?_|refine w5 ?_ ?_|((refine bh fun h=>?_) <;> try exact w6 h)|(refine aE fun hA=>?_;subst hA)|intro _)
 (refine aC ?_;exact aB (hK))
theorem Nw (p:Nat) (s:ByteArray) (bad:Bool) (hK:K (I6 s.size) (eT p s bad::R)):CT 380 #[PO p] (eT p s bad::R) K:=by
 unfold eT at *
 refine aH Tryz.func380 ?_
 repeat' (first|refine v4 ?_|refine w5 ?_ ?_|((refine bh fun h=>?_) <;> try exact w6 h)|(refine aE fun hA=>?_;subst hA)|intro _)
 (refine aC ?_;exact aB (hK))
def lA (n:Int) (s:ByteArray) (bad:Bool):Bool:=!bad && decide (0≤n) && decide (n≤s.size)
def AB (n:Int) (s:ByteArray) (bad:Bool):ByteArray:=match lA n s bad with
 |true=>s.extract 0 n.toNat
 |false=>⟨#[]⟩
def Dx (n:Int) (s:ByteArray) (bad:Bool):ByteArray:=match lA n s bad with
 |true=>s.extract n.toNat s.size
 |false=>s
theorem VB {p:Nat} {n:Int} {s:ByteArray} {bad:Bool} (hK:K (.string (AB n s bad)) (eT p (Dx n s bad) (!lA n s bad)::R)):CT 378 #[PO p,I6 n] (eT p s bad::R) K:=by
 refine aH Tryz.func378 ?_
 repeat' (first|refine v62 ?_|refine w5 ?_ ?_|((refine bh fun h=>?_) <;> try exact w6 h)|(refine aE fun hA=>?_;subst hA)|intro _|(show aA _ 328 _ _ _;refine CA (h:=Aag _ _ _ ?_)))
 all_goals
  first
  |(have e:lA n s bad=false:=by(unfold lA;simp[*] <;> omega))
  |(have e:lA n s bad=true:=by(unfold lA;simp[*] <;> omega))
  simp only[AB,Dx,e,Bool.not_true,Bool.not_false] at hK
  subst_vars
  (refine aC ?_;exact aB (hK))
theorem Afy {p:Nat} {s:ByteArray} {bad:Bool} (hK:K (.string (AB s.size s bad)) (eT p (Dx s.size s bad) (!lA s.size s bad)::R)):CT 379 #[PO p] (eT p s bad::R) K:=by
 refine aH Tryz.func379 ?_
 repeat' (first|refine v0 ?_|refine w5 ?_ ?_|((refine bh fun h=>?_) <;> try exact w6 h)|(refine aE fun hA=>?_;subst hA)|intro _|(show aA _ 380 _ _ _;refine CA (h:=Nw _ _ _ ?_))|(show aA _ 378 _ _ _;refine CA (h:=VB ?_)))
 (refine aC ?_;exact aB (hK))
end Go.Proofs.YtifgibijcmppmaaGreat
namespace Go.Proofs.YtifgibijcmppmaaGreat
open Go Go.Proofs Go.Sl
attribute [local irreducible] aN fN cX bP aM aX aA dS dV aT dU pt ro eV star sep bH
variable {R:List HP} {K:KP}
def AF (l:List UInt8):Int:=l.foldl (fun u b=>u * 256+b.toNat) 0
theorem FE (l:List UInt8) (b:UInt8):AF (l++ [b])=AF l * 256+b.toNat:=by simp[AF]
theorem UP (l:List UInt8):0≤AF l:=by
 have key:∀n (l:List UInt8),l.length=n→0≤AF l:=by
  intro n
  induction n with
  |zero=>intro l hl;rw[List.length_eq_zero_iff.1 hl];decide
  |succ n ih=>
   intro l hl
   have hne:l≠ []:=by intro h;rw[h] at hl;cases hl
   rw[← List.dropLast_concat_getLast hne,FE]
   have:=ih l.dropLast (by simp[hl])
   omega
 exact key _ l rfl
theorem VA (l:List UInt8):AF l<256 ^ l.length:=by
 have key:∀n (l:List UInt8),l.length=n→AF l<256 ^ n:=by
  intro n
  induction n with
  |zero=>intro l hl;rw[List.length_eq_zero_iff.1 hl];decide
  |succ n ih=>
   intro l hl
   have hne:l≠ []:=by intro h;rw[h] at hl;cases hl
   rw[← List.dropLast_concat_getLast hne,FE]
   have:=ih l.dropLast (by simp[hl])
   have:=(l.getLast hne).toNat_lt
   rw[Int.pow_succ]
   omega
 exact key _ l rfl
theorem Aaj (l:List UInt8) (h:l.length≤4):0≤AF l∧AF l<4294967296:=by
 refine⟨UP l,Int.lt_of_lt_of_le (VA l) ?_⟩
 have:(256:Int) ^ l.length≤256 ^ 4:=by exact_mod_cast Nat.pow_le_pow_right (by decide) h
 exact this
theorem Wj (l:List UInt8) (j:Nat) (b:UInt8) (hb:l[j]?=some b):AF (l.take (j+1))=AF (l.take j) * 256+b.toNat:=by rw[List.take_add_one,hb];exact FE _ _
theorem Ami {l:List UInt8} {j:Nat} (h:j<l.length):∃b,l[j]?=some b:=⟨_,List.getElem?_eq_getElem h⟩
def uW (n:Int):Int:=if n<1∨4<n then -1 else n
def uN (n:Int) (s:ByteArray) (bad:Bool):Int:=AF (AB (uW n) s bad).data.toList
theorem W2 (n:Int) (s:ByteArray) (bad:Bool):(AB n s bad).data.toList.length≤n.toNat:=by
 unfold AB
 split
 ·simp;omega
 ·simp
theorem Aj6 {Q:Exit→Fr→List HP→Prop} {a:Fr} {C:List HP} (u:ByteArray) (r N:Nat) (e:TypeId) (hu:u.data.toList.length≤4) (ha:cJ a [(17,.slice (some ⟨r,0,none⟩) u.size N),(18,I6 u.size),(19,I6 0),(5,I6 0)])
  (hC:∃C',C=bQ (some ⟨r,0,none⟩) N e dL u.data.toList::C') (hK:∀a,Q (.exit 0) (eP a [(5,I6 (AF u.data.toList))]) C):fN Tryz.prog (R9 Tryz.f327 0) Q a C:=by
 obtain⟨C',rfl⟩:=hC
 have hsz:u.data.toList.length=u.size:=by simp
 refine fZ (fun m a C=>∃j,j+m=u.size∧C=bQ (some ⟨r,0,none⟩) N e dL u.data.toList::C'∧cJ a [(17,.slice (some ⟨r,0,none⟩) u.size N),(18,I6 u.size),(19,I6 (j:Nat)),(5,I6 (AF (u.data.toList.take j)))]) u.size
  (bV u.size ⟨0,by omega,rfl,ha⟩) ?_
 rintro n a C ⟨j,hj,rfl,ha⟩
 refine fP _ ha ?_
 simp only[eP]
 have hb:=Aaj (u.data.toList.take j) (by simp;omega)
 by_cases hlt:j<u.size
 ·obtain⟨b,hb⟩:=Ami (l:=u.data.toList) (j:=j) (by omega)
  have hb2:=b.toNat_lt
  repeat' (first|refine w1 ?_|refine w5 ?_ ?_|((refine bh fun h=>?_) <;> try exact w6 h)|(refine aE fun hA=>?_;subst hA)|intro _)
  show aT _ _ _ _
  exact bV (n - 1) ⟨j+1,by omega,rfl,rfl,rfl,rfl,by rw[Wj _ _ _ hb];rfl,trivial⟩
 ·obtain rfl:j=u.size:=by omega
  repeat' (first|refine w1 ?_|refine w5 ?_ ?_|((refine bh fun h=>?_) <;> try exact w6 h)|(refine aE fun hA=>?_;subst hA)|intro _)
  exact Uq (p:=fun a=>Q (.exit 0) a _) [(5,I6 (AF u.data.toList))] ⟨by rw[List.take_of_length_le (by omega)];rfl,trivial⟩ (hK _)
theorem Als {p:Nat} {n:Int} {s:ByteArray} {bad:Bool} (hK:K (I6 (uN n s bad)) (eT p (Dx (uW n) s bad) (!lA (uW n) s bad)::R)):CT 327 #[PO p,I6 n] (eT p s bad::R) K:=by
 unfold uN uW at hK
 refine aH Tryz.func327 ?_
 repeat' (first|refine v86 ?_|refine w5 ?_ ?_|((refine bh fun h=>?_) <;> try exact w6 h)|(refine aE fun hA=>?_;subst hA)|intro _|(show aA _ 378 _ _ _;refine CA (h:=VB ?_))|refine Aj6 _ _ _ _ ?_ ⟨rfl,rfl,rfl,rfl,trivial⟩ ⟨_,rfl⟩ (fun a=>?_))
 all_goals first
  |(rw[if_pos (by omega)] at hK;(refine aC ?_;exact aB (hK)))
  |(rw[if_neg (by omega)] at hK;(refine aC ?_;exact aB (hK)))
  |exact Nat.le_trans (W2 _ _ _) (by omega)
end Go.Proofs.YtifgibijcmppmaaGreat
end
namespace Go.Proofs.YtifgibijcmppmaaGreat
open Go Go.Proofs Go.Sl
attribute [local irreducible] aN fN cX bP aM aX aA dS dV aT dU pt ro eV star sep bH
section
variable {R C:List HP} {K:KP}
structure Pc where
 n:Int
 w:Int
 s:ByteArray
def pcD:List Value→Option Pc
 | [.int .i64 n,.int .i64 w,.string s]=>some ⟨n,w,s⟩
 |_=>none
theorem Ajr (cs:List Value) (y:Pc) (h:pcD cs=some y): [I6 y.n,I6 y.w,.string y.s]=cs:=by
 unfold pcD at h
 split at h
 ·cases h;rfl
 ·cases h
def pcC:tJ Pc:= { enc:=fun p=> [I6 p.n,I6 p.w,.string p.s],sz:=3,dec:=pcD,len:=fun _=>rfl,one:=fun _=>rfl,ok:=Ajr }
def iR (n w:Int):Int:=if w<0∨4<w then 2 else if 0<w∧(n<0∨0<n / 2 ^ (8 * w).toNat) then 3 else 0
def jY (w:Int) (s:ByteArray):Int:=if w=0 then s.size else if w<0∨4<w then 0 else w
def wB (n w:Int):List UInt8:=(List.range w.toNat).map fun(i:Nat)=>Qk (n / 2 ^ (8 * (w - 1 - (i:Int))).toNat)
def QT (n w:Int) (s:ByteArray):List UInt8:=(if w=0 then s.data.toList else [])++wB n w
theorem Ad1 {n w:Int} (hK:K (.agg #[I6 n,I6 w,.string ⟨#[]⟩]) R):CT 336 #[I6 n,I6 w] R K:=by
 refine aH Tryz.func336 ?_
 repeat' (first|refine v5 ?_|refine w5 ?_ ?_|((refine bh fun h=>?_) <;> try exact w6 h)|(refine aE fun hA=>?_;subst hA)|intro _)
 (refine aC ?_;exact aB (hK))
theorem Amk {s:ByteArray} (hK:K (.agg #[I6 0,I6 0,.string s]) R):CT 349 #[.string s] R K:=by
 refine aH Tryz.func349 ?_
 repeat' (first|refine v5 ?_|refine w5 ?_ ?_|((refine bh fun h=>?_) <;> try exact w6 h)|(refine aE fun hA=>?_;subst hA)|intro _)
 (refine aC ?_;exact aB (hK))
theorem Ai1 {n w:Int} {s:ByteArray} (hK:K (I6 (iR n w)) R):CT 382 #[.agg #[I6 n,I6 w,.string s]] R K:=by
 refine aH Tryz.func382 ?_
 repeat' (first|refine v56 ?_|refine w5 ?_ ?_|((refine bh fun h=>?_) <;> try exact w6 h)|(refine aE fun hA=>?_;subst hA)|intro _)
 all_goals(refine aC ?_;exact aB (ki hK (by unfold iR;(repeat' split) <;> first|rfl|omega|(exfalso;omega)|simp_all)))
theorem Zn {n w:Int} {s:ByteArray} (hK:K (I6 (jY w s)) R):CT 397 #[.agg #[I6 n,I6 w,.string s]] R K:=by
 refine aH Tryz.func397 ?_
 repeat' (first|refine v23 ?_|refine w5 ?_ ?_|((refine bh fun h=>?_) <;> try exact w6 h)|(refine aE fun hA=>?_;subst hA)|intro _)
 all_goals(refine aC ?_;exact aB (ki hK (by unfold jY;(repeat' split) <;> first|rfl|omega|(exfalso;omega)|simp_all)))
def Jy:List Pc→Int→Int
 | [],n=>n
 |p::l,n=>if 4096<n+min (jY p.w p.s) 4097 then 4097 else Jy l (n+min (jY p.w p.s) 4097)
theorem E4 (w:Int) (s:ByteArray):0≤jY w s:=by unfold jY;(repeat' split) <;> first|rfl|omega|(exfalso;omega)|simp_all
theorem i7 {α:Type} {l:List α} {j:Nat} (h:j<l.length):∃x,l[j]?=some x∧l.drop j=x::l.drop (j+1):=⟨l[j],List.getElem?_eq_getElem h,List.drop_eq_getElem_cons h⟩
theorem Ahw {A:Option Addr} {n c:Nat} {ps:List Pc} (hv:dT C A pcC ps) (hn:ps.length=n) (hn2:n<1000000000000000) (hK:K (I6 (Jy ps 0)) C):CT 383 #[.slice A n c] C K:=by
 refine aH Tryz.func383 ?_
 repeat' (first|refine v55 ?_|refine w5 ?_ ?_|((refine bh fun h=>?_) <;> try exact w6 h)|(refine aE fun hA=>?_;subst hA)|intro _)
 refine fZ (fun m a C'=>∃(j:Nat) (t:Int),j+m=n∧C'=C∧0≤t∧t≤4096∧Jy ps 0=Jy (ps.drop j) t∧cJ a [(6,.slice A n c),(7,I6 n),(8,I6 j),(3,I6 t)]) n (bV n ⟨0,0,by omega,rfl,by omega,by omega,rfl,rfl,rfl,rfl,rfl,trivial⟩) ?_
 rintro n1 a C' ⟨j,t,hj,rfl,h0,h1,hs,ha⟩
 refine fP _ ha ?_
 simp only[eP]
 by_cases hlt:j<n
 ·obtain⟨p,hp,hd⟩:=i7 (l:=ps) (j:=j) (by omega)
  have hnn:=E4 p.w p.s
  rw[hd,Jy] at hs
  repeat' (first|refine v55 ?_|refine w5 ?_ ?_|((refine bh fun h=>?_) <;> try exact w6 h)|(refine aE fun hA=>?_;subst hA)|intro _|(show aA _ 397 _ _ _;refine CA (h:=Zn ?_)))
  ·rw[if_pos (by assumption)] at hs
   (refine aC ?_;exact aB (ki hK hs))
  ·rw[if_neg (by omega)] at hs
   exact bV (n1 - 1) ⟨j+1,_,by omega,rfl,by omega,by omega,hs,rfl,rfl,rfl,rfl,trivial⟩
 ·obtain rfl:j=n:=by omega
  repeat' (first|refine v55 ?_|refine w5 ?_ ?_|((refine bh fun h=>?_) <;> try exact w6 h)|(refine aE fun hA=>?_;subst hA)|intro _)
  (refine aC ?_;exact aB (ki hK (by rw[hs,List.drop_eq_nil_of_le (by omega)];rfl)))
def XH (b:Nat) (bs:List UInt8):HP:=eV fun A=>eV fun c=>sep (pt b [.slice A bs.length c] 214) (bQ A c 5 dL bs)
theorem Af7 (n w:Int) (j:Nat) (h:(j:Int)<w):(wB n w).take (j+1)=(wB n w).take j++ [Qk (n / 2 ^ (8 * (w - 1 - (j:Int))).toNat)]:=by
 unfold wB
 rw[List.take_add_one,List.getElem?_map,List.getElem?_range (by omega)]
 rfl
theorem sC (n w:Int):(wB n w).length=w.toNat:=by simp[wB]
theorem Pp {Q:Exit→Fr→List HP→Prop} {a:Fr} {b r:Nat} {n w:Int} {s:ByteArray} (bs:List UInt8) (hw:0≤w∧w≤4) (hl:bs.length<2000000000000) (hE:aG C (XH b bs::pt r [I6 n,I6 w,.string s] 369::R))
  (ha:cJ a [(1,PO b),(2,PO r),(12,I6 w),(13,I6 0)]) (hK:∀a C',aG C' (XH b (bs++wB n w)::R)→Q (.exit 0) a C'):fN Tryz.prog (R9 Tryz.f384 0) Q a C:=by
 refine l7 hE ?_
 have hwl:=sC n w
 refine fZ (fun m a C=>∃j:Nat,(j:Int)+m=w∧C=XH b (bs++(wB n w).take j)::pt r [I6 n,I6 w,.string s] 369::R∧cJ a [(1,PO b),(2,PO r),(12,I6 w),(13,I6 j)])
  w.toNat (bV w.toNat ⟨0,by omega,by rw[List.take_zero,List.append_nil],ha⟩) ?_
 rintro m a C ⟨j,hj,rfl,ha⟩
 refine fP _ ha ?_
 simp only[eP]
 have hle:(bs++(wB n w).take j).length<2000000000010:=by rw[List.length_append,List.length_take];omega
 by_cases hlt:(j:Int)<w
 ·have ht:=Af7 n w j hlt
  refine qA fun A=>qA fun c=>EC ?_
  repeat' (first|refine w1 ?_|refine w5 ?_ ?_|((refine bh fun h=>?_) <;> try exact w6 h)|(refine aE fun hA=>?_;subst hA)|intro _)
  refine bV (m - 1) ⟨j+1,by omega,rfl,rfl,rfl,rfl,rfl,trivial⟩ (by omega) ?_
  rw[ht,← List.append_assoc]
  exact aZ
 ·have:j=w.toNat:=by omega
  subst this
  repeat' (first|refine w1 ?_|refine w5 ?_ ?_|((refine bh fun h=>?_) <;> try exact w6 h)|(refine aE fun hA=>?_;subst hA)|intro _)
  refine hK _ _ ?_
  rw[List.take_of_length_le (by omega)]
  exact aZ
def y4:List (Nat×Nat):= [(1,0),(2,0),(3,0),(4,0),(5,0),(6,0),(7,0),(8,0),(9,0),(10,0),(11,1),(0,1),(12,1),(13,1)]
theorem Aki {b:Nat} {n w:Int} {s:ByteArray} {bs:List UInt8} (hw:0≤w∧w≤4) (hl:bs.length+(QT n w s).length<1000000000000) (hK:K (.tuple #[]) (XH b (bs++QT n w s)::R)):
  CT 384 #[.agg #[I6 n,I6 w,.string s],PO b] (XH b bs::R) K:=by
 have hs:s.data.toList.length=s.size:=by simp
 by_cases h0:w=0
 ·subst h0
  simp only[QT,if_true,List.length_append] at hl
  simp only[QT,if_true,← List.append_assoc] at hK
  refine aA.ex fun A=>aA.ex fun c=>aA.sep ?_
  refine aH Tryz.func384 ?_
  repeat' (first|refine v91 ?_|refine dw y4 ?_|refine w5 ?_ ?_|((refine bh fun h=>?_) <;> try exact w6 h)|(refine aE fun hA=>?_;subst hA)|intro _|refine Pp (R:=R) (n:=n) (w:=0) (s:=s) (bs++s.data.toList) (by omega) (by simp;omega) (by exact aZ) ⟨rfl,rfl,rfl,rfl,trivial⟩ (fun a C' hE=>?_))
  refine aC ?_
  exact aK hE hK
 ·simp only[QT,h0,if_false,List.nil_append] at hK
  refine aH Tryz.func384 ?_
  repeat' (first|refine v91 ?_|refine dw y4 ?_|refine w5 ?_ ?_|((refine bh fun h=>?_) <;> try exact w6 h)|(refine aE fun hA=>?_;subst hA)|intro _|refine Pp (R:=R) (n:=n) (w:=w) (s:=s) bs (by omega) (by omega) (by exact aZ) ⟨rfl,rfl,rfl,rfl,trivial⟩ (fun a C' hE=>?_))
  refine aC ?_
  exact aK hE hK
end
section
variable {R C:List HP} {K:KP}
def eK:List Pc→Int
 | []=>0
 |p::l=>if iR p.n p.w=0 then eK l else iR p.n p.w
def kB (ps:List Pc):List UInt8:=ps.flatMap fun p=>QT p.n p.w p.s
theorem AA {p:Pc} {l:List Pc} (h:eK (p::l)=0):iR p.n p.w=0∧eK l=0:=by
 unfold eK at h
 split at h
 ·exact⟨by assumption,h⟩
 ·rename_i h';exact absurd h h'
theorem Ep {n w:Int} (h:iR n w=0):0≤w∧w≤4:=by
 unfold iR at h
 split at h
 ·cases h
 ·omega
theorem MS {n w:Int} {s:ByteArray} (h:0≤w∧w≤4):((QT n w s).length:Int)=jY w s:=by
 unfold QT jY
 rw[List.length_append,sC]
 split
 ·subst_vars;simp
 ·rw[if_neg (by omega)];simp;omega
theorem R6:∀(ps:List Pc) (n:Int),0≤n→eK ps=0→Jy ps n≤4096→n+(kB ps).length=Jy ps n
 | [],n,_,_,_=>by simp[Jy,kB]
 |p::l,n,h0,he,h=>by
  obtain⟨h1,h2⟩:=AA he
  have hl:=MS (n:=p.n) (s:=p.s) (Ep h1)
  unfold Jy at h ⊢
  split at h
  ·omega
  ·rename_i h3
   rw[if_neg h3]
   have hnn:=E4 p.w p.s
   have:=R6 l (n+min (jY p.w p.s) 4097) (by omega) h2 h
   have hle:n+min (jY p.w p.s) 4097≤Jy l (n+min (jY p.w p.s) 4097):=by rw[← this];omega
   rw[← this]
   simp only[kB,List.flatMap_cons,List.length_append]
   have:min (jY p.w p.s) 4097=jY p.w p.s∨4097≤jY p.w p.s:=by omega
   have hc:((List.flatMap (fun p=>QT p.n p.w p.s) l).length:Int)=(kB l).length:=rfl
   omega
def wP (ps:List Pc):Int:=if eK ps=0 then(if 4096<Jy ps 0 then 4 else 0) else eK ps
def u5 (ps:List Pc):ByteArray:=if wP ps=0 then⟨(kB ps).toArray⟩ else⟨#[]⟩
theorem FU {ps:List Pc} {j:Nat} {p:Pc} (h:ps.drop j=p::ps.drop (j+1)):eK (ps.drop j)=if iR p.n p.w=0 then eK (ps.drop (j+1)) else iR p.n p.w:=by rw[h];rfl
theorem R2 {A:Option Addr} {n c:Nat} {ps:List Pc} (hv:dT C A pcC ps) (hn:ps.length=n) (hn2:n<1000000000000000) (hK:K (.tuple #[.string (u5 ps),I6 (wP ps)]) C):CT 335 #[.slice A n c] C K:=by
 have hz0:=R6 ps 0 (by omega)
 refine aH Tryz.func335 ?_
 repeat' (first|refine v74 ?_|refine w5 ?_ ?_|((refine bh fun h=>?_) <;> try exact w6 h)|(refine aE fun hA=>?_;subst hA)|intro _)
 refine fZ (fun m a C'=>∃(j:Nat),j+m=n∧C'=C∧eK ps=eK (ps.drop j)∧cJ a [(0,.slice A n c),(11,.slice A n c),(12,I6 n),(13,I6 j)]) n (bV n ⟨0,by omega,rfl,rfl,rfl,rfl,rfl,rfl,trivial⟩) ?_
 rintro n1 a C' ⟨j,hj,rfl,hs,ha⟩
 refine fP _ ha ?_
 simp only[eP]
 by_cases hlt:j<n
 ·obtain⟨p,hp,hd⟩:=i7 (l:=ps) (j:=j) (by omega)
  rw[FU hd] at hs
  repeat' (first|refine v74 ?_|refine w5 ?_ ?_|((refine bh fun h=>?_) <;> try exact w6 h)|(refine aE fun hA=>?_;subst hA)|intro _|(show aA _ 382 _ _ _;refine CA (h:=Ai1 ?_)))
  ·have h:iR p.n p.w≠0:=by assumption
   rw[if_neg h] at hs
   have he:wP ps=iR p.n p.w:=by unfold wP;rw[if_neg (by rw[hs];exact h),hs]
   have hb:u5 ps=⟨#[]⟩:=by unfold u5;rw[if_neg (by rw[he];exact h)]
   rw[he,hb] at hK
   (refine aC ?_;exact aB (hK))
  ·have h:iR p.n p.w=0:=by assumption
   rw[if_pos h] at hs
   exact bV (n1 - 1) ⟨j+1,by omega,rfl,hs,rfl,rfl,rfl,rfl,trivial⟩
 ·obtain rfl:j=n:=by omega
  rw[List.drop_eq_nil_of_le (by omega)] at hs
  have hs0:eK ps=0:=hs
  repeat' (first|refine v74 ?_|refine w5 ?_ ?_|((refine bh fun h=>?_) <;> try exact w6 h)|(refine aE fun hA=>?_;subst hA)|intro _|(show aA _ 383 _ _ _;refine CA (h:=Ahw (by assumption) (by assumption) (by omega) ?_)))
  ·have h:4096<Jy ps 0:=by assumption
   have he:wP ps=4:=by unfold wP;rw[if_pos hs0,if_pos h]
   have hb:u5 ps=⟨#[]⟩:=by unfold u5;rw[if_neg (by rw[he];decide)]
   rw[he,hb] at hK
   (refine aC ?_;exact aB (hK))
  ·rename_i b
   have h:Jy ps 0≤4096:=by assumption
   have hz:=hz0 hs0 h
   have he:wP ps=0:=by unfold wP;rw[if_pos hs0,if_neg (by omega)]
   have hb:u5 ps=⟨(kB ps).toArray⟩:=by unfold u5;rw[if_pos he]
   rw[he,hb] at hK
   refine fZ (fun m a C2=>∃(i:Nat),i+m=j∧C2=XH b (kB (ps.take i))::C'∧eK (ps.drop i)=0∧cJ a [(7,PO b),(8,.func (.func 384) #[] #[PO b]),(27,.slice A j c),(28,I6 j),(29,I6 i)]) j (bV j ⟨0,by omega,rfl,hs0,rfl,rfl,rfl,rfl,rfl,trivial⟩) ?_
   rintro n2 a C2 ⟨i,hi,rfl,hf,ha⟩
   refine fP _ ha ?_
   simp only[eP]
   by_cases hlt:i<j
   ·obtain⟨p,hp,hd⟩:=i7 (l:=ps) (j:=i) (by omega)
    rw[FU hd] at hf
    split at hf
    ·rename_i hm
     have htk:kB (ps.take (i+1))=kB (ps.take i)++QT p.n p.w p.s:=by
      rw[List.take_add_one,hp];simp[kB]
     have hle:((kB (ps.take (i+1))).length:Int)≤(kB ps).length:=by
      have:kB ps=kB (ps.take (i+1))++kB (ps.drop (i+1)):=by
       unfold kB;rw[← List.flatMap_append,List.take_append_drop]
      rw[this,List.length_append];omega
     have hpl:=MS (n:=p.n) (s:=p.s) (Ep hm)
     have hss:p.w=0→jY p.w p.s=p.s.size:=fun h0=>by unfold jY;rw[if_pos h0]
     rw[htk,List.length_append] at hle
     repeat' (first|refine v74 ?_|refine w5 ?_ ?_|((refine bh fun h=>?_) <;> try exact w6 h)|(refine aE fun hA=>?_;subst hA)|intro _|(show aA _ 384 _ _ _;refine CA (h:=Aki (Ep hm) (by omega) ?_)))
     exact bV (n2 - 1) ⟨i+1,by omega,by rw[htk],hf,rfl,rfl,rfl,rfl,rfl,trivial⟩
    ·rename_i h1;exact absurd hf h1
   ·obtain rfl:i=j:=by omega
    rw[List.take_of_length_le (by omega)]
    refine qA fun A=>qA fun c=>EC ?_
    repeat' (first|refine v74 ?_|refine w5 ?_ ?_|((refine bh fun h=>?_) <;> try exact w6 h)|(refine aE fun hA=>?_;subst hA)|intro _)
    (refine aC ?_;exact aB (hK))
theorem Iq {ps:List Pc} (h:wP ps=0):eK ps=0∧Jy ps 0=(u5 ps).size∧(u5 ps).size≤4096∧(u5 ps).data.toList=kB ps:=by
 have h1:eK ps=0:=by
  by_cases h2:eK ps=0
  ·exact h2
  ·unfold wP at h;rw[if_neg h2] at h;exact h
 have h2:Jy ps 0≤4096:=by
  unfold wP at h;rw[if_pos h1] at h
  split at h
  ·cases h
  ·omega
 have h3:=R6 ps 0 (by omega) h1 h2
 have h4:u5 ps=⟨(kB ps).toArray⟩:=by unfold u5;rw[if_pos h]
 have h5:(u5 ps).size=(kB ps).length:=by rw[h4];simp[ByteArray.size]
 exact⟨h1,by omega,by omega,by rw[h4]⟩
theorem OA {ps:List Pc} (h:¬wP ps=0):u5 ps=⟨#[]⟩:=by unfold u5;rw[if_neg h]
end
end Go.Proofs.YtifgibijcmppmaaGreat
namespace Go.Proofs.YtifgibijcmppmaaGreat
open Go Go.Proofs Go.Sl
theorem Gf (s:ByteArray):s.toList=s.data.toList:=by
 exact ByteArray.toList_eq s
end Go.Proofs.YtifgibijcmppmaaGreat
namespace Go.Proofs.YtifgibijcmppmaaGreat
open Go Go.Proofs Go.Sl
attribute [local irreducible] aN fN cX bP aM aX aA dS dV aT dU pt ro eV star sep bH
section
variable {R C:List HP} {K:KP}
theorem FF {s t:ByteArray} (h:s.data.toList=t.data.toList):s=t:=by
 apply ByteArray.ext;exact Array.toList_inj.1 h
theorem Ahq {n w:Int} (h:iR n w=0) (hw:0<w):0≤n∧n<256 ^ w.toNat:=by
 have h4:=Ep h
 have h2:0≤n∧¬0<n / 2 ^ (8 * w).toNat:=by
  unfold iR at h
  split at h
  ·cases h
  ·split at h
   ·cases h
   ·omega
 refine⟨h2.1,?_⟩
 have e:(2:Int) ^ (8 * w).toNat=256 ^ w.toNat:=by
  have:(8 * w).toNat=8 * w.toNat:=by omega
  rw[this,Int.pow_mul];rfl
 rw[e] at h2
 have hq:(0:Int)<256 ^ w.toNat:=Int.pow_pos (by decide)
 generalize (256:Int) ^ w.toNat=q at *
 have h3:=Int.emod_lt_of_pos n hq
 have h4:=Int.emod_def n q
 have h5:n / q=0:=by
  have:0≤n / q:=Int.ediv_nonneg h2.1 (by omega)
  omega
 rw[h5] at h4
 omega
theorem Aec {p:Nat} {s:ByteArray} {bad:Bool} (h:lA s.size s bad=true) (hK:K (.string (AB s.size s bad)) (eT p (Dx s.size s bad) false::R)):CT 379 #[PO p] (eT p s bad::R) K:=by
 refine Afy ?_
 rw[h];exact hK
theorem Al6 {p:Nat} {n:Int} {s:ByteArray} {bad:Bool} (h:lA (uW n) s bad=true) (hK:K (I6 (uN n s bad)) (eT p (Dx (uW n) s bad) false::R)):CT 327 #[PO p,I6 n] (eT p s bad::R) K:=by
 refine Als ?_
 rw[h];exact hK
theorem Aiy {p:Nat} {n:Int} {s:ByteArray} {bad:Bool} (h:lA (uW n) s bad=false) (hK:K (I6 0) (eT p s true::R)):CT 327 #[PO p,I6 n] (eT p s bad::R) K:=by
 refine Als ?_
 unfold uN AB Dx
 rw[h];exact hK
theorem VE {s:ByteArray} {at_ n:Int} (h0:0≤at_) (h1:0≤n) (h2:at_+n≤s.size):lA n (s.extract at_.toNat s.size) false=true∧AB n (s.extract at_.toNat s.size) false=s.extract at_.toNat (at_+n).toNat∧Dx n (s.extract at_.toNat s.size) false=s.extract (at_+n).toNat s.size:=by
 have hok:lA n (s.extract at_.toNat s.size) false=true:=by
  unfold lA
  simp
  omega
 refine⟨hok,?_,?_⟩
 ·unfold AB
  rw[hok]
  apply FF
  simp
  congr 1
  omega
 ·unfold Dx
  rw[hok]
  apply FF
  simp
  have e:at_.toNat+n.toNat=(at_+n).toNat:=by omega
  rw[e]
  congr 1
  omega
theorem Aij {u:ByteArray} {n:Int} {bad:Bool} (h:bad=true∨n<0∨u.size<n):lA n u bad=false:=by
 unfold lA
 rcases h with rfl|h|h
 ·rfl
 ·simp;intro;omega
 ·simp;intro;omega
end
section
variable {R C:List HP} {K:KP}
def Aaz:List (Bool×Bool×Int×Int):= [(false,true,-1,1),(false,true,-1,1),(false,true,8,0),(false,true,8,0),(false,true,4,0),(true,false,-1,0),(true,false,0,0),(true,false,8,0),(true,false,8,0),(true,false,8,0),(true,true,4,0),(false,true,4,0)]
def Ako:List Value:=Aaz.flatMap fun x=> [.bool x.1,.bool x.2.1,I6 x.2.2.1,I6 x.2.2.2]
theorem OH (hK:K (.agg Ako.toArray) R):CT 361 #[] R K:=by
 refine aH Tryz.func361 ?_
 repeat' (first|refine v5 ?_|refine w5 ?_ ?_|((refine bh fun h=>?_) <;> try exact w6 h)|(refine aE fun hA=>?_;subst hA)|intro _)
 (refine aC ?_;exact aB (hK))
def mO (k:Int):Bool×Bool×Int×Int:=if k<0∨12≤k then(false,false,0,0) else Aaz.getD k.toNat (false,false,0,0)
def Dl (k:Int):Int:=if k<0∨12≤k then 3 else 0
theorem Nm {k:Int} (hK:K (.tuple #[.agg #[.bool (mO k).1,.bool (mO k).2.1,I6 (mO k).2.2.1,I6 (mO k).2.2.2],I6 (Dl k)]) R):CT 297 #[I6 k] R K:=by
 rcases(by omega:(k<0∨12≤k)∨k=0∨k=1∨k=2∨k=3∨k=4∨k=5∨k=6∨k=7∨k=8∨k=9∨k=10∨k=11) with h|h|h|h|h|h|h|h|h|h|h|h|h
 ·have e1:mO k=(false,false,0,0):=by unfold mO;rw[if_pos h]
  have e2:Dl k=3:=by unfold Dl;rw[if_pos h]
  rw[e1,e2] at hK
  refine aH Tryz.func297 ?_
  repeat' (first|refine v82 ?_|refine w5 ?_ ?_|((refine bh fun h=>?_) <;> try exact w6 h)|(refine aE fun hA=>?_;subst hA)|intro _|(show aA _ 361 _ _ _;refine CA (h:=OH ?_)))
  all_goals(refine aC ?_;exact aB (hK))
 all_goals
  subst h
  refine aH Tryz.func297 ?_
  repeat' (first|refine v82 ?_|refine w5 ?_ ?_|((refine bh fun h=>?_) <;> try exact w6 h)|(refine aE fun hA=>?_;subst hA)|intro _|(show aA _ 361 _ _ _;refine CA (h:=OH ?_)))
  (refine aC ?_;exact aB (hK))
def Df:List (Nat×Nat):= [(0,0),(1,0),(2,0),(3,0),(4,0),(5,0),(6,0),(7,0)]
theorem Pm {k:Int} (hK:K (.tuple #[.bool (mO k).1,.bool (mO k).2.1,I6 (Dl k)]) R):CT 209 #[I6 k] R K:=by
 refine aH Tryz.func209 ?_
 repeat' (first|refine v31 ?_|refine dw Df ?_|refine w5 ?_ ?_|((refine bh fun h=>?_) <;> try exact w6 h)|(refine aE fun hA=>?_;subst hA)|intro _|(show aA _ 297 _ _ _;refine CA (h:=Nm ?_)))
 (refine aC ?_;exact aB (hK))
end
section
variable {R C:List HP} {K:KP}
def rB (n w:Int):ByteArray:=if n<0 then⟨#[]⟩ else⟨(wB n w).toArray⟩
end
section
variable {R C:List HP} {K:KP}
def F6 (k:Int):Int:=if k=2∨k=3∨k=7∨k=8∨k=9 then 8 else if k=4∨k=10∨k=11 then 4 else if k=6 then 0 else -1
theorem FY (k:Int) (h0:0≤k) (h1:k≤11):(mO k).1=(decide (5≤k) && decide (k≤10))∧(mO k).2.1=(decide (k≤4) || decide (10≤k))∧(mO k).2.2.1=F6 k∧Dl k=0∧(mO k).2.2.2=(if k≤1 then 1 else 0):=by
 rcases(by omega:k=0∨k=1∨k=2∨k=3∨k=4∨k=5∨k=6∨k=7∨k=8∨k=9∨k=10∨k=11) with h|h|h|h|h|h|h|h|h|h|h|h <;> subst h <;> decide
def YD (l t f s:Int):List Pc:= [⟨l,3,⟨#[]⟩⟩,⟨t,1,⟨#[]⟩⟩,⟨f,1,⟨#[]⟩⟩,⟨s,4,⟨#[]⟩⟩]
def hOk (l t f s:Int):Bool:=decide (0≤l) && decide (l<16777216) && decide (0≤t) && decide (t<256) && decide (0≤f) && decide (f<256) && decide (0≤s) && decide (s≤2147483647)
def K7 (l t f s:Int):ByteArray:=if 2147483647<s then⟨#[]⟩ else u5 (YD l t f s)
def Kw (l t f s:Int):Int:=if 2147483647<s then 2 else if wP (YD l t f s)=0 then 0 else 2
def FB:List (Nat×Nat):= [(0,0),(1,0),(2,1),(3,1),(4,1),(5,1),(6,2),(7,2),(8,1),(9,3),(10,3),(11,1),(12,1),(13,1),(14,0),(15,0),(16,0),(17,0),(18,0)]
theorem Ahl {l t f s:Int} (hK:K (.tuple #[.string (K7 l t f s),I6 (Kw l t f s)]) R):CT 269 #[.agg #[I6 l,I6 t,I6 f,I6 s]] R K:=by
 unfold K7 Kw at hK
 refine aH Tryz.func269 ?_
 repeat' (first|refine v60 ?_|refine dw FB ?_|refine w5 ?_ ?_|((refine bh fun h=>?_) <;> try exact w6 h)|(refine aE fun hA=>?_;subst hA)|intro _|(show aA _ 336 _ _ _;refine CA (h:=Ad1 ?_))|(show aA _ 335 _ _ _;refine CA (h:=R2 (ps:=YD l t f s) (by exact kF) (by exact rfl) (by decide) ?_)))
 all_goals first
  |(rw[if_pos (by assumption),if_pos (by assumption)] at hK;(refine aC ?_;exact aB (hK)))
  |(rw[if_neg (by omega),if_neg (by omega),if_pos (by assumption)] at hK;(refine aC ?_;exact aB (hK)))
  |(rw[if_neg (by omega),if_neg (by omega),if_neg (by assumption),OA (by assumption)] at hK;(refine aC ?_;exact aB (hK)))
end
section
variable {R C:List HP} {K:KP}
def sub (s:ByteArray) (i j:Nat):ByteArray:=s.extract i j
def xU (s:ByteArray) (i j:Nat):Int:=AF (s.extract i j).data.toList
theorem MC {p i j:Nat} {w:Int} {s:ByteArray} (hw:1≤w∧w≤4) (hj:(j:Int)=i+w) (h:j≤s.size) (hK:K (I6 (xU s i j)) (eT p (s.extract j s.size) false::R)):CT 327 #[PO p,I6 w] (eT p (s.extract i s.size) false::R) K:=by
 have hW:uW w=w:=by unfold uW;rw[if_neg (by omega)]
 obtain⟨t1,t2,t3⟩:=VE (s:=s) (at_:=i) (n:=w) (by omega) (by omega) (by omega)
 have e:((i:Int)+w).toNat=j:=by omega
 rw[e] at t2 t3
 rw[Int.toNat_natCast] at t1 t2 t3
 refine Al6 (by rw[hW];exact t1) ?_
 rw[hW,t3]
 unfold uN
 rw[hW,t2]
 exact hK
theorem Qt {p i:Nat} {s:ByteArray} (h:i+1≤s.size) (hK:K (I6 (xU s i (i+1))) (eT p (s.extract (i+1) s.size) false::R)):CT 327 #[PO p,I6 1] (eT p (s.extract i s.size) false::R) K:=
 MC (by decide) (by omega) h hK
theorem Alc {p i:Nat} {s:ByteArray} (h:i+3≤s.size) (hK:K (I6 (xU s i (i+3))) (eT p (s.extract (i+3) s.size) false::R)):CT 327 #[PO p,I6 3] (eT p (s.extract i s.size) false::R) K:=
 MC (by decide) (by omega) h hK
theorem K2 {p i:Nat} {s:ByteArray} (h:i+4≤s.size) (hK:K (I6 (xU s i (i+4))) (eT p (s.extract (i+4) s.size) false::R)):CT 327 #[PO p,I6 4] (eT p (s.extract i s.size) false::R) K:=
 MC (by decide) (by omega) h hK
theorem Age {p i:Nat} {w:Int} {s:ByteArray} (hw:1≤w∧w≤4) (hi:i≤s.size) (h:(s.size:Int)<i+w) (hK:K (I6 0) (eT p (s.extract i s.size) true::R)):CT 327 #[PO p,I6 w] (eT p (s.extract i s.size) false::R) K:=by
 have hW:uW w=w:=by unfold uW;rw[if_neg (by omega)]
 refine Aiy ?_ hK
 rw[hW]
 exact Aij (.inr (.inr (by simp;omega)))
theorem Aef {p:Nat} {w:Int} {s:ByteArray} (hK:K (I6 0) (eT p s true::R)):CT 327 #[PO p,I6 w] (eT p s true::R) K:=
 Aiy (Aij (.inl rfl)) hK
theorem uX {s:ByteArray} (hK:∀r,K (PO r) (eT r (s.extract 0 s.size) false::R)):CT 326 #[.string s] R K:=by
 refine Ut s fun r=>?_
 have e:s.extract 0 s.size=s:=by apply FF;simp
 have:=hK r
 rwa[e] at this
def VP (s:ByteArray):Value:=if s.size<9∨2147483647<xU s 5 9 then .tuple #[.agg #[I6 0,I6 0,I6 0,I6 0],I6 (if s.size<9 then 5 else 6)] else .tuple #[.agg #[I6 (xU s 0 3),I6 (xU s 3 4),I6 (xU s 4 5),I6 (xU s 5 9)],I6 0]
attribute [local irreducible] ByteArray.extract xU
theorem Aha {s:ByteArray} (hK:K (VP s) R):CT 243 #[.string s] R K:=by
 refine aH Tryz.func243 ?_
 rcases(by omega:s.size<3∨s.size=3∨s.size=4∨(5≤s.size∧s.size<9)∨9≤s.size) with h|h|h|h|h
 all_goals
  repeat' (first|refine v75 ?_|refine w5 ?_ ?_|((refine bh fun h=>?_) <;> try exact w6 h)|(refine aE fun hA=>?_;subst hA)|intro _|(show aA _ 326 _ _ _;refine CA (h:=uX (fun p=>?_)))|(show aA _ 327 _ _ _;refine CA (h:=Alc (by omega) ?_))|(show aA _ 327 _ _ _;refine CA (h:=Qt (by omega) ?_))|(show aA _ 327 _ _ _;refine CA (h:=K2 (by omega) ?_))|(show aA _ 327 _ _ _;refine CA (h:=Age (by decide) (by omega) (by omega) ?_))|(show aA _ 327 _ _ _;refine CA (h:=Aef ?_))|(show aA _ 328 _ _ _;refine CA (h:=Aag _ _ _ ?_)))
 all_goals first
  |(refine aC ?_;exact aB (kv hK (by unfold VP;rw[if_pos (Or.inl (by omega)),if_pos (by omega)])))
  |(refine aC ?_;exact aB (kv hK (by unfold VP;rw[if_pos (Or.inr (by assumption)),if_neg (by omega)])))
  |(refine aC ?_;exact aB (kv hK (by unfold VP;rw[if_neg (fun h=>h.elim (fun h=>by omega) (fun h=>absurd h (Int.not_lt.2 (by assumption))))])))
end
end Go.Proofs.YtifgibijcmppmaaGreat
section
namespace Go.Proofs.YtifgibijcmppmaaGreat
open Go Go.Proofs Go.Sl
attribute [local irreducible] aN fN cX bP aM aX aA dS dV aT dU pt ro eV star sep bH
variable {R C:List HP} {K:KP}
def xM (l t f s:Int):Int:=if l<0∨256<l then 6 else if t<0∨11<t∨s<0 then 1 else if(s=0∧¬(5≤t∧t≤10))∨(0<s∧¬(t≤4∨10≤t)) then 1 else if f≠0∧(f≠1∨1<t) then 1 else if t=5∧(l % 6≠0∨48<l) then 6 else if 0≤F6 t∧l≠F6 t then 6 else 0
theorem Afj {k:Int} (h0:0≤k) (h1:k≤1) (hK:K (.tuple #[.agg #[.bool false,.bool true,I6 (-1),I6 1],I6 0]) R):CT 297 #[I6 k] R K:=by
 refine Nm ?_
 rcases(by omega:k=0∨k=1) with rfl|rfl <;> exact hK
theorem Ahm {k:Int} (h0:2≤k) (h1:k≤11) (hK:K (.tuple #[.agg #[.bool (decide (5≤k) && decide (k≤10)),.bool (decide (k≤4) || decide (10≤k)),I6 (F6 k),I6 0],I6 0]) R):CT 297 #[I6 k] R K:=by
 refine Nm ?_
 obtain⟨e1,e2,e3,e4,e5⟩:=FY k (by omega) h1
 rw[e1,e2,e3,e4,e5,if_neg (by omega)]
 exact hK
theorem Afi {k:Int} (h0:k<0∨11<k) (hK:K (.tuple #[.agg #[.bool false,.bool false,I6 0,I6 0],I6 3]) R):CT 297 #[I6 k] R K:=by
 refine Nm ?_
 have e1:mO k=(false,false,0,0):=by unfold mO;rw[if_pos (by omega)]
 have e2:Dl k=3:=by unfold Dl;rw[if_pos (by omega)]
 rw[e1,e2]
 exact hK
def Vn (p:Nat) (l t f s:Int):HP:=pt p [I6 l,I6 t,I6 f,I6 s] 158
def I2 (t l long:Int):Bool:=decide ((t=5→(l % 6=0∧l≤48))∧(t≠5→(long<0∨l=long)))
theorem YW {p q:Nat} {l t f s long flags:Int} {z o:Bool} (h0:0≤l) (hK:K (.bool (I2 t l long)) (Vn p l t f s::pt q [.bool z,.bool o,I6 long,I6 flags] 341::R)):
  CT 329 #[PO p,PO q] (Vn p l t f s::pt q [.bool z,.bool o,I6 long,I6 flags] 341::R) K:=by
 unfold Vn at *
 refine aH Tryz.func329 ?_
 repeat' (first|refine v27 ?_|refine w5 ?_ ?_|((refine bh fun h=>?_) <;> try exact w6 h)|(refine aE fun hA=>?_;subst hA)|intro _)
 all_goals(refine aC ?_;exact aB (kb hK (by unfold I2;simp only[decide_eq_true_eq] <;> simp <;> omega)))
theorem vQ {l t f s:Int} (hf:-9223372036854775808≤f∧f≤9223372036854775807) (hK:K (I6 (xM l t f s)) R):CT 244 #[.agg #[I6 l,I6 t,I6 f,I6 s]] R K:=by
 have h5:t=5→F6 t=-1:=fun h=>by subst h;rfl
 have h1:t≤1→F6 t=-1:=fun h=>by unfold F6;rw[if_neg (by omega),if_neg (by omega),if_neg (by omega)]
 have c1:= @YW
 unfold Vn at c1
 rcases(by omega:(t<0∨11<t)∨(0≤t∧t≤1)∨(2≤t∧t≤11)) with h|h|h
 all_goals
  refine aH Tryz.func244 ?_
  repeat' (first|refine NJ ?_|refine w5 ?_ ?_|((refine bh fun h=>?_) <;> try exact w6 h)|(refine aE fun hA=>?_;subst hA)|intro _|(show aA _ 297 _ _ _;refine CA (h:=Afj (by omega) (by omega) ?_))|(show aA _ 297 _ _ _;refine CA (h:=Ahm (by omega) (by omega) ?_))|(show aA _ 297 _ _ _;refine CA (h:=Afi (by omega) ?_))|(show aA _ 329 _ _ _;refine CA (h:=c1 (by omega) ?_)))
  all_goals(try simp only[I2,decide_eq_true_eq,decide_eq_false_iff_not] at *)
  all_goals(refine aC ?_;exact aB (ki hK (by unfold xM;(repeat' split) <;> omega)))
end Go.Proofs.YtifgibijcmppmaaGreat
namespace Go.Proofs.YtifgibijcmppmaaGreat
open Go Go.Proofs Go.Sl
attribute [local irreducible] aN fN cX bP aM aX aA dS dV aT dU pt ro eV star sep bH
variable {R C:List HP} {K:KP}
def hgE (s:ByteArray):Int:=if s.size<9 then 5 else if 2147483647<xU s 5 9 then 6 else 0
def RL (s:ByteArray) (i j:Nat):Int:=if hgE s=0 then xU s i j else 0
def hgV (s:ByteArray):Value:=.tuple #[.agg #[I6 (RL s 0 3),I6 (RL s 3 4),I6 (RL s 4 5),I6 (RL s 5 9)],I6 (hgE s)]
theorem Ai2 (s:ByteArray):VP s=hgV s:=by
 unfold VP hgV RL hgE
 by_cases h:s.size<9
 ·simp[h]
 ·by_cases h2:2147483647<xU s 5 9
  ·simp[h,h2]
  ·simp[h,h2]
theorem YX {s:ByteArray} (hK:K (.tuple #[.agg #[I6 (RL s 0 3),I6 (RL s 3 4),I6 (RL s 4 5),I6 (RL s 5 9)],I6 (hgE s)]) R):CT 243 #[.string s] R K:=Aha (by rw[Ai2];exact hK)
def B7 (l t f s:Int):ByteArray:=rB l 3++rB t 1++rB f 1++rB s 4
theorem Ky {l t f s:Int} (h:hOk l t f s=true):(B7 l t f s).data.toList=wB l 3++wB t 1++wB f 1++wB s 4:=by
 unfold hOk at h
 simp only[Bool.and_eq_true,decide_eq_true_eq] at h
 unfold B7 rB
 rw[if_neg (by omega),if_neg (by omega),if_neg (by omega),if_neg (by omega)]
 simp
theorem Si:(256:Int) ^ (1:Nat)=256∧(256:Int) ^ (3:Nat)=16777216∧(256:Int) ^ (4:Nat)=4294967296:=by decide
theorem CG {n w:Int} (hw:0<w∧w≤4):(iR n w=0↔(0≤n∧n<256 ^ w.toNat)):=by
 constructor
 ·intro h;exact Ahq h hw.1
 ·intro h
  unfold iR
  have e:(2:Int) ^ (8 * w).toNat=256 ^ w.toNat:=by
   have:(8 * w).toNat=8 * w.toNat:=by omega
   rw[this,Int.pow_mul];rfl
  rw[e,Int.ediv_eq_zero_of_lt h.1 h.2,if_neg (by omega),if_neg (by omega)]
theorem Oa {l t f s:Int}:(hOk l t f s=true→K7 l t f s=B7 l t f s∧Kw l t f s=0)∧(hOk l t f s=false→K7 l t f s=⟨#[]⟩∧Kw l t f s=2):=by
 obtain⟨p1,p3,p4⟩:=Si
 have m1:=CG (n:=l) (w:=3) (by decide)
 have m2:=CG (n:=t) (w:=1) (by decide)
 have m3:=CG (n:=f) (w:=1) (by decide)
 have m4:=CG (n:=s) (w:=4) (by decide)
 rw[show(3:Int).toNat=3 from rfl,p3] at m1
 rw[show(1:Int).toNat=1 from rfl,p1] at m2 m3
 rw[show(4:Int).toNat=4 from rfl,p4] at m4
 have hf:eK (YD l t f s)=0↔(iR l 3=0∧iR t 1=0∧iR f 1=0∧iR s 4=0):=by
  unfold YD
  simp only[eK]
  by_cases h1:iR l 3=0 <;> by_cases h2:iR t 1=0 <;> by_cases h3:iR f 1=0 <;> by_cases h4:iR s 4=0 <;> simp[h1,h2,h3,h4]
 constructor
 ·intro h
  have hl:=Ky h
  unfold hOk at h
  simp only[Bool.and_eq_true,decide_eq_true_eq] at h
  have hz:eK (YD l t f s)=0:=hf.2 ⟨m1.2 (by omega),m2.2 (by omega),m3.2 (by omega),m4.2 (by omega)⟩
  have he:wP (YD l t f s)=0:=by
   unfold wP
   rw[if_pos hz,if_neg]
   have:Jy (YD l t f s) 0=9:=by
    unfold YD
    simp[Jy,jY] <;> decide
   omega
  unfold K7 Kw
  rw[if_neg (by omega),if_neg (by omega),if_pos he]
  refine⟨FF ?_,rfl⟩
  rw[hl,(Iq he).2.2.2]
  simp[kB,YD,QT]
 ·intro h
  unfold K7 Kw
  by_cases hs:2147483647<s
  ·rw[if_pos hs,if_pos hs];exact⟨rfl,rfl⟩
  ·rw[if_neg hs,if_neg hs]
   have he:¬wP (YD l t f s)=0:=by
    intro he
    obtain⟨a,b,c,d⟩:=hf.1 (Iq he).1
    rw[m1] at a
    rw[m2] at b
    rw[m3] at c
    rw[m4] at d
    unfold hOk at h
    simp at h
    omega
   rw[if_neg he,OA he]
   exact⟨rfl,rfl⟩
theorem Aa9 {l t f s:Int} (h:hOk l t f s=true) (hK:K (.tuple #[.string (B7 l t f s),I6 0]) R):CT 269 #[.agg #[I6 l,I6 t,I6 f,I6 s]] R K:=by
 refine Ahl ?_
 rw[(Oa.1 h).1,(Oa.1 h).2]
 exact hK
end Go.Proofs.YtifgibijcmppmaaGreat
end
