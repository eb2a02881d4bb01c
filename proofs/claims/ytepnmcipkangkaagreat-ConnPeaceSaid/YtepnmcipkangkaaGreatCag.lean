/- A part of the proof: lemmas; each with the conditions that it states. -/
import Derived.Test.YtepnmcipkangkaaGreatCaf
set_option linter.unusedVariables false
set_option linter.unusedSimpArgs false
set_option maxRecDepth 100000
set_option maxHeartbeats 40000000
section
namespace Go.Proofs.YtepnmcipkangkaaGreat
open Go Go.Proofs Go.Sl
attribute [local irreducible] aN fL cL bM aL aR aA dJ dK aU dI pt ro fC star sep bF
variable {R:List HP} {K:KP} {p:Nat} {s:ByteArray} {bad:Bool}
def eV (p:Nat) (s:ByteArray) (bad:Bool):HP:=pt p [.string s,.bool bad] 470
theorem Vf (s:ByteArray) (hK:∀r,K (PO r) (eV r s false::R)):CT 378 #[.string s] R K:=by
 refine aH Tryz.func378 ?_
 repeat' (first|refine v6 ?_|refine w5 ?_ ?_|((refine bh fun h=>?_) <;> try exact w6 h)|(refine aE fun hA=>?_;subst hA)|intro _)
 (refine aC ?_;exact aB (hK _))
theorem Acb (p:Nat) (s:ByteArray) (bad:Bool) (hK:K (.bool bad) (eV p s bad::R)):CT 380 #[PO p] (eV p s bad::R) K:=by
 unfold eV at *
 refine aH Tryz.func380 ?_
 repeat' (first|refine v23 ?_|refine w5 ?_ ?_|((refine bh fun h=>?_) <;> try exact w6 h)|(refine aE fun hA=>?_;subst hA)|intro _)
 (refine aC ?_;exact aB (hK))
theorem Mw (p:Nat) (s:ByteArray) (bad:Bool) (hK:K (I6 s.size) (eV p s bad::R)):CT 435 #[PO p] (eV p s bad::R) K:=by
 unfold eV at *
 refine aH Tryz.func435 ?_
 repeat' (first|refine v4 ?_|refine w5 ?_ ?_|((refine bh fun h=>?_) <;> try exact w6 h)|(refine aE fun hA=>?_;subst hA)|intro _)
 (refine aC ?_;exact aB (hK))
def mF (n:Int) (s:ByteArray) (bad:Bool):Bool:=!bad && decide (0<=n) && decide (n<=s.size)
def A7 (n:Int) (s:ByteArray) (bad:Bool):ByteArray:=match mF n s bad with
 |true=>s.extract 0 n.toNat
 |false=>⟨#[]⟩
def Er (n:Int) (s:ByteArray) (bad:Bool):ByteArray:=match mF n s bad with
 |true=>s.extract n.toNat s.size
 |false=>s
theorem WS {n:Int} (hK:K (.string (A7 n s bad)) (eV p (Er n s bad) (!mF n s bad)::R)):CT 433 #[PO p,I6 n] (eV p s bad::R) K:=by
 refine aH Tryz.func433 ?_
 repeat' (first|refine v62 ?_|refine w5 ?_ ?_|((refine bh fun h=>?_) <;> try exact w6 h)|(refine aE fun hA=>?_;subst hA)|intro _|(show aA _ 380 _ _ _;refine CA (h:=Acb _ _ _ ?_)))
 all_goals
  first
  |(have e:mF n s bad=false:=by(unfold mF;simp[*] <;> omega))
  |(have e:mF n s bad=true:=by(unfold mF;simp[*] <;> omega))
  simp only[A7,Er,e,Bool.not_true,Bool.not_false] at hK
  subst_vars
  (refine aC ?_;exact aB (hK))
theorem Ag7 (hK:K (.string (A7 s.size s bad)) (eV p (Er s.size s bad) (!mF s.size s bad)::R)):CT 434 #[PO p] (eV p s bad::R) K:=by
 refine aH Tryz.func434 ?_
 repeat' (first|refine v0 ?_|refine w5 ?_ ?_|((refine bh fun h=>?_) <;> try exact w6 h)|(refine aE fun hA=>?_;subst hA)|intro _|(show aA _ 435 _ _ _;refine CA (h:=Mw _ _ _ ?_))|(show aA _ 433 _ _ _;refine CA (h:=WS ?_)))
 (refine aC ?_;exact aB (hK))
end Go.Proofs.YtepnmcipkangkaaGreat
namespace Go.Proofs.YtepnmcipkangkaaGreat
open Go Go.Proofs Go.Sl
attribute [local irreducible] aN fL cL bM aL aR aA dJ dK aU dI pt ro fC star sep bF
variable {R:List HP} {K:KP}
def qB (l:List UInt8):Int:=l.foldl (fun u b=>u * 256+b.toNat) 0
theorem FT (l:List UInt8) (b:UInt8):qB (l++ [b])=qB l * 256+b.toNat:=by simp[qB]
theorem U3 (l:List UInt8):0<=qB l:=by
 have key:∀n (l:List UInt8),l.length=n->0<=qB l:=by
  intro n
  induction n with
  |zero=>intro l hl;rw[List.length_eq_zero_iff.1 hl];decide
  |succ n ih=>
   intro l hl
   have hne:l≠ []:=by intro h;rw[h] at hl;cases hl
   rw[<- List.dropLast_concat_getLast hne,FT]
   have:=ih l.dropLast (by simp[hl])
   omega
 exact key _ l rfl
theorem U7 (l:List UInt8):qB l<256 ^ l.length:=by
 have key:∀n (l:List UInt8),l.length=n->qB l<256 ^ n:=by
  intro n
  induction n with
  |zero=>intro l hl;rw[List.length_eq_zero_iff.1 hl];decide
  |succ n ih=>
   intro l hl
   have hne:l≠ []:=by intro h;rw[h] at hl;cases hl
   rw[<- List.dropLast_concat_getLast hne,FT]
   have:=ih l.dropLast (by simp[hl])
   have:=(l.getLast hne).toNat_lt
   rw[Int.pow_succ]
   omega
 exact key _ l rfl
theorem Adn (l:List UInt8) (h:l.length<=4):0<=qB l/\qB l<4294967296:=by
 refine⟨U3 l,Int.lt_of_lt_of_le (U7 l) ?_⟩
 have:(256:Int) ^ l.length<=256 ^ 4:=by exact_mod_cast Nat.pow_le_pow_right (by decide) h
 exact this
theorem YW (l:List UInt8) (j:Nat) (b:UInt8) (hb:l[j]?=some b):qB (l.take (j+1))=qB (l.take j) * 256+b.toNat:=by rw[List.take_add_one,hb];exact FT _ _
theorem Aqo {l:List UInt8} {j:Nat} (h:j<l.length):∃b,l[j]?=some b:=⟨_,List.getElem?_eq_getElem h⟩
def uW (n:Int):Int:=if n<1\/4<n then -1 else n
def uN (n:Int) (s:ByteArray) (bad:Bool):Int:=qB (A7 (uW n) s bad).data.toList
theorem W6 (n:Int) (s:ByteArray) (bad:Bool):(A7 n s bad).data.toList.length<=n.toNat:=by
 unfold A7
 split
 ·simp;omega
 ·simp
theorem Ang {Q:Exit->Fr->List HP->Prop} {a:Fr} {C:List HP} (u:ByteArray) (r N:Nat) (e:TypeId) (hu:u.data.toList.length<=4) (ha:dH a [(17,.slice (some ⟨r,0,none⟩) u.size N),(18,I6 u.size),(19,I6 0),(5,I6 0)])
  (hC:∃C',C=bT (some ⟨r,0,none⟩) N e eG u.data.toList::C') (hK:∀a,Q (.exit 0) (gJ a [(5,I6 (qB u.data.toList))]) C):fL Tryz.prog (TS Tryz.f379 0) Q a C:=by
 obtain⟨C',rfl⟩:=hC
 have hsz:u.data.toList.length=u.size:=by simp
 refine jA (fun m a C=>∃j,j+m=u.size/\C=bT (some ⟨r,0,none⟩) N e eG u.data.toList::C'/\dH a [(17,.slice (some ⟨r,0,none⟩) u.size N),(18,I6 u.size),(19,I6 (j:Nat)),(5,I6 (qB (u.data.toList.take j)))]) u.size
  (cJ u.size ⟨0,by omega,rfl,ha⟩) ?_
 rintro n a C ⟨j,hj,rfl,ha⟩
 refine i6 _ ha ?_
 simp only[gJ]
 have hb:=Adn (u.data.toList.take j) (by simp;omega)
 by_cases hlt:j<u.size
 ·obtain⟨b,hb⟩:=Aqo (l:=u.data.toList) (j:=j) (by omega)
  have hb2:=b.toNat_lt
  repeat' (first|refine w1 ?_|refine w5 ?_ ?_|((refine bh fun h=>?_) <;> try exact w6 h)|(refine aE fun hA=>?_;subst hA)|intro _)
  show aU _ _ _ _
  exact cJ (n - 1) ⟨j+1,by omega,rfl,rfl,rfl,rfl,by rw[YW _ _ _ hb];rfl,trivial⟩
 ·obtain rfl:j=u.size:=by omega
  repeat' (first|refine w1 ?_|refine w5 ?_ ?_|((refine bh fun h=>?_) <;> try exact w6 h)|(refine aE fun hA=>?_;subst hA)|intro _)
  exact WT (p:=fun a=>Q (.exit 0) a _) [(5,I6 (qB u.data.toList))] ⟨by rw[List.take_of_length_le (by omega)];rfl,trivial⟩ (hK _)
theorem Ap9 {p:Nat} {n:Int} {s:ByteArray} {bad:Bool} (hK:K (I6 (uN n s bad)) (eV p (Er (uW n) s bad) (!mF (uW n) s bad)::R)):CT 379 #[PO p,I6 n] (eV p s bad::R) K:=by
 unfold uN uW at hK
 refine aH Tryz.func379 ?_
 repeat' (first|refine v86 ?_|refine w5 ?_ ?_|((refine bh fun h=>?_) <;> try exact w6 h)|(refine aE fun hA=>?_;subst hA)|intro _|(show aA _ 433 _ _ _;refine CA (h:=WS ?_))|refine Ang _ _ _ _ ?_ ⟨rfl,rfl,rfl,rfl,trivial⟩ ⟨_,rfl⟩ (fun a=>?_))
 all_goals first
  |(rw[if_pos (by omega)] at hK;(refine aC ?_;exact aB (hK)))
  |(rw[if_neg (by omega)] at hK;(refine aC ?_;exact aB (hK)))
  |exact Nat.le_trans (W6 _ _ _) (by omega)
end Go.Proofs.YtepnmcipkangkaaGreat
end
namespace Go.Proofs.YtepnmcipkangkaaGreat
open Go Go.Proofs Go.Sl
attribute [local irreducible] aN fL cL bM aL aR aA dJ dK aU dI pt ro fC star sep bF
variable {R C:List HP} {K:KP} {j c b:Nat} {A:Option Addr}
structure Pc where
 n:Int
 w:Int
 s:ByteArray
def pcD:List Value->Option Pc
 | [.int .i64 n,.int .i64 w,.string s]=>some ⟨n,w,s⟩
 |_=>none
theorem Amt (cs:List Value) (y:Pc) (h:pcD cs=some y): [I6 y.n,I6 y.w,.string y.s]=cs:=by
 unfold pcD at h
 split at h
 ·cases h;rfl
 ·cases h
def pcC:u6 Pc:= { enc:=fun p=> [I6 p.n,I6 p.w,.string p.s],sz:=3,dec:=pcD,len:=fun _=>rfl,one:=fun _=>rfl,ok:=Amt }
def jE (n w:Int):Int:=if w<0\/4<w then 2 else if 0<w/\(n<0\/0<n / 2 ^ (8 * w).toNat) then 3 else 0
def lD (w:Int) (s:ByteArray):Int:=if w=0 then s.size else if w<0\/4<w then 0 else w
def wB (n w:Int):List UInt8:=(List.range w.toNat).map fun(i:Nat)=>Ix (n / 2 ^ (8 * (w - 1 - (i:Int))).toNat)
def Qn (n w:Int) (s:ByteArray):List UInt8:=(if w=0 then s.data.toList else [])++wB n w
theorem Abl {n w:Int} (hK:K (.agg #[I6 n,I6 w,.string ⟨#[]⟩]) R):CT 367 #[I6 n,I6 w] R K:=by
 refine aH Tryz.func367 ?_
 repeat' (first|refine v5 ?_|refine w5 ?_ ?_|((refine bh fun h=>?_) <;> try exact w6 h)|(refine aE fun hA=>?_;subst hA)|intro _)
 (refine aC ?_;exact aB (hK))
theorem Aqn {s:ByteArray} (hK:K (.agg #[I6 0,I6 0,.string s]) R):CT 377 #[.string s] R K:=by
 refine aH Tryz.func377 ?_
 repeat' (first|refine v5 ?_|refine w5 ?_ ?_|((refine bh fun h=>?_) <;> try exact w6 h)|(refine aE fun hA=>?_;subst hA)|intro _)
 (refine aC ?_;exact aB (hK))
theorem Ami {n w:Int} {s:ByteArray} (hK:K (I6 (jE n w)) R):CT 430 #[.agg #[I6 n,I6 w,.string s]] R K:=by
 refine aH Tryz.func430 ?_
 repeat' (first|refine v56 ?_|refine w5 ?_ ?_|((refine bh fun h=>?_) <;> try exact w6 h)|(refine aE fun hA=>?_;subst hA)|intro _)
 all_goals(refine aC ?_;exact aB (ki hK (by unfold jE;(repeat' split) <;> first|rfl|omega|(exfalso;omega)|simp_all)))
theorem Abt {n w:Int} {s:ByteArray} (hK:K (I6 (lD w s)) R):CT 447 #[.agg #[I6 n,I6 w,.string s]] R K:=by
 refine aH Tryz.func447 ?_
 repeat' (first|refine v23 ?_|refine w5 ?_ ?_|((refine bh fun h=>?_) <;> try exact w6 h)|(refine aE fun hA=>?_;subst hA)|intro _)
 all_goals(refine aC ?_;exact aB (ki hK (by unfold lD;(repeat' split) <;> first|rfl|omega|(exfalso;omega)|simp_all)))
def Kk:List Pc->Int->Int
 | [],n=>n
 |p::l,n=>if 4096<n+min (lD p.w p.s) 4097 then 4097 else Kk l (n+min (lD p.w p.s) 4097)
theorem FF (w:Int) (s:ByteArray):0<=lD w s:=by unfold lD;(repeat' split) <;> first|rfl|omega|(exfalso;omega)|simp_all
theorem lS {α:Type} {l:List α} (h:j<l.length):∃x,l[j]?=some x/\l.drop j=x::l.drop (j+1):=⟨l[j],List.getElem?_eq_getElem h,List.drop_eq_getElem_cons h⟩
theorem Ahp {n:Nat} {ps:List Pc} (hv:dW C A pcC ps) (hn:ps.length=n) (hn2:n<1000000000000000) (hK:K (I6 (Kk ps 0)) C):CT 431 #[.slice A n c] C K:=by
 refine aH Tryz.func431 ?_
 repeat' (first|refine v55 ?_|refine w5 ?_ ?_|((refine bh fun h=>?_) <;> try exact w6 h)|(refine aE fun hA=>?_;subst hA)|intro _)
 refine jA (fun m a C'=>∃(j:Nat) (t:Int),j+m=n/\C'=C/\0<=t/\t<=4096/\Kk ps 0=Kk (ps.drop j) t/\dH a [(6,.slice A n c),(7,I6 n),(8,I6 j),(3,I6 t)]) n (cJ n ⟨0,0,by omega,rfl,by omega,by omega,rfl,rfl,rfl,rfl,rfl,trivial⟩) ?_
 rintro n1 a C' ⟨j,t,hj,rfl,h0,h1,hs,ha⟩
 refine i6 _ ha ?_
 simp only[gJ]
 by_cases hlt:j<n
 ·obtain⟨p,hp,hd⟩:=lS (l:=ps) (j:=j) (by omega)
  have hnn:=FF p.w p.s
  rw[hd,Kk] at hs
  repeat' (first|refine v55 ?_|refine w5 ?_ ?_|((refine bh fun h=>?_) <;> try exact w6 h)|(refine aE fun hA=>?_;subst hA)|intro _|(show aA _ 447 _ _ _;refine CA (h:=Abt ?_)))
  ·rw[if_pos (by assumption)] at hs
   (refine aC ?_;exact aB (ki hK hs))
  ·rw[if_neg (by omega)] at hs
   exact cJ (n1 - 1) ⟨j+1,_,by omega,rfl,by omega,by omega,hs,rfl,rfl,rfl,rfl,trivial⟩
 ·obtain rfl:j=n:=by omega
  repeat' (first|refine v55 ?_|refine w5 ?_ ?_|((refine bh fun h=>?_) <;> try exact w6 h)|(refine aE fun hA=>?_;subst hA)|intro _)
  (refine aC ?_;exact aB (ki hK (by rw[hs,List.drop_eq_nil_of_le (by omega)];rfl)))
def Ye (b:Nat) (bs:List UInt8):HP:=fC fun A=>fC fun c=>sep (pt b [.slice A bs.length c] 187) (bT A c 5 eG bs)
theorem Alb (n w:Int) (j:Nat) (h:(j:Int)<w):(wB n w).take (j+1)=(wB n w).take j++ [Ix (n / 2 ^ (8 * (w - 1 - (j:Int))).toNat)]:=by
 unfold wB
 rw[List.take_add_one,List.getElem?_map,List.getElem?_range (by omega)]
 rfl
theorem lG (n w:Int):(wB n w).length=w.toNat:=by simp[wB]
theorem OZ {Q:Exit->Fr->List HP->Prop} {a:Fr} {r:Nat} {n w:Int} {s:ByteArray} (bs:List UInt8) (hw:0<=w/\w<=4) (hl:bs.length<2000000000000) (hE:aG C (Ye b bs::pt r [I6 n,I6 w,.string s] 423::R))
  (ha:dH a [(1,PO b),(2,PO r),(12,I6 w),(13,I6 0)]) (hK:∀a C',aG C' (Ye b (bs++wB n w)::R)->Q (.exit 0) a C'):fL Tryz.prog (TS Tryz.f432 0) Q a C:=by
 refine o7 hE ?_
 have hwl:=lG n w
 refine jA (fun m a C=>∃j:Nat,(j:Int)+m=w/\C=Ye b (bs++(wB n w).take j)::pt r [I6 n,I6 w,.string s] 423::R/\dH a [(1,PO b),(2,PO r),(12,I6 w),(13,I6 j)])
  w.toNat (cJ w.toNat ⟨0,by omega,by rw[List.take_zero,List.append_nil],ha⟩) ?_
 rintro m a C ⟨j,hj,rfl,ha⟩
 refine i6 _ ha ?_
 simp only[gJ]
 have hle:(bs++(wB n w).take j).length<2000000000010:=by rw[List.length_append,List.length_take];omega
 by_cases hlt:(j:Int)<w
 ·have ht:=Alb n w j hlt
  refine xL fun A=>xL fun c=>HA ?_
  repeat' (first|refine w1 ?_|refine w5 ?_ ?_|((refine bh fun h=>?_) <;> try exact w6 h)|(refine aE fun hA=>?_;subst hA)|intro _)
  refine cJ (m - 1) ⟨j+1,by omega,rfl,rfl,rfl,rfl,rfl,trivial⟩ (by omega) ?_
  rw[ht,<- List.append_assoc]
  exact aY
 ·have:j=w.toNat:=by omega
  subst this
  repeat' (first|refine w1 ?_|refine w5 ?_ ?_|((refine bh fun h=>?_) <;> try exact w6 h)|(refine aE fun hA=>?_;subst hA)|intro _)
  refine hK _ _ ?_
  rw[List.take_of_length_le (by omega)]
  exact aY
def Ai:List (Nat×Nat):= [(1,0),(2,0),(3,0),(4,0),(5,0),(6,0),(7,0),(8,0),(9,0),(10,0),(11,1),(0,1),(12,1),(13,1)]
theorem Amq {n w:Int} {s:ByteArray} {bs:List UInt8} (hw:0<=w/\w<=4) (hl:bs.length+(Qn n w s).length<1000000000000) (hK:K (.tuple #[]) (Ye b (bs++Qn n w s)::R)):
  CT 432 #[.agg #[I6 n,I6 w,.string s],PO b] (Ye b bs::R) K:=by
 have hs:s.data.toList.length=s.size:=by simp
 by_cases h0:w=0
 ·subst h0
  simp only[Qn,if_true,List.length_append] at hl
  simp only[Qn,if_true,<- List.append_assoc] at hK
  refine aA.ex fun A=>aA.ex fun c=>aA.sep ?_
  refine aH Tryz.func432 ?_
  repeat' (first|refine v91 ?_|refine dw Ai ?_|refine w5 ?_ ?_|((refine bh fun h=>?_) <;> try exact w6 h)|(refine aE fun hA=>?_;subst hA)|intro _|refine OZ (R:=R) (n:=n) (w:=0) (s:=s) (bs++s.data.toList) (by omega) (by simp;omega) (by exact aY) ⟨rfl,rfl,rfl,rfl,trivial⟩ (fun a C' hE=>?_))
  refine aC ?_
  exact aM hE hK
 ·simp only[Qn,h0,if_false,List.nil_append] at hK
  refine aH Tryz.func432 ?_
  repeat' (first|refine v91 ?_|refine dw Ai ?_|refine w5 ?_ ?_|((refine bh fun h=>?_) <;> try exact w6 h)|(refine aE fun hA=>?_;subst hA)|intro _|refine OZ (R:=R) (n:=n) (w:=w) (s:=s) bs (by omega) (by omega) (by exact aY) ⟨rfl,rfl,rfl,rfl,trivial⟩ (fun a C' hE=>?_))
  refine aC ?_
  exact aM hE hK
def eO:List Pc->Int
 | []=>0
 |p::l=>if jE p.n p.w=0 then eO l else jE p.n p.w
def lK (ps:List Pc):List UInt8:=ps.flatMap fun p=>Qn p.n p.w p.s
theorem Bi {p:Pc} {l:List Pc} (h:eO (p::l)=0):jE p.n p.w=0/\eO l=0:=by
 unfold eO at h
 split at h
 ·exact⟨by assumption,h⟩
 ·rename_i h';exact absurd h h'
theorem EF {n w:Int} (h:jE n w=0):0<=w/\w<=4:=by
 unfold jE at h
 split at h
 ·cases h
 ·omega
theorem Ob {n w:Int} {s:ByteArray} (h:0<=w/\w<=4):((Qn n w s).length:Int)=lD w s:=by
 unfold Qn lD
 rw[List.length_append,lG]
 split
 ·subst_vars;simp
 ·rw[if_neg (by omega)];simp;omega
theorem Un:∀(ps:List Pc) (n:Int),0<=n->eO ps=0->Kk ps n<=4096->n+(lK ps).length=Kk ps n
 | [],n,_,_,_=>by simp[Kk,lK]
 |p::l,n,h0,he,h=>by
  obtain⟨h1,h2⟩:=Bi he
  have hl:=Ob (n:=p.n) (s:=p.s) (EF h1)
  unfold Kk at h ⊢
  split at h
  ·omega
  ·rename_i h3
   rw[if_neg h3]
   have hnn:=FF p.w p.s
   have:=Un l (n+min (lD p.w p.s) 4097) (by omega) h2 h
   have hle:n+min (lD p.w p.s) 4097<=Kk l (n+min (lD p.w p.s) 4097):=by rw[<- this];omega
   rw[<- this]
   simp only[lK,List.flatMap_cons,List.length_append]
   have:min (lD p.w p.s) 4097=lD p.w p.s\/4097<=lD p.w p.s:=by omega
   have hc:((List.flatMap (fun p=>Qn p.n p.w p.s) l).length:Int)=(lK l).length:=rfl
   omega
def yZ (ps:List Pc):Int:=if eO ps=0 then(if 4096<Kk ps 0 then 4 else 0) else eO ps
def wN (ps:List Pc):ByteArray:=if yZ ps=0 then⟨(lK ps).toArray⟩ else⟨#[]⟩
theorem GN {ps:List Pc} {p:Pc} (h:ps.drop j=p::ps.drop (j+1)):eO (ps.drop j)=if jE p.n p.w=0 then eO (ps.drop (j+1)) else jE p.n p.w:=by rw[h];rfl
theorem TZ {n:Nat} {ps:List Pc} (hv:dW C A pcC ps) (hn:ps.length=n) (hn2:n<1000000000000000) (hK:K (.tuple #[.string (wN ps),I6 (yZ ps)]) C):CT 366 #[.slice A n c] C K:=by
 have hz0:=Un ps 0 (by omega)
 refine aH Tryz.func366 ?_
 repeat' (first|refine v74 ?_|refine w5 ?_ ?_|((refine bh fun h=>?_) <;> try exact w6 h)|(refine aE fun hA=>?_;subst hA)|intro _)
 refine jA (fun m a C'=>∃(j:Nat),j+m=n/\C'=C/\eO ps=eO (ps.drop j)/\dH a [(0,.slice A n c),(11,.slice A n c),(12,I6 n),(13,I6 j)]) n (cJ n ⟨0,by omega,rfl,rfl,rfl,rfl,rfl,rfl,trivial⟩) ?_
 rintro n1 a C' ⟨j,hj,rfl,hs,ha⟩
 refine i6 _ ha ?_
 simp only[gJ]
 by_cases hlt:j<n
 ·obtain⟨p,hp,hd⟩:=lS (l:=ps) (j:=j) (by omega)
  rw[GN hd] at hs
  repeat' (first|refine v74 ?_|refine w5 ?_ ?_|((refine bh fun h=>?_) <;> try exact w6 h)|(refine aE fun hA=>?_;subst hA)|intro _|(show aA _ 430 _ _ _;refine CA (h:=Ami ?_)))
  ·have h:jE p.n p.w≠0:=by assumption
   rw[if_neg h] at hs
   have he:yZ ps=jE p.n p.w:=by unfold yZ;rw[if_neg (by rw[hs];exact h),hs]
   have hb:wN ps=⟨#[]⟩:=by unfold wN;rw[if_neg (by rw[he];exact h)]
   rw[he,hb] at hK
   (refine aC ?_;exact aB (hK))
  ·have h:jE p.n p.w=0:=by assumption
   rw[if_pos h] at hs
   exact cJ (n1 - 1) ⟨j+1,by omega,rfl,hs,rfl,rfl,rfl,rfl,trivial⟩
 ·obtain rfl:j=n:=by omega
  rw[List.drop_eq_nil_of_le (by omega)] at hs
  have hs0:eO ps=0:=hs
  repeat' (first|refine v74 ?_|refine w5 ?_ ?_|((refine bh fun h=>?_) <;> try exact w6 h)|(refine aE fun hA=>?_;subst hA)|intro _|(show aA _ 431 _ _ _;refine CA (h:=Ahp (by assumption) (by assumption) (by omega) ?_)))
  ·have h:4096<Kk ps 0:=by assumption
   have he:yZ ps=4:=by unfold yZ;rw[if_pos hs0,if_pos h]
   have hb:wN ps=⟨#[]⟩:=by unfold wN;rw[if_neg (by rw[he];decide)]
   rw[he,hb] at hK
   (refine aC ?_;exact aB (hK))
  ·rename_i b
   have h:Kk ps 0<=4096:=by assumption
   have hz:=hz0 hs0 h
   have he:yZ ps=0:=by unfold yZ;rw[if_pos hs0,if_neg (by omega)]
   have hb:wN ps=⟨(lK ps).toArray⟩:=by unfold wN;rw[if_pos he]
   rw[he,hb] at hK
   refine jA (fun m a C2=>∃(i:Nat),i+m=j/\C2=Ye b (lK (ps.take i))::C'/\eO (ps.drop i)=0/\dH a [(7,PO b),(8,.func (.func 432) #[] #[PO b]),(27,.slice A j c),(28,I6 j),(29,I6 i)]) j (cJ j ⟨0,by omega,rfl,hs0,rfl,rfl,rfl,rfl,rfl,trivial⟩) ?_
   rintro n2 a C2 ⟨i,hi,rfl,hf,ha⟩
   refine i6 _ ha ?_
   simp only[gJ]
   by_cases hlt:i<j
   ·obtain⟨p,hp,hd⟩:=lS (l:=ps) (j:=i) (by omega)
    rw[GN hd] at hf
    split at hf
    ·rename_i hm
     have htk:lK (ps.take (i+1))=lK (ps.take i)++Qn p.n p.w p.s:=by
      rw[List.take_add_one,hp];simp[lK]
     have hle:((lK (ps.take (i+1))).length:Int)<=(lK ps).length:=by
      have:lK ps=lK (ps.take (i+1))++lK (ps.drop (i+1)):=by
       unfold lK;rw[<- List.flatMap_append,List.take_append_drop]
      rw[this,List.length_append];omega
     have hpl:=Ob (n:=p.n) (s:=p.s) (EF hm)
     have hss:p.w=0->lD p.w p.s=p.s.size:=fun h0=>by unfold lD;rw[if_pos h0]
     rw[htk,List.length_append] at hle
     repeat' (first|refine v74 ?_|refine w5 ?_ ?_|((refine bh fun h=>?_) <;> try exact w6 h)|(refine aE fun hA=>?_;subst hA)|intro _|(show aA _ 432 _ _ _;refine CA (h:=Amq (EF hm) (by omega) ?_)))
     exact cJ (n2 - 1) ⟨i+1,by omega,by rw[htk],hf,rfl,rfl,rfl,rfl,rfl,trivial⟩
    ·rename_i h1;exact absurd hf h1
   ·obtain rfl:i=j:=by omega
    rw[List.take_of_length_le (by omega)]
    refine xL fun A=>xL fun c=>HA ?_
    repeat' (first|refine v74 ?_|refine w5 ?_ ?_|((refine bh fun h=>?_) <;> try exact w6 h)|(refine aE fun hA=>?_;subst hA)|intro _)
    (refine aC ?_;exact aB (hK))
theorem I9 {ps:List Pc} (h:yZ ps=0):eO ps=0/\Kk ps 0=(wN ps).size/\(wN ps).size<=4096/\(wN ps).data.toList=lK ps:=by
 have h1:eO ps=0:=by
  by_cases h2:eO ps=0
  ·exact h2
  ·unfold yZ at h;rw[if_neg h2] at h;exact h
 have h2:Kk ps 0<=4096:=by
  unfold yZ at h;rw[if_pos h1] at h
  split at h
  ·cases h
  ·omega
 have h3:=Un ps 0 (by omega) h1 h2
 have h4:wN ps=⟨(lK ps).toArray⟩:=by unfold wN;rw[if_pos h]
 have h5:(wN ps).size=(lK ps).length:=by rw[h4];simp[ByteArray.size]
 exact⟨h1,by omega,by omega,by rw[h4]⟩
theorem Q9 {ps:List Pc} (h:¬yZ ps=0):wN ps=⟨#[]⟩:=by unfold wN;rw[if_neg h]
end Go.Proofs.YtepnmcipkangkaaGreat
namespace Go.Proofs.YtepnmcipkangkaaGreat
open Go Go.Proofs Go.Sl
theorem XU (b:UInt8) (l:List UInt8):qB (b::l)=b.toNat * 256 ^ l.length+qB l:=by
 have key:∀(l:List UInt8) (u:Int),l.foldl (fun u b=>u * 256+(b.toNat:Int)) u=u * 256 ^ l.length+qB l:=by
  intro l
  induction l with
  |nil=>intro u;simp[qB]
  |cons c l ih=>
   intro u
   have h2:qB (c::l)=l.foldl (fun u b=>u * 256+(b.toNat:Int)) (0 * 256+c.toNat):=rfl
   rw[List.foldl_cons,ih,h2,ih,List.length_cons,Int.pow_succ,Int.add_mul,Int.zero_mul,Int.zero_add,Int.mul_assoc,Int.mul_comm 256,Int.add_assoc]
 have:=key l b.toNat
 show l.foldl (fun u b=>u * 256+(b.toNat:Int)) (0 * 256+b.toNat)=_
 rw[Int.zero_mul,Int.zero_add,this]
theorem Zz (n:Int):((Ix n).toNat:Int)=n % 256:=by
 have:=Ph n
 unfold l9 at this
 injection this
theorem All (n:Int) (k:Nat):wB n (k+1:Nat)=Ix (n / 2 ^ (8 * k))::wB n (k:Nat):=by
 unfold wB
 rw[Int.toNat_natCast,Int.toNat_natCast,List.range_succ_eq_map,List.map_cons,List.map_map]
 have e1:(8 * (((k+1:Nat):Int) - 1 - ((0:Nat):Int))).toNat=8 * k:=by omega
 rw[e1]
 congr 1
 apply List.map_congr_left
 intro i hi
 simp only[Function.comp]
 have e2:(8 * (((k+1:Nat):Int) - 1 - ((i.succ:Nat):Int))).toNat=(8 * ((k:Int) - 1 - (i:Int))).toNat:=by omega
 rw[e2]
theorem ZU (n:Int):∀k:Nat,qB (wB n (k:Nat))=n % 256 ^ k
 |0=>by simp[wB,qB] <;> omega
 |k+1=>by
  rw[All,XU,ZU n k,lG,Zz,Int.toNat_natCast]
  have e:(2:Int) ^ (8 * k)=256 ^ k:=by rw[Int.pow_mul];rfl
  rw[e,Int.pow_succ]
  have hq:(0:Int)<256 ^ k:=Int.pow_pos (by decide)
  generalize (256:Int) ^ k=q at *
  have h1:=Int.emod_def n q
  have h2:=Int.emod_def (n / q) 256
  have h3:=Int.emod_def n (q * 256)
  rw[Int.ediv_ediv_of_nonneg (by omega)] at h2
  rw[h1,h2,h3,Int.sub_mul,Int.mul_comm (n / q) q]
  have h4:256 * (n / (q * 256)) * q=q * 256 * (n / (q * 256)):=by rw[Int.mul_comm q 256,Int.mul_assoc,Int.mul_assoc,Int.mul_comm q]
  rw[h4]
  omega
theorem Gt (s:ByteArray):s.toList=s.data.toList:=by
 exact ByteArray.toList_eq s
end Go.Proofs.YtepnmcipkangkaaGreat
namespace Go.Proofs.YtepnmcipkangkaaGreat
open Go Go.Proofs Go.Sl
attribute [local irreducible] aN fL cL bM aL aR aA dJ dK aU dI pt ro fC star sep bF
variable {R C:List HP} {K:KP} {s:ByteArray} {n:Int} {p:Nat} {bad:Bool}
theorem Gc {t:ByteArray} (h:s.data.toList=t.data.toList):s=t:=by
 apply ByteArray.ext;exact Array.toList_inj.1 h
theorem Aim {w:Int} (h:jE n w=0) (hw:0<w):0<=n/\n<256 ^ w.toNat:=by
 have h4:=EF h
 have h2:0<=n/\¬0<n / 2 ^ (8 * w).toNat:=by
  unfold jE at h
  split at h
  ·cases h
  ·split at h
   ·cases h
   ·omega
 refine⟨h2.1,?_⟩
 have e:(2:Int) ^ (8 * w).toNat=256 ^ w.toNat:=by
  have:(8 * w).toNat=8 * w.toNat:=by omega
  rw[this,Int.pow_mul];rfl
 rw[e] at h2
 have hq:(0:Int)<256 ^ w.toNat:=Int.pow_pos (by decide)
 generalize (256:Int) ^ w.toNat=q at *
 have h3:=Int.emod_lt_of_pos n hq
 have h4:=Int.emod_def n q
 have h5:n / q=0:=by
  have:0<=n / q:=Int.ediv_nonneg h2.1 (by omega)
  omega
 rw[h5] at h4
 omega
theorem Adc (h:mF s.size s bad=true) (hK:K (.string (A7 s.size s bad)) (eV p (Er s.size s bad) false::R)):CT 434 #[PO p] (eV p s bad::R) K:=by
 refine Ag7 ?_
 rw[h];exact hK
theorem Aqd (h:mF (uW n) s bad=true) (hK:K (I6 (uN n s bad)) (eV p (Er (uW n) s bad) false::R)):CT 379 #[PO p,I6 n] (eV p s bad::R) K:=by
 refine Ap9 ?_
 rw[h];exact hK
theorem Aly (h:mF (uW n) s bad=false) (hK:K (I6 0) (eV p s true::R)):CT 379 #[PO p,I6 n] (eV p s bad::R) K:=by
 refine Ap9 ?_
 unfold uN A7 Er
 rw[h];exact hK
theorem Wo {at_:Int} (h0:0<=at_) (h1:0<=n) (h2:at_+n<=s.size):mF n (s.extract at_.toNat s.size) false=true/\A7 n (s.extract at_.toNat s.size) false=s.extract at_.toNat (at_+n).toNat/\Er n (s.extract at_.toNat s.size) false=s.extract (at_+n).toNat s.size:=by
 have hok:mF n (s.extract at_.toNat s.size) false=true:=by
  unfold mF
  simp
  omega
 refine⟨hok,?_,?_⟩
 ·unfold A7
  rw[hok]
  apply Gc
  simp
  congr 1
  omega
 ·unfold Er
  rw[hok]
  apply Gc
  simp
  have e:at_.toNat+n.toNat=(at_+n).toNat:=by omega
  rw[e]
  congr 1
  omega
theorem Alr {u:ByteArray} (h:bad=true\/n<0\/u.size<n):mF n u bad=false:=by
 unfold mF
 rcases h with rfl|h|h
 ·rfl
 ·simp;intro;omega
 ·simp;intro;omega
def rB (n w:Int):ByteArray:=if n<0 then⟨#[]⟩ else⟨(wB n w).toArray⟩
end Go.Proofs.YtepnmcipkangkaaGreat
