/- A part of the proof: lemmas; each with the conditions that it states. -/
import Derived.Test.YtepnmcipkangkaaGreatPaf
set_option linter.unusedVariables false
set_option linter.unusedSimpArgs false
set_option maxRecDepth 100000
set_option maxHeartbeats 40000000
section
namespace Go.Proofs.YtepnmcipkangkaaGreat
open Go Go.Proofs Go.Sl
attribute [local irreducible] aN fJ cY bN aM aS aA dM dN aV dL pt ro fB star sep bF
variable {R:List HP} {K:KP} {p:Nat} {s:ByteArray} {bad:Bool}
def eU (p:Nat) (s:ByteArray) (bad:Bool):HP:=pt p [.string s,.bool bad] 470
theorem Vn (s:ByteArray) (hK:∀r,K (PO r) (eU r s false::R)):CT 378 #[.string s] R K:=by
 refine aH Tryz.func378 ?_
 repeat' (first|refine v6 ?_|refine w5 ?_ ?_|((refine bh fun h=>?_) <;> try exact w6 h)|(refine aE fun hA=>?_;subst hA)|intro _)
 (refine aC ?_;exact aB (hK _))
theorem Aa4 (p:Nat) (s:ByteArray) (bad:Bool) (hK:K (.bool bad) (eU p s bad::R)):CT 380 #[PO p] (eU p s bad::R) K:=by
 unfold eU at *
 refine aH Tryz.func380 ?_
 repeat' (first|refine v23 ?_|refine w5 ?_ ?_|((refine bh fun h=>?_) <;> try exact w6 h)|(refine aE fun hA=>?_;subst hA)|intro _)
 (refine aC ?_;exact aB (hK))
theorem Oo (p:Nat) (s:ByteArray) (bad:Bool) (hK:K (I6 s.size) (eU p s bad::R)):CT 435 #[PO p] (eU p s bad::R) K:=by
 unfold eU at *
 refine aH Tryz.func435 ?_
 repeat' (first|refine v4 ?_|refine w5 ?_ ?_|((refine bh fun h=>?_) <;> try exact w6 h)|(refine aE fun hA=>?_;subst hA)|intro _)
 (refine aC ?_;exact aB (hK))
def l5 (n:Int) (s:ByteArray) (bad:Bool):Bool:=!bad && decide (0<=n) && decide (n<=s.size)
def AS (n:Int) (s:ByteArray) (bad:Bool):ByteArray:=match l5 n s bad with
 |true=>s.extract 0 n.toNat
 |false=>⟨#[]⟩
def Fz (n:Int) (s:ByteArray) (bad:Bool):ByteArray:=match l5 n s bad with
 |true=>s.extract n.toNat s.size
 |false=>s
theorem VP {n:Int} (hK:K (.string (AS n s bad)) (eU p (Fz n s bad) (!l5 n s bad)::R)):CT 433 #[PO p,I6 n] (eU p s bad::R) K:=by
 refine aH Tryz.func433 ?_
 repeat' (first|refine v62 ?_|refine w5 ?_ ?_|((refine bh fun h=>?_) <;> try exact w6 h)|(refine aE fun hA=>?_;subst hA)|intro _|(show aA _ 380 _ _ _;refine CA (h:=Aa4 _ _ _ ?_)))
 all_goals
  first
  |(have e:l5 n s bad=false:=by(unfold l5;simp[*] <;> omega))
  |(have e:l5 n s bad=true:=by(unfold l5;simp[*] <;> omega))
  simp only[AS,Fz,e,Bool.not_true,Bool.not_false] at hK
  subst_vars
  (refine aC ?_;exact aB (hK))
theorem Ah0 (hK:K (.string (AS s.size s bad)) (eU p (Fz s.size s bad) (!l5 s.size s bad)::R)):CT 434 #[PO p] (eU p s bad::R) K:=by
 refine aH Tryz.func434 ?_
 repeat' (first|refine v0 ?_|refine w5 ?_ ?_|((refine bh fun h=>?_) <;> try exact w6 h)|(refine aE fun hA=>?_;subst hA)|intro _|(show aA _ 435 _ _ _;refine CA (h:=Oo _ _ _ ?_))|(show aA _ 433 _ _ _;refine CA (h:=VP ?_)))
 (refine aC ?_;exact aB (hK))
end Go.Proofs.YtepnmcipkangkaaGreat
namespace Go.Proofs.YtepnmcipkangkaaGreat
open Go Go.Proofs Go.Sl
attribute [local irreducible] aN fJ cY bN aM aS aA dM dN aV dL pt ro fB star sep bF
variable {R:List HP} {K:KP}
def rC (l:List UInt8):Int:=l.foldl (fun u b=>u * 256+b.toNat) 0
theorem Gj (l:List UInt8) (b:UInt8):rC (l++ [b])=rC l * 256+b.toNat:=by simp[rC]
theorem VV (l:List UInt8):0<=rC l:=by
 have key:∀n (l:List UInt8),l.length=n->0<=rC l:=by
  intro n
  induction n with
  |zero=>intro l hl;rw[List.length_eq_zero_iff.1 hl];decide
  |succ n ih=>
   intro l hl
   have hne:l≠ []:=by intro h;rw[h] at hl;cases hl
   rw[<- List.dropLast_concat_getLast hne,Gj]
   have:=ih l.dropLast (by simp[hl])
   omega
 exact key _ l rfl
theorem WZ (l:List UInt8):rC l<256 ^ l.length:=by
 have key:∀n (l:List UInt8),l.length=n->rC l<256 ^ n:=by
  intro n
  induction n with
  |zero=>intro l hl;rw[List.length_eq_zero_iff.1 hl];decide
  |succ n ih=>
   intro l hl
   have hne:l≠ []:=by intro h;rw[h] at hl;cases hl
   rw[<- List.dropLast_concat_getLast hne,Gj]
   have:=ih l.dropLast (by simp[hl])
   have:=(l.getLast hne).toNat_lt
   rw[Int.pow_succ]
   omega
 exact key _ l rfl
theorem Aby (l:List UInt8) (h:l.length<=4):0<=rC l/\rC l<4294967296:=by
 refine⟨VV l,Int.lt_of_lt_of_le (WZ l) ?_⟩
 have:(256:Int) ^ l.length<=256 ^ 4:=by exact_mod_cast Nat.pow_le_pow_right (by decide) h
 exact this
theorem X5 (l:List UInt8) (j:Nat) (b:UInt8) (hb:l[j]?=some b):rC (l.take (j+1))=rC (l.take j) * 256+b.toNat:=by rw[List.take_add_one,hb];exact Gj _ _
theorem Aqd {l:List UInt8} {j:Nat} (h:j<l.length):∃b,l[j]?=some b:=⟨_,List.getElem?_eq_getElem h⟩
def uW (n:Int):Int:=if n<1\/4<n then -1 else n
def uN (n:Int) (s:ByteArray) (bad:Bool):Int:=rC (AS (uW n) s bad).data.toList
theorem Yf (n:Int) (s:ByteArray) (bad:Bool):(AS n s bad).data.toList.length<=n.toNat:=by
 unfold AS
 split
 ·simp;omega
 ·simp
theorem Amr {Q:Exit->Fr->List HP->Prop} {a:Fr} {C:List HP} (u:ByteArray) (r N:Nat) (e:TypeId) (hu:u.data.toList.length<=4) (ha:dP a [(17,.slice (some ⟨r,0,none⟩) u.size N),(18,I6 u.size),(19,I6 0),(5,I6 0)])
  (hC:∃C',C=bV (some ⟨r,0,none⟩) N e dT u.data.toList::C') (hK:∀a,Q (.exit 0) (gH a [(5,I6 (rC u.data.toList))]) C):fJ Tryz.prog (Up Tryz.f379 0) Q a C:=by
 obtain⟨C',rfl⟩:=hC
 have hsz:u.data.toList.length=u.size:=by simp
 refine jG (fun m a C=>∃j,j+m=u.size/\C=bV (some ⟨r,0,none⟩) N e dT u.data.toList::C'/\dP a [(17,.slice (some ⟨r,0,none⟩) u.size N),(18,I6 u.size),(19,I6 (j:Nat)),(5,I6 (rC (u.data.toList.take j)))]) u.size
  (cN u.size ⟨0,by omega,rfl,ha⟩) ?_
 rintro n a C ⟨j,hj,rfl,ha⟩
 refine iT _ ha ?_
 simp only[gH]
 have hb:=Aby (u.data.toList.take j) (by simp;omega)
 by_cases hlt:j<u.size
 ·obtain⟨b,hb⟩:=Aqd (l:=u.data.toList) (j:=j) (by omega)
  have hb2:=b.toNat_lt
  repeat' (first|refine w1 ?_|refine w5 ?_ ?_|((refine bh fun h=>?_) <;> try exact w6 h)|(refine aE fun hA=>?_;subst hA)|intro _)
  show aV _ _ _ _
  exact cN (n - 1) ⟨j+1,by omega,rfl,rfl,rfl,rfl,by rw[X5 _ _ _ hb];rfl,trivial⟩
 ·obtain rfl:j=u.size:=by omega
  repeat' (first|refine w1 ?_|refine w5 ?_ ?_|((refine bh fun h=>?_) <;> try exact w6 h)|(refine aE fun hA=>?_;subst hA)|intro _)
  exact VT (p:=fun a=>Q (.exit 0) a _) [(5,I6 (rC u.data.toList))] ⟨by rw[List.take_of_length_le (by omega)];rfl,trivial⟩ (hK _)
theorem Apc {p:Nat} {n:Int} {s:ByteArray} {bad:Bool} (hK:K (I6 (uN n s bad)) (eU p (Fz (uW n) s bad) (!l5 (uW n) s bad)::R)):CT 379 #[PO p,I6 n] (eU p s bad::R) K:=by
 unfold uN uW at hK
 refine aH Tryz.func379 ?_
 repeat' (first|refine v86 ?_|refine w5 ?_ ?_|((refine bh fun h=>?_) <;> try exact w6 h)|(refine aE fun hA=>?_;subst hA)|intro _|(show aA _ 433 _ _ _;refine CA (h:=VP ?_))|refine Amr _ _ _ _ ?_ ⟨rfl,rfl,rfl,rfl,trivial⟩ ⟨_,rfl⟩ (fun a=>?_))
 all_goals first
  |(rw[if_pos (by omega)] at hK;(refine aC ?_;exact aB (hK)))
  |(rw[if_neg (by omega)] at hK;(refine aC ?_;exact aB (hK)))
  |exact Nat.le_trans (Yf _ _ _) (by omega)
end Go.Proofs.YtepnmcipkangkaaGreat
end
namespace Go.Proofs.YtepnmcipkangkaaGreat
open Go Go.Proofs Go.Sl
attribute [local irreducible] aN fJ cY bN aM aS aA dM dN aV dL pt ro fB star sep bF
variable {R C:List HP} {K:KP} {j c b:Nat} {A:Option Addr}
structure Pc where
 n:Int
 w:Int
 s:ByteArray
def pcD:List Value->Option Pc
 | [.int .i64 n,.int .i64 w,.string s]=>some ⟨n,w,s⟩
 |_=>none
theorem Amm (cs:List Value) (y:Pc) (h:pcD cs=some y): [I6 y.n,I6 y.w,.string y.s]=cs:=by
 unfold pcD at h
 split at h
 ·cases h;rfl
 ·cases h
def pcC:u5 Pc:= { enc:=fun p=> [I6 p.n,I6 p.w,.string p.s],sz:=3,dec:=pcD,len:=fun _=>rfl,one:=fun _=>rfl,ok:=Amm }
def jA (n w:Int):Int:=if w<0\/4<w then 2 else if 0<w/\(n<0\/0<n / 2 ^ (8 * w).toNat) then 3 else 0
def k7 (w:Int) (s:ByteArray):Int:=if w=0 then s.size else if w<0\/4<w then 0 else w
def wB (n w:Int):List UInt8:=(List.range w.toNat).map fun(i:Nat)=>ID (n / 2 ^ (8 * (w - 1 - (i:Int))).toNat)
def Qz (n w:Int) (s:ByteArray):List UInt8:=(if w=0 then s.data.toList else [])++wB n w
theorem Adi {n w:Int} (hK:K (.agg #[I6 n,I6 w,.string ⟨#[]⟩]) R):CT 367 #[I6 n,I6 w] R K:=by
 refine aH Tryz.func367 ?_
 repeat' (first|refine v5 ?_|refine w5 ?_ ?_|((refine bh fun h=>?_) <;> try exact w6 h)|(refine aE fun hA=>?_;subst hA)|intro _)
 (refine aC ?_;exact aB (hK))
theorem Aqj {s:ByteArray} (hK:K (.agg #[I6 0,I6 0,.string s]) R):CT 377 #[.string s] R K:=by
 refine aH Tryz.func377 ?_
 repeat' (first|refine v5 ?_|refine w5 ?_ ?_|((refine bh fun h=>?_) <;> try exact w6 h)|(refine aE fun hA=>?_;subst hA)|intro _)
 (refine aC ?_;exact aB (hK))
theorem Aok {n w:Int} {s:ByteArray} (hK:K (I6 (jA n w)) R):CT 430 #[.agg #[I6 n,I6 w,.string s]] R K:=by
 refine aH Tryz.func430 ?_
 repeat' (first|refine v56 ?_|refine w5 ?_ ?_|((refine bh fun h=>?_) <;> try exact w6 h)|(refine aE fun hA=>?_;subst hA)|intro _)
 all_goals(refine aC ?_;exact aB (ki hK (by unfold jA;(repeat' split) <;> first|rfl|omega|(exfalso;omega)|simp_all)))
theorem Ac8 {n w:Int} {s:ByteArray} (hK:K (I6 (k7 w s)) R):CT 447 #[.agg #[I6 n,I6 w,.string s]] R K:=by
 refine aH Tryz.func447 ?_
 repeat' (first|refine v23 ?_|refine w5 ?_ ?_|((refine bh fun h=>?_) <;> try exact w6 h)|(refine aE fun hA=>?_;subst hA)|intro _)
 all_goals(refine aC ?_;exact aB (ki hK (by unfold k7;(repeat' split) <;> first|rfl|omega|(exfalso;omega)|simp_all)))
def KL:List Pc->Int->Int
 | [],n=>n
 |p::l,n=>if 4096<n+min (k7 p.w p.s) 4097 then 4097 else KL l (n+min (k7 p.w p.s) 4097)
theorem GB (w:Int) (s:ByteArray):0<=k7 w s:=by unfold k7;(repeat' split) <;> first|rfl|omega|(exfalso;omega)|simp_all
theorem lH {α:Type} {l:List α} (h:j<l.length):∃x,l[j]?=some x/\l.drop j=x::l.drop (j+1):=⟨l[j],List.getElem?_eq_getElem h,List.drop_eq_getElem_cons h⟩
theorem Akf {n:Nat} {ps:List Pc} (hv:d4 C A pcC ps) (hn:ps.length=n) (hn2:n<1000000000000000) (hK:K (I6 (KL ps 0)) C):CT 431 #[.slice A n c] C K:=by
 refine aH Tryz.func431 ?_
 repeat' (first|refine v55 ?_|refine w5 ?_ ?_|((refine bh fun h=>?_) <;> try exact w6 h)|(refine aE fun hA=>?_;subst hA)|intro _)
 refine jG (fun m a C'=>∃(j:Nat) (t:Int),j+m=n/\C'=C/\0<=t/\t<=4096/\KL ps 0=KL (ps.drop j) t/\dP a [(6,.slice A n c),(7,I6 n),(8,I6 j),(3,I6 t)]) n (cN n ⟨0,0,by omega,rfl,by omega,by omega,rfl,rfl,rfl,rfl,rfl,trivial⟩) ?_
 rintro n1 a C' ⟨j,t,hj,rfl,h0,h1,hs,ha⟩
 refine iT _ ha ?_
 simp only[gH]
 by_cases hlt:j<n
 ·obtain⟨p,hp,hd⟩:=lH (l:=ps) (j:=j) (by omega)
  have hnn:=GB p.w p.s
  rw[hd,KL] at hs
  repeat' (first|refine v55 ?_|refine w5 ?_ ?_|((refine bh fun h=>?_) <;> try exact w6 h)|(refine aE fun hA=>?_;subst hA)|intro _|(show aA _ 447 _ _ _;refine CA (h:=Ac8 ?_)))
  ·rw[if_pos (by assumption)] at hs
   (refine aC ?_;exact aB (ki hK hs))
  ·rw[if_neg (by omega)] at hs
   exact cN (n1 - 1) ⟨j+1,_,by omega,rfl,by omega,by omega,hs,rfl,rfl,rfl,rfl,trivial⟩
 ·obtain rfl:j=n:=by omega
  repeat' (first|refine v55 ?_|refine w5 ?_ ?_|((refine bh fun h=>?_) <;> try exact w6 h)|(refine aE fun hA=>?_;subst hA)|intro _)
  (refine aC ?_;exact aB (ki hK (by rw[hs,List.drop_eq_nil_of_le (by omega)];rfl)))
def X4 (b:Nat) (bs:List UInt8):HP:=fB fun A=>fB fun c=>sep (pt b [.slice A bs.length c] 187) (bV A c 5 dT bs)
theorem Alt (n w:Int) (j:Nat) (h:(j:Int)<w):(wB n w).take (j+1)=(wB n w).take j++ [ID (n / 2 ^ (8 * (w - 1 - (j:Int))).toNat)]:=by
 unfold wB
 rw[List.take_add_one,List.getElem?_map,List.getElem?_range (by omega)]
 rfl
theorem kR (n w:Int):(wB n w).length=w.toNat:=by simp[wB]
theorem QW {Q:Exit->Fr->List HP->Prop} {a:Fr} {r:Nat} {n w:Int} {s:ByteArray} (bs:List UInt8) (hw:0<=w/\w<=4) (hl:bs.length<2000000000000) (hE:aG C (X4 b bs::pt r [I6 n,I6 w,.string s] 423::R))
  (ha:dP a [(1,PO b),(2,PO r),(12,I6 w),(13,I6 0)]) (hK:∀a C',aG C' (X4 b (bs++wB n w)::R)->Q (.exit 0) a C'):fJ Tryz.prog (Up Tryz.f432 0) Q a C:=by
 refine oR hE ?_
 have hwl:=kR n w
 refine jG (fun m a C=>∃j:Nat,(j:Int)+m=w/\C=X4 b (bs++(wB n w).take j)::pt r [I6 n,I6 w,.string s] 423::R/\dP a [(1,PO b),(2,PO r),(12,I6 w),(13,I6 j)])
  w.toNat (cN w.toNat ⟨0,by omega,by rw[List.take_zero,List.append_nil],ha⟩) ?_
 rintro m a C ⟨j,hj,rfl,ha⟩
 refine iT _ ha ?_
 simp only[gH]
 have hle:(bs++(wB n w).take j).length<2000000000010:=by rw[List.length_append,List.length_take];omega
 by_cases hlt:(j:Int)<w
 ·have ht:=Alt n w j hlt
  refine xQ fun A=>xQ fun c=>HJ ?_
  repeat' (first|refine w1 ?_|refine w5 ?_ ?_|((refine bh fun h=>?_) <;> try exact w6 h)|(refine aE fun hA=>?_;subst hA)|intro _)
  refine cN (m - 1) ⟨j+1,by omega,rfl,rfl,rfl,rfl,rfl,trivial⟩ (by omega) ?_
  rw[ht,<- List.append_assoc]
  exact aZ
 ·have:j=w.toNat:=by omega
  subst this
  repeat' (first|refine w1 ?_|refine w5 ?_ ?_|((refine bh fun h=>?_) <;> try exact w6 h)|(refine aE fun hA=>?_;subst hA)|intro _)
  refine hK _ _ ?_
  rw[List.take_of_length_le (by omega)]
  exact aZ
def Aw:List (Nat×Nat):= [(1,0),(2,0),(3,0),(4,0),(5,0),(6,0),(7,0),(8,0),(9,0),(10,0),(11,1),(0,1),(12,1),(13,1)]
theorem Aoq {n w:Int} {s:ByteArray} {bs:List UInt8} (hw:0<=w/\w<=4) (hl:bs.length+(Qz n w s).length<1000000000000) (hK:K (.tuple #[]) (X4 b (bs++Qz n w s)::R)):
  CT 432 #[.agg #[I6 n,I6 w,.string s],PO b] (X4 b bs::R) K:=by
 have hs:s.data.toList.length=s.size:=by simp
 by_cases h0:w=0
 ·subst h0
  simp only[Qz,if_true,List.length_append] at hl
  simp only[Qz,if_true,<- List.append_assoc] at hK
  refine aA.ex fun A=>aA.ex fun c=>aA.sep ?_
  refine aH Tryz.func432 ?_
  repeat' (first|refine v91 ?_|refine dw Aw ?_|refine w5 ?_ ?_|((refine bh fun h=>?_) <;> try exact w6 h)|(refine aE fun hA=>?_;subst hA)|intro _|refine QW (R:=R) (n:=n) (w:=0) (s:=s) (bs++s.data.toList) (by omega) (by simp;omega) (by exact aZ) ⟨rfl,rfl,rfl,rfl,trivial⟩ (fun a C' hE=>?_))
  refine aC ?_
  exact aK hE hK
 ·simp only[Qz,h0,if_false,List.nil_append] at hK
  refine aH Tryz.func432 ?_
  repeat' (first|refine v91 ?_|refine dw Aw ?_|refine w5 ?_ ?_|((refine bh fun h=>?_) <;> try exact w6 h)|(refine aE fun hA=>?_;subst hA)|intro _|refine QW (R:=R) (n:=n) (w:=w) (s:=s) bs (by omega) (by omega) (by exact aZ) ⟨rfl,rfl,rfl,rfl,trivial⟩ (fun a C' hE=>?_))
  refine aC ?_
  exact aK hE hK
def eP:List Pc->Int
 | []=>0
 |p::l=>if jA p.n p.w=0 then eP l else jA p.n p.w
def k8 (ps:List Pc):List UInt8:=ps.flatMap fun p=>Qz p.n p.w p.s
theorem AP {p:Pc} {l:List Pc} (h:eP (p::l)=0):jA p.n p.w=0/\eP l=0:=by
 unfold eP at h
 split at h
 ·exact⟨by assumption,h⟩
 ·rename_i h';exact absurd h h'
theorem FB {n w:Int} (h:jA n w=0):0<=w/\w<=4:=by
 unfold jA at h
 split at h
 ·cases h
 ·omega
theorem MN {n w:Int} {s:ByteArray} (h:0<=w/\w<=4):((Qz n w s).length:Int)=k7 w s:=by
 unfold Qz k7
 rw[List.length_append,kR]
 split
 ·subst_vars;simp
 ·rw[if_neg (by omega)];simp;omega
theorem UT:∀(ps:List Pc) (n:Int),0<=n->eP ps=0->KL ps n<=4096->n+(k8 ps).length=KL ps n
 | [],n,_,_,_=>by simp[KL,k8]
 |p::l,n,h0,he,h=>by
  obtain⟨h1,h2⟩:=AP he
  have hl:=MN (n:=p.n) (s:=p.s) (FB h1)
  unfold KL at h ⊢
  split at h
  ·omega
  ·rename_i h3
   rw[if_neg h3]
   have hnn:=GB p.w p.s
   have:=UT l (n+min (k7 p.w p.s) 4097) (by omega) h2 h
   have hle:n+min (k7 p.w p.s) 4097<=KL l (n+min (k7 p.w p.s) 4097):=by rw[<- this];omega
   rw[<- this]
   simp only[k8,List.flatMap_cons,List.length_append]
   have:min (k7 p.w p.s) 4097=k7 p.w p.s\/4097<=k7 p.w p.s:=by omega
   have hc:((List.flatMap (fun p=>Qz p.n p.w p.s) l).length:Int)=(k8 l).length:=rfl
   omega
def xT (ps:List Pc):Int:=if eP ps=0 then(if 4096<KL ps 0 then 4 else 0) else eP ps
def wL (ps:List Pc):ByteArray:=if xT ps=0 then⟨(k8 ps).toArray⟩ else⟨#[]⟩
theorem Hn {ps:List Pc} {p:Pc} (h:ps.drop j=p::ps.drop (j+1)):eP (ps.drop j)=if jA p.n p.w=0 then eP (ps.drop (j+1)) else jA p.n p.w:=by rw[h];rfl
theorem SP {n:Nat} {ps:List Pc} (hv:d4 C A pcC ps) (hn:ps.length=n) (hn2:n<1000000000000000) (hK:K (.tuple #[.string (wL ps),I6 (xT ps)]) C):CT 366 #[.slice A n c] C K:=by
 have hz0:=UT ps 0 (by omega)
 refine aH Tryz.func366 ?_
 repeat' (first|refine v74 ?_|refine w5 ?_ ?_|((refine bh fun h=>?_) <;> try exact w6 h)|(refine aE fun hA=>?_;subst hA)|intro _)
 refine jG (fun m a C'=>∃(j:Nat),j+m=n/\C'=C/\eP ps=eP (ps.drop j)/\dP a [(0,.slice A n c),(11,.slice A n c),(12,I6 n),(13,I6 j)]) n (cN n ⟨0,by omega,rfl,rfl,rfl,rfl,rfl,rfl,trivial⟩) ?_
 rintro n1 a C' ⟨j,hj,rfl,hs,ha⟩
 refine iT _ ha ?_
 simp only[gH]
 by_cases hlt:j<n
 ·obtain⟨p,hp,hd⟩:=lH (l:=ps) (j:=j) (by omega)
  rw[Hn hd] at hs
  repeat' (first|refine v74 ?_|refine w5 ?_ ?_|((refine bh fun h=>?_) <;> try exact w6 h)|(refine aE fun hA=>?_;subst hA)|intro _|(show aA _ 430 _ _ _;refine CA (h:=Aok ?_)))
  ·have h:jA p.n p.w≠0:=by assumption
   rw[if_neg h] at hs
   have he:xT ps=jA p.n p.w:=by unfold xT;rw[if_neg (by rw[hs];exact h),hs]
   have hb:wL ps=⟨#[]⟩:=by unfold wL;rw[if_neg (by rw[he];exact h)]
   rw[he,hb] at hK
   (refine aC ?_;exact aB (hK))
  ·have h:jA p.n p.w=0:=by assumption
   rw[if_pos h] at hs
   exact cN (n1 - 1) ⟨j+1,by omega,rfl,hs,rfl,rfl,rfl,rfl,trivial⟩
 ·obtain rfl:j=n:=by omega
  rw[List.drop_eq_nil_of_le (by omega)] at hs
  have hs0:eP ps=0:=hs
  repeat' (first|refine v74 ?_|refine w5 ?_ ?_|((refine bh fun h=>?_) <;> try exact w6 h)|(refine aE fun hA=>?_;subst hA)|intro _|(show aA _ 431 _ _ _;refine CA (h:=Akf (by assumption) (by assumption) (by omega) ?_)))
  ·have h:4096<KL ps 0:=by assumption
   have he:xT ps=4:=by unfold xT;rw[if_pos hs0,if_pos h]
   have hb:wL ps=⟨#[]⟩:=by unfold wL;rw[if_neg (by rw[he];decide)]
   rw[he,hb] at hK
   (refine aC ?_;exact aB (hK))
  ·rename_i b
   have h:KL ps 0<=4096:=by assumption
   have hz:=hz0 hs0 h
   have he:xT ps=0:=by unfold xT;rw[if_pos hs0,if_neg (by omega)]
   have hb:wL ps=⟨(k8 ps).toArray⟩:=by unfold wL;rw[if_pos he]
   rw[he,hb] at hK
   refine jG (fun m a C2=>∃(i:Nat),i+m=j/\C2=X4 b (k8 (ps.take i))::C'/\eP (ps.drop i)=0/\dP a [(7,PO b),(8,.func (.func 432) #[] #[PO b]),(27,.slice A j c),(28,I6 j),(29,I6 i)]) j (cN j ⟨0,by omega,rfl,hs0,rfl,rfl,rfl,rfl,rfl,trivial⟩) ?_
   rintro n2 a C2 ⟨i,hi,rfl,hf,ha⟩
   refine iT _ ha ?_
   simp only[gH]
   by_cases hlt:i<j
   ·obtain⟨p,hp,hd⟩:=lH (l:=ps) (j:=i) (by omega)
    rw[Hn hd] at hf
    split at hf
    ·rename_i hm
     have htk:k8 (ps.take (i+1))=k8 (ps.take i)++Qz p.n p.w p.s:=by
      rw[List.take_add_one,hp];simp[k8]
     have hle:((k8 (ps.take (i+1))).length:Int)<=(k8 ps).length:=by
      have:k8 ps=k8 (ps.take (i+1))++k8 (ps.drop (i+1)):=by
       unfold k8;rw[<- List.flatMap_append,List.take_append_drop]
      rw[this,List.length_append];omega
     have hpl:=MN (n:=p.n) (s:=p.s) (FB hm)
     have hss:p.w=0->k7 p.w p.s=p.s.size:=fun h0=>by unfold k7;rw[if_pos h0]
     rw[htk,List.length_append] at hle
     repeat' (first|refine v74 ?_|refine w5 ?_ ?_|((refine bh fun h=>?_) <;> try exact w6 h)|(refine aE fun hA=>?_;subst hA)|intro _|(show aA _ 432 _ _ _;refine CA (h:=Aoq (FB hm) (by omega) ?_)))
     exact cN (n2 - 1) ⟨i+1,by omega,by rw[htk],hf,rfl,rfl,rfl,rfl,rfl,trivial⟩
    ·rename_i h1;exact absurd hf h1
   ·obtain rfl:i=j:=by omega
    rw[List.take_of_length_le (by omega)]
    refine xQ fun A=>xQ fun c=>HJ ?_
    repeat' (first|refine v74 ?_|refine w5 ?_ ?_|((refine bh fun h=>?_) <;> try exact w6 h)|(refine aE fun hA=>?_;subst hA)|intro _)
    (refine aC ?_;exact aB (hK))
theorem Iy {ps:List Pc} (h:xT ps=0):eP ps=0/\KL ps 0=(wL ps).size/\(wL ps).size<=4096/\(wL ps).data.toList=k8 ps:=by
 have h1:eP ps=0:=by
  by_cases h2:eP ps=0
  ·exact h2
  ·unfold xT at h;rw[if_neg h2] at h;exact h
 have h2:KL ps 0<=4096:=by
  unfold xT at h;rw[if_pos h1] at h
  split at h
  ·cases h
  ·omega
 have h3:=UT ps 0 (by omega) h1 h2
 have h4:wL ps=⟨(k8 ps).toArray⟩:=by unfold wL;rw[if_pos h]
 have h5:(wL ps).size=(k8 ps).length:=by rw[h4];simp[ByteArray.size]
 exact⟨h1,by omega,by omega,by rw[h4]⟩
theorem Qw {ps:List Pc} (h:¬xT ps=0):wL ps=⟨#[]⟩:=by unfold wL;rw[if_neg h]
end Go.Proofs.YtepnmcipkangkaaGreat
namespace Go.Proofs.YtepnmcipkangkaaGreat
open Go Go.Proofs Go.Sl
theorem YK (b:UInt8) (l:List UInt8):rC (b::l)=b.toNat * 256 ^ l.length+rC l:=by
 have key:∀(l:List UInt8) (u:Int),l.foldl (fun u b=>u * 256+(b.toNat:Int)) u=u * 256 ^ l.length+rC l:=by
  intro l
  induction l with
  |nil=>intro u;simp[rC]
  |cons c l ih=>
   intro u
   have h2:rC (c::l)=l.foldl (fun u b=>u * 256+(b.toNat:Int)) (0 * 256+c.toNat):=rfl
   rw[List.foldl_cons,ih,h2,ih,List.length_cons,Int.pow_succ,Int.add_mul,Int.zero_mul,Int.zero_add,Int.mul_assoc,Int.mul_comm 256,Int.add_assoc]
 have:=key l b.toNat
 show l.foldl (fun u b=>u * 256+(b.toNat:Int)) (0 * 256+b.toNat)=_
 rw[Int.zero_mul,Int.zero_add,this]
theorem Xx (n:Int):((ID n).toNat:Int)=n % 256:=by
 have:=PY n
 unfold lR at this
 injection this
theorem Aij (n:Int) (k:Nat):wB n (k+1:Nat)=ID (n / 2 ^ (8 * k))::wB n (k:Nat):=by
 unfold wB
 rw[Int.toNat_natCast,Int.toNat_natCast,List.range_succ_eq_map,List.map_cons,List.map_map]
 have e1:(8 * (((k+1:Nat):Int) - 1 - ((0:Nat):Int))).toNat=8 * k:=by omega
 rw[e1]
 congr 1
 apply List.map_congr_left
 intro i hi
 simp only[Function.comp]
 have e2:(8 * (((k+1:Nat):Int) - 1 - ((i.succ:Nat):Int))).toNat=(8 * ((k:Int) - 1 - (i:Int))).toNat:=by omega
 rw[e2]
theorem Aaf (n:Int):∀k:Nat,rC (wB n (k:Nat))=n % 256 ^ k
 |0=>by simp[wB,rC] <;> omega
 |k+1=>by
  rw[Aij,YK,Aaf n k,kR,Xx,Int.toNat_natCast]
  have e:(2:Int) ^ (8 * k)=256 ^ k:=by rw[Int.pow_mul];rfl
  rw[e,Int.pow_succ]
  have hq:(0:Int)<256 ^ k:=Int.pow_pos (by decide)
  generalize (256:Int) ^ k=q at *
  have h1:=Int.emod_def n q
  have h2:=Int.emod_def (n / q) 256
  have h3:=Int.emod_def n (q * 256)
  rw[Int.ediv_ediv_of_nonneg (by omega)] at h2
  rw[h1,h2,h3,Int.sub_mul,Int.mul_comm (n / q) q]
  have h4:256 * (n / (q * 256)) * q=q * 256 * (n / (q * 256)):=by rw[Int.mul_comm q 256,Int.mul_assoc,Int.mul_assoc,Int.mul_comm q]
  rw[h4]
  omega
theorem Hm (s:ByteArray):s.toList=s.data.toList:=by
 exact ByteArray.toList_eq s
end Go.Proofs.YtepnmcipkangkaaGreat
namespace Go.Proofs.YtepnmcipkangkaaGreat
open Go Go.Proofs Go.Sl
attribute [local irreducible] aN fJ cY bN aM aS aA dM dN aV dL pt ro fB star sep bF
variable {R C:List HP} {K:KP} {s:ByteArray} {n w k:Int} {p i:Nat} {bad:Bool}
theorem F1 {t:ByteArray} (h:s.data.toList=t.data.toList):s=t:=by
 apply ByteArray.ext;exact Array.toList_inj.1 h
theorem Aj3 (h:jA n w=0) (hw:0<w):0<=n/\n<256 ^ w.toNat:=by
 have h4:=FB h
 have h2:0<=n/\¬0<n / 2 ^ (8 * w).toNat:=by
  unfold jA at h
  split at h
  ·cases h
  ·split at h
   ·cases h
   ·omega
 refine⟨h2.1,?_⟩
 have e:(2:Int) ^ (8 * w).toNat=256 ^ w.toNat:=by
  have:(8 * w).toNat=8 * w.toNat:=by omega
  rw[this,Int.pow_mul];rfl
 rw[e] at h2
 have hq:(0:Int)<256 ^ w.toNat:=Int.pow_pos (by decide)
 generalize (256:Int) ^ w.toNat=q at *
 have h3:=Int.emod_lt_of_pos n hq
 have h4:=Int.emod_def n q
 have h5:n / q=0:=by
  have:0<=n / q:=Int.ediv_nonneg h2.1 (by omega)
  omega
 rw[h5] at h4
 omega
theorem Ag4 (h:l5 s.size s bad=true) (hK:K (.string (AS s.size s bad)) (eU p (Fz s.size s bad) false::R)):CT 434 #[PO p] (eU p s bad::R) K:=by
 refine Ah0 ?_
 rw[h];exact hK
theorem Api (h:l5 (uW n) s bad=true) (hK:K (I6 (uN n s bad)) (eU p (Fz (uW n) s bad) false::R)):CT 379 #[PO p,I6 n] (eU p s bad::R) K:=by
 refine Apc ?_
 rw[h];exact hK
theorem Al1 (h:l5 (uW n) s bad=false) (hK:K (I6 0) (eU p s true::R)):CT 379 #[PO p,I6 n] (eU p s bad::R) K:=by
 refine Apc ?_
 unfold uN AS Fz
 rw[h];exact hK
theorem WY {at_:Int} (h0:0<=at_) (h1:0<=n) (h2:at_+n<=s.size):l5 n (s.extract at_.toNat s.size) false=true/\AS n (s.extract at_.toNat s.size) false=s.extract at_.toNat (at_+n).toNat/\Fz n (s.extract at_.toNat s.size) false=s.extract (at_+n).toNat s.size:=by
 have hok:l5 n (s.extract at_.toNat s.size) false=true:=by
  unfold l5
  simp
  omega
 refine⟨hok,?_,?_⟩
 ·unfold AS
  rw[hok]
  apply F1
  simp
  congr 1
  omega
 ·unfold Fz
  rw[hok]
  apply F1
  simp
  have e:at_.toNat+n.toNat=(at_+n).toNat:=by omega
  rw[e]
  congr 1
  omega
theorem Amh {u:ByteArray} (h:bad=true\/n<0\/u.size<n):l5 n u bad=false:=by
 unfold l5
 rcases h with rfl|h|h
 ·rfl
 ·simp;intro;omega
 ·simp;intro;omega
def Abh:List (Bool×Bool×Int×Int):= [(false,true,-1,1),(false,true,-1,1),(false,true,8,0),(false,true,8,0),(false,true,4,0),(true,false,-1,0),(true,false,0,0),(true,false,8,0),(true,false,8,0),(true,false,8,0),(true,true,4,0),(false,true,4,0)]
def Aoe:List Value:=Abh.flatMap fun x=> [.bool x.1,.bool x.2.1,I6 x.2.2.1,I6 x.2.2.2]
theorem P1 (hK:K (.agg Aoe.toArray) R):CT 412 #[] R K:=by
 refine aH Tryz.func412 ?_
 repeat' (first|refine v5 ?_|refine w5 ?_ ?_|((refine bh fun h=>?_) <;> try exact w6 h)|(refine aE fun hA=>?_;subst hA)|intro _)
 (refine aC ?_;exact aB (hK))
def nP (k:Int):Bool×Bool×Int×Int:=if k<0\/12<=k then(false,false,0,0) else Abh.getD k.toNat (false,false,0,0)
def ES (k:Int):Int:=if k<0\/12<=k then 3 else 0
theorem NM (hK:K (.tuple #[.agg #[.bool (nP k).1,.bool (nP k).2.1,I6 (nP k).2.2.1,I6 (nP k).2.2.2],I6 (ES k)]) R):CT 331 #[I6 k] R K:=by
 rcases(by omega:(k<0\/12<=k)\/k=0\/k=1\/k=2\/k=3\/k=4\/k=5\/k=6\/k=7\/k=8\/k=9\/k=10\/k=11) with h|h|h|h|h|h|h|h|h|h|h|h|h
 ·have e1:nP k=(false,false,0,0):=by unfold nP;rw[if_pos h]
  have e2:ES k=3:=by unfold ES;rw[if_pos h]
  rw[e1,e2] at hK
  refine aH Tryz.func331 ?_
  repeat' (first|refine v82 ?_|refine w5 ?_ ?_|((refine bh fun h=>?_) <;> try exact w6 h)|(refine aE fun hA=>?_;subst hA)|intro _|(show aA _ 412 _ _ _;refine CA (h:=P1 ?_)))
  all_goals(refine aC ?_;exact aB (hK))
 all_goals
  subst h
  refine aH Tryz.func331 ?_
  repeat' (first|refine v82 ?_|refine w5 ?_ ?_|((refine bh fun h=>?_) <;> try exact w6 h)|(refine aE fun hA=>?_;subst hA)|intro _|(show aA _ 412 _ _ _;refine CA (h:=P1 ?_)))
  (refine aC ?_;exact aB (hK))
def EV:List (Nat×Nat):= [(0,0),(1,0),(2,0),(3,0),(4,0),(5,0),(6,0),(7,0)]
theorem P3 (hK:K (.tuple #[.bool (nP k).1,.bool (nP k).2.1,I6 (ES k)]) R):CT 227 #[I6 k] R K:=by
 refine aH Tryz.func227 ?_
 repeat' (first|refine v31 ?_|refine dw EV ?_|refine w5 ?_ ?_|((refine bh fun h=>?_) <;> try exact w6 h)|(refine aE fun hA=>?_;subst hA)|intro _|(show aA _ 331 _ _ _;refine CA (h:=NM ?_)))
 (refine aC ?_;exact aB (hK))
def rB (n w:Int):ByteArray:=if n<0 then⟨#[]⟩ else⟨(wB n w).toArray⟩
def EH (k:Int):Int:=if k=2\/k=3\/k=7\/k=8\/k=9 then 8 else if k=4\/k=10\/k=11 then 4 else if k=6 then 0 else -1
theorem Hf (k:Int) (h0:0<=k) (h1:k<=11):(nP k).1=(decide (5<=k) && decide (k<=10))/\(nP k).2.1=(decide (k<=4) || decide (10<=k))/\(nP k).2.2.1=EH k/\ES k=0/\(nP k).2.2.2=(if k<=1 then 1 else 0):=by
 rcases(by omega:k=0\/k=1\/k=2\/k=3\/k=4\/k=5\/k=6\/k=7\/k=8\/k=9\/k=10\/k=11) with h|h|h|h|h|h|h|h|h|h|h|h <;> subst h <;> decide
def hPs (l t f s:Int):List Pc:= [⟨l,3,⟨#[]⟩⟩,⟨t,1,⟨#[]⟩⟩,⟨f,1,⟨#[]⟩⟩,⟨s,4,⟨#[]⟩⟩]
def W2 (l t f s:Int):Bool:=decide (0<=l) && decide (l<16777216) && decide (0<=t) && decide (t<256) && decide (0<=f) && decide (f<256) && decide (0<=s) && decide (s<=2147483647)
def Lb (l t f s:Int):ByteArray:=if 2147483647<s then⟨#[]⟩ else wL (hPs l t f s)
def LF (l t f s:Int):Int:=if 2147483647<s then 2 else if xT (hPs l t f s)=0 then 0 else 2
def GE:List (Nat×Nat):= [(0,0),(1,0),(2,1),(3,1),(4,1),(5,1),(6,2),(7,2),(8,1),(9,3),(10,3),(11,1),(12,1),(13,1),(14,0),(15,0),(16,0),(17,0),(18,0)]
theorem Akv {l t f s:Int} (hK:K (.tuple #[.string (Lb l t f s),I6 (LF l t f s)]) R):CT 287 #[.agg #[I6 l,I6 t,I6 f,I6 s]] R K:=by
 unfold Lb LF at hK
 refine aH Tryz.func287 ?_
 repeat' (first|refine v60 ?_|refine dw GE ?_|refine w5 ?_ ?_|((refine bh fun h=>?_) <;> try exact w6 h)|(refine aE fun hA=>?_;subst hA)|intro _|(show aA _ 367 _ _ _;refine CA (h:=Adi ?_))|(show aA _ 366 _ _ _;refine CA (h:=SP (ps:=hPs l t f s) (by exact lF) (by exact rfl) (by decide) ?_)))
 all_goals first
  |(rw[if_pos (by assumption),if_pos (by assumption)] at hK;(refine aC ?_;exact aB (hK)))
  |(rw[if_neg (by omega),if_neg (by omega),if_pos (by assumption)] at hK;(refine aC ?_;exact aB (hK)))
  |(rw[if_neg (by omega),if_neg (by omega),if_neg (by assumption),Qw (by assumption)] at hK;(refine aC ?_;exact aB (hK)))
section
def sub (s:ByteArray) (i j:Nat):ByteArray:=s.extract i j
def rK (s:ByteArray) (i j:Nat):Int:=rC (s.extract i j).data.toList
theorem Ou {j:Nat} (hw:1<=w/\w<=4) (hj:(j:Int)=i+w) (h:j<=s.size) (hK:K (I6 (rK s i j)) (eU p (s.extract j s.size) false::R)):CT 379 #[PO p,I6 w] (eU p (s.extract i s.size) false::R) K:=by
 have hW:uW w=w:=by unfold uW;rw[if_neg (by omega)]
 obtain⟨t1,t2,t3⟩:=WY (s:=s) (at_:=i) (n:=w) (by omega) (by omega) (by omega)
 have e:((i:Int)+w).toNat=j:=by omega
 rw[e] at t2 t3
 rw[Int.toNat_natCast] at t1 t2 t3
 refine Api (by rw[hW];exact t1) ?_
 rw[hW,t3]
 unfold uN
 rw[hW,t2]
 exact hK
theorem PN (h:i+1<=s.size) (hK:K (I6 (rK s i (i+1))) (eU p (s.extract (i+1) s.size) false::R)):CT 379 #[PO p,I6 1] (eU p (s.extract i s.size) false::R) K:=
 Ou (by decide) (by omega) h hK
theorem Aph (h:i+3<=s.size) (hK:K (I6 (rK s i (i+3))) (eU p (s.extract (i+3) s.size) false::R)):CT 379 #[PO p,I6 3] (eU p (s.extract i s.size) false::R) K:=
 Ou (by decide) (by omega) h hK
theorem LO (h:i+4<=s.size) (hK:K (I6 (rK s i (i+4))) (eU p (s.extract (i+4) s.size) false::R)):CT 379 #[PO p,I6 4] (eU p (s.extract i s.size) false::R) K:=
 Ou (by decide) (by omega) h hK
theorem Akt (hw:1<=w/\w<=4) (hi:i<=s.size) (h:(s.size:Int)<i+w) (hK:K (I6 0) (eU p (s.extract i s.size) true::R)):CT 379 #[PO p,I6 w] (eU p (s.extract i s.size) false::R) K:=by
 have hW:uW w=w:=by unfold uW;rw[if_neg (by omega)]
 refine Al1 ?_ hK
 rw[hW]
 exact Amh (.inr (.inr (by simp;omega)))
theorem Aiu (hK:K (I6 0) (eU p s true::R)):CT 379 #[PO p,I6 w] (eU p s true::R) K:=
 Al1 (Amh (.inl rfl)) hK
theorem vS (hK:∀r,K (PO r) (eU r (s.extract 0 s.size) false::R)):CT 378 #[.string s] R K:=by
 refine Vn s fun r=>?_
 have e:s.extract 0 s.size=s:=by apply F1;simp
 have:=hK r
 rwa[e] at this
def Xq (s:ByteArray):Value:=if s.size<9\/2147483647<rK s 5 9 then .tuple #[.agg #[I6 0,I6 0,I6 0,I6 0],I6 (if s.size<9 then 5 else 6)] else .tuple #[.agg #[I6 (rK s 0 3),I6 (rK s 3 4),I6 (rK s 4 5),I6 (rK s 5 9)],I6 0]
attribute [local irreducible] ByteArray.extract rK
theorem Ajm (hK:K (Xq s) R):CT 289 #[.string s] R K:=by
 refine aH Tryz.func289 ?_
 rcases(by omega:s.size<3\/s.size=3\/s.size=4\/(5<=s.size/\s.size<9)\/9<=s.size) with h|h|h|h|h
 all_goals
  repeat' (first|refine v75 ?_|refine w5 ?_ ?_|((refine bh fun h=>?_) <;> try exact w6 h)|(refine aE fun hA=>?_;subst hA)|intro _|(show aA _ 378 _ _ _;refine CA (h:=vS (fun p=>?_)))|(show aA _ 379 _ _ _;refine CA (h:=Aph (by omega) ?_))|(show aA _ 379 _ _ _;refine CA (h:=PN (by omega) ?_))|(show aA _ 379 _ _ _;refine CA (h:=LO (by omega) ?_))|(show aA _ 379 _ _ _;refine CA (h:=Akt (by decide) (by omega) (by omega) ?_))|(show aA _ 379 _ _ _;refine CA (h:=Aiu ?_))|(show aA _ 380 _ _ _;refine CA (h:=Aa4 _ _ _ ?_)))
 all_goals first
  |(refine aC ?_;exact aB (kv hK (by unfold Xq;rw[if_pos (Or.inl (by omega)),if_pos (by omega)])))
  |(refine aC ?_;exact aB (kv hK (by unfold Xq;rw[if_pos (Or.inr (by assumption)),if_neg (by omega)])))
  |(refine aC ?_;exact aB (kv hK (by unfold Xq;rw[if_neg (fun h=>h.elim (fun h=>by omega) (fun h=>absurd h (Int.not_lt.2 (by assumption))))])))
end
end Go.Proofs.YtepnmcipkangkaaGreat
section
namespace Go.Proofs.YtepnmcipkangkaaGreat
open Go Go.Proofs Go.Sl
attribute [local irreducible] aN fJ cY bN aM aS aA dM dN aV dL pt ro fB star sep bF
variable {R C:List HP} {K:KP} {k:Int}
def mW (l t f s:Int):Int:=if l<0\/256<l then 6 else if t<0\/11<t\/s<0 then 1 else if(s=0/\¬(5<=t/\t<=10))\/(0<s/\¬(t<=4\/10<=t)) then 1 else if f≠0/\(f≠1\/1<t) then 1 else if t=5/\(l % 6≠0\/48<l) then 6 else if 0<=EH t/\l≠EH t then 6 else 0
theorem Ain (h0:0<=k) (h1:k<=1) (hK:K (.tuple #[.agg #[.bool false,.bool true,I6 (-1),I6 1],I6 0]) R):CT 331 #[I6 k] R K:=by
 refine NM ?_
 rcases(by omega:k=0\/k=1) with rfl|rfl <;> exact hK
theorem Alp (h0:2<=k) (h1:k<=11) (hK:K (.tuple #[.agg #[.bool (decide (5<=k) && decide (k<=10)),.bool (decide (k<=4) || decide (10<=k)),I6 (EH k),I6 0],I6 0]) R):CT 331 #[I6 k] R K:=by
 refine NM ?_
 obtain⟨e1,e2,e3,e4,e5⟩:=Hf k (by omega) h1
 rw[e1,e2,e3,e4,e5,if_neg (by omega)]
 exact hK
theorem Ahz (h0:k<0\/11<k) (hK:K (.tuple #[.agg #[.bool false,.bool false,I6 0,I6 0],I6 3]) R):CT 331 #[I6 k] R K:=by
 refine NM ?_
 have e1:nP k=(false,false,0,0):=by unfold nP;rw[if_pos (by omega)]
 have e2:ES k=3:=by unfold ES;rw[if_pos (by omega)]
 rw[e1,e2]
 exact hK
def Wd (p:Nat) (l t f s:Int):HP:=pt p [I6 l,I6 t,I6 f,I6 s] 295
def Jw (t l long:Int):Bool:=decide ((t=5->(l % 6=0/\l<=48))/\(t≠5->(long<0\/l=long)))
theorem Af5 {p q:Nat} {l t f s long flags:Int} {z o:Bool} (h0:0<=l) (hK:K (.bool (Jw t l long)) (Wd p l t f s::pt q [.bool z,.bool o,I6 long,I6 flags] 393::R)):
  CT 381 #[PO p,PO q] (Wd p l t f s::pt q [.bool z,.bool o,I6 long,I6 flags] 393::R) K:=by
 unfold Wd at *
 refine aH Tryz.func381 ?_
 repeat' (first|refine v27 ?_|refine w5 ?_ ?_|((refine bh fun h=>?_) <;> try exact w6 h)|(refine aE fun hA=>?_;subst hA)|intro _)
 all_goals(refine aC ?_;exact aB (kb hK (by unfold Jw;simp only[decide_eq_true_eq] <;> simp <;> omega)))
theorem xG {l t f s:Int} (hf:-9223372036854775808<=f/\f<=9223372036854775807) (hK:K (I6 (mW l t f s)) R):CT 290 #[.agg #[I6 l,I6 t,I6 f,I6 s]] R K:=by
 have h5:t=5->EH t=-1:=fun h=>by subst h;rfl
 have h1:t<=1->EH t=-1:=fun h=>by unfold EH;rw[if_neg (by omega),if_neg (by omega),if_neg (by omega)]
 have c1:= @Af5
 unfold Wd at c1
 rcases(by omega:(t<0\/11<t)\/(0<=t/\t<=1)\/(2<=t/\t<=11)) with h|h|h
 all_goals
  refine aH Tryz.func290 ?_
  repeat' (first|refine O1 ?_|refine w5 ?_ ?_|((refine bh fun h=>?_) <;> try exact w6 h)|(refine aE fun hA=>?_;subst hA)|intro _|(show aA _ 331 _ _ _;refine CA (h:=Ain (by omega) (by omega) ?_))|(show aA _ 331 _ _ _;refine CA (h:=Alp (by omega) (by omega) ?_))|(show aA _ 331 _ _ _;refine CA (h:=Ahz (by omega) ?_))|(show aA _ 381 _ _ _;refine CA (h:=c1 (by omega) ?_)))
  all_goals(try simp only[Jw,decide_eq_true_eq,decide_eq_false_iff_not] at *)
  all_goals(refine aC ?_;exact aB (ki hK (by unfold mW;(repeat' split) <;> omega)))
end Go.Proofs.YtepnmcipkangkaaGreat
namespace Go.Proofs.YtepnmcipkangkaaGreat
open Go Go.Proofs Go.Sl
attribute [local irreducible] aN fJ cY bN aM aS aA dM dN aV dL pt ro fB star sep bF
variable {R C:List HP} {K:KP} {l t f s:Int}
def KB (s:ByteArray):Int:=if s.size<9 then 5 else if 2147483647<rK s 5 9 then 6 else 0
def HO (s:ByteArray) (i j:Nat):Int:=if KB s=0 then rK s i j else 0
def hgV (s:ByteArray):Value:=.tuple #[.agg #[I6 (HO s 0 3),I6 (HO s 3 4),I6 (HO s 4 5),I6 (HO s 5 9)],I6 (KB s)]
theorem An2 (s:ByteArray):Xq s=hgV s:=by
 unfold Xq hgV HO KB
 by_cases h:s.size<9
 ·simp[h]
 ·by_cases h2:2147483647<rK s 5 9
  ·simp[h,h2]
  ·simp[h,h2]
theorem Ag3 {s:ByteArray} (hK:K (.tuple #[.agg #[I6 (HO s 0 3),I6 (HO s 3 4),I6 (HO s 4 5),I6 (HO s 5 9)],I6 (KB s)]) R):CT 289 #[.string s] R K:=Ajm (by rw[An2];exact hK)
def jK (l t f s:Int):ByteArray:=rB l 3++rB t 1++rB f 1++rB s 4
theorem FT (h:W2 l t f s=true):(jK l t f s).data.toList=wB l 3++wB t 1++wB f 1++wB s 4:=by
 unfold W2 at h
 simp only[Bool.and_eq_true,decide_eq_true_eq] at h
 unfold jK rB
 rw[if_neg (by omega),if_neg (by omega),if_neg (by omega),if_neg (by omega)]
 simp
theorem Od:(256:Int) ^ (1:Nat)=256/\(256:Int) ^ (3:Nat)=16777216/\(256:Int) ^ (4:Nat)=4294967296:=by decide
theorem DZ {n w:Int} (hw:0<w/\w<=4):(jA n w=0↔(0<=n/\n<256 ^ w.toNat)):=by
 constructor
 ·intro h;exact Aj3 h hw.1
 ·intro h
  unfold jA
  have e:(2:Int) ^ (8 * w).toNat=256 ^ w.toNat:=by
   have:(8 * w).toNat=8 * w.toNat:=by omega
   rw[this,Int.pow_mul];rfl
  rw[e,Int.ediv_eq_zero_of_lt h.1 h.2,if_neg (by omega),if_neg (by omega)]
theorem PW:(W2 l t f s=true->Lb l t f s=jK l t f s/\LF l t f s=0)/\(W2 l t f s=false->Lb l t f s=⟨#[]⟩/\LF l t f s=2):=by
 obtain⟨p1,p3,p4⟩:=Od
 have m1:=DZ (n:=l) (w:=3) (by decide)
 have m2:=DZ (n:=t) (w:=1) (by decide)
 have m3:=DZ (n:=f) (w:=1) (by decide)
 have m4:=DZ (n:=s) (w:=4) (by decide)
 rw[show(3:Int).toNat=3 from rfl,p3] at m1
 rw[show(1:Int).toNat=1 from rfl,p1] at m2 m3
 rw[show(4:Int).toNat=4 from rfl,p4] at m4
 have hf:eP (hPs l t f s)=0↔(jA l 3=0/\jA t 1=0/\jA f 1=0/\jA s 4=0):=by
  unfold hPs
  simp only[eP]
  by_cases h1:jA l 3=0 <;> by_cases h2:jA t 1=0 <;> by_cases h3:jA f 1=0 <;> by_cases h4:jA s 4=0 <;> simp[h1,h2,h3,h4]
 constructor
 ·intro h
  have hl:=FT h
  unfold W2 at h
  simp only[Bool.and_eq_true,decide_eq_true_eq] at h
  have hz:eP (hPs l t f s)=0:=hf.2 ⟨m1.2 (by omega),m2.2 (by omega),m3.2 (by omega),m4.2 (by omega)⟩
  have he:xT (hPs l t f s)=0:=by
   unfold xT
   rw[if_pos hz,if_neg]
   have:KL (hPs l t f s) 0=9:=by
    unfold hPs
    simp[KL,k7] <;> decide
   omega
  unfold Lb LF
  rw[if_neg (by omega),if_neg (by omega),if_pos he]
  refine⟨F1 ?_,rfl⟩
  rw[hl,(Iy he).2.2.2]
  simp[k8,hPs,Qz]
 ·intro h
  unfold Lb LF
  by_cases hs:2147483647<s
  ·rw[if_pos hs,if_pos hs];exact⟨rfl,rfl⟩
  ·rw[if_neg hs,if_neg hs]
   have he:¬xT (hPs l t f s)=0:=by
    intro he
    obtain⟨a,b,c,d⟩:=hf.1 (Iy he).1
    rw[m1] at a
    rw[m2] at b
    rw[m3] at c
    rw[m4] at d
    unfold W2 at h
    simp at h
    omega
   rw[if_neg he,Qw he]
   exact⟨rfl,rfl⟩
theorem Ag1 (h:W2 l t f s=true) (hK:K (.tuple #[.string (jK l t f s),I6 0]) R):CT 287 #[.agg #[I6 l,I6 t,I6 f,I6 s]] R K:=by
 refine Akv ?_
 rw[(PW.1 h).1,(PW.1 h).2]
 exact hK
end Go.Proofs.YtepnmcipkangkaaGreat
end
namespace Go.Proofs.YtepnmcipkangkaaGreat
open Go Go.Proofs Go.Sl
def tH (e:Bool):Int:=match e with
 |true=>1
 |false=>0
theorem Fe (e:Bool):0<=tH e/\tH e<=1:=by cases e <;> decide
theorem Abi:(256:Int) ^ (2:Nat)=65536:=by decide
end Go.Proofs.YtepnmcipkangkaaGreat
namespace Go.Proofs.YtepnmcipkangkaaGreat
open Go Go.Proofs Go.Sl
attribute [local irreducible] aN fJ cY bN aM aS aA dM dN aV dL pt ro fB star sep bF
variable {R C:List HP} {K:KP}
theorem yN (s:ByteArray) (i j:Nat):rK s i j=rC ((s.data.toList.drop i).take (j - i)):=by
 unfold rK;simp[List.extract]
theorem zG {n w:Int} (hw:0<=w) (h0:0<=n) (h1:n<256 ^ w.toNat):rC (wB n w)=n:=by
 obtain⟨k,rfl⟩:∃k:Nat,w=k:=⟨w.toNat,by omega⟩
 rw[Aaf,Int.emod_eq_of_lt h0 (by rwa[Int.toNat_natCast] at h1)]
theorem Apx {l t f s:Int} {b:ByteArray} (h:W2 l t f s=true):KB (jK l t f s++b)=0/\HO (jK l t f s++b) 0 3=l/\HO (jK l t f s++b) 3 4=t/\HO (jK l t f s++b) 4 5=f/\HO (jK l t f s++b) 5 9=s:=by
 obtain⟨p1,p3,p4⟩:=Od
 have hl:(jK l t f s++b).data.toList=wB l 3++(wB t 1++(wB f 1++(wB s 4++b.data.toList))):=by
  rw[ByteArray.data_append,Array.toList_append,FT h];simp
 have l1:=kR l 3
 have l2:=kR t 1
 have l3:=kR f 1
 have l4:=kR s 4
 rw[show(3:Int).toNat=3 from rfl] at l1
 rw[show(1:Int).toNat=1 from rfl] at l2 l3
 rw[show(4:Int).toNat=4 from rfl] at l4
 unfold W2 at h
 simp only[Bool.and_eq_true,decide_eq_true_eq] at h
 have n1:=zG (n:=l) (w:=3) (by decide) (by omega) (by rw[show(3:Int).toNat=3 from rfl,p3];omega)
 have n2:=zG (n:=t) (w:=1) (by decide) (by omega) (by rw[show(1:Int).toNat=1 from rfl,p1];omega)
 have n3:=zG (n:=f) (w:=1) (by decide) (by omega) (by rw[show(1:Int).toNat=1 from rfl,p1];omega)
 have n4:=zG (n:=s) (w:=4) (by decide) (by omega) (by rw[show(4:Int).toNat=4 from rfl,p4];omega)
 have a1:rK (jK l t f s++b) 0 3=l:=by
  rw[yN,hl,List.drop_zero,List.take_left' (by omega),n1]
 have a2:rK (jK l t f s++b) 3 4=t:=by
  rw[yN,hl,List.drop_left' (by omega),List.take_left' (by omega),n2]
 have a3:rK (jK l t f s++b) 4 5=f:=by
  rw[yN,hl,<- List.append_assoc,List.drop_left' (by rw[List.length_append];omega),List.take_left' (by omega),n3]
 have a4:rK (jK l t f s++b) 5 9=s:=by
  rw[yN,hl,<- List.append_assoc,<- List.append_assoc,List.drop_left' (by rw[List.length_append,List.length_append];omega),List.take_left' (by omega),n4]
 have hsz:(jK l t f s++b).size=9+b.size:=by
  have:(jK l t f s++b).data.toList.length=(jK l t f s++b).size:=by simp
  rw[<- this,hl]
  simp only[List.length_append,l1,l2,l3,l4]
  have:b.data.toList.length=b.size:=by simp
  omega
 have he:KB (jK l t f s++b)=0:=by
  unfold KB
  rw[if_neg (by omega),if_neg (by rw[a4];omega)]
 unfold HO
 rw[he,if_pos rfl,if_pos rfl,if_pos rfl,if_pos rfl]
 exact⟨rfl,a1,a2,a3,a4⟩
theorem Ev (s:ByteArray) (i j:Nat):0<=rK s i j/\rK s i j<256 ^ (j - i):=by
 rw[yN]
 refine⟨VV _,Int.lt_of_lt_of_le (WZ _) ?_⟩
 exact_mod_cast Nat.pow_le_pow_right (by decide) (by rw[List.length_take];omega)
end Go.Proofs.YtepnmcipkangkaaGreat
namespace Go.Proofs.YtepnmcipkangkaaGreat
open Go Go.Proofs Go.Sl
def bq (l:List UInt8):ByteArray:=⟨l.toArray⟩
structure AC where
 kd:Int
 sd:Int
 id:Int
 n:Int
 cd:Int
 s:ByteArray
 on:Int
 ww:Int
 xx:Bool
 xw:Int
 xs:Int
 xi:Int
def isL (c:UInt8):Prop:=c=115\/c=105\/c=110\/c=99\/c=116\/c=111\/c=119\/c=120\/c=112\/c=113\/c=114
instance (c:UInt8):Decidable (isL c):=by unfold isL;infer_instance
end Go.Proofs.YtepnmcipkangkaaGreat
