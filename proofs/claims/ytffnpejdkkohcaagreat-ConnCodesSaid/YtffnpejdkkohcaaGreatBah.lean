/- A part of the proof: lemmas; each with the conditions that it states. -/
import Derived.Test.YtffnpejdkkohcaaGreatBag
set_option linter.unusedVariables false
set_option linter.unusedSimpArgs false
set_option maxRecDepth 100000
set_option maxHeartbeats 40000000
section
namespace Go.Proofs.YtffnpejdkkohcaaGreat
open Go Go.Proofs Go.Sl
attribute [local irreducible] aM eY cU bQ aL aW aA dS dT aZ dR pt ro fN star sep bH
variable {R:List HP} {K:KP} {p:Nat} {s:ByteArray} {bad:Bool}
def eW (p:Nat) (s:ByteArray) (bad:Bool):HP:=pt p [.string s,.bool bad] 345
theorem TT (s:ByteArray) (hK:∀r,K (PO r) (eW r s false::R)):CT 260 #[.string s] R K:=by
 refine aJ Tryz.func260 ?_
 repeat' (first|refine v6 ?_|refine w5 ?_ ?_|((refine bh fun h=>?_) <;> try exact w6 h)|(refine aF fun hA=>?_;subst hA)|intro _)
 (refine aC ?_;exact aB (hK _))
theorem Ab1 (p:Nat) (s:ByteArray) (bad:Bool) (hK:K (.bool bad) (eW p s bad::R)):CT 262 #[PO p] (eW p s bad::R) K:=by
 unfold eW at *
 refine aJ Tryz.func262 ?_
 repeat' (first|refine v23 ?_|refine w5 ?_ ?_|((refine bh fun h=>?_) <;> try exact w6 h)|(refine aF fun hA=>?_;subst hA)|intro _)
 (refine aC ?_;exact aB (hK))
theorem Lo (p:Nat) (s:ByteArray) (bad:Bool) (hK:K (I6 s.size) (eW p s bad::R)):CT 315 #[PO p] (eW p s bad::R) K:=by
 unfold eW at *
 refine aJ Tryz.func315 ?_
 repeat' (first|refine v4 ?_|refine w5 ?_ ?_|((refine bh fun h=>?_) <;> try exact w6 h)|(refine aF fun hA=>?_;subst hA)|intro _)
 (refine aC ?_;exact aB (hK))
def lC (n:Int) (s:ByteArray) (bad:Bool):Bool:=!bad && decide (0<=n) && decide (n<=s.size)
def Ar (n:Int) (s:ByteArray) (bad:Bool):ByteArray:=match lC n s bad with
 |true=>s.extract 0 n.toNat
 |false=>⟨#[]⟩
def Dj (n:Int) (s:ByteArray) (bad:Bool):ByteArray:=match lC n s bad with
 |true=>s.extract n.toNat s.size
 |false=>s
theorem UA {n:Int} (hK:K (.string (Ar n s bad)) (eW p (Dj n s bad) (!lC n s bad)::R)):CT 313 #[PO p,I6 n] (eW p s bad::R) K:=by
 refine aJ Tryz.func313 ?_
 repeat' (first|refine v62 ?_|refine w5 ?_ ?_|((refine bh fun h=>?_) <;> try exact w6 h)|(refine aF fun hA=>?_;subst hA)|intro _|(show aA _ 262 _ _ _;refine CA (h:=Ab1 _ _ _ ?_)))
 all_goals
  first
  |(have e:lC n s bad=false:=by(unfold lC;simp[*] <;> omega))
  |(have e:lC n s bad=true:=by(unfold lC;simp[*] <;> omega))
  simp only[Ar,Dj,e,Bool.not_true,Bool.not_false] at hK
  subst_vars
  (refine aC ?_;exact aB (hK))
theorem Agw (hK:K (.string (Ar s.size s bad)) (eW p (Dj s.size s bad) (!lC s.size s bad)::R)):CT 314 #[PO p] (eW p s bad::R) K:=by
 refine aJ Tryz.func314 ?_
 repeat' (first|refine v0 ?_|refine w5 ?_ ?_|((refine bh fun h=>?_) <;> try exact w6 h)|(refine aF fun hA=>?_;subst hA)|intro _|(show aA _ 315 _ _ _;refine CA (h:=Lo _ _ _ ?_))|(show aA _ 313 _ _ _;refine CA (h:=UA ?_)))
 (refine aC ?_;exact aB (hK))
end Go.Proofs.YtffnpejdkkohcaaGreat
namespace Go.Proofs.YtffnpejdkkohcaaGreat
open Go Go.Proofs Go.Sl
attribute [local irreducible] aM eY cU bQ aL aW aA dS dT aZ dR pt ro fN star sep bH
variable {R:List HP} {K:KP}
def o7 (l:List UInt8):Int:=l.foldl (fun u b=>u * 256+b.toNat) 0
theorem Fp (l:List UInt8) (b:UInt8):o7 (l++ [b])=o7 l * 256+b.toNat:=by simp[o7]
theorem UB (l:List UInt8):0<=o7 l:=by
 have key:∀n (l:List UInt8),l.length=n->0<=o7 l:=by
  intro n
  induction n with
  |zero=>intro l hl;rw[List.length_eq_zero_iff.1 hl];decide
  |succ n ih=>
   intro l hl
   have hne:l≠ []:=by intro h;rw[h] at hl;cases hl
   rw[<- List.dropLast_concat_getLast hne,Fp]
   have:=ih l.dropLast (by simp[hl])
   omega
 exact key _ l rfl
theorem TF (l:List UInt8):o7 l<256 ^ l.length:=by
 have key:∀n (l:List UInt8),l.length=n->o7 l<256 ^ n:=by
  intro n
  induction n with
  |zero=>intro l hl;rw[List.length_eq_zero_iff.1 hl];decide
  |succ n ih=>
   intro l hl
   have hne:l≠ []:=by intro h;rw[h] at hl;cases hl
   rw[<- List.dropLast_concat_getLast hne,Fp]
   have:=ih l.dropLast (by simp[hl])
   have:=(l.getLast hne).toNat_lt
   rw[Int.pow_succ]
   omega
 exact key _ l rfl
theorem Aag (l:List UInt8) (h:l.length<=4):0<=o7 l/\o7 l<4294967296:=by
 refine⟨UB l,Int.lt_of_lt_of_le (TF l) ?_⟩
 have:(256:Int) ^ l.length<=256 ^ 4:=by exact_mod_cast Nat.pow_le_pow_right (by decide) h
 exact this
theorem Wx (l:List UInt8) (j:Nat) (b:UInt8) (hb:l[j]?=some b):o7 (l.take (j+1))=o7 (l.take j) * 256+b.toNat:=by rw[List.take_add_one,hb];exact Fp _ _
theorem Amu {l:List UInt8} {j:Nat} (h:j<l.length):∃b,l[j]?=some b:=⟨_,List.getElem?_eq_getElem h⟩
def uW (n:Int):Int:=if n<1\/4<n then -1 else n
def uN (n:Int) (s:ByteArray) (bad:Bool):Int:=o7 (Ar (uW n) s bad).data.toList
theorem Xl (n:Int) (s:ByteArray) (bad:Bool):(Ar n s bad).data.toList.length<=n.toNat:=by
 unfold Ar
 split
 ·simp;omega
 ·simp
theorem Ah9 {Q:Exit->Fr->List HP->Prop} {a:Fr} {C:List HP} (u:ByteArray) (r N:Nat) (e:TypeId) (hu:u.data.toList.length<=4) (ha:cW a [(17,.slice (some ⟨r,0,none⟩) u.size N),(18,I6 u.size),(19,I6 0),(5,I6 0)])
  (hC:∃C',C=bU (some ⟨r,0,none⟩) N e dX u.data.toList::C') (hK:∀a,Q (.exit 0) (fF a [(5,I6 (o7 u.data.toList))]) C):eY Tryz.prog (SH Tryz.f261 0) Q a C:=by
 obtain⟨C',rfl⟩:=hC
 have hsz:u.data.toList.length=u.size:=by simp
 refine iH (fun m a C=>∃j,j+m=u.size/\C=bU (some ⟨r,0,none⟩) N e dX u.data.toList::C'/\cW a [(17,.slice (some ⟨r,0,none⟩) u.size N),(18,I6 u.size),(19,I6 (j:Nat)),(5,I6 (o7 (u.data.toList.take j)))]) u.size
  (cG u.size ⟨0,by omega,rfl,ha⟩) ?_
 rintro n a C ⟨j,hj,rfl,ha⟩
 refine gJ _ ha ?_
 simp only[fF]
 have hb:=Aag (u.data.toList.take j) (by simp;omega)
 by_cases hlt:j<u.size
 ·obtain⟨b,hb⟩:=Amu (l:=u.data.toList) (j:=j) (by omega)
  have hb2:=b.toNat_lt
  repeat' (first|refine w1 ?_|refine w5 ?_ ?_|((refine bh fun h=>?_) <;> try exact w6 h)|(refine aF fun hA=>?_;subst hA)|intro _)
  show aZ _ _ _ _
  exact cG (n - 1) ⟨j+1,by omega,rfl,rfl,rfl,rfl,by rw[Wx _ _ _ hb];rfl,trivial⟩
 ·obtain rfl:j=u.size:=by omega
  repeat' (first|refine w1 ?_|refine w5 ?_ ?_|((refine bh fun h=>?_) <;> try exact w6 h)|(refine aF fun hA=>?_;subst hA)|intro _)
  exact BH (p:=fun a=>Q (.exit 0) a _) [(5,I6 (o7 u.data.toList))] ⟨by rw[List.take_of_length_le (by omega)];rfl,trivial⟩ (hK _)
theorem Alq {p:Nat} {n:Int} {s:ByteArray} {bad:Bool} (hK:K (I6 (uN n s bad)) (eW p (Dj (uW n) s bad) (!lC (uW n) s bad)::R)):CT 261 #[PO p,I6 n] (eW p s bad::R) K:=by
 unfold uN uW at hK
 refine aJ Tryz.func261 ?_
 repeat' (first|refine v86 ?_|refine w5 ?_ ?_|((refine bh fun h=>?_) <;> try exact w6 h)|(refine aF fun hA=>?_;subst hA)|intro _|(show aA _ 313 _ _ _;refine CA (h:=UA ?_))|refine Ah9 _ _ _ _ ?_ ⟨rfl,rfl,rfl,rfl,trivial⟩ ⟨_,rfl⟩ (fun a=>?_))
 all_goals first
  |(rw[if_pos (by omega)] at hK;(refine aC ?_;exact aB (hK)))
  |(rw[if_neg (by omega)] at hK;(refine aC ?_;exact aB (hK)))
  |exact Nat.le_trans (Xl _ _ _) (by omega)
end Go.Proofs.YtffnpejdkkohcaaGreat
end
namespace Go.Proofs.YtffnpejdkkohcaaGreat
open Go Go.Proofs Go.Sl
attribute [local irreducible] aM eY cU bQ aL aW aA dS dT aZ dR pt ro fN star sep bH
variable {R C:List HP} {K:KP} {j c b:Nat} {A:Option Addr}
structure Pc where
 n:Int
 w:Int
 s:ByteArray
def pcD:List Value->Option Pc
 | [.int .i64 n,.int .i64 w,.string s]=>some ⟨n,w,s⟩
 |_=>none
theorem Aim (cs:List Value) (y:Pc) (h:pcD cs=some y): [I6 y.n,I6 y.w,.string y.s]=cs:=by
 unfold pcD at h
 split at h
 ·cases h;rfl
 ·cases h
def pcC:tP Pc:= { enc:=fun p=> [I6 p.n,I6 p.w,.string p.s],sz:=3,dec:=pcD,len:=fun _=>rfl,one:=fun _=>rfl,ok:=Aim }
def iU (n w:Int):Int:=if w<0\/4<w then 2 else if 0<w/\(n<0\/0<n / 2 ^ (8 * w).toNat) then 3 else 0
def kK (w:Int) (s:ByteArray):Int:=if w=0 then s.size else if w<0\/4<w then 0 else w
def wB (n w:Int):List UInt8:=(List.range w.toNat).map fun(i:Nat)=>qK (n / 2 ^ (8 * (w - 1 - (i:Int))).toNat)
def OG (n w:Int) (s:ByteArray):List UInt8:=(if w=0 then s.data.toList else [])++wB n w
theorem Abl {n w:Int} (hK:K (.agg #[I6 n,I6 w,.string ⟨#[]⟩]) R):CT 270 #[I6 n,I6 w] R K:=by
 refine aJ Tryz.func270 ?_
 repeat' (first|refine v5 ?_|refine w5 ?_ ?_|((refine bh fun h=>?_) <;> try exact w6 h)|(refine aF fun hA=>?_;subst hA)|intro _)
 (refine aC ?_;exact aB (hK))
theorem Amp {s:ByteArray} (hK:K (.agg #[I6 0,I6 0,.string s]) R):CT 283 #[.string s] R K:=by
 refine aJ Tryz.func283 ?_
 repeat' (first|refine v5 ?_|refine w5 ?_ ?_|((refine bh fun h=>?_) <;> try exact w6 h)|(refine aF fun hA=>?_;subst hA)|intro _)
 (refine aC ?_;exact aB (hK))
theorem Ais {n w:Int} {s:ByteArray} (hK:K (I6 (iU n w)) R):CT 317 #[.agg #[I6 n,I6 w,.string s]] R K:=by
 refine aJ Tryz.func317 ?_
 repeat' (first|refine v56 ?_|refine w5 ?_ ?_|((refine bh fun h=>?_) <;> try exact w6 h)|(refine aF fun hA=>?_;subst hA)|intro _)
 all_goals(refine aC ?_;exact aB (ki hK (by unfold iU;(repeat' split) <;> first|rfl|omega|(exfalso;omega)|simp_all)))
theorem ZP {n w:Int} {s:ByteArray} (hK:K (I6 (kK w s)) R):CT 333 #[.agg #[I6 n,I6 w,.string s]] R K:=by
 refine aJ Tryz.func333 ?_
 repeat' (first|refine v23 ?_|refine w5 ?_ ?_|((refine bh fun h=>?_) <;> try exact w6 h)|(refine aF fun hA=>?_;subst hA)|intro _)
 all_goals(refine aC ?_;exact aB (ki hK (by unfold kK;(repeat' split) <;> first|rfl|omega|(exfalso;omega)|simp_all)))
def Jj:List Pc->Int->Int
 | [],n=>n
 |p::l,n=>if 4096<n+min (kK p.w p.s) 4097 then 4097 else Jj l (n+min (kK p.w p.s) 4097)
theorem E2 (w:Int) (s:ByteArray):0<=kK w s:=by unfold kK;(repeat' split) <;> first|rfl|omega|(exfalso;omega)|simp_all
theorem i0 {α:Type} {l:List α} (h:j<l.length):∃x,l[j]?=some x/\l.drop j=x::l.drop (j+1):=⟨l[j],List.getElem?_eq_getElem h,List.drop_eq_getElem_cons h⟩
theorem Adr {n:Nat} {ps:List Pc} (hv:dE C A pcC ps) (hn:ps.length=n) (hn2:n<1000000000000000) (hK:K (I6 (Jj ps 0)) C):CT 318 #[.slice A n c] C K:=by
 refine aJ Tryz.func318 ?_
 repeat' (first|refine v55 ?_|refine w5 ?_ ?_|((refine bh fun h=>?_) <;> try exact w6 h)|(refine aF fun hA=>?_;subst hA)|intro _)
 refine iH (fun m a C'=>∃(j:Nat) (t:Int),j+m=n/\C'=C/\0<=t/\t<=4096/\Jj ps 0=Jj (ps.drop j) t/\cW a [(6,.slice A n c),(7,I6 n),(8,I6 j),(3,I6 t)]) n (cG n ⟨0,0,by omega,rfl,by omega,by omega,rfl,rfl,rfl,rfl,rfl,trivial⟩) ?_
 rintro n1 a C' ⟨j,t,hj,rfl,h0,h1,hs,ha⟩
 refine gJ _ ha ?_
 simp only[fF]
 by_cases hlt:j<n
 ·obtain⟨p,hp,hd⟩:=i0 (l:=ps) (j:=j) (by omega)
  have hnn:=E2 p.w p.s
  rw[hd,Jj] at hs
  repeat' (first|refine v55 ?_|refine w5 ?_ ?_|((refine bh fun h=>?_) <;> try exact w6 h)|(refine aF fun hA=>?_;subst hA)|intro _|(show aA _ 333 _ _ _;refine CA (h:=ZP ?_)))
  ·rw[if_pos (by assumption)] at hs
   (refine aC ?_;exact aB (ki hK hs))
  ·rw[if_neg (by omega)] at hs
   exact cG (n1 - 1) ⟨j+1,_,by omega,rfl,by omega,by omega,hs,rfl,rfl,rfl,rfl,trivial⟩
 ·obtain rfl:j=n:=by omega
  repeat' (first|refine v55 ?_|refine w5 ?_ ?_|((refine bh fun h=>?_) <;> try exact w6 h)|(refine aF fun hA=>?_;subst hA)|intro _)
  (refine aC ?_;exact aB (ki hK (by rw[hs,List.drop_eq_nil_of_le (by omega)];rfl)))
def VM (b:Nat) (bs:List UInt8):HP:=fN fun A=>fN fun c=>sep (pt b [.slice A bs.length c] 160) (bU A c 5 dX bs)
theorem Aei (n w:Int) (j:Nat) (h:(j:Int)<w):(wB n w).take (j+1)=(wB n w).take j++ [qK (n / 2 ^ (8 * (w - 1 - (j:Int))).toNat)]:=by
 unfold wB
 rw[List.take_add_one,List.getElem?_map,List.getElem?_range (by omega)]
 rfl
theorem iT (n w:Int):(wB n w).length=w.toNat:=by simp[wB]
theorem N4 {Q:Exit->Fr->List HP->Prop} {a:Fr} {r:Nat} {n w:Int} {s:ByteArray} (bs:List UInt8) (hw:0<=w/\w<=4) (hl:bs.length<2000000000000) (hE:aG C (VM b bs::pt r [I6 n,I6 w,.string s] 310::R))
  (ha:cW a [(1,PO b),(2,PO r),(12,I6 w),(13,I6 0)]) (hK:∀a C',aG C' (VM b (bs++wB n w)::R)->Q (.exit 0) a C'):eY Tryz.prog (SH Tryz.f319 0) Q a C:=by
 refine nN hE ?_
 have hwl:=iT n w
 refine iH (fun m a C=>∃j:Nat,(j:Int)+m=w/\C=VM b (bs++(wB n w).take j)::pt r [I6 n,I6 w,.string s] 310::R/\cW a [(1,PO b),(2,PO r),(12,I6 w),(13,I6 j)])
  w.toNat (cG w.toNat ⟨0,by omega,by rw[List.take_zero,List.append_nil],ha⟩) ?_
 rintro m a C ⟨j,hj,rfl,ha⟩
 refine gJ _ ha ?_
 simp only[fF]
 have hle:(bs++(wB n w).take j).length<2000000000010:=by rw[List.length_append,List.length_take];omega
 by_cases hlt:(j:Int)<w
 ·have ht:=Aei n w j hlt
  refine vX fun A=>vX fun c=>GB ?_
  repeat' (first|refine w1 ?_|refine w5 ?_ ?_|((refine bh fun h=>?_) <;> try exact w6 h)|(refine aF fun hA=>?_;subst hA)|intro _)
  refine cG (m - 1) ⟨j+1,by omega,rfl,rfl,rfl,rfl,rfl,trivial⟩ (by omega) ?_
  rw[ht,<- List.append_assoc]
  exact bE
 ·have:j=w.toNat:=by omega
  subst this
  repeat' (first|refine w1 ?_|refine w5 ?_ ?_|((refine bh fun h=>?_) <;> try exact w6 h)|(refine aF fun hA=>?_;subst hA)|intro _)
  refine hK _ _ ?_
  rw[List.take_of_length_le (by omega)]
  exact bE
def yV:List (Nat×Nat):= [(1,0),(2,0),(3,0),(4,0),(5,0),(6,0),(7,0),(8,0),(9,0),(10,0),(11,1),(0,1),(12,1),(13,1)]
theorem Ah6 {n w:Int} {s:ByteArray} {bs:List UInt8} (hw:0<=w/\w<=4) (hl:bs.length+(OG n w s).length<1000000000000) (hK:K (.tuple #[]) (VM b (bs++OG n w s)::R)):
  CT 319 #[.agg #[I6 n,I6 w,.string s],PO b] (VM b bs::R) K:=by
 have hs:s.data.toList.length=s.size:=by simp
 by_cases h0:w=0
 ·subst h0
  simp only[OG,if_true,List.length_append] at hl
  simp only[OG,if_true,<- List.append_assoc] at hK
  refine aA.ex fun A=>aA.ex fun c=>aA.sep ?_
  refine aJ Tryz.func319 ?_
  repeat' (first|refine v91 ?_|refine dw yV ?_|refine w5 ?_ ?_|((refine bh fun h=>?_) <;> try exact w6 h)|(refine aF fun hA=>?_;subst hA)|intro _|refine N4 (R:=R) (n:=n) (w:=0) (s:=s) (bs++s.data.toList) (by omega) (by simp;omega) (by exact bE) ⟨rfl,rfl,rfl,rfl,trivial⟩ (fun a C' hE=>?_))
  refine aC ?_
  exact aQ hE hK
 ·simp only[OG,h0,if_false,List.nil_append] at hK
  refine aJ Tryz.func319 ?_
  repeat' (first|refine v91 ?_|refine dw yV ?_|refine w5 ?_ ?_|((refine bh fun h=>?_) <;> try exact w6 h)|(refine aF fun hA=>?_;subst hA)|intro _|refine N4 (R:=R) (n:=n) (w:=w) (s:=s) bs (by omega) (by omega) (by exact bE) ⟨rfl,rfl,rfl,rfl,trivial⟩ (fun a C' hE=>?_))
  refine aC ?_
  exact aQ hE hK
def eJ:List Pc->Int
 | []=>0
 |p::l=>if iU p.n p.w=0 then eJ l else iU p.n p.w
def kP (ps:List Pc):List UInt8:=ps.flatMap fun p=>OG p.n p.w p.s
theorem zL {p:Pc} {l:List Pc} (h:eJ (p::l)=0):iU p.n p.w=0/\eJ l=0:=by
 unfold eJ at h
 split at h
 ·exact⟨by assumption,h⟩
 ·rename_i h';exact absurd h h'
theorem Ea {n w:Int} (h:iU n w=0):0<=w/\w<=4:=by
 unfold iU at h
 split at h
 ·cases h
 ·omega
theorem ML {n w:Int} {s:ByteArray} (h:0<=w/\w<=4):((OG n w s).length:Int)=kK w s:=by
 unfold OG kK
 rw[List.length_append,iT]
 split
 ·subst_vars;simp
 ·rw[if_neg (by omega)];simp;omega
theorem RD:∀(ps:List Pc) (n:Int),0<=n->eJ ps=0->Jj ps n<=4096->n+(kP ps).length=Jj ps n
 | [],n,_,_,_=>by simp[Jj,kP]
 |p::l,n,h0,he,h=>by
  obtain⟨h1,h2⟩:=zL he
  have hl:=ML (n:=p.n) (s:=p.s) (Ea h1)
  unfold Jj at h ⊢
  split at h
  ·omega
  ·rename_i h3
   rw[if_neg h3]
   have hnn:=E2 p.w p.s
   have:=RD l (n+min (kK p.w p.s) 4097) (by omega) h2 h
   have hle:n+min (kK p.w p.s) 4097<=Jj l (n+min (kK p.w p.s) 4097):=by rw[<- this];omega
   rw[<- this]
   simp only[kP,List.flatMap_cons,List.length_append]
   have:min (kK p.w p.s) 4097=kK p.w p.s\/4097<=kK p.w p.s:=by omega
   have hc:((List.flatMap (fun p=>OG p.n p.w p.s) l).length:Int)=(kP l).length:=rfl
   omega
def xG (ps:List Pc):Int:=if eJ ps=0 then(if 4096<Jj ps 0 then 4 else 0) else eJ ps
def uV (ps:List Pc):ByteArray:=if xG ps=0 then⟨(kP ps).toArray⟩ else⟨#[]⟩
theorem FY {ps:List Pc} {p:Pc} (h:ps.drop j=p::ps.drop (j+1)):eJ (ps.drop j)=if iU p.n p.w=0 then eJ (ps.drop (j+1)) else iU p.n p.w:=by rw[h];rfl
theorem Qx {n:Nat} {ps:List Pc} (hv:dE C A pcC ps) (hn:ps.length=n) (hn2:n<1000000000000000) (hK:K (.tuple #[.string (uV ps),I6 (xG ps)]) C):CT 269 #[.slice A n c] C K:=by
 have hz0:=RD ps 0 (by omega)
 refine aJ Tryz.func269 ?_
 repeat' (first|refine v74 ?_|refine w5 ?_ ?_|((refine bh fun h=>?_) <;> try exact w6 h)|(refine aF fun hA=>?_;subst hA)|intro _)
 refine iH (fun m a C'=>∃(j:Nat),j+m=n/\C'=C/\eJ ps=eJ (ps.drop j)/\cW a [(0,.slice A n c),(11,.slice A n c),(12,I6 n),(13,I6 j)]) n (cG n ⟨0,by omega,rfl,rfl,rfl,rfl,rfl,rfl,trivial⟩) ?_
 rintro n1 a C' ⟨j,hj,rfl,hs,ha⟩
 refine gJ _ ha ?_
 simp only[fF]
 by_cases hlt:j<n
 ·obtain⟨p,hp,hd⟩:=i0 (l:=ps) (j:=j) (by omega)
  rw[FY hd] at hs
  repeat' (first|refine v74 ?_|refine w5 ?_ ?_|((refine bh fun h=>?_) <;> try exact w6 h)|(refine aF fun hA=>?_;subst hA)|intro _|(show aA _ 317 _ _ _;refine CA (h:=Ais ?_)))
  ·have h:iU p.n p.w≠0:=by assumption
   rw[if_neg h] at hs
   have he:xG ps=iU p.n p.w:=by unfold xG;rw[if_neg (by rw[hs];exact h),hs]
   have hb:uV ps=⟨#[]⟩:=by unfold uV;rw[if_neg (by rw[he];exact h)]
   rw[he,hb] at hK
   (refine aC ?_;exact aB (hK))
  ·have h:iU p.n p.w=0:=by assumption
   rw[if_pos h] at hs
   exact cG (n1 - 1) ⟨j+1,by omega,rfl,hs,rfl,rfl,rfl,rfl,trivial⟩
 ·obtain rfl:j=n:=by omega
  rw[List.drop_eq_nil_of_le (by omega)] at hs
  have hs0:eJ ps=0:=hs
  repeat' (first|refine v74 ?_|refine w5 ?_ ?_|((refine bh fun h=>?_) <;> try exact w6 h)|(refine aF fun hA=>?_;subst hA)|intro _|(show aA _ 318 _ _ _;refine CA (h:=Adr (by assumption) (by assumption) (by omega) ?_)))
  ·have h:4096<Jj ps 0:=by assumption
   have he:xG ps=4:=by unfold xG;rw[if_pos hs0,if_pos h]
   have hb:uV ps=⟨#[]⟩:=by unfold uV;rw[if_neg (by rw[he];decide)]
   rw[he,hb] at hK
   (refine aC ?_;exact aB (hK))
  ·rename_i b
   have h:Jj ps 0<=4096:=by assumption
   have hz:=hz0 hs0 h
   have he:xG ps=0:=by unfold xG;rw[if_pos hs0,if_neg (by omega)]
   have hb:uV ps=⟨(kP ps).toArray⟩:=by unfold uV;rw[if_pos he]
   rw[he,hb] at hK
   refine iH (fun m a C2=>∃(i:Nat),i+m=j/\C2=VM b (kP (ps.take i))::C'/\eJ (ps.drop i)=0/\cW a [(7,PO b),(8,.func (.func 319) #[] #[PO b]),(27,.slice A j c),(28,I6 j),(29,I6 i)]) j (cG j ⟨0,by omega,rfl,hs0,rfl,rfl,rfl,rfl,rfl,trivial⟩) ?_
   rintro n2 a C2 ⟨i,hi,rfl,hf,ha⟩
   refine gJ _ ha ?_
   simp only[fF]
   by_cases hlt:i<j
   ·obtain⟨p,hp,hd⟩:=i0 (l:=ps) (j:=i) (by omega)
    rw[FY hd] at hf
    split at hf
    ·rename_i hm
     have htk:kP (ps.take (i+1))=kP (ps.take i)++OG p.n p.w p.s:=by
      rw[List.take_add_one,hp];simp[kP]
     have hle:((kP (ps.take (i+1))).length:Int)<=(kP ps).length:=by
      have:kP ps=kP (ps.take (i+1))++kP (ps.drop (i+1)):=by
       unfold kP;rw[<- List.flatMap_append,List.take_append_drop]
      rw[this,List.length_append];omega
     have hpl:=ML (n:=p.n) (s:=p.s) (Ea hm)
     have hss:p.w=0->kK p.w p.s=p.s.size:=fun h0=>by unfold kK;rw[if_pos h0]
     rw[htk,List.length_append] at hle
     repeat' (first|refine v74 ?_|refine w5 ?_ ?_|((refine bh fun h=>?_) <;> try exact w6 h)|(refine aF fun hA=>?_;subst hA)|intro _|(show aA _ 319 _ _ _;refine CA (h:=Ah6 (Ea hm) (by omega) ?_)))
     exact cG (n2 - 1) ⟨i+1,by omega,by rw[htk],hf,rfl,rfl,rfl,rfl,rfl,trivial⟩
    ·rename_i h1;exact absurd hf h1
   ·obtain rfl:i=j:=by omega
    rw[List.take_of_length_le (by omega)]
    refine vX fun A=>vX fun c=>GB ?_
    repeat' (first|refine v74 ?_|refine w5 ?_ ?_|((refine bh fun h=>?_) <;> try exact w6 h)|(refine aF fun hA=>?_;subst hA)|intro _)
    (refine aC ?_;exact aB (hK))
theorem GM {ps:List Pc} (h:xG ps=0):eJ ps=0/\Jj ps 0=(uV ps).size/\(uV ps).size<=4096/\(uV ps).data.toList=kP ps:=by
 have h1:eJ ps=0:=by
  by_cases h2:eJ ps=0
  ·exact h2
  ·unfold xG at h;rw[if_neg h2] at h;exact h
 have h2:Jj ps 0<=4096:=by
  unfold xG at h;rw[if_pos h1] at h
  split at h
  ·cases h
  ·omega
 have h3:=RD ps 0 (by omega) h1 h2
 have h4:uV ps=⟨(kP ps).toArray⟩:=by unfold uV;rw[if_pos h]
 have h5:(uV ps).size=(kP ps).length:=by rw[h4];simp[ByteArray.size]
 exact⟨h1,by omega,by omega,by rw[h4]⟩
theorem N0 {ps:List Pc} (h:¬xG ps=0):uV ps=⟨#[]⟩:=by unfold uV;rw[if_neg h]
end Go.Proofs.YtffnpejdkkohcaaGreat
namespace Go.Proofs.YtffnpejdkkohcaaGreat
open Go Go.Proofs Go.Sl
theorem VF (b:UInt8) (l:List UInt8):o7 (b::l)=b.toNat * 256 ^ l.length+o7 l:=by
 have key:∀(l:List UInt8) (u:Int),l.foldl (fun u b=>u * 256+(b.toNat:Int)) u=u * 256 ^ l.length+o7 l:=by
  intro l
  induction l with
  |nil=>intro u;simp[o7]
  |cons c l ih=>
   intro u
   have h2:o7 (c::l)=l.foldl (fun u b=>u * 256+(b.toNat:Int)) (0 * 256+c.toNat):=rfl
   rw[List.foldl_cons,ih,h2,ih,List.length_cons,Int.pow_succ,Int.add_mul,Int.zero_mul,Int.zero_add,Int.mul_assoc,Int.mul_comm 256,Int.add_assoc]
 have:=key l b.toNat
 show l.foldl (fun u b=>u * 256+(b.toNat:Int)) (0 * 256+b.toNat)=_
 rw[Int.zero_mul,Int.zero_add,this]
theorem V2 (n:Int):((qK n).toNat:Int)=n % 256:=by
 have:=HZ n
 unfold kN at this
 injection this
theorem Us (n:Int) (k:Nat):wB n (k+1:Nat)=qK (n / 2 ^ (8 * k))::wB n (k:Nat):=by
 unfold wB
 rw[Int.toNat_natCast,Int.toNat_natCast,List.range_succ_eq_map,List.map_cons,List.map_map]
 have e1:(8 * (((k+1:Nat):Int) - 1 - ((0:Nat):Int))).toNat=8 * k:=by omega
 rw[e1]
 congr 1
 apply List.map_congr_left
 intro i hi
 simp only[Function.comp]
 have e2:(8 * (((k+1:Nat):Int) - 1 - ((i.succ:Nat):Int))).toNat=(8 * ((k:Int) - 1 - (i:Int))).toNat:=by omega
 rw[e2]
theorem Aco (n:Int):∀k:Nat,o7 (wB n (k:Nat))=n % 256 ^ k
 |0=>by simp[wB,o7] <;> omega
 |k+1=>by
  rw[Us,VF,Aco n k,iT,V2,Int.toNat_natCast]
  have e:(2:Int) ^ (8 * k)=256 ^ k:=by rw[Int.pow_mul];rfl
  rw[e,Int.pow_succ]
  have hq:(0:Int)<256 ^ k:=Int.pow_pos (by decide)
  generalize (256:Int) ^ k=q at *
  have h1:=Int.emod_def n q
  have h2:=Int.emod_def (n / q) 256
  have h3:=Int.emod_def n (q * 256)
  rw[Int.ediv_ediv_of_nonneg (by omega)] at h2
  rw[h1,h2,h3,Int.sub_mul,Int.mul_comm (n / q) q]
  have h4:256 * (n / (q * 256)) * q=q * 256 * (n / (q * 256)):=by rw[Int.mul_comm q 256,Int.mul_assoc,Int.mul_assoc,Int.mul_comm q]
  rw[h4]
  omega
theorem FC (s:ByteArray):s.toList=s.data.toList:=by
 exact ByteArray.toList_eq s
end Go.Proofs.YtffnpejdkkohcaaGreat
namespace Go.Proofs.YtffnpejdkkohcaaGreat
open Go Go.Proofs Go.Sl
attribute [local irreducible] aM eY cU bQ aL aW aA dS dT aZ dR pt ro fN star sep bH
variable {R C:List HP} {K:KP} {s:ByteArray} {n w k l t f:Int} {p i:Nat} {bad:Bool}
theorem yB {t:ByteArray} (h:s.data.toList=t.data.toList):s=t:=by
 apply ByteArray.ext;exact Array.toList_inj.1 h
theorem Agx (h:iU n w=0) (hw:0<w):0<=n/\n<256 ^ w.toNat:=by
 have h4:=Ea h
 have h2:0<=n/\¬0<n / 2 ^ (8 * w).toNat:=by
  unfold iU at h
  split at h
  ·cases h
  ·split at h
   ·cases h
   ·omega
 refine⟨h2.1,?_⟩
 have e:(2:Int) ^ (8 * w).toNat=256 ^ w.toNat:=by
  have:(8 * w).toNat=8 * w.toNat:=by omega
  rw[this,Int.pow_mul];rfl
 rw[e] at h2
 have hq:(0:Int)<256 ^ w.toNat:=Int.pow_pos (by decide)
 generalize (256:Int) ^ w.toNat=q at *
 have h3:=Int.emod_lt_of_pos n hq
 have h4:=Int.emod_def n q
 have h5:n / q=0:=by
  have:0<=n / q:=Int.ediv_nonneg h2.1 (by omega)
  omega
 rw[h5] at h4
 omega
theorem YN (h:lC s.size s bad=true) (hK:K (.string (Ar s.size s bad)) (eW p (Dj s.size s bad) false::R)):CT 314 #[PO p] (eW p s bad::R) K:=by
 refine Agw ?_
 rw[h];exact hK
theorem Akm (h:lC (uW n) s bad=true) (hK:K (I6 (uN n s bad)) (eW p (Dj (uW n) s bad) false::R)):CT 261 #[PO p,I6 n] (eW p s bad::R) K:=by
 refine Alq ?_
 rw[h];exact hK
theorem Ahi (h:lC (uW n) s bad=false) (hK:K (I6 0) (eW p s true::R)):CT 261 #[PO p,I6 n] (eW p s bad::R) K:=by
 refine Alq ?_
 unfold uN Ar Dj
 rw[h];exact hK
theorem Uh {at_:Int} (h0:0<=at_) (h1:0<=n) (h2:at_+n<=s.size):lC n (s.extract at_.toNat s.size) false=true/\Ar n (s.extract at_.toNat s.size) false=s.extract at_.toNat (at_+n).toNat/\Dj n (s.extract at_.toNat s.size) false=s.extract (at_+n).toNat s.size:=by
 have hok:lC n (s.extract at_.toNat s.size) false=true:=by
  unfold lC
  simp
  omega
 refine⟨hok,?_,?_⟩
 ·unfold Ar
  rw[hok]
  apply yB
  simp
  congr 1
  omega
 ·unfold Dj
  rw[hok]
  apply yB
  simp
  have e:at_.toNat+n.toNat=(at_+n).toNat:=by omega
  rw[e]
  congr 1
  omega
theorem Ahj {u:ByteArray} (h:bad=true\/n<0\/u.size<n):lC n u bad=false:=by
 unfold lC
 rcases h with rfl|h|h
 ·rfl
 ·simp;intro;omega
 ·simp;intro;omega
def YQ:List (Bool×Bool×Int×Int):= [(false,true,-1,1),(false,true,-1,1),(false,true,8,0),(false,true,8,0),(false,true,4,0),(true,false,-1,0),(true,false,0,0),(true,false,8,0),(true,false,8,0),(true,false,8,0),(true,true,4,0),(false,true,4,0)]
def Aid:List Value:=YQ.flatMap fun x=> [.bool x.1,.bool x.2.1,I6 x.2.2.1,I6 x.2.2.2]
theorem O0 (hK:K (.agg Aid.toArray) R):CT 295 #[] R K:=by
 refine aJ Tryz.func295 ?_
 repeat' (first|refine v5 ?_|refine w5 ?_ ?_|((refine bh fun h=>?_) <;> try exact w6 h)|(refine aF fun hA=>?_;subst hA)|intro _)
 (refine aC ?_;exact aB (hK))
def mK (k:Int):Bool×Bool×Int×Int:=if k<0\/12<=k then(false,false,0,0) else YQ.getD k.toNat (false,false,0,0)
def De (k:Int):Int:=if k<0\/12<=k then 3 else 0
theorem Lj (hK:K (.tuple #[.agg #[.bool (mK k).1,.bool (mK k).2.1,I6 (mK k).2.2.1,I6 (mK k).2.2.2],I6 (De k)]) R):CT 233 #[I6 k] R K:=by
 rcases(by omega:(k<0\/12<=k)\/k=0\/k=1\/k=2\/k=3\/k=4\/k=5\/k=6\/k=7\/k=8\/k=9\/k=10\/k=11) with h|h|h|h|h|h|h|h|h|h|h|h|h
 ·have e1:mK k=(false,false,0,0):=by unfold mK;rw[if_pos h]
  have e2:De k=3:=by unfold De;rw[if_pos h]
  rw[e1,e2] at hK
  refine aJ Tryz.func233 ?_
  repeat' (first|refine v82 ?_|refine w5 ?_ ?_|((refine bh fun h=>?_) <;> try exact w6 h)|(refine aF fun hA=>?_;subst hA)|intro _|(show aA _ 295 _ _ _;refine CA (h:=O0 ?_)))
  all_goals(refine aC ?_;exact aB (hK))
 all_goals
  subst h
  refine aJ Tryz.func233 ?_
  repeat' (first|refine v82 ?_|refine w5 ?_ ?_|((refine bh fun h=>?_) <;> try exact w6 h)|(refine aF fun hA=>?_;subst hA)|intro _|(show aA _ 295 _ _ _;refine CA (h:=O0 ?_)))
  (refine aC ?_;exact aB (hK))
def D5:List (Nat×Nat):= [(0,0),(1,0),(2,0),(3,0),(4,0),(5,0),(6,0),(7,0)]
theorem Ps (hK:K (.tuple #[.bool (mK k).1,.bool (mK k).2.1,I6 (De k)]) R):CT 153 #[I6 k] R K:=by
 refine aJ Tryz.func153 ?_
 repeat' (first|refine v31 ?_|refine dw D5 ?_|refine w5 ?_ ?_|((refine bh fun h=>?_) <;> try exact w6 h)|(refine aF fun hA=>?_;subst hA)|intro _|(show aA _ 233 _ _ _;refine CA (h:=Lj ?_)))
 (refine aC ?_;exact aB (hK))
def rB (n w:Int):ByteArray:=if n<0 then⟨#[]⟩ else⟨(wB n w).toArray⟩
def rOk (n w:Int):Bool:=if n<0 then false else decide (n / 256 ^ w.toNat=0)
theorem KY (n:Int):qK (n % 256)=qK n:=by
 unfold qK
 congr 1
 omega
theorem LM (n:Int) (i:Nat):n / 256 ^ i / 256=n / 256 ^ (i+1):=by
 rw[Int.pow_succ,Int.ediv_ediv_of_nonneg (Int.le_of_lt (Int.pow_pos (by decide)))]
theorem Ajy (k:Nat):(2:Int) ^ (8 * k)=256 ^ k:=by rw[Int.pow_mul];rfl
theorem Acz (hw:0<=w/\w<=100) (hn:n<=9223372036854775807) (hK:K (.tuple #[.string (rB n w),.bool (rOk n w)]) R):CT 209 #[I6 n,I6 w] R K:=by
 unfold rB rOk at hK
 refine aJ Tryz.func209 ?_
 repeat' (first|refine v38 ?_|refine w5 ?_ ?_|((refine bh fun h=>?_) <;> try exact w6 h)|(refine aF fun hA=>?_;subst hA)|intro _)
 ·rw[if_pos (by assumption),if_pos (by assumption)] at hK
  (refine aC ?_;exact aB (hK))
 have h0:0<=n:=by assumption
 rw[if_neg (by omega),if_neg (by omega)] at hK
 refine iH (fun m a C'=>∃(i:Nat) (out:ByteArray) (q:Int),(i:Int)+m=w/\C'=R/\out.data.toList=wB n i/\q=n / 256 ^ i/\0<=q/\q<=9223372036854775807/\cW a [(0,I6 q),(1,I6 w),(6,.string out),(7,I6 i)]) w.toNat
  (cG w.toNat ⟨0,⟨#[]⟩,n,by omega,rfl,rfl,by simp,h0,hn,rfl,rfl,rfl,rfl,trivial⟩) ?_
 rintro m a C' ⟨i,out,q,hi,rfl,ho,hq,q0,q1,ha⟩
 refine gJ _ ha ?_
 simp only[fF]
 have hsz:out.size=i:=by
  have:out.data.toList.length=out.size:=by simp
  rw[<- this,ho,iT];omega
 by_cases hlt:(i:Int)<w
 ·have hq2:q / 256=n / 256 ^ (i+1):=by rw[hq,LM]
  repeat' (first|refine v38 ?_|refine w5 ?_ ?_|((refine bh fun h=>?_) <;> try exact w6 h)|(refine aF fun hA=>?_;subst hA)|intro _)
  refine cG (m - 1) ⟨i+1,_,q / 256,by omega,rfl,?_,hq2,by omega,by omega,rfl,rfl,rfl,rfl,trivial⟩
  rw[Us,Ajy,<- hq]
  simp[ho,KY]
 ·have:w=i:=by omega
  subst this
  have e:out=⟨(wB n i).toArray⟩:=by apply ByteArray.ext;apply Array.toList_inj.1;simp[ho]
  subst e
  repeat' (first|refine v38 ?_|refine w5 ?_ ?_|((refine bh fun h=>?_) <;> try exact w6 h)|(refine aF fun hA=>?_;subst hA)|intro _)
  rw[Int.toNat_natCast,<- hq] at hK
  (refine aC ?_;exact aB (kv hK (by congr 3)))
theorem Bu (hw:0<=w/\w<=100) (hn:n<=9223372036854775807) (hK:K (.string (rB n w)) R):CT 128 #[I6 n,I6 w] R K:=by
 refine aJ Tryz.func128 ?_
 repeat' (first|refine v0 ?_|refine w5 ?_ ?_|((refine bh fun h=>?_) <;> try exact w6 h)|(refine aF fun hA=>?_;subst hA)|intro _|(show aA _ 209 _ _ _;refine CA (h:=Acz (by assumption) (by assumption) ?_)))
 (refine aC ?_;exact aB (hK))
theorem X9 (hK:K (.bool (decide (5<=k) && decide (k<=10))) R):CT 41 #[I6 k] R K:=by
 refine aJ Tryz.func41 ?_
 repeat' (first|refine v1 ?_|refine w5 ?_ ?_|((refine bh fun h=>?_) <;> try exact w6 h)|(refine aF fun hA=>?_;subst hA)|intro _)
 all_goals(refine aC ?_;exact aB (kb hK (by simp <;> omega)))
theorem Afv (hK:K (.bool (decide (k<=4) || decide (10<=k))) R):CT 42 #[I6 k] R K:=by
 refine aJ Tryz.func42 ?_
 repeat' (first|refine v1 ?_|refine w5 ?_ ?_|((refine bh fun h=>?_) <;> try exact w6 h)|(refine aF fun hA=>?_;subst hA)|intro _)
 all_goals(refine aC ?_;exact aB (kb hK (by simp <;> omega)))
def DD (k:Int):Int:=if k=2\/k=3\/k=7\/k=8\/k=9 then 8 else if k=4\/k=10\/k=11 then 4 else if k=6 then 0 else -1
theorem FR (k:Int) (h0:0<=k) (h1:k<=11):(mK k).1=(decide (5<=k) && decide (k<=10))/\(mK k).2.1=(decide (k<=4) || decide (10<=k))/\(mK k).2.2.1=DD k/\De k=0/\(mK k).2.2.2=(if k<=1 then 1 else 0):=by
 rcases(by omega:k=0\/k=1\/k=2\/k=3\/k=4\/k=5\/k=6\/k=7\/k=8\/k=9\/k=10\/k=11) with h|h|h|h|h|h|h|h|h|h|h|h <;> subst h <;> decide
def Yo (l t f s:Int):List Pc:= [⟨l,3,⟨#[]⟩⟩,⟨t,1,⟨#[]⟩⟩,⟨f,1,⟨#[]⟩⟩,⟨s,4,⟨#[]⟩⟩]
def NN (l t f s:Int):Bool:=decide (0<=l) && decide (l<16777216) && decide (0<=t) && decide (t<256) && decide (0<=f) && decide (f<256) && decide (0<=s) && decide (s<=2147483647)
def J4 (l t f s:Int):ByteArray:=if 2147483647<s then⟨#[]⟩ else uV (Yo l t f s)
def J1 (l t f s:Int):Int:=if 2147483647<s then 2 else if xG (Yo l t f s)=0 then 0 else 2
def Fl:List (Nat×Nat):= [(0,0),(1,0),(2,1),(3,1),(4,1),(5,1),(6,2),(7,2),(8,1),(9,3),(10,3),(11,1),(12,1),(13,1),(14,0),(15,0),(16,0),(17,0),(18,0)]
theorem Aeg {s:Int} (hK:K (.tuple #[.string (J4 l t f s),I6 (J1 l t f s)]) R):CT 206 #[.agg #[I6 l,I6 t,I6 f,I6 s]] R K:=by
 unfold J4 J1 at hK
 refine aJ Tryz.func206 ?_
 repeat' (first|refine Wy ?_|refine dw Fl ?_|refine w5 ?_ ?_|((refine bh fun h=>?_) <;> try exact w6 h)|(refine aF fun hA=>?_;subst hA)|intro _|(show aA _ 270 _ _ _;refine CA (h:=Abl ?_))|(show aA _ 269 _ _ _;refine CA (h:=Qx (ps:=Yo l t f s) (by exact kU) (by exact rfl) (by decide) ?_)))
 all_goals first
  |(rw[if_pos (by assumption),if_pos (by assumption)] at hK;(refine aC ?_;exact aB (hK)))
  |(rw[if_neg (by omega),if_neg (by omega),if_pos (by assumption)] at hK;(refine aC ?_;exact aB (hK)))
  |(rw[if_neg (by omega),if_neg (by omega),if_neg (by assumption),N0 (by assumption)] at hK;(refine aC ?_;exact aB (hK)))
def F7:List (Nat×Nat):= [(0,0),(1,0),(2,1),(3,1),(4,1),(5,1),(7,2),(8,2),(9,1),(11,3),(12,3),(13,1),(6,2),(10,1),(14,0),(15,0)]
theorem Afp {s:Int} (hl:l<=9223372036854775807) (ht:t<=9223372036854775807) (hf:f<=9223372036854775807) (hs:s<=9223372036854775807) (hK:K (.string (rB l 3++rB t 1++rB f 1++rB s 4)) R):CT 59 #[.agg #[I6 l,I6 t,I6 f,I6 s]] R K:=by
 have rb:∀n w:Int,0<=w->w<=4->(rB n w).size<=4:=fun n w h0 h1=>by
  unfold rB;split
  ·decide
  ·rw[pJ,iT];omega
 have b1:=rb l 3 (by decide) (by decide)
 have b2:=rb t 1 (by decide) (by decide)
 have b3:=rb f 1 (by decide) (by decide)
 have b4:=rb s 4 (by decide) (by decide)
 refine aJ Tryz.func59 ?_
 repeat' (first|refine Wy ?_|refine dw F7 ?_|refine w5 ?_ ?_|((refine bh fun h=>?_) <;> try exact w6 h)|(refine aF fun hA=>?_;subst hA)|intro _|(show aA _ 128 _ _ _;refine CA (h:=Bu (by decide) (by assumption) ?_)))
 (refine aC ?_;exact aB (hK))
section
def sub (s:ByteArray) (i j:Nat):ByteArray:=s.extract i j
def qL (s:ByteArray) (i j:Nat):Int:=o7 (s.extract i j).data.toList
theorem Lb {j:Nat} (hw:1<=w/\w<=4) (hj:(j:Int)=i+w) (h:j<=s.size) (hK:K (I6 (qL s i j)) (eW p (s.extract j s.size) false::R)):CT 261 #[PO p,I6 w] (eW p (s.extract i s.size) false::R) K:=by
 have hW:uW w=w:=by unfold uW;rw[if_neg (by omega)]
 obtain⟨t1,t2,t3⟩:=Uh (s:=s) (at_:=i) (n:=w) (by omega) (by omega) (by omega)
 have e:((i:Int)+w).toNat=j:=by omega
 rw[e] at t2 t3
 rw[Int.toNat_natCast] at t1 t2 t3
 refine Akm (by rw[hW];exact t1) ?_
 rw[hW,t3]
 unfold uN
 rw[hW,t2]
 exact hK
theorem NZ (h:i+1<=s.size) (hK:K (I6 (qL s i (i+1))) (eW p (s.extract (i+1) s.size) false::R)):CT 261 #[PO p,I6 1] (eW p (s.extract i s.size) false::R) K:=
 Lb (by decide) (by omega) h hK
theorem Alm (h:i+3<=s.size) (hK:K (I6 (qL s i (i+3))) (eW p (s.extract (i+3) s.size) false::R)):CT 261 #[PO p,I6 3] (eW p (s.extract i s.size) false::R) K:=
 Lb (by decide) (by omega) h hK
theorem JS (h:i+4<=s.size) (hK:K (I6 (qL s i (i+4))) (eW p (s.extract (i+4) s.size) false::R)):CT 261 #[PO p,I6 4] (eW p (s.extract i s.size) false::R) K:=
 Lb (by decide) (by omega) h hK
theorem Adt (hw:1<=w/\w<=4) (hi:i<=s.size) (h:(s.size:Int)<i+w) (hK:K (I6 0) (eW p (s.extract i s.size) true::R)):CT 261 #[PO p,I6 w] (eW p (s.extract i s.size) false::R) K:=by
 have hW:uW w=w:=by unfold uW;rw[if_neg (by omega)]
 refine Ahi ?_ hK
 rw[hW]
 exact Ahj (.inr (.inr (by simp;omega)))
theorem Adz (hK:K (I6 0) (eW p s true::R)):CT 261 #[PO p,I6 w] (eW p s true::R) K:=
 Ahi (Ahj (.inl rfl)) hK
theorem uQ (hK:∀r,K (PO r) (eW r (s.extract 0 s.size) false::R)):CT 260 #[.string s] R K:=by
 refine TT s fun r=>?_
 have e:s.extract 0 s.size=s:=by apply yB;simp
 have:=hK r
 rwa[e] at this
def Vk (s:ByteArray):Value:=if s.size<9\/2147483647<qL s 5 9 then .tuple #[.agg #[I6 0,I6 0,I6 0,I6 0],I6 (if s.size<9 then 5 else 6)] else .tuple #[.agg #[I6 (qL s 0 3),I6 (qL s 3 4),I6 (qL s 4 5),I6 (qL s 5 9)],I6 0]
attribute [local irreducible] ByteArray.extract qL
theorem Af6 (hK:K (Vk s) R):CT 180 #[.string s] R K:=by
 refine aJ Tryz.func180 ?_
 rcases(by omega:s.size<3\/s.size=3\/s.size=4\/(5<=s.size/\s.size<9)\/9<=s.size) with h|h|h|h|h
 all_goals
  repeat' (first|refine v75 ?_|refine w5 ?_ ?_|((refine bh fun h=>?_) <;> try exact w6 h)|(refine aF fun hA=>?_;subst hA)|intro _|(show aA _ 260 _ _ _;refine CA (h:=uQ (fun p=>?_)))|(show aA _ 261 _ _ _;refine CA (h:=Alm (by omega) ?_))|(show aA _ 261 _ _ _;refine CA (h:=NZ (by omega) ?_))|(show aA _ 261 _ _ _;refine CA (h:=JS (by omega) ?_))|(show aA _ 261 _ _ _;refine CA (h:=Adt (by decide) (by omega) (by omega) ?_))|(show aA _ 261 _ _ _;refine CA (h:=Adz ?_))|(show aA _ 262 _ _ _;refine CA (h:=Ab1 _ _ _ ?_)))
 all_goals first
  |(refine aC ?_;exact aB (kv hK (by unfold Vk;rw[if_pos (Or.inl (by omega)),if_pos (by omega)])))
  |(refine aC ?_;exact aB (kv hK (by unfold Vk;rw[if_pos (Or.inr (by assumption)),if_neg (by omega)])))
  |(refine aC ?_;exact aB (kv hK (by unfold Vk;rw[if_neg (fun h=>h.elim (fun h=>by omega) (fun h=>absurd h (Int.not_lt.2 (by assumption))))])))
end
end Go.Proofs.YtffnpejdkkohcaaGreat
