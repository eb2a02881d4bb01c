/- A part of the proof: lemmas; each with the conditions that it states. -/
import Derived.Test.YtifgibijcmppmaaGreatMaf
set_option linter.unusedVariables false
set_option linter.unusedSimpArgs false
section
namespace Go.Proofs.YtifgibijcmppmaaGreat
open Go Go.Proofs Go.Sl
set_option maxRecDepth 100000
set_option maxHeartbeats 40000000
attribute [local irreducible] aM fG cV bP aN aW aA dP dX aV dO pt ro eW star sep bH
variable {R:List HP} {K:Value→List HP→Prop}
def eM (p:Nat) (s:ByteArray) (bad:Bool):HP:=pt p [.string s,.bool bad] 404
theorem UF (s:ByteArray) (hK:∀r,K (.pointer (some ⟨r,0,none⟩)) (eM r s false::R)):aA Tryz.prog 326 #[.string s] R K:=by
 refine aH Tryz.func326 ?_
 repeat' (first|refine v6 ?_|refine wr ?_|refine w5 ?_ ?_|((refine bh fun h=>?_) <;> try exact w6 h)|(refine aE fun hA=>?_;subst hA)|intro _)
 (refine aC ?_;exact aB (hK _))
theorem Zr (p:Nat) (s:ByteArray) (bad:Bool) (hK:K (.bool bad) (eM p s bad::R)):aA Tryz.prog 328 #[.pointer (some ⟨p,0,none⟩)] (eM p s bad::R) K:=by
 unfold eM at *
 refine aH Tryz.func328 ?_
 repeat' (first|refine v23 ?_|refine wr ?_|refine w5 ?_ ?_|((refine bh fun h=>?_) <;> try exact w6 h)|(refine aE fun hA=>?_;subst hA)|intro _)
 (refine aC ?_;exact aB (hK))
theorem Lj (p:Nat) (s:ByteArray) (bad:Bool) (hK:K (.int .i64 s.size) (eM p s bad::R)):aA Tryz.prog 380 #[.pointer (some ⟨p,0,none⟩)] (eM p s bad::R) K:=by
 unfold eM at *
 refine aH Tryz.func380 ?_
 repeat' (first|refine v4 ?_|refine wr ?_|refine w5 ?_ ?_|((refine bh fun h=>?_) <;> try exact w6 h)|(refine aE fun hA=>?_;subst hA)|intro _)
 (refine aC ?_;exact aB (hK))
def kO (n:Int) (s:ByteArray) (bad:Bool):Bool:=!bad && decide (0≤n) && decide (n≤s.size)
def Ad (n:Int) (s:ByteArray) (bad:Bool):ByteArray:=match kO n s bad with
 |true=>s.extract 0 n.toNat
 |false=>⟨#[]⟩
def Eb (n:Int) (s:ByteArray) (bad:Bool):ByteArray:=match kO n s bad with
 |true=>s.extract n.toNat s.size
 |false=>s
theorem Uw {p:Nat} {n:Int} {s:ByteArray} {bad:Bool} (hK:K (.string (Ad n s bad)) (eM p (Eb n s bad) (!kO n s bad)::R)):aA Tryz.prog 378 #[.pointer (some ⟨p,0,none⟩),.int .i64 n] (eM p s bad::R) K:=by
 refine aH Tryz.func378 ?_
 repeat' (first|refine v62 ?_|refine wr ?_|refine w5 ?_ ?_|((refine bh fun h=>?_) <;> try exact w6 h)|(refine aE fun hA=>?_;subst hA)|intro _|(show aA _ 328 _ _ _;refine CA (h:=Zr _ _ _ ?_)))
 all_goals
  first
  |(have e:kO n s bad=false:=by(unfold kO;simp[*] <;> omega))
  |(have e:kO n s bad=true:=by(unfold kO;simp[*] <;> omega))
  simp only[Ad,Eb,e,Bool.not_true,Bool.not_false] at hK
  subst_vars
  (refine aC ?_;exact aB (hK))
theorem Ad5 {p:Nat} {s:ByteArray} {bad:Bool} (hK:K (.string (Ad s.size s bad)) (eM p (Eb s.size s bad) (!kO s.size s bad)::R)):aA Tryz.prog 379 #[.pointer (some ⟨p,0,none⟩)] (eM p s bad::R) K:=by
 refine aH Tryz.func379 ?_
 repeat' (first|refine v0 ?_|refine wr ?_|refine w5 ?_ ?_|((refine bh fun h=>?_) <;> try exact w6 h)|(refine aE fun hA=>?_;subst hA)|intro _|(show aA _ 380 _ _ _;refine CA (h:=Lj _ _ _ ?_))|(show aA _ 378 _ _ _;refine CA (h:=Uw ?_)))
 (refine aC ?_;exact aB (hK))
end Go.Proofs.YtifgibijcmppmaaGreat
namespace Go.Proofs.YtifgibijcmppmaaGreat
open Go Go.Proofs Go.Sl
set_option maxRecDepth 100000
set_option maxHeartbeats 40000000
attribute [local irreducible] aM fG cV bP aN aW aA dP dX aV dO pt ro eW star sep bH
variable {R:List HP} {K:Value→List HP→Prop}
def zM (l:List UInt8):Int:=l.foldl (fun u b=>u * 256+b.toNat) 0
theorem EZ (l:List UInt8) (b:UInt8):zM (l++ [b])=zM l * 256+b.toNat:=by simp[zM]
theorem UX (l:List UInt8):0≤zM l:=by
 have key:∀n (l:List UInt8),l.length=n→0≤zM l:=by
  intro n
  induction n with
  |zero=>intro l hl;rw[List.length_eq_zero_iff.1 hl];decide
  |succ n ih=>
   intro l hl
   have hne:l≠ []:=by intro h;rw[h] at hl;cases hl
   rw[← List.dropLast_concat_getLast hne,EZ]
   have:=ih l.dropLast (by simp[hl])
   omega
 exact key _ l rfl
theorem Uq (l:List UInt8):zM l<256 ^ l.length:=by
 have key:∀n (l:List UInt8),l.length=n→zM l<256 ^ n:=by
  intro n
  induction n with
  |zero=>intro l hl;rw[List.length_eq_zero_iff.1 hl];decide
  |succ n ih=>
   intro l hl
   have hne:l≠ []:=by intro h;rw[h] at hl;cases hl
   rw[← List.dropLast_concat_getLast hne,EZ]
   have:=ih l.dropLast (by simp[hl])
   have:=(l.getLast hne).toNat_lt
   rw[Int.pow_succ]
   omega
 exact key _ l rfl
theorem Ye (l:List UInt8) (h:l.length≤4):0≤zM l∧zM l<4294967296:=by
 refine⟨UX l,Int.lt_of_lt_of_le (Uq l) ?_⟩
 have:(256:Int) ^ l.length≤256 ^ 4:=by exact_mod_cast Nat.pow_le_pow_right (by decide) h
 exact this
theorem Xk (l:List UInt8) (j:Nat) (b:UInt8) (hb:l[j]?=some b):zM (l.take (j+1))=zM (l.take j) * 256+b.toNat:=by rw[List.take_add_one,hb];exact EZ _ _
theorem Ak1 {l:List UInt8} {j:Nat} (h:j<l.length):∃b,l[j]?=some b:=⟨_,List.getElem?_eq_getElem h⟩
def uW (n:Int):Int:=if n<1∨4<n then -1 else n
def uN (n:Int) (s:ByteArray) (bad:Bool):Int:=zM (Ad (uW n) s bad).data.toList
theorem VJ (n:Int) (s:ByteArray) (bad:Bool):(Ad n s bad).data.toList.length≤n.toNat:=by
 unfold Ad
 split
 ·simp;omega
 ·simp
theorem Ajh {Q:Exit→Fr→List HP→Prop} {a:Fr} {C:List HP} (u:ByteArray) (r N:Nat) (e:TypeId) (hu:u.data.toList.length≤4) (ha:dC a [(17,.slice (some ⟨r,0,none⟩) u.size N),(18,.int .i64 u.size),(19,.int .i64 0),(5,.int .i64 0)])
  (hC:∃C',C=bU (some ⟨r,0,none⟩) N e dF u.data.toList::C') (hK:∀a,Q (.exit 0) (fN a [(5,.int .i64 (zM u.data.toList))]) C):fG Tryz.prog (SC Tryz.f327 0) Q a C:=by
 obtain⟨C',rfl⟩:=hC
 have hsz:u.data.toList.length=u.size:=by simp
 refine iL (fun m a C=>∃j,j+m=u.size∧C=bU (some ⟨r,0,none⟩) N e dF u.data.toList::C'∧dC a [(17,.slice (some ⟨r,0,none⟩) u.size N),(18,.int .i64 u.size),(19,.int .i64 (j:Nat)),(5,.int .i64 (zM (u.data.toList.take j)))]) u.size
  (cC u.size ⟨0,by omega,rfl,ha⟩) ?_
 rintro n a C ⟨j,hj,rfl,ha⟩
 refine gV _ ha ?_
 simp only[fN]
 have hb:=Ye (u.data.toList.take j) (by simp;omega)
 by_cases hlt:j<u.size
 ·obtain⟨b,hb⟩:=Ak1 (l:=u.data.toList) (j:=j) (by omega)
  have hb2:=b.toNat_lt
  repeat' (first|refine w1 ?_|refine w5 ?_ ?_|((refine bh fun h=>?_) <;> try exact w6 h)|(refine aE fun hA=>?_;subst hA)|intro _)
  show aV _ _ _ _
  exact cC (n - 1) ⟨j+1,by omega,rfl,rfl,rfl,rfl,by rw[Xk _ _ _ hb];rfl,trivial⟩
 ·obtain rfl:j=u.size:=by omega
  repeat' (first|refine w1 ?_|refine w5 ?_ ?_|((refine bh fun h=>?_) <;> try exact w6 h)|(refine aE fun hA=>?_;subst hA)|intro _)
  exact Lr (p:=fun a=>Q (.exit 0) a _) [(5,.int .i64 (zM u.data.toList))] ⟨by rw[List.take_of_length_le (by omega)];rfl,trivial⟩ (hK _)
theorem Akf {p:Nat} {n:Int} {s:ByteArray} {bad:Bool} (hK:K (.int .i64 (uN n s bad)) (eM p (Eb (uW n) s bad) (!kO (uW n) s bad)::R)):aA Tryz.prog 327 #[.pointer (some ⟨p,0,none⟩),.int .i64 n] (eM p s bad::R) K:=by
 unfold uN uW at hK
 refine aH Tryz.func327 ?_
 repeat' (first|refine v86 ?_|refine wr ?_|refine w5 ?_ ?_|((refine bh fun h=>?_) <;> try exact w6 h)|(refine aE fun hA=>?_;subst hA)|intro _|(show aA _ 378 _ _ _;refine CA (h:=Uw ?_))|refine Ajh _ _ _ _ ?_ ⟨rfl,rfl,rfl,rfl,trivial⟩ ⟨_,rfl⟩ (fun a=>?_))
 all_goals first
  |(rw[if_pos (by omega)] at hK;(refine aC ?_;exact aB (hK)))
  |(rw[if_neg (by omega)] at hK;(refine aC ?_;exact aB (hK)))
  |exact Nat.le_trans (VJ _ _ _) (by omega)
end Go.Proofs.YtifgibijcmppmaaGreat
end
namespace Go.Proofs.YtifgibijcmppmaaGreat
open Go Go.Proofs Go.Sl
set_option maxRecDepth 100000
set_option maxHeartbeats 40000000
attribute [local irreducible] aM fG cV bP aN aW aA dP dX aV dO pt ro eW star sep bH
section
variable {R C:List HP} {K:Value→List HP→Prop}
structure Pc where
 n:Int
 w:Int
 s:ByteArray
def pcD:List Value→Option Pc
 | [.int .i64 n,.int .i64 w,.string s]=>some ⟨n,w,s⟩
 |_=>none
theorem Ai2 (cs:List Value) (y:Pc) (h:pcD cs=some y): [.int .i64 y.n,.int .i64 y.w,.string y.s]=cs:=by
 unfold pcD at h
 split at h
 ·cases h;rfl
 ·cases h
def pcC:tG Pc:= { enc:=fun p=> [.int .i64 p.n,.int .i64 p.w,.string p.s],sz:=3,dec:=pcD,len:=fun _=>rfl,one:=fun _=>rfl,ok:=Ai2 }
def iG (n w:Int):Int:=if w<0∨4<w then 2 else if 0<w∧(n<0∨0<n / 2 ^ (8 * w).toNat) then 3 else 0
def jS (w:Int) (s:ByteArray):Int:=if w=0 then s.size else if w<0∨4<w then 0 else w
def wB (n w:Int):List UInt8:=(List.range w.toNat).map fun(i:Nat)=>O2 (n / 2 ^ (8 * (w - 1 - (i:Int))).toNat)
def PW (n w:Int) (s:ByteArray):List UInt8:=(if w=0 then s.data.toList else [])++wB n w
theorem Acg {n w:Int} (hK:K (.agg #[.int .i64 n,.int .i64 w,.string ⟨#[]⟩]) R):aA Tryz.prog 336 #[.int .i64 n,.int .i64 w] R K:=by
 refine aH Tryz.func336 ?_
 repeat' (first|refine v5 ?_|refine wr ?_|refine w5 ?_ ?_|((refine bh fun h=>?_) <;> try exact w6 h)|(refine aE fun hA=>?_;subst hA)|intro _)
 (refine aC ?_;exact aB (hK))
theorem Aky {s:ByteArray} (hK:K (.agg #[.int .i64 0,.int .i64 0,.string s]) R):aA Tryz.prog 349 #[.string s] R K:=by
 refine aH Tryz.func349 ?_
 repeat' (first|refine v5 ?_|refine wr ?_|refine w5 ?_ ?_|((refine bh fun h=>?_) <;> try exact w6 h)|(refine aE fun hA=>?_;subst hA)|intro _)
 (refine aC ?_;exact aB (hK))
theorem Ah6 {n w:Int} {s:ByteArray} (hK:K (.int .i64 (iG n w)) R):aA Tryz.prog 382 #[.agg #[.int .i64 n,.int .i64 w,.string s]] R K:=by
 refine aH Tryz.func382 ?_
 repeat' (first|refine v56 ?_|refine wr ?_|refine w5 ?_ ?_|((refine bh fun h=>?_) <;> try exact w6 h)|(refine aE fun hA=>?_;subst hA)|intro _)
 all_goals(refine aC ?_;exact aB (ki hK (by unfold iG;(repeat' split) <;> first|rfl|omega|(exfalso;omega)|simp_all)))
theorem Abd {n w:Int} {s:ByteArray} (hK:K (.int .i64 (jS w s)) R):aA Tryz.prog 397 #[.agg #[.int .i64 n,.int .i64 w,.string s]] R K:=by
 refine aH Tryz.func397 ?_
 repeat' (first|refine v23 ?_|refine wr ?_|refine w5 ?_ ?_|((refine bh fun h=>?_) <;> try exact w6 h)|(refine aE fun hA=>?_;subst hA)|intro _)
 all_goals(refine aC ?_;exact aB (ki hK (by unfold jS;(repeat' split) <;> first|rfl|omega|(exfalso;omega)|simp_all)))
def I9:List Pc→Int→Int
 | [],n=>n
 |p::l,n=>if 4096<n+min (jS p.w p.s) 4097 then 4097 else I9 l (n+min (jS p.w p.s) 4097)
theorem EK (w:Int) (s:ByteArray):0≤jS w s:=by unfold jS;(repeat' split) <;> first|rfl|omega|(exfalso;omega)|simp_all
theorem iS {α:Type} {l:List α} {j:Nat} (h:j<l.length):∃x,l[j]?=some x∧l.drop j=x::l.drop (j+1):=⟨l[j],List.getElem?_eq_getElem h,List.drop_eq_getElem_cons h⟩
theorem Adm {A:Option Addr} {n c:Nat} {ps:List Pc} (hv:dL C A pcC ps) (hn:ps.length=n) (hn2:n<1000000000000000) (hK:K (.int .i64 (I9 ps 0)) C):aA Tryz.prog 383 #[.slice A n c] C K:=by
 refine aH Tryz.func383 ?_
 repeat' (first|refine v55 ?_|refine wr ?_|refine w5 ?_ ?_|((refine bh fun h=>?_) <;> try exact w6 h)|(refine aE fun hA=>?_;subst hA)|intro _)
 refine iL (fun m a C'=>∃(j:Nat) (t:Int),j+m=n∧C'=C∧0≤t∧t≤4096∧I9 ps 0=I9 (ps.drop j) t∧dC a [(6,.slice A n c),(7,.int .i64 n),(8,.int .i64 j),(3,.int .i64 t)]) n (cC n ⟨0,0,by omega,rfl,by omega,by omega,rfl,rfl,rfl,rfl,rfl,trivial⟩) ?_
 rintro n1 a C' ⟨j,t,hj,rfl,h0,h1,hs,ha⟩
 refine gV _ ha ?_
 simp only[fN]
 by_cases hlt:j<n
 ·obtain⟨p,hp,hd⟩:=iS (l:=ps) (j:=j) (by omega)
  have hnn:=EK p.w p.s
  rw[hd,I9] at hs
  repeat' (first|refine v55 ?_|refine wr ?_|refine w5 ?_ ?_|((refine bh fun h=>?_) <;> try exact w6 h)|(refine aE fun hA=>?_;subst hA)|intro _|(show aA _ 397 _ _ _;refine CA (h:=Abd ?_)))
  ·rw[if_pos (by assumption)] at hs
   (refine aC ?_;exact aB (ki hK hs))
  ·rw[if_neg (by omega)] at hs
   exact cC (n1 - 1) ⟨j+1,_,by omega,rfl,by omega,by omega,hs,rfl,rfl,rfl,rfl,trivial⟩
 ·obtain rfl:j=n:=by omega
  repeat' (first|refine v55 ?_|refine wr ?_|refine w5 ?_ ?_|((refine bh fun h=>?_) <;> try exact w6 h)|(refine aE fun hA=>?_;subst hA)|intro _)
  (refine aC ?_;exact aB (ki hK (by rw[hs,List.drop_eq_nil_of_le (by omega)];rfl)))
def Wi (b:Nat) (bs:List UInt8):HP:=eW fun A=>eW fun c=>sep (pt b [.slice A bs.length c] 214) (bU A c 5 dF bs)
theorem Aew (n w:Int) (j:Nat) (h:(j:Int)<w):(wB n w).take (j+1)=(wB n w).take j++ [O2 (n / 2 ^ (8 * (w - 1 - (j:Int))).toNat)]:=by
 unfold wB
 rw[List.take_add_one,List.getElem?_map,List.getElem?_range (by omega)]
 rfl
theorem sD (n w:Int):(wB n w).length=w.toNat:=by simp[wB]
theorem Ny {Q:Exit→Fr→List HP→Prop} {a:Fr} {b r:Nat} {n w:Int} {s:ByteArray} (bs:List UInt8) (hw:0≤w∧w≤4) (hl:bs.length<2000000000000) (hE:aG C (Wi b bs::pt r [.int .i64 n,.int .i64 w,.string s] 369::R))
  (ha:dC a [(1,.pointer (some ⟨b,0,none⟩)),(2,.pointer (some ⟨r,0,none⟩)),(12,.int .i64 w),(13,.int .i64 0)]) (hK:∀a C',aG C' (Wi b (bs++wB n w)::R)→Q (.exit 0) a C'):fG Tryz.prog (SC Tryz.f384 0) Q a C:=by
 refine lW hE ?_
 have hwl:=sD n w
 refine iL (fun m a C=>∃j:Nat,(j:Int)+m=w∧C=Wi b (bs++(wB n w).take j)::pt r [.int .i64 n,.int .i64 w,.string s] 369::R∧dC a [(1,.pointer (some ⟨b,0,none⟩)),(2,.pointer (some ⟨r,0,none⟩)),(12,.int .i64 w),(13,.int .i64 j)])
  w.toNat (cC w.toNat ⟨0,by omega,by rw[List.take_zero,List.append_nil],ha⟩) ?_
 rintro m a C ⟨j,hj,rfl,ha⟩
 refine gV _ ha ?_
 simp only[fN]
 have hle:(bs++(wB n w).take j).length<2000000000010:=by rw[List.length_append,List.length_take];omega
 by_cases hlt:(j:Int)<w
 ·have ht:=Aew n w j hlt
  refine vV fun A=>vV fun c=>F6 ?_
  repeat' (first|refine w1 ?_|refine w5 ?_ ?_|((refine bh fun h=>?_) <;> try exact w6 h)|(refine aE fun hA=>?_;subst hA)|intro _)
  refine cC (m - 1) ⟨j+1,by omega,rfl,rfl,rfl,rfl,rfl,trivial⟩ (by omega) ?_
  rw[ht,← List.append_assoc]
  exact aY
 ·have:j=w.toNat:=by omega
  subst this
  repeat' (first|refine w1 ?_|refine w5 ?_ ?_|((refine bh fun h=>?_) <;> try exact w6 h)|(refine aE fun hA=>?_;subst hA)|intro _)
  refine hK _ _ ?_
  rw[List.take_of_length_le (by omega)]
  exact aY
def yL:List (Nat×Nat):= [(1,0),(2,0),(3,0),(4,0),(5,0),(6,0),(7,0),(8,0),(9,0),(10,0),(11,1),(0,1),(12,1),(13,1)]
theorem Ah1 {b:Nat} {n w:Int} {s:ByteArray} {bs:List UInt8} (hw:0≤w∧w≤4) (hl:bs.length+(PW n w s).length<1000000000000) (hK:K (.tuple #[]) (Wi b (bs++PW n w s)::R)):
  aA Tryz.prog 384 #[.agg #[.int .i64 n,.int .i64 w,.string s],.pointer (some ⟨b,0,none⟩)] (Wi b bs::R) K:=by
 have hs:s.data.toList.length=s.size:=by simp
 by_cases h0:w=0
 ·subst h0
  simp only[PW,if_true,List.length_append] at hl
  simp only[PW,if_true,← List.append_assoc] at hK
  refine aA.ex fun A=>aA.ex fun c=>aA.sep ?_
  refine aH Tryz.func384 ?_
  repeat' (first|refine v91 ?_|refine dw yL ?_|refine wr ?_|refine w5 ?_ ?_|((refine bh fun h=>?_) <;> try exact w6 h)|(refine aE fun hA=>?_;subst hA)|intro _|refine Ny (R:=R) (n:=n) (w:=0) (s:=s) (bs++s.data.toList) (by omega) (by simp;omega) (by exact aY) ⟨rfl,rfl,rfl,rfl,trivial⟩ (fun a C' hE=>?_))
  refine aC ?_
  exact aK hE hK
 ·simp only[PW,h0,if_false,List.nil_append] at hK
  refine aH Tryz.func384 ?_
  repeat' (first|refine v91 ?_|refine dw yL ?_|refine wr ?_|refine w5 ?_ ?_|((refine bh fun h=>?_) <;> try exact w6 h)|(refine aE fun hA=>?_;subst hA)|intro _|refine Ny (R:=R) (n:=n) (w:=w) (s:=s) bs (by omega) (by omega) (by exact aY) ⟨rfl,rfl,rfl,rfl,trivial⟩ (fun a C' hE=>?_))
  refine aC ?_
  exact aK hE hK
end
section
variable {R C:List HP} {K:Value→List HP→Prop}
def d9:List Pc→Int
 | []=>0
 |p::l=>if iG p.n p.w=0 then d9 l else iG p.n p.w
def jW (ps:List Pc):List UInt8:=ps.flatMap fun p=>PW p.n p.w p.s
theorem zJ {p:Pc} {l:List Pc} (h:d9 (p::l)=0):iG p.n p.w=0∧d9 l=0:=by
 unfold d9 at h
 split at h
 ·exact⟨by assumption,h⟩
 ·rename_i h';exact absurd h h'
theorem D2 {n w:Int} (h:iG n w=0):0≤w∧w≤4:=by
 unfold iG at h
 split at h
 ·cases h
 ·omega
theorem LC {n w:Int} {s:ByteArray} (h:0≤w∧w≤4):((PW n w s).length:Int)=jS w s:=by
 unfold PW jS
 rw[List.length_append,sD]
 split
 ·subst_vars;simp
 ·rw[if_neg (by omega)];simp;omega
theorem SD:∀(ps:List Pc) (n:Int),0≤n→d9 ps=0→I9 ps n≤4096→n+(jW ps).length=I9 ps n
 | [],n,_,_,_=>by simp[I9,jW]
 |p::l,n,h0,he,h=>by
  obtain⟨h1,h2⟩:=zJ he
  have hl:=LC (n:=p.n) (s:=p.s) (D2 h1)
  unfold I9 at h ⊢
  split at h
  ·omega
  ·rename_i h3
   rw[if_neg h3]
   have hnn:=EK p.w p.s
   have:=SD l (n+min (jS p.w p.s) 4097) (by omega) h2 h
   have hle:n+min (jS p.w p.s) 4097≤I9 l (n+min (jS p.w p.s) 4097):=by rw[← this];omega
   rw[← this]
   simp only[jW,List.flatMap_cons,List.length_append]
   have:min (jS p.w p.s) 4097=jS p.w p.s∨4097≤jS p.w p.s:=by omega
   have hc:((List.flatMap (fun p=>PW p.n p.w p.s) l).length:Int)=(jW l).length:=rfl
   omega
def wI (ps:List Pc):Int:=if d9 ps=0 then(if 4096<I9 ps 0 then 4 else 0) else d9 ps
def uR (ps:List Pc):ByteArray:=if wI ps=0 then⟨(jW ps).toArray⟩ else⟨#[]⟩
theorem FI {ps:List Pc} {j:Nat} {p:Pc} (h:ps.drop j=p::ps.drop (j+1)):d9 (ps.drop j)=if iG p.n p.w=0 then d9 (ps.drop (j+1)) else iG p.n p.w:=by rw[h];rfl
theorem QV {A:Option Addr} {n c:Nat} {ps:List Pc} (hv:dL C A pcC ps) (hn:ps.length=n) (hn2:n<1000000000000000) (hK:K (.tuple #[.string (uR ps),.int .i64 (wI ps)]) C):aA Tryz.prog 335 #[.slice A n c] C K:=by
 have hz0:=SD ps 0 (by omega)
 refine aH Tryz.func335 ?_
 repeat' (first|refine v74 ?_|refine wr ?_|refine w5 ?_ ?_|((refine bh fun h=>?_) <;> try exact w6 h)|(refine aE fun hA=>?_;subst hA)|intro _)
 refine iL (fun m a C'=>∃(j:Nat),j+m=n∧C'=C∧d9 ps=d9 (ps.drop j)∧dC a [(0,.slice A n c),(11,.slice A n c),(12,.int .i64 n),(13,.int .i64 j)]) n (cC n ⟨0,by omega,rfl,rfl,rfl,rfl,rfl,rfl,trivial⟩) ?_
 rintro n1 a C' ⟨j,hj,rfl,hs,ha⟩
 refine gV _ ha ?_
 simp only[fN]
 by_cases hlt:j<n
 ·obtain⟨p,hp,hd⟩:=iS (l:=ps) (j:=j) (by omega)
  rw[FI hd] at hs
  repeat' (first|refine v74 ?_|refine wr ?_|refine w5 ?_ ?_|((refine bh fun h=>?_) <;> try exact w6 h)|(refine aE fun hA=>?_;subst hA)|intro _|(show aA _ 382 _ _ _;refine CA (h:=Ah6 ?_)))
  ·have h:iG p.n p.w≠0:=by assumption
   rw[if_neg h] at hs
   have he:wI ps=iG p.n p.w:=by unfold wI;rw[if_neg (by rw[hs];exact h),hs]
   have hb:uR ps=⟨#[]⟩:=by unfold uR;rw[if_neg (by rw[he];exact h)]
   rw[he,hb] at hK
   (refine aC ?_;exact aB (hK))
  ·have h:iG p.n p.w=0:=by assumption
   rw[if_pos h] at hs
   exact cC (n1 - 1) ⟨j+1,by omega,rfl,hs,rfl,rfl,rfl,rfl,trivial⟩
 ·obtain rfl:j=n:=by omega
  rw[List.drop_eq_nil_of_le (by omega)] at hs
  have hs0:d9 ps=0:=hs
  repeat' (first|refine v74 ?_|refine wr ?_|refine w5 ?_ ?_|((refine bh fun h=>?_) <;> try exact w6 h)|(refine aE fun hA=>?_;subst hA)|intro _|(show aA _ 383 _ _ _;refine CA (h:=Adm (by assumption) (by assumption) (by omega) ?_)))
  ·have h:4096<I9 ps 0:=by assumption
   have he:wI ps=4:=by unfold wI;rw[if_pos hs0,if_pos h]
   have hb:uR ps=⟨#[]⟩:=by unfold uR;rw[if_neg (by rw[he];decide)]
   rw[he,hb] at hK
   (refine aC ?_;exact aB (hK))
  ·rename_i b
   have h:I9 ps 0≤4096:=by assumption
   have hz:=hz0 hs0 h
   have he:wI ps=0:=by unfold wI;rw[if_pos hs0,if_neg (by omega)]
   have hb:uR ps=⟨(jW ps).toArray⟩:=by unfold uR;rw[if_pos he]
   rw[he,hb] at hK
   refine iL (fun m a C2=>∃(i:Nat),i+m=j∧C2=Wi b (jW (ps.take i))::C'∧d9 (ps.drop i)=0∧dC a [(7,.pointer (some ⟨b,0,none⟩)),(8,.func (.func 384) #[] #[.pointer (some ⟨b,0,none⟩)]),(27,.slice A j c),(28,.int .i64 j),(29,.int .i64 i)]) j (cC j ⟨0,by omega,rfl,hs0,rfl,rfl,rfl,rfl,rfl,trivial⟩) ?_
   rintro n2 a C2 ⟨i,hi,rfl,hf,ha⟩
   refine gV _ ha ?_
   simp only[fN]
   by_cases hlt:i<j
   ·obtain⟨p,hp,hd⟩:=iS (l:=ps) (j:=i) (by omega)
    rw[FI hd] at hf
    split at hf
    ·rename_i hm
     have htk:jW (ps.take (i+1))=jW (ps.take i)++PW p.n p.w p.s:=by
      rw[List.take_add_one,hp];simp[jW]
     have hle:((jW (ps.take (i+1))).length:Int)≤(jW ps).length:=by
      have:jW ps=jW (ps.take (i+1))++jW (ps.drop (i+1)):=by
       unfold jW;rw[← List.flatMap_append,List.take_append_drop]
      rw[this,List.length_append];omega
     have hpl:=LC (n:=p.n) (s:=p.s) (D2 hm)
     have hss:p.w=0→jS p.w p.s=p.s.size:=fun h0=>by unfold jS;rw[if_pos h0]
     rw[htk,List.length_append] at hle
     repeat' (first|refine v74 ?_|refine wr ?_|refine w5 ?_ ?_|((refine bh fun h=>?_) <;> try exact w6 h)|(refine aE fun hA=>?_;subst hA)|intro _|(show aA _ 384 _ _ _;refine CA (h:=Ah1 (D2 hm) (by omega) ?_)))
     exact cC (n2 - 1) ⟨i+1,by omega,by rw[htk],hf,rfl,rfl,rfl,rfl,rfl,trivial⟩
    ·rename_i h1;exact absurd hf h1
   ·obtain rfl:i=j:=by omega
    rw[List.take_of_length_le (by omega)]
    refine vV fun A=>vV fun c=>F6 ?_
    repeat' (first|refine v74 ?_|refine wr ?_|refine w5 ?_ ?_|((refine bh fun h=>?_) <;> try exact w6 h)|(refine aE fun hA=>?_;subst hA)|intro _)
    (refine aC ?_;exact aB (hK))
theorem IA {ps:List Pc} (h:wI ps=0):d9 ps=0∧I9 ps 0=(uR ps).size∧(uR ps).size≤4096∧(uR ps).data.toList=jW ps:=by
 have h1:d9 ps=0:=by
  by_cases h2:d9 ps=0
  ·exact h2
  ·unfold wI at h;rw[if_neg h2] at h;exact h
 have h2:I9 ps 0≤4096:=by
  unfold wI at h;rw[if_pos h1] at h
  split at h
  ·cases h
  ·omega
 have h3:=SD ps 0 (by omega) h1 h2
 have h4:uR ps=⟨(jW ps).toArray⟩:=by unfold uR;rw[if_pos h]
 have h5:(uR ps).size=(jW ps).length:=by rw[h4];simp[ByteArray.size]
 exact⟨h1,by omega,by omega,by rw[h4]⟩
theorem PR {ps:List Pc} (h:¬wI ps=0):uR ps=⟨#[]⟩:=by unfold uR;rw[if_neg h]
end
end Go.Proofs.YtifgibijcmppmaaGreat
