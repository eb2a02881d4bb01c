/- A part of the proof: lemmas; each with the conditions that it states. -/
import Derived.Test.YtffnpejdkkohcaaGreatBap
set_option linter.unusedVariables false
set_option linter.unusedSimpArgs false
set_option maxRecDepth 100000
set_option maxHeartbeats 40000000
section
namespace Go.Proofs.YtffnpejdkkohcaaGreat
open Go Go.Proofs Go.Sl
attribute [local irreducible] aM eY cU bQ aL aW aA dS dT aZ dR pt ro fN star sep bH
variable {R C:List HP} {K:KP} {Q:Exit->Fr->List HP->Prop} {a:Fr} {t st k on w c la n:Int} {e x:Bool} {d:ByteArray} {pa:Option Addr} {pn pc r:Nat}
def b2 (t st:Int):Bool:=!(decide (0<=t) && decide (t<=11) && rQ t st)
def b4 (t:Int) (e:Bool) (k c la n:Int) (m:Nat):Bool:=(e && decide (1<t)) || (!decide (k=0) && !decide (t=2)) || (!decide (c=0) && !decide (t=4) && !decide (t=9)) || (!decide (la=0) && !decide (t=9)) || (!decide (n=0) && decide (t<10)) || (decide (0<m) && !decide (t=5))
theorem Aln (ha:cW a [(1,PO r),(2,.bool false),(3,I6 t)]) (hK:∀a,Q .normal (fF a [(1,PO r),(2,.bool false),(3,I6 t),(38,.bool (b2 t st))]) (pt r [I6 t,I6 st,.bool e,.string d,I6 k,I6 on,I6 w,.bool x,I6 c,I6 la,I6 n,.slice pa pn pc] 45::C)):eY Tryz.prog (DL Tryz.f9 2) Q a (pt r [I6 t,I6 st,.bool e,.string d,I6 k,I6 on,I6 w,.bool x,I6 c,I6 la,I6 n,.slice pa pn pc] 45::C):=by
 have hst:=gI st
 have hno:=XL st
 refine gJ _ ha ?_
 simp only[fF]
 repeat' (first|refine Sg ?_|refine w5 ?_ ?_|((refine bh fun h=>?_) <;> try exact w6 h)|(refine aF fun hA=>?_;subst hA)|intro _|(show aA _ 40 _ _ _;refine CA (h:=xI ?_))|(show aA _ 41 _ _ _;refine CA (h:=X9 ?_))|(show aA _ 42 _ _ _;refine CA (h:=Afv ?_)))
 all_goals exact BH (p:=fun a=>Q .normal a _) [(1,PO r),(2,.bool false),(3,I6 t),(38,.bool (b2 t st))] ⟨rfl,rfl,rfl,congrArg Value.bool (by unfold b2 rQ;grind),trivial⟩ (hK _)
theorem Alc (ha:cW a [(1,PO r),(2,.bool false),(3,I6 t)]) (hK:∀a,Q .normal (fF a [(1,PO r),(2,.bool false),(3,I6 t),(94,.bool (b4 t e k c la n pn))]) (pt r [I6 t,I6 st,.bool e,.string d,I6 k,I6 on,I6 w,.bool x,I6 c,I6 la,I6 n,.slice pa pn pc] 45::C)):eY Tryz.prog (DL Tryz.f9 4) Q a (pt r [I6 t,I6 st,.bool e,.string d,I6 k,I6 on,I6 w,.bool x,I6 c,I6 la,I6 n,.slice pa pn pc] 45::C):=by
 refine gJ _ ha ?_
 simp only[fF]
 repeat' (first|refine Sg ?_|refine w5 ?_ ?_|((refine bh fun h=>?_) <;> try exact w6 h)|(refine aF fun hA=>?_;subst hA)|intro _)
 all_goals exact BH (p:=fun a=>Q .normal a _) [(1,PO r),(2,.bool false),(3,I6 t),(94,.bool (b4 t e k c la n pn))] ⟨rfl,rfl,rfl,congrArg Value.bool (by unfold b4;grind),trivial⟩ (hK _)
end Go.Proofs.YtffnpejdkkohcaaGreat
namespace Go.Proofs.YtffnpejdkkohcaaGreat
open Go Go.Proofs Go.Sl
attribute [local irreducible] aM eY cU bQ aL aW aA dS dT aZ dR pt ro fN star sep bH
variable {R C:List HP} {K:KP} {Q:Exit->Fr->List HP->Prop} {a:Fr} {t st k on w c la n:Int} {e x:Bool} {d:ByteArray} {pa:Option Addr} {pn pc r:Nat}
def b6 (t:Int) (d:ByteArray) (on w:Int) (x:Bool):Bool:=(!u5 on w x && !decide (t=2) && !decide (t=3)) || (!decide (d=⟨#[]⟩) && decide (1<t) && !decide (t=7) && !decide (t=8))
def b8 (t:Int) (d:ByteArray) (k on w:Int):Bool:=(decide (t<=1) && decide (256<d.size)) || ((decide (t=7) || decide (t=8)) && !decide (d.size=8)) || (decide (t=2) && !decide (k=1) && !decide (k=2)) || ((decide (t=2) || decide (t=3)) && !Gb on w)
theorem Alj (ha:cW a [(1,PO r),(2,.bool false),(3,I6 t)]) (hK:∀a,Q .normal (fF a [(1,PO r),(2,.bool false),(3,I6 t),(123,.bool (b6 t d on w x))]) (pt r [I6 t,I6 st,.bool e,.string d,I6 k,I6 on,I6 w,.bool x,I6 c,I6 la,I6 n,.slice pa pn pc] 45::C)):eY Tryz.prog (DL Tryz.f9 6) Q a (pt r [I6 t,I6 st,.bool e,.string d,I6 k,I6 on,I6 w,.bool x,I6 c,I6 la,I6 n,.slice pa pn pc] 45::C):=by
 refine gJ _ ha ?_
 simp only[fF]
 have hs:= @Lh d ⟨#[]⟩
 repeat' (first|refine Sg ?_|refine w5 ?_ ?_|((refine bh fun h=>?_) <;> try exact w6 h)|(refine aF fun hA=>?_;subst hA)|intro _|(show aA _ 43 _ _ _;refine CA (h:=Zu ?_)))
 all_goals exact BH (p:=fun a=>Q .normal a _) [(1,PO r),(2,.bool false),(3,I6 t),(123,.bool (b6 t d on w x))] ⟨rfl,rfl,rfl,congrArg Value.bool (by clear ha hK;unfold b6;grind),trivial⟩ (hK _)
theorem Amb (ha:cW a [(1,PO r),(2,.bool false),(3,I6 t)]) (hK:∀a,Q .normal (fF a [(1,PO r),(2,.bool false),(3,I6 t),(173,.bool (b8 t d k on w))]) (pt r [I6 t,I6 st,.bool e,.string d,I6 k,I6 on,I6 w,.bool x,I6 c,I6 la,I6 n,.slice pa pn pc] 45::C)):eY Tryz.prog (DL Tryz.f9 8) Q a (pt r [I6 t,I6 st,.bool e,.string d,I6 k,I6 on,I6 w,.bool x,I6 c,I6 la,I6 n,.slice pa pn pc] 45::C):=by
 refine gJ _ ha ?_
 simp only[fF]
 repeat' (first|refine Sg ?_|refine w5 ?_ ?_|((refine bh fun h=>?_) <;> try exact w6 h)|(refine aF fun hA=>?_;subst hA)|intro _|(show aA _ 44 _ _ _;refine CA (h:=Ae0 ?_)))
 all_goals exact BH (p:=fun a=>Q .normal a _) [(1,PO r),(2,.bool false),(3,I6 t),(173,.bool (b8 t d k on w))] ⟨rfl,rfl,rfl,congrArg Value.bool (by clear ha hK;unfold b8;grind),trivial⟩ (hK _)
end Go.Proofs.YtffnpejdkkohcaaGreat
end
namespace Go.Proofs.YtffnpejdkkohcaaGreat
open Go Go.Proofs Go.Sl
attribute [local irreducible] aM eY cU bQ aL aW aA dS dT aZ dR pt ro fN star sep bH
variable {R C:List HP} {K:KP} {t st k on w c la n:Int} {e x:Bool} {d:ByteArray}
theorem Aib (ps:List Pr) (h2:b2 t st=false) (h4:b4 t e k c la n ps.length=false) (h6:b6 t d on w x=false) (h8:b8 t d k on w=false):vY t st e d k on w x c la n ps=(BF ps && (y8 c && y8 la && y8 n && decide (ps.length<=8))):=by
 rw[Bool.eq_iff_iff,tK]
 have hst:=gI st
 have hd:= @Ue d
 have hd2:d=ByteArray.empty↔d=⟨#[]⟩:=Iff.rfl
 have hno:=XL st
 unfold b2 rQ at h2
 unfold b4 at h4
 unfold b6 at h6
 unfold b8 at h8
 have ht:0<=t/\t<=11:=by simp only[Bool.not_eq_false',Bool.and_eq_true,decide_eq_true_eq] at h2;exact h2.1
 rcases(by omega:t=0\/t=1\/t=2\/t=3\/t=4\/t=5\/t=6\/t=7\/t=8\/t=9\/t=10\/t=11) with h|h|h|h|h|h|h|h|h|h|h|h
 all_goals
  subst h
  unfold jB
  simp at h2 h4 h6 h8 ⊢
  grind
theorem Amo (ps:List Pr) (h2:b2 t st=true):vY t st e d k on w x c la n ps=false:=by
 rw[Bool.eq_false_iff,ne_eq,tK]
 have hst:=gI st
 unfold b2 rQ at h2
 unfold jB
 grind
theorem Amk (ps:List Pr) (h4:b4 t e k c la n ps.length=true):vY t st e d k on w x c la n ps=false:=by
 rw[Bool.eq_false_iff,ne_eq,tK]
 unfold b4 at h4
 unfold jB
 grind
theorem Ami (ps:List Pr) (h6:b6 t d on w x=true):vY t st e d k on w x c la n ps=false:=by
 rw[Bool.eq_false_iff,ne_eq,tK]
 have hd:= @Ue d
 unfold b6 at h6
 unfold jB
 grind
theorem Amn (ps:List Pr) (h8:b8 t d k on w=true):vY t st e d k on w x c la n ps=false:=by
 rw[Bool.eq_false_iff,ne_eq,tK]
 unfold b8 at h8
 unfold jB
 grind
theorem Aj8 {pa:Option Addr} {pn pc:Nat} {ps:List Pr} (hv:dE C pa oG ps) (hn:ps.length=pn) (hn2:pn<1000000000000000) (hK:K (.bool (vY t st e d k on w x c la n ps)) C):CT 9 #[.agg #[I6 t,I6 st,.bool e,.string d,I6 k,I6 on,I6 w,.bool x,I6 c,I6 la,I6 n,.slice pa pn pc]] C K:=by
 subst hn
 refine aJ Tryz.func9 ?_
 repeat' (first|(show eY _ (.region 2 _ _) _ _ _;refine Aln ⟨rfl,rfl,rfl,trivial⟩ (fun a=>?_))|(show eY _ (.region 4 _ _) _ _ _;refine Alc ⟨rfl,rfl,rfl,trivial⟩ (fun a=>?_))|(show eY _ (.region 6 _ _) _ _ _;refine Alj ⟨rfl,rfl,rfl,trivial⟩ (fun a=>?_))|(show eY _ (.region 8 _ _) _ _ _;refine Amb ⟨rfl,rfl,rfl,trivial⟩ (fun a=>?_))|refine Sg ?_|refine w5 ?_ ?_|((refine bh fun h=>?_) <;> try exact w6 h)|(refine aF fun hA=>?_;subst hA)|intro _)
 all_goals first
  |(rw[Amo ps (by assumption)] at hK;(refine aC ?_;exact aB (hK)))
  |(rw[Amk ps (by assumption)] at hK;(refine aC ?_;exact aB (hK)))
  |(rw[Ami ps (by assumption)] at hK;(refine aC ?_;exact aB (hK)))
  |(rw[Amn ps (by assumption)] at hK;(refine aC ?_;exact aB (hK)))
  |skip
 rw[Aib ps (by assumption) (by assumption) (by assumption) (by assumption)] at hK
 rename_i r _ _ _ _ _ _
 have hv2:dE (pt r [I6 t,I6 st,.bool e,.string d,I6 k,I6 on,I6 w,.bool x,I6 c,I6 la,I6 n,.slice pa ps.length pc] 45::C) pa oG ps:=bF hv
 refine iH (fun m a C'=>∃j:Nat,j+m=ps.length/\C'=pt r [I6 t,I6 st,.bool e,.string d,I6 k,I6 on,I6 w,.bool x,I6 c,I6 la,I6 n,.slice pa ps.length pc] 45::C/\BF ps=BF (ps.drop j)/\cW a [(1,PO r),(2,.bool false),(4,I6 j)]) ps.length (cG ps.length ⟨0,by omega,rfl,rfl,rfl,rfl,rfl,trivial⟩) ?_
 rintro n1 a C' ⟨j,hj,rfl,hp,ha⟩
 refine gJ _ ha ?_
 simp only[fF]
 by_cases hlt:j<ps.length
 ·obtain⟨y,hy,hd⟩:=i0 (l:=ps) (j:=j) (by omega)
  rw[hd] at hp
  simp only[BF,List.all_cons] at hp
  by_cases hok:(decide (0<=y.i) && decide (y.i<=65535) && y8 y.v)=true
  ·rw[hok,Bool.true_and] at hp
   simp only[Bool.and_eq_true,decide_eq_true_eq] at hok
   obtain⟨⟨o1,o2⟩,o3⟩:=hok
   repeat' (first|refine Sg ?_|refine w5 ?_ ?_|((refine bh fun h=>?_) <;> try exact w6 h)|(refine aF fun hA=>?_;subst hA)|intro _|(show aA _ 40 _ _ _;refine CA (h:=xI ?_)))
   exact cG (n1 - 1) ⟨j+1,by omega,rfl,hp,rfl,rfl,rfl,trivial⟩
  ·have hok':(decide (0<=y.i) && decide (y.i<=65535) && y8 y.v)=false:=by simpa using hok
   rw[hok',Bool.false_and] at hp
   have hps:BF ps=false:=hp
   rw[hps,Bool.false_and] at hK
   simp only[Bool.and_eq_false_iff,decide_eq_false_iff_not,Int.not_le] at hok'
   rcases hok' with hok'|hok'
   ·have h3:y.i<0\/65535<y.i:=by omega
    repeat' (first|refine Sg ?_|refine w5 ?_ ?_|((refine bh fun h=>?_) <;> try exact w6 h)|(refine aF fun hA=>?_;subst hA)|intro _|(show aA _ 40 _ _ _;refine CA (h:=xI ?_)))
    all_goals(refine aC ?_;exact aB (hK))
   ·repeat' (first|refine Sg ?_|refine w5 ?_ ?_|((refine bh fun h=>?_) <;> try exact w6 h)|(refine aF fun hA=>?_;subst hA)|intro _|(show aA _ 40 _ _ _;refine CA (h:=xI ?_)))
    all_goals(refine aC ?_;exact aB (hK))
 ·obtain rfl:j=ps.length:=by omega
  rw[List.drop_eq_nil_of_le (by omega)] at hp
  have hps:BF ps=true:=hp
  rw[hps,Bool.true_and] at hK
  repeat' (first|refine Sg ?_|refine w5 ?_ ?_|((refine bh fun h=>?_) <;> try exact w6 h)|(refine aF fun hA=>?_;subst hA)|intro _|(show aA _ 40 _ _ _;refine CA (h:=xI ?_)))
  all_goals(refine aC ?_;exact aB (kb hK (by simp[*] <;> omega)))
end Go.Proofs.YtffnpejdkkohcaaGreat
