/- A part of the proof: lemmas; each with the conditions that it states. -/
import Derived.Test.YtifgibijcmppmaaGreatNap
set_option linter.unusedVariables false
set_option linter.unusedSimpArgs false
namespace Go.Proofs.YtifgibijcmppmaaGreat
open Go Go.Proofs Go.Sl
set_option maxRecDepth 100000
set_option maxHeartbeats 40000000
attribute [local irreducible] aN fB cJ bO aM aY aA dM dQ aW dK pt ro fF star sep bI
section
variable {R C:List HP} {K:Value→List HP→Prop}
theorem Ajp {t st:Int} {e:Bool} {d:ByteArray} {k on w:Int} {x:Bool} {c la n:Int} (ps:List Pr) (h2:b2 t st=false) (h4:b4 t e k c la n ps.length=false) (h6:b6 t d on w x=false) (h8:b8 t d k on w=false):o7 t st e d k on w x c la n ps=(Jg ps && (BW c && BW la && BW n && decide (ps.length≤8))):=by
 rw[Bool.eq_iff_iff,tO]
 have hst:=lV st
 have hd:= @Ab9 d
 have hd2:d=ByteArray.empty↔d=⟨#[]⟩:=Iff.rfl
 have hno:=Acb st
 unfold b2 rK at h2
 unfold b4 at h4
 unfold b6 at h6
 unfold b8 at h8
 have ht:0≤t∧t≤11:=by simp only[Bool.not_eq_false',Bool.and_eq_true,decide_eq_true_eq] at h2;exact h2.1
 rcases(by omega:t=0∨t=1∨t=2∨t=3∨t=4∨t=5∨t=6∨t=7∨t=8∨t=9∨t=10∨t=11) with h|h|h|h|h|h|h|h|h|h|h|h
 all_goals
  subst h
  unfold k6
  simp at h2 h4 h6 h8 ⊢
  grind
theorem Amb {t st:Int} {e:Bool} {d:ByteArray} {k on w:Int} {x:Bool} {c la n:Int} (ps:List Pr) (h2:b2 t st=true):o7 t st e d k on w x c la n ps=false:=by
 rw[Bool.eq_false_iff,ne_eq,tO]
 have hst:=lV st
 unfold b2 rK at h2
 unfold k6
 grind
theorem Al9 {t st:Int} {e:Bool} {d:ByteArray} {k on w:Int} {x:Bool} {c la n:Int} (ps:List Pr) (h4:b4 t e k c la n ps.length=true):o7 t st e d k on w x c la n ps=false:=by
 rw[Bool.eq_false_iff,ne_eq,tO]
 unfold b4 at h4
 unfold k6
 grind
theorem Ama {t st:Int} {e:Bool} {d:ByteArray} {k on w:Int} {x:Bool} {c la n:Int} (ps:List Pr) (h6:b6 t d on w x=true):o7 t st e d k on w x c la n ps=false:=by
 rw[Bool.eq_false_iff,ne_eq,tO]
 have hd:= @Ab9 d
 unfold b6 at h6
 unfold k6
 grind
theorem Al5 {t st:Int} {e:Bool} {d:ByteArray} {k on w:Int} {x:Bool} {c la n:Int} (ps:List Pr) (h8:b8 t d k on w=true):o7 t st e d k on w x c la n ps=false:=by
 rw[Bool.eq_false_iff,ne_eq,tO]
 unfold b8 at h8
 unfold k6
 grind
theorem HY {t st:Int} {e:Bool} {d:ByteArray} {k on w:Int} {x:Bool} {c la n:Int} {pa:Option Addr} {pn pc:Nat} {ps:List Pr} (hv:cZ C pa nV ps) (hn:ps.length=pn) (hn2:pn<1000000000000000) (hK:K (.bool (o7 t st e d k on w x c la n ps)) C):aA Tryz.prog 12 #[.agg #[.int .i64 t,.int .i64 st,.bool e,.string d,.int .i64 k,.int .i64 on,.int .i64 w,.bool x,.int .i64 c,.int .i64 la,.int .i64 n,.slice pa pn pc]] C K:=by
 subst hn
 refine aH Tryz.func12 ?_
 repeat' (first|(show fB _ (.region 2 _ _) _ _ _;refine Alz ⟨rfl,rfl,rfl,trivial⟩ (fun a=>?_))|(show fB _ (.region 4 _ _) _ _ _;refine Akn ⟨rfl,rfl,rfl,trivial⟩ (fun a=>?_))|(show fB _ (.region 6 _ _) _ _ _;refine Ako ⟨rfl,rfl,rfl,trivial⟩ (fun a=>?_))|(show fB _ (.region 8 _ _) _ _ _;refine Alx ⟨rfl,rfl,rfl,trivial⟩ (fun a=>?_))|refine EL ?_|refine wr ?_|refine w5 ?_ ?_|((refine bh fun h=>?_) <;> try exact w6 h)|(refine aE fun hA=>?_;subst hA)|intro _)
 all_goals first
  |(rw[Amb ps (by assumption)] at hK;(refine aC ?_;exact aB (hK)))
  |(rw[Al9 ps (by assumption)] at hK;(refine aC ?_;exact aB (hK)))
  |(rw[Ama ps (by assumption)] at hK;(refine aC ?_;exact aB (hK)))
  |(rw[Al5 ps (by assumption)] at hK;(refine aC ?_;exact aB (hK)))
  |skip
 rw[Ajp ps (by assumption) (by assumption) (by assumption) (by assumption)] at hK
 rename_i r _ _ _ _ _ _
 have hv2:cZ (pt r [.int .i64 t,.int .i64 st,.bool e,.string d,.int .i64 k,.int .i64 on,.int .i64 w,.bool x,.int .i64 c,.int .i64 la,.int .i64 n,.slice pa ps.length pc] 45::C) pa nV ps:=bB hv
 refine iF (fun m a C'=>∃j:Nat,j+m=ps.length∧C'=pt r [.int .i64 t,.int .i64 st,.bool e,.string d,.int .i64 k,.int .i64 on,.int .i64 w,.bool x,.int .i64 c,.int .i64 la,.int .i64 n,.slice pa ps.length pc] 45::C∧Jg ps=Jg (ps.drop j)∧cN a [(1,.pointer (some ⟨r,0,none⟩)),(2,.bool false),(4,.int .i64 j)]) ps.length (b9 ps.length ⟨0,by omega,rfl,rfl,rfl,rfl,rfl,trivial⟩) ?_
 rintro n1 a C' ⟨j,hj,rfl,hp,ha⟩
 refine gF _ ha ?_
 simp only[eQ]
 by_cases hlt:j<ps.length
 ·obtain⟨y,hy,hd⟩:=jP (l:=ps) (j:=j) (by omega)
  rw[hd] at hp
  simp only[Jg,List.all_cons] at hp
  by_cases hok:(decide (0≤y.i) && decide (y.i≤65535) && BW y.v)=true
  ·rw[hok,Bool.true_and] at hp
   simp only[Bool.and_eq_true,decide_eq_true_eq] at hok
   obtain⟨⟨o1,o2⟩,o3⟩:=hok
   repeat' (first|refine EL ?_|refine wr ?_|refine w5 ?_ ?_|((refine bh fun h=>?_) <;> try exact w6 h)|(refine aE fun hA=>?_;subst hA)|intro _|(show aA _ 62 _ _ _;refine CA (h:=xI ?_)))
   exact b9 (n1 - 1) ⟨j+1,by omega,rfl,hp,rfl,rfl,rfl,trivial⟩
  ·have hok':(decide (0≤y.i) && decide (y.i≤65535) && BW y.v)=false:=by simpa using hok
   rw[hok',Bool.false_and] at hp
   have hps:Jg ps=false:=hp
   rw[hps,Bool.false_and] at hK
   simp only[Bool.and_eq_false_iff,decide_eq_false_iff_not,Int.not_le] at hok'
   rcases hok' with hok'|hok'
   ·have h3:y.i<0∨65535<y.i:=by omega
    repeat' (first|refine EL ?_|refine wr ?_|refine w5 ?_ ?_|((refine bh fun h=>?_) <;> try exact w6 h)|(refine aE fun hA=>?_;subst hA)|intro _|(show aA _ 62 _ _ _;refine CA (h:=xI ?_)))
    all_goals(refine aC ?_;exact aB (hK))
   ·repeat' (first|refine EL ?_|refine wr ?_|refine w5 ?_ ?_|((refine bh fun h=>?_) <;> try exact w6 h)|(refine aE fun hA=>?_;subst hA)|intro _|(show aA _ 62 _ _ _;refine CA (h:=xI ?_)))
    all_goals(refine aC ?_;exact aB (hK))
 ·obtain rfl:j=ps.length:=by omega
  rw[List.drop_eq_nil_of_le (by omega)] at hp
  have hps:Jg ps=true:=hp
  rw[hps,Bool.true_and] at hK
  repeat' (first|refine EL ?_|refine wr ?_|refine w5 ?_ ?_|((refine bh fun h=>?_) <;> try exact w6 h)|(refine aE fun hA=>?_;subst hA)|intro _|(show aA _ 62 _ _ _;refine CA (h:=xI ?_)))
  all_goals(refine aC ?_;exact aB (kb hK (by simp[*] <;> omega)))
end
end Go.Proofs.YtifgibijcmppmaaGreat
section
namespace Go.Proofs.YtifgibijcmppmaaGreat
open Go Go.Proofs Go.Sl
set_option maxRecDepth 100000
set_option maxHeartbeats 40000000
attribute [local irreducible] aN fB cJ bO aM aY aA dM dQ aW dK pt ro fF star sep bI
attribute [local irreducible] ByteArray.extract xT eX
variable {R C:List HP} {K:Value→List HP→Prop}
def gB (t st:Int) (e:Bool) (p:ByteArray):Bool:=o7 t st e (gD t p) (gK t p) (gO t p) (gW t p) (gX t p) (gC t p) (gL t p) (gN t p) (gP t p)
def gY (t:Int) (p:ByteArray):ByteArray:=⟨(nC t (gD t p) (gK t p) (gO t p) (gW t p) (gX t p) (gC t p) (gL t p) (gN t p) (gP t p)).toArray⟩
def gOk (t st:Int) (e:Bool) (p:ByteArray):Bool:=gB t st e p && decide (gY t p=p)
end Go.Proofs.YtifgibijcmppmaaGreat
namespace Go.Proofs.YtifgibijcmppmaaGreat
open Go Go.Proofs Go.Sl
set_option maxRecDepth 100000
set_option maxHeartbeats 40000000
attribute [local irreducible] aN fB cJ bO aM aY aA dM dQ aW dK pt ro fF star sep bI
attribute [local irreducible] ByteArray.extract xT eX
variable {R C:List HP} {K:Value→List HP→Prop}
theorem UP {t st:Int} {e:Bool} {d:ByteArray} {k on w:Int} {x:Bool} {c la n:Int} {pa:Option Addr} {pn pc:Nat} {ps:List Pr} (h:k6 t st e d k on w x c la n ps) (hv:cZ C pa nV ps) (hn:ps.length=pn) (hK:K (.string ⟨(nC t d k on w x c la n ps).toArray⟩) C):aA Tryz.prog 268 #[.agg #[.int .i64 t,.int .i64 st,.bool e,.string d,.int .i64 k,.int .i64 on,.int .i64 w,.bool x,.int .i64 c,.int .i64 la,.int .i64 n,.slice pa pn pc]] C K:=by
 have hl:=h.2.2.2.2.2.2.2.2.2.2.2.2.2.2.2.2.2.2.2.2
 have hd:=h.2.2.2.2.2.2.2.2.2.2.2.2.2.2.2.1
 refine Tg hv hn (by omega) ?_ (by rw[(DG h).1];exact hK)
 by_cases h2:t=2∨t=3
 ·have:=hd h2
  unfold Ii at this
  simp only[Bool.and_eq_true,decide_eq_true_eq] at this
  omega
 ·exact .inr h2
def gE (l t f s:Int) (p:ByteArray):Int:=if wQ l t f s=0 then(if(p.size:Int)=l then(if gOk t s (f == 1) p=true then 0 else 1) else 6) else wQ l t f s
def Alj:Value:=.agg #[.int .i64 0,.int .i64 0,.bool false,.string ⟨#[]⟩,.int .i64 0,.int .i64 0,.int .i64 0,.bool false,.int .i64 0,.int .i64 0,.int .i64 0,.slice none 0 0]
theorem Ts {l t f s:Int} {p:ByteArray} (hf:-9223372036854775808≤f∧f≤9223372036854775807) (hK1:gE l t f s p=0→∀A c,K (.tuple #[.agg #[.int .i64 t,.int .i64 s,.bool (f == 1),.string (gD t p),.int .i64 (gK t p),.int .i64 (gO t p),.int .i64 (gW t p),.bool (gX t p),.int .i64 (gC t p),.int .i64 (gL t p),.int .i64 (gN t p),.slice A (gP t p).length c],.int .i64 0]) (bT A c 148 nV (gP t p)::R))
  (hK2:gE l t f s p≠0→K (.tuple #[Alj,.int .i64 (gE l t f s p)]) R):aA Tryz.prog 245 #[.agg #[.int .i64 l,.int .i64 t,.int .i64 f,.int .i64 s],.string p] R K:=by
 by_cases h1:wQ l t f s=0
 ·by_cases h2:(p.size:Int)=l
  ·have hL:=Wk h1 h2.symm
   have hgl:=Aj0 t p
   have hp1000:(gP t p).length<1000000000000000:=by rw[hgl];have:=hL.2.2.1;split <;> omega
   unfold gE at hK1 hK2
   rw[if_pos h1,if_pos h2] at hK1 hK2
   unfold gOk gB at hK1 hK2
   cases hb:o7 t s (f == 1) (gD t p) (gK t p) (gO t p) (gW t p) (gX t p) (gC t p) (gL t p) (gN t p) (gP t p)
   ·rw[hb] at hK2
    simp only[Bool.false_and,Bool.false_eq_true,if_false] at hK2
    have hi:LN t s (f == 1) (gD t p) (gK t p) (gO t p) (gW t p) (gX t p) (gC t p) (gL t p) (gN t p) (gP t p)=2:=by unfold LN;rw[hb];rfl
    refine aH Tryz.func245 ?_
    repeat' (first|refine v82 ?_|refine wr ?_|refine w5 ?_ ?_|((refine bh fun h=>?_) <;> try exact w6 h)|(refine aE fun hA=>?_;subst hA)|intro _|(show aA _ 244 _ _ _;refine CA (h:=vN hf ?_))|(show aA _ 330 _ _ _;refine CA (h:=NC hL (fun A c=>?_)))|(show aA _ 112 _ _ _;refine CA (h:=AV (ps:=gP t p) (by exact kR) rfl hp1000 ?_)))
    all_goals(refine aC ?_;exact aB (hK2 (by decide)))
   ·rw[hb] at hK1 hK2
    have hR:=(tO _ _ _ _ _ _ _ _ _ _ _ _).1 hb
    have hi:LN t s (f == 1) (gD t p) (gK t p) (gO t p) (gW t p) (gX t p) (gC t p) (gL t p) (gN t p) (gP t p)=0:=by unfold LN;rw[hb];rfl
    refine aH Tryz.func245 ?_
    repeat' (first|refine v82 ?_|refine wr ?_|refine w5 ?_ ?_|((refine bh fun h=>?_) <;> try exact w6 h)|(refine aE fun hA=>?_;subst hA)|intro _|(show aA _ 244 _ _ _;refine CA (h:=vN hf ?_))|(show aA _ 330 _ _ _;refine CA (h:=NC hL (fun A c=>?_)))|(show aA _ 112 _ _ _;refine CA (h:=AV (ps:=gP t p) (by exact kR) rfl hp1000 ?_))|(show aA _ 268 _ _ _;refine CA (h:=UP (ps:=gP t p) hR (by exact kR) rfl ?_)))
    ·have hd:decide (gY t p=p)=false:=decide_eq_false fun e=>h (congrArg ByteArray.toList e)
     rw[hd] at hK2
     (refine aC ?_;exact aB (hK2 (by decide)))
    ·have hd:decide (gY t p=p)=true:=decide_eq_true (LK.1 h)
     rw[hd] at hK1
     (refine aC ?_;exact aB (hK1 rfl _ _))
  ·unfold gE at hK2
   rw[if_pos h1,if_neg h2] at hK2
   refine aH Tryz.func245 ?_
   repeat' (first|refine v82 ?_|refine wr ?_|refine w5 ?_ ?_|((refine bh fun h=>?_) <;> try exact w6 h)|(refine aE fun hA=>?_;subst hA)|intro _|(show aA _ 244 _ _ _;refine CA (h:=vN hf ?_)))
   all_goals(refine aC ?_;exact aB (hK2 (by decide)))
 ·unfold gE at hK2
  rw[if_neg h1] at hK2
  refine aH Tryz.func245 ?_
  repeat' (first|refine v82 ?_|refine wr ?_|refine w5 ?_ ?_|((refine bh fun h=>?_) <;> try exact w6 h)|(refine aE fun hA=>?_;subst hA)|intro _|(show aA _ 244 _ _ _;refine CA (h:=vN hf ?_)))
  all_goals(refine aC ?_;exact aB (hK2 h1))
end Go.Proofs.YtifgibijcmppmaaGreat
end
section
namespace Go.Proofs.YtifgibijcmppmaaGreat
open Go Go.Proofs Go.Sl
set_option maxRecDepth 100000
set_option maxHeartbeats 40000000
attribute [local irreducible] aN fB cJ bO aM aY aA dM dQ aW dK pt ro fF star sep bI
attribute [local irreducible] ByteArray.extract xT eX
variable {R C:List HP} {K:Value→List HP→Prop}
def frB (t st:Int) (e:Bool) (d:ByteArray) (k on w:Int) (x:Bool) (c la n:Int) (ps:List Pr):ByteArray:=z7 ((ByteArray.mk (nC t d k on w x c la n ps).toArray).size:Nat) t (GJ e) st++⟨(nC t d k on w x c la n ps).toArray⟩
theorem B7 {t st:Int} {e:Bool} {d:ByteArray} {k on w:Int} {x:Bool} {c la n:Int} {ps:List Pr} (h:k6 t st e d k on w x c la n ps):Vm ((ByteArray.mk (nC t d k on w x c la n ps).toArray).size:Nat) t (GJ e) st=true:=by
 have hl:=(DG h).2
 have hb:=N4 e
 obtain⟨h1,h2,_⟩:=h
 unfold Vm
 simp only[Bool.and_eq_true,decide_eq_true_eq,o9]
 omega
theorem EC {l t f s:Int} (h:Vm l t f s=true):(z7 l t f s).size=9:=by
 have e:=Kq h
 have:(z7 l t f s).data.toList.length=(z7 l t f s).size:=by simp
 rw[← this,e]
 simp only[List.length_append,nZ]
 decide
theorem iW {t st:Int} {e:Bool} {d:ByteArray} {k on w:Int} {x:Bool} {c la n:Int} {pa:Option Addr} {pn pc:Nat} {ps:List Pr} (h:o7 t st e d k on w x c la n ps=true) (hv:cZ C pa nV ps) (hn:ps.length=pn) (hn2:pn<1000000000000000) (hK:K (.int .i64 0) C):aA Tryz.prog 112 #[.agg #[.int .i64 t,.int .i64 st,.bool e,.string d,.int .i64 k,.int .i64 on,.int .i64 w,.bool x,.int .i64 c,.int .i64 la,.int .i64 n,.slice pa pn pc]] C K:=by
 refine AV hv hn hn2 ?_
 unfold LN;rw[h];exact hK
theorem Bh {t st:Int} {e:Bool} {d:ByteArray} {k on w:Int} {x:Bool} {c la n:Int} {pa:Option Addr} {pn pc:Nat} {ps:List Pr} (h:o7 t st e d k on w x c la n ps=false) (hv:cZ C pa nV ps) (hn:ps.length=pn) (hn2:pn<1000000000000000) (hK:K (.int .i64 2) C):aA Tryz.prog 112 #[.agg #[.int .i64 t,.int .i64 st,.bool e,.string d,.int .i64 k,.int .i64 on,.int .i64 w,.bool x,.int .i64 c,.int .i64 la,.int .i64 n,.slice pa pn pc]] C K:=by
 refine AV hv hn hn2 ?_
 unfold LN;rw[h];exact hK
theorem X0 {l t f s:Int} (h:Vm l t f s=true) (hK:K (.string (z7 l t f s)) R):aA Tryz.prog 81 #[.agg #[.int .i64 l,.int .i64 t,.int .i64 f,.int .i64 s]] R K:=by
 unfold Vm at h
 simp only[Bool.and_eq_true,decide_eq_true_eq] at h
 exact Aha (by omega) (by omega) (by omega) (by omega) hK
def Dm:List (Nat×Nat):= [(4,0),(5,0),(6,1),(0,1),(1,1),(2,1),(3,1),(7,1),(8,1),(9,0),(10,1),(11,0),(12,0),(13,0),(14,0),(15,0)]
theorem P1 {t st:Int} {e:Bool} {d:ByteArray} {k on w:Int} {x:Bool} {c la n:Int} {pa:Option Addr} {pn pc:Nat} {ps:List Pr} (h:k6 t st e d k on w x c la n ps) (hv:cZ C pa nV ps) (hn:ps.length=pn) (hK:K (.tuple #[.string (frB t st e d k on w x c la n ps),.int .i64 0]) C):aA Tryz.prog 175 #[.agg #[.int .i64 t,.int .i64 st,.bool e,.string d,.int .i64 k,.int .i64 on,.int .i64 w,.bool x,.int .i64 c,.int .i64 la,.int .i64 n,.slice pa pn pc]] C K:=by
 have hl:=h.2.2.2.2.2.2.2.2.2.2.2.2.2.2.2.2.2.2.2.2
 have hc:=(tO _ _ _ _ _ _ _ _ _ _ _ _).2 h
 have hn2:pn<1000000000000000:=by omega
 have ho:=B7 h
 have hs:=EC ho
 have hp:=(DG h).2
 have hps:(ByteArray.mk (nC t d k on w x c la n ps).toArray).size≤256:=by rw[o9];exact hp
 unfold frB at hK
 refine aH Tryz.func175 ?_
 repeat' (first|refine Xy ?_|refine dw Dm ?_|refine wr ?_|refine w5 ?_ ?_|((refine bh fun h=>?_) <;> try exact w6 h)|(refine aE fun hA=>?_;subst hA)|intro _|(show aA _ 112 _ _ _;refine CA (h:=iW (ps:=ps) hc (bB hv) hn hn2 ?_))|(show aA _ 268 _ _ _;refine CA (h:=UP (ps:=ps) h (bB hv) hn ?_))|(show aA _ 270 _ _ _;refine CA (h:=TP ?_))|(show aA _ 269 _ _ _;refine CA (h:=Aan ho ?_)))
 all_goals(refine aC ?_;exact aB (hK))
theorem Aa7 {t st:Int} {e:Bool} {d:ByteArray} {k on w:Int} {x:Bool} {c la n:Int} {pa:Option Addr} {pn pc:Nat} {ps:List Pr} (h:k6 t st e d k on w x c la n ps) (hv:cZ C pa nV ps) (hn:ps.length=pn) (hK:K (.string (frB t st e d k on w x c la n ps)) C):aA Tryz.prog 15 #[.agg #[.int .i64 t,.int .i64 st,.bool e,.string d,.int .i64 k,.int .i64 on,.int .i64 w,.bool x,.int .i64 c,.int .i64 la,.int .i64 n,.slice pa pn pc]] C K:=by
 have ho:=B7 h
 have hs:=EC ho
 have hp:=(DG h).2
 have hps:(ByteArray.mk (nC t d k on w x c la n ps).toArray).size≤256:=by rw[o9];exact hp
 have hO:=ho
 unfold Vm at hO
 simp only[Bool.and_eq_true,decide_eq_true_eq] at hO
 unfold frB at hK
 refine aH Tryz.func15 ?_
 cases e
 all_goals
  simp only[GJ] at ho hs hK
  repeat' (first|refine Xy ?_|refine wr ?_|refine w5 ?_ ?_|((refine bh fun h=>?_) <;> try exact w6 h)|(refine aE fun hA=>?_;subst hA)|intro _|(show aA _ 80 _ _ _;refine CA (h:=OD (ps:=ps) h (bB hv) hn ?_))|(show aA _ 81 _ _ _;refine CA (h:=X0 ho ?_)))
  all_goals(refine aC ?_;exact aB (hK))
end Go.Proofs.YtifgibijcmppmaaGreat
namespace Go.Proofs.YtifgibijcmppmaaGreat
open Go Go.Proofs Go.Sl
set_option maxRecDepth 100000
set_option maxHeartbeats 40000000
attribute [local irreducible] aN fB cJ bO aM aY aA dM dQ aW dK pt ro fF star sep bI
attribute [local irreducible] ByteArray.extract xT eX
variable {R C:List HP} {K:Value→List HP→Prop}
theorem Ac7 {l t f s:Int} {p:ByteArray} (hf:-9223372036854775808≤f∧f≤9223372036854775807) (h:gE l t f s p=0) (hK:∀A c,K (.tuple #[.agg #[.int .i64 t,.int .i64 s,.bool (f == 1),.string (gD t p),.int .i64 (gK t p),.int .i64 (gO t p),.int .i64 (gW t p),.bool (gX t p),.int .i64 (gC t p),.int .i64 (gL t p),.int .i64 (gN t p),.slice A (gP t p).length c],.int .i64 0]) (bT A c 148 nV (gP t p)::R)):aA Tryz.prog 245 #[.agg #[.int .i64 l,.int .i64 t,.int .i64 f,.int .i64 s],.string p] R K:=Ts hf (fun _=>hK) (fun h'=>absurd h h')
theorem Zj {l t f s:Int} {p:ByteArray} (hf:-9223372036854775808≤f∧f≤9223372036854775807) (h:gE l t f s p≠0) (hK:K (.tuple #[.agg #[.int .i64 0,.int .i64 0,.bool false,.string ⟨#[]⟩,.int .i64 0,.int .i64 0,.int .i64 0,.bool false,.int .i64 0,.int .i64 0,.int .i64 0,.slice none 0 0],.int .i64 (gE l t f s p)]) R):aA Tryz.prog 245 #[.agg #[.int .i64 l,.int .i64 t,.int .i64 f,.int .i64 s],.string p] R K:=Ts hf (fun h'=>absurd h' h) (fun _=>hK)
end Go.Proofs.YtifgibijcmppmaaGreat
namespace Go.Proofs.YtifgibijcmppmaaGreat
open Go Go.Proofs Go.Sl
set_option maxRecDepth 100000
set_option maxHeartbeats 40000000
attribute [local irreducible] aN fB cJ bO aM aY aA dM dQ aW dK pt ro fF star sep bI
attribute [local irreducible] ByteArray.extract xT eX
variable {R C:List HP} {K:Value→List HP→Prop}
def fmD:List Value→Option Fm
 | [.int .i64 t,.int .i64 st,.bool e,.string d,.int .i64 k,.int .i64 on,.int .i64 w,.bool x,.int .i64 c,.int .i64 la,.int .i64 n,.slice pa pn pc]=>some ⟨t,st,e,d,k,on,w,x,c,la,n,pa,pn,pc,[]⟩
 |_=>none
theorem Aj8 (cs:List Value) (y:Fm) (h:fmD cs=some y): [.int .i64 y.t,.int .i64 y.st,.bool y.e,.string y.d,.int .i64 y.k,.int .i64 y.on,.int .i64 y.w,.bool y.x,.int .i64 y.c,.int .i64 y.la,.int .i64 y.n,.slice y.pa y.pn y.pc]=cs:=by
 unfold fmD at h
 split at h
 ·cases h;rfl
 ·cases h
def sR:t6 Fm:= { enc:=fun y=> [.int .i64 y.t,.int .i64 y.st,.bool y.e,.string y.d,.int .i64 y.k,.int .i64 y.on,.int .i64 y.w,.bool y.x,.int .i64 y.c,.int .i64 y.la,.int .i64 y.n,.slice y.pa y.pn y.pc],sz:=12,dec:=fmD,len:=fun _=>rfl,one:=fun _=>rfl,ok:=Aj8 }
def FmV (C:List HP) (y:Fm):Prop:=cZ C y.pa nV y.ps∧y.ps.length=y.pn
def mQ (y:Fm):Bool:=o7 y.t y.st y.e y.d y.k y.on y.w y.x y.c y.la y.n y.ps
def Pf (y:Fm):ByteArray:=frB y.t y.st y.e y.d y.k y.on y.w y.x y.c y.la y.n y.ps
def dB (y:Fm):Prop:=k6 y.t y.st y.e y.d y.k y.on y.w y.x y.c y.la y.n y.ps
theorem sO (y:Fm):mQ y=true↔dB y:=tO _ _ _ _ _ _ _ _ _ _ _ _
theorem Z3 {y:Fm} (h:dB y):(Pf y).size≤265:=by
 have h1:=EC (B7 h)
 have h2:=(DG h).2
 have:(Pf y).size=9+(nC y.t y.d y.k y.on y.w y.x y.c y.la y.n y.ps).length:=by
  unfold Pf frB
  rw[ByteArray.size_append,h1,o9]
 omega
def s4 (l:List Fm):List UInt8:=l.flatMap fun y=>(Pf y).data.toList
theorem La:∀ {l:List Fm},(∀y∈l,dB y)→(s4 l).length≤265 * l.length
 | [],_=>by simp[s4]
 |y::l,h=>by
  have h1:=Z3 (h y (by simp))
  have h2:=La (l:=l) fun z hz=>h z (List.mem_cons_of_mem _ hz)
  have e:(Pf y).data.toList.length=(Pf y).size:=by simp
  have e2:(s4 (y::l)).length=(Pf y).size+(s4 l).length:=by rw[← e];simp[s4]
  rw[e2,List.length_cons];omega
theorem VQ {l:List Fm} {j:Nat} {y:Fm} (h:l[j]?=some y):s4 (l.take (j+1))=s4 (l.take j)++(Pf y).data.toList:=by
 unfold s4
 rw[List.take_add_one,h]
 simp
theorem Om {A:Option Addr} {n c:Nat} {xs:List Fm} (hr:∀y∈xs,dB y) (hv:cZ C A sR xs) (hps:∀y∈xs,FmV C y) (hn:xs.length=n) (hn2:n≤1000000) (hK:K (.tuple #[.string ⟨(s4 xs).toArray⟩,.int .i64 0]) C):aA Tryz.prog 99 #[.slice A n c] C K:=by
 subst hn
 refine aH Tryz.func99 ?_
 repeat' (first|refine v74 ?_|refine wr ?_|refine w5 ?_ ?_|((refine bh fun h=>?_) <;> try exact w6 h)|(refine aE fun hA=>?_;subst hA)|intro _)
 refine iF (fun m a C'=>∃(j:Nat) (B:Option Addr) (kk:Nat),j+m=xs.length∧C'=bT B kk 5 d8 (s4 (xs.take j))::C∧cN a [(4,.slice B (s4 (xs.take j)).length kk),(9,.slice A xs.length c),(10,.int .i64 xs.length),(11,.int .i64 j)]) xs.length (b9 xs.length ⟨0,none,0,by omega,rfl,rfl,rfl,rfl,rfl,trivial⟩) ?_
 rintro n1 a C' ⟨j,B,kk,hj,rfl,ha⟩
 refine gF _ ha ?_
 simp only[eQ]
 have hle:=La (l:=xs.take j) fun y hy=>hr y (List.mem_of_mem_take hy)
 rw[List.length_take] at hle
 by_cases hlt:j<xs.length
 ·obtain⟨y,hy,hd⟩:=jP (l:=xs) (j:=j) (by omega)
  have hm:=List.mem_of_getElem? hy
  have hp:=hps y hm
  have hR:dB y:=hr y hm
  have ht:=VQ hy
  have hsz:=Z3 hR
  have hdl:(Pf y).data.toList.length=(Pf y).size:=by simp
  unfold Pf at ht hsz hdl
  repeat' (first|refine v74 ?_|refine wr ?_|refine w5 ?_ ?_|((refine bh fun h=>?_) <;> try exact w6 h)|(refine aE fun hA=>?_;subst hA)|intro _|(show aA _ 175 _ _ _;refine CA (h:=P1 (ps:=y.ps) hR (bB (bB hp.1)) hp.2 ?_)))
  all_goals exact b9 (n1 - 1) ⟨j+1,_,_,by omega,by rw[ht],by rw[ht];rfl,rfl,rfl,rfl,trivial⟩
 ·obtain rfl:j=xs.length:=by omega
  rw[List.take_of_length_le (Nat.le_refl _)]
  repeat' (first|refine v74 ?_|refine wr ?_|refine w5 ?_ ?_|((refine bh fun h=>?_) <;> try exact w6 h)|(refine aE fun hA=>?_;subst hA)|intro _)
  all_goals(refine aC ?_;exact aB (hK))
end Go.Proofs.YtifgibijcmppmaaGreat
namespace Go.Proofs.YtifgibijcmppmaaGreat
open Go Go.Proofs Go.Sl
set_option maxRecDepth 100000
set_option maxHeartbeats 40000000
attribute [local irreducible] aN fB cJ bO aM aY aA dM dQ aW dK pt ro fF star sep bI
variable {W:World}
def xS (y:Fm):HP:=nY y.pa nV y.ps
theorem w3 (y:Fm):Ed (xS y):=mL _ _ _
theorem rO (y:Fm):uU (xS y):=EF _ _ _
theorem uY {C:List HP} {l:List Fm} {y:Fm} (hy:y∈l):cZ (jY xS l::C) y.pa nV y.ps:=C9 (aG.allget (P:=xS) w3 rO hy) iH
def FmW (W:World) (y:Fm):Prop:=nY y.pa nV y.ps (vC W)∧y.ps.length=y.pn∧y.pn<1000000000000000∧(-9223372036854775808≤y.n∧y.n≤9223372036854775807)
theorem Ra {n:Nat} {cs:List Value} (hg:Go.Sl.Good Tryz.prog W n 148 cs):∃y:Pr,cs=nV.enc y:=by
 have hz:Tryz.prog.cellsOf 148=2:=by kernel_rfl
 obtain⟨m2,k3,k4⟩:=jN Tryz.underlying148 hg
 obtain⟨i,r0,_⟩:=dE Tryz.underlying3 (k4 0 _ rfl)
 obtain⟨v,r1,_⟩:=dE Tryz.underlying3 (k4 1 _ rfl)
 exact⟨⟨i,v⟩,Aic (k3.trans hz) r0 r1⟩
theorem SP {n:Nat} {cs:List Value} (hg:Go.Sl.Good Tryz.prog W n 45 cs):∃y:Fm,cs=sR.enc y∧FmW W y:=by
 have hz:Tryz.prog.cellsOf 45=12:=by kernel_rfl
 have hz2:Tryz.prog.cellsOf 148=2:=by kernel_rfl
 have hz3:Tryz.prog.cellsOf 42=3:=by kernel_rfl
 have hby:Tryz.prog.bytesOf 148=16:=by kernel_rfl
 have hr:reachBytes=140737488351232:=by decide
 obtain⟨m2,k3,k4⟩:=jN Tryz.underlying45 hg
 obtain⟨t,r0,_⟩:=dE Tryz.underlying3 (k4 0 _ rfl)
 obtain⟨st,r1,_⟩:=dE Tryz.underlying3 (k4 1 _ rfl)
 obtain⟨e,r2⟩:=Bm Tryz.underlying4 (k4 2 _ rfl)
 obtain⟨d,r3,_⟩:=Ao Tryz.underlying9 (k4 3 _ rfl)
 obtain⟨k,r4,_⟩:=dE Tryz.underlying3 (k4 4 _ rfl)
 obtain⟨m5,j3,j4⟩:=jN Tryz.underlying42 (k4 5 _ rfl)
 obtain⟨on,s0,_⟩:=dE Tryz.underlying3 (j4 0 _ rfl)
 obtain⟨w,s1,_⟩:=dE Tryz.underlying3 (j4 1 _ rfl)
 obtain⟨x,s2⟩:=Bm Tryz.underlying4 (j4 2 _ rfl)
 obtain⟨c,r6,_⟩:=dE Tryz.underlying3 (k4 6 _ rfl)
 obtain⟨la,r7,_⟩:=dE Tryz.underlying3 (k4 7 _ rfl)
 obtain⟨n,r8,w8⟩:=dE Tryz.underlying3 (k4 8 _ rfl)
 have hsl:=HK Tryz.underlying43 (k4 9 _ rfl)
 have s0':(cs.drop 5).take 1= [.int .i64 on]:=by
  have:=s0
  rw[← this]
  show _=List.take 1 (List.drop 0 (List.take (Tryz.prog.cellsOf 42) (List.drop 5 cs)))
  rw[hz3];simp[List.take_take]
 have s1':(cs.drop 6).take 1= [.int .i64 w]:=by
  rw[← s1]
  show _=List.take 1 (List.drop 1 (List.take (Tryz.prog.cellsOf 42) (List.drop 5 cs)))
  rw[hz3];simp[List.take_take,List.drop_take]
 have s2':(cs.drop 7).take 1= [.bool x]:=by
  rw[← s2]
  show _=List.take 1 (List.drop 2 (List.take (Tryz.prog.cellsOf 42) (List.drop 5 cs)))
  rw[hz3];simp[List.take_take,List.drop_take]
 rcases hsl with h2|⟨ad,len,cap,m,h2,hl,hc,hi⟩
 ·exact⟨⟨t,st,e,d,k,on,w,x,c,la,n,none,0,0,[]⟩,Ur (k3.trans hz) r0 r1 r2 r3 r4 s0' s1' s2' r6 r7 r8 h2,.inl rfl,rfl,by show(0:Nat)<_;decide,Akp w8⟩
 ·rw[hz2] at hi
  rw[hby] at hc
  obtain⟨xs,h1,h3,_⟩:=Mq (E:=nV) (φ:=fun _=>True) (by decide) (fun i hil=>by
   obtain⟨cs',q1,q2⟩:=hi i hil
   obtain⟨y,hy⟩:=Ra q2
   exact⟨y,by rw[show nV.sz=2 from rfl,q1,hy],trivial⟩)
  exact⟨⟨t,st,e,d,k,on,w,x,c,la,n,some ad,len,cap,xs⟩,Ur (k3.trans hz) r0 r1 r2 r3 r4 s0' s1' s2' r6 r7 r8 h2,h3,h1,by show len<_;omega,Akp w8⟩
end Go.Proofs.YtifgibijcmppmaaGreat
end
