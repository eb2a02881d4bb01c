/- A part of the proof: lemmas; each with the conditions that it states. -/
import Derived.Test.YtepnmcipkangkaaGreatCaq
set_option linter.unusedVariables false
set_option linter.unusedSimpArgs false
set_option maxRecDepth 100000
set_option maxHeartbeats 40000000
namespace Go.Proofs.YtepnmcipkangkaaGreat
open Go Go.Proofs Go.Sl
attribute [local irreducible] aN fL cL bM aL aR aA dJ dK aU dI pt ro fC star sep bF
variable {R C:List HP} {K:KP} {q c n j:Nat} {xs:List Fm} {A p:Option Addr} {f y:Fm}
def wO (q:Nat) (xs:List Fm):HP:=fC fun A=>fC fun c=>sep (pt q [.slice A xs.length c] 268) (sep (bT A c 178 wD xs) (mC zE xs))
theorem tZ:aG (pt q [.slice A xs.length c] 268::bT A c 178 wD xs::mC zE xs::R) (wO q xs::R):=
 aG.ex A (aG.ex c (aG.sep (aG.pick aW.here (aG.sep (aG.pick aW.here (aG.pick aW.here (aG.refl _)))))))
theorem vE {f:FuncId} {args:Array Value} (h:∀A c,CT f args (pt q [.slice A xs.length c] 268::bT A c 178 wD xs::mC zE xs::R) K):CT f args (wO q xs::R) K:=
 aA.ex fun A=>aA.ex fun c=>aA.sep (aA.ent (aG.cons aG.unsep) (h A c))
theorem Ah6 (hK:∀q,K (PO q) (wO q []::R)):CT 89 #[] R K:=by
 refine aH Tryz.func89 ?_
 repeat' (first|refine v6 ?_|refine w5 ?_ ?_|((refine bh fun h=>?_) <;> try exact w6 h)|(refine aE fun hA=>?_;subst hA)|intro _)
 refine aC ?_
 refine aM ?_ (hK _)
 exact aG.trans (aG.pick aW.here (aG.nilrow' (aG.allnil (aG.refl _)))) (tZ (A:=none) (c:=0) (xs:= []))
theorem QP (hK:K (I6 n) (pt q [.slice A n c] 268::R)):CT 73 #[PO q] (pt q [.slice A n c] 268::R) K:=by
 refine aH Tryz.func73 ?_
 repeat' (first|refine v4 ?_|refine w5 ?_ ?_|((refine bh fun h=>?_) <;> try exact w6 h)|(refine aE fun hA=>?_;subst hA)|intro _)
 (refine aC ?_;exact aB (hK))
theorem Ahs (hK:K (I6 xs.length) (wO q xs::R)):CT 73 #[PO q] (wO q xs::R) K:=by
 refine vE fun A c=>?_
 refine aH Tryz.func73 ?_
 repeat' (first|refine v4 ?_|refine w5 ?_ ?_|((refine bh fun h=>?_) <;> try exact w6 h)|(refine aE fun hA=>?_;subst hA)|intro _)
 refine aC ?_
 exact aM tZ hK
theorem Abs (hl:xs.length<=64) (hK:K (I6 (64 - xs.length)) (wO q xs::R)):CT 138 #[PO q] (wO q xs::R) K:=by
 refine vE fun A c=>?_
 refine aH Tryz.func138 ?_
 repeat' (first|refine v22 ?_|refine w5 ?_ ?_|((refine bh fun h=>?_) <;> try exact w6 h)|(refine aE fun hA=>?_;subst hA)|intro _)
 refine aC ?_
 exact aM tZ hK
theorem YS (hK:K (I6 xs.length) (wO q []::R)):CT 311 #[PO q] (wO q xs::R) K:=by
 refine vE fun A c=>?_
 refine aH Tryz.func311 ?_
 repeat' (first|refine v13 ?_|refine w5 ?_ ?_|((refine bh fun h=>?_) <;> try exact w6 h)|(refine aE fun hA=>?_;subst hA)|intro _|(show aA _ 73 _ _ _;refine CA (h:=QP ?_)))
 ·refine aC ?_
  exact aM (aG.trans (aG.pick aW.here (aG.drop (aG.drop (aG.nilrow' (aG.allnil (aG.refl _)))))) (tZ (A:=none) (c:=0) (xs:= []))) hK
 ·obtain rfl:xs= []:=List.length_eq_zero_iff.1 (by omega)
  refine aC ?_
  exact aM tZ hK
theorem Yo {t st:Int} {e:Bool} {d:ByteArray} {k on w:Int} {x:Bool} {c la n:Int} {pa:Option Addr} {pn pc:Nat} (hK:K (.bool (decide (t=10) || decide (t=11))) R):CT 175 #[.agg #[I6 t,I6 st,.bool e,.string d,I6 k,I6 on,I6 w,.bool x,I6 c,I6 la,I6 n,.slice pa pn pc]] R K:=by
 refine aH Tryz.func175 ?_
 repeat' (first|refine v23 ?_|refine w5 ?_ ?_|((refine bh fun h=>?_) <;> try exact w6 h)|(refine aE fun hA=>?_;subst hA)|intro _)
 all_goals(refine aC ?_;exact aB (kb hK (by simp[*])))
def rI (f x:Fm):Bool:=(decide (f.t=10) || decide (f.t=11)) && decide (x.t=f.t) && decide (x.st=f.st) && decide (x.n<=2147483647 - f.n)
theorem Fc {x:Fm} {r:Nat} (hf:0<=f.n/\f.n<=2147483647) (hK:K (.bool (rI f x)) (pt r [I6 f.t,I6 f.st,.bool f.e,.string f.d,I6 f.k,I6 f.on,I6 f.w,.bool f.x,I6 f.c,I6 f.la,I6 f.n,.slice f.pa f.pn f.pc] 178::R)):CT 174 #[.agg #[I6 x.t,I6 x.st,.bool x.e,.string x.d,I6 x.k,I6 x.on,I6 x.w,.bool x.x,I6 x.c,I6 x.la,I6 x.n,.slice x.pa x.pn x.pc],PO r] (pt r [I6 f.t,I6 f.st,.bool f.e,.string f.d,I6 f.k,I6 f.on,I6 f.w,.bool f.x,I6 f.c,I6 f.la,I6 f.n,.slice f.pa f.pn f.pc] 178::R) K:=by
 refine aH Tryz.func174 ?_
 repeat' (first|refine v84 ?_|refine w5 ?_ ?_|((refine bh fun h=>?_) <;> try exact w6 h)|(refine aE fun hA=>?_;subst hA)|intro _|(show aA _ 175 _ _ _;refine CA (h:=Yo ?_)))
 all_goals(refine aC ?_;exact aB (kb hK (by unfold rI;simp[*])))
theorem all_cons:aG (mC zE (y::xs)::R) (mC zE xs::zE y::R):=
 aG.trans (aG.allget AV AJ (List.mem_cons_self ..)) (aG.trans (fun _ hs=>hs.swap) (aG.allsub fun z hz=>List.mem_cons_of_mem _ hz))
theorem XG (hn:xs.length<=1000) (hK:K (.tuple #[.agg #[I6 y.t,I6 y.st,.bool y.e,.string y.d,I6 y.k,I6 y.on,I6 y.w,.bool y.x,I6 y.c,I6 y.la,I6 y.n,.slice y.pa y.pn y.pc],.bool true]) (wO q xs::zE y::R)):CT 108 #[PO q] (wO q (y::xs)::R) K:=by
 refine vE fun A c=>?_
 have hl:(y::xs).length=xs.length+1:=rfl
 have h0:(y::xs)[(0:Int).toNat]?=some y:=rfl
 have hlen:(List.take ((((y::xs).length:Nat):Int).toNat - (1:Int).toNat) (List.drop (1:Int).toNat (y::xs))).length=(((y::xs).length:Nat):Int).toNat - (1:Int).toNat:=by simp
 have hbg:(2 * (0+(List.take ((((y::xs).length:Nat):Int).toNat - (1:Int).toNat) (List.drop (1:Int).toNat (y::xs))).length)+512) * (25+95)<=281474976710656:=by simp;omega
 have heq:List.take ((((y::xs).length:Nat):Int).toNat - (1:Int).toNat) (List.drop (1:Int).toNat (y::xs))=xs:=by simp
 refine aH Tryz.func108 ?_
 repeat' (first|refine v73 ?_|refine w5 ?_ ?_|((refine bh fun h=>?_) <;> try exact w6 h)|(refine aE fun hA=>?_;subst hA)|intro _|(show aA _ 73 _ _ _;refine CA (h:=QP ?_))|(show aN _ _ _ _ _ _ _;refine JE (hbig:=hbg) ?_;intro _ _))
 refine aC ?_
 simp only[heq]
 exact aM (aG.trans (by exact aY) (aG.trans (aG.cons (aG.cons (all_cons (y:=y)))) (tZ (xs:=xs)))) hK
def Zh (y:Fm) (n:Int):Fm:=⟨y.t,y.st,y.e,y.d,y.k,y.on,y.w,y.x,y.c,y.la,y.n+n,y.pa,y.pn,y.pc,[]⟩
def cO:List (Nat×Nat):= [(0,0),(1,0),(2,0),(3,0),(4,0),(5,0),(6,0),(7,0),(8,0),(9,0),(10,0),(11,0),(12,0),(13,1)]
def cN:List (Nat×Nat):= [(5,0),(6,1),(1,1),(2,1),(3,1),(4,1),(7,1),(0,2),(8,0),(9,0),(10,1)]
theorem YH (hp:p≠none) (hc:lZ f=false) (hv:FmV C f) (hn2:f.pn<1000000000000000) (hK:K (I6 2) C):CT 100 #[.pointer p,.agg #[I6 f.t,I6 f.st,.bool f.e,.string f.d,I6 f.k,I6 f.on,I6 f.w,.bool f.x,I6 f.c,I6 f.la,I6 f.n,.slice f.pa f.pn f.pc]] C K:=by
 obtain⟨q,rfl⟩:∃q,p=some q:=Option.ne_none_iff_exists'.1 hp
 unfold lZ at hc
 refine aH Tryz.func100 ?_
 repeat' (first|refine J4 ?_|refine dw cO ?_|refine dw cN ?_|refine w5 ?_ ?_|((refine bh fun h=>?_) <;> try exact w6 h)|(refine aE fun hA=>?_;subst hA)|intro _|(show aA _ 137 _ _ _;refine CA (h:=Cu (ps:=f.ps) hc (bN hv.1) hv.2 hn2 ?_)))
 all_goals(refine aC ?_;exact aB (hK))
theorem Zv (hp:p≠none) (hc:lZ f=true) (ht:f.t=0\/f.t=1) (hv:FmV C f) (hn2:f.pn<1000000000000000) (hK:K (I6 13) C):CT 100 #[.pointer p,.agg #[I6 f.t,I6 f.st,.bool f.e,.string f.d,I6 f.k,I6 f.on,I6 f.w,.bool f.x,I6 f.c,I6 f.la,I6 f.n,.slice f.pa f.pn f.pc]] C K:=by
 obtain⟨q,rfl⟩:∃q,p=some q:=Option.ne_none_iff_exists'.1 hp
 unfold lZ at hc
 refine aH Tryz.func100 ?_
 repeat' (first|refine J4 ?_|refine dw cO ?_|refine dw cN ?_|refine w5 ?_ ?_|((refine bh fun h=>?_) <;> try exact w6 h)|(refine aE fun hA=>?_;subst hA)|intro _|(show aA _ 137 _ _ _;refine CA (h:=jB (ps:=f.ps) hc (bN hv.1) hv.2 hn2 ?_)))
 all_goals(refine aC ?_;exact aB (hK))
theorem HE (h:lZ f=true):0<=f.n/\f.n<=2147483647:=by
 have:=((iX f).1 h).2.2.2.2.2.2.2.2.2.2.2.2.2.2.2.2.2.2.2.1
 exact(oW _).1 this
theorem LM (h:xs.length=n):aG (pt q [.slice A n c] 268::bT A c 178 wD xs::mC zE xs::R) (wO q xs::R):=by
 subst h;exact tZ
theorem Ajn {e:TypeId} {ys:List Fm} (h:xs.flatMap wD.enc=ys.flatMap wD.enc) (hl:xs.length=ys.length) (H:Hp) (hr:bT A c e wD xs H):bT A c e wD ys H:=by
 rcases hr with⟨h1,h2,h3⟩|⟨B,pre,post,h1,h2,h3,h4⟩
 ·subst h2
  exact .inl ⟨h1,List.length_eq_zero_iff.1 hl.symm,h3⟩
 ·rw[h] at h2
  rw[hl] at h3 h4
  exact .inr ⟨B,pre,post,h1,h2,h3,h4⟩
theorem Y6 (f0 f1:Fm) (he:wD.enc f0=wD.enc f1) (hn:n=(xs++ [f0]).length):aG (pt q [.slice A n c] 268::bT A c 178 wD (xs++ [f0])::rF f1.pa tX f1.ps::mC zE xs::R) (wO q (xs++ [f1])::R):=
 aG.trans (aG.cons (aG.imp (Ajn (ys:=xs++ [f1]) (by simp[he]) (by simp)) (aG.allsnoc (P:=zE) (x:=f1) AV AJ))) (LM (by rw[hn];simp))
theorem Agy {n:Int}:aG (mC zE xs::R) (mC zE (xs.set j (Zh y n))::R):=
 aG.imp (fun H h z hz=>by
  rcases List.mem_or_eq_of_mem_set hz with h'|rfl
  ·exact h z h'
  ·exact .inl rfl) (aG.refl _)
theorem Y9 (hc:lZ f=true) (ht:2<=f.t) (hj:xs[j]?=some y) (hy:rI f y=true) (hb:∀i z,i<j->xs[i]?=some z->rI f z=false) (hyn:0<=y.n) (hl:xs.length<=1000) (hv:dW R f.pa tX f.ps) (hvn:f.ps.length=f.pn) (hn2:f.pn<1000000000000000) (hK:K (I6 0) (wO q (xs.set j (Zh y f.n))::R)):CT 100 #[PO q,.agg #[I6 f.t,I6 f.st,.bool f.e,.string f.d,I6 f.k,I6 f.on,I6 f.w,.bool f.x,I6 f.c,I6 f.la,I6 f.n,.slice f.pa f.pn f.pc]] (wO q xs::R) K:=by
 have hnn:=HE hc
 have hyy:y.n<=2147483647 - f.n:=by unfold rI at hy;simp only[Bool.and_eq_true,decide_eq_true_eq] at hy;exact hy.2
 unfold lZ at hc
 have hjl:j<xs.length:=(List.getElem?_eq_some_iff.1 hj).1
 refine vE fun A c=>?_
 refine aH Tryz.func100 ?_
 repeat' (first|refine J4 ?_|refine dw cO ?_|refine dw cN ?_|refine w5 ?_ ?_|((refine bh fun h=>?_) <;> try exact w6 h)|(refine aE fun hA=>?_;subst hA)|intro _|(show aA _ 137 _ _ _;refine CA (h:=jB (ps:=f.ps) hc (by exact lL) hvn hn2 ?_)))
 rename_i r _
 refine jA (fun m a C'=>∃i:Nat,i+m=j+1/\0<m/\C'=pt r [I6 f.t,I6 f.st,.bool f.e,.string f.d,I6 f.k,I6 f.on,I6 f.w,.bool f.x,I6 f.c,I6 f.la,I6 f.n,.slice f.pa f.pn f.pc] 178::pt q [.slice A xs.length c] 268::bT A c 178 wD xs::mC zE xs::R/\dH a [(0,PO q),(3,PO r),(4,I6 0),(5,.func (.func 174) #[] #[PO r]),(28,.slice A xs.length c),(29,I6 xs.length),(30,I6 i)]) (j+1) (cJ (j+1) ⟨0,by omega,by omega,rfl,rfl,rfl,rfl,rfl,rfl,rfl,rfl,trivial⟩) ?_
 rintro n1 a C' ⟨i,hi,h0,rfl,ha⟩
 refine i6 _ ha ?_
 simp only[gJ]
 by_cases hlt:i<j
 ·obtain⟨z,hz,hd⟩:=lS (l:=xs) (j:=i) (by omega)
  have hzl:=hb i z hlt hz
  repeat' (first|refine J4 ?_|refine dw cO ?_|refine dw cN ?_|refine w5 ?_ ?_|((refine bh fun h=>?_) <;> try exact w6 h)|(refine aE fun hA=>?_;subst hA)|intro _|(show aA _ 174 _ _ _;refine CA (h:=Fc hnn ?_)))
  all_goals exact cJ (n1 - 1) ⟨i+1,by omega,by omega,rfl,rfl,rfl,rfl,rfl,rfl,rfl,rfl,trivial⟩
 ·obtain rfl:i=j:=by omega
  repeat' (first|refine J4 ?_|refine dw cO ?_|refine dw cN ?_|refine w5 ?_ ?_|((refine bh fun h=>?_) <;> try exact w6 h)|(refine aE fun hA=>?_;subst hA)|intro _|(show aA _ 174 _ _ _;refine CA (h:=Fc hnn ?_))|(show aN _ _ _ _ _ _ _;first|refine HK ?_|refine vC ?_))
  refine aC ?_
  exact aM (aG.trans (by exact aY) (aG.trans (aG.cons (aG.cons Agy)) (LM (xs:=xs.set i (Zh y f.n)) (List.length_set ..)))) hK
theorem Qw (hb:∀z∈xs,rI f z=false) {i:Nat} {z:Fm} (h:xs[i]?=some z):rI f z=false:=hb z (List.mem_of_getElem? h)
theorem YJ (hc:lZ f=true) (ht:2<=f.t) (hb:∀z∈xs,rI f z=false) (hl:xs.length<=1000) (h64:64<=xs.length) (hv:dW R f.pa tX f.ps) (hvn:f.ps.length=f.pn) (hn2:f.pn<1000000000000000) (hK:K (I6 9) (wO q xs::R)):CT 100 #[PO q,.agg #[I6 f.t,I6 f.st,.bool f.e,.string f.d,I6 f.k,I6 f.on,I6 f.w,.bool f.x,I6 f.c,I6 f.la,I6 f.n,.slice f.pa f.pn f.pc]] (wO q xs::R) K:=by
 have hnn:=HE hc
 unfold lZ at hc
 refine vE fun A c=>?_
 refine aH Tryz.func100 ?_
 repeat' (first|refine J4 ?_|refine dw cO ?_|refine dw cN ?_|refine w5 ?_ ?_|((refine bh fun h=>?_) <;> try exact w6 h)|(refine aE fun hA=>?_;subst hA)|intro _|(show aA _ 137 _ _ _;refine CA (h:=jB (ps:=f.ps) hc (by exact lL) hvn hn2 ?_)))
 rename_i r _
 refine jA (fun m a C'=>∃i:Nat,i+m=xs.length/\C'=pt r [I6 f.t,I6 f.st,.bool f.e,.string f.d,I6 f.k,I6 f.on,I6 f.w,.bool f.x,I6 f.c,I6 f.la,I6 f.n,.slice f.pa f.pn f.pc] 178::pt q [.slice A xs.length c] 268::bT A c 178 wD xs::mC zE xs::R/\dH a [(0,PO q),(3,PO r),(4,I6 0),(5,.func (.func 174) #[] #[PO r]),(28,.slice A xs.length c),(29,I6 xs.length),(30,I6 i)]) xs.length (cJ xs.length ⟨0,by omega,rfl,rfl,rfl,rfl,rfl,rfl,rfl,rfl,trivial⟩) ?_
 rintro n1 a C' ⟨i,hi,rfl,ha⟩
 refine i6 _ ha ?_
 simp only[gJ]
 by_cases hlt:i<xs.length
 ·obtain⟨z,hz,hd⟩:=lS (l:=xs) (j:=i) (by omega)
  have hzl:=Qw hb hz
  repeat' (first|refine J4 ?_|refine dw cO ?_|refine dw cN ?_|refine w5 ?_ ?_|((refine bh fun h=>?_) <;> try exact w6 h)|(refine aE fun hA=>?_;subst hA)|intro _|(show aA _ 174 _ _ _;refine CA (h:=Fc hnn ?_)))
  all_goals exact cJ (n1 - 1) ⟨i+1,by omega,rfl,rfl,rfl,rfl,rfl,rfl,rfl,rfl,trivial⟩
 ·repeat' (first|refine J4 ?_|refine dw cO ?_|refine dw cN ?_|refine w5 ?_ ?_|((refine bh fun h=>?_) <;> try exact w6 h)|(refine aE fun hA=>?_;subst hA)|intro _)
  refine aC ?_
  exact aM (aG.trans (by exact aY) tZ) hK
theorem Zs (hc:lZ f=true) (ht:2<=f.t) (hb:∀z∈xs,rI f z=false) (h64:xs.length<64) (hv:dW R f.pa tX f.ps) (hvn:f.ps.length=f.pn) (hK:∀A' c',K (I6 0) (wO q (xs++ [⟨f.t,f.st,f.e,f.d,f.k,f.on,f.w,f.x,f.c,f.la,f.n,A',f.ps.length,c',f.ps⟩])::R)):CT 100 #[PO q,.agg #[I6 f.t,I6 f.st,.bool f.e,.string f.d,I6 f.k,I6 f.on,I6 f.w,.bool f.x,I6 f.c,I6 f.la,I6 f.n,.slice f.pa f.pn f.pc]] (wO q xs::R) K:=by
 have hnn:=HE hc
 have hn8:f.ps.length<=8:=((iX f).1 hc).2.2.2.2.2.2.2.2.2.2.2.2.2.2.2.2.2.2.2.2
 have hn2:f.pn<1000000000000000:=by omega
 unfold lZ at hc
 refine vE fun A c=>?_
 refine aH Tryz.func100 ?_
 repeat' (first|refine J4 ?_|refine dw cO ?_|refine dw cN ?_|refine w5 ?_ ?_|((refine bh fun h=>?_) <;> try exact w6 h)|(refine aE fun hA=>?_;subst hA)|intro _|(show aA _ 137 _ _ _;refine CA (h:=jB (ps:=f.ps) hc (by exact lL) hvn hn2 ?_)))
 rename_i r _
 refine jA (fun m a C'=>∃i:Nat,i+m=xs.length/\C'=pt r [I6 f.t,I6 f.st,.bool f.e,.string f.d,I6 f.k,I6 f.on,I6 f.w,.bool f.x,I6 f.c,I6 f.la,I6 f.n,.slice f.pa f.pn f.pc] 178::pt q [.slice A xs.length c] 268::bT A c 178 wD xs::mC zE xs::R/\dH a [(0,PO q),(3,PO r),(4,I6 0),(5,.func (.func 174) #[] #[PO r]),(28,.slice A xs.length c),(29,I6 xs.length),(30,I6 i)]) xs.length (cJ xs.length ⟨0,by omega,rfl,rfl,rfl,rfl,rfl,rfl,rfl,rfl,trivial⟩) ?_
 rintro n1 a C' ⟨i,hi,rfl,ha⟩
 refine i6 _ ha ?_
 simp only[gJ]
 by_cases hlt:i<xs.length
 ·obtain⟨z,hz,hd⟩:=lS (l:=xs) (j:=i) (by omega)
  have hzl:=Qw hb hz
  repeat' (first|refine J4 ?_|refine dw cO ?_|refine dw cN ?_|refine w5 ?_ ?_|((refine bh fun h=>?_) <;> try exact w6 h)|(refine aE fun hA=>?_;subst hA)|intro _|(show aA _ 174 _ _ _;refine CA (h:=Fc hnn ?_)))
  all_goals exact cJ (n1 - 1) ⟨i+1,by omega,rfl,rfl,rfl,rfl,rfl,rfl,rfl,rfl,trivial⟩
 ·repeat' (first|refine J4 ?_|refine dw cO ?_|refine dw cN ?_|refine w5 ?_ ?_|((refine bh fun h=>?_) <;> try exact w6 h)|(refine aE fun hA=>?_;subst hA)|intro _|(show aN _ _ _ _ _ _ _;first|(refine pX ?_;intro _ _)|(refine JE ?_;intro _ _)))
  refine aC ?_
  exact aM (Ds (E:=tX) (xs:=f.ps) (by((repeat (first|exact aW.here|apply aW.there)) <;> exact aW.here)) (aG.trans (by exact aY) (Y6 ⟨f.t,f.st,f.e,f.d,f.k,f.on,f.w,f.x,f.c,f.la,f.n,_,f.ps.length,_,[]⟩ ⟨f.t,f.st,f.e,f.d,f.k,f.on,f.w,f.x,f.c,f.la,f.n,_,f.ps.length,_,f.ps⟩ rfl rfl))) (hK _ _)
end Go.Proofs.YtepnmcipkangkaaGreat
