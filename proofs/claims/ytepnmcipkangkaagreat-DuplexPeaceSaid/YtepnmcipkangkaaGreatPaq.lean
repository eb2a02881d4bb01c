/- A part of the proof: lemmas; each with the conditions that it states. -/
import Derived.Test.YtepnmcipkangkaaGreatPau
import Derived.Test.YtepnmcipkangkaaGreatPap
import Derived.Test.YtepnmcipkangkaaGreatPat
set_option linter.unusedVariables false
set_option linter.unusedSimpArgs false
set_option maxRecDepth 100000
set_option maxHeartbeats 40000000
namespace Go.Proofs.YtepnmcipkangkaaGreat
open Go Go.Proofs Go.Sl
attribute [local irreducible] aN fJ cY bN aM aS aA dM dN aV dL pt ro fB star sep bF
variable {R C:List HP} {K:KP} {q c n j:Nat} {xs:List Fm} {A p:Option Addr} {f y:Fm}
def wM (q:Nat) (xs:List Fm):HP:=fB fun A=>fB fun c=>sep (pt q [.slice A xs.length c] 268) (sep (bV A c 178 u7 xs) (lS zP xs))
theorem s8:aG (pt q [.slice A xs.length c] 268::bV A c 178 u7 xs::lS zP xs::R) (wM q xs::R):=
 aG.ex A (aG.ex c (aG.sep (aG.pick aU.here (aG.sep (aG.pick aU.here (aG.pick aU.here (aG.refl _)))))))
theorem vE {f:FuncId} {args:Array Value} (h:∀A c,CT f args (pt q [.slice A xs.length c] 268::bV A c 178 u7 xs::lS zP xs::R) K):CT f args (wM q xs::R) K:=
 aA.ex fun A=>aA.ex fun c=>aA.sep (aA.ent (aG.cons aG.unsep) (h A c))
theorem Ai3 (hK:∀q,K (PO q) (wM q []::R)):CT 89 #[] R K:=by
 refine aH Tryz.func89 ?_
 repeat' (first|refine v6 ?_|refine w5 ?_ ?_|((refine bh fun h=>?_) <;> try exact w6 h)|(refine aE fun hA=>?_;subst hA)|intro _)
 refine aC ?_
 refine aK ?_ (hK _)
 exact aG.trans (aG.pick aU.here (aG.nilrow' (aG.allnil (aG.refl _)))) (s8 (A:=none) (c:=0) (xs:= []))
theorem RX (hK:K (I6 n) (pt q [.slice A n c] 268::R)):CT 73 #[PO q] (pt q [.slice A n c] 268::R) K:=by
 refine aH Tryz.func73 ?_
 repeat' (first|refine v4 ?_|refine w5 ?_ ?_|((refine bh fun h=>?_) <;> try exact w6 h)|(refine aE fun hA=>?_;subst hA)|intro _)
 (refine aC ?_;exact aB (hK))
theorem Aj1 (hK:K (I6 xs.length) (wM q xs::R)):CT 73 #[PO q] (wM q xs::R) K:=by
 refine vE fun A c=>?_
 refine aH Tryz.func73 ?_
 repeat' (first|refine v4 ?_|refine w5 ?_ ?_|((refine bh fun h=>?_) <;> try exact w6 h)|(refine aE fun hA=>?_;subst hA)|intro _)
 refine aC ?_
 exact aK s8 hK
theorem Ad2 (hl:xs.length<=64) (hK:K (I6 (64 - xs.length)) (wM q xs::R)):CT 138 #[PO q] (wM q xs::R) K:=by
 refine vE fun A c=>?_
 refine aH Tryz.func138 ?_
 repeat' (first|refine v22 ?_|refine w5 ?_ ?_|((refine bh fun h=>?_) <;> try exact w6 h)|(refine aE fun hA=>?_;subst hA)|intro _)
 refine aC ?_
 exact aK s8 hK
theorem Ym (hK:K (I6 xs.length) (wM q []::R)):CT 311 #[PO q] (wM q xs::R) K:=by
 refine vE fun A c=>?_
 refine aH Tryz.func311 ?_
 repeat' (first|refine v13 ?_|refine w5 ?_ ?_|((refine bh fun h=>?_) <;> try exact w6 h)|(refine aE fun hA=>?_;subst hA)|intro _|(show aA _ 73 _ _ _;refine CA (h:=RX ?_)))
 ·refine aC ?_
  exact aK (aG.trans (aG.pick aU.here (aG.drop (aG.drop (aG.nilrow' (aG.allnil (aG.refl _)))))) (s8 (A:=none) (c:=0) (xs:= []))) hK
 ·obtain rfl:xs= []:=List.length_eq_zero_iff.1 (by omega)
  refine aC ?_
  exact aK s8 hK
theorem X2 {t st:Int} {e:Bool} {d:ByteArray} {k on w:Int} {x:Bool} {c la n:Int} {pa:Option Addr} {pn pc:Nat} (hK:K (.bool (decide (t=10) || decide (t=11))) R):CT 175 #[.agg #[I6 t,I6 st,.bool e,.string d,I6 k,I6 on,I6 w,.bool x,I6 c,I6 la,I6 n,.slice pa pn pc]] R K:=by
 refine aH Tryz.func175 ?_
 repeat' (first|refine v23 ?_|refine w5 ?_ ?_|((refine bh fun h=>?_) <;> try exact w6 h)|(refine aE fun hA=>?_;subst hA)|intro _)
 all_goals(refine aC ?_;exact aB (kb hK (by simp[*])))
def qS (f x:Fm):Bool:=(decide (f.t=10) || decide (f.t=11)) && decide (x.t=f.t) && decide (x.st=f.st) && decide (x.n<=2147483647 - f.n)
theorem FC {x:Fm} {r:Nat} (hf:0<=f.n/\f.n<=2147483647) (hK:K (.bool (qS f x)) (pt r [I6 f.t,I6 f.st,.bool f.e,.string f.d,I6 f.k,I6 f.on,I6 f.w,.bool f.x,I6 f.c,I6 f.la,I6 f.n,.slice f.pa f.pn f.pc] 178::R)):CT 174 #[.agg #[I6 x.t,I6 x.st,.bool x.e,.string x.d,I6 x.k,I6 x.on,I6 x.w,.bool x.x,I6 x.c,I6 x.la,I6 x.n,.slice x.pa x.pn x.pc],PO r] (pt r [I6 f.t,I6 f.st,.bool f.e,.string f.d,I6 f.k,I6 f.on,I6 f.w,.bool f.x,I6 f.c,I6 f.la,I6 f.n,.slice f.pa f.pn f.pc] 178::R) K:=by
 refine aH Tryz.func174 ?_
 repeat' (first|refine v84 ?_|refine w5 ?_ ?_|((refine bh fun h=>?_) <;> try exact w6 h)|(refine aE fun hA=>?_;subst hA)|intro _|(show aA _ 175 _ _ _;refine CA (h:=X2 ?_)))
 all_goals(refine aC ?_;exact aB (kb hK (by unfold qS;simp[*])))
theorem all_cons:aG (lS zP (y::xs)::R) (lS zP xs::zP y::R):=
 aG.trans (aG.allget BO BW (List.mem_cons_self ..)) (aG.trans (fun _ hs=>hs.swap) (aG.allsub fun z hz=>List.mem_cons_of_mem _ hz))
theorem YQ (hn:xs.length<=1000) (hK:K (.tuple #[.agg #[I6 y.t,I6 y.st,.bool y.e,.string y.d,I6 y.k,I6 y.on,I6 y.w,.bool y.x,I6 y.c,I6 y.la,I6 y.n,.slice y.pa y.pn y.pc],.bool true]) (wM q xs::zP y::R)):CT 108 #[PO q] (wM q (y::xs)::R) K:=by
 refine vE fun A c=>?_
 have hl:(y::xs).length=xs.length+1:=rfl
 have h0:(y::xs)[(0:Int).toNat]?=some y:=rfl
 have hlen:(List.take ((((y::xs).length:Nat):Int).toNat - (1:Int).toNat) (List.drop (1:Int).toNat (y::xs))).length=(((y::xs).length:Nat):Int).toNat - (1:Int).toNat:=by simp
 have hbg:(2 * (0+(List.take ((((y::xs).length:Nat):Int).toNat - (1:Int).toNat) (List.drop (1:Int).toNat (y::xs))).length)+512) * (25+95)<=281474976710656:=by simp;omega
 have heq:List.take ((((y::xs).length:Nat):Int).toNat - (1:Int).toNat) (List.drop (1:Int).toNat (y::xs))=xs:=by simp
 refine aH Tryz.func108 ?_
 repeat' (first|refine v73 ?_|refine w5 ?_ ?_|((refine bh fun h=>?_) <;> try exact w6 h)|(refine aE fun hA=>?_;subst hA)|intro _|(show aA _ 73 _ _ _;refine CA (h:=RX ?_))|(show aN _ _ _ _ _ _ _;refine JE (hbig:=hbg) ?_;intro _ _))
 refine aC ?_
 simp only[heq]
 exact aK (aG.trans (by exact aZ) (aG.trans (aG.cons (aG.cons (all_cons (y:=y)))) (s8 (xs:=xs)))) hK
def ZD (y:Fm) (n:Int):Fm:=⟨y.t,y.st,y.e,y.d,y.k,y.on,y.w,y.x,y.c,y.la,y.n+n,y.pa,y.pn,y.pc,[]⟩
def cP:List (Nat×Nat):= [(0,0),(1,0),(2,0),(3,0),(4,0),(5,0),(6,0),(7,0),(8,0),(9,0),(10,0),(11,0),(12,0),(13,1)]
def cO:List (Nat×Nat):= [(5,0),(6,1),(1,1),(2,1),(3,1),(4,1),(7,1),(0,2),(8,0),(9,0),(10,1)]
theorem Xm (hp:p≠none) (hc:lM f=false) (hv:FmV C f) (hn2:f.pn<1000000000000000) (hK:K (I6 2) C):CT 100 #[.pointer p,.agg #[I6 f.t,I6 f.st,.bool f.e,.string f.d,I6 f.k,I6 f.on,I6 f.w,.bool f.x,I6 f.c,I6 f.la,I6 f.n,.slice f.pa f.pn f.pc]] C K:=by
 obtain⟨q,rfl⟩:∃q,p=some q:=Option.ne_none_iff_exists'.1 hp
 unfold lM at hc
 refine aH Tryz.func100 ?_
 repeat' (first|refine KA ?_|refine dw cP ?_|refine dw cO ?_|refine w5 ?_ ?_|((refine bh fun h=>?_) <;> try exact w6 h)|(refine aE fun hA=>?_;subst hA)|intro _|(show aA _ 137 _ _ _;refine CA (h:=B3 (ps:=f.ps) hc (bM hv.1) hv.2 hn2 ?_)))
 all_goals(refine aC ?_;exact aB (hK))
theorem Yr (hp:p≠none) (hc:lM f=true) (ht:f.t=0\/f.t=1) (hv:FmV C f) (hn2:f.pn<1000000000000000) (hK:K (I6 13) C):CT 100 #[.pointer p,.agg #[I6 f.t,I6 f.st,.bool f.e,.string f.d,I6 f.k,I6 f.on,I6 f.w,.bool f.x,I6 f.c,I6 f.la,I6 f.n,.slice f.pa f.pn f.pc]] C K:=by
 obtain⟨q,rfl⟩:∃q,p=some q:=Option.ne_none_iff_exists'.1 hp
 unfold lM at hc
 refine aH Tryz.func100 ?_
 repeat' (first|refine KA ?_|refine dw cP ?_|refine dw cO ?_|refine w5 ?_ ?_|((refine bh fun h=>?_) <;> try exact w6 h)|(refine aE fun hA=>?_;subst hA)|intro _|(show aA _ 137 _ _ _;refine CA (h:=i5 (ps:=f.ps) hc (bM hv.1) hv.2 hn2 ?_)))
 all_goals(refine aC ?_;exact aB (hK))
theorem HR (h:lM f=true):0<=f.n/\f.n<=2147483647:=by
 have:=((iX f).1 h).2.2.2.2.2.2.2.2.2.2.2.2.2.2.2.2.2.2.2.1
 exact(oV _).1 this
theorem Lf (h:xs.length=n):aG (pt q [.slice A n c] 268::bV A c 178 u7 xs::lS zP xs::R) (wM q xs::R):=by
 subst h;exact s8
theorem Ak2 {e:TypeId} {ys:List Fm} (h:xs.flatMap u7.enc=ys.flatMap u7.enc) (hl:xs.length=ys.length) (H:Hp) (hr:bV A c e u7 xs H):bV A c e u7 ys H:=by
 rcases hr with⟨h1,h2,h3⟩|⟨B,pre,post,h1,h2,h3,h4⟩
 ·subst h2
  exact .inl ⟨h1,List.length_eq_zero_iff.1 hl.symm,h3⟩
 ·rw[h] at h2
  rw[hl] at h3 h4
  exact .inr ⟨B,pre,post,h1,h2,h3,h4⟩
theorem Xt (f0 f1:Fm) (he:u7.enc f0=u7.enc f1) (hn:n=(xs++ [f0]).length):aG (pt q [.slice A n c] 268::bV A c 178 u7 (xs++ [f0])::oI f1.pa tI f1.ps::lS zP xs::R) (wM q (xs++ [f1])::R):=
 aG.trans (aG.cons (aG.imp (Ak2 (ys:=xs++ [f1]) (by simp[he]) (by simp)) (aG.allsnoc (P:=zP) (x:=f1) BO BW))) (Lf (by rw[hn];simp))
theorem Acj {n:Int}:aG (lS zP xs::R) (lS zP (xs.set j (ZD y n))::R):=
 aG.imp (fun H h z hz=>by
  rcases List.mem_or_eq_of_mem_set hz with h'|rfl
  ·exact h z h'
  ·exact .inl rfl) (aG.refl _)
theorem YW (hc:lM f=true) (ht:2<=f.t) (hj:xs[j]?=some y) (hy:qS f y=true) (hb:∀i z,i<j->xs[i]?=some z->qS f z=false) (hyn:0<=y.n) (hl:xs.length<=1000) (hv:d4 R f.pa tI f.ps) (hvn:f.ps.length=f.pn) (hn2:f.pn<1000000000000000) (hK:K (I6 0) (wM q (xs.set j (ZD y f.n))::R)):CT 100 #[PO q,.agg #[I6 f.t,I6 f.st,.bool f.e,.string f.d,I6 f.k,I6 f.on,I6 f.w,.bool f.x,I6 f.c,I6 f.la,I6 f.n,.slice f.pa f.pn f.pc]] (wM q xs::R) K:=by
 have hnn:=HR hc
 have hyy:y.n<=2147483647 - f.n:=by unfold qS at hy;simp only[Bool.and_eq_true,decide_eq_true_eq] at hy;exact hy.2
 unfold lM at hc
 have hjl:j<xs.length:=(List.getElem?_eq_some_iff.1 hj).1
 refine vE fun A c=>?_
 refine aH Tryz.func100 ?_
 repeat' (first|refine KA ?_|refine dw cP ?_|refine dw cO ?_|refine w5 ?_ ?_|((refine bh fun h=>?_) <;> try exact w6 h)|(refine aE fun hA=>?_;subst hA)|intro _|(show aA _ 137 _ _ _;refine CA (h:=i5 (ps:=f.ps) hc (by exact lF) hvn hn2 ?_)))
 rename_i r _
 refine jG (fun m a C'=>∃i:Nat,i+m=j+1/\0<m/\C'=pt r [I6 f.t,I6 f.st,.bool f.e,.string f.d,I6 f.k,I6 f.on,I6 f.w,.bool f.x,I6 f.c,I6 f.la,I6 f.n,.slice f.pa f.pn f.pc] 178::pt q [.slice A xs.length c] 268::bV A c 178 u7 xs::lS zP xs::R/\dP a [(0,PO q),(3,PO r),(4,I6 0),(5,.func (.func 174) #[] #[PO r]),(28,.slice A xs.length c),(29,I6 xs.length),(30,I6 i)]) (j+1) (cN (j+1) ⟨0,by omega,by omega,rfl,rfl,rfl,rfl,rfl,rfl,rfl,rfl,trivial⟩) ?_
 rintro n1 a C' ⟨i,hi,h0,rfl,ha⟩
 refine iT _ ha ?_
 simp only[gH]
 by_cases hlt:i<j
 ·obtain⟨z,hz,hd⟩:=lH (l:=xs) (j:=i) (by omega)
  have hzl:=hb i z hlt hz
  repeat' (first|refine KA ?_|refine dw cP ?_|refine dw cO ?_|refine w5 ?_ ?_|((refine bh fun h=>?_) <;> try exact w6 h)|(refine aE fun hA=>?_;subst hA)|intro _|(show aA _ 174 _ _ _;refine CA (h:=FC hnn ?_)))
  all_goals exact cN (n1 - 1) ⟨i+1,by omega,by omega,rfl,rfl,rfl,rfl,rfl,rfl,rfl,rfl,trivial⟩
 ·obtain rfl:i=j:=by omega
  repeat' (first|refine KA ?_|refine dw cP ?_|refine dw cO ?_|refine w5 ?_ ?_|((refine bh fun h=>?_) <;> try exact w6 h)|(refine aE fun hA=>?_;subst hA)|intro _|(show aA _ 174 _ _ _;refine CA (h:=FC hnn ?_))|(show aN _ _ _ _ _ _ _;first|refine JM ?_|refine uY ?_))
  refine aC ?_
  exact aK (aG.trans (by exact aZ) (aG.trans (aG.cons (aG.cons Acj)) (Lf (xs:=xs.set i (ZD y f.n)) (List.length_set ..)))) hK
theorem PM (hb:∀z∈xs,qS f z=false) {i:Nat} {z:Fm} (h:xs[i]?=some z):qS f z=false:=hb z (List.mem_of_getElem? h)
theorem XM (hc:lM f=true) (ht:2<=f.t) (hb:∀z∈xs,qS f z=false) (hl:xs.length<=1000) (h64:64<=xs.length) (hv:d4 R f.pa tI f.ps) (hvn:f.ps.length=f.pn) (hn2:f.pn<1000000000000000) (hK:K (I6 9) (wM q xs::R)):CT 100 #[PO q,.agg #[I6 f.t,I6 f.st,.bool f.e,.string f.d,I6 f.k,I6 f.on,I6 f.w,.bool f.x,I6 f.c,I6 f.la,I6 f.n,.slice f.pa f.pn f.pc]] (wM q xs::R) K:=by
 have hnn:=HR hc
 unfold lM at hc
 refine vE fun A c=>?_
 refine aH Tryz.func100 ?_
 repeat' (first|refine KA ?_|refine dw cP ?_|refine dw cO ?_|refine w5 ?_ ?_|((refine bh fun h=>?_) <;> try exact w6 h)|(refine aE fun hA=>?_;subst hA)|intro _|(show aA _ 137 _ _ _;refine CA (h:=i5 (ps:=f.ps) hc (by exact lF) hvn hn2 ?_)))
 rename_i r _
 refine jG (fun m a C'=>∃i:Nat,i+m=xs.length/\C'=pt r [I6 f.t,I6 f.st,.bool f.e,.string f.d,I6 f.k,I6 f.on,I6 f.w,.bool f.x,I6 f.c,I6 f.la,I6 f.n,.slice f.pa f.pn f.pc] 178::pt q [.slice A xs.length c] 268::bV A c 178 u7 xs::lS zP xs::R/\dP a [(0,PO q),(3,PO r),(4,I6 0),(5,.func (.func 174) #[] #[PO r]),(28,.slice A xs.length c),(29,I6 xs.length),(30,I6 i)]) xs.length (cN xs.length ⟨0,by omega,rfl,rfl,rfl,rfl,rfl,rfl,rfl,rfl,trivial⟩) ?_
 rintro n1 a C' ⟨i,hi,rfl,ha⟩
 refine iT _ ha ?_
 simp only[gH]
 by_cases hlt:i<xs.length
 ·obtain⟨z,hz,hd⟩:=lH (l:=xs) (j:=i) (by omega)
  have hzl:=PM hb hz
  repeat' (first|refine KA ?_|refine dw cP ?_|refine dw cO ?_|refine w5 ?_ ?_|((refine bh fun h=>?_) <;> try exact w6 h)|(refine aE fun hA=>?_;subst hA)|intro _|(show aA _ 174 _ _ _;refine CA (h:=FC hnn ?_)))
  all_goals exact cN (n1 - 1) ⟨i+1,by omega,rfl,rfl,rfl,rfl,rfl,rfl,rfl,rfl,trivial⟩
 ·repeat' (first|refine KA ?_|refine dw cP ?_|refine dw cO ?_|refine w5 ?_ ?_|((refine bh fun h=>?_) <;> try exact w6 h)|(refine aE fun hA=>?_;subst hA)|intro _)
  refine aC ?_
  exact aK (aG.trans (by exact aZ) s8) hK
theorem Zo (hc:lM f=true) (ht:2<=f.t) (hb:∀z∈xs,qS f z=false) (h64:xs.length<64) (hv:d4 R f.pa tI f.ps) (hvn:f.ps.length=f.pn) (hK:∀A' c',K (I6 0) (wM q (xs++ [⟨f.t,f.st,f.e,f.d,f.k,f.on,f.w,f.x,f.c,f.la,f.n,A',f.ps.length,c',f.ps⟩])::R)):CT 100 #[PO q,.agg #[I6 f.t,I6 f.st,.bool f.e,.string f.d,I6 f.k,I6 f.on,I6 f.w,.bool f.x,I6 f.c,I6 f.la,I6 f.n,.slice f.pa f.pn f.pc]] (wM q xs::R) K:=by
 have hnn:=HR hc
 have hn8:f.ps.length<=8:=((iX f).1 hc).2.2.2.2.2.2.2.2.2.2.2.2.2.2.2.2.2.2.2.2
 have hn2:f.pn<1000000000000000:=by omega
 unfold lM at hc
 refine vE fun A c=>?_
 refine aH Tryz.func100 ?_
 repeat' (first|refine KA ?_|refine dw cP ?_|refine dw cO ?_|refine w5 ?_ ?_|((refine bh fun h=>?_) <;> try exact w6 h)|(refine aE fun hA=>?_;subst hA)|intro _|(show aA _ 137 _ _ _;refine CA (h:=i5 (ps:=f.ps) hc (by exact lF) hvn hn2 ?_)))
 rename_i r _
 refine jG (fun m a C'=>∃i:Nat,i+m=xs.length/\C'=pt r [I6 f.t,I6 f.st,.bool f.e,.string f.d,I6 f.k,I6 f.on,I6 f.w,.bool f.x,I6 f.c,I6 f.la,I6 f.n,.slice f.pa f.pn f.pc] 178::pt q [.slice A xs.length c] 268::bV A c 178 u7 xs::lS zP xs::R/\dP a [(0,PO q),(3,PO r),(4,I6 0),(5,.func (.func 174) #[] #[PO r]),(28,.slice A xs.length c),(29,I6 xs.length),(30,I6 i)]) xs.length (cN xs.length ⟨0,by omega,rfl,rfl,rfl,rfl,rfl,rfl,rfl,rfl,trivial⟩) ?_
 rintro n1 a C' ⟨i,hi,rfl,ha⟩
 refine iT _ ha ?_
 simp only[gH]
 by_cases hlt:i<xs.length
 ·obtain⟨z,hz,hd⟩:=lH (l:=xs) (j:=i) (by omega)
  have hzl:=PM hb hz
  repeat' (first|refine KA ?_|refine dw cP ?_|refine dw cO ?_|refine w5 ?_ ?_|((refine bh fun h=>?_) <;> try exact w6 h)|(refine aE fun hA=>?_;subst hA)|intro _|(show aA _ 174 _ _ _;refine CA (h:=FC hnn ?_)))
  all_goals exact cN (n1 - 1) ⟨i+1,by omega,rfl,rfl,rfl,rfl,rfl,rfl,rfl,rfl,trivial⟩
 ·repeat' (first|refine KA ?_|refine dw cP ?_|refine dw cO ?_|refine w5 ?_ ?_|((refine bh fun h=>?_) <;> try exact w6 h)|(refine aE fun hA=>?_;subst hA)|intro _|(show aN _ _ _ _ _ _ _;first|(refine pV ?_;intro _ _)|(refine JE ?_;intro _ _)))
  refine aC ?_
  exact aK (wF (E:=tI) (xs:=f.ps) (by((repeat (first|exact aU.here|apply aU.there)) <;> exact aU.here)) (aG.trans (by exact aZ) (Xt ⟨f.t,f.st,f.e,f.d,f.k,f.on,f.w,f.x,f.c,f.la,f.n,_,f.ps.length,_,[]⟩ ⟨f.t,f.st,f.e,f.d,f.k,f.on,f.w,f.x,f.c,f.la,f.n,_,f.ps.length,_,f.ps⟩ rfl rfl))) (hK _ _)
end Go.Proofs.YtepnmcipkangkaaGreat
namespace Go.Proofs.YtepnmcipkangkaaGreat
open Go Go.Proofs Go.Sl
attribute [local irreducible] aN fJ cY bN aM aS aA dM dN aV dL pt ro fB star sep bF
attribute [local irreducible] mp CV
variable {R C:List HP} {K:KP} {p a c:Nat} {most t:Int} {A:Option Addr} {l:List jN} {e:jN}
def Aac (t:Int) (a:Nat) (l:List jN):List jN:=l.take (lb t l)++⟨t,a⟩::l.drop (lb t l)
theorem XW (hs:l.length<=100000) (hp:l.Pairwise fun a b=>a.id<b.id) (hf:Xw t l=false) (hK:K (.tuple #[.pointer none,.bool false]) (pt p [I6 most,.slice A l.length c] 259::bV A c 261 fM l::R)):CT 126 #[PO p,I6 t] (pt p [I6 most,.slice A l.length c] 259::bV A c 261 fM l::R) K:=by
 refine aH Tryz.func126 ?_
 repeat' (first|refine v41 ?_|refine w5 ?_ ?_|((refine bh fun h=>?_) <;> try exact w6 h)|(refine aE fun hA=>?_;subst hA)|intro _|(show aA _ 225 _ _ _;refine CA (h:=Cz hs hp ?_);rw[hf]))
 all_goals(refine aC ?_;exact aB (hK))
theorem Mc (hs:l.length<=100000) (hp:l.Pairwise fun a b=>a.id<b.id) (hf:Xw t l=true) (he:l[lb t l]?=some e) (hK:K (.tuple #[PO e.a,.bool true]) (pt p [I6 most,.slice A l.length c] 259::bV A c 261 fM l::R)):CT 126 #[PO p,I6 t] (pt p [I6 most,.slice A l.length c] 259::bV A c 261 fM l::R) K:=by
 have hlt:=(List.getElem?_eq_some_iff.1 he).1
 have he':l[((lb t l:Nat):Int).toNat]?=some e:=by rw[Int.toNat_natCast];exact he
 refine aH Tryz.func126 ?_
 repeat' (first|refine v41 ?_|refine w5 ?_ ?_|((refine bh fun h=>?_) <;> try exact w6 h)|(refine aE fun hA=>?_;subst hA)|intro _|(show aA _ 225 _ _ _;refine CA (h:=Cz hs hp ?_);rw[hf]))
 all_goals(refine aC ?_;exact aB (hK))
def Ht:List (Nat×Nat):= [(0,0),(1,0),(2,0),(3,0),(4,0),(5,0),(6,0),(7,0),(8,0),(9,0),(10,0),(11,0),(12,0),(13,0),(14,0),(15,0),(16,0),(17,0),(18,0)]
theorem Ah6 {i:Nat} (hs:l.length<=100000) (he:l[i]?=some e) (hK:K (.tuple #[I6 e.id,PO e.a,.bool true]) (pt p [I6 most,.slice A l.length c] 259::bV A c 261 fM l::R)):CT 62 #[PO p,I6 i] (pt p [I6 most,.slice A l.length c] 259::bV A c 261 fM l::R) K:=by
 have hlt:=(List.getElem?_eq_some_iff.1 he).1
 have he':l[((i:Nat):Int).toNat]?=some e:=by rw[Int.toNat_natCast];exact he
 refine aH Tryz.func62 ?_
 repeat' (first|refine v41 ?_|refine dw Ht ?_|refine w5 ?_ ?_|((refine bh fun h=>?_) <;> try exact w6 h)|(refine aE fun hA=>?_;subst hA)|intro _|(show aA _ 60 _ _ _;refine CA (h:=xW ?_)))
 all_goals(refine aC ?_;exact aB (hK))
def Dk:List (Nat×Nat):= [(0,0),(1,0),(2,0),(3,0),(4,0),(5,0),(6,0),(7,0),(8,0),(9,0),(10,0)]
theorem Aas (hs:l.length<=1000) (hp:l.Pairwise fun a b=>a.id<b.id) (hf:Xw t l=false) (hm:(l.length:Nat)<most) (hK:∀A' c',K (I6 0) (pt p [I6 most,.slice A' (l.length+1) c'] 259::bV A' c' 261 fM (Aac t a l)::R)):CT 233 #[PO p,I6 t,PO a] (pt p [I6 most,.slice A l.length c] 259::bV A c 261 fM l::R) K:=by
 have hle:=Wi t l
 refine aH Tryz.func233 ?_
 repeat' (first|refine v90 ?_|refine dw Dk ?_|refine w5 ?_ ?_|((refine bh fun h=>?_) <;> try exact w6 h)|(refine aE fun hA=>?_;subst hA)|intro _|(show aA _ 225 _ _ _;refine CA (h:=Cz (by omega) hp ?_);rw[hf])|(show aA _ 336 _ _ _;refine CA (h:=Aix (y:=⟨t,a⟩) rfl hle hs (fun A' c'=>?_))))
 all_goals(refine aC ?_;exact aB (hK _ _))
theorem X9 (hs:l.length<=1000) (hp:l.Pairwise fun a b=>a.id<b.id) (hf:Xw t l=true) (he:l[lb t l]?=some e) (hK:∀A' c',K (.tuple #[PO e.a,.bool true]) (pt p [I6 most,.slice A' (l.length - 1) c'] 259::bV A' c' 261 fM (l.eraseIdx (lb t l))::R)):CT 349 #[PO p,I6 t] (pt p [I6 most,.slice A l.length c] 259::bV A c 261 fM l::R) K:=by
 have hlt:=(List.getElem?_eq_some_iff.1 he).1
 refine aH Tryz.func349 ?_
 repeat' (first|refine HA ?_|refine w5 ?_ ?_|((refine bh fun h=>?_) <;> try exact w6 h)|(refine aE fun hA=>?_;subst hA)|intro _|(show aA _ 126 _ _ _;refine CA (h:=Mc (by omega) hp hf he ?_))|(show aA _ 225 _ _ _;refine CA (h:=Cz (by omega) hp ?_);rw[hf])|(show aA _ 422 _ _ _;refine CA (h:=Air rfl hlt (by omega) (fun A' c'=>?_))))
 all_goals(refine aC ?_;exact aB (hK _ _))
theorem Afp (hs:l.length<=100000) (hK:∀B d,K (.slice B l.length d) (bV B d 3 pM (l.map jN.id)::pt p [I6 most,.slice A l.length c] 259::bV A c 261 fM l::R)):CT 125 #[PO p] (pt p [I6 most,.slice A l.length c] 259::bV A c 261 fM l::R) K:=by
 refine aH Tryz.func125 ?_
 repeat' (first|refine v45 ?_|refine w5 ?_ ?_|((refine bh fun h=>?_) <;> try exact w6 h)|(refine aE fun hA=>?_;subst hA)|intro _|(show aA _ 60 _ _ _;refine CA (h:=xW ?_)))
 refine oR (aG.nilrow 3 pM _) ?_
 refine jG (fun kk a C'=>∃(j:Nat) (B:Option Addr) (d:Nat),j+kk=l.length/\dP a [(0,PO p),(3,.slice B ((l.take j).map jN.id).length d),(6,I6 l.length),(7,I6 j)]/\C'=bV B d 3 pM ((l.take j).map jN.id)::pt p [I6 most,.slice A l.length c] 259::bV A c 261 fM l::R) l.length (cN l.length ⟨0,none,0,by omega,⟨rfl,rfl,rfl,rfl,trivial⟩,rfl⟩ (by omega)) ?_
 rintro kk a C' ⟨j,B,d,hj,ha,rfl⟩
 refine iT _ ha ?_
 simp only[gH]
 by_cases hlt:j<l.length
 ·obtain⟨e,he⟩:∃e,l[j]?=some e:=⟨_,List.getElem?_eq_getElem hlt⟩
  have he':l[((j:Nat):Int).toNat]?=some e:=by rw[Int.toNat_natCast];exact he
  have hl:((l.take j).map jN.id).length<=100000:=by rw[List.length_map,List.length_take];omega
  have hn:(l.take j).map jN.id++ [e.id]=(l.take (j+1)).map jN.id:=by rw[List.take_add_one,he];simp
  repeat' (first|(show aN _ _ _ _ _ _ _;(refine dD (E:=pM) (xs:=(l.take j).map jN.id) (ys:= [e.id]) ?_;intro _ _))|refine v45 ?_|refine w5 ?_ ?_|((refine bh fun h=>?_) <;> try exact w6 h)|(refine aE fun hA=>?_;subst hA)|intro _)
  all_goals rw[hn]
  all_goals(show aV _ _ _ _;exact cN (kk - 1) ⟨j+1,_,_,by omega,⟨rfl,rfl,rfl,rfl,trivial⟩,rfl⟩)
 ·have hjl:j=l.length:=by omega
  subst hjl
  rw[List.take_length]
  simp only[List.length_map]
  repeat' (first|refine v45 ?_|refine w5 ?_ ?_|((refine bh fun h=>?_) <;> try exact w6 h)|(refine aE fun hA=>?_;subst hA)|intro _)
  all_goals(refine aC ?_;exact aB (hK _ _))
end Go.Proofs.YtepnmcipkangkaaGreat
