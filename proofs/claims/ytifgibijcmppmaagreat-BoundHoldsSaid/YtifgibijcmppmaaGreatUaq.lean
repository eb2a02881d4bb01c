/- A part of the proof: lemmas; each with the conditions that it states. -/
import Derived.Test.YtifgibijcmppmaaGreatUap
set_option linter.unusedVariables false
set_option linter.unusedSimpArgs false
set_option maxRecDepth 100000
set_option maxHeartbeats 40000000
namespace Go.Proofs.YtifgibijcmppmaaGreat
open Go Go.Proofs Go.Sl
attribute [local irreducible] aN fN cX bP aM aX aA dS dV aT dU pt ro eV star sep bH
section
variable {R C:List HP} {K:KP}
def u6 (q:Nat) (xs:List Fm):HP:=eV fun A=>eV fun c=>sep (pt q [.slice A xs.length c] 173) (sep (bQ A c 45 uR xs) (kR yA xs))
theorem sA {q:Nat} {xs:List Fm} {A:Option Addr} {c:Nat}:aG (pt q [.slice A xs.length c] 173::bQ A c 45 uR xs::kR yA xs::R) (u6 q xs::R):=
 aG.ex A (aG.ex c (aG.sep (aG.pick aV.here (aG.sep (aG.pick aV.here (aG.pick aV.here (aG.refl _)))))))
theorem uF {f:FuncId} {args:Array Value} {q:Nat} {xs:List Fm} (h:∀A c,CT f args (pt q [.slice A xs.length c] 173::bQ A c 45 uR xs::kR yA xs::R) K):CT f args (u6 q xs::R) K:=
 aA.ex fun A=>aA.ex fun c=>aA.sep (aA.ent (aG.cons aG.unsep) (h A c))
theorem Ahr (hK:∀q,K (PO q) (u6 q []::R)):CT 49 #[] R K:=by
 refine aH Tryz.func49 ?_
 repeat' (first|refine v6 ?_|refine w5 ?_ ?_|((refine bh fun h=>?_) <;> try exact w6 h)|(refine aE fun hA=>?_;subst hA)|intro _)
 refine aC ?_
 refine aK ?_ (hK _)
 exact aG.trans (aG.pick aV.here (aG.nilrow' (aG.allnil (aG.refl _)))) (sA (A:=none) (c:=0) (xs:= []))
theorem N9 {q n c:Nat} {A:Option Addr} (hK:K (I6 n) (pt q [.slice A n c] 173::R)):CT 94 #[PO q] (pt q [.slice A n c] 173::R) K:=by
 refine aH Tryz.func94 ?_
 repeat' (first|refine v4 ?_|refine w5 ?_ ?_|((refine bh fun h=>?_) <;> try exact w6 h)|(refine aE fun hA=>?_;subst hA)|intro _)
 (refine aC ?_;exact aB (hK))
theorem Afx {q:Nat} {xs:List Fm} (hK:K (I6 xs.length) (u6 q xs::R)):CT 94 #[PO q] (u6 q xs::R) K:=by
 refine uF fun A c=>?_
 refine aH Tryz.func94 ?_
 repeat' (first|refine v4 ?_|refine w5 ?_ ?_|((refine bh fun h=>?_) <;> try exact w6 h)|(refine aE fun hA=>?_;subst hA)|intro _)
 refine aC ?_
 exact aK sA hK
theorem Acx {q:Nat} {xs:List Fm} (hl:xs.length≤64) (hK:K (I6 (64 - xs.length)) (u6 q xs::R)):CT 113 #[PO q] (u6 q xs::R) K:=by
 refine uF fun A c=>?_
 refine aH Tryz.func113 ?_
 repeat' (first|refine v22 ?_|refine w5 ?_ ?_|((refine bh fun h=>?_) <;> try exact w6 h)|(refine aE fun hA=>?_;subst hA)|intro _)
 refine aC ?_
 exact aK sA hK
theorem Ww {q:Nat} {xs:List Fm} (hK:K (I6 xs.length) (u6 q []::R)):CT 271 #[PO q] (u6 q xs::R) K:=by
 refine uF fun A c=>?_
 refine aH Tryz.func271 ?_
 repeat' (first|refine v13 ?_|refine w5 ?_ ?_|((refine bh fun h=>?_) <;> try exact w6 h)|(refine aE fun hA=>?_;subst hA)|intro _|(show aA _ 94 _ _ _;refine CA (h:=N9 ?_)))
 ·refine aC ?_
  exact aK (aG.trans (aG.pick aV.here (aG.drop (aG.drop (aG.nilrow' (aG.allnil (aG.refl _)))))) (sA (A:=none) (c:=0) (xs:= []))) hK
 ·obtain rfl:xs= []:=List.length_eq_zero_iff.1 (by omega)
  refine aC ?_
  exact aK sA hK
theorem V9 {t st:Int} {e:Bool} {d:ByteArray} {k on w:Int} {x:Bool} {c la n:Int} {pa:Option Addr} {pn pc:Nat} (hK:K (.bool (decide (t=10) || decide (t=11))) R):CT 148 #[.agg #[I6 t,I6 st,.bool e,.string d,I6 k,I6 on,I6 w,.bool x,I6 c,I6 la,I6 n,.slice pa pn pc]] R K:=by
 refine aH Tryz.func148 ?_
 repeat' (first|refine v23 ?_|refine w5 ?_ ?_|((refine bh fun h=>?_) <;> try exact w6 h)|(refine aE fun hA=>?_;subst hA)|intro _)
 all_goals(refine aC ?_;exact aB (kb hK (by simp[*])))
def rL (f x:Fm):Bool:=(decide (f.t=10) || decide (f.t=11)) && decide (x.t=f.t) && decide (x.st=f.st) && decide (x.n≤2147483647 - f.n)
theorem DW {f x:Fm} {r:Nat} (hf:0≤f.n∧f.n≤2147483647) (hK:K (.bool (rL f x)) (pt r [I6 f.t,I6 f.st,.bool f.e,.string f.d,I6 f.k,I6 f.on,I6 f.w,.bool f.x,I6 f.c,I6 f.la,I6 f.n,.slice f.pa f.pn f.pc] 45::R)):CT 147 #[.agg #[I6 x.t,I6 x.st,.bool x.e,.string x.d,I6 x.k,I6 x.on,I6 x.w,.bool x.x,I6 x.c,I6 x.la,I6 x.n,.slice x.pa x.pn x.pc],PO r] (pt r [I6 f.t,I6 f.st,.bool f.e,.string f.d,I6 f.k,I6 f.on,I6 f.w,.bool f.x,I6 f.c,I6 f.la,I6 f.n,.slice f.pa f.pn f.pc] 45::R) K:=by
 refine aH Tryz.func147 ?_
 repeat' (first|refine v84 ?_|refine w5 ?_ ?_|((refine bh fun h=>?_) <;> try exact w6 h)|(refine aE fun hA=>?_;subst hA)|intro _|(show aA _ 148 _ _ _;refine CA (h:=V9 ?_)))
 all_goals(refine aC ?_;exact aB (kb hK (by unfold rL;simp[*])))
theorem all_cons {y:Fm} {xs:List Fm}:aG (kR yA (y::xs)::R) (kR yA xs::yA y::R):=
 aG.trans (aG.allget zZ AT (List.mem_cons_self ..)) (aG.trans (fun _ hs=>hs.swap) (aG.allsub fun z hz=>List.mem_cons_of_mem _ hz))
theorem W8 {q:Nat} {y:Fm} {xs:List Fm} (hn:xs.length≤1000) (hK:K (.tuple #[.agg #[I6 y.t,I6 y.st,.bool y.e,.string y.d,I6 y.k,I6 y.on,I6 y.w,.bool y.x,I6 y.c,I6 y.la,I6 y.n,.slice y.pa y.pn y.pc],.bool true]) (u6 q xs::yA y::R)):CT 95 #[PO q] (u6 q (y::xs)::R) K:=by
 refine uF fun A c=>?_
 have hl:(y::xs).length=xs.length+1:=rfl
 have h0:(y::xs)[(0:Int).toNat]?=some y:=rfl
 have hlen:(List.take ((((y::xs).length:Nat):Int).toNat - (1:Int).toNat) (List.drop (1:Int).toNat (y::xs))).length=(((y::xs).length:Nat):Int).toNat - (1:Int).toNat:=by simp
 have hbg:(2 * (0+(List.take ((((y::xs).length:Nat):Int).toNat - (1:Int).toNat) (List.drop (1:Int).toNat (y::xs))).length)+512) * (25+95)≤281474976710656:=by simp;omega
 have heq:List.take ((((y::xs).length:Nat):Int).toNat - (1:Int).toNat) (List.drop (1:Int).toNat (y::xs))=xs:=by simp
 refine aH Tryz.func95 ?_
 repeat' (first|refine v73 ?_|refine w5 ?_ ?_|((refine bh fun h=>?_) <;> try exact w6 h)|(refine aE fun hA=>?_;subst hA)|intro _|(show aA _ 94 _ _ _;refine CA (h:=N9 ?_))|(show aN _ _ _ _ _ _ _;refine Hl (hbig:=hbg) ?_;intro _ _))
 refine aC ?_
 simp only[heq]
 exact aK (aG.trans (by exact aZ) (aG.trans (aG.cons (aG.cons (all_cons (y:=y)))) (sA (xs:=xs)))) hK
end
section
variable {R C:List HP} {K:KP}
def X4 (y:Fm) (n:Int):Fm:=⟨y.t,y.st,y.e,y.d,y.k,y.on,y.w,y.x,y.c,y.la,y.n+n,y.pa,y.pn,y.pc,[]⟩
def cO:List (Nat×Nat):= [(0,0),(1,0),(2,0),(3,0),(4,0),(5,0),(6,0),(7,0),(8,0),(9,0),(10,0),(11,0),(12,0),(13,1)]
def cV:List (Nat×Nat):= [(5,0),(6,1),(1,1),(2,1),(3,1),(4,1),(7,1),(0,2),(8,0),(9,0),(10,1)]
theorem Xp {p:Option Addr} {f:Fm} (hp:p≠none) (hc:mK f=false) (hv:FmV C f) (hn2:f.pn<1000000000000000) (hK:K (I6 2) C):CT 60 #[.pointer p,.agg #[I6 f.t,I6 f.st,.bool f.e,.string f.d,I6 f.k,I6 f.on,I6 f.w,.bool f.x,I6 f.c,I6 f.la,I6 f.n,.slice f.pa f.pn f.pc]] C K:=by
 obtain⟨q,rfl⟩:∃q,p=some q:=Option.ne_none_iff_exists'.1 hp
 unfold mK at hc
 refine aH Tryz.func60 ?_
 repeat' (first|refine Jp ?_|refine dw cO ?_|refine dw cV ?_|refine w5 ?_ ?_|((refine bh fun h=>?_) <;> try exact w6 h)|(refine aE fun hA=>?_;subst hA)|intro _|(show aA _ 112 _ _ _;refine CA (h:=Bv (ps:=f.ps) hc (bM hv.1) hv.2 hn2 ?_)))
 all_goals(refine aC ?_;exact aB (hK))
theorem Xe {p:Option Addr} {f:Fm} (hp:p≠none) (hc:mK f=true) (ht:f.t=0∨f.t=1) (hv:FmV C f) (hn2:f.pn<1000000000000000) (hK:K (I6 13) C):CT 60 #[.pointer p,.agg #[I6 f.t,I6 f.st,.bool f.e,.string f.d,I6 f.k,I6 f.on,I6 f.w,.bool f.x,I6 f.c,I6 f.la,I6 f.n,.slice f.pa f.pn f.pc]] C K:=by
 obtain⟨q,rfl⟩:∃q,p=some q:=Option.ne_none_iff_exists'.1 hp
 unfold mK at hc
 refine aH Tryz.func60 ?_
 repeat' (first|refine Jp ?_|refine dw cO ?_|refine dw cV ?_|refine w5 ?_ ?_|((refine bh fun h=>?_) <;> try exact w6 h)|(refine aE fun hA=>?_;subst hA)|intro _|(show aA _ 112 _ _ _;refine CA (h:=iN (ps:=f.ps) hc (bM hv.1) hv.2 hn2 ?_)))
 all_goals(refine aC ?_;exact aB (hK))
theorem GB {f:Fm} (h:mK f=true):0≤f.n∧f.n≤2147483647:=by
 have:=((uO f).1 h).2.2.2.2.2.2.2.2.2.2.2.2.2.2.2.2.2.2.2.1
 exact(vW _).1 this
theorem Km {q n:Nat} {xs:List Fm} {A:Option Addr} {c:Nat} (h:xs.length=n):aG (pt q [.slice A n c] 173::bQ A c 45 uR xs::kR yA xs::R) (u6 q xs::R):=by
 subst h;exact sA
theorem Afe {A:Option Addr} {c:Nat} {e:TypeId} {xs ys:List Fm} (h:xs.flatMap uR.enc=ys.flatMap uR.enc) (hl:xs.length=ys.length) (H:Hp) (hr:bQ A c e uR xs H):bQ A c e uR ys H:=by
 rcases hr with⟨h1,h2,h3⟩|⟨B,pre,post,h1,h2,h3,h4⟩
 ·subst h2
  exact .inl ⟨h1,List.length_eq_zero_iff.1 hl.symm,h3⟩
 ·rw[h] at h2
  rw[hl] at h3 h4
  exact .inr ⟨B,pre,post,h1,h2,h3,h4⟩
theorem Wv {q n:Nat} {xs:List Fm} {A:Option Addr} {c:Nat} (f0 f1:Fm) (he:uR.enc f0=uR.enc f1) (hn:n=(xs++ [f0]).length):aG (pt q [.slice A n c] 173::bQ A c 45 uR (xs++ [f0])::m7 f1.pa rE f1.ps::kR yA xs::R) (u6 q (xs++ [f1])::R):=
 aG.trans (aG.cons (aG.imp (Afe (ys:=xs++ [f1]) (by simp[he]) (by simp)) (aG.allsnoc (P:=yA) (x:=f1) zZ AT))) (Km (by rw[hn];simp))
theorem Aea {y:Fm} {xs:List Fm} {j:Nat} {n:Int}:aG (kR yA xs::R) (kR yA (xs.set j (X4 y n))::R):=
 aG.imp (fun H h z hz=>by
  rcases List.mem_or_eq_of_mem_set hz with h'|rfl
  ·exact h z h'
  ·exact .inl rfl) (aG.refl _)
theorem We {q:Nat} {f y:Fm} {xs:List Fm} {j:Nat} (hc:mK f=true) (ht:2≤f.t) (hj:xs[j]?=some y) (hy:rL f y=true) (hb:∀i z,i<j→xs[i]?=some z→rL f z=false) (hyn:0≤y.n) (hl:xs.length≤1000) (hv:dT R f.pa rE f.ps) (hvn:f.ps.length=f.pn) (hn2:f.pn<1000000000000000) (hK:K (I6 0) (u6 q (xs.set j (X4 y f.n))::R)):CT 60 #[PO q,.agg #[I6 f.t,I6 f.st,.bool f.e,.string f.d,I6 f.k,I6 f.on,I6 f.w,.bool f.x,I6 f.c,I6 f.la,I6 f.n,.slice f.pa f.pn f.pc]] (u6 q xs::R) K:=by
 have hnn:=GB hc
 have hyy:y.n≤2147483647 - f.n:=by unfold rL at hy;simp only[Bool.and_eq_true,decide_eq_true_eq] at hy;exact hy.2
 unfold mK at hc
 have hjl:j<xs.length:=(List.getElem?_eq_some_iff.1 hj).1
 refine uF fun A c=>?_
 refine aH Tryz.func60 ?_
 repeat' (first|refine Jp ?_|refine dw cO ?_|refine dw cV ?_|refine w5 ?_ ?_|((refine bh fun h=>?_) <;> try exact w6 h)|(refine aE fun hA=>?_;subst hA)|intro _|(show aA _ 112 _ _ _;refine CA (h:=iN (ps:=f.ps) hc (by exact kF) hvn hn2 ?_)))
 rename_i r _
 refine fZ (fun m a C'=>∃i:Nat,i+m=j+1∧0<m∧C'=pt r [I6 f.t,I6 f.st,.bool f.e,.string f.d,I6 f.k,I6 f.on,I6 f.w,.bool f.x,I6 f.c,I6 f.la,I6 f.n,.slice f.pa f.pn f.pc] 45::pt q [.slice A xs.length c] 173::bQ A c 45 uR xs::kR yA xs::R∧cJ a [(0,PO q),(3,PO r),(4,I6 0),(5,.func (.func 147) #[] #[PO r]),(28,.slice A xs.length c),(29,I6 xs.length),(30,I6 i)]) (j+1) (bV (j+1) ⟨0,by omega,by omega,rfl,rfl,rfl,rfl,rfl,rfl,rfl,rfl,trivial⟩) ?_
 rintro n1 a C' ⟨i,hi,h0,rfl,ha⟩
 refine fP _ ha ?_
 simp only[eP]
 by_cases hlt:i<j
 ·obtain⟨z,hz,hd⟩:=i7 (l:=xs) (j:=i) (by omega)
  have hzl:=hb i z hlt hz
  repeat' (first|refine Jp ?_|refine dw cO ?_|refine dw cV ?_|refine w5 ?_ ?_|((refine bh fun h=>?_) <;> try exact w6 h)|(refine aE fun hA=>?_;subst hA)|intro _|(show aA _ 147 _ _ _;refine CA (h:=DW hnn ?_)))
  all_goals exact bV (n1 - 1) ⟨i+1,by omega,by omega,rfl,rfl,rfl,rfl,rfl,rfl,rfl,rfl,trivial⟩
 ·obtain rfl:i=j:=by omega
  repeat' (first|refine Jp ?_|refine dw cO ?_|refine dw cV ?_|refine w5 ?_ ?_|((refine bh fun h=>?_) <;> try exact w6 h)|(refine aE fun hA=>?_;subst hA)|intro _|(show aA _ 147 _ _ _;refine CA (h:=DW hnn ?_))|(show aN _ _ _ _ _ _ _;first|refine IM ?_|refine tL ?_))
  refine aC ?_
  exact aK (aG.trans (by exact aZ) (aG.trans (aG.cons (aG.cons Aea)) (Km (xs:=xs.set i (X4 y f.n)) (List.length_set ..)))) hK
theorem P5 {f:Fm} {xs:List Fm} (hb:∀z∈xs,rL f z=false) {i:Nat} {z:Fm} (h:xs[i]?=some z):rL f z=false:=hb z (List.mem_of_getElem? h)
theorem Xn {q:Nat} {f:Fm} {xs:List Fm} (hc:mK f=true) (ht:2≤f.t) (hb:∀z∈xs,rL f z=false) (hl:xs.length≤1000) (h64:64≤xs.length) (hv:dT R f.pa rE f.ps) (hvn:f.ps.length=f.pn) (hn2:f.pn<1000000000000000) (hK:K (I6 9) (u6 q xs::R)):CT 60 #[PO q,.agg #[I6 f.t,I6 f.st,.bool f.e,.string f.d,I6 f.k,I6 f.on,I6 f.w,.bool f.x,I6 f.c,I6 f.la,I6 f.n,.slice f.pa f.pn f.pc]] (u6 q xs::R) K:=by
 have hnn:=GB hc
 unfold mK at hc
 refine uF fun A c=>?_
 refine aH Tryz.func60 ?_
 repeat' (first|refine Jp ?_|refine dw cO ?_|refine dw cV ?_|refine w5 ?_ ?_|((refine bh fun h=>?_) <;> try exact w6 h)|(refine aE fun hA=>?_;subst hA)|intro _|(show aA _ 112 _ _ _;refine CA (h:=iN (ps:=f.ps) hc (by exact kF) hvn hn2 ?_)))
 rename_i r _
 refine fZ (fun m a C'=>∃i:Nat,i+m=xs.length∧C'=pt r [I6 f.t,I6 f.st,.bool f.e,.string f.d,I6 f.k,I6 f.on,I6 f.w,.bool f.x,I6 f.c,I6 f.la,I6 f.n,.slice f.pa f.pn f.pc] 45::pt q [.slice A xs.length c] 173::bQ A c 45 uR xs::kR yA xs::R∧cJ a [(0,PO q),(3,PO r),(4,I6 0),(5,.func (.func 147) #[] #[PO r]),(28,.slice A xs.length c),(29,I6 xs.length),(30,I6 i)]) xs.length (bV xs.length ⟨0,by omega,rfl,rfl,rfl,rfl,rfl,rfl,rfl,rfl,trivial⟩) ?_
 rintro n1 a C' ⟨i,hi,rfl,ha⟩
 refine fP _ ha ?_
 simp only[eP]
 by_cases hlt:i<xs.length
 ·obtain⟨z,hz,hd⟩:=i7 (l:=xs) (j:=i) (by omega)
  have hzl:=P5 hb hz
  repeat' (first|refine Jp ?_|refine dw cO ?_|refine dw cV ?_|refine w5 ?_ ?_|((refine bh fun h=>?_) <;> try exact w6 h)|(refine aE fun hA=>?_;subst hA)|intro _|(show aA _ 147 _ _ _;refine CA (h:=DW hnn ?_)))
  all_goals exact bV (n1 - 1) ⟨i+1,by omega,rfl,rfl,rfl,rfl,rfl,rfl,rfl,rfl,trivial⟩
 ·repeat' (first|refine Jp ?_|refine dw cO ?_|refine dw cV ?_|refine w5 ?_ ?_|((refine bh fun h=>?_) <;> try exact w6 h)|(refine aE fun hA=>?_;subst hA)|intro _)
  refine aC ?_
  exact aK (aG.trans (by exact aZ) sA) hK
theorem WJ {q:Nat} {f:Fm} {xs:List Fm} (hc:mK f=true) (ht:2≤f.t) (hb:∀z∈xs,rL f z=false) (h64:xs.length<64) (hv:dT R f.pa rE f.ps) (hvn:f.ps.length=f.pn) (hK:∀A' c',K (I6 0) (u6 q (xs++ [⟨f.t,f.st,f.e,f.d,f.k,f.on,f.w,f.x,f.c,f.la,f.n,A',f.ps.length,c',f.ps⟩])::R)):CT 60 #[PO q,.agg #[I6 f.t,I6 f.st,.bool f.e,.string f.d,I6 f.k,I6 f.on,I6 f.w,.bool f.x,I6 f.c,I6 f.la,I6 f.n,.slice f.pa f.pn f.pc]] (u6 q xs::R) K:=by
 have hnn:=GB hc
 have hn8:f.ps.length≤8:=((uO f).1 hc).2.2.2.2.2.2.2.2.2.2.2.2.2.2.2.2.2.2.2.2
 have hn2:f.pn<1000000000000000:=by omega
 unfold mK at hc
 refine uF fun A c=>?_
 refine aH Tryz.func60 ?_
 repeat' (first|refine Jp ?_|refine dw cO ?_|refine dw cV ?_|refine w5 ?_ ?_|((refine bh fun h=>?_) <;> try exact w6 h)|(refine aE fun hA=>?_;subst hA)|intro _|(show aA _ 112 _ _ _;refine CA (h:=iN (ps:=f.ps) hc (by exact kF) hvn hn2 ?_)))
 rename_i r _
 refine fZ (fun m a C'=>∃i:Nat,i+m=xs.length∧C'=pt r [I6 f.t,I6 f.st,.bool f.e,.string f.d,I6 f.k,I6 f.on,I6 f.w,.bool f.x,I6 f.c,I6 f.la,I6 f.n,.slice f.pa f.pn f.pc] 45::pt q [.slice A xs.length c] 173::bQ A c 45 uR xs::kR yA xs::R∧cJ a [(0,PO q),(3,PO r),(4,I6 0),(5,.func (.func 147) #[] #[PO r]),(28,.slice A xs.length c),(29,I6 xs.length),(30,I6 i)]) xs.length (bV xs.length ⟨0,by omega,rfl,rfl,rfl,rfl,rfl,rfl,rfl,rfl,trivial⟩) ?_
 rintro n1 a C' ⟨i,hi,rfl,ha⟩
 refine fP _ ha ?_
 simp only[eP]
 by_cases hlt:i<xs.length
 ·obtain⟨z,hz,hd⟩:=i7 (l:=xs) (j:=i) (by omega)
  have hzl:=P5 hb hz
  repeat' (first|refine Jp ?_|refine dw cO ?_|refine dw cV ?_|refine w5 ?_ ?_|((refine bh fun h=>?_) <;> try exact w6 h)|(refine aE fun hA=>?_;subst hA)|intro _|(show aA _ 147 _ _ _;refine CA (h:=DW hnn ?_)))
  all_goals exact bV (n1 - 1) ⟨i+1,by omega,rfl,rfl,rfl,rfl,rfl,rfl,rfl,rfl,trivial⟩
 ·repeat' (first|refine Jp ?_|refine dw cO ?_|refine dw cV ?_|refine w5 ?_ ?_|((refine bh fun h=>?_) <;> try exact w6 h)|(refine aE fun hA=>?_;subst hA)|intro _|(show aN _ _ _ _ _ _ _;first|(refine lZ ?_;intro _ _)|(refine Hl ?_;intro _ _)))
  refine aC ?_
  exact aK (tZ (E:=rE) (xs:=f.ps) (by((repeat (first|exact aV.here|apply aV.there)) <;> exact aV.here)) (aG.trans (by exact aZ) (Wv ⟨f.t,f.st,f.e,f.d,f.k,f.on,f.w,f.x,f.c,f.la,f.n,_,f.ps.length,_,[]⟩ ⟨f.t,f.st,f.e,f.d,f.k,f.on,f.w,f.x,f.c,f.la,f.n,_,f.ps.length,_,f.ps⟩ rfl rfl))) (hK _ _)
end
end Go.Proofs.YtifgibijcmppmaaGreat
