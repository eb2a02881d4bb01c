/- A part of the proof: lemmas; each with the conditions that it states. -/
import Derived.Test.YtifgibijcmppmaaGreatNaq
set_option linter.unusedVariables false
set_option linter.unusedSimpArgs false
namespace Go.Proofs.YtifgibijcmppmaaGreat
open Go Go.Proofs Go.Sl
set_option maxRecDepth 100000
set_option maxHeartbeats 40000000
attribute [local irreducible] aN fB cJ bO aM aY aA dM dQ aW dK pt ro fF star sep bI
section
variable {R C:List HP} {K:Value→List HP→Prop}
def u9 (q:Nat) (xs:List Fm):HP:=fF fun A=>fF fun c=>sep (pt q [.slice A xs.length c] 173) (sep (bT A c 45 sR xs) (jY xS xs))
theorem rX {q:Nat} {xs:List Fm} {A:Option Addr} {c:Nat}:aG (pt q [.slice A xs.length c] 173::bT A c 45 sR xs::jY xS xs::R) (u9 q xs::R):=
 aG.ex A (aG.ex c (aG.sep (aG.pick aV.here (aG.sep (aG.pick aV.here (aG.pick aV.here (aG.refl _)))))))
theorem uQ {f:FuncId} {args:Array Value} {q:Nat} {xs:List Fm} (h:∀A c,aA Tryz.prog f args (pt q [.slice A xs.length c] 173::bT A c 45 sR xs::jY xS xs::R) K):aA Tryz.prog f args (u9 q xs::R) K:=
 aA.ex fun A=>aA.ex fun c=>aA.sep (aA.ent (aG.cons aG.unsep) (h A c))
theorem Ael (hK:∀q,K (.pointer (some ⟨q,0,none⟩)) (u9 q []::R)):aA Tryz.prog 49 #[] R K:=by
 refine aH Tryz.func49 ?_
 repeat' (first|refine v6 ?_|refine wr ?_|refine w5 ?_ ?_|((refine bh fun h=>?_) <;> try exact w6 h)|(refine aE fun hA=>?_;subst hA)|intro _)
 refine aC ?_
 refine aL ?_ (hK _)
 exact aG.trans (aG.pick aV.here (aG.nilrow' (aG.allnil (aG.refl _)))) (rX (A:=none) (c:=0) (xs:= []))
theorem Qj {q n c:Nat} {A:Option Addr} (hK:K (.int .i64 n) (pt q [.slice A n c] 173::R)):aA Tryz.prog 94 #[.pointer (some ⟨q,0,none⟩)] (pt q [.slice A n c] 173::R) K:=by
 refine aH Tryz.func94 ?_
 repeat' (first|refine v4 ?_|refine wr ?_|refine w5 ?_ ?_|((refine bh fun h=>?_) <;> try exact w6 h)|(refine aE fun hA=>?_;subst hA)|intro _)
 (refine aC ?_;exact aB (hK))
theorem Ado {q:Nat} {xs:List Fm} (hK:K (.int .i64 xs.length) (u9 q xs::R)):aA Tryz.prog 94 #[.pointer (some ⟨q,0,none⟩)] (u9 q xs::R) K:=by
 refine uQ fun A c=>?_
 refine aH Tryz.func94 ?_
 repeat' (first|refine v4 ?_|refine wr ?_|refine w5 ?_ ?_|((refine bh fun h=>?_) <;> try exact w6 h)|(refine aE fun hA=>?_;subst hA)|intro _)
 refine aC ?_
 exact aL rX hK
theorem Abg {q:Nat} {xs:List Fm} (hl:xs.length≤64) (hK:K (.int .i64 (64 - xs.length)) (u9 q xs::R)):aA Tryz.prog 113 #[.pointer (some ⟨q,0,none⟩)] (u9 q xs::R) K:=by
 refine uQ fun A c=>?_
 refine aH Tryz.func113 ?_
 repeat' (first|refine v22 ?_|refine wr ?_|refine w5 ?_ ?_|((refine bh fun h=>?_) <;> try exact w6 h)|(refine aE fun hA=>?_;subst hA)|intro _)
 refine aC ?_
 exact aL rX hK
theorem WX {q:Nat} {xs:List Fm} (hK:K (.int .i64 xs.length) (u9 q []::R)):aA Tryz.prog 271 #[.pointer (some ⟨q,0,none⟩)] (u9 q xs::R) K:=by
 refine uQ fun A c=>?_
 refine aH Tryz.func271 ?_
 repeat' (first|refine v13 ?_|refine wr ?_|refine w5 ?_ ?_|((refine bh fun h=>?_) <;> try exact w6 h)|(refine aE fun hA=>?_;subst hA)|intro _|(show aA _ 94 _ _ _;refine CA (h:=Qj ?_)))
 ·refine aC ?_
  exact aL (aG.trans (aG.pick aV.here (aG.drop (aG.drop (aG.nilrow' (aG.allnil (aG.refl _)))))) (rX (A:=none) (c:=0) (xs:= []))) hK
 ·obtain rfl:xs= []:=List.length_eq_zero_iff.1 (by omega)
  refine aC ?_
  exact aL rX hK
theorem WH {t st:Int} {e:Bool} {d:ByteArray} {k on w:Int} {x:Bool} {c la n:Int} {pa:Option Addr} {pn pc:Nat} (hK:K (.bool (decide (t=10) || decide (t=11))) R):aA Tryz.prog 148 #[.agg #[.int .i64 t,.int .i64 st,.bool e,.string d,.int .i64 k,.int .i64 on,.int .i64 w,.bool x,.int .i64 c,.int .i64 la,.int .i64 n,.slice pa pn pc]] R K:=by
 refine aH Tryz.func148 ?_
 repeat' (first|refine v23 ?_|refine wr ?_|refine w5 ?_ ?_|((refine bh fun h=>?_) <;> try exact w6 h)|(refine aE fun hA=>?_;subst hA)|intro _)
 all_goals(refine aC ?_;exact aB (kb hK (by simp[*])))
def sM (f x:Fm):Bool:=(decide (f.t=10) || decide (f.t=11)) && decide (x.t=f.t) && decide (x.st=f.st) && decide (x.n≤2147483647 - f.n)
theorem Di {f x:Fm} {r:Nat} (hf:0≤f.n∧f.n≤2147483647) (hK:K (.bool (sM f x)) (pt r [.int .i64 f.t,.int .i64 f.st,.bool f.e,.string f.d,.int .i64 f.k,.int .i64 f.on,.int .i64 f.w,.bool f.x,.int .i64 f.c,.int .i64 f.la,.int .i64 f.n,.slice f.pa f.pn f.pc] 45::R)):aA Tryz.prog 147 #[.agg #[.int .i64 x.t,.int .i64 x.st,.bool x.e,.string x.d,.int .i64 x.k,.int .i64 x.on,.int .i64 x.w,.bool x.x,.int .i64 x.c,.int .i64 x.la,.int .i64 x.n,.slice x.pa x.pn x.pc],.pointer (some ⟨r,0,none⟩)] (pt r [.int .i64 f.t,.int .i64 f.st,.bool f.e,.string f.d,.int .i64 f.k,.int .i64 f.on,.int .i64 f.w,.bool f.x,.int .i64 f.c,.int .i64 f.la,.int .i64 f.n,.slice f.pa f.pn f.pc] 45::R) K:=by
 refine aH Tryz.func147 ?_
 repeat' (first|refine v84 ?_|refine wr ?_|refine w5 ?_ ?_|((refine bh fun h=>?_) <;> try exact w6 h)|(refine aE fun hA=>?_;subst hA)|intro _|(show aA _ 148 _ _ _;refine CA (h:=WH ?_)))
 all_goals(refine aC ?_;exact aB (kb hK (by unfold sM;simp[*])))
theorem all_cons {y:Fm} {xs:List Fm}:aG (jY xS (y::xs)::R) (jY xS xs::xS y::R):=
 aG.trans (aG.allget w3 rO (List.mem_cons_self ..)) (aG.trans (fun _ hs=>hs.swap) (aG.allsub fun z hz=>List.mem_cons_of_mem _ hz))
theorem Wp {q:Nat} {y:Fm} {xs:List Fm} (hn:xs.length≤1000) (hK:K (.tuple #[.agg #[.int .i64 y.t,.int .i64 y.st,.bool y.e,.string y.d,.int .i64 y.k,.int .i64 y.on,.int .i64 y.w,.bool y.x,.int .i64 y.c,.int .i64 y.la,.int .i64 y.n,.slice y.pa y.pn y.pc],.bool true]) (u9 q xs::xS y::R)):aA Tryz.prog 95 #[.pointer (some ⟨q,0,none⟩)] (u9 q (y::xs)::R) K:=by
 refine uQ fun A c=>?_
 have hl:(y::xs).length=xs.length+1:=rfl
 have h0:(y::xs)[(0:Int).toNat]?=some y:=rfl
 have hlen:(List.take ((((y::xs).length:Nat):Int).toNat - (1:Int).toNat) (List.drop (1:Int).toNat (y::xs))).length=(((y::xs).length:Nat):Int).toNat - (1:Int).toNat:=by simp
 have hbg:(2 * (0+(List.take ((((y::xs).length:Nat):Int).toNat - (1:Int).toNat) (List.drop (1:Int).toNat (y::xs))).length)+512) * (25+95)≤281474976710656:=by simp;omega
 have heq:List.take ((((y::xs).length:Nat):Int).toNat - (1:Int).toNat) (List.drop (1:Int).toNat (y::xs))=xs:=by simp
 refine aH Tryz.func95 ?_
 repeat' (first|refine v73 ?_|refine wr ?_|refine w5 ?_ ?_|((refine bh fun h=>?_) <;> try exact w6 h)|(refine aE fun hA=>?_;subst hA)|intro _|(show aA _ 94 _ _ _;refine CA (h:=Qj ?_))|(show aN _ _ _ _ _ _ _;refine GM (hbig:=hbg) ?_;intro _ _))
 refine aC ?_
 simp only[heq]
 exact aL (aG.trans (by exact bA) (aG.trans (aG.cons (aG.cons (all_cons (y:=y)))) (rX (xs:=xs)))) hK
end
section
variable {R C:List HP} {K:Value→List HP→Prop}
def Vt (y:Fm) (n:Int):Fm:=⟨y.t,y.st,y.e,y.d,y.k,y.on,y.w,y.x,y.c,y.la,y.n+n,y.pa,y.pn,y.pc,[]⟩
def cQ:List (Nat×Nat):= [(0,0),(1,0),(2,0),(3,0),(4,0),(5,0),(6,0),(7,0),(8,0),(9,0),(10,0),(11,0),(12,0),(13,1)]
def cT:List (Nat×Nat):= [(5,0),(6,1),(1,1),(2,1),(3,1),(4,1),(7,1),(0,2),(8,0),(9,0),(10,1)]
theorem Wg {p:Option Addr} {f:Fm} (hp:p≠none) (hc:mQ f=false) (hv:FmV C f) (hn2:f.pn<1000000000000000) (hK:K (.int .i64 2) C):aA Tryz.prog 60 #[.pointer p,.agg #[.int .i64 f.t,.int .i64 f.st,.bool f.e,.string f.d,.int .i64 f.k,.int .i64 f.on,.int .i64 f.w,.bool f.x,.int .i64 f.c,.int .i64 f.la,.int .i64 f.n,.slice f.pa f.pn f.pc]] C K:=by
 obtain⟨q,rfl⟩:∃q,p=some q:=Option.ne_none_iff_exists'.1 hp
 unfold mQ at hc
 refine aH Tryz.func60 ?_
 repeat' (first|refine I5 ?_|refine dw cQ ?_|refine dw cT ?_|refine wr ?_|refine w5 ?_ ?_|((refine bh fun h=>?_) <;> try exact w6 h)|(refine aE fun hA=>?_;subst hA)|intro _|(show aA _ 112 _ _ _;refine CA (h:=Bh (ps:=f.ps) hc (bB hv.1) hv.2 hn2 ?_)))
 all_goals(refine aC ?_;exact aB (hK))
theorem Vy {p:Option Addr} {f:Fm} (hp:p≠none) (hc:mQ f=true) (ht:f.t=0∨f.t=1) (hv:FmV C f) (hn2:f.pn<1000000000000000) (hK:K (.int .i64 13) C):aA Tryz.prog 60 #[.pointer p,.agg #[.int .i64 f.t,.int .i64 f.st,.bool f.e,.string f.d,.int .i64 f.k,.int .i64 f.on,.int .i64 f.w,.bool f.x,.int .i64 f.c,.int .i64 f.la,.int .i64 f.n,.slice f.pa f.pn f.pc]] C K:=by
 obtain⟨q,rfl⟩:∃q,p=some q:=Option.ne_none_iff_exists'.1 hp
 unfold mQ at hc
 refine aH Tryz.func60 ?_
 repeat' (first|refine I5 ?_|refine dw cQ ?_|refine dw cT ?_|refine wr ?_|refine w5 ?_ ?_|((refine bh fun h=>?_) <;> try exact w6 h)|(refine aE fun hA=>?_;subst hA)|intro _|(show aA _ 112 _ _ _;refine CA (h:=iW (ps:=f.ps) hc (bB hv.1) hv.2 hn2 ?_)))
 all_goals(refine aC ?_;exact aB (hK))
theorem Ge {f:Fm} (h:mQ f=true):0≤f.n∧f.n≤2147483647:=by
 have:=((sO f).1 h).2.2.2.2.2.2.2.2.2.2.2.2.2.2.2.2.2.2.2.1
 exact(lV _).1 this
theorem JQ {q n:Nat} {xs:List Fm} {A:Option Addr} {c:Nat} (h:xs.length=n):aG (pt q [.slice A n c] 173::bT A c 45 sR xs::jY xS xs::R) (u9 q xs::R):=by
 subst h;exact rX
theorem Ae4 {A:Option Addr} {c:Nat} {e:TypeId} {xs ys:List Fm} (h:xs.flatMap sR.enc=ys.flatMap sR.enc) (hl:xs.length=ys.length) (H:Hp) (hr:bT A c e sR xs H):bT A c e sR ys H:=by
 rcases hr with⟨h1,h2,h3⟩|⟨B,pre,post,h1,h2,h3,h4⟩
 ·subst h2
  exact .inl ⟨h1,List.length_eq_zero_iff.1 hl.symm,h3⟩
 ·rw[h] at h2
  rw[hl] at h3 h4
  exact .inr ⟨B,pre,post,h1,h2,h3,h4⟩
theorem VD {q n:Nat} {xs:List Fm} {A:Option Addr} {c:Nat} (f0 f1:Fm) (he:sR.enc f0=sR.enc f1) (hn:n=(xs++ [f0]).length):aG (pt q [.slice A n c] 173::bT A c 45 sR (xs++ [f0])::nY f1.pa nV f1.ps::jY xS xs::R) (u9 q (xs++ [f1])::R):=
 aG.trans (aG.cons (aG.imp (Ae4 (ys:=xs++ [f1]) (by simp[he]) (by simp)) (aG.allsnoc (P:=xS) (x:=f1) w3 rO))) (JQ (by rw[hn];simp))
theorem Ac4 {y:Fm} {xs:List Fm} {j:Nat} {n:Int}:aG (jY xS xs::R) (jY xS (xs.set j (Vt y n))::R):=
 aG.imp (fun H h z hz=>by
  rcases List.mem_or_eq_of_mem_set hz with h'|rfl
  ·exact h z h'
  ·exact .inl rfl) (aG.refl _)
theorem Xi {q:Nat} {f y:Fm} {xs:List Fm} {j:Nat} (hc:mQ f=true) (ht:2≤f.t) (hj:xs[j]?=some y) (hy:sM f y=true) (hb:∀i z,i<j→xs[i]?=some z→sM f z=false) (hyn:0≤y.n) (hl:xs.length≤1000) (hv:cZ R f.pa nV f.ps) (hvn:f.ps.length=f.pn) (hn2:f.pn<1000000000000000) (hK:K (.int .i64 0) (u9 q (xs.set j (Vt y f.n))::R)):aA Tryz.prog 60 #[.pointer (some ⟨q,0,none⟩),.agg #[.int .i64 f.t,.int .i64 f.st,.bool f.e,.string f.d,.int .i64 f.k,.int .i64 f.on,.int .i64 f.w,.bool f.x,.int .i64 f.c,.int .i64 f.la,.int .i64 f.n,.slice f.pa f.pn f.pc]] (u9 q xs::R) K:=by
 have hnn:=Ge hc
 have hyy:y.n≤2147483647 - f.n:=by unfold sM at hy;simp only[Bool.and_eq_true,decide_eq_true_eq] at hy;exact hy.2
 unfold mQ at hc
 have hjl:j<xs.length:=(List.getElem?_eq_some_iff.1 hj).1
 refine uQ fun A c=>?_
 refine aH Tryz.func60 ?_
 repeat' (first|refine I5 ?_|refine dw cQ ?_|refine dw cT ?_|refine wr ?_|refine w5 ?_ ?_|((refine bh fun h=>?_) <;> try exact w6 h)|(refine aE fun hA=>?_;subst hA)|intro _|(show aA _ 112 _ _ _;refine CA (h:=iW (ps:=f.ps) hc (by exact kR) hvn hn2 ?_)))
 rename_i r _
 refine iF (fun m a C'=>∃i:Nat,i+m=j+1∧0<m∧C'=pt r [.int .i64 f.t,.int .i64 f.st,.bool f.e,.string f.d,.int .i64 f.k,.int .i64 f.on,.int .i64 f.w,.bool f.x,.int .i64 f.c,.int .i64 f.la,.int .i64 f.n,.slice f.pa f.pn f.pc] 45::pt q [.slice A xs.length c] 173::bT A c 45 sR xs::jY xS xs::R∧cN a [(0,.pointer (some ⟨q,0,none⟩)),(3,.pointer (some ⟨r,0,none⟩)),(4,.int .i64 0),(5,.func (.func 147) #[] #[.pointer (some ⟨r,0,none⟩)]),(28,.slice A xs.length c),(29,.int .i64 xs.length),(30,.int .i64 i)]) (j+1) (b9 (j+1) ⟨0,by omega,by omega,rfl,rfl,rfl,rfl,rfl,rfl,rfl,rfl,trivial⟩) ?_
 rintro n1 a C' ⟨i,hi,h0,rfl,ha⟩
 refine gF _ ha ?_
 simp only[eQ]
 by_cases hlt:i<j
 ·obtain⟨z,hz,hd⟩:=jP (l:=xs) (j:=i) (by omega)
  have hzl:=hb i z hlt hz
  repeat' (first|refine I5 ?_|refine dw cQ ?_|refine dw cT ?_|refine wr ?_|refine w5 ?_ ?_|((refine bh fun h=>?_) <;> try exact w6 h)|(refine aE fun hA=>?_;subst hA)|intro _|(show aA _ 147 _ _ _;refine CA (h:=Di hnn ?_)))
  all_goals exact b9 (n1 - 1) ⟨i+1,by omega,by omega,rfl,rfl,rfl,rfl,rfl,rfl,rfl,rfl,trivial⟩
 ·obtain rfl:i=j:=by omega
  repeat' (first|refine I5 ?_|refine dw cQ ?_|refine dw cT ?_|refine wr ?_|refine w5 ?_ ?_|((refine bh fun h=>?_) <;> try exact w6 h)|(refine aE fun hA=>?_;subst hA)|intro _|(show aA _ 147 _ _ _;refine CA (h:=Di hnn ?_))|(show aN _ _ _ _ _ _ _;first|refine Hb ?_|refine t8 ?_))
  refine aC ?_
  exact aL (aG.trans (by exact bA) (aG.trans (aG.cons (aG.cons Ac4)) (JQ (xs:=xs.set i (Vt y f.n)) (List.length_set ..)))) hK
theorem Pw {f:Fm} {xs:List Fm} (hb:∀z∈xs,sM f z=false) {i:Nat} {z:Fm} (h:xs[i]?=some z):sM f z=false:=hb z (List.mem_of_getElem? h)
theorem WY {q:Nat} {f:Fm} {xs:List Fm} (hc:mQ f=true) (ht:2≤f.t) (hb:∀z∈xs,sM f z=false) (hl:xs.length≤1000) (h64:64≤xs.length) (hv:cZ R f.pa nV f.ps) (hvn:f.ps.length=f.pn) (hn2:f.pn<1000000000000000) (hK:K (.int .i64 9) (u9 q xs::R)):aA Tryz.prog 60 #[.pointer (some ⟨q,0,none⟩),.agg #[.int .i64 f.t,.int .i64 f.st,.bool f.e,.string f.d,.int .i64 f.k,.int .i64 f.on,.int .i64 f.w,.bool f.x,.int .i64 f.c,.int .i64 f.la,.int .i64 f.n,.slice f.pa f.pn f.pc]] (u9 q xs::R) K:=by
 have hnn:=Ge hc
 unfold mQ at hc
 refine uQ fun A c=>?_
 refine aH Tryz.func60 ?_
 repeat' (first|refine I5 ?_|refine dw cQ ?_|refine dw cT ?_|refine wr ?_|refine w5 ?_ ?_|((refine bh fun h=>?_) <;> try exact w6 h)|(refine aE fun hA=>?_;subst hA)|intro _|(show aA _ 112 _ _ _;refine CA (h:=iW (ps:=f.ps) hc (by exact kR) hvn hn2 ?_)))
 rename_i r _
 refine iF (fun m a C'=>∃i:Nat,i+m=xs.length∧C'=pt r [.int .i64 f.t,.int .i64 f.st,.bool f.e,.string f.d,.int .i64 f.k,.int .i64 f.on,.int .i64 f.w,.bool f.x,.int .i64 f.c,.int .i64 f.la,.int .i64 f.n,.slice f.pa f.pn f.pc] 45::pt q [.slice A xs.length c] 173::bT A c 45 sR xs::jY xS xs::R∧cN a [(0,.pointer (some ⟨q,0,none⟩)),(3,.pointer (some ⟨r,0,none⟩)),(4,.int .i64 0),(5,.func (.func 147) #[] #[.pointer (some ⟨r,0,none⟩)]),(28,.slice A xs.length c),(29,.int .i64 xs.length),(30,.int .i64 i)]) xs.length (b9 xs.length ⟨0,by omega,rfl,rfl,rfl,rfl,rfl,rfl,rfl,rfl,trivial⟩) ?_
 rintro n1 a C' ⟨i,hi,rfl,ha⟩
 refine gF _ ha ?_
 simp only[eQ]
 by_cases hlt:i<xs.length
 ·obtain⟨z,hz,hd⟩:=jP (l:=xs) (j:=i) (by omega)
  have hzl:=Pw hb hz
  repeat' (first|refine I5 ?_|refine dw cQ ?_|refine dw cT ?_|refine wr ?_|refine w5 ?_ ?_|((refine bh fun h=>?_) <;> try exact w6 h)|(refine aE fun hA=>?_;subst hA)|intro _|(show aA _ 147 _ _ _;refine CA (h:=Di hnn ?_)))
  all_goals exact b9 (n1 - 1) ⟨i+1,by omega,rfl,rfl,rfl,rfl,rfl,rfl,rfl,rfl,trivial⟩
 ·repeat' (first|refine I5 ?_|refine dw cQ ?_|refine dw cT ?_|refine wr ?_|refine w5 ?_ ?_|((refine bh fun h=>?_) <;> try exact w6 h)|(refine aE fun hA=>?_;subst hA)|intro _)
  refine aC ?_
  exact aL (aG.trans (by exact bA) rX) hK
theorem Xm {q:Nat} {f:Fm} {xs:List Fm} (hc:mQ f=true) (ht:2≤f.t) (hb:∀z∈xs,sM f z=false) (h64:xs.length<64) (hv:cZ R f.pa nV f.ps) (hvn:f.ps.length=f.pn) (hK:∀A' c',K (.int .i64 0) (u9 q (xs++ [⟨f.t,f.st,f.e,f.d,f.k,f.on,f.w,f.x,f.c,f.la,f.n,A',f.ps.length,c',f.ps⟩])::R)):aA Tryz.prog 60 #[.pointer (some ⟨q,0,none⟩),.agg #[.int .i64 f.t,.int .i64 f.st,.bool f.e,.string f.d,.int .i64 f.k,.int .i64 f.on,.int .i64 f.w,.bool f.x,.int .i64 f.c,.int .i64 f.la,.int .i64 f.n,.slice f.pa f.pn f.pc]] (u9 q xs::R) K:=by
 have hnn:=Ge hc
 have hn8:f.ps.length≤8:=((sO f).1 hc).2.2.2.2.2.2.2.2.2.2.2.2.2.2.2.2.2.2.2.2
 have hn2:f.pn<1000000000000000:=by omega
 unfold mQ at hc
 refine uQ fun A c=>?_
 refine aH Tryz.func60 ?_
 repeat' (first|refine I5 ?_|refine dw cQ ?_|refine dw cT ?_|refine wr ?_|refine w5 ?_ ?_|((refine bh fun h=>?_) <;> try exact w6 h)|(refine aE fun hA=>?_;subst hA)|intro _|(show aA _ 112 _ _ _;refine CA (h:=iW (ps:=f.ps) hc (by exact kR) hvn hn2 ?_)))
 rename_i r _
 refine iF (fun m a C'=>∃i:Nat,i+m=xs.length∧C'=pt r [.int .i64 f.t,.int .i64 f.st,.bool f.e,.string f.d,.int .i64 f.k,.int .i64 f.on,.int .i64 f.w,.bool f.x,.int .i64 f.c,.int .i64 f.la,.int .i64 f.n,.slice f.pa f.pn f.pc] 45::pt q [.slice A xs.length c] 173::bT A c 45 sR xs::jY xS xs::R∧cN a [(0,.pointer (some ⟨q,0,none⟩)),(3,.pointer (some ⟨r,0,none⟩)),(4,.int .i64 0),(5,.func (.func 147) #[] #[.pointer (some ⟨r,0,none⟩)]),(28,.slice A xs.length c),(29,.int .i64 xs.length),(30,.int .i64 i)]) xs.length (b9 xs.length ⟨0,by omega,rfl,rfl,rfl,rfl,rfl,rfl,rfl,rfl,trivial⟩) ?_
 rintro n1 a C' ⟨i,hi,rfl,ha⟩
 refine gF _ ha ?_
 simp only[eQ]
 by_cases hlt:i<xs.length
 ·obtain⟨z,hz,hd⟩:=jP (l:=xs) (j:=i) (by omega)
  have hzl:=Pw hb hz
  repeat' (first|refine I5 ?_|refine dw cQ ?_|refine dw cT ?_|refine wr ?_|refine w5 ?_ ?_|((refine bh fun h=>?_) <;> try exact w6 h)|(refine aE fun hA=>?_;subst hA)|intro _|(show aA _ 147 _ _ _;refine CA (h:=Di hnn ?_)))
  all_goals exact b9 (n1 - 1) ⟨i+1,by omega,rfl,rfl,rfl,rfl,rfl,rfl,rfl,rfl,trivial⟩
 ·repeat' (first|refine I5 ?_|refine dw cQ ?_|refine dw cT ?_|refine wr ?_|refine w5 ?_ ?_|((refine bh fun h=>?_) <;> try exact w6 h)|(refine aE fun hA=>?_;subst hA)|intro _|(show aN _ _ _ _ _ _ _;first|(refine o4 ?_;intro _ _)|(refine GM ?_;intro _ _)))
  refine aC ?_
  exact aL (Cd (E:=nV) (xs:=f.ps) (by((repeat (first|exact aV.here|apply aV.there)) <;> exact aV.here)) (aG.trans (by exact bA) (VD ⟨f.t,f.st,f.e,f.d,f.k,f.on,f.w,f.x,f.c,f.la,f.n,_,f.ps.length,_,[]⟩ ⟨f.t,f.st,f.e,f.d,f.k,f.on,f.w,f.x,f.c,f.la,f.n,_,f.ps.length,_,f.ps⟩ rfl rfl))) (hK _ _)
end
end Go.Proofs.YtifgibijcmppmaaGreat
