/- A part of the proof: lemmas; each with the conditions that it states. -/
import Derived.Test.YtifgibijcmppmaaGreatMao
import Derived.Test.YtifgibijcmppmaaGreatMay
set_option linter.unusedVariables false
set_option linter.unusedSimpArgs false
namespace Go.Proofs.YtifgibijcmppmaaGreat
open Go Go.Proofs Go.Sl
set_option maxRecDepth 100000
set_option maxHeartbeats 40000000
attribute [local irreducible] aM fG cV bP aN aW aA dP dX aV dO pt ro eW star sep bH
section
variable {R C:List HP} {K:Value→List HP→Prop}
def uQ (q:Nat) (xs:List Fm):HP:=eW fun A=>eW fun c=>sep (pt q [.slice A xs.length c] 173) (sep (bU A c 45 uM xs) (kB yG xs))
theorem rO {q:Nat} {xs:List Fm} {A:Option Addr} {c:Nat}:aG (pt q [.slice A xs.length c] 173::bU A c 45 uM xs::kB yG xs::R) (uQ q xs::R):=
 aG.ex A (aG.ex c (aG.sep (aG.pick aT.here (aG.sep (aG.pick aT.here (aG.pick aT.here (aG.refl _)))))))
theorem tT {f:FuncId} {args:Array Value} {q:Nat} {xs:List Fm} (h:∀A c,aA Tryz.prog f args (pt q [.slice A xs.length c] 173::bU A c 45 uM xs::kB yG xs::R) K):aA Tryz.prog f args (uQ q xs::R) K:=
 aA.ex fun A=>aA.ex fun c=>aA.sep (aA.ent (aG.cons aG.unsep) (h A c))
theorem Ad7 (hK:∀q,K (.pointer (some ⟨q,0,none⟩)) (uQ q []::R)):aA Tryz.prog 49 #[] R K:=by
 refine aH Tryz.func49 ?_
 repeat' (first|refine v6 ?_|refine wr ?_|refine w5 ?_ ?_|((refine bh fun h=>?_) <;> try exact w6 h)|(refine aE fun hA=>?_;subst hA)|intro _)
 refine aC ?_
 refine aK ?_ (hK _)
 exact aG.trans (aG.pick aT.here (aG.nilrow' (aG.allnil (aG.refl _)))) (rO (A:=none) (c:=0) (xs:= []))
theorem NE {q n c:Nat} {A:Option Addr} (hK:K (.int .i64 n) (pt q [.slice A n c] 173::R)):aA Tryz.prog 94 #[.pointer (some ⟨q,0,none⟩)] (pt q [.slice A n c] 173::R) K:=by
 refine aH Tryz.func94 ?_
 repeat' (first|refine v4 ?_|refine wr ?_|refine w5 ?_ ?_|((refine bh fun h=>?_) <;> try exact w6 h)|(refine aE fun hA=>?_;subst hA)|intro _)
 (refine aC ?_;exact aB (hK))
theorem Afl {q:Nat} {xs:List Fm} (hK:K (.int .i64 xs.length) (uQ q xs::R)):aA Tryz.prog 94 #[.pointer (some ⟨q,0,none⟩)] (uQ q xs::R) K:=by
 refine tT fun A c=>?_
 refine aH Tryz.func94 ?_
 repeat' (first|refine v4 ?_|refine wr ?_|refine w5 ?_ ?_|((refine bh fun h=>?_) <;> try exact w6 h)|(refine aE fun hA=>?_;subst hA)|intro _)
 refine aC ?_
 exact aK rO hK
theorem ZM {q:Nat} {xs:List Fm} (hl:xs.length≤64) (hK:K (.int .i64 (64 - xs.length)) (uQ q xs::R)):aA Tryz.prog 113 #[.pointer (some ⟨q,0,none⟩)] (uQ q xs::R) K:=by
 refine tT fun A c=>?_
 refine aH Tryz.func113 ?_
 repeat' (first|refine v22 ?_|refine wr ?_|refine w5 ?_ ?_|((refine bh fun h=>?_) <;> try exact w6 h)|(refine aE fun hA=>?_;subst hA)|intro _)
 refine aC ?_
 exact aK rO hK
theorem Vd {q:Nat} {xs:List Fm} (hK:K (.int .i64 xs.length) (uQ q []::R)):aA Tryz.prog 271 #[.pointer (some ⟨q,0,none⟩)] (uQ q xs::R) K:=by
 refine tT fun A c=>?_
 refine aH Tryz.func271 ?_
 repeat' (first|refine v13 ?_|refine wr ?_|refine w5 ?_ ?_|((refine bh fun h=>?_) <;> try exact w6 h)|(refine aE fun hA=>?_;subst hA)|intro _|(show aA _ 94 _ _ _;refine CA (h:=NE ?_)))
 ·refine aC ?_
  exact aK (aG.trans (aG.pick aT.here (aG.drop (aG.drop (aG.nilrow' (aG.allnil (aG.refl _)))))) (rO (A:=none) (c:=0) (xs:= []))) hK
 ·obtain rfl:xs= []:=List.length_eq_zero_iff.1 (by omega)
  refine aC ?_
  exact aK rO hK
theorem We {t st:Int} {e:Bool} {d:ByteArray} {k on w:Int} {x:Bool} {c la n:Int} {pa:Option Addr} {pn pc:Nat} (hK:K (.bool (decide (t=10) || decide (t=11))) R):aA Tryz.prog 148 #[.agg #[.int .i64 t,.int .i64 st,.bool e,.string d,.int .i64 k,.int .i64 on,.int .i64 w,.bool x,.int .i64 c,.int .i64 la,.int .i64 n,.slice pa pn pc]] R K:=by
 refine aH Tryz.func148 ?_
 repeat' (first|refine v23 ?_|refine wr ?_|refine w5 ?_ ?_|((refine bh fun h=>?_) <;> try exact w6 h)|(refine aE fun hA=>?_;subst hA)|intro _)
 all_goals(refine aC ?_;exact aB (kb hK (by simp[*])))
def qU (f x:Fm):Bool:=(decide (f.t=10) || decide (f.t=11)) && decide (x.t=f.t) && decide (x.st=f.st) && decide (x.n≤2147483647 - f.n)
theorem C4 {f x:Fm} {r:Nat} (hf:0≤f.n∧f.n≤2147483647) (hK:K (.bool (qU f x)) (pt r [.int .i64 f.t,.int .i64 f.st,.bool f.e,.string f.d,.int .i64 f.k,.int .i64 f.on,.int .i64 f.w,.bool f.x,.int .i64 f.c,.int .i64 f.la,.int .i64 f.n,.slice f.pa f.pn f.pc] 45::R)):aA Tryz.prog 147 #[.agg #[.int .i64 x.t,.int .i64 x.st,.bool x.e,.string x.d,.int .i64 x.k,.int .i64 x.on,.int .i64 x.w,.bool x.x,.int .i64 x.c,.int .i64 x.la,.int .i64 x.n,.slice x.pa x.pn x.pc],.pointer (some ⟨r,0,none⟩)] (pt r [.int .i64 f.t,.int .i64 f.st,.bool f.e,.string f.d,.int .i64 f.k,.int .i64 f.on,.int .i64 f.w,.bool f.x,.int .i64 f.c,.int .i64 f.la,.int .i64 f.n,.slice f.pa f.pn f.pc] 45::R) K:=by
 refine aH Tryz.func147 ?_
 repeat' (first|refine v84 ?_|refine wr ?_|refine w5 ?_ ?_|((refine bh fun h=>?_) <;> try exact w6 h)|(refine aE fun hA=>?_;subst hA)|intro _|(show aA _ 148 _ _ _;refine CA (h:=We ?_)))
 all_goals(refine aC ?_;exact aB (kb hK (by unfold qU;simp[*])))
theorem all_cons {y:Fm} {xs:List Fm}:aG (kB yG (y::xs)::R) (kB yG xs::yG y::R):=
 aG.trans (aG.allget Ac zV (List.mem_cons_self ..)) (aG.trans (fun _ hs=>hs.swap) (aG.allsub fun z hz=>List.mem_cons_of_mem _ hz))
theorem Xm {q:Nat} {y:Fm} {xs:List Fm} (hn:xs.length≤1000) (hK:K (.tuple #[.agg #[.int .i64 y.t,.int .i64 y.st,.bool y.e,.string y.d,.int .i64 y.k,.int .i64 y.on,.int .i64 y.w,.bool y.x,.int .i64 y.c,.int .i64 y.la,.int .i64 y.n,.slice y.pa y.pn y.pc],.bool true]) (uQ q xs::yG y::R)):aA Tryz.prog 95 #[.pointer (some ⟨q,0,none⟩)] (uQ q (y::xs)::R) K:=by
 refine tT fun A c=>?_
 have hl:(y::xs).length=xs.length+1:=rfl
 have h0:(y::xs)[(0:Int).toNat]?=some y:=rfl
 have hlen:(List.take ((((y::xs).length:Nat):Int).toNat - (1:Int).toNat) (List.drop (1:Int).toNat (y::xs))).length=(((y::xs).length:Nat):Int).toNat - (1:Int).toNat:=by simp
 have hbg:(2 * (0+(List.take ((((y::xs).length:Nat):Int).toNat - (1:Int).toNat) (List.drop (1:Int).toNat (y::xs))).length)+512) * (25+95)≤281474976710656:=by simp;omega
 have heq:List.take ((((y::xs).length:Nat):Int).toNat - (1:Int).toNat) (List.drop (1:Int).toNat (y::xs))=xs:=by simp
 refine aH Tryz.func95 ?_
 repeat' (first|refine v73 ?_|refine wr ?_|refine w5 ?_ ?_|((refine bh fun h=>?_) <;> try exact w6 h)|(refine aE fun hA=>?_;subst hA)|intro _|(show aA _ 94 _ _ _;refine CA (h:=NE ?_))|(show aM _ _ _ _ _ _ _;refine GR (hbig:=hbg) ?_;intro _ _))
 refine aC ?_
 simp only[heq]
 exact aK (aG.trans (by exact aY) (aG.trans (aG.cons (aG.cons (all_cons (y:=y)))) (rO (xs:=xs)))) hK
end
section
variable {R C:List HP} {K:Value→List HP→Prop}
def Xc (y:Fm) (n:Int):Fm:=⟨y.t,y.st,y.e,y.d,y.k,y.on,y.w,y.x,y.c,y.la,y.n+n,y.pa,y.pn,y.pc,[]⟩
def cQ:List (Nat×Nat):= [(0,0),(1,0),(2,0),(3,0),(4,0),(5,0),(6,0),(7,0),(8,0),(9,0),(10,0),(11,0),(12,0),(13,1)]
def cS:List (Nat×Nat):= [(5,0),(6,1),(1,1),(2,1),(3,1),(4,1),(7,1),(0,2),(8,0),(9,0),(10,1)]
theorem VC {p:Option Addr} {f:Fm} (hp:p≠none) (hc:l8 f=false) (hv:FmV C f) (hn2:f.pn<1000000000000000) (hK:K (.int .i64 2) C):aA Tryz.prog 60 #[.pointer p,.agg #[.int .i64 f.t,.int .i64 f.st,.bool f.e,.string f.d,.int .i64 f.k,.int .i64 f.on,.int .i64 f.w,.bool f.x,.int .i64 f.c,.int .i64 f.la,.int .i64 f.n,.slice f.pa f.pn f.pc]] C K:=by
 obtain⟨q,rfl⟩:∃q,p=some q:=Option.ne_none_iff_exists'.1 hp
 unfold l8 at hc
 refine aH Tryz.func60 ?_
 repeat' (first|refine I4 ?_|refine dw cQ ?_|refine dw cS ?_|refine wr ?_|refine w5 ?_ ?_|((refine bh fun h=>?_) <;> try exact w6 h)|(refine aE fun hA=>?_;subst hA)|intro _|(show aA _ 112 _ _ _;refine CA (h:=Be (ps:=f.ps) hc (bI hv.1) hv.2 hn2 ?_)))
 all_goals(refine aC ?_;exact aB (hK))
theorem Wp {p:Option Addr} {f:Fm} (hp:p≠none) (hc:l8 f=true) (ht:f.t=0∨f.t=1) (hv:FmV C f) (hn2:f.pn<1000000000000000) (hK:K (.int .i64 13) C):aA Tryz.prog 60 #[.pointer p,.agg #[.int .i64 f.t,.int .i64 f.st,.bool f.e,.string f.d,.int .i64 f.k,.int .i64 f.on,.int .i64 f.w,.bool f.x,.int .i64 f.c,.int .i64 f.la,.int .i64 f.n,.slice f.pa f.pn f.pc]] C K:=by
 obtain⟨q,rfl⟩:∃q,p=some q:=Option.ne_none_iff_exists'.1 hp
 unfold l8 at hc
 refine aH Tryz.func60 ?_
 repeat' (first|refine I4 ?_|refine dw cQ ?_|refine dw cS ?_|refine wr ?_|refine w5 ?_ ?_|((refine bh fun h=>?_) <;> try exact w6 h)|(refine aE fun hA=>?_;subst hA)|intro _|(show aA _ 112 _ _ _;refine CA (h:=iD (ps:=f.ps) hc (bI hv.1) hv.2 hn2 ?_)))
 all_goals(refine aC ?_;exact aB (hK))
theorem Gf {f:Fm} (h:l8 f=true):0≤f.n∧f.n≤2147483647:=by
 have:=((t6 f).1 h).2.2.2.2.2.2.2.2.2.2.2.2.2.2.2.2.2.2.2.1
 exact(vK _).1 this
theorem Kz {q n:Nat} {xs:List Fm} {A:Option Addr} {c:Nat} (h:xs.length=n):aG (pt q [.slice A n c] 173::bU A c 45 uM xs::kB yG xs::R) (uQ q xs::R):=by
 subst h;exact rO
theorem Agn {A:Option Addr} {c:Nat} {e:TypeId} {xs ys:List Fm} (h:xs.flatMap uM.enc=ys.flatMap uM.enc) (hl:xs.length=ys.length) (H:Hp) (hr:bU A c e uM xs H):bU A c e uM ys H:=by
 rcases hr with⟨h1,h2,h3⟩|⟨B,pre,post,h1,h2,h3,h4⟩
 ·subst h2
  exact .inl ⟨h1,List.length_eq_zero_iff.1 hl.symm,h3⟩
 ·rw[h] at h2
  rw[hl] at h3 h4
  exact .inr ⟨B,pre,post,h1,h2,h3,h4⟩
theorem Vj {q n:Nat} {xs:List Fm} {A:Option Addr} {c:Nat} (f0 f1:Fm) (he:uM.enc f0=uM.enc f1) (hn:n=(xs++ [f0]).length):aG (pt q [.slice A n c] 173::bU A c 45 uM (xs++ [f0])::lF f1.pa rN f1.ps::kB yG xs::R) (uQ q (xs++ [f1])::R):=
 aG.trans (aG.cons (aG.imp (Agn (ys:=xs++ [f1]) (by simp[he]) (by simp)) (aG.allsnoc (P:=yG) (x:=f1) Ac zV))) (Kz (by rw[hn];simp))
theorem Yz {y:Fm} {xs:List Fm} {j:Nat} {n:Int}:aG (kB yG xs::R) (kB yG (xs.set j (Xc y n))::R):=
 aG.imp (fun H h z hz=>by
  rcases List.mem_or_eq_of_mem_set hz with h'|rfl
  ·exact h z h'
  ·exact .inl rfl) (aG.refl _)
theorem Va {q:Nat} {f y:Fm} {xs:List Fm} {j:Nat} (hc:l8 f=true) (ht:2≤f.t) (hj:xs[j]?=some y) (hy:qU f y=true) (hb:∀i z,i<j→xs[i]?=some z→qU f z=false) (hyn:0≤y.n) (hl:xs.length≤1000) (hv:dL R f.pa rN f.ps) (hvn:f.ps.length=f.pn) (hn2:f.pn<1000000000000000) (hK:K (.int .i64 0) (uQ q (xs.set j (Xc y f.n))::R)):aA Tryz.prog 60 #[.pointer (some ⟨q,0,none⟩),.agg #[.int .i64 f.t,.int .i64 f.st,.bool f.e,.string f.d,.int .i64 f.k,.int .i64 f.on,.int .i64 f.w,.bool f.x,.int .i64 f.c,.int .i64 f.la,.int .i64 f.n,.slice f.pa f.pn f.pc]] (uQ q xs::R) K:=by
 have hnn:=Gf hc
 have hyy:y.n≤2147483647 - f.n:=by unfold qU at hy;simp only[Bool.and_eq_true,decide_eq_true_eq] at hy;exact hy.2
 unfold l8 at hc
 have hjl:j<xs.length:=(List.getElem?_eq_some_iff.1 hj).1
 refine tT fun A c=>?_
 refine aH Tryz.func60 ?_
 repeat' (first|refine I4 ?_|refine dw cQ ?_|refine dw cS ?_|refine wr ?_|refine w5 ?_ ?_|((refine bh fun h=>?_) <;> try exact w6 h)|(refine aE fun hA=>?_;subst hA)|intro _|(show aA _ 112 _ _ _;refine CA (h:=iD (ps:=f.ps) hc (by exact jY) hvn hn2 ?_)))
 rename_i r _
 refine iL (fun m a C'=>∃i:Nat,i+m=j+1∧0<m∧C'=pt r [.int .i64 f.t,.int .i64 f.st,.bool f.e,.string f.d,.int .i64 f.k,.int .i64 f.on,.int .i64 f.w,.bool f.x,.int .i64 f.c,.int .i64 f.la,.int .i64 f.n,.slice f.pa f.pn f.pc] 45::pt q [.slice A xs.length c] 173::bU A c 45 uM xs::kB yG xs::R∧dC a [(0,.pointer (some ⟨q,0,none⟩)),(3,.pointer (some ⟨r,0,none⟩)),(4,.int .i64 0),(5,.func (.func 147) #[] #[.pointer (some ⟨r,0,none⟩)]),(28,.slice A xs.length c),(29,.int .i64 xs.length),(30,.int .i64 i)]) (j+1) (cC (j+1) ⟨0,by omega,by omega,rfl,rfl,rfl,rfl,rfl,rfl,rfl,rfl,trivial⟩) ?_
 rintro n1 a C' ⟨i,hi,h0,rfl,ha⟩
 refine gV _ ha ?_
 simp only[fN]
 by_cases hlt:i<j
 ·obtain⟨z,hz,hd⟩:=iS (l:=xs) (j:=i) (by omega)
  have hzl:=hb i z hlt hz
  repeat' (first|refine I4 ?_|refine dw cQ ?_|refine dw cS ?_|refine wr ?_|refine w5 ?_ ?_|((refine bh fun h=>?_) <;> try exact w6 h)|(refine aE fun hA=>?_;subst hA)|intro _|(show aA _ 147 _ _ _;refine CA (h:=C4 hnn ?_)))
  all_goals exact cC (n1 - 1) ⟨i+1,by omega,by omega,rfl,rfl,rfl,rfl,rfl,rfl,rfl,rfl,trivial⟩
 ·obtain rfl:i=j:=by omega
  repeat' (first|refine I4 ?_|refine dw cQ ?_|refine dw cS ?_|refine wr ?_|refine w5 ?_ ?_|((refine bh fun h=>?_) <;> try exact w6 h)|(refine aE fun hA=>?_;subst hA)|intro _|(show aA _ 147 _ _ _;refine CA (h:=C4 hnn ?_))|(show aM _ _ _ _ _ _ _;first|refine GC ?_|refine tE ?_))
  refine aC ?_
  exact aK (aG.trans (by exact aY) (aG.trans (aG.cons (aG.cons Yz)) (Kz (xs:=xs.set i (Xc y f.n)) (List.length_set ..)))) hK
theorem OV {f:Fm} {xs:List Fm} (hb:∀z∈xs,qU f z=false) {i:Nat} {z:Fm} (h:xs[i]?=some z):qU f z=false:=hb z (List.mem_of_getElem? h)
theorem Wg {q:Nat} {f:Fm} {xs:List Fm} (hc:l8 f=true) (ht:2≤f.t) (hb:∀z∈xs,qU f z=false) (hl:xs.length≤1000) (h64:64≤xs.length) (hv:dL R f.pa rN f.ps) (hvn:f.ps.length=f.pn) (hn2:f.pn<1000000000000000) (hK:K (.int .i64 9) (uQ q xs::R)):aA Tryz.prog 60 #[.pointer (some ⟨q,0,none⟩),.agg #[.int .i64 f.t,.int .i64 f.st,.bool f.e,.string f.d,.int .i64 f.k,.int .i64 f.on,.int .i64 f.w,.bool f.x,.int .i64 f.c,.int .i64 f.la,.int .i64 f.n,.slice f.pa f.pn f.pc]] (uQ q xs::R) K:=by
 have hnn:=Gf hc
 unfold l8 at hc
 refine tT fun A c=>?_
 refine aH Tryz.func60 ?_
 repeat' (first|refine I4 ?_|refine dw cQ ?_|refine dw cS ?_|refine wr ?_|refine w5 ?_ ?_|((refine bh fun h=>?_) <;> try exact w6 h)|(refine aE fun hA=>?_;subst hA)|intro _|(show aA _ 112 _ _ _;refine CA (h:=iD (ps:=f.ps) hc (by exact jY) hvn hn2 ?_)))
 rename_i r _
 refine iL (fun m a C'=>∃i:Nat,i+m=xs.length∧C'=pt r [.int .i64 f.t,.int .i64 f.st,.bool f.e,.string f.d,.int .i64 f.k,.int .i64 f.on,.int .i64 f.w,.bool f.x,.int .i64 f.c,.int .i64 f.la,.int .i64 f.n,.slice f.pa f.pn f.pc] 45::pt q [.slice A xs.length c] 173::bU A c 45 uM xs::kB yG xs::R∧dC a [(0,.pointer (some ⟨q,0,none⟩)),(3,.pointer (some ⟨r,0,none⟩)),(4,.int .i64 0),(5,.func (.func 147) #[] #[.pointer (some ⟨r,0,none⟩)]),(28,.slice A xs.length c),(29,.int .i64 xs.length),(30,.int .i64 i)]) xs.length (cC xs.length ⟨0,by omega,rfl,rfl,rfl,rfl,rfl,rfl,rfl,rfl,trivial⟩) ?_
 rintro n1 a C' ⟨i,hi,rfl,ha⟩
 refine gV _ ha ?_
 simp only[fN]
 by_cases hlt:i<xs.length
 ·obtain⟨z,hz,hd⟩:=iS (l:=xs) (j:=i) (by omega)
  have hzl:=OV hb hz
  repeat' (first|refine I4 ?_|refine dw cQ ?_|refine dw cS ?_|refine wr ?_|refine w5 ?_ ?_|((refine bh fun h=>?_) <;> try exact w6 h)|(refine aE fun hA=>?_;subst hA)|intro _|(show aA _ 147 _ _ _;refine CA (h:=C4 hnn ?_)))
  all_goals exact cC (n1 - 1) ⟨i+1,by omega,rfl,rfl,rfl,rfl,rfl,rfl,rfl,rfl,trivial⟩
 ·repeat' (first|refine I4 ?_|refine dw cQ ?_|refine dw cS ?_|refine wr ?_|refine w5 ?_ ?_|((refine bh fun h=>?_) <;> try exact w6 h)|(refine aE fun hA=>?_;subst hA)|intro _)
  refine aC ?_
  exact aK (aG.trans (by exact aY) rO) hK
theorem VF {q:Nat} {f:Fm} {xs:List Fm} (hc:l8 f=true) (ht:2≤f.t) (hb:∀z∈xs,qU f z=false) (h64:xs.length<64) (hv:dL R f.pa rN f.ps) (hvn:f.ps.length=f.pn) (hK:∀A' c',K (.int .i64 0) (uQ q (xs++ [⟨f.t,f.st,f.e,f.d,f.k,f.on,f.w,f.x,f.c,f.la,f.n,A',f.ps.length,c',f.ps⟩])::R)):aA Tryz.prog 60 #[.pointer (some ⟨q,0,none⟩),.agg #[.int .i64 f.t,.int .i64 f.st,.bool f.e,.string f.d,.int .i64 f.k,.int .i64 f.on,.int .i64 f.w,.bool f.x,.int .i64 f.c,.int .i64 f.la,.int .i64 f.n,.slice f.pa f.pn f.pc]] (uQ q xs::R) K:=by
 have hnn:=Gf hc
 have hn8:f.ps.length≤8:=((t6 f).1 hc).2.2.2.2.2.2.2.2.2.2.2.2.2.2.2.2.2.2.2.2
 have hn2:f.pn<1000000000000000:=by omega
 unfold l8 at hc
 refine tT fun A c=>?_
 refine aH Tryz.func60 ?_
 repeat' (first|refine I4 ?_|refine dw cQ ?_|refine dw cS ?_|refine wr ?_|refine w5 ?_ ?_|((refine bh fun h=>?_) <;> try exact w6 h)|(refine aE fun hA=>?_;subst hA)|intro _|(show aA _ 112 _ _ _;refine CA (h:=iD (ps:=f.ps) hc (by exact jY) hvn hn2 ?_)))
 rename_i r _
 refine iL (fun m a C'=>∃i:Nat,i+m=xs.length∧C'=pt r [.int .i64 f.t,.int .i64 f.st,.bool f.e,.string f.d,.int .i64 f.k,.int .i64 f.on,.int .i64 f.w,.bool f.x,.int .i64 f.c,.int .i64 f.la,.int .i64 f.n,.slice f.pa f.pn f.pc] 45::pt q [.slice A xs.length c] 173::bU A c 45 uM xs::kB yG xs::R∧dC a [(0,.pointer (some ⟨q,0,none⟩)),(3,.pointer (some ⟨r,0,none⟩)),(4,.int .i64 0),(5,.func (.func 147) #[] #[.pointer (some ⟨r,0,none⟩)]),(28,.slice A xs.length c),(29,.int .i64 xs.length),(30,.int .i64 i)]) xs.length (cC xs.length ⟨0,by omega,rfl,rfl,rfl,rfl,rfl,rfl,rfl,rfl,trivial⟩) ?_
 rintro n1 a C' ⟨i,hi,rfl,ha⟩
 refine gV _ ha ?_
 simp only[fN]
 by_cases hlt:i<xs.length
 ·obtain⟨z,hz,hd⟩:=iS (l:=xs) (j:=i) (by omega)
  have hzl:=OV hb hz
  repeat' (first|refine I4 ?_|refine dw cQ ?_|refine dw cS ?_|refine wr ?_|refine w5 ?_ ?_|((refine bh fun h=>?_) <;> try exact w6 h)|(refine aE fun hA=>?_;subst hA)|intro _|(show aA _ 147 _ _ _;refine CA (h:=C4 hnn ?_)))
  all_goals exact cC (n1 - 1) ⟨i+1,by omega,rfl,rfl,rfl,rfl,rfl,rfl,rfl,rfl,trivial⟩
 ·repeat' (first|refine I4 ?_|refine dw cQ ?_|refine dw cS ?_|refine wr ?_|refine w5 ?_ ?_|((refine bh fun h=>?_) <;> try exact w6 h)|(refine aE fun hA=>?_;subst hA)|intro _|(show aM _ _ _ _ _ _ _;first|(refine nX ?_;intro _ _)|(refine GR ?_;intro _ _)))
  refine aC ?_
  exact aK (tU (E:=rN) (xs:=f.ps) (by((repeat (first|exact aT.here|apply aT.there)) <;> exact aT.here)) (aG.trans (by exact aY) (Vj ⟨f.t,f.st,f.e,f.d,f.k,f.on,f.w,f.x,f.c,f.la,f.n,_,f.ps.length,_,[]⟩ ⟨f.t,f.st,f.e,f.d,f.k,f.on,f.w,f.x,f.c,f.la,f.n,_,f.ps.length,_,f.ps⟩ rfl rfl))) (hK _ _)
end
section
inductive Qu (has:Int→Prop) (on:Int→Int) (k:Int):Int→Prop
 |base {j:Int}:has j→on j=k→Qu has on k j
 |step {j:Int}:has j→Qu has on k (on j)→Qu has on k j
theorem xL {has:Int→Prop} {on:Int→Int} {k j:Int} (h:Qu has on k j):has j:=by cases h <;> assumption
theorem MZ {has:Int→Prop} {on:Int→Int} {r:Int→Nat} (hr:∀j,has j→has (on j)→r (on j)<r j) {k j:Int} (hk:has k) (h:Qu has on k j):r k<r j:=by
 induction h with
 |base h1 h2=>have:=hr _ h1 (by rw[h2];exact hk);rw[h2] at this;exact this
 |step h1 h2 ih=>exact Nat.lt_trans ih (hr _ h1 (xL h2))
theorem Aai {has has':Int→Prop} {on on':Int→Int} {r:Int→Nat} (hr:∀j,has j→has (on j)→r (on j)<r j) (U:Int→Prop) (q:Int) (hU:∀j,has j→has (on j)→U (on j)→U j) (hq:¬U q)
  (hn:∀j,has' j→has' (on' j)→(has j∧has (on j)∧on' j=on j)∨(U j∧on' j=q)):∃r':Int→Nat,∀j,has' j→has' (on' j)→r' (on' j)<r' j:=by
 classical
 refine⟨fun j=>if U j then r j+r q+1 else r j,fun j h1 h2=>?_⟩
 rcases hn j h1 h2 with⟨a,b,c⟩|⟨a,b⟩
 ·rw[c]
  have h:=hr j a b
  show(if U (on j) then r (on j)+r q+1 else r (on j))<(if U j then r j+r q+1 else r j)
  by_cases hu:U (on j)
  ·rw[if_pos hu,if_pos (hU j a b hu)];omega
  ·rw[if_neg hu]
   split <;> omega
 ·rw[b]
  show(if U q then r q+r q+1 else r q)<(if U j then r j+r q+1 else r j)
  rw[if_neg hq,if_pos a];omega
theorem Abt {has has':Int→Prop} {on on':Int→Int} {r:Int→Nat} {k p:Int} (hr:∀j,has j→has (on j)→r (on j)<r j) (hkp:p≠k) (hu:¬Qu has on k p) (h1:∀j,has' j→j=k∨has j) (h3:on' k=p) (h4:∀j,j≠k→on' j=on j) (h5:∀j,j≠k→has' j→has' (on j)→has (on j)):
  ∃r':Int→Nat,∀j,has' j→has' (on' j)→r' (on' j)<r' j:=by
 refine Aai hr (fun j=>j=k∨Qu has on k j) p (fun j a b c=>?_) (fun h=>h.elim hkp hu) fun j a b=>?_
 ·rcases c with c|c
  ·exact .inr (.base a c)
  ·exact .inr (.step a c)
 ·by_cases hj:j=k
  ·subst hj;exact .inr ⟨.inl rfl,h3⟩
  ·rw[h4 j hj] at b ⊢
   exact .inl ⟨(h1 j a).resolve_left hj,h5 j hj a b,rfl⟩
theorem V3 {has has':Int→Prop} {on on':Int→Int} {r:Int→Nat} {id q:Int} (hr:∀j,has j→has (on j)→r (on j)<r j) (hid:on id=q) (hq:has q∨∀j,has j→j≠q) (hqi:q≠id)
  (h1:∀j,has' j→has j) (h2:∀j,has j→j≠id→on j=q→on' j=id) (h3:∀j,has j→(j=id∨on j≠q)→on' j=on j):
  ∃r':Int→Nat,∀j,has' j→has' (on' j)→r' (on' j)<r' j:=by
 refine Aai hr (fun j=>∃k,has k∧k≠id∧on k=q∧(j=k∨Qu has on k j)) id (fun j a b c=>?_) (fun h=>?_) fun j a b=>?_
 ·obtain⟨k,c1,c2,c3,c4⟩:=c
  refine⟨k,c1,c2,c3,?_⟩
  rcases c4 with c4|c4
  ·exact .inr (.base a c4)
  ·exact .inr (.step a c4)
 ·obtain⟨k,c1,c2,c3,c4⟩:=h
  rcases c4 with c4|c4
  ·exact c2 c4.symm
  ·have hlt:¬Qu has on k q:=fun h=>by
    have h1:=xL h
    have h2:=MZ hr c1 h
    have h3:=hr k c1 (by rw[c3];exact h1)
    rw[c3] at h3
    omega
   cases c4 with
   |base d1 d2=>
    rw[hid] at d2
    rcases hq with e|e
    ·have:=hr k c1 (by rw[c3];exact e)
     rw[c3,d2] at this
     omega
    ·exact e k c1 d2.symm
   |step d1 d2=>rw[hid] at d2;exact hlt d2
 ·have ha:=h1 j a
  by_cases hj:j=id∨on j≠q
  ·rw[h3 j ha hj] at b ⊢
   exact .inl ⟨ha,h1 _ b,rfl⟩
  ·have hj1:j≠id:=fun h=>hj (.inl h)
   have hj2:on j=q:=Classical.byContradiction fun h=>hj (.inr h)
   rw[h2 j ha hj1 hj2]
   exact .inr ⟨⟨j,ha,hj1,hj2,.inl rfl⟩,rfl⟩
section
variable {id j on w:Int} {n:Nd} {s:eJ} {x:Bool}
theorem Ae3:dR j (eU id n s).1=(decide (j=id) || dR j s.1):=by
 unfold dR eU
 simp only
 rw[HV]
 by_cases h:j=id
 ·rw[if_pos h,decide_eq_true h];rfl
 ·rw[if_neg h,decide_eq_false h];rfl
theorem E5 {id:Int} {n:Nd} {ck:Nat}:∀ {l:List (KE Nd)},(f6 id l).isSome=true→(s8 id n ck l).map KE.k=l.map KE.k
 | [],h=>by cases h
 |e::r,h=>by
  unfold f6 at h
  unfold s8
  by_cases he:id=e.k
  ·rw[if_pos he];rfl
  ·rw[if_neg he] at h ⊢
   rw[List.map_cons,List.map_cons,E5 h]
theorem M9 (h:dR id s.1=true):(eU id n s).1.length=s.1.length:=by
 have:=congrArg List.length (E5 (n:=n) (ck:=s.2) h)
 simpa[eU] using this
theorem TF {id:Int}:∀ {l:List (KE Nd)},f6 id l=none→∀e∈l,e.k≠id
 | [],_,e,he=>by cases he
 |z::r,h,e,he=>by
  unfold f6 at h
  split at h
  ·cases h
  ·rename_i hz
   rcases List.mem_cons.1 he with rfl|he
   ·exact fun h'=>hz h'.symm
   ·exact TF h e he
theorem H8 (h:Ni s):Ni (eU id n s):=by
 unfold Ni eU
 simp only
 cases hg:f6 id s.1 with
 |some v=>rw[E5 (by rw[hg];rfl)];exact h
 |none=>
  rw[CW hg,List.map_append,List.nodup_append]
  refine⟨h,by simp,fun a ha b hb=>?_⟩
  simp only[List.map_cons,List.map_nil,List.mem_cons,List.not_mem_nil,or_false] at hb
  obtain⟨e,he,rfl⟩:=List.mem_map.1 ha
  subst hb
  exact TF hg e he
theorem Da {id j:Int}:∀ {l:List (KE Nd)},(l.map KE.k).Nodup→f6 j (mD id l)=if j=id then none else f6 j l
 | [],_=>by split <;> rfl
 |e::r,h=>by
  rw[List.map_cons,List.nodup_cons] at h
  unfold mD
  by_cases he:id=e.k
  ·rw[if_pos he]
   by_cases hj:j=id
   ·rw[if_pos hj]
    cases hg:f6 j r with
    |none=>rfl
    |some v=>
     have:=w9 (id:=j) (l:=r) (by rw[hg];rfl)
     rw[hj,he] at this
     exact absurd this h.1
   ·rw[if_neg hj]
    show _=if j=e.k then _ else _
    rw[if_neg (by rw[← he];exact hj)]
  ·rw[if_neg he]
   show(if j=e.k then _ else f6 j (mD id r))=if j=id then none else if j=e.k then _ else f6 j r
   rw[Da h.2]
   by_cases hj:j=id
   ·rw[if_pos hj,if_pos hj,if_neg (by rw[hj];exact he)]
   ·rw[if_neg hj,if_neg hj]
theorem E6 {id:Int}:∀ {l:List (KE Nd)},((mD id l).map KE.k).Sublist (l.map KE.k)
 | []=>List.Sublist.refl _
 |e::r=>by
  unfold mD
  split
  ·exact List.sublist_cons_self ..
  ·exact List.Sublist.cons_cons _ E6
theorem Abp {id:Int}:∀ {l:List (KE Nd)},((mD id l).map KE.b).Sublist (l.map KE.b)
 | []=>List.Sublist.refl _
 |e::r=>by
  unfold mD
  split
  ·exact List.sublist_cons_self ..
  ·exact List.Sublist.cons_cons _ Abp
theorem J8 {id:Int} {e:KE Nd}:∀ {l:List (KE Nd)},e∈mD id l→e∈l
 | [],h=>h
 |z::r,h=>by
  unfold mD at h
  split at h
  ·exact List.mem_cons_of_mem _ h
  ·exact(List.mem_cons.1 h).elim (fun e=>by rw[e];exact List.mem_cons_self ..) fun h=>List.mem_cons_of_mem _ (J8 h)
theorem Z8 {id:Int} {l:List (KE Nd)}:(mD id l).length≤l.length:=by
 have:=(E6 (id:=id) (l:=l)).length_le
 simpa using this
end
structure Lu (s:eJ):Prop where
 kok:Qp s.1 s.2
 nd:Ni s
 len:s.1.length≤64
 w:TrW s
 ky:∀id,dR id s.1=true→1≤id∧id≤2147483647
 cl:∀id,dR id s.1=true→(cZ id s).on=0∨dR (cZ id s).on s.1=true
 rk:∃r,RS r s
end
end Go.Proofs.YtifgibijcmppmaaGreat
