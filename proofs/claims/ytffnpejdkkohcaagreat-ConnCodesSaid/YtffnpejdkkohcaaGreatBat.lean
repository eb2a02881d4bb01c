/- A part of the proof: lemmas; each with the conditions that it states. -/
import Derived.Test.YtffnpejdkkohcaaGreatBas
set_option linter.unusedVariables false
set_option linter.unusedSimpArgs false
set_option maxRecDepth 100000
set_option maxHeartbeats 40000000
namespace Go.Proofs.YtffnpejdkkohcaaGreat
open Go Go.Proofs Go.Sl
attribute [local irreducible] aM eY cU bQ aL aW aA dS dT aZ dR pt ro fN star sep bH
variable {R C:List HP} {K:KP} {q c n j:Nat} {xs:List Fm} {A p:Option Addr} {f y:Fm}
def tG (q:Nat) (xs:List Fm):HP:=fN fun A=>fN fun c=>sep (pt q [.slice A xs.length c] 139) (sep (bU A c 45 tC xs) (kS xP xs))
theorem pZ:aG (pt q [.slice A xs.length c] 139::bU A c 45 tC xs::kS xP xs::R) (tG q xs::R):=
 aG.ex A (aG.ex c (aG.sep (aG.pick aS.here (aG.sep (aG.pick aS.here (aG.pick aS.here (aG.refl _)))))))
theorem sH {f:FuncId} {args:Array Value} (h:∀A c,CT f args (pt q [.slice A xs.length c] 139::bU A c 45 tC xs::kS xP xs::R) K):CT f args (tG q xs::R) K:=
 aA.ex fun A=>aA.ex fun c=>aA.sep (aA.ent (aG.cons aG.unsep) (h A c))
theorem Adi (hK:∀q,K (PO q) (tG q []::R)):CT 27 #[] R K:=by
 refine aJ Tryz.func27 ?_
 repeat' (first|refine v6 ?_|refine w5 ?_ ?_|((refine bh fun h=>?_) <;> try exact w6 h)|(refine aF fun hA=>?_;subst hA)|intro _)
 refine aC ?_
 refine aQ ?_ (hK _)
 exact aG.trans (aG.pick aS.here (aG.nilrow' (aG.allnil (aG.refl _)))) (pZ (A:=none) (c:=0) (xs:= []))
theorem PE (hK:K (I6 n) (pt q [.slice A n c] 139::R)):CT 72 #[PO q] (pt q [.slice A n c] 139::R) K:=by
 refine aJ Tryz.func72 ?_
 repeat' (first|refine v4 ?_|refine w5 ?_ ?_|((refine bh fun h=>?_) <;> try exact w6 h)|(refine aF fun hA=>?_;subst hA)|intro _)
 (refine aC ?_;exact aB (hK))
theorem Agi (hK:K (I6 xs.length) (tG q xs::R)):CT 72 #[PO q] (tG q xs::R) K:=by
 refine sH fun A c=>?_
 refine aJ Tryz.func72 ?_
 repeat' (first|refine v4 ?_|refine w5 ?_ ?_|((refine bh fun h=>?_) <;> try exact w6 h)|(refine aF fun hA=>?_;subst hA)|intro _)
 refine aC ?_
 exact aQ pZ hK
theorem Zs (hl:xs.length<=64) (hK:K (I6 (64 - xs.length)) (tG q xs::R)):CT 81 #[PO q] (tG q xs::R) K:=by
 refine sH fun A c=>?_
 refine aJ Tryz.func81 ?_
 repeat' (first|refine v22 ?_|refine w5 ?_ ?_|((refine bh fun h=>?_) <;> try exact w6 h)|(refine aF fun hA=>?_;subst hA)|intro _)
 refine aC ?_
 exact aQ pZ hK
theorem VU (hK:K (I6 xs.length) (tG q []::R)):CT 208 #[PO q] (tG q xs::R) K:=by
 refine sH fun A c=>?_
 refine aJ Tryz.func208 ?_
 repeat' (first|refine v13 ?_|refine w5 ?_ ?_|((refine bh fun h=>?_) <;> try exact w6 h)|(refine aF fun hA=>?_;subst hA)|intro _|(show aA _ 72 _ _ _;refine CA (h:=PE ?_)))
 ·refine aC ?_
  exact aQ (aG.trans (aG.pick aS.here (aG.drop (aG.drop (aG.nilrow' (aG.allnil (aG.refl _)))))) (pZ (A:=none) (c:=0) (xs:= []))) hK
 ·obtain rfl:xs= []:=List.length_eq_zero_iff.1 (by omega)
  refine aC ?_
  exact aQ pZ hK
theorem WQ {t st:Int} {e:Bool} {d:ByteArray} {k on w:Int} {x:Bool} {c la n:Int} {pa:Option Addr} {pn pc:Nat} (hK:K (.bool (decide (t=10) || decide (t=11))) R):CT 99 #[.agg #[I6 t,I6 st,.bool e,.string d,I6 k,I6 on,I6 w,.bool x,I6 c,I6 la,I6 n,.slice pa pn pc]] R K:=by
 refine aJ Tryz.func99 ?_
 repeat' (first|refine v23 ?_|refine w5 ?_ ?_|((refine bh fun h=>?_) <;> try exact w6 h)|(refine aF fun hA=>?_;subst hA)|intro _)
 all_goals(refine aC ?_;exact aB (kb hK (by simp[*])))
def m6 (f x:Fm):Bool:=(decide (f.t=10) || decide (f.t=11)) && decide (x.t=f.t) && decide (x.st=f.st) && decide (x.n<=2147483647 - f.n)
theorem Dz {x:Fm} {r:Nat} (hf:0<=f.n/\f.n<=2147483647) (hK:K (.bool (m6 f x)) (pt r [I6 f.t,I6 f.st,.bool f.e,.string f.d,I6 f.k,I6 f.on,I6 f.w,.bool f.x,I6 f.c,I6 f.la,I6 f.n,.slice f.pa f.pn f.pc] 45::R)):CT 98 #[.agg #[I6 x.t,I6 x.st,.bool x.e,.string x.d,I6 x.k,I6 x.on,I6 x.w,.bool x.x,I6 x.c,I6 x.la,I6 x.n,.slice x.pa x.pn x.pc],PO r] (pt r [I6 f.t,I6 f.st,.bool f.e,.string f.d,I6 f.k,I6 f.on,I6 f.w,.bool f.x,I6 f.c,I6 f.la,I6 f.n,.slice f.pa f.pn f.pc] 45::R) K:=by
 refine aJ Tryz.func98 ?_
 repeat' (first|refine v84 ?_|refine w5 ?_ ?_|((refine bh fun h=>?_) <;> try exact w6 h)|(refine aF fun hA=>?_;subst hA)|intro _|(show aA _ 99 _ _ _;refine CA (h:=WQ ?_)))
 all_goals(refine aC ?_;exact aB (kb hK (by unfold m6;simp[*])))
theorem all_cons:aG (kS xP (y::xs)::R) (kS xP xs::xP y::R):=
 aG.trans (aG.allget zO Ab (List.mem_cons_self ..)) (aG.trans (fun _ hs=>hs.swap) (aG.allsub fun z hz=>List.mem_cons_of_mem _ hz))
theorem VC (hn:xs.length<=1000) (hK:K (.tuple #[.agg #[I6 y.t,I6 y.st,.bool y.e,.string y.d,I6 y.k,I6 y.on,I6 y.w,.bool y.x,I6 y.c,I6 y.la,I6 y.n,.slice y.pa y.pn y.pc],.bool true]) (tG q xs::xP y::R)):CT 73 #[PO q] (tG q (y::xs)::R) K:=by
 refine sH fun A c=>?_
 have hl:(y::xs).length=xs.length+1:=rfl
 have h0:(y::xs)[(0:Int).toNat]?=some y:=rfl
 have hlen:(List.take ((((y::xs).length:Nat):Int).toNat - (1:Int).toNat) (List.drop (1:Int).toNat (y::xs))).length=(((y::xs).length:Nat):Int).toNat - (1:Int).toNat:=by simp
 have hbg:(2 * (0+(List.take ((((y::xs).length:Nat):Int).toNat - (1:Int).toNat) (List.drop (1:Int).toNat (y::xs))).length)+512) * (25+95)<=281474976710656:=by simp;omega
 have heq:List.take ((((y::xs).length:Nat):Int).toNat - (1:Int).toNat) (List.drop (1:Int).toNat (y::xs))=xs:=by simp
 refine aJ Tryz.func73 ?_
 repeat' (first|refine v73 ?_|refine w5 ?_ ?_|((refine bh fun h=>?_) <;> try exact w6 h)|(refine aF fun hA=>?_;subst hA)|intro _|(show aA _ 72 _ _ _;refine CA (h:=PE ?_))|(show aM _ _ _ _ _ _ _;refine GN (hbig:=hbg) ?_;intro _ _))
 refine aC ?_
 simp only[heq]
 exact aQ (aG.trans (by exact bE) (aG.trans (aG.cons (aG.cons (all_cons (y:=y)))) (pZ (xs:=xs)))) hK
def Vf (y:Fm) (n:Int):Fm:=⟨y.t,y.st,y.e,y.d,y.k,y.on,y.w,y.x,y.c,y.la,y.n+n,y.pa,y.pn,y.pc,[]⟩
def cP:List (Nat×Nat):= [(0,0),(1,0),(2,0),(3,0),(4,0),(5,0),(6,0),(7,0),(8,0),(9,0),(10,0),(11,0),(12,0),(13,1)]
def cT:List (Nat×Nat):= [(5,0),(6,1),(1,1),(2,1),(3,1),(4,1),(7,1),(0,2),(8,0),(9,0),(10,1)]
theorem Vx (hp:p≠none) (hc:l7 f=false) (hv:FmV C f) (hn2:f.pn<1000000000000000) (hK:K (I6 2) C):CT 38 #[.pointer p,.agg #[I6 f.t,I6 f.st,.bool f.e,.string f.d,I6 f.k,I6 f.on,I6 f.w,.bool f.x,I6 f.c,I6 f.la,I6 f.n,.slice f.pa f.pn f.pc]] C K:=by
 obtain⟨q,rfl⟩:∃q,p=some q:=Option.ne_none_iff_exists'.1 hp
 unfold l7 at hc
 refine aJ Tryz.func38 ?_
 repeat' (first|refine I9 ?_|refine dw cP ?_|refine dw cT ?_|refine w5 ?_ ?_|((refine bh fun h=>?_) <;> try exact w6 h)|(refine aF fun hA=>?_;subst hA)|intro _|(show aA _ 80 _ _ _;refine CA (h:=KZ (ps:=f.ps) hc (bF hv.1) hv.2 hn2 ?_)))
 all_goals(refine aC ?_;exact aB (hK))
theorem Wm (hp:p≠none) (hc:l7 f=true) (ht:f.t=0\/f.t=1) (hv:FmV C f) (hn2:f.pn<1000000000000000) (hK:K (I6 13) C):CT 38 #[.pointer p,.agg #[I6 f.t,I6 f.st,.bool f.e,.string f.d,I6 f.k,I6 f.on,I6 f.w,.bool f.x,I6 f.c,I6 f.la,I6 f.n,.slice f.pa f.pn f.pc]] C K:=by
 obtain⟨q,rfl⟩:∃q,p=some q:=Option.ne_none_iff_exists'.1 hp
 unfold l7 at hc
 refine aJ Tryz.func38 ?_
 repeat' (first|refine I9 ?_|refine dw cP ?_|refine dw cT ?_|refine w5 ?_ ?_|((refine bh fun h=>?_) <;> try exact w6 h)|(refine aF fun hA=>?_;subst hA)|intro _|(show aA _ 80 _ _ _;refine CA (h:=oR (ps:=f.ps) hc (bF hv.1) hv.2 hn2 ?_)))
 all_goals(refine aC ?_;exact aB (hK))
theorem GD (h:l7 f=true):0<=f.n/\f.n<=2147483647:=by
 have:=((lT f).1 h).2.2.2.2.2.2.2.2.2.2.2.2.2.2.2.2.2.2.2.1
 exact(gI _).1 this
theorem JO (h:xs.length=n):aG (pt q [.slice A n c] 139::bU A c 45 tC xs::kS xP xs::R) (tG q xs::R):=by
 subst h;exact pZ
theorem Adw {e:TypeId} {ys:List Fm} (h:xs.flatMap tC.enc=ys.flatMap tC.enc) (hl:xs.length=ys.length) (H:Hp) (hr:bU A c e tC xs H):bU A c e tC ys H:=by
 rcases hr with⟨h1,h2,h3⟩|⟨B,pre,post,h1,h2,h3,h4⟩
 ·subst h2
  exact .inl ⟨h1,List.length_eq_zero_iff.1 hl.symm,h3⟩
 ·rw[h] at h2
  rw[hl] at h3 h4
  exact .inr ⟨B,pre,post,h1,h2,h3,h4⟩
theorem VV (f0 f1:Fm) (he:tC.enc f0=tC.enc f1) (hn:n=(xs++ [f0]).length):aG (pt q [.slice A n c] 139::bU A c 45 tC (xs++ [f0])::pD f1.pa oG f1.ps::kS xP xs::R) (tG q (xs++ [f1])::R):=
 aG.trans (aG.cons (aG.imp (Adw (ys:=xs++ [f1]) (by simp[he]) (by simp)) (aG.allsnoc (P:=xP) (x:=f1) zO Ab))) (JO (by rw[hn];simp))
theorem Aad {n:Int}:aG (kS xP xs::R) (kS xP (xs.set j (Vf y n))::R):=
 aG.imp (fun H h z hz=>by
  rcases List.mem_or_eq_of_mem_set hz with h'|rfl
  ·exact h z h'
  ·exact .inl rfl) (aG.refl _)
theorem Wa (hc:l7 f=true) (ht:2<=f.t) (hj:xs[j]?=some y) (hy:m6 f y=true) (hb:∀i z,i<j->xs[i]?=some z->m6 f z=false) (hyn:0<=y.n) (hl:xs.length<=1000) (hv:dE R f.pa oG f.ps) (hvn:f.ps.length=f.pn) (hn2:f.pn<1000000000000000) (hK:K (I6 0) (tG q (xs.set j (Vf y f.n))::R)):CT 38 #[PO q,.agg #[I6 f.t,I6 f.st,.bool f.e,.string f.d,I6 f.k,I6 f.on,I6 f.w,.bool f.x,I6 f.c,I6 f.la,I6 f.n,.slice f.pa f.pn f.pc]] (tG q xs::R) K:=by
 have hnn:=GD hc
 have hyy:y.n<=2147483647 - f.n:=by unfold m6 at hy;simp only[Bool.and_eq_true,decide_eq_true_eq] at hy;exact hy.2
 unfold l7 at hc
 have hjl:j<xs.length:=(List.getElem?_eq_some_iff.1 hj).1
 refine sH fun A c=>?_
 refine aJ Tryz.func38 ?_
 repeat' (first|refine I9 ?_|refine dw cP ?_|refine dw cT ?_|refine w5 ?_ ?_|((refine bh fun h=>?_) <;> try exact w6 h)|(refine aF fun hA=>?_;subst hA)|intro _|(show aA _ 80 _ _ _;refine CA (h:=oR (ps:=f.ps) hc (by exact kU) hvn hn2 ?_)))
 rename_i r _
 refine iH (fun m a C'=>∃i:Nat,i+m=j+1/\0<m/\C'=pt r [I6 f.t,I6 f.st,.bool f.e,.string f.d,I6 f.k,I6 f.on,I6 f.w,.bool f.x,I6 f.c,I6 f.la,I6 f.n,.slice f.pa f.pn f.pc] 45::pt q [.slice A xs.length c] 139::bU A c 45 tC xs::kS xP xs::R/\cW a [(0,PO q),(3,PO r),(4,I6 0),(5,.func (.func 98) #[] #[PO r]),(28,.slice A xs.length c),(29,I6 xs.length),(30,I6 i)]) (j+1) (cG (j+1) ⟨0,by omega,by omega,rfl,rfl,rfl,rfl,rfl,rfl,rfl,rfl,trivial⟩) ?_
 rintro n1 a C' ⟨i,hi,h0,rfl,ha⟩
 refine gJ _ ha ?_
 simp only[fF]
 by_cases hlt:i<j
 ·obtain⟨z,hz,hd⟩:=i0 (l:=xs) (j:=i) (by omega)
  have hzl:=hb i z hlt hz
  repeat' (first|refine I9 ?_|refine dw cP ?_|refine dw cT ?_|refine w5 ?_ ?_|((refine bh fun h=>?_) <;> try exact w6 h)|(refine aF fun hA=>?_;subst hA)|intro _|(show aA _ 98 _ _ _;refine CA (h:=Dz hnn ?_)))
  all_goals exact cG (n1 - 1) ⟨i+1,by omega,by omega,rfl,rfl,rfl,rfl,rfl,rfl,rfl,rfl,trivial⟩
 ·obtain rfl:i=j:=by omega
  repeat' (first|refine I9 ?_|refine dw cP ?_|refine dw cT ?_|refine w5 ?_ ?_|((refine bh fun h=>?_) <;> try exact w6 h)|(refine aF fun hA=>?_;subst hA)|intro _|(show aA _ 98 _ _ _;refine CA (h:=Dz hnn ?_))|(show aM _ _ _ _ _ _ _;first|refine IZ ?_|refine tN ?_))
  refine aC ?_
  exact aQ (aG.trans (by exact bE) (aG.trans (aG.cons (aG.cons Aad)) (JO (xs:=xs.set i (Vf y f.n)) (List.length_set ..)))) hK
theorem OT (hb:∀z∈xs,m6 f z=false) {i:Nat} {z:Fm} (h:xs[i]?=some z):m6 f z=false:=hb z (List.mem_of_getElem? h)
theorem V4 (hc:l7 f=true) (ht:2<=f.t) (hb:∀z∈xs,m6 f z=false) (hl:xs.length<=1000) (h64:64<=xs.length) (hv:dE R f.pa oG f.ps) (hvn:f.ps.length=f.pn) (hn2:f.pn<1000000000000000) (hK:K (I6 9) (tG q xs::R)):CT 38 #[PO q,.agg #[I6 f.t,I6 f.st,.bool f.e,.string f.d,I6 f.k,I6 f.on,I6 f.w,.bool f.x,I6 f.c,I6 f.la,I6 f.n,.slice f.pa f.pn f.pc]] (tG q xs::R) K:=by
 have hnn:=GD hc
 unfold l7 at hc
 refine sH fun A c=>?_
 refine aJ Tryz.func38 ?_
 repeat' (first|refine I9 ?_|refine dw cP ?_|refine dw cT ?_|refine w5 ?_ ?_|((refine bh fun h=>?_) <;> try exact w6 h)|(refine aF fun hA=>?_;subst hA)|intro _|(show aA _ 80 _ _ _;refine CA (h:=oR (ps:=f.ps) hc (by exact kU) hvn hn2 ?_)))
 rename_i r _
 refine iH (fun m a C'=>∃i:Nat,i+m=xs.length/\C'=pt r [I6 f.t,I6 f.st,.bool f.e,.string f.d,I6 f.k,I6 f.on,I6 f.w,.bool f.x,I6 f.c,I6 f.la,I6 f.n,.slice f.pa f.pn f.pc] 45::pt q [.slice A xs.length c] 139::bU A c 45 tC xs::kS xP xs::R/\cW a [(0,PO q),(3,PO r),(4,I6 0),(5,.func (.func 98) #[] #[PO r]),(28,.slice A xs.length c),(29,I6 xs.length),(30,I6 i)]) xs.length (cG xs.length ⟨0,by omega,rfl,rfl,rfl,rfl,rfl,rfl,rfl,rfl,trivial⟩) ?_
 rintro n1 a C' ⟨i,hi,rfl,ha⟩
 refine gJ _ ha ?_
 simp only[fF]
 by_cases hlt:i<xs.length
 ·obtain⟨z,hz,hd⟩:=i0 (l:=xs) (j:=i) (by omega)
  have hzl:=OT hb hz
  repeat' (first|refine I9 ?_|refine dw cP ?_|refine dw cT ?_|refine w5 ?_ ?_|((refine bh fun h=>?_) <;> try exact w6 h)|(refine aF fun hA=>?_;subst hA)|intro _|(show aA _ 98 _ _ _;refine CA (h:=Dz hnn ?_)))
  all_goals exact cG (n1 - 1) ⟨i+1,by omega,rfl,rfl,rfl,rfl,rfl,rfl,rfl,rfl,trivial⟩
 ·repeat' (first|refine I9 ?_|refine dw cP ?_|refine dw cT ?_|refine w5 ?_ ?_|((refine bh fun h=>?_) <;> try exact w6 h)|(refine aF fun hA=>?_;subst hA)|intro _)
  refine aC ?_
  exact aQ (aG.trans (by exact bE) pZ) hK
theorem VJ (hc:l7 f=true) (ht:2<=f.t) (hb:∀z∈xs,m6 f z=false) (h64:xs.length<64) (hv:dE R f.pa oG f.ps) (hvn:f.ps.length=f.pn) (hK:∀A' c',K (I6 0) (tG q (xs++ [⟨f.t,f.st,f.e,f.d,f.k,f.on,f.w,f.x,f.c,f.la,f.n,A',f.ps.length,c',f.ps⟩])::R)):CT 38 #[PO q,.agg #[I6 f.t,I6 f.st,.bool f.e,.string f.d,I6 f.k,I6 f.on,I6 f.w,.bool f.x,I6 f.c,I6 f.la,I6 f.n,.slice f.pa f.pn f.pc]] (tG q xs::R) K:=by
 have hnn:=GD hc
 have hn8:f.ps.length<=8:=((lT f).1 hc).2.2.2.2.2.2.2.2.2.2.2.2.2.2.2.2.2.2.2.2
 have hn2:f.pn<1000000000000000:=by omega
 unfold l7 at hc
 refine sH fun A c=>?_
 refine aJ Tryz.func38 ?_
 repeat' (first|refine I9 ?_|refine dw cP ?_|refine dw cT ?_|refine w5 ?_ ?_|((refine bh fun h=>?_) <;> try exact w6 h)|(refine aF fun hA=>?_;subst hA)|intro _|(show aA _ 80 _ _ _;refine CA (h:=oR (ps:=f.ps) hc (by exact kU) hvn hn2 ?_)))
 rename_i r _
 refine iH (fun m a C'=>∃i:Nat,i+m=xs.length/\C'=pt r [I6 f.t,I6 f.st,.bool f.e,.string f.d,I6 f.k,I6 f.on,I6 f.w,.bool f.x,I6 f.c,I6 f.la,I6 f.n,.slice f.pa f.pn f.pc] 45::pt q [.slice A xs.length c] 139::bU A c 45 tC xs::kS xP xs::R/\cW a [(0,PO q),(3,PO r),(4,I6 0),(5,.func (.func 98) #[] #[PO r]),(28,.slice A xs.length c),(29,I6 xs.length),(30,I6 i)]) xs.length (cG xs.length ⟨0,by omega,rfl,rfl,rfl,rfl,rfl,rfl,rfl,rfl,trivial⟩) ?_
 rintro n1 a C' ⟨i,hi,rfl,ha⟩
 refine gJ _ ha ?_
 simp only[fF]
 by_cases hlt:i<xs.length
 ·obtain⟨z,hz,hd⟩:=i0 (l:=xs) (j:=i) (by omega)
  have hzl:=OT hb hz
  repeat' (first|refine I9 ?_|refine dw cP ?_|refine dw cT ?_|refine w5 ?_ ?_|((refine bh fun h=>?_) <;> try exact w6 h)|(refine aF fun hA=>?_;subst hA)|intro _|(show aA _ 98 _ _ _;refine CA (h:=Dz hnn ?_)))
  all_goals exact cG (n1 - 1) ⟨i+1,by omega,rfl,rfl,rfl,rfl,rfl,rfl,rfl,rfl,trivial⟩
 ·repeat' (first|refine I9 ?_|refine dw cP ?_|refine dw cT ?_|refine w5 ?_ ?_|((refine bh fun h=>?_) <;> try exact w6 h)|(refine aF fun hA=>?_;subst hA)|intro _|(show aM _ _ _ _ _ _ _;first|(refine mD ?_;intro _ _)|(refine GN ?_;intro _ _)))
  refine aC ?_
  exact aQ (yH (E:=oG) (xs:=f.ps) (by((repeat (first|exact aS.here|apply aS.there)) <;> exact aS.here)) (aG.trans (by exact bE) (VV ⟨f.t,f.st,f.e,f.d,f.k,f.on,f.w,f.x,f.c,f.la,f.n,_,f.ps.length,_,[]⟩ ⟨f.t,f.st,f.e,f.d,f.k,f.on,f.w,f.x,f.c,f.la,f.n,_,f.ps.length,_,f.ps⟩ rfl rfl))) (hK _ _)
end Go.Proofs.YtffnpejdkkohcaaGreat
