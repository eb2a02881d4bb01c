/- A part of the proof: lemmas; each with the conditions that it states. -/
import Derived.Test.YtifgibijcmppmaaGreatNae
set_option linter.unusedVariables false
set_option linter.unusedSimpArgs false
section
namespace Go.Proofs.YtifgibijcmppmaaGreat
open Go Go.Proofs Go.Sl
set_option maxRecDepth 100000
set_option maxHeartbeats 40000000
attribute [local irreducible] aN fB cJ bO aM aY aA dM dQ aW dK pt ro fF star sep bI
variable {R C:List HP} {K:Value→List HP→Prop}
def sxD:List Value→Option ByteArray
 | [.string s]=>some s
 |_=>none
theorem Ajk (cs:List Value) (y:ByteArray) (h:sxD cs=some y): [.string y]=cs:=by
 unfold sxD at h
 split at h
 ·cases h;rfl
 ·cases h
def sxC:t6 ByteArray:= { enc:=fun s=> [.string s],sz:=1,dec:=sxD,len:=fun _=>rfl,one:=fun _=>rfl,ok:=Ajk }
def xD (q:Nat) (cap st:Int) (l:List ByteArray) (ac tk dr:Int):HP:=fF fun A=>fF fun c=>sep (pt q [.int .i64 cap,.int .i64 st,.slice A l.length c,.int .i64 ac,.int .i64 tk,.int .i64 dr] 324) (bT A c 9 sxC l)
theorem tK {q n:Nat} {cap st ac tk dr:Int} {l:List ByteArray} {A:Option Addr} {c:Nat} (h:l.length=n):aG (pt q [.int .i64 cap,.int .i64 st,.slice A n c,.int .i64 ac,.int .i64 tk,.int .i64 dr] 324::bT A c 9 sxC l::R) (xD q cap st l ac tk dr::R):=by
 subst h
 exact aG.ex A (aG.ex c (aG.sep (aG.refl _)))
theorem tX {f:FuncId} {args:Array Value} {q:Nat} {cap st ac tk dr:Int} {l:List ByteArray} (h:∀A c,l.length≤c→aA Tryz.prog f args (pt q [.int .i64 cap,.int .i64 st,.slice A l.length c,.int .i64 ac,.int .i64 tk,.int .i64 dr] 324::bT A c 9 sxC l::R) K):aA Tryz.prog f args (xD q cap st l ac tk dr::R) K:=
 aA.ex fun A=>aA.ex fun c=>aA.sep (iS (aV.there aV.here) (h A c))
theorem Ot {cap st:Int} (h:0≤cap∧cap≤64) (h2:0≤st∧st≤2) (hK:∀q,K (.tuple #[.pointer (some ⟨q,0,none⟩),.int .i64 0]) (xD q cap st [] 0 0 0::R)):aA Tryz.prog 323 #[.int .i64 cap,.int .i64 st] R K:=by
 refine aH Tryz.func323 ?_
 repeat' (first|refine v6 ?_|refine wr ?_|refine w5 ?_ ?_|((refine bh fun h=>?_) <;> try exact w6 h)|(refine aE fun hA=>?_;subst hA)|intro _)
 refine aC ?_
 exact aL (aG.trans (aG.pick aV.here (aG.nilrow' (aG.refl _))) (tK (A:=none) (c:=0) (l:= []) rfl)) (hK _)
theorem J1 (hK:K (.int .i64 0) R):aA Tryz.prog 180 #[.pointer none] R K:=by
 refine aH Tryz.func180 ?_
 repeat' (first|refine v4 ?_|refine wr ?_|refine w5 ?_ ?_|((refine bh fun h=>?_) <;> try exact w6 h)|(refine aE fun hA=>?_;subst hA)|intro _)
 (refine aC ?_;exact aB (hK))
theorem It {q:Nat} {cap st ac tk dr:Int} {l:List ByteArray} (hK:K (.int .i64 l.length) (xD q cap st l ac tk dr::R)):aA Tryz.prog 180 #[.pointer (some ⟨q,0,none⟩)] (xD q cap st l ac tk dr::R) K:=by
 refine tX fun A c hc=>?_
 refine aH Tryz.func180 ?_
 repeat' (first|refine v4 ?_|refine wr ?_|refine w5 ?_ ?_|((refine bh fun h=>?_) <;> try exact w6 h)|(refine aE fun hA=>?_;subst hA)|intro _)
 refine aC ?_
 exact aL (tK rfl) hK
def CE:List (Nat×Nat):= [(0,0),(1,0),(2,0),(3,0),(4,0),(5,0),(6,0),(7,0),(8,0),(9,0),(10,0),(11,0),(12,0),(13,0),(14,0)]
theorem Ve {q:Nat} {cap st ac tk dr:Int} {l:List ByteArray} (hK:K (.bool (decide (cap≤l.length))) (xD q cap st l ac tk dr::R)):aA Tryz.prog 375 #[.pointer (some ⟨q,0,none⟩)] (xD q cap st l ac tk dr::R) K:=by
 refine tX fun A c hc=>?_
 refine aH Tryz.func375 ?_
 repeat' (first|refine v16 ?_|refine dw CE ?_|refine wr ?_|refine w5 ?_ ?_|((refine bh fun h=>?_) <;> try exact w6 h)|(refine aE fun hA=>?_;subst hA)|intro _)
 all_goals
  refine aC ?_
  exact aL (tK rfl) (kb hK (by simp <;> omega))
theorem SH {q:Nat} {cap st ac tk dr:Int} {s:ByteArray} {l:List ByteArray} (hn:l.length≤1000) (hK:K (.string s) (xD q cap st l ac tk dr::R)):aA Tryz.prog 317 #[.pointer (some ⟨q,0,none⟩)] (xD q cap st (s::l) ac tk dr::R) K:=by
 refine tX fun A c hc=>?_
 have hl:(s::l).length=l.length+1:=rfl
 have h0:(s::l)[(0:Int).toNat]?=some s:=rfl
 have hlen:(List.take ((((s::l).length:Nat):Int).toNat - (1:Int).toNat) (List.drop (1:Int).toNat (s::l))).length=(((s::l).length:Nat):Int).toNat - (1:Int).toNat:=by simp
 have hbg:(2 * (0+(List.take ((((s::l).length:Nat):Int).toNat - (1:Int).toNat) (List.drop (1:Int).toNat (s::l))).length)+512) * 16≤281474976710656:=by simp;omega
 have heq:List.take ((((s::l).length:Nat):Int).toNat - (1:Int).toNat) (List.drop (1:Int).toNat (s::l))=l:=by simp
 refine aH Tryz.func317 ?_
 repeat' (first|refine v40 ?_|refine wr ?_|refine w5 ?_ ?_|((refine bh fun h=>?_) <;> try exact w6 h)|(refine aE fun hA=>?_;subst hA)|intro _|(show aN _ _ _ _ _ _ _;refine dJ (hbig:=hbg) ?_;intro _ _))
 refine aC ?_
 simp only[heq]
 exact aL (aG.trans (by exact bA) (tK (l:=l) rfl)) hK
end Go.Proofs.YtifgibijcmppmaaGreat
namespace Go.Proofs.YtifgibijcmppmaaGreat
open Go Go.Proofs Go.Sl
set_option maxRecDepth 100000
set_option maxHeartbeats 40000000
attribute [local irreducible] aN fB cJ bO aM aY aA dM dQ aW dK pt ro fF star sep bI
variable {R C:List HP} {K:Value→List HP→Prop}
def Cl:List Nat:= [0,0,2,6,14,0,32,96,224,480,0,1024,3072,7168,15360,32766,0,65536,262142,524287,1048575,2097151]
def CH:List Nat:= [2097151,1048575,524287,262142,65536,0,32766,15360,7168,3072,1024,0,480,224,96,32,0,14,6,2,0,0]
def Cb:List (Nat×Nat):= [(16,0),(17,1),(1,1),(2,1),(3,1),(4,1),(5,1),(6,1),(7,1),(8,1),(9,1),(10,1),(11,1),(12,1),(13,1),(14,1),(15,1),(18,1),(0,2),(19,0),(20,0),(21,1)]
theorem Kw {v:Int} {r2 r3 q:Nat} {cap st ac tk dr:Int} {s:ByteArray} {l:List ByteArray} (hn:l.length≤1000) (ha:0≤ac∧ac≤1000000000) (hK:K (.int .i64 v) (pt r2 [.pointer (some ⟨q,0,none⟩)] 260::pt r3 [.string s] 9::xD q cap st (l++ [s]) (ac+1) tk dr::R)):aA Tryz.prog 374 #[.int .i64 v,.pointer (some ⟨r2,0,none⟩),.pointer (some ⟨r3,0,none⟩)] (pt r2 [.pointer (some ⟨q,0,none⟩)] 260::pt r3 [.string s] 9::xD q cap st l ac tk dr::R) K:=by
 refine aA.ent (C':=xD q cap st l ac tk dr::pt r2 [.pointer (some ⟨q,0,none⟩)] 260::pt r3 [.string s] 9::R) (by exact bA) ?_
 refine tX fun A c hc=>?_
 refine aH Tryz.func374 ?_
 repeat' (first|(show aN _ _ _ _ _ _ _;refine iO ?_;intro A';simp only[Int.toNat_natCast,Int.toNat_zero,Nat.sub_zero,List.drop_zero,List.take_length])|refine Qz ?_|refine Iu Cl CH Cb ?_|refine wr ?_|refine w5 ?_ ?_|((refine bh fun h=>?_) <;> try exact w6 h)|(refine aE fun hA=>?_;subst hA)|intro _)
 all_goals
  refine aC ?_
  exact aL (aG.trans (by exact bA) (aG.cons (aG.cons (tK (l:=l++ [s]) rfl)))) hK
theorem Hu {q:Nat} {cap st ac tk dr:Int} (hK:K (.tuple #[.string ⟨#[]⟩,.bool false]) (xD q cap st [] ac tk dr::R)):aA Tryz.prog 225 #[.pointer (some ⟨q,0,none⟩)] (xD q cap st [] ac tk dr::R) K:=by
 refine aH Tryz.func225 ?_
 repeat' (first|refine FL ?_|refine wr ?_|refine w5 ?_ ?_|((refine bh fun h=>?_) <;> try exact w6 h)|(refine aE fun hA=>?_;subst hA)|intro _|(show aA _ 180 _ _ _;refine CA (h:=It ?_)))
 (refine aC ?_;exact aB (hK))
theorem Kl {q n c:Nat} {A:Option Addr} {cap st ac tk dr:Int} (hK:K (.int .i64 n) (pt q [.int .i64 cap,.int .i64 st,.slice A n c,.int .i64 ac,.int .i64 tk,.int .i64 dr] 324::R)):aA Tryz.prog 180 #[.pointer (some ⟨q,0,none⟩)] (pt q [.int .i64 cap,.int .i64 st,.slice A n c,.int .i64 ac,.int .i64 tk,.int .i64 dr] 324::R) K:=by
 refine aH Tryz.func180 ?_
 repeat' (first|refine v4 ?_|refine wr ?_|refine w5 ?_ ?_|((refine bh fun h=>?_) <;> try exact w6 h)|(refine aE fun hA=>?_;subst hA)|intro _)
 (refine aC ?_;exact aB (hK))
theorem JF {q:Nat} {cap st ac tk dr:Int} {s:ByteArray} {l:List ByteArray} (hn:l.length≤1000) (ht:0≤tk∧tk≤1000000000) (hK:K (.tuple #[.string s,.bool true]) (xD q cap st l ac (tk+1) dr::R)):aA Tryz.prog 225 #[.pointer (some ⟨q,0,none⟩)] (xD q cap st (s::l) ac tk dr::R) K:=by
 refine tX fun A c hc=>?_
 have hl:(s::l).length=l.length+1:=rfl
 refine aH Tryz.func225 ?_
 repeat' (first|refine FL ?_|refine wr ?_|refine w5 ?_ ?_|((refine bh fun h=>?_) <;> try exact w6 h)|(refine aE fun hA=>?_;subst hA)|intro _|(show aA _ 180 _ _ _;refine CA (h:=Kl ?_))|(show aA _ 317 _ _ _;refine CA (h:=SH hn ?_)))
 (refine aC ?_;exact aB (hK))
theorem FF (hK:K (.int .i64 0) R):aA Tryz.prog 387 #[.pointer none] R K:=by
 refine aH Tryz.func387 ?_
 repeat' (first|refine FL ?_|refine wr ?_|refine w5 ?_ ?_|((refine bh fun h=>?_) <;> try exact w6 h)|(refine aE fun hA=>?_;subst hA)|intro _|(show aA _ 180 _ _ _;refine CA (h:=J1 ?_)))
 (refine aC ?_;exact aB (hK))
theorem GE {q:Nat} {cap st ac tk dr:Int} {l:List ByteArray} (hn:l.length≤1000) (hd:0≤dr∧dr≤1000000000) (hK:K (.int .i64 l.length) (xD q cap st [] ac tk (dr+l.length)::R)):aA Tryz.prog 387 #[.pointer (some ⟨q,0,none⟩)] (xD q cap st l ac tk dr::R) K:=by
 refine tX fun A c hc=>?_
 refine aH Tryz.func387 ?_
 repeat' (first|refine FL ?_|refine wr ?_|refine w5 ?_ ?_|((refine bh fun h=>?_) <;> try exact w6 h)|(refine aE fun hA=>?_;subst hA)|intro _|(show aA _ 180 _ _ _;refine CA (h:=Kl ?_)))
 ·refine aC ?_
  exact aL (aG.trans (aG.pick aV.here (aG.drop (aG.nilrow' (aG.refl _)))) (tK (A:=none) (c:=0) (l:= []) rfl)) hK
 ·obtain rfl:l= []:=List.length_eq_zero_iff.1 (by omega)
  rw[show dr+(([]:List ByteArray).length:Nat)=dr by simp] at hK
  refine aC ?_
  exact aL (tK rfl) hK
end Go.Proofs.YtifgibijcmppmaaGreat
namespace Go.Proofs.YtifgibijcmppmaaGreat
open Go Go.Proofs Go.Sl
set_option maxRecDepth 100000
set_option maxHeartbeats 40000000
attribute [local irreducible] aN fB cJ bO aM aY aA dM dQ aW dK pt ro fF star sep bI
variable {R C:List HP} {K:Value→List HP→Prop}
def pC (d:Nat) (m l:Int):HP:=pt d [.int .i64 m,.int .i64 l] 382
theorem TO {l:Int} (h:1≤l∧l≤2147483647) (hK:∀d,K (.tuple #[.pointer (some ⟨d,0,none⟩),.int .i64 0]) (pC d 0 l::R)):aA Tryz.prog 324 #[.int .i64 l] R K:=by
 refine aH Tryz.func324 ?_
 repeat' (first|refine v6 ?_|refine wr ?_|refine w5 ?_ ?_|((refine bh fun h=>?_) <;> try exact w6 h)|(refine aE fun hA=>?_;subst hA)|intro _)
 all_goals(refine aC ?_;exact aB (hK _))
def vD:List (Nat×Nat):= [(0,0),(1,0),(2,0),(3,0),(4,0),(5,0),(6,0),(7,0),(8,0),(9,0),(10,0),(11,0)]
theorem NF {p:Option Addr} {n:Int} (hp:p≠none) (h:n<1) (hK:K (.tuple #[.int .i64 0,.int .i64 2]) R):aA Tryz.prog 360 #[.pointer p,.int .i64 n] R K:=by
 obtain⟨q,rfl⟩:∃q,p=some q:=Option.ne_none_iff_exists'.1 hp
 refine aH Tryz.func360 ?_
 repeat' (first|refine v66 ?_|refine dw vD ?_|refine wr ?_|refine w5 ?_ ?_|((refine bh fun h=>?_) <;> try exact w6 h)|(refine aE fun hA=>?_;subst hA)|intro _)
 all_goals(refine aC ?_;exact aB (hK))
theorem UU {d:Nat} {n m l:Int} (h:1≤n) (hm:0≤m∧m≤l) (hl:l≤2147483647) (hK:K (.tuple #[.int .i64 (min n (l - m)),.int .i64 0]) (pC d (m+min n (l - m)) l::R)):aA Tryz.prog 360 #[.pointer (some ⟨d,0,none⟩),.int .i64 n] (pC d m l::R) K:=by
 unfold pC at *
 refine aH Tryz.func360 ?_
 repeat' (first|refine v66 ?_|refine dw vD ?_|refine wr ?_|refine w5 ?_ ?_|((refine bh fun h=>?_) <;> try exact w6 h)|(refine aE fun hA=>?_;subst hA)|intro _)
 all_goals(refine aC ?_;exact aB (hK))
theorem Pq {d:Nat} {n m l:Int} (h:0≤n∧n≤m) (hm:m≤l) (hl:l≤2147483647) (hK:K (.int .i64 0) (pC d (m - n) l::R)):aA Tryz.prog 281 #[.pointer (some ⟨d,0,none⟩),.int .i64 n] (pC d m l::R) K:=by
 unfold pC at *
 refine aH Tryz.func281 ?_
 repeat' (first|refine v33 ?_|refine wr ?_|refine w5 ?_ ?_|((refine bh fun h=>?_) <;> try exact w6 h)|(refine aE fun hA=>?_;subst hA)|intro _)
 all_goals(refine aC ?_;exact aB (hK))
theorem OI {d:Nat} {m l:Int} (hK:K (.int .i64 m) (pC d m l::R)):aA Tryz.prog 354 #[.pointer (some ⟨d,0,none⟩)] (pC d m l::R) K:=by
 unfold pC at *
 refine aH Tryz.func354 ?_
 repeat' (first|refine v4 ?_|refine wr ?_|refine w5 ?_ ?_|((refine bh fun h=>?_) <;> try exact w6 h)|(refine aE fun hA=>?_;subst hA)|intro _)
 (refine aC ?_;exact aB (hK))
end Go.Proofs.YtifgibijcmppmaaGreat
namespace Go.Proofs.YtifgibijcmppmaaGreat
open Go Go.Proofs Go.Sl
set_option maxRecDepth 100000
set_option maxHeartbeats 40000000
attribute [local irreducible] aN fB cJ bO aM aY aA dM dQ aW dK pt ro fF star sep bI
variable {R C:List HP} {K:Value→List HP→Prop}
def B3 (cap fi:Nat) (buf bs:List UInt8):Prop:=buf.length=cap∧(fi<cap∨(cap=0∧fi=0))∧bs.length≤cap∧∀i,i<bs.length→bs[i]?=buf[(fi+i) % cap]?
def kK (r cap:Nat) (bs:List UInt8):HP:=fF fun A=>fF fun c=>fF fun fi=>fF fun buf=>sep (pt r [.slice A cap c,.int .i64 (fi:Nat),.int .i64 bs.length] 321) (sep (bT A c 5 d8 buf) (bI (B3 cap fi buf bs)))
theorem o6 {r cap fi m:Nat} {bs buf:List UInt8} {A:Option Addr} {c:Nat} (h:B3 cap fi buf bs) (hm:bs.length=m):aG (pt r [.slice A cap c,.int .i64 fi,.int .i64 m] 321::bT A c 5 d8 buf::R) (kK r cap bs::R):=by
 subst hm
 exact aG.ex A (aG.ex c (aG.ex fi (aG.ex buf (aG.sep (aG.pick aV.here (aG.sep (aG.pick aV.here (aG.pure h (aG.refl _)))))))))
theorem wK {f:FuncId} {args:Array Value} {r cap:Nat} {bs:List UInt8} (h:∀A c fi buf,B3 cap fi buf bs→aA Tryz.prog f args (pt r [.slice A cap c,.int .i64 fi,.int .i64 bs.length] 321::bT A c 5 d8 buf::R) K):aA Tryz.prog f args (kK r cap bs::R) K:=
 aA.ex fun A=>aA.ex fun c=>aA.ex fun fi=>aA.ex fun buf=>aA.sep (aA.ent (aG.trans (aG.cons aG.unsep) (fun _ hs=>(hs.perm (List.Perm.trans (List.Perm.cons _ (List.Perm.swap _ _ _)) (List.Perm.swap _ _ _))))) (aA.pure fun hI=>h A c fi buf hI))
theorem VW (cap:Nat):B3 cap 0 (List.replicate cap 0) []:=⟨by simp,by omega,by simp,fun i h=>by simp at h⟩
theorem T5 {cap:Nat} (h:cap≤65536) (hK:∀r,K (.tuple #[.pointer (some ⟨r,0,none⟩),.int .i64 0]) (kK r cap []::R)):aA Tryz.prog 322 #[.int .i64 cap] R K:=by
 refine aH Tryz.func322 ?_
 repeat' (first|refine v6 ?_|refine wr ?_|refine w5 ?_ ?_|((refine bh fun h=>?_) <;> try exact w6 h)|(refine aE fun hA=>?_;subst hA)|intro _|(show aN _ _ _ _ _ _ _;refine OX ?_;intro _))
 refine aC ?_
 exact aL (aG.trans (by exact bA) (o6 (VW cap) rfl)) (hK _)
theorem HV (hK:K (.int .i64 0) R):aA Tryz.prog 179 #[.pointer none] R K:=by
 refine aH Tryz.func179 ?_
 repeat' (first|refine v4 ?_|refine wr ?_|refine w5 ?_ ?_|((refine bh fun h=>?_) <;> try exact w6 h)|(refine aE fun hA=>?_;subst hA)|intro _)
 (refine aC ?_;exact aB (hK))
theorem Av {r cap c:Nat} {A:Option Addr} {fi m:Int} (hK:K (.int .i64 m) (pt r [.slice A cap c,.int .i64 fi,.int .i64 m] 321::R)):aA Tryz.prog 179 #[.pointer (some ⟨r,0,none⟩)] (pt r [.slice A cap c,.int .i64 fi,.int .i64 m] 321::R) K:=by
 refine aH Tryz.func179 ?_
 repeat' (first|refine v4 ?_|refine wr ?_|refine w5 ?_ ?_|((refine bh fun h=>?_) <;> try exact w6 h)|(refine aE fun hA=>?_;subst hA)|intro _)
 (refine aC ?_;exact aB (hK))
theorem Z5 {r cap c:Nat} {A:Option Addr} {fi m:Int} (hK:K (.int .i64 cap) (pt r [.slice A cap c,.int .i64 fi,.int .i64 m] 321::R)):aA Tryz.prog 395 #[.pointer (some ⟨r,0,none⟩)] (pt r [.slice A cap c,.int .i64 fi,.int .i64 m] 321::R) K:=by
 refine aH Tryz.func395 ?_
 repeat' (first|refine v4 ?_|refine wr ?_|refine w5 ?_ ?_|((refine bh fun h=>?_) <;> try exact w6 h)|(refine aE fun hA=>?_;subst hA)|intro _)
 (refine aC ?_;exact aB (hK))
theorem Kc {r cap c:Nat} {A:Option Addr} {fi m:Int} (hm:0≤m∧m≤cap) (hc:cap≤65536) (hK:K (.int .i64 (cap - m)) (pt r [.slice A cap c,.int .i64 fi,.int .i64 m] 321::R)):aA Tryz.prog 373 #[.pointer (some ⟨r,0,none⟩)] (pt r [.slice A cap c,.int .i64 fi,.int .i64 m] 321::R) K:=by
 refine aH Tryz.func373 ?_
 repeat' (first|refine v8 ?_|refine wr ?_|refine w5 ?_ ?_|((refine bh fun h=>?_) <;> try exact w6 h)|(refine aE fun hA=>?_;subst hA)|intro _|(show aA _ 395 _ _ _;refine CA (h:=Z5 ?_))|(show aA _ 179 _ _ _;refine CA (h:=Av ?_)))
 (refine aC ?_;exact aB (hK))
def oQ:List (Nat×Nat):= [(0,0),(1,0),(2,0),(3,0),(4,0),(5,0),(6,0),(7,0),(8,0),(9,0),(10,0),(11,0),(12,0),(13,0),(14,0),(15,1)]
theorem Wy {n:Int} (hK:K (.int .i64 0) R):aA Tryz.prog 311 #[.pointer none,.int .i64 n] R K:=by
 refine aH Tryz.func311 ?_
 repeat' (first|refine v67 ?_|refine dw oQ ?_|refine wr ?_|refine w5 ?_ ?_|((refine bh fun h=>?_) <;> try exact w6 h)|(refine aE fun hA=>?_;subst hA)|intro _|(show aA _ 179 _ _ _;refine CA (h:=HV ?_)))
 all_goals(refine aC ?_;exact aB (ki hK (by omega)))
theorem Wj {cap fi kk:Nat} {buf bs:List UInt8} (h:B3 cap fi buf bs) (hk:kk≤bs.length) (hc:0<cap):B3 cap ((fi+kk) % cap) buf (bs.drop kk):=by
 obtain⟨h1,h2,h3,h4⟩:=h
 refine⟨h1,.inl (Nat.mod_lt _ hc),by rw[List.length_drop];omega,fun i hi=>?_⟩
 rw[List.length_drop] at hi
 rw[List.getElem?_drop,h4 (kk+i) (by omega),Nat.mod_add_mod,Nat.add_assoc]
theorem Qg {r cap:Nat} {bs:List UInt8} {n:Int} {kk:Nat} (hc:cap≤65536) (hk:(kk:Int)=max (min n bs.length) 0) (hK:K (.int .i64 kk) (kK r cap (bs.drop kk)::R)):aA Tryz.prog 311 #[.pointer (some ⟨r,0,none⟩),.int .i64 n] (kK r cap bs::R) K:=by
 refine wK fun A c fi buf hI=>?_
 have hI':=hI
 obtain⟨h1,h2,h3,h4⟩:=hI'
 by_cases h0:kk=0
 ·subst h0
  rw[List.drop_zero] at hK
  refine aH Tryz.func311 ?_
  repeat' (first|refine v67 ?_|refine dw oQ ?_|refine wr ?_|refine w5 ?_ ?_|((refine bh fun h=>?_) <;> try exact w6 h)|(refine aE fun hA=>?_;subst hA)|intro _|(show aA _ 179 _ _ _;refine CA (h:=Av ?_)))
  all_goals
   refine aC ?_
   exact aL (aG.trans (by exact bA) (o6 hI rfl)) (ki hK (by omega))
 ·have hcap:0<cap:=by omega
  have hd:=Wj (kk:=kk) hI (by omega) hcap
  refine aH Tryz.func311 ?_
  repeat' (first|refine v67 ?_|refine dw oQ ?_|refine wr ?_|refine w5 ?_ ?_|((refine bh fun h=>?_) <;> try exact w6 h)|(refine aE fun hA=>?_;subst hA)|intro _|(show aA _ 179 _ _ _;refine CA (h:=Av ?_)))
  have e1:((fi:Int)+(kk:Int)) % (cap:Int)=(((fi+kk) % cap:Nat):Int):=by push_cast;rfl
  have e2:((bs.length:Nat):Int) - (kk:Int)=((bs.drop kk).length:Nat):=by rw[List.length_drop];omega
  rw[← hk,e1,e2]
  refine aC ?_
  exact aL (aG.trans (by exact bA) (o6 hd rfl)) hK
theorem HQ (hK:K (.int .i64 0) R):aA Tryz.prog 386 #[.pointer none] R K:=by
 refine aH Tryz.func386 ?_
 repeat' (first|refine v0 ?_|refine wr ?_|refine w5 ?_ ?_|((refine bh fun h=>?_) <;> try exact w6 h)|(refine aE fun hA=>?_;subst hA)|intro _|(show aA _ 179 _ _ _;refine CA (h:=HV ?_))|(show aA _ 311 _ _ _;refine CA (h:=Wy ?_)))
 (refine aC ?_;exact aB (hK))
theorem Us {r cap:Nat} {bs:List UInt8} (hK:K (.int .i64 bs.length) (kK r cap bs::R)):aA Tryz.prog 179 #[.pointer (some ⟨r,0,none⟩)] (kK r cap bs::R) K:=by
 refine wK fun A c fi buf hI=>?_
 refine aH Tryz.func179 ?_
 repeat' (first|refine v4 ?_|refine wr ?_|refine w5 ?_ ?_|((refine bh fun h=>?_) <;> try exact w6 h)|(refine aE fun hA=>?_;subst hA)|intro _)
 refine aC ?_
 exact aL (o6 hI rfl) hK
theorem K5 {r cap:Nat} {bs:List UInt8} (hc:cap≤65536) (hK:K (.int .i64 bs.length) (kK r cap []::R)):aA Tryz.prog 386 #[.pointer (some ⟨r,0,none⟩)] (kK r cap bs::R) K:=by
 have hd:bs.drop bs.length= []:=List.drop_eq_nil_of_le (Nat.le_refl _)
 rw[← hd] at hK
 refine aH Tryz.func386 ?_
 repeat' (first|refine v0 ?_|refine wr ?_|refine w5 ?_ ?_|((refine bh fun h=>?_) <;> try exact w6 h)|(refine aE fun hA=>?_;subst hA)|intro _|(show aA _ 179 _ _ _;refine CA (h:=Us ?_))|(show aA _ 311 _ _ _;refine CA (h:=Qg (kk:=bs.length) hc (by omega) ?_)))
 (refine aC ?_;exact aB (hK))
end Go.Proofs.YtifgibijcmppmaaGreat
end
section
namespace Go.Proofs.YtifgibijcmppmaaGreat
open Go Go.Proofs Go.Sl
set_option maxRecDepth 100000
set_option maxHeartbeats 40000000
attribute [local irreducible] aN fB cJ bO aM aY aA dM dQ aW dK pt ro fF star sep bI
variable {R C:List HP} {K:Value→List HP→Prop}
theorem Eo {q:Nat} {cap st ac tk dr:Int} {s:ByteArray} {l:List ByteArray} (hn:l.length≤1000) (ha:0≤ac∧ac≤1000000000) (h:(l.length:Int)<cap) (hK:K (.int .i64 1) (xD q cap st (l++ [s]) (ac+1) tk dr::R)):aA Tryz.prog 321 #[.pointer (some ⟨q,0,none⟩),.string s] (xD q cap st l ac tk dr::R) K:=by
 refine aH Tryz.func321 ?_
 repeat' (first|refine QB ?_|refine wr ?_|refine w5 ?_ ?_|((refine bh fun h=>?_) <;> try exact w6 h)|(refine aE fun hA=>?_;subst hA)|intro _|(show aA _ 375 _ _ _;refine CA (h:=Ve ?_))|(show aA _ 374 _ _ _;refine CA (h:=Kw hn ha ?_)))
 all_goals(refine aC ?_;exact aB (hK))
def BL:List (Nat×Nat):= [(0,0),(1,0),(2,0),(3,0),(4,0),(5,0),(6,0),(7,0),(8,0),(9,0),(10,0),(11,0),(12,0),(13,0),(14,0)]
theorem CC {q n c:Nat} {A:Option Addr} {cap st ac tk dr:Int} (hK:K (.bool (decide (cap≤n))) (pt q [.int .i64 cap,.int .i64 st,.slice A n c,.int .i64 ac,.int .i64 tk,.int .i64 dr] 324::R)):aA Tryz.prog 375 #[.pointer (some ⟨q,0,none⟩)] (pt q [.int .i64 cap,.int .i64 st,.slice A n c,.int .i64 ac,.int .i64 tk,.int .i64 dr] 324::R) K:=by
 refine aH Tryz.func375 ?_
 repeat' (first|refine v16 ?_|refine dw BL ?_|refine wr ?_|refine w5 ?_ ?_|((refine bh fun h=>?_) <;> try exact w6 h)|(refine aE fun hA=>?_;subst hA)|intro _)
 all_goals(refine aC ?_;exact aB (kb hK (by simp <;> omega)))
theorem Vj {q:Nat} {cap st ac tk dr:Int} {s:ByteArray} {l:List ByteArray} (h:cap≤l.length) (h2:st=0) (hK:K (.int .i64 0) (xD q cap st l ac tk dr::R)):aA Tryz.prog 321 #[.pointer (some ⟨q,0,none⟩),.string s] (xD q cap st l ac tk dr::R) K:=by
 refine tX fun A c hc=>?_
 refine aH Tryz.func321 ?_
 repeat' (first|refine QB ?_|refine wr ?_|refine w5 ?_ ?_|((refine bh fun h=>?_) <;> try exact w6 h)|(refine aE fun hA=>?_;subst hA)|intro _|(show aA _ 375 _ _ _;refine CA (h:=CC ?_)))
 refine aC ?_
 exact aL (aG.trans (by exact bA) (tK rfl)) hK
theorem V4 {q:Nat} {cap st ac tk dr:Int} {s:ByteArray} {l:List ByteArray} (ha:0≤ac∧ac≤1000000000) (hd:0≤dr∧dr≤1000000000) (h:cap≤l.length) (h2:st≠0) (h3:st=1∨cap=0) (hK:K (.int .i64 2) (xD q cap st l (ac+1) tk (dr+1)::R)):aA Tryz.prog 321 #[.pointer (some ⟨q,0,none⟩),.string s] (xD q cap st l ac tk dr::R) K:=by
 refine tX fun A c hc=>?_
 refine aH Tryz.func321 ?_
 repeat' (first|refine QB ?_|refine wr ?_|refine w5 ?_ ?_|((refine bh fun h=>?_) <;> try exact w6 h)|(refine aE fun hA=>?_;subst hA)|intro _|(show aA _ 375 _ _ _;refine CA (h:=CC ?_)))
 all_goals
  refine aC ?_
  exact aL (aG.trans (by exact bA) (tK rfl)) hK
end Go.Proofs.YtifgibijcmppmaaGreat
namespace Go.Proofs.YtifgibijcmppmaaGreat
open Go Go.Proofs Go.Sl
set_option maxRecDepth 100000
set_option maxHeartbeats 40000000
attribute [local irreducible] aN fB cJ bO aM aY aA dM dQ aW dK pt ro fF star sep bI
variable {R C:List HP} {K:Value→List HP→Prop}
theorem PC {q c:Nat} {A:Option Addr} {cap st ac tk dr:Int} {s:ByteArray} {l:List ByteArray} {n:Nat} (hm:n=(s::l).length) (hc:n≤c) (hn:l.length≤1000) (hK:∀A' c',K (.string s) (pt q [.int .i64 cap,.int .i64 st,.slice A' l.length c',.int .i64 ac,.int .i64 tk,.int .i64 dr] 324::bT A' c' 9 sxC l::R)):aA Tryz.prog 317 #[.pointer (some ⟨q,0,none⟩)] (pt q [.int .i64 cap,.int .i64 st,.slice A n c,.int .i64 ac,.int .i64 tk,.int .i64 dr] 324::bT A c 9 sxC (s::l)::R) K:=by
 subst hm
 have hl:(s::l).length=l.length+1:=rfl
 have h0:(s::l)[(0:Int).toNat]?=some s:=rfl
 have hlen:(List.take ((((s::l).length:Nat):Int).toNat - (1:Int).toNat) (List.drop (1:Int).toNat (s::l))).length=(((s::l).length:Nat):Int).toNat - (1:Int).toNat:=by simp
 have hbg:(2 * (0+(List.take ((((s::l).length:Nat):Int).toNat - (1:Int).toNat) (List.drop (1:Int).toNat (s::l))).length)+512) * 16≤281474976710656:=by simp;omega
 have heq:List.take ((((s::l).length:Nat):Int).toNat - (1:Int).toNat) (List.drop (1:Int).toNat (s::l))=l:=by simp
 refine aH Tryz.func317 ?_
 repeat' (first|refine v40 ?_|refine wr ?_|refine w5 ?_ ?_|((refine bh fun h=>?_) <;> try exact w6 h)|(refine aE fun hA=>?_;subst hA)|intro _|(show aN _ _ _ _ _ _ _;refine dJ (hbig:=hbg) ?_;intro _ _))
 refine aC ?_
 simp only[heq]
 exact aB (hK _ _)
theorem VG {q:Nat} {cap st ac tk dr:Int} {s s0:ByteArray} {l:List ByteArray} (hn:l.length≤1000) (ha:0≤ac∧ac≤1000000000) (hd:0≤dr∧dr≤1000000000) (h:cap≤(s0::l).length) (h2:st≠0) (h3:st≠1) (h4:cap≠0) (hK:K (.int .i64 3) (xD q cap st (l++ [s]) (ac+1) tk (dr+1)::R)):aA Tryz.prog 321 #[.pointer (some ⟨q,0,none⟩),.string s] (xD q cap st (s0::l) ac tk dr::R) K:=by
 refine tX fun A c hc=>?_
 refine aH Tryz.func321 ?_
 repeat' (first|refine QB ?_|refine wr ?_|refine w5 ?_ ?_|((refine bh fun h=>?_) <;> try exact w6 h)|(refine aE fun hA=>?_;subst hA)|intro _|(show aA _ 375 _ _ _;refine CA (h:=CC ?_))|(show aA _ 317 _ _ _;refine CA (h:=PC rfl hc hn (fun A2 c2=>?_)))|(show aA _ 374 _ _ _;refine CA (h:=Kw hn ha ?_)))
 all_goals(refine aC ?_;exact aB (hK))
end Go.Proofs.YtifgibijcmppmaaGreat
end
namespace Go.Proofs.YtifgibijcmppmaaGreat
open Go Go.Proofs Go.Sl
set_option maxRecDepth 100000
set_option maxHeartbeats 40000000
attribute [local irreducible] aN fB cJ bO aM aY aA dM dQ aW dK pt ro fF star sep bI
section
variable {R C:List HP} {K:Value→List HP→Prop}
theorem Ak2 (s:ByteArray):s.data.toList.length=s.size:=by simp
theorem QL {r cap fi:Nat} {m:Int} {bs buf:List UInt8} {A:Option Addr} {c:Nat} (h:B3 cap fi buf bs) (hm:m=(bs.length:Nat)):aG (pt r [.slice A cap c,.int .i64 fi,.int .i64 m] 321::bT A c 5 d8 buf::R) (kK r cap bs::R):=by
 subst hm
 exact o6 h rfl
theorem Ah9 {x cap:Nat} (h:x<2 * cap):x % cap=if x<cap then x else x - cap:=by
 split
 ·exact Nat.mod_eq_of_lt (by assumption)
 ·rw[Nat.mod_eq_sub_mod (by omega),Nat.mod_eq_of_lt (by omega)]
theorem QS {cap fi at_ k:Nat} {buf bs w x1 x2:List UInt8} (h:B3 cap fi buf bs) (hc:0<cap) (hw:bs.length+w.length≤cap) (ha:at_=(fi+bs.length) % cap) (hk:k=min w.length (cap - at_))
  (h1:x1=buf.take at_++(w.take k++buf.drop (at_+k))) (h2:x2=w.drop k++x1.drop (w.length - k)):B3 cap fi x2 (bs++w):=by
 obtain⟨b1,b2,b3,b4⟩:=h
 have hat:at_<cap:=by rw[ha];exact Nat.mod_lt _ hc
 have hk1:k≤w.length:=by omega
 have hk2:at_+k≤cap:=by omega
 have hfi:fi<cap:=by omega
 rw[Ah9 (by omega)] at ha
 have l1:x1.length=cap:=by
  subst h1
  simp only[List.length_append,List.length_take,List.length_drop]
  omega
 have l2:x2.length=cap:=by
  subst h2
  simp only[List.length_append,List.length_drop,l1]
  omega
 have g1:∀j,j<cap→x1[j]?=if j<at_ then buf[j]? else if j<at_+k then w[j - at_]? else buf[j]?:=by
  intro j hj
  subst h1
  have t1:(buf.take at_).length=at_:=by rw[List.length_take];omega
  have t2:(w.take k).length=k:=by rw[List.length_take];omega
  rw[List.getElem?_append,t1]
  split
  ·rw[List.getElem?_take];simp_all
  ·rw[List.getElem?_append,t2]
   split
   ·rw[if_pos (by omega),List.getElem?_take,if_pos (by omega)]
   ·rw[if_neg (by omega),List.getElem?_drop];congr 1;omega
 have g2:∀j,j<cap→x2[j]?=if j<w.length - k then w[k+j]? else x1[j]?:=by
  intro j hj
  subst h2
  rw[List.getElem?_append,List.length_drop]
  split
  ·rw[List.getElem?_drop]
  ·rw[List.getElem?_drop];congr 1;omega
 refine⟨l2,.inl hfi,by rw[List.length_append];omega,fun i hi=>?_⟩
 rw[List.length_append] at hi
 have hp:(fi+i) % cap<cap:=Nat.mod_lt _ hc
 have hm:=Ah9 (x:=fi+i) (cap:=cap) (by omega)
 rw[g2 _ hp,g1 _ hp,List.getElem?_append]
 by_cases c1:i<bs.length
 ·rw[if_pos c1,b4 i c1]
  have e1:¬((fi+i) % cap<w.length - k):=by
   rw[hm];split at ha <;> split <;> omega
  rw[if_neg e1]
  by_cases e2:(fi+i) % cap<at_
  ·rw[if_pos e2]
  ·rw[if_neg e2,if_neg]
   rw[hm] at e2 ⊢
   split at ha <;> split at e2 <;> (try split) <;> omega
 ·rw[if_neg c1]
  by_cases c2:i - bs.length<k
  ·have e0:(fi+i) % cap=at_+(i - bs.length):=by
    rw[hm];split at ha <;> split <;> omega
   rw[if_neg (by rw[e0];omega),if_neg (by rw[e0];omega),if_pos (by rw[e0];omega),e0]
   congr 1;omega
  ·have e0:(fi+i) % cap+k=i - bs.length:=by
    rw[hm];split at ha <;> split <;> omega
   rw[if_pos (by omega)]
   congr 1;omega
def s9:List (Nat×Nat):= [(0,0),(1,0),(2,0),(3,0),(4,0),(5,0),(6,0),(7,0),(8,0),(9,0),(10,0),(11,0),(12,0),(13,0),(14,0),(15,0)]
def tF:List (Nat×Nat):= [(0,0),(1,0),(2,0),(3,0),(4,0),(5,0),(6,0),(7,0),(8,0),(9,1),(10,0)]
def tD:List (Nat×Nat):= [(0,0),(1,0),(2,0),(3,0),(4,0),(5,0),(6,0),(7,0),(8,1)]
theorem II {r cap:Nat} {bs:List UInt8} {s:ByteArray} (hc:cap≤65536) (hz:s.size=0∨cap≤bs.length) (hK:K (.int .i64 0) (kK r cap bs::R)):aA Tryz.prog 320 #[.pointer (some ⟨r,0,none⟩),.string s] (kK r cap bs::R) K:=by
 refine wK fun A c fi buf hI=>?_
 have hI':=hI
 obtain⟨h1,h2,h3,h4⟩:=hI'
 refine aH Tryz.func320 ?_
 repeat' (first|refine v85 ?_|refine dw s9 ?_|refine dw tF ?_|refine dw tD ?_|refine wr ?_|refine w5 ?_ ?_|((refine bh fun h=>?_) <;> try exact w6 h)|(refine aE fun hA=>?_;subst hA)|intro _|(show aA _ 373 _ _ _;refine CA (h:=Kc (by omega) hc ?_)))
 all_goals
  refine aC ?_
  exact aL (aG.trans (by exact bA) (o6 hI rfl)) (ki hK (by omega))
theorem J3 {r cap n:Nat} {bs:List UInt8} {s:ByteArray} (hc:cap≤65536) (hn:(n:Int)=min (s.size:Int) ((cap:Int) - (bs.length:Int))) (h0:0<n) (hK:K (.int .i64 n) (kK r cap (bs++s.data.toList.take n)::R)):aA Tryz.prog 320 #[.pointer (some ⟨r,0,none⟩),.string s] (kK r cap bs::R) K:=by
 refine wK fun A c fi buf hI=>?_
 have hI':=hI
 obtain⟨h1,h2,h3,h4⟩:=hI'
 refine iS (aV.there aV.here) fun hbc=>?_
 refine pO (aV.there aV.here) (by omega) fun B off hA=>?_
 subst hA
 have hsl:s.data.toList.length=s.size:=by simp
 have hes:(s.extract 0 ((n:Int)).toNat).size=n:=by simp;omega
 have hat:(fi+bs.length) % cap<cap:=Nat.mod_lt _ (by omega)
 have e1:((fi:Int)+(bs.length:Int)) % (cap:Int)=(((fi+bs.length) % cap:Nat):Int):=by push_cast;rfl
 have hwr:=fun x1 x2 k=>QS (w:=s.data.toList.take n) (x1:=x1) (x2:=x2) (at_:=(fi+bs.length) % cap) (k:=k) hI (by omega) (by rw[List.length_take,hsl];omega) rfl
 generalize hag:(fi+bs.length) % cap=at_ at *
 refine aH Tryz.func320 ?_
 repeat' (first|(show aN _ _ _ _ _ _ _;rw[← hn])|(show aN _ _ _ _ _ _ _;rw[e1])|(show aN _ _ _ _ _ _ _;refine nH ?_;intro A' hA';obtain rfl:=Aim (j:=at_) hA' (by omega) (by omega))|refine v85 ?_|refine dw s9 ?_|refine dw tF ?_|refine dw tD ?_|refine wr ?_|refine w5 ?_ ?_|((refine bh fun h=>?_) <;> try exact w6 h)|(refine aE fun hA=>?_;subst hA)|intro _|(show aA _ 373 _ _ _;refine CA (h:=Kc (by omega) hc ?_))|(show aN _ _ _ _ _ _ _;refine UV (j:=at_) (hj:=by omega) ?_)|(show aN _ _ _ _ _ _ _;refine UV (j:=0) (hj:=by simp only[List.length_append,List.length_take,List.length_drop,Ak2];omega) ?_))
 have exl:∀i j,(s.extract i j).data.toList=(s.data.toList.drop i).take (j - i):=fun i j=>by simp
 have hkn:min n (cap - at_)≤n:=by omega
 have exs:(s.extract (min n (cap - at_)) n).size=n - min n (cap - at_):=by simp;omega
 simp only[Int.toNat_natCast] at hes ⊢
 simp only[hes,exs,exl]
 have hln:(s.data.toList.take n).length=n:=by rw[List.length_take,hsl];omega
 rw[hln] at hwr
 generalize hkk:min n (cap - at_)=kk at *
 refine aC ?_
 refine aL (C':=kK r cap (bs++List.take n s.data.toList)::R) ?_ hK
 refine QL (hwr _ _ kk rfl rfl ?_) ?_
 ·rw[show min (n - kk) cap=n - kk by omega,List.drop_take]
  simp[List.take_take]
 ·rw[List.length_append,hln];push_cast;rfl
end
section
variable {R C:List HP} {K:Value→List HP→Prop}
theorem Yz {r r2 cap c:Nat} {A:Option Addr} {fi m fr to:Int} {buf:List UInt8} (h:0≤fr∧fr≤to∧to≤cap) (hc:cap≤c) (hb:buf.length=cap)
  (hK:∀A',(∀C',cZ C' A d8 buf→cZ C' A' d8 ((buf.drop fr.toNat).take (to.toNat - fr.toNat)))→((buf.drop fr.toNat).take (to.toNat - fr.toNat)).length=to.toNat - fr.toNat→K (.slice A' (to.toNat - fr.toNat) (to.toNat - fr.toNat)) (pt r2 [.pointer (some ⟨r,0,none⟩)] 259::pt r [.slice A cap c,.int .i64 fi,.int .i64 m] 321::R)):
  aA Tryz.prog 369 #[.int .i64 fr,.int .i64 to,.pointer (some ⟨r2,0,none⟩)] (pt r2 [.pointer (some ⟨r,0,none⟩)] 259::pt r [.slice A cap c,.int .i64 fi,.int .i64 m] 321::R) K:=by
 refine aH Tryz.func369 ?_
 repeat' (first|(show aN _ _ _ _ _ _ _;refine nH ?_;intro A' hA')|refine v40 ?_|refine wr ?_|refine w5 ?_ ?_|((refine bh fun h=>?_) <;> try exact w6 h)|(refine aE fun hA=>?_;subst hA)|intro _)
 refine aC ?_
 refine aB (hK A' (fun C' hv=>EG hv hA' (by omega) (.inr (by omega))) ?_)
 rw[List.length_take,List.length_drop]
 omega
theorem WZ {cap fi kk:Nat} {buf bs p1 p2:List UInt8} {e:Nat} (h:B3 cap fi buf bs) (hk:kk≤bs.length) (h0:0<kk) (he:e=min (fi+kk) cap) (h1:p1=(buf.drop fi).take (e - fi)) (h2:p2=buf.take (kk - (e - fi))):p1++p2=bs.take kk:=by
 obtain⟨b1,b2,b3,b4⟩:=h
 have hfi:fi<cap:=by omega
 have l1:p1.length=e - fi:=by subst h1;rw[List.length_take,List.length_drop];omega
 have l2:p2.length=kk - (e - fi):=by subst h2;rw[List.length_take];omega
 apply List.ext_getElem?
 intro i
 rw[List.getElem?_append,l1,List.getElem?_take]
 by_cases c:i<kk
 ·rw[if_pos c,b4 i (by omega),Ah9 (by omega)]
  split
  ·subst h1
   rw[List.getElem?_take,if_pos (by assumption),List.getElem?_drop,if_pos (by omega)]
  ·subst h2
   rw[List.getElem?_take,if_pos (by omega),if_neg (by omega)]
   congr 1;omega
 ·rw[if_neg c,if_neg (by omega)]
  exact List.getElem?_eq_none (by omega)
def vF:List (Nat×Nat):= [(0,0),(1,0),(2,0),(3,0),(4,0),(5,0),(6,0),(7,0),(8,0),(9,0),(10,0),(11,0),(12,0)]
theorem Aaq {r cap kk:Nat} {bs:List UInt8} {n:Int} (hc:cap≤65536) (hk:(kk:Int)=max (min n bs.length) 0) (hK:K (.string ⟨(bs.take kk).toArray⟩) (kK r cap bs::R)):aA Tryz.prog 310 #[.pointer (some ⟨r,0,none⟩),.int .i64 n] (kK r cap bs::R) K:=by
 refine wK fun A c fi buf hI=>?_
 have hI':=hI
 obtain⟨h1,h2,h3,h4⟩:=hI'
 refine iS (aV.there aV.here) fun hbc=>?_
 by_cases h0:kk=0
 ·subst h0
  rw[List.take_zero] at hK
  refine aH Tryz.func310 ?_
  repeat' (first|refine XR ?_|refine dw vF ?_|refine wr ?_|refine w5 ?_ ?_|((refine bh fun h=>?_) <;> try exact w6 h)|(refine aE fun hA=>?_;subst hA)|intro _|(show aA _ 179 _ _ _;refine CA (h:=Av ?_)))
  refine aC ?_
  exact aL (aG.trans (by exact bA) (o6 hI rfl)) hK
 ·refine aH Tryz.func310 ?_
  repeat' (first|refine XR ?_|refine dw vF ?_|refine wr ?_|refine w5 ?_ ?_|((refine bh fun h=>?_) <;> try exact w6 h)|(refine aE fun hA=>?_;subst hA)|intro _|(show aA _ 179 _ _ _;refine CA (h:=Av ?_))|(show aA _ 369 _ _ _;refine CA (h:=Yz (buf:=buf) ⟨by omega,by omega,by omega⟩ (by omega) h1 (fun A1 hv hl=>?_)))|(show aN _ _ _ _ _ _ _;refine dJ (hsrc:=rQ (hv _ (by exact kR)) hl) ?_;intro _ _)|(show aN _ _ _ _ _ _ _;refine cY (hsrc:=rQ (hv _ (by exact kR)) hl) ?_;intro _ _))
  refine aC ?_
  refine aL (aG.trans (by exact bA) (o6 hI rfl)) (kv hK ?_)
  congr 3
  symm
  refine WZ (e:=min (fi+kk) cap) hI (by omega) (by omega) rfl ?_ ?_
  ·congr 1 <;> (try congr 1) <;> omega
  ·simp
   congr 1
   omega
theorem EU {r cap kk:Nat} {bs:List UInt8} {n:Int} (hc:cap≤65536) (hk:(kk:Int)=max (min n bs.length) 0) (hK:K (.string ⟨(bs.take kk).toArray⟩) (kK r cap (bs.drop kk)::R)):aA Tryz.prog 220 #[.pointer (some ⟨r,0,none⟩),.int .i64 n] (kK r cap bs::R) K:=by
 have hs:(ByteArray.mk (bs.take kk).toArray).size=kk:=by simp[o9];omega
 refine aH Tryz.func220 ?_
 repeat' (first|refine v0 ?_|refine wr ?_|refine w5 ?_ ?_|((refine bh fun h=>?_) <;> try exact w6 h)|(refine aE fun hA=>?_;subst hA)|intro _|(show aA _ 310 _ _ _;refine CA (h:=Aaq hc hk ?_))|(show aA _ 311 _ _ _;refine CA (h:=Qg (kk:=kk) hc (by rw[hs];omega) ?_)))
 (refine aC ?_;exact aB (hK))
end
end Go.Proofs.YtifgibijcmppmaaGreat
