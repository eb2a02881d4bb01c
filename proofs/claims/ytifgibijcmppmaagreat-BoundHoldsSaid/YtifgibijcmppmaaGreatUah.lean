/- A part of the proof: lemmas; each with the conditions that it states. -/
import Derived.Test.YtifgibijcmppmaaGreatUaf
set_option linter.unusedVariables false
set_option linter.unusedSimpArgs false
set_option maxRecDepth 100000
set_option maxHeartbeats 40000000
section
namespace Go.Proofs.YtifgibijcmppmaaGreat
open Go Go.Proofs Go.Sl
attribute [local irreducible] aN fN cX bP aM aX aA dS dV aT dU pt ro eV star sep bH
variable {R C:List HP} {K:KP}
def sxD:List Value→Option ByteArray
 | [.string s]=>some s
 |_=>none
theorem Ajy (cs:List Value) (y:ByteArray) (h:sxD cs=some y): [.string y]=cs:=by
 unfold sxD at h
 split at h
 ·cases h;rfl
 ·cases h
def sxC:tJ ByteArray:= { enc:=fun s=> [.string s],sz:=1,dec:=sxD,len:=fun _=>rfl,one:=fun _=>rfl,ok:=Ajy }
def wH (q:Nat) (cap st:Int) (l:List ByteArray) (ac tk dr:Int):HP:=eV fun A=>eV fun c=>sep (pt q [I6 cap,I6 st,.slice A l.length c,I6 ac,I6 tk,I6 dr] 324) (bQ A c 9 sxC l)
theorem tA {q n:Nat} {cap st ac tk dr:Int} {l:List ByteArray} {A:Option Addr} {c:Nat} (h:l.length=n):aG (pt q [I6 cap,I6 st,.slice A n c,I6 ac,I6 tk,I6 dr] 324::bQ A c 9 sxC l::R) (wH q cap st l ac tk dr::R):=by
 subst h
 exact aG.ex A (aG.ex c (aG.sep (aG.refl _)))
theorem tB {f:FuncId} {args:Array Value} {q:Nat} {cap st ac tk dr:Int} {l:List ByteArray} (h:∀A c,l.length≤c→CT f args (pt q [I6 cap,I6 st,.slice A l.length c,I6 ac,I6 tk,I6 dr] 324::bQ A c 9 sxC l::R) K):CT f args (wH q cap st l ac tk dr::R) K:=
 aA.ex fun A=>aA.ex fun c=>aA.sep (iK (aV.there aV.here) (h A c))
theorem N0 {cap st:Int} (h:0≤cap∧cap≤64) (h2:0≤st∧st≤2) (hK:∀q,K (.tuple #[PO q,I6 0]) (wH q cap st [] 0 0 0::R)):CT 323 #[I6 cap,I6 st] R K:=by
 refine aH Tryz.func323 ?_
 repeat' (first|refine v6 ?_|refine w5 ?_ ?_|((refine bh fun h=>?_) <;> try exact w6 h)|(refine aE fun hA=>?_;subst hA)|intro _)
 refine aC ?_
 exact aK (aG.trans (aG.pick aV.here (aG.nilrow' (aG.refl _))) (tA (A:=none) (c:=0) (l:= []) rfl)) (hK _)
theorem J5 (hK:K (I6 0) R):CT 180 #[.pointer none] R K:=by
 refine aH Tryz.func180 ?_
 repeat' (first|refine v4 ?_|refine w5 ?_ ?_|((refine bh fun h=>?_) <;> try exact w6 h)|(refine aE fun hA=>?_;subst hA)|intro _)
 (refine aC ?_;exact aB (hK))
theorem GX {q:Nat} {cap st ac tk dr:Int} {l:List ByteArray} (hK:K (I6 l.length) (wH q cap st l ac tk dr::R)):CT 180 #[PO q] (wH q cap st l ac tk dr::R) K:=by
 refine tB fun A c hc=>?_
 refine aH Tryz.func180 ?_
 repeat' (first|refine v4 ?_|refine w5 ?_ ?_|((refine bh fun h=>?_) <;> try exact w6 h)|(refine aE fun hA=>?_;subst hA)|intro _)
 refine aC ?_
 exact aK (tA rfl) hK
def CI:List (Nat×Nat):= [(0,0),(1,0),(2,0),(3,0),(4,0),(5,0),(6,0),(7,0),(8,0),(9,0),(10,0),(11,0),(12,0),(13,0),(14,0)]
theorem WO {q:Nat} {cap st ac tk dr:Int} {l:List ByteArray} (hK:K (.bool (decide (cap≤l.length))) (wH q cap st l ac tk dr::R)):CT 375 #[PO q] (wH q cap st l ac tk dr::R) K:=by
 refine tB fun A c hc=>?_
 refine aH Tryz.func375 ?_
 repeat' (first|refine v16 ?_|refine dw CI ?_|refine w5 ?_ ?_|((refine bh fun h=>?_) <;> try exact w6 h)|(refine aE fun hA=>?_;subst hA)|intro _)
 all_goals
  refine aC ?_
  exact aK (tA rfl) (kb hK (by simp <;> omega))
theorem S8 {q:Nat} {cap st ac tk dr:Int} {s:ByteArray} {l:List ByteArray} (hn:l.length≤1000) (hK:K (.string s) (wH q cap st l ac tk dr::R)):CT 317 #[PO q] (wH q cap st (s::l) ac tk dr::R) K:=by
 refine tB fun A c hc=>?_
 have hl:(s::l).length=l.length+1:=rfl
 have h0:(s::l)[(0:Int).toNat]?=some s:=rfl
 have hlen:(List.take ((((s::l).length:Nat):Int).toNat - (1:Int).toNat) (List.drop (1:Int).toNat (s::l))).length=(((s::l).length:Nat):Int).toNat - (1:Int).toNat:=by simp
 have hbg:(2 * (0+(List.take ((((s::l).length:Nat):Int).toNat - (1:Int).toNat) (List.drop (1:Int).toNat (s::l))).length)+512) * 16≤281474976710656:=by simp;omega
 have heq:List.take ((((s::l).length:Nat):Int).toNat - (1:Int).toNat) (List.drop (1:Int).toNat (s::l))=l:=by simp
 refine aH Tryz.func317 ?_
 repeat' (first|refine v40 ?_|refine w5 ?_ ?_|((refine bh fun h=>?_) <;> try exact w6 h)|(refine aE fun hA=>?_;subst hA)|intro _|(show aN _ _ _ _ _ _ _;refine dH (hbig:=hbg) ?_;intro _ _))
 refine aC ?_
 simp only[heq]
 exact aK (aG.trans (by exact aZ) (tA (l:=l) rfl)) hK
end Go.Proofs.YtifgibijcmppmaaGreat
namespace Go.Proofs.YtifgibijcmppmaaGreat
open Go Go.Proofs Go.Sl
attribute [local irreducible] aN fN cX bP aM aX aA dS dV aT dU pt ro eV star sep bH
variable {R C:List HP} {K:KP}
def Ct:List Nat:= [0,0,2,6,14,0,32,96,224,480,0,1024,3072,7168,15360,32766,0,65536,262142,524287,1048575,2097151]
def CP:List Nat:= [2097151,1048575,524287,262142,65536,0,32766,15360,7168,3072,1024,0,480,224,96,32,0,14,6,2,0,0]
def CL:List (Nat×Nat):= [(16,0),(17,1),(1,1),(2,1),(3,1),(4,1),(5,1),(6,1),(7,1),(8,1),(9,1),(10,1),(11,1),(12,1),(13,1),(14,1),(15,1),(18,1),(0,2),(19,0),(20,0),(21,1)]
theorem Ks {v:Int} {r2 r3 q:Nat} {cap st ac tk dr:Int} {s:ByteArray} {l:List ByteArray} (hn:l.length≤1000) (ha:0≤ac∧ac≤1000000000) (hK:K (I6 v) (pt r2 [PO q] 260::pt r3 [.string s] 9::wH q cap st (l++ [s]) (ac+1) tk dr::R)):CT 374 #[I6 v,PO r2,PO r3] (pt r2 [PO q] 260::pt r3 [.string s] 9::wH q cap st l ac tk dr::R) K:=by
 refine aA.ent (C':=wH q cap st l ac tk dr::pt r2 [PO q] 260::pt r3 [.string s] 9::R) (by exact aZ) ?_
 refine tB fun A c hc=>?_
 refine aH Tryz.func374 ?_
 repeat' (first|(show aN _ _ _ _ _ _ _;refine iE ?_;intro A';simp only[Int.toNat_natCast,Int.toNat_zero,Nat.sub_zero,List.drop_zero,List.take_length])|refine Q7 ?_|refine Gp Ct CP CL ?_|refine w5 ?_ ?_|((refine bh fun h=>?_) <;> try exact w6 h)|(refine aE fun hA=>?_;subst hA)|intro _)
 all_goals
  refine aC ?_
  exact aK (aG.trans (by exact aZ) (aG.cons (aG.cons (tA (l:=l++ [s]) rfl)))) hK
theorem I4 {q:Nat} {cap st ac tk dr:Int} (hK:K (.tuple #[.string ⟨#[]⟩,.bool false]) (wH q cap st [] ac tk dr::R)):CT 225 #[PO q] (wH q cap st [] ac tk dr::R) K:=by
 refine aH Tryz.func225 ?_
 repeat' (first|refine Gt ?_|refine w5 ?_ ?_|((refine bh fun h=>?_) <;> try exact w6 h)|(refine aE fun hA=>?_;subst hA)|intro _|(show aA _ 180 _ _ _;refine CA (h:=GX ?_)))
 (refine aC ?_;exact aB (hK))
theorem LC {q n c:Nat} {A:Option Addr} {cap st ac tk dr:Int} (hK:K (I6 n) (pt q [I6 cap,I6 st,.slice A n c,I6 ac,I6 tk,I6 dr] 324::R)):CT 180 #[PO q] (pt q [I6 cap,I6 st,.slice A n c,I6 ac,I6 tk,I6 dr] 324::R) K:=by
 refine aH Tryz.func180 ?_
 repeat' (first|refine v4 ?_|refine w5 ?_ ?_|((refine bh fun h=>?_) <;> try exact w6 h)|(refine aE fun hA=>?_;subst hA)|intro _)
 (refine aC ?_;exact aB (hK))
theorem Ka {q:Nat} {cap st ac tk dr:Int} {s:ByteArray} {l:List ByteArray} (hn:l.length≤1000) (ht:0≤tk∧tk≤1000000000) (hK:K (.tuple #[.string s,.bool true]) (wH q cap st l ac (tk+1) dr::R)):CT 225 #[PO q] (wH q cap st (s::l) ac tk dr::R) K:=by
 refine tB fun A c hc=>?_
 have hl:(s::l).length=l.length+1:=rfl
 refine aH Tryz.func225 ?_
 repeat' (first|refine Gt ?_|refine w5 ?_ ?_|((refine bh fun h=>?_) <;> try exact w6 h)|(refine aE fun hA=>?_;subst hA)|intro _|(show aA _ 180 _ _ _;refine CA (h:=LC ?_))|(show aA _ 317 _ _ _;refine CA (h:=S8 hn ?_)))
 (refine aC ?_;exact aB (hK))
theorem Gb (hK:K (I6 0) R):CT 387 #[.pointer none] R K:=by
 refine aH Tryz.func387 ?_
 repeat' (first|refine Gt ?_|refine w5 ?_ ?_|((refine bh fun h=>?_) <;> try exact w6 h)|(refine aE fun hA=>?_;subst hA)|intro _|(show aA _ 180 _ _ _;refine CA (h:=J5 ?_)))
 (refine aC ?_;exact aB (hK))
theorem Jg {q:Nat} {cap st ac tk dr:Int} {l:List ByteArray} (hn:l.length≤1000) (hd:0≤dr∧dr≤1000000000) (hK:K (I6 l.length) (wH q cap st [] ac tk (dr+l.length)::R)):CT 387 #[PO q] (wH q cap st l ac tk dr::R) K:=by
 refine tB fun A c hc=>?_
 refine aH Tryz.func387 ?_
 repeat' (first|refine Gt ?_|refine w5 ?_ ?_|((refine bh fun h=>?_) <;> try exact w6 h)|(refine aE fun hA=>?_;subst hA)|intro _|(show aA _ 180 _ _ _;refine CA (h:=LC ?_)))
 ·refine aC ?_
  exact aK (aG.trans (aG.pick aV.here (aG.drop (aG.nilrow' (aG.refl _)))) (tA (A:=none) (c:=0) (l:= []) rfl)) hK
 ·obtain rfl:l= []:=List.length_eq_zero_iff.1 (by omega)
  rw[show dr+(([]:List ByteArray).length:Nat)=dr by simp] at hK
  refine aC ?_
  exact aK (tA rfl) hK
end Go.Proofs.YtifgibijcmppmaaGreat
namespace Go.Proofs.YtifgibijcmppmaaGreat
open Go Go.Proofs Go.Sl
attribute [local irreducible] aN fN cX bP aM aX aA dS dV aT dU pt ro eV star sep bH
variable {R C:List HP} {K:KP}
def oS (d:Nat) (m l:Int):HP:=pt d [I6 m,I6 l] 382
theorem Uw {l:Int} (h:1≤l∧l≤2147483647) (hK:∀d,K (.tuple #[PO d,I6 0]) (oS d 0 l::R)):CT 324 #[I6 l] R K:=by
 refine aH Tryz.func324 ?_
 repeat' (first|refine v6 ?_|refine w5 ?_ ?_|((refine bh fun h=>?_) <;> try exact w6 h)|(refine aE fun hA=>?_;subst hA)|intro _)
 all_goals(refine aC ?_;exact aB (hK _))
def vT:List (Nat×Nat):= [(0,0),(1,0),(2,0),(3,0),(4,0),(5,0),(6,0),(7,0),(8,0),(9,0),(10,0),(11,0)]
theorem Qz {p:Option Addr} {n:Int} (hp:p≠none) (h:n<1) (hK:K (.tuple #[I6 0,I6 2]) R):CT 360 #[.pointer p,I6 n] R K:=by
 obtain⟨q,rfl⟩:∃q,p=some q:=Option.ne_none_iff_exists'.1 hp
 refine aH Tryz.func360 ?_
 repeat' (first|refine v66 ?_|refine dw vT ?_|refine w5 ?_ ?_|((refine bh fun h=>?_) <;> try exact w6 h)|(refine aE fun hA=>?_;subst hA)|intro _)
 all_goals(refine aC ?_;exact aB (hK))
theorem Vu {d:Nat} {n m l:Int} (h:1≤n) (hm:0≤m∧m≤l) (hl:l≤2147483647) (hK:K (.tuple #[I6 (min n (l - m)),I6 0]) (oS d (m+min n (l - m)) l::R)):CT 360 #[PO d,I6 n] (oS d m l::R) K:=by
 unfold oS at *
 refine aH Tryz.func360 ?_
 repeat' (first|refine v66 ?_|refine dw vT ?_|refine w5 ?_ ?_|((refine bh fun h=>?_) <;> try exact w6 h)|(refine aE fun hA=>?_;subst hA)|intro _)
 all_goals(refine aC ?_;exact aB (hK))
theorem Of {d:Nat} {n m l:Int} (h:0≤n∧n≤m) (hm:m≤l) (hl:l≤2147483647) (hK:K (I6 0) (oS d (m - n) l::R)):CT 281 #[PO d,I6 n] (oS d m l::R) K:=by
 unfold oS at *
 refine aH Tryz.func281 ?_
 repeat' (first|refine v33 ?_|refine w5 ?_ ?_|((refine bh fun h=>?_) <;> try exact w6 h)|(refine aE fun hA=>?_;subst hA)|intro _)
 all_goals(refine aC ?_;exact aB (hK))
theorem Qf {d:Nat} {m l:Int} (hK:K (I6 m) (oS d m l::R)):CT 354 #[PO d] (oS d m l::R) K:=by
 unfold oS at *
 refine aH Tryz.func354 ?_
 repeat' (first|refine v4 ?_|refine w5 ?_ ?_|((refine bh fun h=>?_) <;> try exact w6 h)|(refine aE fun hA=>?_;subst hA)|intro _)
 (refine aC ?_;exact aB (hK))
end Go.Proofs.YtifgibijcmppmaaGreat
namespace Go.Proofs.YtifgibijcmppmaaGreat
open Go Go.Proofs Go.Sl
attribute [local irreducible] aN fN cX bP aM aX aA dS dV aT dU pt ro eV star sep bH
variable {R C:List HP} {K:KP}
def B8 (cap fi:Nat) (buf bs:List UInt8):Prop:=buf.length=cap∧(fi<cap∨(cap=0∧fi=0))∧bs.length≤cap∧∀i,i<bs.length→bs[i]?=buf[(fi+i) % cap]?
def j1 (r cap:Nat) (bs:List UInt8):HP:=eV fun A=>eV fun c=>eV fun fi=>eV fun buf=>sep (pt r [.slice A cap c,I6 (fi:Nat),I6 bs.length] 321) (sep (bQ A c 5 dL buf) (bH (B8 cap fi buf bs)))
theorem oH {r cap fi m:Nat} {bs buf:List UInt8} {A:Option Addr} {c:Nat} (h:B8 cap fi buf bs) (hm:bs.length=m):aG (pt r [.slice A cap c,I6 fi,I6 m] 321::bQ A c 5 dL buf::R) (j1 r cap bs::R):=by
 subst hm
 exact aG.ex A (aG.ex c (aG.ex fi (aG.ex buf (aG.sep (aG.pick aV.here (aG.sep (aG.pick aV.here (aG.pure h (aG.refl _)))))))))
theorem xQ {f:FuncId} {args:Array Value} {r cap:Nat} {bs:List UInt8} (h:∀A c fi buf,B8 cap fi buf bs→CT f args (pt r [.slice A cap c,I6 fi,I6 bs.length] 321::bQ A c 5 dL buf::R) K):CT f args (j1 r cap bs::R) K:=
 aA.ex fun A=>aA.ex fun c=>aA.ex fun fi=>aA.ex fun buf=>aA.sep (aA.ent (aG.trans (aG.cons aG.unsep) (fun _ hs=>(hs.perm (List.Perm.trans (List.Perm.cons _ (List.Perm.swap _ _ _)) (List.Perm.swap _ _ _))))) (aA.pure fun hI=>h A c fi buf hI))
theorem Wr (cap:Nat):B8 cap 0 (List.replicate cap 0) []:=⟨by simp,by omega,by simp,fun i h=>by simp at h⟩
theorem VC {cap:Nat} (h:cap≤65536) (hK:∀r,K (.tuple #[PO r,I6 0]) (j1 r cap []::R)):CT 322 #[I6 cap] R K:=by
 refine aH Tryz.func322 ?_
 repeat' (first|refine v6 ?_|refine w5 ?_ ?_|((refine bh fun h=>?_) <;> try exact w6 h)|(refine aE fun hA=>?_;subst hA)|intro _|(show aN _ _ _ _ _ _ _;refine PZ ?_;intro _))
 refine aC ?_
 exact aK (aG.trans (by exact aZ) (oH (Wr cap) rfl)) (hK _)
theorem Jb (hK:K (I6 0) R):CT 179 #[.pointer none] R K:=by
 refine aH Tryz.func179 ?_
 repeat' (first|refine v4 ?_|refine w5 ?_ ?_|((refine bh fun h=>?_) <;> try exact w6 h)|(refine aE fun hA=>?_;subst hA)|intro _)
 (refine aC ?_;exact aB (hK))
theorem Al {r cap c:Nat} {A:Option Addr} {fi m:Int} (hK:K (I6 m) (pt r [.slice A cap c,I6 fi,I6 m] 321::R)):CT 179 #[PO r] (pt r [.slice A cap c,I6 fi,I6 m] 321::R) K:=by
 refine aH Tryz.func179 ?_
 repeat' (first|refine v4 ?_|refine w5 ?_ ?_|((refine bh fun h=>?_) <;> try exact w6 h)|(refine aE fun hA=>?_;subst hA)|intro _)
 (refine aC ?_;exact aB (hK))
theorem Acz {r cap c:Nat} {A:Option Addr} {fi m:Int} (hK:K (I6 cap) (pt r [.slice A cap c,I6 fi,I6 m] 321::R)):CT 395 #[PO r] (pt r [.slice A cap c,I6 fi,I6 m] 321::R) K:=by
 refine aH Tryz.func395 ?_
 repeat' (first|refine v4 ?_|refine w5 ?_ ?_|((refine bh fun h=>?_) <;> try exact w6 h)|(refine aE fun hA=>?_;subst hA)|intro _)
 (refine aC ?_;exact aB (hK))
theorem Kt {r cap c:Nat} {A:Option Addr} {fi m:Int} (hm:0≤m∧m≤cap) (hc:cap≤65536) (hK:K (I6 (cap - m)) (pt r [.slice A cap c,I6 fi,I6 m] 321::R)):CT 373 #[PO r] (pt r [.slice A cap c,I6 fi,I6 m] 321::R) K:=by
 refine aH Tryz.func373 ?_
 repeat' (first|refine v8 ?_|refine w5 ?_ ?_|((refine bh fun h=>?_) <;> try exact w6 h)|(refine aE fun hA=>?_;subst hA)|intro _|(show aA _ 395 _ _ _;refine CA (h:=Acz ?_))|(show aA _ 179 _ _ _;refine CA (h:=Al ?_)))
 (refine aC ?_;exact aB (hK))
def nN:List (Nat×Nat):= [(0,0),(1,0),(2,0),(3,0),(4,0),(5,0),(6,0),(7,0),(8,0),(9,0),(10,0),(11,0),(12,0),(13,0),(14,0),(15,1)]
theorem Xu {n:Int} (hK:K (I6 0) R):CT 311 #[.pointer none,I6 n] R K:=by
 refine aH Tryz.func311 ?_
 repeat' (first|refine v67 ?_|refine dw nN ?_|refine w5 ?_ ?_|((refine bh fun h=>?_) <;> try exact w6 h)|(refine aE fun hA=>?_;subst hA)|intro _|(show aA _ 179 _ _ _;refine CA (h:=Jb ?_)))
 all_goals(refine aC ?_;exact aB (ki hK (by omega)))
theorem Xh {cap fi kk:Nat} {buf bs:List UInt8} (h:B8 cap fi buf bs) (hk:kk≤bs.length) (hc:0<cap):B8 cap ((fi+kk) % cap) buf (bs.drop kk):=by
 obtain⟨h1,h2,h3,h4⟩:=h
 refine⟨h1,.inl (Nat.mod_lt _ hc),by rw[List.length_drop];omega,fun i hi=>?_⟩
 rw[List.length_drop] at hi
 rw[List.getElem?_drop,h4 (kk+i) (by omega),Nat.mod_add_mod,Nat.add_assoc]
theorem N4 {r cap:Nat} {bs:List UInt8} {n:Int} {kk:Nat} (hc:cap≤65536) (hk:(kk:Int)=max (min n bs.length) 0) (hK:K (I6 kk) (j1 r cap (bs.drop kk)::R)):CT 311 #[PO r,I6 n] (j1 r cap bs::R) K:=by
 refine xQ fun A c fi buf hI=>?_
 have hI':=hI
 obtain⟨h1,h2,h3,h4⟩:=hI'
 by_cases h0:kk=0
 ·subst h0
  rw[List.drop_zero] at hK
  refine aH Tryz.func311 ?_
  repeat' (first|refine v67 ?_|refine dw nN ?_|refine w5 ?_ ?_|((refine bh fun h=>?_) <;> try exact w6 h)|(refine aE fun hA=>?_;subst hA)|intro _|(show aA _ 179 _ _ _;refine CA (h:=Al ?_)))
  all_goals
   refine aC ?_
   exact aK (aG.trans (by exact aZ) (oH hI rfl)) (ki hK (by omega))
 ·have hcap:0<cap:=by omega
  have hd:=Xh (kk:=kk) hI (by omega) hcap
  refine aH Tryz.func311 ?_
  repeat' (first|refine v67 ?_|refine dw nN ?_|refine w5 ?_ ?_|((refine bh fun h=>?_) <;> try exact w6 h)|(refine aE fun hA=>?_;subst hA)|intro _|(show aA _ 179 _ _ _;refine CA (h:=Al ?_)))
  have e1:((fi:Int)+(kk:Int)) % (cap:Int)=(((fi+kk) % cap:Nat):Int):=by push_cast;rfl
  have e2:((bs.length:Nat):Int) - (kk:Int)=((bs.drop kk).length:Nat):=by rw[List.length_drop];omega
  rw[← hk,e1,e2]
  refine aC ?_
  exact aK (aG.trans (by exact aZ) (oH hd rfl)) hK
theorem HF (hK:K (I6 0) R):CT 386 #[.pointer none] R K:=by
 refine aH Tryz.func386 ?_
 repeat' (first|refine v0 ?_|refine w5 ?_ ?_|((refine bh fun h=>?_) <;> try exact w6 h)|(refine aE fun hA=>?_;subst hA)|intro _|(show aA _ 179 _ _ _;refine CA (h:=Jb ?_))|(show aA _ 311 _ _ _;refine CA (h:=Xu ?_)))
 (refine aC ?_;exact aB (hK))
theorem UB {r cap:Nat} {bs:List UInt8} (hK:K (I6 bs.length) (j1 r cap bs::R)):CT 179 #[PO r] (j1 r cap bs::R) K:=by
 refine xQ fun A c fi buf hI=>?_
 refine aH Tryz.func179 ?_
 repeat' (first|refine v4 ?_|refine w5 ?_ ?_|((refine bh fun h=>?_) <;> try exact w6 h)|(refine aE fun hA=>?_;subst hA)|intro _)
 refine aC ?_
 exact aK (oH hI rfl) hK
theorem KA {r cap:Nat} {bs:List UInt8} (hc:cap≤65536) (hK:K (I6 bs.length) (j1 r cap []::R)):CT 386 #[PO r] (j1 r cap bs::R) K:=by
 have hd:bs.drop bs.length= []:=List.drop_eq_nil_of_le (Nat.le_refl _)
 rw[← hd] at hK
 refine aH Tryz.func386 ?_
 repeat' (first|refine v0 ?_|refine w5 ?_ ?_|((refine bh fun h=>?_) <;> try exact w6 h)|(refine aE fun hA=>?_;subst hA)|intro _|(show aA _ 179 _ _ _;refine CA (h:=UB ?_))|(show aA _ 311 _ _ _;refine CA (h:=N4 (kk:=bs.length) hc (by omega) ?_)))
 (refine aC ?_;exact aB (hK))
end Go.Proofs.YtifgibijcmppmaaGreat
end
section
namespace Go.Proofs.YtifgibijcmppmaaGreat
open Go Go.Proofs Go.Sl
attribute [local irreducible] aN fN cX bP aM aX aA dS dV aT dU pt ro eV star sep bH
variable {R C:List HP} {K:KP}
theorem EW {q:Nat} {cap st ac tk dr:Int} {s:ByteArray} {l:List ByteArray} (hn:l.length≤1000) (ha:0≤ac∧ac≤1000000000) (h:(l.length:Int)<cap) (hK:K (I6 1) (wH q cap st (l++ [s]) (ac+1) tk dr::R)):CT 321 #[PO q,.string s] (wH q cap st l ac tk dr::R) K:=by
 refine aH Tryz.func321 ?_
 repeat' (first|refine Q5 ?_|refine w5 ?_ ?_|((refine bh fun h=>?_) <;> try exact w6 h)|(refine aE fun hA=>?_;subst hA)|intro _|(show aA _ 375 _ _ _;refine CA (h:=WO ?_))|(show aA _ 374 _ _ _;refine CA (h:=Ks hn ha ?_)))
 all_goals(refine aC ?_;exact aB (hK))
def B5:List (Nat×Nat):= [(0,0),(1,0),(2,0),(3,0),(4,0),(5,0),(6,0),(7,0),(8,0),(9,0),(10,0),(11,0),(12,0),(13,0),(14,0)]
theorem CK {q n c:Nat} {A:Option Addr} {cap st ac tk dr:Int} (hK:K (.bool (decide (cap≤n))) (pt q [I6 cap,I6 st,.slice A n c,I6 ac,I6 tk,I6 dr] 324::R)):CT 375 #[PO q] (pt q [I6 cap,I6 st,.slice A n c,I6 ac,I6 tk,I6 dr] 324::R) K:=by
 refine aH Tryz.func375 ?_
 repeat' (first|refine v16 ?_|refine dw B5 ?_|refine w5 ?_ ?_|((refine bh fun h=>?_) <;> try exact w6 h)|(refine aE fun hA=>?_;subst hA)|intro _)
 all_goals(refine aC ?_;exact aB (kb hK (by simp <;> omega)))
theorem Wy {q:Nat} {cap st ac tk dr:Int} {s:ByteArray} {l:List ByteArray} (h:cap≤l.length) (h2:st=0) (hK:K (I6 0) (wH q cap st l ac tk dr::R)):CT 321 #[PO q,.string s] (wH q cap st l ac tk dr::R) K:=by
 refine tB fun A c hc=>?_
 refine aH Tryz.func321 ?_
 repeat' (first|refine Q5 ?_|refine w5 ?_ ?_|((refine bh fun h=>?_) <;> try exact w6 h)|(refine aE fun hA=>?_;subst hA)|intro _|(show aA _ 375 _ _ _;refine CA (h:=CK ?_)))
 refine aC ?_
 exact aK (aG.trans (by exact aZ) (tA rfl)) hK
theorem VY {q:Nat} {cap st ac tk dr:Int} {s:ByteArray} {l:List ByteArray} (ha:0≤ac∧ac≤1000000000) (hd:0≤dr∧dr≤1000000000) (h:cap≤l.length) (h2:st≠0) (h3:st=1∨cap=0) (hK:K (I6 2) (wH q cap st l (ac+1) tk (dr+1)::R)):CT 321 #[PO q,.string s] (wH q cap st l ac tk dr::R) K:=by
 refine tB fun A c hc=>?_
 refine aH Tryz.func321 ?_
 repeat' (first|refine Q5 ?_|refine w5 ?_ ?_|((refine bh fun h=>?_) <;> try exact w6 h)|(refine aE fun hA=>?_;subst hA)|intro _|(show aA _ 375 _ _ _;refine CA (h:=CK ?_)))
 all_goals
  refine aC ?_
  exact aK (aG.trans (by exact aZ) (tA rfl)) hK
end Go.Proofs.YtifgibijcmppmaaGreat
namespace Go.Proofs.YtifgibijcmppmaaGreat
open Go Go.Proofs Go.Sl
attribute [local irreducible] aN fN cX bP aM aX aA dS dV aT dU pt ro eV star sep bH
variable {R C:List HP} {K:KP}
theorem Oq {q c:Nat} {A:Option Addr} {cap st ac tk dr:Int} {s:ByteArray} {l:List ByteArray} {n:Nat} (hm:n=(s::l).length) (hc:n≤c) (hn:l.length≤1000) (hK:∀A' c',K (.string s) (pt q [I6 cap,I6 st,.slice A' l.length c',I6 ac,I6 tk,I6 dr] 324::bQ A' c' 9 sxC l::R)):CT 317 #[PO q] (pt q [I6 cap,I6 st,.slice A n c,I6 ac,I6 tk,I6 dr] 324::bQ A c 9 sxC (s::l)::R) K:=by
 subst hm
 have hl:(s::l).length=l.length+1:=rfl
 have h0:(s::l)[(0:Int).toNat]?=some s:=rfl
 have hlen:(List.take ((((s::l).length:Nat):Int).toNat - (1:Int).toNat) (List.drop (1:Int).toNat (s::l))).length=(((s::l).length:Nat):Int).toNat - (1:Int).toNat:=by simp
 have hbg:(2 * (0+(List.take ((((s::l).length:Nat):Int).toNat - (1:Int).toNat) (List.drop (1:Int).toNat (s::l))).length)+512) * 16≤281474976710656:=by simp;omega
 have heq:List.take ((((s::l).length:Nat):Int).toNat - (1:Int).toNat) (List.drop (1:Int).toNat (s::l))=l:=by simp
 refine aH Tryz.func317 ?_
 repeat' (first|refine v40 ?_|refine w5 ?_ ?_|((refine bh fun h=>?_) <;> try exact w6 h)|(refine aE fun hA=>?_;subst hA)|intro _|(show aN _ _ _ _ _ _ _;refine dH (hbig:=hbg) ?_;intro _ _))
 refine aC ?_
 simp only[heq]
 exact aB (hK _ _)
theorem Ws {q:Nat} {cap st ac tk dr:Int} {s s0:ByteArray} {l:List ByteArray} (hn:l.length≤1000) (ha:0≤ac∧ac≤1000000000) (hd:0≤dr∧dr≤1000000000) (h:cap≤(s0::l).length) (h2:st≠0) (h3:st≠1) (h4:cap≠0) (hK:K (I6 3) (wH q cap st (l++ [s]) (ac+1) tk (dr+1)::R)):CT 321 #[PO q,.string s] (wH q cap st (s0::l) ac tk dr::R) K:=by
 refine tB fun A c hc=>?_
 refine aH Tryz.func321 ?_
 repeat' (first|refine Q5 ?_|refine w5 ?_ ?_|((refine bh fun h=>?_) <;> try exact w6 h)|(refine aE fun hA=>?_;subst hA)|intro _|(show aA _ 375 _ _ _;refine CA (h:=CK ?_))|(show aA _ 317 _ _ _;refine CA (h:=Oq rfl hc hn (fun A2 c2=>?_)))|(show aA _ 374 _ _ _;refine CA (h:=Ks hn ha ?_)))
 all_goals(refine aC ?_;exact aB (hK))
end Go.Proofs.YtifgibijcmppmaaGreat
end
namespace Go.Proofs.YtifgibijcmppmaaGreat
open Go Go.Proofs Go.Sl
attribute [local irreducible] aN fN cX bP aM aX aA dS dV aT dU pt ro eV star sep bH
section
variable {R C:List HP} {K:KP}
theorem Amd (s:ByteArray):s.data.toList.length=s.size:=by simp
theorem TK {r cap fi:Nat} {m:Int} {bs buf:List UInt8} {A:Option Addr} {c:Nat} (h:B8 cap fi buf bs) (hm:m=(bs.length:Nat)):aG (pt r [.slice A cap c,I6 fi,I6 m] 321::bQ A c 5 dL buf::R) (j1 r cap bs::R):=by
 subst hm
 exact oH h rfl
theorem Akk {x cap:Nat} (h:x<2 * cap):x % cap=if x<cap then x else x - cap:=by
 split
 ·exact Nat.mod_eq_of_lt (by assumption)
 ·rw[Nat.mod_eq_sub_mod (by omega),Nat.mod_eq_of_lt (by omega)]
theorem RR {cap fi at_ k:Nat} {buf bs w x1 x2:List UInt8} (h:B8 cap fi buf bs) (hc:0<cap) (hw:bs.length+w.length≤cap) (ha:at_=(fi+bs.length) % cap) (hk:k=min w.length (cap - at_))
  (h1:x1=buf.take at_++(w.take k++buf.drop (at_+k))) (h2:x2=w.drop k++x1.drop (w.length - k)):B8 cap fi x2 (bs++w):=by
 obtain⟨b1,b2,b3,b4⟩:=h
 have hat:at_<cap:=by rw[ha];exact Nat.mod_lt _ hc
 have hk1:k≤w.length:=by omega
 have hk2:at_+k≤cap:=by omega
 have hfi:fi<cap:=by omega
 rw[Akk (by omega)] at ha
 have l1:x1.length=cap:=by
  subst h1
  simp only[List.length_append,List.length_take,List.length_drop]
  omega
 have l2:x2.length=cap:=by
  subst h2
  simp only[List.length_append,List.length_drop,l1]
  omega
 have g1:∀j,j<cap→x1[j]?=if j<at_ then buf[j]? else if j<at_+k then w[j - at_]? else buf[j]?:=by
  intro j hj
  subst h1
  have t1:(buf.take at_).length=at_:=by rw[List.length_take];omega
  have t2:(w.take k).length=k:=by rw[List.length_take];omega
  rw[List.getElem?_append,t1]
  split
  ·rw[List.getElem?_take];simp_all
  ·rw[List.getElem?_append,t2]
   split
   ·rw[if_pos (by omega),List.getElem?_take,if_pos (by omega)]
   ·rw[if_neg (by omega),List.getElem?_drop];congr 1;omega
 have g2:∀j,j<cap→x2[j]?=if j<w.length - k then w[k+j]? else x1[j]?:=by
  intro j hj
  subst h2
  rw[List.getElem?_append,List.length_drop]
  split
  ·rw[List.getElem?_drop]
  ·rw[List.getElem?_drop];congr 1;omega
 refine⟨l2,.inl hfi,by rw[List.length_append];omega,fun i hi=>?_⟩
 rw[List.length_append] at hi
 have hp:(fi+i) % cap<cap:=Nat.mod_lt _ hc
 have hm:=Akk (x:=fi+i) (cap:=cap) (by omega)
 rw[g2 _ hp,g1 _ hp,List.getElem?_append]
 by_cases c1:i<bs.length
 ·rw[if_pos c1,b4 i c1]
  have e1:¬((fi+i) % cap<w.length - k):=by
   rw[hm];split at ha <;> split <;> omega
  rw[if_neg e1]
  by_cases e2:(fi+i) % cap<at_
  ·rw[if_pos e2]
  ·rw[if_neg e2,if_neg]
   rw[hm] at e2 ⊢
   split at ha <;> split at e2 <;> (try split) <;> omega
 ·rw[if_neg c1]
  by_cases c2:i - bs.length<k
  ·have e0:(fi+i) % cap=at_+(i - bs.length):=by
    rw[hm];split at ha <;> split <;> omega
   rw[if_neg (by rw[e0];omega),if_neg (by rw[e0];omega),if_pos (by rw[e0];omega),e0]
   congr 1;omega
  ·have e0:(fi+i) % cap+k=i - bs.length:=by
    rw[hm];split at ha <;> split <;> omega
   rw[if_pos (by omega)]
   congr 1;omega
def sZ:List (Nat×Nat):= [(0,0),(1,0),(2,0),(3,0),(4,0),(5,0),(6,0),(7,0),(8,0),(9,0),(10,0),(11,0),(12,0),(13,0),(14,0),(15,0)]
def sU:List (Nat×Nat):= [(0,0),(1,0),(2,0),(3,0),(4,0),(5,0),(6,0),(7,0),(8,0),(9,1),(10,0)]
def sW:List (Nat×Nat):= [(0,0),(1,0),(2,0),(3,0),(4,0),(5,0),(6,0),(7,0),(8,1)]
theorem GY {r cap:Nat} {bs:List UInt8} {s:ByteArray} (hc:cap≤65536) (hz:s.size=0∨cap≤bs.length) (hK:K (I6 0) (j1 r cap bs::R)):CT 320 #[PO r,.string s] (j1 r cap bs::R) K:=by
 refine xQ fun A c fi buf hI=>?_
 have hI':=hI
 obtain⟨h1,h2,h3,h4⟩:=hI'
 refine aH Tryz.func320 ?_
 repeat' (first|refine v85 ?_|refine dw sZ ?_|refine dw sU ?_|refine dw sW ?_|refine w5 ?_ ?_|((refine bh fun h=>?_) <;> try exact w6 h)|(refine aE fun hA=>?_;subst hA)|intro _|(show aA _ 373 _ _ _;refine CA (h:=Kt (by omega) hc ?_)))
 all_goals
  refine aC ?_
  exact aK (aG.trans (by exact aZ) (oH hI rfl)) (ki hK (by omega))
theorem KU {r cap n:Nat} {bs:List UInt8} {s:ByteArray} (hc:cap≤65536) (hn:(n:Int)=min (s.size:Int) ((cap:Int) - (bs.length:Int))) (h0:0<n) (hK:K (I6 n) (j1 r cap (bs++s.data.toList.take n)::R)):CT 320 #[PO r,.string s] (j1 r cap bs::R) K:=by
 refine xQ fun A c fi buf hI=>?_
 have hI':=hI
 obtain⟨h1,h2,h3,h4⟩:=hI'
 refine iK (aV.there aV.here) fun hbc=>?_
 refine pS (aV.there aV.here) (by omega) fun B off hA=>?_
 subst hA
 have hsl:s.data.toList.length=s.size:=by simp
 have hes:(s.extract 0 ((n:Int)).toNat).size=n:=by simp;omega
 have hat:(fi+bs.length) % cap<cap:=Nat.mod_lt _ (by omega)
 have e1:((fi:Int)+(bs.length:Int)) % (cap:Int)=(((fi+bs.length) % cap:Nat):Int):=by push_cast;rfl
 have hwr:=fun x1 x2 k=>RR (w:=s.data.toList.take n) (x1:=x1) (x2:=x2) (at_:=(fi+bs.length) % cap) (k:=k) hI (by omega) (by rw[List.length_take,hsl];omega) rfl
 generalize hag:(fi+bs.length) % cap=at_ at *
 refine aH Tryz.func320 ?_
 repeat' (first|(show aN _ _ _ _ _ _ _;rw[← hn])|(show aN _ _ _ _ _ _ _;rw[e1])|(show aN _ _ _ _ _ _ _;refine mZ ?_;intro A' hA';obtain rfl:=Ai4 (j:=at_) hA' (by omega) (by omega))|refine v85 ?_|refine dw sZ ?_|refine dw sU ?_|refine dw sW ?_|refine w5 ?_ ?_|((refine bh fun h=>?_) <;> try exact w6 h)|(refine aE fun hA=>?_;subst hA)|intro _|(show aA _ 373 _ _ _;refine CA (h:=Kt (by omega) hc ?_))|(show aN _ _ _ _ _ _ _;refine Ud (j:=at_) (hj:=by omega) ?_)|(show aN _ _ _ _ _ _ _;refine Ud (j:=0) (hj:=by simp only[List.length_append,List.length_take,List.length_drop,Amd];omega) ?_))
 have exl:∀i j,(s.extract i j).data.toList=(s.data.toList.drop i).take (j - i):=fun i j=>by simp
 have hkn:min n (cap - at_)≤n:=by omega
 have exs:(s.extract (min n (cap - at_)) n).size=n - min n (cap - at_):=by simp;omega
 simp only[Int.toNat_natCast] at hes ⊢
 simp only[hes,exs,exl]
 have hln:(s.data.toList.take n).length=n:=by rw[List.length_take,hsl];omega
 rw[hln] at hwr
 generalize hkk:min n (cap - at_)=kk at *
 refine aC ?_
 refine aK (C':=j1 r cap (bs++List.take n s.data.toList)::R) ?_ hK
 refine TK (hwr _ _ kk rfl rfl ?_) ?_
 ·rw[show min (n - kk) cap=n - kk by omega,List.drop_take]
  simp[List.take_take]
 ·rw[List.length_append,hln];push_cast;rfl
end
section
variable {R C:List HP} {K:KP}
theorem Acr {r r2 cap c:Nat} {A:Option Addr} {fi m fr to:Int} {buf:List UInt8} (h:0≤fr∧fr≤to∧to≤cap) (hc:cap≤c) (hb:buf.length=cap)
  (hK:∀A',(∀C',dT C' A dL buf→dT C' A' dL ((buf.drop fr.toNat).take (to.toNat - fr.toNat)))→((buf.drop fr.toNat).take (to.toNat - fr.toNat)).length=to.toNat - fr.toNat→K (.slice A' (to.toNat - fr.toNat) (to.toNat - fr.toNat)) (pt r2 [PO r] 259::pt r [.slice A cap c,I6 fi,I6 m] 321::R)):
  CT 369 #[I6 fr,I6 to,PO r2] (pt r2 [PO r] 259::pt r [.slice A cap c,I6 fi,I6 m] 321::R) K:=by
 refine aH Tryz.func369 ?_
 repeat' (first|(show aN _ _ _ _ _ _ _;refine mZ ?_;intro A' hA')|refine v40 ?_|refine w5 ?_ ?_|((refine bh fun h=>?_) <;> try exact w6 h)|(refine aE fun hA=>?_;subst hA)|intro _)
 refine aC ?_
 refine aB (hK A' (fun C' hv=>Fo hv hA' (by omega) (.inr (by omega))) ?_)
 rw[List.length_take,List.length_drop]
 omega
theorem Xt {cap fi kk:Nat} {buf bs p1 p2:List UInt8} {e:Nat} (h:B8 cap fi buf bs) (hk:kk≤bs.length) (h0:0<kk) (he:e=min (fi+kk) cap) (h1:p1=(buf.drop fi).take (e - fi)) (h2:p2=buf.take (kk - (e - fi))):p1++p2=bs.take kk:=by
 obtain⟨b1,b2,b3,b4⟩:=h
 have hfi:fi<cap:=by omega
 have l1:p1.length=e - fi:=by subst h1;rw[List.length_take,List.length_drop];omega
 have l2:p2.length=kk - (e - fi):=by subst h2;rw[List.length_take];omega
 apply List.ext_getElem?
 intro i
 rw[List.getElem?_append,l1,List.getElem?_take]
 by_cases c:i<kk
 ·rw[if_pos c,b4 i (by omega),Akk (by omega)]
  split
  ·subst h1
   rw[List.getElem?_take,if_pos (by assumption),List.getElem?_drop,if_pos (by omega)]
  ·subst h2
   rw[List.getElem?_take,if_pos (by omega),if_neg (by omega)]
   congr 1;omega
 ·rw[if_neg c,if_neg (by omega)]
  exact List.getElem?_eq_none (by omega)
def vC:List (Nat×Nat):= [(0,0),(1,0),(2,0),(3,0),(4,0),(5,0),(6,0),(7,0),(8,0),(9,0),(10,0),(11,0),(12,0)]
theorem Ady {r cap kk:Nat} {bs:List UInt8} {n:Int} (hc:cap≤65536) (hk:(kk:Int)=max (min n bs.length) 0) (hK:K (.string ⟨(bs.take kk).toArray⟩) (j1 r cap bs::R)):CT 310 #[PO r,I6 n] (j1 r cap bs::R) K:=by
 refine xQ fun A c fi buf hI=>?_
 have hI':=hI
 obtain⟨h1,h2,h3,h4⟩:=hI'
 refine iK (aV.there aV.here) fun hbc=>?_
 by_cases h0:kk=0
 ·subst h0
  rw[List.take_zero] at hK
  refine aH Tryz.func310 ?_
  repeat' (first|refine v99 ?_|refine dw vC ?_|refine w5 ?_ ?_|((refine bh fun h=>?_) <;> try exact w6 h)|(refine aE fun hA=>?_;subst hA)|intro _|(show aA _ 179 _ _ _;refine CA (h:=Al ?_)))
  refine aC ?_
  exact aK (aG.trans (by exact aZ) (oH hI rfl)) hK
 ·refine aH Tryz.func310 ?_
  repeat' (first|refine v99 ?_|refine dw vC ?_|refine w5 ?_ ?_|((refine bh fun h=>?_) <;> try exact w6 h)|(refine aE fun hA=>?_;subst hA)|intro _|(show aA _ 179 _ _ _;refine CA (h:=Al ?_))|(show aA _ 369 _ _ _;refine CA (h:=Acr (buf:=buf) ⟨by omega,by omega,by omega⟩ (by omega) h1 (fun A1 hv hl=>?_)))|(show aN _ _ _ _ _ _ _;refine dH (hsrc:=rD (hv _ (by exact kF)) hl) ?_;intro _ _)|(show aN _ _ _ _ _ _ _;refine cU (hsrc:=rD (hv _ (by exact kF)) hl) ?_;intro _ _))
  refine aC ?_
  refine aK (aG.trans (by exact aZ) (oH hI rfl)) (kv hK ?_)
  congr 3
  symm
  refine Xt (e:=min (fi+kk) cap) hI (by omega) (by omega) rfl ?_ ?_
  ·congr 1 <;> (try congr 1) <;> omega
  ·simp
   congr 1
   omega
theorem EM {r cap kk:Nat} {bs:List UInt8} {n:Int} (hc:cap≤65536) (hk:(kk:Int)=max (min n bs.length) 0) (hK:K (.string ⟨(bs.take kk).toArray⟩) (j1 r cap (bs.drop kk)::R)):CT 220 #[PO r,I6 n] (j1 r cap bs::R) K:=by
 have hs:(ByteArray.mk (bs.take kk).toArray).size=kk:=by simp[vR];omega
 refine aH Tryz.func220 ?_
 repeat' (first|refine v0 ?_|refine w5 ?_ ?_|((refine bh fun h=>?_) <;> try exact w6 h)|(refine aE fun hA=>?_;subst hA)|intro _|(show aA _ 310 _ _ _;refine CA (h:=Ady hc hk ?_))|(show aA _ 311 _ _ _;refine CA (h:=N4 (kk:=kk) hc (by rw[hs];omega) ?_)))
 (refine aC ?_;exact aB (hK))
end
end Go.Proofs.YtifgibijcmppmaaGreat
