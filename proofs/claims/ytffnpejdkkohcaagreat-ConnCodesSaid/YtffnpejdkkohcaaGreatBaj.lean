/- A part of the proof: lemmas; each with the conditions that it states. -/
import Derived.Test.YtffnpejdkkohcaaGreatBag
set_option linter.unusedVariables false
set_option linter.unusedSimpArgs false
set_option maxRecDepth 100000
set_option maxHeartbeats 40000000
section
namespace Go.Proofs.YtffnpejdkkohcaaGreat
open Go Go.Proofs Go.Sl
attribute [local irreducible] aM eY cU bQ aL aW aA dS dT aZ dR pt ro fN star sep bH
variable {R C:List HP} {K:KP} {q:Nat} {cap st ac tk dr:Int} {l:List ByteArray}
def sxD:List Value->Option ByteArray
 | [.string s]=>some s
 |_=>none
theorem Ajl (cs:List Value) (y:ByteArray) (h:sxD cs=some y): [.string y]=cs:=by
 unfold sxD at h
 split at h
 ·cases h;rfl
 ·cases h
def sxC:tP ByteArray:= { enc:=fun s=> [.string s],sz:=1,dec:=sxD,len:=fun _=>rfl,one:=fun _=>rfl,ok:=Ajl }
def wC (q:Nat) (cap st:Int) (l:List ByteArray) (ac tk dr:Int):HP:=fN fun A=>fN fun c=>sep (pt q [I6 cap,I6 st,.slice A l.length c,I6 ac,I6 tk,I6 dr] 265) (bU A c 9 sxC l)
theorem tJ {n:Nat} {A:Option Addr} {c:Nat} (h:l.length=n):aG (pt q [I6 cap,I6 st,.slice A n c,I6 ac,I6 tk,I6 dr] 265::bU A c 9 sxC l::R) (wC q cap st l ac tk dr::R):=by
 subst h
 exact aG.ex A (aG.ex c (aG.sep (aG.refl _)))
theorem tB {f:FuncId} {args:Array Value} (h:∀A c,l.length<=c->CT f args (pt q [I6 cap,I6 st,.slice A l.length c,I6 ac,I6 tk,I6 dr] 265::bU A c 9 sxC l::R) K):CT f args (wC q cap st l ac tk dr::R) K:=
 aA.ex fun A=>aA.ex fun c=>aA.sep (iJ (aS.there aS.here) (h A c))
theorem PU (h:0<=cap/\cap<=64) (h2:0<=st/\st<=2) (hK:∀q,K (.tuple #[PO q,I6 0]) (wC q cap st [] 0 0 0::R)):CT 257 #[I6 cap,I6 st] R K:=by
 refine aJ Tryz.func257 ?_
 repeat' (first|refine v6 ?_|refine w5 ?_ ?_|((refine bh fun h=>?_) <;> try exact w6 h)|(refine aF fun hA=>?_;subst hA)|intro _)
 refine aC ?_
 exact aQ (aG.trans (aG.pick aS.here (aG.nilrow' (aG.refl _))) (tJ (A:=none) (c:=0) (l:= []) rfl)) (hK _)
theorem KU (hK:K (I6 0) R):CT 131 #[.pointer none] R K:=by
 refine aJ Tryz.func131 ?_
 repeat' (first|refine v4 ?_|refine w5 ?_ ?_|((refine bh fun h=>?_) <;> try exact w6 h)|(refine aF fun hA=>?_;subst hA)|intro _)
 (refine aC ?_;exact aB (hK))
theorem HD (hK:K (I6 l.length) (wC q cap st l ac tk dr::R)):CT 131 #[PO q] (wC q cap st l ac tk dr::R) K:=by
 refine tB fun A c hc=>?_
 refine aJ Tryz.func131 ?_
 repeat' (first|refine v4 ?_|refine w5 ?_ ?_|((refine bh fun h=>?_) <;> try exact w6 h)|(refine aF fun hA=>?_;subst hA)|intro _)
 refine aC ?_
 exact aQ (tJ rfl) hK
def Cy:List (Nat×Nat):= [(0,0),(1,0),(2,0),(3,0),(4,0),(5,0),(6,0),(7,0),(8,0),(9,0),(10,0),(11,0),(12,0),(13,0),(14,0)]
theorem Xn (hK:K (.bool (decide (cap<=l.length))) (wC q cap st l ac tk dr::R)):CT 305 #[PO q] (wC q cap st l ac tk dr::R) K:=by
 refine tB fun A c hc=>?_
 refine aJ Tryz.func305 ?_
 repeat' (first|refine v16 ?_|refine dw Cy ?_|refine w5 ?_ ?_|((refine bh fun h=>?_) <;> try exact w6 h)|(refine aF fun hA=>?_;subst hA)|intro _)
 all_goals
  refine aC ?_
  exact aQ (tJ rfl) (kb hK (by simp <;> omega))
theorem RE {s:ByteArray} (hn:l.length<=1000) (hK:K (.string s) (wC q cap st l ac tk dr::R)):CT 306 #[PO q] (wC q cap st (s::l) ac tk dr::R) K:=by
 refine tB fun A c hc=>?_
 have hl:(s::l).length=l.length+1:=rfl
 have h0:(s::l)[(0:Int).toNat]?=some s:=rfl
 have hlen:(List.take ((((s::l).length:Nat):Int).toNat - (1:Int).toNat) (List.drop (1:Int).toNat (s::l))).length=(((s::l).length:Nat):Int).toNat - (1:Int).toNat:=by simp
 have hbg:(2 * (0+(List.take ((((s::l).length:Nat):Int).toNat - (1:Int).toNat) (List.drop (1:Int).toNat (s::l))).length)+512) * 16<=281474976710656:=by simp;omega
 have heq:List.take ((((s::l).length:Nat):Int).toNat - (1:Int).toNat) (List.drop (1:Int).toNat (s::l))=l:=by simp
 refine aJ Tryz.func306 ?_
 repeat' (first|refine v40 ?_|refine w5 ?_ ?_|((refine bh fun h=>?_) <;> try exact w6 h)|(refine aF fun hA=>?_;subst hA)|intro _|(show aM _ _ _ _ _ _ _;refine dG (hbig:=hbg) ?_;intro _ _))
 refine aC ?_
 simp only[heq]
 exact aQ (aG.trans (by exact bE) (tJ (l:=l) rfl)) hK
end Go.Proofs.YtffnpejdkkohcaaGreat
namespace Go.Proofs.YtffnpejdkkohcaaGreat
open Go Go.Proofs Go.Sl
attribute [local irreducible] aM eY cU bQ aL aW aA dS dT aZ dR pt ro fN star sep bH
variable {R C:List HP} {K:KP} {q:Nat} {cap st ac tk dr:Int} {s:ByteArray} {l:List ByteArray}
def CM:List Nat:= [0,0,2,6,14,0,32,96,224,480,0,1024,3072,7168,15360,32766,0,65536,262142,524287,1048575,2097151]
def Cg:List Nat:= [2097151,1048575,524287,262142,65536,0,32766,15360,7168,3072,1024,0,480,224,96,32,0,14,6,2,0,0]
def Cw:List (Nat×Nat):= [(16,0),(17,1),(1,1),(2,1),(3,1),(4,1),(5,1),(6,1),(7,1),(8,1),(9,1),(10,1),(11,1),(12,1),(13,1),(14,1),(15,1),(18,1),(0,2),(19,0),(20,0),(21,1)]
theorem JI {v:Int} {r2 r3:Nat} (hn:l.length<=1000) (ha:0<=ac/\ac<=1000000000) (hK:K (I6 v) (pt r2 [PO q] 208::pt r3 [.string s] 9::wC q cap st (l++ [s]) (ac+1) tk dr::R)):CT 304 #[I6 v,PO r2,PO r3] (pt r2 [PO q] 208::pt r3 [.string s] 9::wC q cap st l ac tk dr::R) K:=by
 refine aA.ent (C':=wC q cap st l ac tk dr::pt r2 [PO q] 208::pt r3 [.string s] 9::R) (by exact bE) ?_
 refine tB fun A c hc=>?_
 refine aJ Tryz.func304 ?_
 repeat' (first|(show aM _ _ _ _ _ _ _;refine iF ?_;intro A';simp only[Int.toNat_natCast,Int.toNat_zero,Nat.sub_zero,List.drop_zero,List.take_length])|refine Qj ?_|refine ON CM Cg Cw ?_|refine w5 ?_ ?_|((refine bh fun h=>?_) <;> try exact w6 h)|(refine aF fun hA=>?_;subst hA)|intro _)
 all_goals
  refine aC ?_
  exact aQ (aG.trans (by exact bE) (aG.cons (aG.cons (tJ (l:=l++ [s]) rfl)))) hK
theorem R1 (hK:K (.tuple #[.string ⟨#[]⟩,.bool false]) (wC q cap st [] ac tk dr::R)):CT 294 #[PO q] (wC q cap st [] ac tk dr::R) K:=by
 refine aJ Tryz.func294 ?_
 repeat' (first|refine Hf ?_|refine w5 ?_ ?_|((refine bh fun h=>?_) <;> try exact w6 h)|(refine aF fun hA=>?_;subst hA)|intro _|(show aA _ 131 _ _ _;refine CA (h:=HD ?_)))
 (refine aC ?_;exact aB (hK))
theorem Ke {n c:Nat} {A:Option Addr} (hK:K (I6 n) (pt q [I6 cap,I6 st,.slice A n c,I6 ac,I6 tk,I6 dr] 265::R)):CT 131 #[PO q] (pt q [I6 cap,I6 st,.slice A n c,I6 ac,I6 tk,I6 dr] 265::R) K:=by
 refine aJ Tryz.func131 ?_
 repeat' (first|refine v4 ?_|refine w5 ?_ ?_|((refine bh fun h=>?_) <;> try exact w6 h)|(refine aF fun hA=>?_;subst hA)|intro _)
 (refine aC ?_;exact aB (hK))
theorem Vs (hn:l.length<=1000) (ht:0<=tk/\tk<=1000000000) (hK:K (.tuple #[.string s,.bool true]) (wC q cap st l ac (tk+1) dr::R)):CT 294 #[PO q] (wC q cap st (s::l) ac tk dr::R) K:=by
 refine tB fun A c hc=>?_
 have hl:(s::l).length=l.length+1:=rfl
 refine aJ Tryz.func294 ?_
 repeat' (first|refine Hf ?_|refine w5 ?_ ?_|((refine bh fun h=>?_) <;> try exact w6 h)|(refine aF fun hA=>?_;subst hA)|intro _|(show aA _ 131 _ _ _;refine CA (h:=Ke ?_))|(show aA _ 306 _ _ _;refine CA (h:=RE hn ?_)))
 (refine aC ?_;exact aB (hK))
theorem FK (hK:K (I6 0) R):CT 322 #[.pointer none] R K:=by
 refine aJ Tryz.func322 ?_
 repeat' (first|refine Hf ?_|refine w5 ?_ ?_|((refine bh fun h=>?_) <;> try exact w6 h)|(refine aF fun hA=>?_;subst hA)|intro _|(show aA _ 131 _ _ _;refine CA (h:=KU ?_)))
 (refine aC ?_;exact aB (hK))
theorem Ic (hn:l.length<=1000) (hd:0<=dr/\dr<=1000000000) (hK:K (I6 l.length) (wC q cap st [] ac tk (dr+l.length)::R)):CT 322 #[PO q] (wC q cap st l ac tk dr::R) K:=by
 refine tB fun A c hc=>?_
 refine aJ Tryz.func322 ?_
 repeat' (first|refine Hf ?_|refine w5 ?_ ?_|((refine bh fun h=>?_) <;> try exact w6 h)|(refine aF fun hA=>?_;subst hA)|intro _|(show aA _ 131 _ _ _;refine CA (h:=Ke ?_)))
 ·refine aC ?_
  exact aQ (aG.trans (aG.pick aS.here (aG.drop (aG.nilrow' (aG.refl _)))) (tJ (A:=none) (c:=0) (l:= []) rfl)) hK
 ·obtain rfl:l= []:=List.length_eq_zero_iff.1 (by omega)
  rw[show dr+(([]:List ByteArray).length:Nat)=dr by simp] at hK
  refine aC ?_
  exact aQ (tJ rfl) hK
end Go.Proofs.YtffnpejdkkohcaaGreat
namespace Go.Proofs.YtffnpejdkkohcaaGreat
open Go Go.Proofs Go.Sl
attribute [local irreducible] aM eY cU bQ aL aW aA dS dT aZ dR pt ro fN star sep bH
variable {R C:List HP} {K:KP} {l n m:Int} {d:Nat}
def pB (d:Nat) (m l:Int):HP:=pt d [I6 m,I6 l] 323
theorem TC (h:1<=l/\l<=2147483647) (hK:∀d,K (.tuple #[PO d,I6 0]) (pB d 0 l::R)):CT 258 #[I6 l] R K:=by
 refine aJ Tryz.func258 ?_
 repeat' (first|refine v6 ?_|refine w5 ?_ ?_|((refine bh fun h=>?_) <;> try exact w6 h)|(refine aF fun hA=>?_;subst hA)|intro _)
 all_goals(refine aC ?_;exact aB (hK _))
def uY:List (Nat×Nat):= [(0,0),(1,0),(2,0),(3,0),(4,0),(5,0),(6,0),(7,0),(8,0),(9,0),(10,0),(11,0)]
theorem Ab4 {p:Option Addr} (hp:p≠none) (h:n<1) (hK:K (.tuple #[I6 0,I6 2]) R):CT 324 #[.pointer p,I6 n] R K:=by
 obtain⟨q,rfl⟩:∃q,p=some q:=Option.ne_none_iff_exists'.1 hp
 refine aJ Tryz.func324 ?_
 repeat' (first|refine v66 ?_|refine dw uY ?_|refine w5 ?_ ?_|((refine bh fun h=>?_) <;> try exact w6 h)|(refine aF fun hA=>?_;subst hA)|intro _)
 all_goals(refine aC ?_;exact aB (hK))
theorem Ad6 (h:1<=n) (hm:0<=m/\m<=l) (hl:l<=2147483647) (hK:K (.tuple #[I6 (min n (l - m)),I6 0]) (pB d (m+min n (l - m)) l::R)):CT 324 #[PO d,I6 n] (pB d m l::R) K:=by
 unfold pB at *
 refine aJ Tryz.func324 ?_
 repeat' (first|refine v66 ?_|refine dw uY ?_|refine w5 ?_ ?_|((refine bh fun h=>?_) <;> try exact w6 h)|(refine aF fun hA=>?_;subst hA)|intro _)
 all_goals(refine aC ?_;exact aB (hK))
theorem PM (h:0<=n/\n<=m) (hm:m<=l) (hl:l<=2147483647) (hK:K (I6 0) (pB d (m - n) l::R)):CT 219 #[PO d,I6 n] (pB d m l::R) K:=by
 unfold pB at *
 refine aJ Tryz.func219 ?_
 repeat' (first|refine v33 ?_|refine w5 ?_ ?_|((refine bh fun h=>?_) <;> try exact w6 h)|(refine aF fun hA=>?_;subst hA)|intro _)
 all_goals(refine aC ?_;exact aB (hK))
theorem Ou (hK:K (I6 m) (pB d m l::R)):CT 289 #[PO d] (pB d m l::R) K:=by
 unfold pB at *
 refine aJ Tryz.func289 ?_
 repeat' (first|refine v4 ?_|refine w5 ?_ ?_|((refine bh fun h=>?_) <;> try exact w6 h)|(refine aF fun hA=>?_;subst hA)|intro _)
 (refine aC ?_;exact aB (hK))
end Go.Proofs.YtffnpejdkkohcaaGreat
namespace Go.Proofs.YtffnpejdkkohcaaGreat
open Go Go.Proofs Go.Sl
attribute [local irreducible] aM eY cU bQ aL aW aA dS dT aZ dR pt ro fN star sep bH
variable {R C:List HP} {K:KP} {r cap c kk:Nat} {bs buf:List UInt8} {A:Option Addr} {fi m n:Int}
def B1 (cap fi:Nat) (buf bs:List UInt8):Prop:=buf.length=cap/\(fi<cap\/(cap=0/\fi=0))/\bs.length<=cap/\∀i,i<bs.length->bs[i]?=buf[(fi+i) % cap]?
def kJ (r cap:Nat) (bs:List UInt8):HP:=fN fun A=>fN fun c=>fN fun fi=>fN fun buf=>sep (pt r [.slice A cap c,I6 (fi:Nat),I6 bs.length] 262) (sep (bU A c 5 dX buf) (bH (B1 cap fi buf bs)))
theorem oJ {fi m:Nat} (h:B1 cap fi buf bs) (hm:bs.length=m):aG (pt r [.slice A cap c,I6 fi,I6 m] 262::bU A c 5 dX buf::R) (kJ r cap bs::R):=by
 subst hm
 exact aG.ex A (aG.ex c (aG.ex fi (aG.ex buf (aG.sep (aG.pick aS.here (aG.sep (aG.pick aS.here (aG.pure h (aG.refl _)))))))))
theorem w9 {f:FuncId} {args:Array Value} (h:∀A c fi buf,B1 cap fi buf bs->CT f args (pt r [.slice A cap c,I6 fi,I6 bs.length] 262::bU A c 5 dX buf::R) K):CT f args (kJ r cap bs::R) K:=
 aA.ex fun A=>aA.ex fun c=>aA.ex fun fi=>aA.ex fun buf=>aA.sep (aA.ent (aG.trans (aG.cons aG.unsep) (fun _ hs=>(hs.perm (List.Perm.trans (List.Perm.cons _ (List.Perm.swap _ _ _)) (List.Perm.swap _ _ _))))) (aA.pure fun hI=>h A c fi buf hI))
theorem Vl (cap:Nat):B1 cap 0 (List.replicate cap 0) []:=⟨by simp,by omega,by simp,fun i h=>by simp at h⟩
theorem SX (h:cap<=65536) (hK:∀r,K (.tuple #[PO r,I6 0]) (kJ r cap []::R)):CT 256 #[I6 cap] R K:=by
 refine aJ Tryz.func256 ?_
 repeat' (first|refine v6 ?_|refine w5 ?_ ?_|((refine bh fun h=>?_) <;> try exact w6 h)|(refine aF fun hA=>?_;subst hA)|intro _|(show aM _ _ _ _ _ _ _;refine Pd ?_;intro _))
 refine aC ?_
 exact aQ (aG.trans (by exact bE) (oJ (Vl cap) rfl)) (hK _)
theorem HF (hK:K (I6 0) R):CT 130 #[.pointer none] R K:=by
 refine aJ Tryz.func130 ?_
 repeat' (first|refine v4 ?_|refine w5 ?_ ?_|((refine bh fun h=>?_) <;> try exact w6 h)|(refine aF fun hA=>?_;subst hA)|intro _)
 (refine aC ?_;exact aB (hK))
theorem AD (hK:K (I6 m) (pt r [.slice A cap c,I6 fi,I6 m] 262::R)):CT 130 #[PO r] (pt r [.slice A cap c,I6 fi,I6 m] 262::R) K:=by
 refine aJ Tryz.func130 ?_
 repeat' (first|refine v4 ?_|refine w5 ?_ ?_|((refine bh fun h=>?_) <;> try exact w6 h)|(refine aF fun hA=>?_;subst hA)|intro _)
 (refine aC ?_;exact aB (hK))
theorem Acm (hK:K (I6 cap) (pt r [.slice A cap c,I6 fi,I6 m] 262::R)):CT 331 #[PO r] (pt r [.slice A cap c,I6 fi,I6 m] 262::R) K:=by
 refine aJ Tryz.func331 ?_
 repeat' (first|refine v4 ?_|refine w5 ?_ ?_|((refine bh fun h=>?_) <;> try exact w6 h)|(refine aF fun hA=>?_;subst hA)|intro _)
 (refine aC ?_;exact aB (hK))
theorem K4 (hm:0<=m/\m<=cap) (hc:cap<=65536) (hK:K (I6 (cap - m)) (pt r [.slice A cap c,I6 fi,I6 m] 262::R)):CT 303 #[PO r] (pt r [.slice A cap c,I6 fi,I6 m] 262::R) K:=by
 refine aJ Tryz.func303 ?_
 repeat' (first|refine v8 ?_|refine w5 ?_ ?_|((refine bh fun h=>?_) <;> try exact w6 h)|(refine aF fun hA=>?_;subst hA)|intro _|(show aA _ 331 _ _ _;refine CA (h:=Acm ?_))|(show aA _ 130 _ _ _;refine CA (h:=AD ?_)))
 (refine aC ?_;exact aB (hK))
def nW:List (Nat×Nat):= [(0,0),(1,0),(2,0),(3,0),(4,0),(5,0),(6,0),(7,0),(8,0),(9,0),(10,0),(11,0),(12,0),(13,0),(14,0),(15,1)]
theorem WC (hK:K (I6 0) R):CT 250 #[.pointer none,I6 n] R K:=by
 refine aJ Tryz.func250 ?_
 repeat' (first|refine v67 ?_|refine dw nW ?_|refine w5 ?_ ?_|((refine bh fun h=>?_) <;> try exact w6 h)|(refine aF fun hA=>?_;subst hA)|intro _|(show aA _ 130 _ _ _;refine CA (h:=HF ?_)))
 all_goals(refine aC ?_;exact aB (ki hK (by omega)))
theorem W0 {fi:Nat} (h:B1 cap fi buf bs) (hk:kk<=bs.length) (hc:0<cap):B1 cap ((fi+kk) % cap) buf (bs.drop kk):=by
 obtain⟨h1,h2,h3,h4⟩:=h
 refine⟨h1,.inl (Nat.mod_lt _ hc),by rw[List.length_drop];omega,fun i hi=>?_⟩
 rw[List.length_drop] at hi
 rw[List.getElem?_drop,h4 (kk+i) (by omega),Nat.mod_add_mod,Nat.add_assoc]
theorem O3 (hc:cap<=65536) (hk:(kk:Int)=max (min n bs.length) 0) (hK:K (I6 kk) (kJ r cap (bs.drop kk)::R)):CT 250 #[PO r,I6 n] (kJ r cap bs::R) K:=by
 refine w9 fun A c fi buf hI=>?_
 have hI':=hI
 obtain⟨h1,h2,h3,h4⟩:=hI'
 by_cases h0:kk=0
 ·subst h0
  rw[List.drop_zero] at hK
  refine aJ Tryz.func250 ?_
  repeat' (first|refine v67 ?_|refine dw nW ?_|refine w5 ?_ ?_|((refine bh fun h=>?_) <;> try exact w6 h)|(refine aF fun hA=>?_;subst hA)|intro _|(show aA _ 130 _ _ _;refine CA (h:=AD ?_)))
  all_goals
   refine aC ?_
   exact aQ (aG.trans (by exact bE) (oJ hI rfl)) (ki hK (by omega))
 ·have hcap:0<cap:=by omega
  have hd:=W0 (kk:=kk) hI (by omega) hcap
  refine aJ Tryz.func250 ?_
  repeat' (first|refine v67 ?_|refine dw nW ?_|refine w5 ?_ ?_|((refine bh fun h=>?_) <;> try exact w6 h)|(refine aF fun hA=>?_;subst hA)|intro _|(show aA _ 130 _ _ _;refine CA (h:=AD ?_)))
  have e1:((fi:Int)+(kk:Int)) % (cap:Int)=(((fi+kk) % cap:Nat):Int):=by push_cast;rfl
  have e2:((bs.length:Nat):Int) - (kk:Int)=((bs.drop kk).length:Nat):=by rw[List.length_drop];omega
  rw[<- hk,e1,e2]
  refine aC ?_
  exact aQ (aG.trans (by exact bE) (oJ hd rfl)) hK
theorem GR (hK:K (I6 0) R):CT 321 #[.pointer none] R K:=by
 refine aJ Tryz.func321 ?_
 repeat' (first|refine v0 ?_|refine w5 ?_ ?_|((refine bh fun h=>?_) <;> try exact w6 h)|(refine aF fun hA=>?_;subst hA)|intro _|(show aA _ 130 _ _ _;refine CA (h:=HF ?_))|(show aA _ 250 _ _ _;refine CA (h:=WC ?_)))
 (refine aC ?_;exact aB (hK))
theorem S6 (hK:K (I6 bs.length) (kJ r cap bs::R)):CT 130 #[PO r] (kJ r cap bs::R) K:=by
 refine w9 fun A c fi buf hI=>?_
 refine aJ Tryz.func130 ?_
 repeat' (first|refine v4 ?_|refine w5 ?_ ?_|((refine bh fun h=>?_) <;> try exact w6 h)|(refine aF fun hA=>?_;subst hA)|intro _)
 refine aC ?_
 exact aQ (oJ hI rfl) hK
theorem Kb (hc:cap<=65536) (hK:K (I6 bs.length) (kJ r cap []::R)):CT 321 #[PO r] (kJ r cap bs::R) K:=by
 have hd:bs.drop bs.length= []:=List.drop_eq_nil_of_le (Nat.le_refl _)
 rw[<- hd] at hK
 refine aJ Tryz.func321 ?_
 repeat' (first|refine v0 ?_|refine w5 ?_ ?_|((refine bh fun h=>?_) <;> try exact w6 h)|(refine aF fun hA=>?_;subst hA)|intro _|(show aA _ 130 _ _ _;refine CA (h:=S6 ?_))|(show aA _ 250 _ _ _;refine CA (h:=O3 (kk:=bs.length) hc (by omega) ?_)))
 (refine aC ?_;exact aB (hK))
end Go.Proofs.YtffnpejdkkohcaaGreat
end
section
namespace Go.Proofs.YtffnpejdkkohcaaGreat
open Go Go.Proofs Go.Sl
attribute [local irreducible] aM eY cU bQ aL aW aA dS dT aZ dR pt ro fN star sep bH
variable {R C:List HP} {K:KP} {q:Nat} {cap st ac tk dr:Int} {s:ByteArray} {l:List ByteArray}
theorem EW (hn:l.length<=1000) (ha:0<=ac/\ac<=1000000000) (h:(l.length:Int)<cap) (hK:K (I6 1) (wC q cap st (l++ [s]) (ac+1) tk dr::R)):CT 248 #[PO q,.string s] (wC q cap st l ac tk dr::R) K:=by
 refine aJ Tryz.func248 ?_
 repeat' (first|refine Qk ?_|refine w5 ?_ ?_|((refine bh fun h=>?_) <;> try exact w6 h)|(refine aF fun hA=>?_;subst hA)|intro _|(show aA _ 305 _ _ _;refine CA (h:=Xn ?_))|(show aA _ 304 _ _ _;refine CA (h:=JI hn ha ?_)))
 all_goals(refine aC ?_;exact aB (hK))
def BL:List (Nat×Nat):= [(0,0),(1,0),(2,0),(3,0),(4,0),(5,0),(6,0),(7,0),(8,0),(9,0),(10,0),(11,0),(12,0),(13,0),(14,0)]
theorem CK {n c:Nat} {A:Option Addr} (hK:K (.bool (decide (cap<=n))) (pt q [I6 cap,I6 st,.slice A n c,I6 ac,I6 tk,I6 dr] 265::R)):CT 305 #[PO q] (pt q [I6 cap,I6 st,.slice A n c,I6 ac,I6 tk,I6 dr] 265::R) K:=by
 refine aJ Tryz.func305 ?_
 repeat' (first|refine v16 ?_|refine dw BL ?_|refine w5 ?_ ?_|((refine bh fun h=>?_) <;> try exact w6 h)|(refine aF fun hA=>?_;subst hA)|intro _)
 all_goals(refine aC ?_;exact aB (kb hK (by simp <;> omega)))
theorem Xa (h:cap<=l.length) (h2:st=0) (hK:K (I6 0) (wC q cap st l ac tk dr::R)):CT 248 #[PO q,.string s] (wC q cap st l ac tk dr::R) K:=by
 refine tB fun A c hc=>?_
 refine aJ Tryz.func248 ?_
 repeat' (first|refine Qk ?_|refine w5 ?_ ?_|((refine bh fun h=>?_) <;> try exact w6 h)|(refine aF fun hA=>?_;subst hA)|intro _|(show aA _ 305 _ _ _;refine CA (h:=CK ?_)))
 refine aC ?_
 exact aQ (aG.trans (by exact bE) (tJ rfl)) hK
theorem VB (ha:0<=ac/\ac<=1000000000) (hd:0<=dr/\dr<=1000000000) (h:cap<=l.length) (h2:st≠0) (h3:st=1\/cap=0) (hK:K (I6 2) (wC q cap st l (ac+1) tk (dr+1)::R)):CT 248 #[PO q,.string s] (wC q cap st l ac tk dr::R) K:=by
 refine tB fun A c hc=>?_
 refine aJ Tryz.func248 ?_
 repeat' (first|refine Qk ?_|refine w5 ?_ ?_|((refine bh fun h=>?_) <;> try exact w6 h)|(refine aF fun hA=>?_;subst hA)|intro _|(show aA _ 305 _ _ _;refine CA (h:=CK ?_)))
 all_goals
  refine aC ?_
  exact aQ (aG.trans (by exact bE) (tJ rfl)) hK
end Go.Proofs.YtffnpejdkkohcaaGreat
namespace Go.Proofs.YtffnpejdkkohcaaGreat
open Go Go.Proofs Go.Sl
attribute [local irreducible] aM eY cU bQ aL aW aA dS dT aZ dR pt ro fN star sep bH
variable {R C:List HP} {K:KP} {q:Nat} {cap st ac tk dr:Int} {s:ByteArray} {l:List ByteArray}
theorem Pz {c:Nat} {A:Option Addr} {n:Nat} (hm:n=(s::l).length) (hc:n<=c) (hn:l.length<=1000) (hK:∀A' c',K (.string s) (pt q [I6 cap,I6 st,.slice A' l.length c',I6 ac,I6 tk,I6 dr] 265::bU A' c' 9 sxC l::R)):CT 306 #[PO q] (pt q [I6 cap,I6 st,.slice A n c,I6 ac,I6 tk,I6 dr] 265::bU A c 9 sxC (s::l)::R) K:=by
 subst hm
 have hl:(s::l).length=l.length+1:=rfl
 have h0:(s::l)[(0:Int).toNat]?=some s:=rfl
 have hlen:(List.take ((((s::l).length:Nat):Int).toNat - (1:Int).toNat) (List.drop (1:Int).toNat (s::l))).length=(((s::l).length:Nat):Int).toNat - (1:Int).toNat:=by simp
 have hbg:(2 * (0+(List.take ((((s::l).length:Nat):Int).toNat - (1:Int).toNat) (List.drop (1:Int).toNat (s::l))).length)+512) * 16<=281474976710656:=by simp;omega
 have heq:List.take ((((s::l).length:Nat):Int).toNat - (1:Int).toNat) (List.drop (1:Int).toNat (s::l))=l:=by simp
 refine aJ Tryz.func306 ?_
 repeat' (first|refine v40 ?_|refine w5 ?_ ?_|((refine bh fun h=>?_) <;> try exact w6 h)|(refine aF fun hA=>?_;subst hA)|intro _|(show aM _ _ _ _ _ _ _;refine dG (hbig:=hbg) ?_;intro _ _))
 refine aC ?_
 simp only[heq]
 exact aB (hK _ _)
theorem WO {s0:ByteArray} (hn:l.length<=1000) (ha:0<=ac/\ac<=1000000000) (hd:0<=dr/\dr<=1000000000) (h:cap<=(s0::l).length) (h2:st≠0) (h3:st≠1) (h4:cap≠0) (hK:K (I6 3) (wC q cap st (l++ [s]) (ac+1) tk (dr+1)::R)):CT 248 #[PO q,.string s] (wC q cap st (s0::l) ac tk dr::R) K:=by
 refine tB fun A c hc=>?_
 refine aJ Tryz.func248 ?_
 repeat' (first|refine Qk ?_|refine w5 ?_ ?_|((refine bh fun h=>?_) <;> try exact w6 h)|(refine aF fun hA=>?_;subst hA)|intro _|(show aA _ 305 _ _ _;refine CA (h:=CK ?_))|(show aA _ 306 _ _ _;refine CA (h:=Pz rfl hc hn (fun A2 c2=>?_)))|(show aA _ 304 _ _ _;refine CA (h:=JI hn ha ?_)))
 all_goals(refine aC ?_;exact aB (hK))
end Go.Proofs.YtffnpejdkkohcaaGreat
end
namespace Go.Proofs.YtffnpejdkkohcaaGreat
open Go Go.Proofs Go.Sl
attribute [local irreducible] aM eY cU bQ aL aW aA dS dT aZ dR pt ro fN star sep bH
variable {R C:List HP} {K:KP} {r cap fi c kk:Nat} {m n:Int} {bs buf:List UInt8} {A:Option Addr} {s:ByteArray}
theorem Akl (s:ByteArray):s.data.toList.length=s.size:=by simp
theorem Qt (h:B1 cap fi buf bs) (hm:m=(bs.length:Nat)):aG (pt r [.slice A cap c,I6 fi,I6 m] 262::bU A c 5 dX buf::R) (kJ r cap bs::R):=by
 subst hm
 exact oJ h rfl
theorem Ahu {x:Nat} (h:x<2 * cap):x % cap=if x<cap then x else x - cap:=by
 split
 ·exact Nat.mod_eq_of_lt (by assumption)
 ·rw[Nat.mod_eq_sub_mod (by omega),Nat.mod_eq_of_lt (by omega)]
theorem Ra {at_ k:Nat} {w x1 x2:List UInt8} (h:B1 cap fi buf bs) (hc:0<cap) (hw:bs.length+w.length<=cap) (ha:at_=(fi+bs.length) % cap) (hk:k=min w.length (cap - at_))
  (h1:x1=buf.take at_++(w.take k++buf.drop (at_+k))) (h2:x2=w.drop k++x1.drop (w.length - k)):B1 cap fi x2 (bs++w):=by
 obtain⟨b1,b2,b3,b4⟩:=h
 have hat:at_<cap:=by rw[ha];exact Nat.mod_lt _ hc
 have hk1:k<=w.length:=by omega
 have hk2:at_+k<=cap:=by omega
 have hfi:fi<cap:=by omega
 rw[Ahu (by omega)] at ha
 have l1:x1.length=cap:=by
  subst h1
  simp only[List.length_append,List.length_take,List.length_drop]
  omega
 have l2:x2.length=cap:=by
  subst h2
  simp only[List.length_append,List.length_drop,l1]
  omega
 have g1:∀j,j<cap->x1[j]?=if j<at_ then buf[j]? else if j<at_+k then w[j - at_]? else buf[j]?:=by
  intro j hj
  subst h1
  have t1:(buf.take at_).length=at_:=by rw[List.length_take];omega
  have t2:(w.take k).length=k:=by rw[List.length_take];omega
  rw[List.getElem?_append,t1]
  split
  ·rw[List.getElem?_take];simp_all
  ·rw[List.getElem?_append,t2]
   split
   ·rw[if_pos (by omega),List.getElem?_take,if_pos (by omega)]
   ·rw[if_neg (by omega),List.getElem?_drop];congr 1;omega
 have g2:∀j,j<cap->x2[j]?=if j<w.length - k then w[k+j]? else x1[j]?:=by
  intro j hj
  subst h2
  rw[List.getElem?_append,List.length_drop]
  split
  ·rw[List.getElem?_drop]
  ·rw[List.getElem?_drop];congr 1;omega
 refine⟨l2,.inl hfi,by rw[List.length_append];omega,fun i hi=>?_⟩
 rw[List.length_append] at hi
 have hp:(fi+i) % cap<cap:=Nat.mod_lt _ hc
 have hm:=Ahu (x:=fi+i) (cap:=cap) (by omega)
 rw[g2 _ hp,g1 _ hp,List.getElem?_append]
 by_cases c1:i<bs.length
 ·rw[if_pos c1,b4 i c1]
  have e1:¬((fi+i) % cap<w.length - k):=by
   rw[hm];split at ha <;> split <;> omega
  rw[if_neg e1]
  by_cases e2:(fi+i) % cap<at_
  ·rw[if_pos e2]
  ·rw[if_neg e2,if_neg]
   rw[hm] at e2 ⊢
   split at ha <;> split at e2 <;> (try split) <;> omega
 ·rw[if_neg c1]
  by_cases c2:i - bs.length<k
  ·have e0:(fi+i) % cap=at_+(i - bs.length):=by
    rw[hm];split at ha <;> split <;> omega
   rw[if_neg (by rw[e0];omega),if_neg (by rw[e0];omega),if_pos (by rw[e0];omega),e0]
   congr 1;omega
  ·have e0:(fi+i) % cap+k=i - bs.length:=by
    rw[hm];split at ha <;> split <;> omega
   rw[if_pos (by omega)]
   congr 1;omega
def sW:List (Nat×Nat):= [(0,0),(1,0),(2,0),(3,0),(4,0),(5,0),(6,0),(7,0),(8,0),(9,0),(10,0),(11,0),(12,0),(13,0),(14,0),(15,0)]
def s7:List (Nat×Nat):= [(0,0),(1,0),(2,0),(3,0),(4,0),(5,0),(6,0),(7,0),(8,0),(9,1),(10,0)]
def sY:List (Nat×Nat):= [(0,0),(1,0),(2,0),(3,0),(4,0),(5,0),(6,0),(7,0),(8,1)]
theorem Ib (hc:cap<=65536) (hz:s.size=0\/cap<=bs.length) (hK:K (I6 0) (kJ r cap bs::R)):CT 247 #[PO r,.string s] (kJ r cap bs::R) K:=by
 refine w9 fun A c fi buf hI=>?_
 have hI':=hI
 obtain⟨h1,h2,h3,h4⟩:=hI'
 refine aJ Tryz.func247 ?_
 repeat' (first|refine v85 ?_|refine dw sW ?_|refine dw s7 ?_|refine dw sY ?_|refine w5 ?_ ?_|((refine bh fun h=>?_) <;> try exact w6 h)|(refine aF fun hA=>?_;subst hA)|intro _|(show aA _ 303 _ _ _;refine CA (h:=K4 (by omega) hc ?_)))
 all_goals
  refine aC ?_
  exact aQ (aG.trans (by exact bE) (oJ hI rfl)) (ki hK (by omega))
theorem Kn {n:Nat} (hc:cap<=65536) (hn:(n:Int)=min (s.size:Int) ((cap:Int) - (bs.length:Int))) (h0:0<n) (hK:K (I6 n) (kJ r cap (bs++s.data.toList.take n)::R)):CT 247 #[PO r,.string s] (kJ r cap bs::R) K:=by
 refine w9 fun A c fi buf hI=>?_
 have hI':=hI
 obtain⟨h1,h2,h3,h4⟩:=hI'
 refine iJ (aS.there aS.here) fun hbc=>?_
 refine pV (aS.there aS.here) (by omega) fun B off hA=>?_
 subst hA
 have hsl:s.data.toList.length=s.size:=by simp
 have hes:(s.extract 0 ((n:Int)).toNat).size=n:=by simp;omega
 have hat:(fi+bs.length) % cap<cap:=Nat.mod_lt _ (by omega)
 have e1:((fi:Int)+(bs.length:Int)) % (cap:Int)=(((fi+bs.length) % cap:Nat):Int):=by push_cast;rfl
 have hwr:=fun x1 x2 k=>Ra (w:=s.data.toList.take n) (x1:=x1) (x2:=x2) (at_:=(fi+bs.length) % cap) (k:=k) hI (by omega) (by rw[List.length_take,hsl];omega) rfl
 generalize hag:(fi+bs.length) % cap=at_ at *
 refine aJ Tryz.func247 ?_
 repeat' (first|(show aM _ _ _ _ _ _ _;rw[<- hn])|(show aM _ _ _ _ _ _ _;rw[e1])|(show aM _ _ _ _ _ _ _;refine mX ?_;intro A' hA';obtain rfl:=Ah0 (j:=at_) hA' (by omega) (by omega))|refine v85 ?_|refine dw sW ?_|refine dw s7 ?_|refine dw sY ?_|refine w5 ?_ ?_|((refine bh fun h=>?_) <;> try exact w6 h)|(refine aF fun hA=>?_;subst hA)|intro _|(show aA _ 303 _ _ _;refine CA (h:=K4 (by omega) hc ?_))|(show aM _ _ _ _ _ _ _;refine TS (j:=at_) (hj:=by omega) ?_)|(show aM _ _ _ _ _ _ _;refine TS (j:=0) (hj:=by simp only[List.length_append,List.length_take,List.length_drop,Akl];omega) ?_))
 have exl:∀i j,(s.extract i j).data.toList=(s.data.toList.drop i).take (j - i):=fun i j=>by simp
 have hkn:min n (cap - at_)<=n:=by omega
 have exs:(s.extract (min n (cap - at_)) n).size=n - min n (cap - at_):=by simp;omega
 simp only[Int.toNat_natCast] at hes ⊢
 simp only[hes,exs,exl]
 have hln:(s.data.toList.take n).length=n:=by rw[List.length_take,hsl];omega
 rw[hln] at hwr
 generalize hkk:min n (cap - at_)=kk at *
 refine aC ?_
 refine aQ (C':=kJ r cap (bs++List.take n s.data.toList)::R) ?_ hK
 refine Qt (hwr _ _ kk rfl rfl ?_) ?_
 ·rw[show min (n - kk) cap=n - kk by omega,List.drop_take]
  simp[List.take_take]
 ·rw[List.length_append,hln];push_cast;rfl
theorem Zm {r2:Nat} {fi fr to:Int} (h:0<=fr/\fr<=to/\to<=cap) (hc:cap<=c) (hb:buf.length=cap)
  (hK:∀A',(∀C',dE C' A dX buf->dE C' A' dX ((buf.drop fr.toNat).take (to.toNat - fr.toNat)))->((buf.drop fr.toNat).take (to.toNat - fr.toNat)).length=to.toNat - fr.toNat->K (.slice A' (to.toNat - fr.toNat) (to.toNat - fr.toNat)) (pt r2 [PO r] 207::pt r [.slice A cap c,I6 fi,I6 m] 262::R)):
  CT 307 #[I6 fr,I6 to,PO r2] (pt r2 [PO r] 207::pt r [.slice A cap c,I6 fi,I6 m] 262::R) K:=by
 refine aJ Tryz.func307 ?_
 repeat' (first|(show aM _ _ _ _ _ _ _;refine mX ?_;intro A' hA')|refine v40 ?_|refine w5 ?_ ?_|((refine bh fun h=>?_) <;> try exact w6 h)|(refine aF fun hA=>?_;subst hA)|intro _)
 refine aC ?_
 refine aB (hK A' (fun C' hv=>E3 hv hA' (by omega) (.inr (by omega))) ?_)
 rw[List.length_take,List.length_drop]
 omega
theorem U1 {p1 p2:List UInt8} {e:Nat} (h:B1 cap fi buf bs) (hk:kk<=bs.length) (h0:0<kk) (he:e=min (fi+kk) cap) (h1:p1=(buf.drop fi).take (e - fi)) (h2:p2=buf.take (kk - (e - fi))):p1++p2=bs.take kk:=by
 obtain⟨b1,b2,b3,b4⟩:=h
 have hfi:fi<cap:=by omega
 have l1:p1.length=e - fi:=by subst h1;rw[List.length_take,List.length_drop];omega
 have l2:p2.length=kk - (e - fi):=by subst h2;rw[List.length_take];omega
 apply List.ext_getElem?
 intro i
 rw[List.getElem?_append,l1,List.getElem?_take]
 by_cases c:i<kk
 ·rw[if_pos c,b4 i (by omega),Ahu (by omega)]
  split
  ·subst h1
   rw[List.getElem?_take,if_pos (by assumption),List.getElem?_drop,if_pos (by omega)]
  ·subst h2
   rw[List.getElem?_take,if_pos (by omega),if_neg (by omega)]
   congr 1;omega
 ·rw[if_neg c,if_neg (by omega)]
  exact List.getElem?_eq_none (by omega)
def vG:List (Nat×Nat):= [(0,0),(1,0),(2,0),(3,0),(4,0),(5,0),(6,0),(7,0),(8,0),(9,0),(10,0),(11,0),(12,0)]
theorem XJ (hc:cap<=65536) (hk:(kk:Int)=max (min n bs.length) 0) (hK:K (.string ⟨(bs.take kk).toArray⟩) (kJ r cap bs::R)):CT 249 #[PO r,I6 n] (kJ r cap bs::R) K:=by
 refine w9 fun A c fi buf hI=>?_
 have hI':=hI
 obtain⟨h1,h2,h3,h4⟩:=hI'
 refine iJ (aS.there aS.here) fun hbc=>?_
 by_cases h0:kk=0
 ·subst h0
  rw[List.take_zero] at hK
  refine aJ Tryz.func249 ?_
  repeat' (first|refine v99 ?_|refine dw vG ?_|refine w5 ?_ ?_|((refine bh fun h=>?_) <;> try exact w6 h)|(refine aF fun hA=>?_;subst hA)|intro _|(show aA _ 130 _ _ _;refine CA (h:=AD ?_)))
  refine aC ?_
  exact aQ (aG.trans (by exact bE) (oJ hI rfl)) hK
 ·refine aJ Tryz.func249 ?_
  repeat' (first|refine v99 ?_|refine dw vG ?_|refine w5 ?_ ?_|((refine bh fun h=>?_) <;> try exact w6 h)|(refine aF fun hA=>?_;subst hA)|intro _|(show aA _ 130 _ _ _;refine CA (h:=AD ?_))|(show aA _ 307 _ _ _;refine CA (h:=Zm (buf:=buf) ⟨by omega,by omega,by omega⟩ (by omega) h1 (fun A1 hv hl=>?_)))|(show aM _ _ _ _ _ _ _;refine dG (hsrc:=pH (hv _ (by exact kU)) hl) ?_;intro _ _)|(show aM _ _ _ _ _ _ _;refine cN (hsrc:=pH (hv _ (by exact kU)) hl) ?_;intro _ _))
  refine aC ?_
  refine aQ (aG.trans (by exact bE) (oJ hI rfl)) (kv hK ?_)
  congr 3
  symm
  refine U1 (e:=min (fi+kk) cap) hI (by omega) (by omega) rfl ?_ ?_
  ·congr 1 <;> (try congr 1) <;> omega
  ·simp
   congr 1
   omega
theorem Eu (hc:cap<=65536) (hk:(kk:Int)=max (min n bs.length) 0) (hK:K (.string ⟨(bs.take kk).toArray⟩) (kJ r cap (bs.drop kk)::R)):CT 166 #[PO r,I6 n] (kJ r cap bs::R) K:=by
 have hs:(ByteArray.mk (bs.take kk).toArray).size=kk:=by simp[pJ];omega
 refine aJ Tryz.func166 ?_
 repeat' (first|refine v0 ?_|refine w5 ?_ ?_|((refine bh fun h=>?_) <;> try exact w6 h)|(refine aF fun hA=>?_;subst hA)|intro _|(show aA _ 249 _ _ _;refine CA (h:=XJ hc hk ?_))|(show aA _ 250 _ _ _;refine CA (h:=O3 (kk:=kk) hc (by rw[hs];omega) ?_)))
 (refine aC ?_;exact aB (hK))
end Go.Proofs.YtffnpejdkkohcaaGreat
