/- A part of the proof: lemmas; each with the conditions that it states. -/
import Derived.Test.YtepnmcipkangkaaGreatPaf
set_option linter.unusedVariables false
set_option linter.unusedSimpArgs false
set_option maxRecDepth 100000
set_option maxHeartbeats 40000000
section
namespace Go.Proofs.YtepnmcipkangkaaGreat
open Go Go.Proofs Go.Sl
attribute [local irreducible] aN fJ cY bN aM aS aA dM dN aV dL pt ro fB star sep bF
variable {R C:List HP} {K:KP} {q:Nat} {cap st ac tk dr:Int} {l:List ByteArray}
def sxD:List Value->Option ByteArray
 | [.string s]=>some s
 |_=>none
theorem An9 (cs:List Value) (y:ByteArray) (h:sxD cs=some y): [.string y]=cs:=by
 unfold sxD at h
 split at h
 ·cases h;rfl
 ·cases h
def sxC:u5 ByteArray:= { enc:=fun s=> [.string s],sz:=1,dec:=sxD,len:=fun _=>rfl,one:=fun _=>rfl,ok:=An9 }
def yL (q:Nat) (cap st:Int) (l:List ByteArray) (ac tk dr:Int):HP:=fB fun A=>fB fun c=>sep (pt q [I6 cap,I6 st,.slice A l.length c,I6 ac,I6 tk,I6 dr] 338) (bV A c 9 sxC l)
theorem uO {n:Nat} {A:Option Addr} {c:Nat} (h:l.length=n):aG (pt q [I6 cap,I6 st,.slice A n c,I6 ac,I6 tk,I6 dr] 338::bV A c 9 sxC l::R) (yL q cap st l ac tk dr::R):=by
 subst h
 exact aG.ex A (aG.ex c (aG.sep (aG.refl _)))
theorem uM {f:FuncId} {args:Array Value} (h:∀A c,l.length<=c->CT f args (pt q [I6 cap,I6 st,.slice A l.length c,I6 ac,I6 tk,I6 dr] 338::bV A c 9 sxC l::R) K):CT f args (yL q cap st l ac tk dr::R) K:=
 aA.ex fun A=>aA.ex fun c=>aA.sep (i0 (aU.there aU.here) (h A c))
theorem Q2 (h:0<=cap/\cap<=64) (h2:0<=st/\st<=2) (hK:∀q,K (.tuple #[PO q,I6 0]) (yL q cap st [] 0 0 0::R)):CT 362 #[I6 cap,I6 st] R K:=by
 refine aH Tryz.func362 ?_
 repeat' (first|refine v6 ?_|refine w5 ?_ ?_|((refine bh fun h=>?_) <;> try exact w6 h)|(refine aE fun hA=>?_;subst hA)|intro _)
 refine aC ?_
 exact aK (aG.trans (aG.pick aU.here (aG.nilrow' (aG.refl _))) (uO (A:=none) (c:=0) (l:= []) rfl)) (hK _)
theorem K7 (hK:K (I6 0) R):CT 158 #[.pointer none] R K:=by
 refine aH Tryz.func158 ?_
 repeat' (first|refine v4 ?_|refine w5 ?_ ?_|((refine bh fun h=>?_) <;> try exact w6 h)|(refine aE fun hA=>?_;subst hA)|intro _)
 (refine aC ?_;exact aB (hK))
theorem II (hK:K (I6 l.length) (yL q cap st l ac tk dr::R)):CT 158 #[PO q] (yL q cap st l ac tk dr::R) K:=by
 refine uM fun A c hc=>?_
 refine aH Tryz.func158 ?_
 repeat' (first|refine v4 ?_|refine w5 ?_ ?_|((refine bh fun h=>?_) <;> try exact w6 h)|(refine aE fun hA=>?_;subst hA)|intro _)
 refine aC ?_
 exact aK (uO rfl) hK
def Dx:List (Nat×Nat):= [(0,0),(1,0),(2,0),(3,0),(4,0),(5,0),(6,0),(7,0),(8,0),(9,0),(10,0),(11,0),(12,0),(13,0),(14,0)]
theorem Zy (hK:K (.bool (decide (cap<=l.length))) (yL q cap st l ac tk dr::R)):CT 419 #[PO q] (yL q cap st l ac tk dr::R) K:=by
 refine uM fun A c hc=>?_
 refine aH Tryz.func419 ?_
 repeat' (first|refine v16 ?_|refine dw Dx ?_|refine w5 ?_ ?_|((refine bh fun h=>?_) <;> try exact w6 h)|(refine aE fun hA=>?_;subst hA)|intro _)
 all_goals
  refine aC ?_
  exact aK (uO rfl) (kb hK (by simp <;> omega))
theorem TT {s:ByteArray} (hn:l.length<=1000) (hK:K (.string s) (yL q cap st l ac tk dr::R)):CT 420 #[PO q] (yL q cap st (s::l) ac tk dr::R) K:=by
 refine uM fun A c hc=>?_
 have hl:(s::l).length=l.length+1:=rfl
 have h0:(s::l)[(0:Int).toNat]?=some s:=rfl
 have hlen:(List.take ((((s::l).length:Nat):Int).toNat - (1:Int).toNat) (List.drop (1:Int).toNat (s::l))).length=(((s::l).length:Nat):Int).toNat - (1:Int).toNat:=by simp
 have hbg:(2 * (0+(List.take ((((s::l).length:Nat):Int).toNat - (1:Int).toNat) (List.drop (1:Int).toNat (s::l))).length)+512) * 16<=281474976710656:=by simp;omega
 have heq:List.take ((((s::l).length:Nat):Int).toNat - (1:Int).toNat) (List.drop (1:Int).toNat (s::l))=l:=by simp
 refine aH Tryz.func420 ?_
 repeat' (first|refine v40 ?_|refine w5 ?_ ?_|((refine bh fun h=>?_) <;> try exact w6 h)|(refine aE fun hA=>?_;subst hA)|intro _|(show aN _ _ _ _ _ _ _;refine dV (hbig:=hbg) ?_;intro _ _))
 refine aC ?_
 simp only[heq]
 exact aK (aG.trans (by exact aZ) (uO (l:=l) rfl)) hK
end Go.Proofs.YtepnmcipkangkaaGreat
namespace Go.Proofs.YtepnmcipkangkaaGreat
open Go Go.Proofs Go.Sl
attribute [local irreducible] aN fJ cY bN aM aS aA dM dN aV dL pt ro fB star sep bF
variable {R C:List HP} {K:KP} {q:Nat} {cap st ac tk dr:Int} {s:ByteArray} {l:List ByteArray}
def Do:List Nat:= [0,0,2,6,14,0,32,96,224,480,0,1024,3072,7168,15360,32766,0,65536,262142,524287,1048575,2097151]
def DT:List Nat:= [2097151,1048575,524287,262142,65536,0,32766,15360,7168,3072,1024,0,480,224,96,32,0,14,6,2,0,0]
def DY:List (Nat×Nat):= [(16,0),(17,1),(1,1),(2,1),(3,1),(4,1),(5,1),(6,1),(7,1),(8,1),(9,1),(10,1),(11,1),(12,1),(13,1),(14,1),(15,1),(18,1),(0,2),(19,0),(20,0),(21,1)]
theorem Lr {v:Int} {r2 r3:Nat} (hn:l.length<=1000) (ha:0<=ac/\ac<=1000000000) (hK:K (I6 v) (pt r2 [PO q] 225::pt r3 [.string s] 9::yL q cap st (l++ [s]) (ac+1) tk dr::R)):CT 418 #[I6 v,PO r2,PO r3] (pt r2 [PO q] 225::pt r3 [.string s] 9::yL q cap st l ac tk dr::R) K:=by
 refine aA.ent (C':=yL q cap st l ac tk dr::pt r2 [PO q] 225::pt r3 [.string s] 9::R) (by exact aZ) ?_
 refine uM fun A c hc=>?_
 refine aH Tryz.func418 ?_
 repeat' (first|(show aN _ _ _ _ _ _ _;refine iP ?_;intro A';simp only[Int.toNat_natCast,Int.toNat_zero,Nat.sub_zero,List.drop_zero,List.take_length])|refine SH ?_|refine R6 Do DT DY ?_|refine w5 ?_ ?_|((refine bh fun h=>?_) <;> try exact w6 h)|(refine aE fun hA=>?_;subst hA)|intro _)
 all_goals
  refine aC ?_
  exact aK (aG.trans (by exact aZ) (aG.cons (aG.cons (uO (l:=l++ [s]) rfl)))) hK
theorem Jb (hK:K (.tuple #[.string ⟨#[]⟩,.bool false]) (yL q cap st [] ac tk dr::R)):CT 354 #[PO q] (yL q cap st [] ac tk dr::R) K:=by
 refine aH Tryz.func354 ?_
 repeat' (first|refine HA ?_|refine w5 ?_ ?_|((refine bh fun h=>?_) <;> try exact w6 h)|(refine aE fun hA=>?_;subst hA)|intro _|(show aA _ 158 _ _ _;refine CA (h:=II ?_)))
 (refine aC ?_;exact aB (hK))
theorem Ls {n c:Nat} {A:Option Addr} (hK:K (I6 n) (pt q [I6 cap,I6 st,.slice A n c,I6 ac,I6 tk,I6 dr] 338::R)):CT 158 #[PO q] (pt q [I6 cap,I6 st,.slice A n c,I6 ac,I6 tk,I6 dr] 338::R) K:=by
 refine aH Tryz.func158 ?_
 repeat' (first|refine v4 ?_|refine w5 ?_ ?_|((refine bh fun h=>?_) <;> try exact w6 h)|(refine aE fun hA=>?_;subst hA)|intro _)
 (refine aC ?_;exact aB (hK))
theorem Me (hn:l.length<=1000) (ht:0<=tk/\tk<=1000000000) (hK:K (.tuple #[.string s,.bool true]) (yL q cap st l ac (tk+1) dr::R)):CT 354 #[PO q] (yL q cap st (s::l) ac tk dr::R) K:=by
 refine uM fun A c hc=>?_
 have hl:(s::l).length=l.length+1:=rfl
 refine aH Tryz.func354 ?_
 repeat' (first|refine HA ?_|refine w5 ?_ ?_|((refine bh fun h=>?_) <;> try exact w6 h)|(refine aE fun hA=>?_;subst hA)|intro _|(show aA _ 158 _ _ _;refine CA (h:=Ls ?_))|(show aA _ 420 _ _ _;refine CA (h:=TT hn ?_)))
 (refine aC ?_;exact aB (hK))
theorem G4 (hK:K (I6 0) R):CT 427 #[.pointer none] R K:=by
 refine aH Tryz.func427 ?_
 repeat' (first|refine HA ?_|refine w5 ?_ ?_|((refine bh fun h=>?_) <;> try exact w6 h)|(refine aE fun hA=>?_;subst hA)|intro _|(show aA _ 158 _ _ _;refine CA (h:=K7 ?_)))
 (refine aC ?_;exact aB (hK))
theorem J3 (hn:l.length<=1000) (hd:0<=dr/\dr<=1000000000) (hK:K (I6 l.length) (yL q cap st [] ac tk (dr+l.length)::R)):CT 427 #[PO q] (yL q cap st l ac tk dr::R) K:=by
 refine uM fun A c hc=>?_
 refine aH Tryz.func427 ?_
 repeat' (first|refine HA ?_|refine w5 ?_ ?_|((refine bh fun h=>?_) <;> try exact w6 h)|(refine aE fun hA=>?_;subst hA)|intro _|(show aA _ 158 _ _ _;refine CA (h:=Ls ?_)))
 ·refine aC ?_
  exact aK (aG.trans (aG.pick aU.here (aG.drop (aG.nilrow' (aG.refl _)))) (uO (A:=none) (c:=0) (l:= []) rfl)) hK
 ·obtain rfl:l= []:=List.length_eq_zero_iff.1 (by omega)
  rw[show dr+(([]:List ByteArray).length:Nat)=dr by simp] at hK
  refine aC ?_
  exact aK (uO rfl) hK
end Go.Proofs.YtepnmcipkangkaaGreat
namespace Go.Proofs.YtepnmcipkangkaaGreat
open Go Go.Proofs Go.Sl
attribute [local irreducible] aN fJ cY bN aM aS aA dM dN aV dL pt ro fB star sep bF
variable {R C:List HP} {K:KP} {l n m:Int} {d:Nat}
def rE (d:Nat) (m l:Int):HP:=pt d [I6 m,I6 l] 426
theorem WA (h:1<=l/\l<=2147483647) (hK:∀d,K (.tuple #[PO d,I6 0]) (rE d 0 l::R)):CT 363 #[I6 l] R K:=by
 refine aH Tryz.func363 ?_
 repeat' (first|refine v6 ?_|refine w5 ?_ ?_|((refine bh fun h=>?_) <;> try exact w6 h)|(refine aE fun hA=>?_;subst hA)|intro _)
 all_goals(refine aC ?_;exact aB (hK _))
def wT:List (Nat×Nat):= [(0,0),(1,0),(2,0),(3,0),(4,0),(5,0),(6,0),(7,0),(8,0),(9,0),(10,0),(11,0)]
theorem Sa {p:Option Addr} (hp:p≠none) (h:n<1) (hK:K (.tuple #[I6 0,I6 2]) R):CT 355 #[.pointer p,I6 n] R K:=by
 obtain⟨q,rfl⟩:∃q,p=some q:=Option.ne_none_iff_exists'.1 hp
 refine aH Tryz.func355 ?_
 repeat' (first|refine v66 ?_|refine dw wT ?_|refine w5 ?_ ?_|((refine bh fun h=>?_) <;> try exact w6 h)|(refine aE fun hA=>?_;subst hA)|intro _)
 all_goals(refine aC ?_;exact aB (hK))
theorem Wl (h:1<=n) (hm:0<=m/\m<=l) (hl:l<=2147483647) (hK:K (.tuple #[I6 (min n (l - m)),I6 0]) (rE d (m+min n (l - m)) l::R)):CT 355 #[PO d,I6 n] (rE d m l::R) K:=by
 unfold rE at *
 refine aH Tryz.func355 ?_
 repeat' (first|refine v66 ?_|refine dw wT ?_|refine w5 ?_ ?_|((refine bh fun h=>?_) <;> try exact w6 h)|(refine aE fun hA=>?_;subst hA)|intro _)
 all_goals(refine aC ?_;exact aB (hK))
theorem Pi (h:0<=n/\n<=m) (hm:m<=l) (hl:l<=2147483647) (hK:K (I6 0) (rE d (m - n) l::R)):CT 273 #[PO d,I6 n] (rE d m l::R) K:=by
 unfold rE at *
 refine aH Tryz.func273 ?_
 repeat' (first|refine v33 ?_|refine w5 ?_ ?_|((refine bh fun h=>?_) <;> try exact w6 h)|(refine aE fun hA=>?_;subst hA)|intro _)
 all_goals(refine aC ?_;exact aB (hK))
theorem Qy (hK:K (I6 m) (rE d m l::R)):CT 372 #[PO d] (rE d m l::R) K:=by
 unfold rE at *
 refine aH Tryz.func372 ?_
 repeat' (first|refine v4 ?_|refine w5 ?_ ?_|((refine bh fun h=>?_) <;> try exact w6 h)|(refine aE fun hA=>?_;subst hA)|intro _)
 (refine aC ?_;exact aB (hK))
end Go.Proofs.YtepnmcipkangkaaGreat
namespace Go.Proofs.YtepnmcipkangkaaGreat
open Go Go.Proofs Go.Sl
attribute [local irreducible] aN fJ cY bN aM aS aA dM dN aV dL pt ro fB star sep bF
variable {R C:List HP} {K:KP} {r cap c kk:Nat} {bs buf:List UInt8} {A:Option Addr} {fi m n:Int}
def Dc (cap fi:Nat) (buf bs:List UInt8):Prop:=buf.length=cap/\(fi<cap\/(cap=0/\fi=0))/\bs.length<=cap/\∀i,i<bs.length->bs[i]?=buf[(fi+i) % cap]?
def kY (r cap:Nat) (bs:List UInt8):HP:=fB fun A=>fB fun c=>fB fun fi=>fB fun buf=>sep (pt r [.slice A cap c,I6 (fi:Nat),I6 bs.length] 336) (sep (bV A c 5 dT buf) (bF (Dc cap fi buf bs)))
theorem pX {fi m:Nat} (h:Dc cap fi buf bs) (hm:bs.length=m):aG (pt r [.slice A cap c,I6 fi,I6 m] 336::bV A c 5 dT buf::R) (kY r cap bs::R):=by
 subst hm
 exact aG.ex A (aG.ex c (aG.ex fi (aG.ex buf (aG.sep (aG.pick aU.here (aG.sep (aG.pick aU.here (aG.pure h (aG.refl _)))))))))
theorem y4 {f:FuncId} {args:Array Value} (h:∀A c fi buf,Dc cap fi buf bs->CT f args (pt r [.slice A cap c,I6 fi,I6 bs.length] 336::bV A c 5 dT buf::R) K):CT f args (kY r cap bs::R) K:=
 aA.ex fun A=>aA.ex fun c=>aA.ex fun fi=>aA.ex fun buf=>aA.sep (aA.ent (aG.trans (aG.cons aG.unsep) (fun _ hs=>(hs.perm (List.Perm.trans (List.Perm.cons _ (List.Perm.swap _ _ _)) (List.Perm.swap _ _ _))))) (aA.pure fun hI=>h A c fi buf hI))
theorem ZA (cap:Nat):Dc cap 0 (List.replicate cap 0) []:=⟨by simp,by omega,by simp,fun i h=>by simp at h⟩
theorem V4 (h:cap<=65536) (hK:∀r,K (.tuple #[PO r,I6 0]) (kY r cap []::R)):CT 361 #[I6 cap] R K:=by
 refine aH Tryz.func361 ?_
 repeat' (first|refine v6 ?_|refine w5 ?_ ?_|((refine bh fun h=>?_) <;> try exact w6 h)|(refine aE fun hA=>?_;subst hA)|intro _|(show aN _ _ _ _ _ _ _;refine Rc ?_;intro _))
 refine aC ?_
 exact aK (aG.trans (by exact aZ) (pX (ZA cap) rfl)) (hK _)
theorem Jp (hK:K (I6 0) R):CT 157 #[.pointer none] R K:=by
 refine aH Tryz.func157 ?_
 repeat' (first|refine v4 ?_|refine w5 ?_ ?_|((refine bh fun h=>?_) <;> try exact w6 h)|(refine aE fun hA=>?_;subst hA)|intro _)
 (refine aC ?_;exact aB (hK))
theorem BN (hK:K (I6 m) (pt r [.slice A cap c,I6 fi,I6 m] 336::R)):CT 157 #[PO r] (pt r [.slice A cap c,I6 fi,I6 m] 336::R) K:=by
 refine aH Tryz.func157 ?_
 repeat' (first|refine v4 ?_|refine w5 ?_ ?_|((refine bh fun h=>?_) <;> try exact w6 h)|(refine aE fun hA=>?_;subst hA)|intro _)
 (refine aC ?_;exact aB (hK))
theorem Abg (hK:K (I6 cap) (pt r [.slice A cap c,I6 fi,I6 m] 336::R)):CT 446 #[PO r] (pt r [.slice A cap c,I6 fi,I6 m] 336::R) K:=by
 refine aH Tryz.func446 ?_
 repeat' (first|refine v4 ?_|refine w5 ?_ ?_|((refine bh fun h=>?_) <;> try exact w6 h)|(refine aE fun hA=>?_;subst hA)|intro _)
 (refine aC ?_;exact aB (hK))
theorem LN (hm:0<=m/\m<=cap) (hc:cap<=65536) (hK:K (I6 (cap - m)) (pt r [.slice A cap c,I6 fi,I6 m] 336::R)):CT 417 #[PO r] (pt r [.slice A cap c,I6 fi,I6 m] 336::R) K:=by
 refine aH Tryz.func417 ?_
 repeat' (first|refine v8 ?_|refine w5 ?_ ?_|((refine bh fun h=>?_) <;> try exact w6 h)|(refine aE fun hA=>?_;subst hA)|intro _|(show aA _ 446 _ _ _;refine CA (h:=Abg ?_))|(show aA _ 157 _ _ _;refine CA (h:=BN ?_)))
 (refine aC ?_;exact aB (hK))
def pK:List (Nat×Nat):= [(0,0),(1,0),(2,0),(3,0),(4,0),(5,0),(6,0),(7,0),(8,0),(9,0),(10,0),(11,0),(12,0),(13,0),(14,0),(15,1)]
theorem Xr (hK:K (I6 0) R):CT 347 #[.pointer none,I6 n] R K:=by
 refine aH Tryz.func347 ?_
 repeat' (first|refine v67 ?_|refine dw pK ?_|refine w5 ?_ ?_|((refine bh fun h=>?_) <;> try exact w6 h)|(refine aE fun hA=>?_;subst hA)|intro _|(show aA _ 157 _ _ _;refine CA (h:=Jp ?_)))
 all_goals(refine aC ?_;exact aB (ki hK (by omega)))
theorem ZY {fi:Nat} (h:Dc cap fi buf bs) (hk:kk<=bs.length) (hc:0<cap):Dc cap ((fi+kk) % cap) buf (bs.drop kk):=by
 obtain⟨h1,h2,h3,h4⟩:=h
 refine⟨h1,.inl (Nat.mod_lt _ hc),by rw[List.length_drop];omega,fun i hi=>?_⟩
 rw[List.length_drop] at hi
 rw[List.getElem?_drop,h4 (kk+i) (by omega),Nat.mod_add_mod,Nat.add_assoc]
theorem PZ (hc:cap<=65536) (hk:(kk:Int)=max (min n bs.length) 0) (hK:K (I6 kk) (kY r cap (bs.drop kk)::R)):CT 347 #[PO r,I6 n] (kY r cap bs::R) K:=by
 refine y4 fun A c fi buf hI=>?_
 have hI':=hI
 obtain⟨h1,h2,h3,h4⟩:=hI'
 by_cases h0:kk=0
 ·subst h0
  rw[List.drop_zero] at hK
  refine aH Tryz.func347 ?_
  repeat' (first|refine v67 ?_|refine dw pK ?_|refine w5 ?_ ?_|((refine bh fun h=>?_) <;> try exact w6 h)|(refine aE fun hA=>?_;subst hA)|intro _|(show aA _ 157 _ _ _;refine CA (h:=BN ?_)))
  all_goals
   refine aC ?_
   exact aK (aG.trans (by exact aZ) (pX hI rfl)) (ki hK (by omega))
 ·have hcap:0<cap:=by omega
  have hd:=ZY (kk:=kk) hI (by omega) hcap
  refine aH Tryz.func347 ?_
  repeat' (first|refine v67 ?_|refine dw pK ?_|refine w5 ?_ ?_|((refine bh fun h=>?_) <;> try exact w6 h)|(refine aE fun hA=>?_;subst hA)|intro _|(show aA _ 157 _ _ _;refine CA (h:=BN ?_)))
  have e1:((fi:Int)+(kk:Int)) % (cap:Int)=(((fi+kk) % cap:Nat):Int):=by push_cast;rfl
  have e2:((bs.length:Nat):Int) - (kk:Int)=((bs.drop kk).length:Nat):=by rw[List.length_drop];omega
  rw[<- hk,e1,e2]
  refine aC ?_
  exact aK (aG.trans (by exact aZ) (pX hd rfl)) hK
theorem Iz (hK:K (I6 0) R):CT 426 #[.pointer none] R K:=by
 refine aH Tryz.func426 ?_
 repeat' (first|refine v0 ?_|refine w5 ?_ ?_|((refine bh fun h=>?_) <;> try exact w6 h)|(refine aE fun hA=>?_;subst hA)|intro _|(show aA _ 157 _ _ _;refine CA (h:=Jp ?_))|(show aA _ 347 _ _ _;refine CA (h:=Xr ?_)))
 (refine aC ?_;exact aB (hK))
theorem VK (hK:K (I6 bs.length) (kY r cap bs::R)):CT 157 #[PO r] (kY r cap bs::R) K:=by
 refine y4 fun A c fi buf hI=>?_
 refine aH Tryz.func157 ?_
 repeat' (first|refine v4 ?_|refine w5 ?_ ?_|((refine bh fun h=>?_) <;> try exact w6 h)|(refine aE fun hA=>?_;subst hA)|intro _)
 refine aC ?_
 exact aK (pX hI rfl) hK
theorem Ma (hc:cap<=65536) (hK:K (I6 bs.length) (kY r cap []::R)):CT 426 #[PO r] (kY r cap bs::R) K:=by
 have hd:bs.drop bs.length= []:=List.drop_eq_nil_of_le (Nat.le_refl _)
 rw[<- hd] at hK
 refine aH Tryz.func426 ?_
 repeat' (first|refine v0 ?_|refine w5 ?_ ?_|((refine bh fun h=>?_) <;> try exact w6 h)|(refine aE fun hA=>?_;subst hA)|intro _|(show aA _ 157 _ _ _;refine CA (h:=VK ?_))|(show aA _ 347 _ _ _;refine CA (h:=PZ (kk:=bs.length) hc (by omega) ?_)))
 (refine aC ?_;exact aB (hK))
end Go.Proofs.YtepnmcipkangkaaGreat
end
section
namespace Go.Proofs.YtepnmcipkangkaaGreat
open Go Go.Proofs Go.Sl
attribute [local irreducible] aN fJ cY bN aM aS aA dM dN aV dL pt ro fB star sep bF
variable {R C:List HP} {K:KP} {q:Nat} {cap st ac tk dr:Int} {s:ByteArray} {l:List ByteArray}
theorem Gp (hn:l.length<=1000) (ha:0<=ac/\ac<=1000000000) (h:(l.length:Int)<cap) (hK:K (I6 1) (yL q cap st (l++ [s]) (ac+1) tk dr::R)):CT 345 #[PO q,.string s] (yL q cap st l ac tk dr::R) K:=by
 refine aH Tryz.func345 ?_
 repeat' (first|refine SE ?_|refine w5 ?_ ?_|((refine bh fun h=>?_) <;> try exact w6 h)|(refine aE fun hA=>?_;subst hA)|intro _|(show aA _ 419 _ _ _;refine CA (h:=Zy ?_))|(show aA _ 418 _ _ _;refine CA (h:=Lr hn ha ?_)))
 all_goals(refine aC ?_;exact aB (hK))
def CW:List (Nat×Nat):= [(0,0),(1,0),(2,0),(3,0),(4,0),(5,0),(6,0),(7,0),(8,0),(9,0),(10,0),(11,0),(12,0),(13,0),(14,0)]
theorem Di {n c:Nat} {A:Option Addr} (hK:K (.bool (decide (cap<=n))) (pt q [I6 cap,I6 st,.slice A n c,I6 ac,I6 tk,I6 dr] 338::R)):CT 419 #[PO q] (pt q [I6 cap,I6 st,.slice A n c,I6 ac,I6 tk,I6 dr] 338::R) K:=by
 refine aH Tryz.func419 ?_
 repeat' (first|refine v16 ?_|refine dw CW ?_|refine w5 ?_ ?_|((refine bh fun h=>?_) <;> try exact w6 h)|(refine aE fun hA=>?_;subst hA)|intro _)
 all_goals(refine aC ?_;exact aB (kb hK (by simp <;> omega)))
theorem ZC (h:cap<=l.length) (h2:st=0) (hK:K (I6 0) (yL q cap st l ac tk dr::R)):CT 345 #[PO q,.string s] (yL q cap st l ac tk dr::R) K:=by
 refine uM fun A c hc=>?_
 refine aH Tryz.func345 ?_
 repeat' (first|refine SE ?_|refine w5 ?_ ?_|((refine bh fun h=>?_) <;> try exact w6 h)|(refine aE fun hA=>?_;subst hA)|intro _|(show aA _ 419 _ _ _;refine CA (h:=Di ?_)))
 refine aC ?_
 exact aK (aG.trans (by exact aZ) (uO rfl)) hK
theorem YD (ha:0<=ac/\ac<=1000000000) (hd:0<=dr/\dr<=1000000000) (h:cap<=l.length) (h2:st≠0) (h3:st=1\/cap=0) (hK:K (I6 2) (yL q cap st l (ac+1) tk (dr+1)::R)):CT 345 #[PO q,.string s] (yL q cap st l ac tk dr::R) K:=by
 refine uM fun A c hc=>?_
 refine aH Tryz.func345 ?_
 repeat' (first|refine SE ?_|refine w5 ?_ ?_|((refine bh fun h=>?_) <;> try exact w6 h)|(refine aE fun hA=>?_;subst hA)|intro _|(show aA _ 419 _ _ _;refine CA (h:=Di ?_)))
 all_goals
  refine aC ?_
  exact aK (aG.trans (by exact aZ) (uO rfl)) hK
end Go.Proofs.YtepnmcipkangkaaGreat
namespace Go.Proofs.YtepnmcipkangkaaGreat
open Go Go.Proofs Go.Sl
attribute [local irreducible] aN fJ cY bN aM aS aA dM dN aV dL pt ro fB star sep bF
variable {R C:List HP} {K:KP} {q:Nat} {cap st ac tk dr:Int} {s:ByteArray} {l:List ByteArray}
theorem PF {c:Nat} {A:Option Addr} {n:Nat} (hm:n=(s::l).length) (hc:n<=c) (hn:l.length<=1000) (hK:∀A' c',K (.string s) (pt q [I6 cap,I6 st,.slice A' l.length c',I6 ac,I6 tk,I6 dr] 338::bV A' c' 9 sxC l::R)):CT 420 #[PO q] (pt q [I6 cap,I6 st,.slice A n c,I6 ac,I6 tk,I6 dr] 338::bV A c 9 sxC (s::l)::R) K:=by
 subst hm
 have hl:(s::l).length=l.length+1:=rfl
 have h0:(s::l)[(0:Int).toNat]?=some s:=rfl
 have hlen:(List.take ((((s::l).length:Nat):Int).toNat - (1:Int).toNat) (List.drop (1:Int).toNat (s::l))).length=(((s::l).length:Nat):Int).toNat - (1:Int).toNat:=by simp
 have hbg:(2 * (0+(List.take ((((s::l).length:Nat):Int).toNat - (1:Int).toNat) (List.drop (1:Int).toNat (s::l))).length)+512) * 16<=281474976710656:=by simp;omega
 have heq:List.take ((((s::l).length:Nat):Int).toNat - (1:Int).toNat) (List.drop (1:Int).toNat (s::l))=l:=by simp
 refine aH Tryz.func420 ?_
 repeat' (first|refine v40 ?_|refine w5 ?_ ?_|((refine bh fun h=>?_) <;> try exact w6 h)|(refine aE fun hA=>?_;subst hA)|intro _|(show aN _ _ _ _ _ _ _;refine dV (hbig:=hbg) ?_;intro _ _))
 refine aC ?_
 simp only[heq]
 exact aB (hK _ _)
theorem Y5 {s0:ByteArray} (hn:l.length<=1000) (ha:0<=ac/\ac<=1000000000) (hd:0<=dr/\dr<=1000000000) (h:cap<=(s0::l).length) (h2:st≠0) (h3:st≠1) (h4:cap≠0) (hK:K (I6 3) (yL q cap st (l++ [s]) (ac+1) tk (dr+1)::R)):CT 345 #[PO q,.string s] (yL q cap st (s0::l) ac tk dr::R) K:=by
 refine uM fun A c hc=>?_
 refine aH Tryz.func345 ?_
 repeat' (first|refine SE ?_|refine w5 ?_ ?_|((refine bh fun h=>?_) <;> try exact w6 h)|(refine aE fun hA=>?_;subst hA)|intro _|(show aA _ 419 _ _ _;refine CA (h:=Di ?_))|(show aA _ 420 _ _ _;refine CA (h:=PF rfl hc hn (fun A2 c2=>?_)))|(show aA _ 418 _ _ _;refine CA (h:=Lr hn ha ?_)))
 all_goals(refine aC ?_;exact aB (hK))
end Go.Proofs.YtepnmcipkangkaaGreat
end
namespace Go.Proofs.YtepnmcipkangkaaGreat
open Go Go.Proofs Go.Sl
attribute [local irreducible] aN fJ cY bN aM aS aA dM dN aV dL pt ro fB star sep bF
variable {R C:List HP} {K:KP} {r cap fi c kk:Nat} {m n:Int} {bs buf:List UInt8} {A:Option Addr} {s:ByteArray}
theorem Apj (s:ByteArray):s.data.toList.length=s.size:=by simp
theorem S2 (h:Dc cap fi buf bs) (hm:m=(bs.length:Nat)):aG (pt r [.slice A cap c,I6 fi,I6 m] 336::bV A c 5 dT buf::R) (kY r cap bs::R):=by
 subst hm
 exact pX h rfl
theorem Aob {x:Nat} (h:x<2 * cap):x % cap=if x<cap then x else x - cap:=by
 split
 ·exact Nat.mod_eq_of_lt (by assumption)
 ·rw[Nat.mod_eq_sub_mod (by omega),Nat.mod_eq_of_lt (by omega)]
theorem Ue {at_ k:Nat} {w x1 x2:List UInt8} (h:Dc cap fi buf bs) (hc:0<cap) (hw:bs.length+w.length<=cap) (ha:at_=(fi+bs.length) % cap) (hk:k=min w.length (cap - at_))
  (h1:x1=buf.take at_++(w.take k++buf.drop (at_+k))) (h2:x2=w.drop k++x1.drop (w.length - k)):Dc cap fi x2 (bs++w):=by
 obtain⟨b1,b2,b3,b4⟩:=h
 have hat:at_<cap:=by rw[ha];exact Nat.mod_lt _ hc
 have hk1:k<=w.length:=by omega
 have hk2:at_+k<=cap:=by omega
 have hfi:fi<cap:=by omega
 rw[Aob (by omega)] at ha
 have l1:x1.length=cap:=by
  subst h1
  simp only[List.length_append,List.length_take,List.length_drop]
  omega
 have l2:x2.length=cap:=by
  subst h2
  simp only[List.length_append,List.length_drop,l1]
  omega
 have g1:∀j,j<cap->x1[j]?=if j<at_ then buf[j]? else if j<at_+k then w[j - at_]? else buf[j]?:=by
  intro j hj
  subst h1
  have t1:(buf.take at_).length=at_:=by rw[List.length_take];omega
  have t2:(w.take k).length=k:=by rw[List.length_take];omega
  rw[List.getElem?_append,t1]
  split
  ·rw[List.getElem?_take];simp_all
  ·rw[List.getElem?_append,t2]
   split
   ·rw[if_pos (by omega),List.getElem?_take,if_pos (by omega)]
   ·rw[if_neg (by omega),List.getElem?_drop];congr 1;omega
 have g2:∀j,j<cap->x2[j]?=if j<w.length - k then w[k+j]? else x1[j]?:=by
  intro j hj
  subst h2
  rw[List.getElem?_append,List.length_drop]
  split
  ·rw[List.getElem?_drop]
  ·rw[List.getElem?_drop];congr 1;omega
 refine⟨l2,.inl hfi,by rw[List.length_append];omega,fun i hi=>?_⟩
 rw[List.length_append] at hi
 have hp:(fi+i) % cap<cap:=Nat.mod_lt _ hc
 have hm:=Aob (x:=fi+i) (cap:=cap) (by omega)
 rw[g2 _ hp,g1 _ hp,List.getElem?_append]
 by_cases c1:i<bs.length
 ·rw[if_pos c1,b4 i c1]
  have e1:¬((fi+i) % cap<w.length - k):=by
   rw[hm];split at ha <;> split <;> omega
  rw[if_neg e1]
  by_cases e2:(fi+i) % cap<at_
  ·rw[if_pos e2]
  ·rw[if_neg e2,if_neg]
   rw[hm] at e2 ⊢
   split at ha <;> split at e2 <;> (try split) <;> omega
 ·rw[if_neg c1]
  by_cases c2:i - bs.length<k
  ·have e0:(fi+i) % cap=at_+(i - bs.length):=by
    rw[hm];split at ha <;> split <;> omega
   rw[if_neg (by rw[e0];omega),if_neg (by rw[e0];omega),if_pos (by rw[e0];omega),e0]
   congr 1;omega
  ·have e0:(fi+i) % cap+k=i - bs.length:=by
    rw[hm];split at ha <;> split <;> omega
   rw[if_pos (by omega)]
   congr 1;omega
def uA:List (Nat×Nat):= [(0,0),(1,0),(2,0),(3,0),(4,0),(5,0),(6,0),(7,0),(8,0),(9,0),(10,0),(11,0),(12,0),(13,0),(14,0),(15,0)]
def uE:List (Nat×Nat):= [(0,0),(1,0),(2,0),(3,0),(4,0),(5,0),(6,0),(7,0),(8,0),(9,1),(10,0)]
def uH:List (Nat×Nat):= [(0,0),(1,0),(2,0),(3,0),(4,0),(5,0),(6,0),(7,0),(8,1)]
theorem Jg (hc:cap<=65536) (hz:s.size=0\/cap<=bs.length) (hK:K (I6 0) (kY r cap bs::R)):CT 344 #[PO r,.string s] (kY r cap bs::R) K:=by
 refine y4 fun A c fi buf hI=>?_
 have hI':=hI
 obtain⟨h1,h2,h3,h4⟩:=hI'
 refine aH Tryz.func344 ?_
 repeat' (first|refine v85 ?_|refine dw uA ?_|refine dw uE ?_|refine dw uH ?_|refine w5 ?_ ?_|((refine bh fun h=>?_) <;> try exact w6 h)|(refine aE fun hA=>?_;subst hA)|intro _|(show aA _ 417 _ _ _;refine CA (h:=LN (by omega) hc ?_)))
 all_goals
  refine aC ?_
  exact aK (aG.trans (by exact aZ) (pX hI rfl)) (ki hK (by omega))
theorem L0 {n:Nat} (hc:cap<=65536) (hn:(n:Int)=min (s.size:Int) ((cap:Int) - (bs.length:Int))) (h0:0<n) (hK:K (I6 n) (kY r cap (bs++s.data.toList.take n)::R)):CT 344 #[PO r,.string s] (kY r cap bs::R) K:=by
 refine y4 fun A c fi buf hI=>?_
 have hI':=hI
 obtain⟨h1,h2,h3,h4⟩:=hI'
 refine i0 (aU.there aU.here) fun hbc=>?_
 refine qN (aU.there aU.here) (by omega) fun B off hA=>?_
 subst hA
 have hsl:s.data.toList.length=s.size:=by simp
 have hes:(s.extract 0 ((n:Int)).toNat).size=n:=by simp;omega
 have hat:(fi+bs.length) % cap<cap:=Nat.mod_lt _ (by omega)
 have e1:((fi:Int)+(bs.length:Int)) % (cap:Int)=(((fi+bs.length) % cap:Nat):Int):=by push_cast;rfl
 have hwr:=fun x1 x2 k=>Ue (w:=s.data.toList.take n) (x1:=x1) (x2:=x2) (at_:=(fi+bs.length) % cap) (k:=k) hI (by omega) (by rw[List.length_take,hsl];omega) rfl
 generalize hag:(fi+bs.length) % cap=at_ at *
 refine aH Tryz.func344 ?_
 repeat' (first|(show aN _ _ _ _ _ _ _;rw[<- hn])|(show aN _ _ _ _ _ _ _;rw[e1])|(show aN _ _ _ _ _ _ _;refine oM ?_;intro A' hA';obtain rfl:=Anc (j:=at_) hA' (by omega) (by omega))|refine v85 ?_|refine dw uA ?_|refine dw uE ?_|refine dw uH ?_|refine w5 ?_ ?_|((refine bh fun h=>?_) <;> try exact w6 h)|(refine aE fun hA=>?_;subst hA)|intro _|(show aA _ 417 _ _ _;refine CA (h:=LN (by omega) hc ?_))|(show aN _ _ _ _ _ _ _;refine Wv (j:=at_) (hj:=by omega) ?_)|(show aN _ _ _ _ _ _ _;refine Wv (j:=0) (hj:=by simp only[List.length_append,List.length_take,List.length_drop,Apj];omega) ?_))
 have exl:∀i j,(s.extract i j).data.toList=(s.data.toList.drop i).take (j - i):=fun i j=>by simp
 have hkn:min n (cap - at_)<=n:=by omega
 have exs:(s.extract (min n (cap - at_)) n).size=n - min n (cap - at_):=by simp;omega
 simp only[Int.toNat_natCast] at hes ⊢
 simp only[hes,exs,exl]
 have hln:(s.data.toList.take n).length=n:=by rw[List.length_take,hsl];omega
 rw[hln] at hwr
 generalize hkk:min n (cap - at_)=kk at *
 refine aC ?_
 refine aK (C':=kY r cap (bs++List.take n s.data.toList)::R) ?_ hK
 refine S2 (hwr _ _ kk rfl rfl ?_) ?_
 ·rw[show min (n - kk) cap=n - kk by omega,List.drop_take]
  simp[List.take_take]
 ·rw[List.length_append,hln];push_cast;rfl
theorem Ad1 {r2:Nat} {fi fr to:Int} (h:0<=fr/\fr<=to/\to<=cap) (hc:cap<=c) (hb:buf.length=cap)
  (hK:∀A',(∀C',d4 C' A dT buf->d4 C' A' dT ((buf.drop fr.toNat).take (to.toNat - fr.toNat)))->((buf.drop fr.toNat).take (to.toNat - fr.toNat)).length=to.toNat - fr.toNat->K (.slice A' (to.toNat - fr.toNat) (to.toNat - fr.toNat)) (pt r2 [PO r] 224::pt r [.slice A cap c,I6 fi,I6 m] 336::R)):
  CT 421 #[I6 fr,I6 to,PO r2] (pt r2 [PO r] 224::pt r [.slice A cap c,I6 fi,I6 m] 336::R) K:=by
 refine aH Tryz.func421 ?_
 repeat' (first|(show aN _ _ _ _ _ _ _;refine oM ?_;intro A' hA')|refine v40 ?_|refine w5 ?_ ?_|((refine bh fun h=>?_) <;> try exact w6 h)|(refine aE fun hA=>?_;subst hA)|intro _)
 refine aC ?_
 refine aB (hK A' (fun C' hv=>FU hv hA' (by omega) (.inr (by omega))) ?_)
 rw[List.length_take,List.length_drop]
 omega
theorem Zn {p1 p2:List UInt8} {e:Nat} (h:Dc cap fi buf bs) (hk:kk<=bs.length) (h0:0<kk) (he:e=min (fi+kk) cap) (h1:p1=(buf.drop fi).take (e - fi)) (h2:p2=buf.take (kk - (e - fi))):p1++p2=bs.take kk:=by
 obtain⟨b1,b2,b3,b4⟩:=h
 have hfi:fi<cap:=by omega
 have l1:p1.length=e - fi:=by subst h1;rw[List.length_take,List.length_drop];omega
 have l2:p2.length=kk - (e - fi):=by subst h2;rw[List.length_take];omega
 apply List.ext_getElem?
 intro i
 rw[List.getElem?_append,l1,List.getElem?_take]
 by_cases c:i<kk
 ·rw[if_pos c,b4 i (by omega),Aob (by omega)]
  split
  ·subst h1
   rw[List.getElem?_take,if_pos (by assumption),List.getElem?_drop,if_pos (by omega)]
  ·subst h2
   rw[List.getElem?_take,if_pos (by omega),if_neg (by omega)]
   congr 1;omega
 ·rw[if_neg c,if_neg (by omega)]
  exact List.getElem?_eq_none (by omega)
def wS:List (Nat×Nat):= [(0,0),(1,0),(2,0),(3,0),(4,0),(5,0),(6,0),(7,0),(8,0),(9,0),(10,0),(11,0),(12,0)]
theorem Abk (hc:cap<=65536) (hk:(kk:Int)=max (min n bs.length) 0) (hK:K (.string ⟨(bs.take kk).toArray⟩) (kY r cap bs::R)):CT 346 #[PO r,I6 n] (kY r cap bs::R) K:=by
 refine y4 fun A c fi buf hI=>?_
 have hI':=hI
 obtain⟨h1,h2,h3,h4⟩:=hI'
 refine i0 (aU.there aU.here) fun hbc=>?_
 by_cases h0:kk=0
 ·subst h0
  rw[List.take_zero] at hK
  refine aH Tryz.func346 ?_
  repeat' (first|refine v99 ?_|refine dw wS ?_|refine w5 ?_ ?_|((refine bh fun h=>?_) <;> try exact w6 h)|(refine aE fun hA=>?_;subst hA)|intro _|(show aA _ 157 _ _ _;refine CA (h:=BN ?_)))
  refine aC ?_
  exact aK (aG.trans (by exact aZ) (pX hI rfl)) hK
 ·refine aH Tryz.func346 ?_
  repeat' (first|refine v99 ?_|refine dw wS ?_|refine w5 ?_ ?_|((refine bh fun h=>?_) <;> try exact w6 h)|(refine aE fun hA=>?_;subst hA)|intro _|(show aA _ 157 _ _ _;refine CA (h:=BN ?_))|(show aA _ 421 _ _ _;refine CA (h:=Ad1 (buf:=buf) ⟨by omega,by omega,by omega⟩ (by omega) h1 (fun A1 hv hl=>?_)))|(show aN _ _ _ _ _ _ _;refine dV (hsrc:=tA (hv _ (by exact lF)) hl) ?_;intro _ _)|(show aN _ _ _ _ _ _ _;refine dD (hsrc:=tA (hv _ (by exact lF)) hl) ?_;intro _ _))
  refine aC ?_
  refine aK (aG.trans (by exact aZ) (pX hI rfl)) (kv hK ?_)
  congr 3
  symm
  refine Zn (e:=min (fi+kk) cap) hI (by omega) (by omega) rfl ?_ ?_
  ·congr 1 <;> (try congr 1) <;> omega
  ·simp
   congr 1
   omega
theorem GP (hc:cap<=65536) (hk:(kk:Int)=max (min n bs.length) 0) (hK:K (.string ⟨(bs.take kk).toArray⟩) (kY r cap (bs.drop kk)::R)):CT 240 #[PO r,I6 n] (kY r cap bs::R) K:=by
 have hs:(ByteArray.mk (bs.take kk).toArray).size=kk:=by simp[xC];omega
 refine aH Tryz.func240 ?_
 repeat' (first|refine v0 ?_|refine w5 ?_ ?_|((refine bh fun h=>?_) <;> try exact w6 h)|(refine aE fun hA=>?_;subst hA)|intro _|(show aA _ 346 _ _ _;refine CA (h:=Abk hc hk ?_))|(show aA _ 347 _ _ _;refine CA (h:=PZ (kk:=kk) hc (by rw[hs];omega) ?_)))
 (refine aC ?_;exact aB (hK))
end Go.Proofs.YtepnmcipkangkaaGreat
