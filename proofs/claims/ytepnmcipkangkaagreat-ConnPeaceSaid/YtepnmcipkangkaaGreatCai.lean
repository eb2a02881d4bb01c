/- A part of the proof: lemmas; each with the conditions that it states. -/
import Derived.Test.YtepnmcipkangkaaGreatCaf
set_option linter.unusedVariables false
set_option linter.unusedSimpArgs false
set_option maxRecDepth 100000
set_option maxHeartbeats 40000000
section
namespace Go.Proofs.YtepnmcipkangkaaGreat
open Go Go.Proofs Go.Sl
attribute [local irreducible] aN fL cL bM aL aR aA dJ dK aU dI pt ro fC star sep bF
variable {R C:List HP} {K:KP} {q:Nat} {cap st ac tk dr:Int} {l:List ByteArray}
def sxD:List Value->Option ByteArray
 | [.string s]=>some s
 |_=>none
theorem Anh (cs:List Value) (y:ByteArray) (h:sxD cs=some y): [.string y]=cs:=by
 unfold sxD at h
 split at h
 ·cases h;rfl
 ·cases h
def sxC:u6 ByteArray:= { enc:=fun s=> [.string s],sz:=1,dec:=sxD,len:=fun _=>rfl,one:=fun _=>rfl,ok:=Anh }
def y5 (q:Nat) (cap st:Int) (l:List ByteArray) (ac tk dr:Int):HP:=fC fun A=>fC fun c=>sep (pt q [I6 cap,I6 st,.slice A l.length c,I6 ac,I6 tk,I6 dr] 338) (bT A c 9 sxC l)
theorem uX {n:Nat} {A:Option Addr} {c:Nat} (h:l.length=n):aG (pt q [I6 cap,I6 st,.slice A n c,I6 ac,I6 tk,I6 dr] 338::bT A c 9 sxC l::R) (y5 q cap st l ac tk dr::R):=by
 subst h
 exact aG.ex A (aG.ex c (aG.sep (aG.refl _)))
theorem u3 {f:FuncId} {args:Array Value} (h:∀A c,l.length<=c->CT f args (pt q [I6 cap,I6 st,.slice A l.length c,I6 ac,I6 tk,I6 dr] 338::bT A c 9 sxC l::R) K):CT f args (y5 q cap st l ac tk dr::R) K:=
 aA.ex fun A=>aA.ex fun c=>aA.sep (i7 (aW.there aW.here) (h A c))
theorem PT (h:0<=cap/\cap<=64) (h2:0<=st/\st<=2) (hK:∀q,K (.tuple #[PO q,I6 0]) (y5 q cap st [] 0 0 0::R)):CT 362 #[I6 cap,I6 st] R K:=by
 refine aH Tryz.func362 ?_
 repeat' (first|refine v6 ?_|refine w5 ?_ ?_|((refine bh fun h=>?_) <;> try exact w6 h)|(refine aE fun hA=>?_;subst hA)|intro _)
 refine aC ?_
 exact aM (aG.trans (aG.pick aW.here (aG.nilrow' (aG.refl _))) (uX (A:=none) (c:=0) (l:= []) rfl)) (hK _)
theorem LH (hK:K (I6 0) R):CT 158 #[.pointer none] R K:=by
 refine aH Tryz.func158 ?_
 repeat' (first|refine v4 ?_|refine w5 ?_ ?_|((refine bh fun h=>?_) <;> try exact w6 h)|(refine aE fun hA=>?_;subst hA)|intro _)
 (refine aC ?_;exact aB (hK))
theorem HI (hK:K (I6 l.length) (y5 q cap st l ac tk dr::R)):CT 158 #[PO q] (y5 q cap st l ac tk dr::R) K:=by
 refine u3 fun A c hc=>?_
 refine aH Tryz.func158 ?_
 repeat' (first|refine v4 ?_|refine w5 ?_ ?_|((refine bh fun h=>?_) <;> try exact w6 h)|(refine aE fun hA=>?_;subst hA)|intro _)
 refine aC ?_
 exact aM (uX rfl) hK
def Dp:List (Nat×Nat):= [(0,0),(1,0),(2,0),(3,0),(4,0),(5,0),(6,0),(7,0),(8,0),(9,0),(10,0),(11,0),(12,0),(13,0),(14,0)]
theorem W1 (hK:K (.bool (decide (cap<=l.length))) (y5 q cap st l ac tk dr::R)):CT 419 #[PO q] (y5 q cap st l ac tk dr::R) K:=by
 refine u3 fun A c hc=>?_
 refine aH Tryz.func419 ?_
 repeat' (first|refine v16 ?_|refine dw Dp ?_|refine w5 ?_ ?_|((refine bh fun h=>?_) <;> try exact w6 h)|(refine aE fun hA=>?_;subst hA)|intro _)
 all_goals
  refine aC ?_
  exact aM (uX rfl) (kb hK (by simp <;> omega))
theorem Uz {s:ByteArray} (hn:l.length<=1000) (hK:K (.string s) (y5 q cap st l ac tk dr::R)):CT 420 #[PO q] (y5 q cap st (s::l) ac tk dr::R) K:=by
 refine u3 fun A c hc=>?_
 have hl:(s::l).length=l.length+1:=rfl
 have h0:(s::l)[(0:Int).toNat]?=some s:=rfl
 have hlen:(List.take ((((s::l).length:Nat):Int).toNat - (1:Int).toNat) (List.drop (1:Int).toNat (s::l))).length=(((s::l).length:Nat):Int).toNat - (1:Int).toNat:=by simp
 have hbg:(2 * (0+(List.take ((((s::l).length:Nat):Int).toNat - (1:Int).toNat) (List.drop (1:Int).toNat (s::l))).length)+512) * 16<=281474976710656:=by simp;omega
 have heq:List.take ((((s::l).length:Nat):Int).toNat - (1:Int).toNat) (List.drop (1:Int).toNat (s::l))=l:=by simp
 refine aH Tryz.func420 ?_
 repeat' (first|refine v40 ?_|refine w5 ?_ ?_|((refine bh fun h=>?_) <;> try exact w6 h)|(refine aE fun hA=>?_;subst hA)|intro _|(show aN _ _ _ _ _ _ _;refine d3 (hbig:=hbg) ?_;intro _ _))
 refine aC ?_
 simp only[heq]
 exact aM (aG.trans (by exact aY) (uX (l:=l) rfl)) hK
end Go.Proofs.YtepnmcipkangkaaGreat
namespace Go.Proofs.YtepnmcipkangkaaGreat
open Go Go.Proofs Go.Sl
attribute [local irreducible] aN fL cL bM aL aR aA dJ dK aU dI pt ro fC star sep bF
variable {R C:List HP} {K:KP} {q:Nat} {cap st ac tk dr:Int} {s:ByteArray} {l:List ByteArray}
def C5:List Nat:= [0,0,2,6,14,0,32,96,224,480,0,1024,3072,7168,15360,32766,0,65536,262142,524287,1048575,2097151]
def DC:List Nat:= [2097151,1048575,524287,262142,65536,0,32766,15360,7168,3072,1024,0,480,224,96,32,0,14,6,2,0,0]
def C8:List (Nat×Nat):= [(16,0),(17,1),(1,1),(2,1),(3,1),(4,1),(5,1),(6,1),(7,1),(8,1),(9,1),(10,1),(11,1),(12,1),(13,1),(14,1),(15,1),(18,1),(0,2),(19,0),(20,0),(21,1)]
theorem L1 {v:Int} {r2 r3:Nat} (hn:l.length<=1000) (ha:0<=ac/\ac<=1000000000) (hK:K (I6 v) (pt r2 [PO q] 225::pt r3 [.string s] 9::y5 q cap st (l++ [s]) (ac+1) tk dr::R)):CT 418 #[I6 v,PO r2,PO r3] (pt r2 [PO q] 225::pt r3 [.string s] 9::y5 q cap st l ac tk dr::R) K:=by
 refine aA.ent (C':=y5 q cap st l ac tk dr::pt r2 [PO q] 225::pt r3 [.string s] 9::R) (by exact aY) ?_
 refine u3 fun A c hc=>?_
 refine aH Tryz.func418 ?_
 repeat' (first|(show aN _ _ _ _ _ _ _;refine i5 ?_;intro A';simp only[Int.toNat_natCast,Int.toNat_zero,Nat.sub_zero,List.drop_zero,List.take_length])|refine Sg ?_|refine Jv C5 DC C8 ?_|refine w5 ?_ ?_|((refine bh fun h=>?_) <;> try exact w6 h)|(refine aE fun hA=>?_;subst hA)|intro _)
 all_goals
  refine aC ?_
  exact aM (aG.trans (by exact aY) (aG.cons (aG.cons (uX (l:=l++ [s]) rfl)))) hK
theorem JZ (hK:K (.tuple #[.string ⟨#[]⟩,.bool false]) (y5 q cap st [] ac tk dr::R)):CT 354 #[PO q] (y5 q cap st [] ac tk dr::R) K:=by
 refine aH Tryz.func354 ?_
 repeat' (first|refine GF ?_|refine w5 ?_ ?_|((refine bh fun h=>?_) <;> try exact w6 h)|(refine aE fun hA=>?_;subst hA)|intro _|(show aA _ 158 _ _ _;refine CA (h:=HI ?_)))
 (refine aC ?_;exact aB (hK))
theorem LW {n c:Nat} {A:Option Addr} (hK:K (I6 n) (pt q [I6 cap,I6 st,.slice A n c,I6 ac,I6 tk,I6 dr] 338::R)):CT 158 #[PO q] (pt q [I6 cap,I6 st,.slice A n c,I6 ac,I6 tk,I6 dr] 338::R) K:=by
 refine aH Tryz.func158 ?_
 repeat' (first|refine v4 ?_|refine w5 ?_ ?_|((refine bh fun h=>?_) <;> try exact w6 h)|(refine aE fun hA=>?_;subst hA)|intro _)
 (refine aC ?_;exact aB (hK))
theorem Lg (hn:l.length<=1000) (ht:0<=tk/\tk<=1000000000) (hK:K (.tuple #[.string s,.bool true]) (y5 q cap st l ac (tk+1) dr::R)):CT 354 #[PO q] (y5 q cap st (s::l) ac tk dr::R) K:=by
 refine u3 fun A c hc=>?_
 have hl:(s::l).length=l.length+1:=rfl
 refine aH Tryz.func354 ?_
 repeat' (first|refine GF ?_|refine w5 ?_ ?_|((refine bh fun h=>?_) <;> try exact w6 h)|(refine aE fun hA=>?_;subst hA)|intro _|(show aA _ 158 _ _ _;refine CA (h:=LW ?_))|(show aA _ 420 _ _ _;refine CA (h:=Uz hn ?_)))
 (refine aC ?_;exact aB (hK))
theorem GM (hK:K (I6 0) R):CT 427 #[.pointer none] R K:=by
 refine aH Tryz.func427 ?_
 repeat' (first|refine GF ?_|refine w5 ?_ ?_|((refine bh fun h=>?_) <;> try exact w6 h)|(refine aE fun hA=>?_;subst hA)|intro _|(show aA _ 158 _ _ _;refine CA (h:=LH ?_)))
 (refine aC ?_;exact aB (hK))
theorem Jb (hn:l.length<=1000) (hd:0<=dr/\dr<=1000000000) (hK:K (I6 l.length) (y5 q cap st [] ac tk (dr+l.length)::R)):CT 427 #[PO q] (y5 q cap st l ac tk dr::R) K:=by
 refine u3 fun A c hc=>?_
 refine aH Tryz.func427 ?_
 repeat' (first|refine GF ?_|refine w5 ?_ ?_|((refine bh fun h=>?_) <;> try exact w6 h)|(refine aE fun hA=>?_;subst hA)|intro _|(show aA _ 158 _ _ _;refine CA (h:=LW ?_)))
 ·refine aC ?_
  exact aM (aG.trans (aG.pick aW.here (aG.drop (aG.nilrow' (aG.refl _)))) (uX (A:=none) (c:=0) (l:= []) rfl)) hK
 ·obtain rfl:l= []:=List.length_eq_zero_iff.1 (by omega)
  rw[show dr+(([]:List ByteArray).length:Nat)=dr by simp] at hK
  refine aC ?_
  exact aM (uX rfl) hK
end Go.Proofs.YtepnmcipkangkaaGreat
namespace Go.Proofs.YtepnmcipkangkaaGreat
open Go Go.Proofs Go.Sl
attribute [local irreducible] aN fL cL bM aL aR aA dJ dK aU dI pt ro fC star sep bF
variable {R C:List HP} {K:KP} {l n m:Int} {d:Nat}
def rE (d:Nat) (m l:Int):HP:=pt d [I6 m,I6 l] 426
theorem VK (h:1<=l/\l<=2147483647) (hK:∀d,K (.tuple #[PO d,I6 0]) (rE d 0 l::R)):CT 363 #[I6 l] R K:=by
 refine aH Tryz.func363 ?_
 repeat' (first|refine v6 ?_|refine w5 ?_ ?_|((refine bh fun h=>?_) <;> try exact w6 h)|(refine aE fun hA=>?_;subst hA)|intro _)
 all_goals(refine aC ?_;exact aB (hK _))
def xD:List (Nat×Nat):= [(0,0),(1,0),(2,0),(3,0),(4,0),(5,0),(6,0),(7,0),(8,0),(9,0),(10,0),(11,0)]
theorem Qi {p:Option Addr} (hp:p≠none) (h:n<1) (hK:K (.tuple #[I6 0,I6 2]) R):CT 355 #[.pointer p,I6 n] R K:=by
 obtain⟨q,rfl⟩:∃q,p=some q:=Option.ne_none_iff_exists'.1 hp
 refine aH Tryz.func355 ?_
 repeat' (first|refine v66 ?_|refine dw xD ?_|refine w5 ?_ ?_|((refine bh fun h=>?_) <;> try exact w6 h)|(refine aE fun hA=>?_;subst hA)|intro _)
 all_goals(refine aC ?_;exact aB (hK))
theorem Vl (h:1<=n) (hm:0<=m/\m<=l) (hl:l<=2147483647) (hK:K (.tuple #[I6 (min n (l - m)),I6 0]) (rE d (m+min n (l - m)) l::R)):CT 355 #[PO d,I6 n] (rE d m l::R) K:=by
 unfold rE at *
 refine aH Tryz.func355 ?_
 repeat' (first|refine v66 ?_|refine dw xD ?_|refine w5 ?_ ?_|((refine bh fun h=>?_) <;> try exact w6 h)|(refine aE fun hA=>?_;subst hA)|intro _)
 all_goals(refine aC ?_;exact aB (hK))
theorem R0 (h:0<=n/\n<=m) (hm:m<=l) (hl:l<=2147483647) (hK:K (I6 0) (rE d (m - n) l::R)):CT 273 #[PO d,I6 n] (rE d m l::R) K:=by
 unfold rE at *
 refine aH Tryz.func273 ?_
 repeat' (first|refine v33 ?_|refine w5 ?_ ?_|((refine bh fun h=>?_) <;> try exact w6 h)|(refine aE fun hA=>?_;subst hA)|intro _)
 all_goals(refine aC ?_;exact aB (hK))
theorem RJ (hK:K (I6 m) (rE d m l::R)):CT 372 #[PO d] (rE d m l::R) K:=by
 unfold rE at *
 refine aH Tryz.func372 ?_
 repeat' (first|refine v4 ?_|refine w5 ?_ ?_|((refine bh fun h=>?_) <;> try exact w6 h)|(refine aE fun hA=>?_;subst hA)|intro _)
 (refine aC ?_;exact aB (hK))
end Go.Proofs.YtepnmcipkangkaaGreat
namespace Go.Proofs.YtepnmcipkangkaaGreat
open Go Go.Proofs Go.Sl
attribute [local irreducible] aN fL cL bM aL aR aA dJ dK aU dI pt ro fC star sep bF
variable {R C:List HP} {K:KP} {r cap c kk:Nat} {bs buf:List UInt8} {A:Option Addr} {fi m n:Int}
def CM (cap fi:Nat) (buf bs:List UInt8):Prop:=buf.length=cap/\(fi<cap\/(cap=0/\fi=0))/\bs.length<=cap/\∀i,i<bs.length->bs[i]?=buf[(fi+i) % cap]?
def k6 (r cap:Nat) (bs:List UInt8):HP:=fC fun A=>fC fun c=>fC fun fi=>fC fun buf=>sep (pt r [.slice A cap c,I6 (fi:Nat),I6 bs.length] 336) (sep (bT A c 5 eG buf) (bF (CM cap fi buf bs)))
theorem p8 {fi m:Nat} (h:CM cap fi buf bs) (hm:bs.length=m):aG (pt r [.slice A cap c,I6 fi,I6 m] 336::bT A c 5 eG buf::R) (k6 r cap bs::R):=by
 subst hm
 exact aG.ex A (aG.ex c (aG.ex fi (aG.ex buf (aG.sep (aG.pick aW.here (aG.sep (aG.pick aW.here (aG.pure h (aG.refl _)))))))))
theorem yE {f:FuncId} {args:Array Value} (h:∀A c fi buf,CM cap fi buf bs->CT f args (pt r [.slice A cap c,I6 fi,I6 bs.length] 336::bT A c 5 eG buf::R) K):CT f args (k6 r cap bs::R) K:=
 aA.ex fun A=>aA.ex fun c=>aA.ex fun fi=>aA.ex fun buf=>aA.sep (aA.ent (aG.trans (aG.cons aG.unsep) (fun _ hs=>(hs.perm (List.Perm.trans (List.Perm.cons _ (List.Perm.swap _ _ _)) (List.Perm.swap _ _ _))))) (aA.pure fun hI=>h A c fi buf hI))
theorem Yd (cap:Nat):CM cap 0 (List.replicate cap 0) []:=⟨by simp,by omega,by simp,fun i h=>by simp at h⟩
theorem VU (h:cap<=65536) (hK:∀r,K (.tuple #[PO r,I6 0]) (k6 r cap []::R)):CT 361 #[I6 cap] R K:=by
 refine aH Tryz.func361 ?_
 repeat' (first|refine v6 ?_|refine w5 ?_ ?_|((refine bh fun h=>?_) <;> try exact w6 h)|(refine aE fun hA=>?_;subst hA)|intro _|(show aN _ _ _ _ _ _ _;refine O0 ?_;intro _))
 refine aC ?_
 exact aM (aG.trans (by exact aY) (p8 (Yd cap) rfl)) (hK _)
theorem I8 (hK:K (I6 0) R):CT 157 #[.pointer none] R K:=by
 refine aH Tryz.func157 ?_
 repeat' (first|refine v4 ?_|refine w5 ?_ ?_|((refine bh fun h=>?_) <;> try exact w6 h)|(refine aE fun hA=>?_;subst hA)|intro _)
 (refine aC ?_;exact aB (hK))
theorem AH (hK:K (I6 m) (pt r [.slice A cap c,I6 fi,I6 m] 336::R)):CT 157 #[PO r] (pt r [.slice A cap c,I6 fi,I6 m] 336::R) K:=by
 refine aH Tryz.func157 ?_
 repeat' (first|refine v4 ?_|refine w5 ?_ ?_|((refine bh fun h=>?_) <;> try exact w6 h)|(refine aE fun hA=>?_;subst hA)|intro _)
 (refine aC ?_;exact aB (hK))
theorem Af3 (hK:K (I6 cap) (pt r [.slice A cap c,I6 fi,I6 m] 336::R)):CT 446 #[PO r] (pt r [.slice A cap c,I6 fi,I6 m] 336::R) K:=by
 refine aH Tryz.func446 ?_
 repeat' (first|refine v4 ?_|refine w5 ?_ ?_|((refine bh fun h=>?_) <;> try exact w6 h)|(refine aE fun hA=>?_;subst hA)|intro _)
 (refine aC ?_;exact aB (hK))
theorem LL (hm:0<=m/\m<=cap) (hc:cap<=65536) (hK:K (I6 (cap - m)) (pt r [.slice A cap c,I6 fi,I6 m] 336::R)):CT 417 #[PO r] (pt r [.slice A cap c,I6 fi,I6 m] 336::R) K:=by
 refine aH Tryz.func417 ?_
 repeat' (first|refine v8 ?_|refine w5 ?_ ?_|((refine bh fun h=>?_) <;> try exact w6 h)|(refine aE fun hA=>?_;subst hA)|intro _|(show aA _ 446 _ _ _;refine CA (h:=Af3 ?_))|(show aA _ 157 _ _ _;refine CA (h:=AH ?_)))
 (refine aC ?_;exact aB (hK))
def pL:List (Nat×Nat):= [(0,0),(1,0),(2,0),(3,0),(4,0),(5,0),(6,0),(7,0),(8,0),(9,0),(10,0),(11,0),(12,0),(13,0),(14,0),(15,1)]
theorem YF (hK:K (I6 0) R):CT 347 #[.pointer none,I6 n] R K:=by
 refine aH Tryz.func347 ?_
 repeat' (first|refine v67 ?_|refine dw pL ?_|refine w5 ?_ ?_|((refine bh fun h=>?_) <;> try exact w6 h)|(refine aE fun hA=>?_;subst hA)|intro _|(show aA _ 157 _ _ _;refine CA (h:=I8 ?_)))
 all_goals(refine aC ?_;exact aB (ki hK (by omega)))
theorem ZJ {fi:Nat} (h:CM cap fi buf bs) (hk:kk<=bs.length) (hc:0<cap):CM cap ((fi+kk) % cap) buf (bs.drop kk):=by
 obtain⟨h1,h2,h3,h4⟩:=h
 refine⟨h1,.inl (Nat.mod_lt _ hc),by rw[List.length_drop];omega,fun i hi=>?_⟩
 rw[List.length_drop] at hi
 rw[List.getElem?_drop,h4 (kk+i) (by omega),Nat.mod_add_mod,Nat.add_assoc]
theorem Rl (hc:cap<=65536) (hk:(kk:Int)=max (min n bs.length) 0) (hK:K (I6 kk) (k6 r cap (bs.drop kk)::R)):CT 347 #[PO r,I6 n] (k6 r cap bs::R) K:=by
 refine yE fun A c fi buf hI=>?_
 have hI':=hI
 obtain⟨h1,h2,h3,h4⟩:=hI'
 by_cases h0:kk=0
 ·subst h0
  rw[List.drop_zero] at hK
  refine aH Tryz.func347 ?_
  repeat' (first|refine v67 ?_|refine dw pL ?_|refine w5 ?_ ?_|((refine bh fun h=>?_) <;> try exact w6 h)|(refine aE fun hA=>?_;subst hA)|intro _|(show aA _ 157 _ _ _;refine CA (h:=AH ?_)))
  all_goals
   refine aC ?_
   exact aM (aG.trans (by exact aY) (p8 hI rfl)) (ki hK (by omega))
 ·have hcap:0<cap:=by omega
  have hd:=ZJ (kk:=kk) hI (by omega) hcap
  refine aH Tryz.func347 ?_
  repeat' (first|refine v67 ?_|refine dw pL ?_|refine w5 ?_ ?_|((refine bh fun h=>?_) <;> try exact w6 h)|(refine aE fun hA=>?_;subst hA)|intro _|(show aA _ 157 _ _ _;refine CA (h:=AH ?_)))
  have e1:((fi:Int)+(kk:Int)) % (cap:Int)=(((fi+kk) % cap:Nat):Int):=by push_cast;rfl
  have e2:((bs.length:Nat):Int) - (kk:Int)=((bs.drop kk).length:Nat):=by rw[List.length_drop];omega
  rw[<- hk,e1,e2]
  refine aC ?_
  exact aM (aG.trans (by exact aY) (p8 hd rfl)) hK
theorem HZ (hK:K (I6 0) R):CT 426 #[.pointer none] R K:=by
 refine aH Tryz.func426 ?_
 repeat' (first|refine v0 ?_|refine w5 ?_ ?_|((refine bh fun h=>?_) <;> try exact w6 h)|(refine aE fun hA=>?_;subst hA)|intro _|(show aA _ 157 _ _ _;refine CA (h:=I8 ?_))|(show aA _ 347 _ _ _;refine CA (h:=YF ?_)))
 (refine aC ?_;exact aB (hK))
theorem Wl (hK:K (I6 bs.length) (k6 r cap bs::R)):CT 157 #[PO r] (k6 r cap bs::R) K:=by
 refine yE fun A c fi buf hI=>?_
 refine aH Tryz.func157 ?_
 repeat' (first|refine v4 ?_|refine w5 ?_ ?_|((refine bh fun h=>?_) <;> try exact w6 h)|(refine aE fun hA=>?_;subst hA)|intro _)
 refine aC ?_
 exact aM (p8 hI rfl) hK
theorem Lj (hc:cap<=65536) (hK:K (I6 bs.length) (k6 r cap []::R)):CT 426 #[PO r] (k6 r cap bs::R) K:=by
 have hd:bs.drop bs.length= []:=List.drop_eq_nil_of_le (Nat.le_refl _)
 rw[<- hd] at hK
 refine aH Tryz.func426 ?_
 repeat' (first|refine v0 ?_|refine w5 ?_ ?_|((refine bh fun h=>?_) <;> try exact w6 h)|(refine aE fun hA=>?_;subst hA)|intro _|(show aA _ 157 _ _ _;refine CA (h:=Wl ?_))|(show aA _ 347 _ _ _;refine CA (h:=Rl (kk:=bs.length) hc (by omega) ?_)))
 (refine aC ?_;exact aB (hK))
end Go.Proofs.YtepnmcipkangkaaGreat
end
section
namespace Go.Proofs.YtepnmcipkangkaaGreat
open Go Go.Proofs Go.Sl
attribute [local irreducible] aN fL cL bM aL aR aA dJ dK aU dI pt ro fC star sep bF
variable {R C:List HP} {K:KP} {q:Nat} {cap st ac tk dr:Int} {s:ByteArray} {l:List ByteArray}
theorem FH (hn:l.length<=1000) (ha:0<=ac/\ac<=1000000000) (h:(l.length:Int)<cap) (hK:K (I6 1) (y5 q cap st (l++ [s]) (ac+1) tk dr::R)):CT 345 #[PO q,.string s] (y5 q cap st l ac tk dr::R) K:=by
 refine aH Tryz.func345 ?_
 repeat' (first|refine Sn ?_|refine w5 ?_ ?_|((refine bh fun h=>?_) <;> try exact w6 h)|(refine aE fun hA=>?_;subst hA)|intro _|(show aA _ 419 _ _ _;refine CA (h:=W1 ?_))|(show aA _ 418 _ _ _;refine CA (h:=L1 hn ha ?_)))
 all_goals(refine aC ?_;exact aB (hK))
def CK:List (Nat×Nat):= [(0,0),(1,0),(2,0),(3,0),(4,0),(5,0),(6,0),(7,0),(8,0),(9,0),(10,0),(11,0),(12,0),(13,0),(14,0)]
theorem Di {n c:Nat} {A:Option Addr} (hK:K (.bool (decide (cap<=n))) (pt q [I6 cap,I6 st,.slice A n c,I6 ac,I6 tk,I6 dr] 338::R)):CT 419 #[PO q] (pt q [I6 cap,I6 st,.slice A n c,I6 ac,I6 tk,I6 dr] 338::R) K:=by
 refine aH Tryz.func419 ?_
 repeat' (first|refine v16 ?_|refine dw CK ?_|refine w5 ?_ ?_|((refine bh fun h=>?_) <;> try exact w6 h)|(refine aE fun hA=>?_;subst hA)|intro _)
 all_goals(refine aC ?_;exact aB (kb hK (by simp <;> omega)))
theorem Zq (h:cap<=l.length) (h2:st=0) (hK:K (I6 0) (y5 q cap st l ac tk dr::R)):CT 345 #[PO q,.string s] (y5 q cap st l ac tk dr::R) K:=by
 refine u3 fun A c hc=>?_
 refine aH Tryz.func345 ?_
 repeat' (first|refine Sn ?_|refine w5 ?_ ?_|((refine bh fun h=>?_) <;> try exact w6 h)|(refine aE fun hA=>?_;subst hA)|intro _|(show aA _ 419 _ _ _;refine CA (h:=Di ?_)))
 refine aC ?_
 exact aM (aG.trans (by exact aY) (uX rfl)) hK
theorem Zc (ha:0<=ac/\ac<=1000000000) (hd:0<=dr/\dr<=1000000000) (h:cap<=l.length) (h2:st≠0) (h3:st=1\/cap=0) (hK:K (I6 2) (y5 q cap st l (ac+1) tk (dr+1)::R)):CT 345 #[PO q,.string s] (y5 q cap st l ac tk dr::R) K:=by
 refine u3 fun A c hc=>?_
 refine aH Tryz.func345 ?_
 repeat' (first|refine Sn ?_|refine w5 ?_ ?_|((refine bh fun h=>?_) <;> try exact w6 h)|(refine aE fun hA=>?_;subst hA)|intro _|(show aA _ 419 _ _ _;refine CA (h:=Di ?_)))
 all_goals
  refine aC ?_
  exact aM (aG.trans (by exact aY) (uX rfl)) hK
end Go.Proofs.YtepnmcipkangkaaGreat
namespace Go.Proofs.YtepnmcipkangkaaGreat
open Go Go.Proofs Go.Sl
attribute [local irreducible] aN fL cL bM aL aR aA dJ dK aU dI pt ro fC star sep bF
variable {R C:List HP} {K:KP} {q:Nat} {cap st ac tk dr:Int} {s:ByteArray} {l:List ByteArray}
theorem Rn {c:Nat} {A:Option Addr} {n:Nat} (hm:n=(s::l).length) (hc:n<=c) (hn:l.length<=1000) (hK:∀A' c',K (.string s) (pt q [I6 cap,I6 st,.slice A' l.length c',I6 ac,I6 tk,I6 dr] 338::bT A' c' 9 sxC l::R)):CT 420 #[PO q] (pt q [I6 cap,I6 st,.slice A n c,I6 ac,I6 tk,I6 dr] 338::bT A c 9 sxC (s::l)::R) K:=by
 subst hm
 have hl:(s::l).length=l.length+1:=rfl
 have h0:(s::l)[(0:Int).toNat]?=some s:=rfl
 have hlen:(List.take ((((s::l).length:Nat):Int).toNat - (1:Int).toNat) (List.drop (1:Int).toNat (s::l))).length=(((s::l).length:Nat):Int).toNat - (1:Int).toNat:=by simp
 have hbg:(2 * (0+(List.take ((((s::l).length:Nat):Int).toNat - (1:Int).toNat) (List.drop (1:Int).toNat (s::l))).length)+512) * 16<=281474976710656:=by simp;omega
 have heq:List.take ((((s::l).length:Nat):Int).toNat - (1:Int).toNat) (List.drop (1:Int).toNat (s::l))=l:=by simp
 refine aH Tryz.func420 ?_
 repeat' (first|refine v40 ?_|refine w5 ?_ ?_|((refine bh fun h=>?_) <;> try exact w6 h)|(refine aE fun hA=>?_;subst hA)|intro _|(show aN _ _ _ _ _ _ _;refine d3 (hbig:=hbg) ?_;intro _ _))
 refine aC ?_
 simp only[heq]
 exact aB (hK _ _)
theorem Y7 {s0:ByteArray} (hn:l.length<=1000) (ha:0<=ac/\ac<=1000000000) (hd:0<=dr/\dr<=1000000000) (h:cap<=(s0::l).length) (h2:st≠0) (h3:st≠1) (h4:cap≠0) (hK:K (I6 3) (y5 q cap st (l++ [s]) (ac+1) tk (dr+1)::R)):CT 345 #[PO q,.string s] (y5 q cap st (s0::l) ac tk dr::R) K:=by
 refine u3 fun A c hc=>?_
 refine aH Tryz.func345 ?_
 repeat' (first|refine Sn ?_|refine w5 ?_ ?_|((refine bh fun h=>?_) <;> try exact w6 h)|(refine aE fun hA=>?_;subst hA)|intro _|(show aA _ 419 _ _ _;refine CA (h:=Di ?_))|(show aA _ 420 _ _ _;refine CA (h:=Rn rfl hc hn (fun A2 c2=>?_)))|(show aA _ 418 _ _ _;refine CA (h:=L1 hn ha ?_)))
 all_goals(refine aC ?_;exact aB (hK))
end Go.Proofs.YtepnmcipkangkaaGreat
end
namespace Go.Proofs.YtepnmcipkangkaaGreat
open Go Go.Proofs Go.Sl
attribute [local irreducible] aN fL cL bM aL aR aA dJ dK aU dI pt ro fC star sep bF
variable {R C:List HP} {K:KP} {r cap fi c kk:Nat} {m n:Int} {bs buf:List UInt8} {A:Option Addr} {s:ByteArray}
theorem Ap7 (s:ByteArray):s.data.toList.length=s.size:=by simp
theorem UO (h:CM cap fi buf bs) (hm:m=(bs.length:Nat)):aG (pt r [.slice A cap c,I6 fi,I6 m] 336::bT A c 5 eG buf::R) (k6 r cap bs::R):=by
 subst hm
 exact p8 h rfl
theorem Am5 {x:Nat} (h:x<2 * cap):x % cap=if x<cap then x else x - cap:=by
 split
 ·exact Nat.mod_eq_of_lt (by assumption)
 ·rw[Nat.mod_eq_sub_mod (by omega),Nat.mod_eq_of_lt (by omega)]
theorem T9 {at_ k:Nat} {w x1 x2:List UInt8} (h:CM cap fi buf bs) (hc:0<cap) (hw:bs.length+w.length<=cap) (ha:at_=(fi+bs.length) % cap) (hk:k=min w.length (cap - at_))
  (h1:x1=buf.take at_++(w.take k++buf.drop (at_+k))) (h2:x2=w.drop k++x1.drop (w.length - k)):CM cap fi x2 (bs++w):=by
 obtain⟨b1,b2,b3,b4⟩:=h
 have hat:at_<cap:=by rw[ha];exact Nat.mod_lt _ hc
 have hk1:k<=w.length:=by omega
 have hk2:at_+k<=cap:=by omega
 have hfi:fi<cap:=by omega
 rw[Am5 (by omega)] at ha
 have l1:x1.length=cap:=by
  subst h1
  simp only[List.length_append,List.length_take,List.length_drop]
  omega
 have l2:x2.length=cap:=by
  subst h2
  simp only[List.length_append,List.length_drop,l1]
  omega
 have g1:∀j,j<cap->x1[j]?=if j<at_ then buf[j]? else if j<at_+k then w[j - at_]? else buf[j]?:=by
  intro j hj
  subst h1
  have t1:(buf.take at_).length=at_:=by rw[List.length_take];omega
  have t2:(w.take k).length=k:=by rw[List.length_take];omega
  rw[List.getElem?_append,t1]
  split
  ·rw[List.getElem?_take];simp_all
  ·rw[List.getElem?_append,t2]
   split
   ·rw[if_pos (by omega),List.getElem?_take,if_pos (by omega)]
   ·rw[if_neg (by omega),List.getElem?_drop];congr 1;omega
 have g2:∀j,j<cap->x2[j]?=if j<w.length - k then w[k+j]? else x1[j]?:=by
  intro j hj
  subst h2
  rw[List.getElem?_append,List.length_drop]
  split
  ·rw[List.getElem?_drop]
  ·rw[List.getElem?_drop];congr 1;omega
 refine⟨l2,.inl hfi,by rw[List.length_append];omega,fun i hi=>?_⟩
 rw[List.length_append] at hi
 have hp:(fi+i) % cap<cap:=Nat.mod_lt _ hc
 have hm:=Am5 (x:=fi+i) (cap:=cap) (by omega)
 rw[g2 _ hp,g1 _ hp,List.getElem?_append]
 by_cases c1:i<bs.length
 ·rw[if_pos c1,b4 i c1]
  have e1:¬((fi+i) % cap<w.length - k):=by
   rw[hm];split at ha <;> split <;> omega
  rw[if_neg e1]
  by_cases e2:(fi+i) % cap<at_
  ·rw[if_pos e2]
  ·rw[if_neg e2,if_neg]
   rw[hm] at e2 ⊢
   split at ha <;> split at e2 <;> (try split) <;> omega
 ·rw[if_neg c1]
  by_cases c2:i - bs.length<k
  ·have e0:(fi+i) % cap=at_+(i - bs.length):=by
    rw[hm];split at ha <;> split <;> omega
   rw[if_neg (by rw[e0];omega),if_neg (by rw[e0];omega),if_pos (by rw[e0];omega),e0]
   congr 1;omega
  ·have e0:(fi+i) % cap+k=i - bs.length:=by
    rw[hm];split at ha <;> split <;> omega
   rw[if_pos (by omega)]
   congr 1;omega
def uG:List (Nat×Nat):= [(0,0),(1,0),(2,0),(3,0),(4,0),(5,0),(6,0),(7,0),(8,0),(9,0),(10,0),(11,0),(12,0),(13,0),(14,0),(15,0)]
def uK:List (Nat×Nat):= [(0,0),(1,0),(2,0),(3,0),(4,0),(5,0),(6,0),(7,0),(8,0),(9,1),(10,0)]
def uI:List (Nat×Nat):= [(0,0),(1,0),(2,0),(3,0),(4,0),(5,0),(6,0),(7,0),(8,1)]
theorem Ie (hc:cap<=65536) (hz:s.size=0\/cap<=bs.length) (hK:K (I6 0) (k6 r cap bs::R)):CT 344 #[PO r,.string s] (k6 r cap bs::R) K:=by
 refine yE fun A c fi buf hI=>?_
 have hI':=hI
 obtain⟨h1,h2,h3,h4⟩:=hI'
 refine aH Tryz.func344 ?_
 repeat' (first|refine v85 ?_|refine dw uG ?_|refine dw uK ?_|refine dw uI ?_|refine w5 ?_ ?_|((refine bh fun h=>?_) <;> try exact w6 h)|(refine aE fun hA=>?_;subst hA)|intro _|(show aA _ 417 _ _ _;refine CA (h:=LL (by omega) hc ?_)))
 all_goals
  refine aC ?_
  exact aM (aG.trans (by exact aY) (p8 hI rfl)) (ki hK (by omega))
theorem LE {n:Nat} (hc:cap<=65536) (hn:(n:Int)=min (s.size:Int) ((cap:Int) - (bs.length:Int))) (h0:0<n) (hK:K (I6 n) (k6 r cap (bs++s.data.toList.take n)::R)):CT 344 #[PO r,.string s] (k6 r cap bs::R) K:=by
 refine yE fun A c fi buf hI=>?_
 have hI':=hI
 obtain⟨h1,h2,h3,h4⟩:=hI'
 refine i7 (aW.there aW.here) fun hbc=>?_
 refine qI (aW.there aW.here) (by omega) fun B off hA=>?_
 subst hA
 have hsl:s.data.toList.length=s.size:=by simp
 have hes:(s.extract 0 ((n:Int)).toNat).size=n:=by simp;omega
 have hat:(fi+bs.length) % cap<cap:=Nat.mod_lt _ (by omega)
 have e1:((fi:Int)+(bs.length:Int)) % (cap:Int)=(((fi+bs.length) % cap:Nat):Int):=by push_cast;rfl
 have hwr:=fun x1 x2 k=>T9 (w:=s.data.toList.take n) (x1:=x1) (x2:=x2) (at_:=(fi+bs.length) % cap) (k:=k) hI (by omega) (by rw[List.length_take,hsl];omega) rfl
 generalize hag:(fi+bs.length) % cap=at_ at *
 refine aH Tryz.func344 ?_
 repeat' (first|(show aN _ _ _ _ _ _ _;rw[<- hn])|(show aN _ _ _ _ _ _ _;rw[e1])|(show aN _ _ _ _ _ _ _;refine oG ?_;intro A' hA';obtain rfl:=Aoe (j:=at_) hA' (by omega) (by omega))|refine v85 ?_|refine dw uG ?_|refine dw uK ?_|refine dw uI ?_|refine w5 ?_ ?_|((refine bh fun h=>?_) <;> try exact w6 h)|(refine aE fun hA=>?_;subst hA)|intro _|(show aA _ 417 _ _ _;refine CA (h:=LL (by omega) hc ?_))|(show aN _ _ _ _ _ _ _;refine Wq (j:=at_) (hj:=by omega) ?_)|(show aN _ _ _ _ _ _ _;refine Wq (j:=0) (hj:=by simp only[List.length_append,List.length_take,List.length_drop,Ap7];omega) ?_))
 have exl:∀i j,(s.extract i j).data.toList=(s.data.toList.drop i).take (j - i):=fun i j=>by simp
 have hkn:min n (cap - at_)<=n:=by omega
 have exs:(s.extract (min n (cap - at_)) n).size=n - min n (cap - at_):=by simp;omega
 simp only[Int.toNat_natCast] at hes ⊢
 simp only[hes,exs,exl]
 have hln:(s.data.toList.take n).length=n:=by rw[List.length_take,hsl];omega
 rw[hln] at hwr
 generalize hkk:min n (cap - at_)=kk at *
 refine aC ?_
 refine aM (C':=k6 r cap (bs++List.take n s.data.toList)::R) ?_ hK
 refine UO (hwr _ _ kk rfl rfl ?_) ?_
 ·rw[show min (n - kk) cap=n - kk by omega,List.drop_take]
  simp[List.take_take]
 ·rw[List.length_append,hln];push_cast;rfl
theorem Adt {r2:Nat} {fi fr to:Int} (h:0<=fr/\fr<=to/\to<=cap) (hc:cap<=c) (hb:buf.length=cap)
  (hK:∀A',(∀C',dW C' A eG buf->dW C' A' eG ((buf.drop fr.toNat).take (to.toNat - fr.toNat)))->((buf.drop fr.toNat).take (to.toNat - fr.toNat)).length=to.toNat - fr.toNat->K (.slice A' (to.toNat - fr.toNat) (to.toNat - fr.toNat)) (pt r2 [PO r] 224::pt r [.slice A cap c,I6 fi,I6 m] 336::R)):
  CT 421 #[I6 fr,I6 to,PO r2] (pt r2 [PO r] 224::pt r [.slice A cap c,I6 fi,I6 m] 336::R) K:=by
 refine aH Tryz.func421 ?_
 repeat' (first|(show aN _ _ _ _ _ _ _;refine oG ?_;intro A' hA')|refine v40 ?_|refine w5 ?_ ?_|((refine bh fun h=>?_) <;> try exact w6 h)|(refine aE fun hA=>?_;subst hA)|intro _)
 refine aC ?_
 refine aB (hK A' (fun C' hv=>F2 hv hA' (by omega) (.inr (by omega))) ?_)
 rw[List.length_take,List.length_drop]
 omega
theorem W8 {p1 p2:List UInt8} {e:Nat} (h:CM cap fi buf bs) (hk:kk<=bs.length) (h0:0<kk) (he:e=min (fi+kk) cap) (h1:p1=(buf.drop fi).take (e - fi)) (h2:p2=buf.take (kk - (e - fi))):p1++p2=bs.take kk:=by
 obtain⟨b1,b2,b3,b4⟩:=h
 have hfi:fi<cap:=by omega
 have l1:p1.length=e - fi:=by subst h1;rw[List.length_take,List.length_drop];omega
 have l2:p2.length=kk - (e - fi):=by subst h2;rw[List.length_take];omega
 apply List.ext_getElem?
 intro i
 rw[List.getElem?_append,l1,List.getElem?_take]
 by_cases c:i<kk
 ·rw[if_pos c,b4 i (by omega),Am5 (by omega)]
  split
  ·subst h1
   rw[List.getElem?_take,if_pos (by assumption),List.getElem?_drop,if_pos (by omega)]
  ·subst h2
   rw[List.getElem?_take,if_pos (by omega),if_neg (by omega)]
   congr 1;omega
 ·rw[if_neg c,if_neg (by omega)]
  exact List.getElem?_eq_none (by omega)
def wX:List (Nat×Nat):= [(0,0),(1,0),(2,0),(3,0),(4,0),(5,0),(6,0),(7,0),(8,0),(9,0),(10,0),(11,0),(12,0)]
theorem Acy (hc:cap<=65536) (hk:(kk:Int)=max (min n bs.length) 0) (hK:K (.string ⟨(bs.take kk).toArray⟩) (k6 r cap bs::R)):CT 346 #[PO r,I6 n] (k6 r cap bs::R) K:=by
 refine yE fun A c fi buf hI=>?_
 have hI':=hI
 obtain⟨h1,h2,h3,h4⟩:=hI'
 refine i7 (aW.there aW.here) fun hbc=>?_
 by_cases h0:kk=0
 ·subst h0
  rw[List.take_zero] at hK
  refine aH Tryz.func346 ?_
  repeat' (first|refine V5 ?_|refine dw wX ?_|refine w5 ?_ ?_|((refine bh fun h=>?_) <;> try exact w6 h)|(refine aE fun hA=>?_;subst hA)|intro _|(show aA _ 157 _ _ _;refine CA (h:=AH ?_)))
  refine aC ?_
  exact aM (aG.trans (by exact aY) (p8 hI rfl)) hK
 ·refine aH Tryz.func346 ?_
  repeat' (first|refine V5 ?_|refine dw wX ?_|refine w5 ?_ ?_|((refine bh fun h=>?_) <;> try exact w6 h)|(refine aE fun hA=>?_;subst hA)|intro _|(show aA _ 157 _ _ _;refine CA (h:=AH ?_))|(show aA _ 421 _ _ _;refine CA (h:=Adt (buf:=buf) ⟨by omega,by omega,by omega⟩ (by omega) h1 (fun A1 hv hl=>?_)))|(show aN _ _ _ _ _ _ _;refine d3 (hsrc:=tA (hv _ (by exact lL)) hl) ?_;intro _ _)|(show aN _ _ _ _ _ _ _;refine dD (hsrc:=tA (hv _ (by exact lL)) hl) ?_;intro _ _))
  refine aC ?_
  refine aM (aG.trans (by exact aY) (p8 hI rfl)) (kv hK ?_)
  congr 3
  symm
  refine W8 (e:=min (fi+kk) cap) hI (by omega) (by omega) rfl ?_ ?_
  ·congr 1 <;> (try congr 1) <;> omega
  ·simp
   congr 1
   omega
theorem FX (hc:cap<=65536) (hk:(kk:Int)=max (min n bs.length) 0) (hK:K (.string ⟨(bs.take kk).toArray⟩) (k6 r cap (bs.drop kk)::R)):CT 240 #[PO r,I6 n] (k6 r cap bs::R) K:=by
 have hs:(ByteArray.mk (bs.take kk).toArray).size=kk:=by simp[xE];omega
 refine aH Tryz.func240 ?_
 repeat' (first|refine v0 ?_|refine w5 ?_ ?_|((refine bh fun h=>?_) <;> try exact w6 h)|(refine aE fun hA=>?_;subst hA)|intro _|(show aA _ 346 _ _ _;refine CA (h:=Acy hc hk ?_))|(show aA _ 347 _ _ _;refine CA (h:=Rl (kk:=kk) hc (by rw[hs];omega) ?_)))
 (refine aC ?_;exact aB (hK))
end Go.Proofs.YtepnmcipkangkaaGreat
