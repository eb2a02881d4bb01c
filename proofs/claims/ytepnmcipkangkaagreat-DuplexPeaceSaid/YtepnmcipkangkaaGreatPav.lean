/- A part of the proof: lemmas; each with the conditions that it states. -/
import Derived.Test.YtepnmcipkangkaaGreatPau
import Derived.Test.YtepnmcipkangkaaGreatPap
set_option linter.unusedVariables false
set_option linter.unusedSimpArgs false
set_option maxRecDepth 100000
set_option maxHeartbeats 40000000
namespace Go.Proofs.YtepnmcipkangkaaGreat
open Go Go.Proofs Go.Sl
attribute [local irreducible] aN fJ cY bN aM aS aA dM dN aV dL pt ro fB star sep bF
attribute [local irreducible] ByteArray.extract rK eU
variable {R C:List HP} {K:KP} {u p:ByteArray} {A:Option Addr} {n c:Nat} {bs:List UInt8}
def sL (p:ByteArray):Int:=HO (p.extract 0 9) 0 3
def sT (p:ByteArray):Int:=HO (p.extract 0 9) 3 4
def sF (p:ByteArray):Int:=HO (p.extract 0 9) 4 5
def sS (p:ByteArray):Int:=HO (p.extract 0 9) 5 9
def sQ (p:ByteArray):ByteArray:=p.extract 9 (9+(sL p).toNat)
def uV (p:ByteArray):Option Int:=if p.size<9 then some 0 else if KB (p.extract 0 9)=0 then(if mW (sL p) (sT p) (sF p) (sS p)=0 then(if(p.size:Int)<9+sL p then some 0 else if gE (sL p) (sT p) (sF p) (sS p) (sQ p)=0 then none else some (gE (sL p) (sT p) (sF p) (sS p) (sQ p))) else some (mW (sL p) (sT p) (sF p) (sS p))) else some 1
theorem I1 {l t f s:Int} (h:mW l t f s=0):0<=l/\l<=256:=by
 unfold mW at h
 (repeat' split at h) <;> omega
def frA (p:ByteArray) (A:Option Addr) (c:Nat):Fm:=⟨sT p,sS p,(sF p == 1),gD (sT p) (sQ p),gK (sT p) (sQ p),gO (sT p) (sQ p),gW (sT p) (sQ p),gX (sT p) (sQ p),gC (sT p) (sQ p),gL (sT p) (sQ p),gN (sT p) (sQ p),A,(gP (sT p) (sQ p)).length,c,gP (sT p) (sQ p)⟩
theorem LX (p:ByteArray):-9223372036854775808<=sF p/\sF p<=9223372036854775807:=by
 unfold sF HO
 split
 ·have h1:=(Ev (p.extract 0 9) 4 5).1
  have h2:rK (p.extract 0 9) 4 5<256:=by have:=(Ev (p.extract 0 9) 4 5).2;simpa using this
  omega
 ·omega
theorem Ao7 (p:ByteArray):0<=sL p:=by
 unfold sL HO
 split
 ·exact(Ev _ _ _).1
 ·omega
def hZ (bs:List UInt8):ByteArray:=⟨bs.toArray⟩
theorem i8 (bs:List UInt8):(hZ bs).size=bs.length:=xC _
theorem Cm (bs:List UInt8) (i j:Nat):hZ ((bs.drop i).take (j - i))=(hZ bs).extract i j:=by
 apply F1
 unfold hZ
 simp
theorem Bj (h:u=p.extract 0 9) (hK:K (.tuple #[.agg #[I6 (sL p),I6 (sT p),I6 (sF p),I6 (sS p)],I6 (KB (p.extract 0 9))]) R):CT 289 #[.string u] R K:=by
 subst h;exact Ag3 hK
theorem Xn (hu:u=sQ p) (h:gE (sL p) (sT p) (sF p) (sS p) (sQ p)=0) (hK:∀A c,K (.tuple #[.agg #[I6 (sT p),I6 (sS p),.bool (sF p == 1),.string (gD (sT p) (sQ p)),I6 (gK (sT p) (sQ p)),I6 (gO (sT p) (sQ p)),I6 (gW (sT p) (sQ p)),.bool (gX (sT p) (sQ p)),I6 (gC (sT p) (sQ p)),I6 (gL (sT p) (sQ p)),I6 (gN (sT p) (sQ p)),.slice A (gP (sT p) (sQ p)).length c],I6 0]) (bV A c 349 tI (gP (sT p) (sQ p))::R)):CT 291 #[.agg #[I6 (sL p),I6 (sT p),I6 (sF p),I6 (sS p)],.string u] R K:=by
 subst hu;exact Acd (LX p) h hK
theorem X3 (hu:u=sQ p) (h:gE (sL p) (sT p) (sF p) (sS p) (sQ p)≠0) (hK:K (.tuple #[.agg #[I6 0,I6 0,.bool false,.string ⟨#[]⟩,I6 0,I6 0,I6 0,.bool false,I6 0,I6 0,I6 0,.slice none 0 0],I6 (gE (sL p) (sT p) (sF p) (sS p) (sQ p))]) R):CT 291 #[.agg #[I6 (sL p),I6 (sT p),I6 (sF p),I6 (sS p)],.string u] R K:=by
 subst hu;exact Agv (LX p) h hK
def iM:Tr:=(.br (.st 1 1 (.st 2 1 (.st 3 1 (.st 4 2 (.br (.st 0 2 (.st 5 2 (.st 9 3 (.st 6 1 (.st 7 1 (.st 10 1 (.st 8 2 (.st 11 0 .nil)))))))) (.st 9 3 (.st 0 2 (.st 5 2 (.st 6 1 (.st 7 1 (.st 10 1 (.st 8 2 (.st 11 0 .nil))))))))))))) (.st 9 3 (.st 1 1 (.st 2 1 (.st 3 1 (.st 4 2 (.st 0 2 (.st 5 2 (.st 6 1 (.st 7 1 (.st 10 1 (.st 8 2 (.st 11 0 .nil)))))))))))))
theorem Akw {e:Int} (hn:bs.length=n) (hc:n<=c) (hz:n<1000000000000) (h:uV (hZ bs)=some e) (hK:∀n',K (.tuple #[.agg #[I6 0,I6 0,.bool false,.string ⟨#[]⟩,I6 0,I6 0,I6 0,.bool false,I6 0,I6 0,I6 0,.slice none 0 0],I6 n',I6 e,.bool false]) (oI A dT bs::R)):CT 200 #[.slice A n c] (oI A dT bs::R) K:=by
 subst hn
 have hps:=i8 bs
 have x0:(⟨(List.take ((9:Int).toNat - (0:Int).toNat) (List.drop (0:Int).toNat bs)).toArray⟩:ByteArray)=(hZ bs).extract 0 9:=Cm bs 0 9
 have x1:(⟨(List.take ((9+sL (hZ bs)).toNat - (9:Int).toNat) (List.drop (9:Int).toNat bs)).toArray⟩:ByteArray)=sQ (hZ bs):=by
  have h0:=Ao7 (hZ bs)
  rw[show(9+sL (hZ bs)).toNat - (9:Int).toNat=9+(sL (hZ bs)).toNat - 9 by omega]
  exact Cm bs 9 (9+(sL (hZ bs)).toNat)
 unfold uV at h
 by_cases h1:(hZ bs).size<9
 ·rw[if_pos h1] at h
  cases h
  refine aH Tryz.func200 ?_
  repeat' (first|refine v93 ?_|refine SK iM ?_|refine w5 ?_ ?_|((refine bh fun h=>?_) <;> try exact w6 h)|(refine aE fun hA=>?_;subst hA)|intro _)
  all_goals(refine aC ?_;exact aB (hK _))
 rw[if_neg h1] at h
 have y0:(List.take ((9:Int).toNat - (0:Int).toNat) (List.drop (0:Int).toNat bs)).length=(9:Int).toNat - (0:Int).toNat:=by simp;omega
 by_cases h2:KB ((hZ bs).extract 0 9)=0
 ·rw[if_pos h2] at h
  by_cases h3:mW (sL (hZ bs)) (sT (hZ bs)) (sF (hZ bs)) (sS (hZ bs))=0
  ·rw[if_pos h3] at h
   have hl:=I1 h3
   by_cases h4:((hZ bs).size:Int)<9+sL (hZ bs)
   ·rw[if_pos h4] at h
    cases h
    refine aH Tryz.func200 ?_
    repeat' (first|refine v93 ?_|refine SK iM ?_|refine w5 ?_ ?_|((refine bh fun h=>?_) <;> try exact w6 h)|(refine aE fun hA=>?_;subst hA)|intro _|(show aA _ 289 _ _ _;refine CA (h:=Bj x0 ?_))|(show aA _ 290 _ _ _;refine CA (h:=xG (LX _) ?_)))
    all_goals(refine aC ?_;exact aB (hK _))
   ·rw[if_neg h4] at h
    by_cases h5:gE (sL (hZ bs)) (sT (hZ bs)) (sF (hZ bs)) (sS (hZ bs)) (sQ (hZ bs))=0
    ·rw[if_pos h5] at h;cases h
    ·rw[if_neg h5] at h
     cases h
     have hbf:(gE (sL (hZ bs)) (sT (hZ bs)) (sF (hZ bs)) (sS (hZ bs)) (sQ (hZ bs)) == 0)=false:=by simpa using h5
     have y1:(List.take ((9+sL (hZ bs)).toNat - (9:Int).toNat) (List.drop (9:Int).toNat bs)).length=(9+sL (hZ bs)).toNat - (9:Int).toNat:=by simp;omega
     refine aH Tryz.func200 ?_
     repeat' (first|refine v93 ?_|refine SK iM ?_|refine w5 ?_ ?_|((refine bh fun h=>?_) <;> try exact w6 h)|(refine aE fun hA=>?_;subst hA)|intro _|(show aA _ 289 _ _ _;refine CA (h:=Bj x0 ?_))|(show aA _ 290 _ _ _;refine CA (h:=xG (LX _) ?_))|(show aA _ 291 _ _ _;refine CA (h:=X3 x1 h5 ?_)))
     all_goals(rw[hbf];(refine aC ?_;exact aB (hK _)))
  ·rw[if_neg h3] at h
   cases h
   refine aH Tryz.func200 ?_
   repeat' (first|refine v93 ?_|refine SK iM ?_|refine w5 ?_ ?_|((refine bh fun h=>?_) <;> try exact w6 h)|(refine aE fun hA=>?_;subst hA)|intro _|(show aA _ 289 _ _ _;refine CA (h:=Bj x0 ?_))|(show aA _ 290 _ _ _;refine CA (h:=xG (LX _) ?_)))
   all_goals(refine aC ?_;exact aB (hK _))
 ·rw[if_neg h2] at h
  cases h
  refine aH Tryz.func200 ?_
  repeat' (first|refine v93 ?_|refine SK iM ?_|refine w5 ?_ ?_|((refine bh fun h=>?_) <;> try exact w6 h)|(refine aE fun hA=>?_;subst hA)|intro _|(show aA _ 289 _ _ _;refine CA (h:=Bj x0 ?_)))
  all_goals(refine aC ?_;exact aB (hK _))
theorem Fw (h:uV p=none):9<=p.size/\KB (p.extract 0 9)=0/\mW (sL p) (sT p) (sF p) (sS p)=0/\9+sL p<=p.size/\gE (sL p) (sT p) (sF p) (sS p) (sQ p)=0/\0<=sL p/\sL p<=256:=by
 unfold uV at h
 split at h
 ·cases h
 ·split at h
  ·split at h
   ·rename_i h3
    have hl:=I1 h3
    split at h
    ·cases h
    ·split at h
     ·exact⟨by omega,by assumption,h3,by omega,by assumption,hl.1,hl.2⟩
     ·cases h
   ·cases h
  ·cases h
theorem Aka (hp:hZ bs=p) (hn:bs.length=n) (hc:n<=c) (hz:n<1000000000000) (h:uV p=none) (hK:∀A' c',K (.tuple #[.agg #[I6 (sT p),I6 (sS p),.bool (sF p == 1),.string (gD (sT p) (sQ p)),I6 (gK (sT p) (sQ p)),I6 (gO (sT p) (sQ p)),I6 (gW (sT p) (sQ p)),.bool (gX (sT p) (sQ p)),I6 (gC (sT p) (sQ p)),I6 (gL (sT p) (sQ p)),I6 (gN (sT p) (sQ p)),.slice A' (gP (sT p) (sQ p)).length c'],I6 (9+sL p),I6 0,.bool true]) (bV A' c' 349 tI (gP (sT p) (sQ p))::oI A dT bs::R)):CT 200 #[.slice A n c] (oI A dT bs::R) K:=by
 subst hn
 subst hp
 have hps:=i8 bs
 obtain⟨h1,h2,h3,h4,h5,h6,h7⟩:=Fw h
 have x0:(⟨(List.take ((9:Int).toNat - (0:Int).toNat) (List.drop (0:Int).toNat bs)).toArray⟩:ByteArray)=(hZ bs).extract 0 9:=Cm bs 0 9
 have x1:(⟨(List.take ((9+sL (hZ bs)).toNat - (9:Int).toNat) (List.drop (9:Int).toNat bs)).toArray⟩:ByteArray)=sQ (hZ bs):=by
  rw[show(9+sL (hZ bs)).toNat - (9:Int).toNat=9+(sL (hZ bs)).toNat - 9 by omega]
  exact Cm bs 9 (9+(sL (hZ bs)).toNat)
 have y0:(List.take ((9:Int).toNat - (0:Int).toNat) (List.drop (0:Int).toNat bs)).length=(9:Int).toNat - (0:Int).toNat:=by simp;omega
 have y1:(List.take ((9+sL (hZ bs)).toNat - (9:Int).toNat) (List.drop (9:Int).toNat bs)).length=(9+sL (hZ bs)).toNat - (9:Int).toNat:=by simp;omega
 refine aH Tryz.func200 ?_
 repeat' (first|refine v93 ?_|refine SK iM ?_|refine w5 ?_ ?_|((refine bh fun h=>?_) <;> try exact w6 h)|(refine aE fun hA=>?_;subst hA)|intro _|(show aA _ 289 _ _ _;refine CA (h:=Bj x0 ?_))|(show aA _ 290 _ _ _;refine CA (h:=xG (LX _) ?_))|(show aA _ 291 _ _ _;refine CA (h:=Xn x1 h5 (fun A' c'=>?_))))
 all_goals(refine aC ?_;exact aB (hK _ _))
end Go.Proofs.YtepnmcipkangkaaGreat
section
namespace Go.Proofs.YtepnmcipkangkaaGreat
open Go Go.Proofs Go.Sl
attribute [local irreducible] aN fJ cY bN aM aS aA dM dN aV dL pt ro fB star sep bF
attribute [local irreducible] ByteArray.extract rK eU
variable {R C:List HP} {K:KP} {x n c r:Nat} {bs:List UInt8} {e:Int} {A:Option Addr} {f:FuncId} {args:Array Value} {fs:List Fm}
def spP (x:Nat) (bs:List UInt8) (e:Int):HP:=fB fun A=>fB fun c=>sep (pt x [.slice A bs.length c,I6 e] 277) (bV A c 5 dT bs)
theorem Oz (h:bs.length=n):aG (pt x [.slice A n c,I6 e] 277::bV A c 5 dT bs::R) (spP x bs e::R):=by
 subst h
 exact aG.ex A (aG.ex c (aG.sep (aG.refl _)))
theorem Alb (h:∀A c,CT f args (pt x [.slice A bs.length c,I6 e] 277::bV A c 5 dT bs::R) K):CT f args (spP x bs e::R) K:=
 aA.ex fun A=>aA.ex fun c=>aA.sep (h A c)
theorem Ahw (hK:∀x,K (PO x) (spP x [] 0::R)):CT 90 #[] R K:=by
 refine aH Tryz.func90 ?_
 repeat' (first|refine v6 ?_|refine w5 ?_ ?_|((refine bh fun h=>?_) <;> try exact w6 h)|(refine aE fun hA=>?_;subst hA)|intro _)
 refine aC ?_
 exact aK (aG.trans (aG.pick aU.here (aG.nilrow' (aG.refl _))) (Oz (A:=none) (c:=0) (bs:= []) rfl)) (hK _)
theorem TL (hK:K (I6 e) (pt x [.slice A n c,I6 e] 277::R)):CT 114 #[PO x] (pt x [.slice A n c,I6 e] 277::R) K:=by
 refine aH Tryz.func114 ?_
 repeat' (first|refine v4 ?_|refine w5 ?_ ?_|((refine bh fun h=>?_) <;> try exact w6 h)|(refine aE fun hA=>?_;subst hA)|intro _)
 (refine aC ?_;exact aB (hK))
def KH (r:Nat) (fs:List Fm):HP:=fB fun F=>fB fun c=>sep (pt r [.slice F fs.length c] 189) (sep (bV F c 178 u7 fs) (lS zP fs))
theorem Add (h:∀F c,CT f args (pt r [.slice F fs.length c] 189::bV F c 178 u7 fs::lS zP fs::R) K):CT f args (KH r fs::R) K:=
 aA.ex fun A=>aA.ex fun c=>aA.sep (aA.ent (aG.cons aG.unsep) (h A c))
theorem Sg (h:fs.length=n):aG (pt r [.slice A n c] 189::bV A c 178 u7 fs::lS zP fs::R) (KH r fs::R):=by
 subst h
 exact aG.ex A (aG.ex c (aG.sep (aG.pick aU.here (aG.sep (aG.refl _)))))
theorem Qo {e:TypeId} {xs ys:List Fm} (h:xs.flatMap u7.enc=ys.flatMap u7.enc) (hl:xs.length=ys.length) (H:Hp) (hr:bV A c e u7 xs H):bV A c e u7 ys H:=by
 rcases hr with⟨h1,h2,h3⟩|⟨B,pre,post,h1,h2,h3,h4⟩
 ·subst h2
  exact .inl ⟨h1,List.length_eq_zero_iff.1 hl.symm,h3⟩
 ·rw[h] at h2
  rw[hl] at h3 h4
  exact .inr ⟨B,pre,post,h1,h2,h3,h4⟩
theorem Ab3 (f0 f1:Fm) (he:u7.enc f0=u7.enc f1) (hn:n=(fs++ [f0]).length):aG (pt r [.slice A n c] 189::bV A c 178 u7 (fs++ [f0])::oI f1.pa tI f1.ps::lS zP fs::R) (KH r (fs++ [f1])::R):=
 aG.trans (aG.cons (aG.imp (Qo (ys:=fs++ [f1]) (by simp[he]) (by simp)) (aG.allsnoc (P:=zP) (x:=f1) BO BW))) (Sg (by rw[hn];simp))
end Go.Proofs.YtepnmcipkangkaaGreat
namespace Go.Proofs.YtepnmcipkangkaaGreat
open Go Go.Proofs Go.Sl
attribute [local irreducible] aN fJ cY bN aM aS aA dM dN aV dL pt ro fB star sep bF
attribute [local irreducible] ByteArray.extract rK eU
variable {R C:List HP} {K:KP} {r7 r2 r6 x n c nx cx:Nat} {A S:Option Addr} {bs:List UInt8} {e0:Int}
theorem Afx {e:Int} (hn:bs.length=n) (hc:n<=c) (hz:n<1000000000000) (h:uV (hZ bs)=some e) (hK:K (.bool false) (pt r7 [.slice A n c] 187::oI A dT bs::pt x [.slice S nx cx,I6 e] 277::pt r2 [PO x] 118::R)):
  CT 199 #[PO r7,PO r2,PO r6] (pt r7 [.slice A n c] 187::oI A dT bs::pt x [.slice S nx cx,I6 e0] 277::pt r2 [PO x] 118::R) K:=by
 refine aH Tryz.func199 ?_
 repeat' (first|refine SH ?_|refine w5 ?_ ?_|((refine bh fun h=>?_) <;> try exact w6 h)|(refine aE fun hA=>?_;subst hA)|intro _|(show aA _ 200 _ _ _;refine CA (h:=Akw hn hc hz h (fun n'=>?_))))
 all_goals(refine aC ?_;exact aB (hK))
theorem Afs {p:ByteArray} {fs:List Fm} (hp:hZ bs=p) (hn:bs.length=n) (hc:n<=c) (hz:n<1000000000000) (hf:fs.length<4000000) (h:uV p=none) (hK:∀A' c' A2 c2,n - (9+sL p).toNat<=c'->K (.bool true) (pt r7 [.slice A' (n - (9+sL p).toNat) c'] 187::oI A' dT (bs.drop (9+sL p).toNat)::pt x [.slice S nx cx,I6 e0] 277::pt r2 [PO x] 118::KH r6 (fs++ [frA p A2 c2])::R)):
  CT 199 #[PO r7,PO r2,PO r6] (pt r7 [.slice A n c] 187::oI A dT bs::pt x [.slice S nx cx,I6 e0] 277::pt r2 [PO x] 118::KH r6 fs::R) K:=by
 obtain⟨h1,h2,h3,h4,h5,h6,h7⟩:=Fw h
 have hps:p.size=bs.length:=by rw[<- hp];exact i8 bs
 refine aA.ent (C':=KH r6 fs::pt r7 [.slice A n c] 187::oI A dT bs::pt x [.slice S nx cx,I6 e0] 277::pt r2 [PO x] 118::R) (by exact aZ) ?_
 refine Add fun F cF=>?_
 refine aH Tryz.func199 ?_
 repeat' (first|refine SH ?_|refine w5 ?_ ?_|((refine bh fun h=>?_) <;> try exact w6 h)|(refine aE fun hA=>?_;subst hA)|intro _|(show aA _ 200 _ _ _;refine CA (h:=Aka hp hn hc hz h (fun A2 c2=>?_)))|(show aN _ _ _ _ _ _ _;first|(refine pV ?_;intro _ _)))
 have hz1:List.take (((n:Nat):Int).toNat - (9+sL p).toNat) (List.drop (9+sL p).toNat bs)=bs.drop (9+sL p).toNat:=by
  rw[Int.toNat_natCast]
  exact List.take_of_length_le (by rw[List.length_drop];omega)
 rw[hz1]
 refine aC ?_
 refine aK (wF (E:=tI) (xs:=gP (sT p) (sQ p)) (by((repeat (first|exact aU.here|apply aU.there)) <;> exact aU.here)) (aG.trans (by exact aZ) (aG.trans (Ab3 ⟨sT p,sS p,(sF p == 1),gD (sT p) (sQ p),gK (sT p) (sQ p),gO (sT p) (sQ p),gW (sT p) (sQ p),gX (sT p) (sQ p),gC (sT p) (sQ p),gL (sT p) (sQ p),gN (sT p) (sQ p),A2,(gP (sT p) (sQ p)).length,c2,[]⟩ (frA p A2 c2) rfl rfl) (by exact aZ)))) (hK _ _ A2 c2 ?_)
 omega
end Go.Proofs.YtepnmcipkangkaaGreat
end
namespace Go.Proofs.YtepnmcipkangkaaGreat
open Go Go.Proofs Go.Sl
attribute [local irreducible] aN fJ cY bN aM aS aA dM dN aV dL pt ro fB star sep bF
attribute [local irreducible] ByteArray.extract rK eU
variable {R C:List HP} {K:KP} {bs:List UInt8} {e:Int} {x:Nat}
def jH (y:Fm):Fm:=⟨y.t,y.st,y.e,y.d,y.k,y.on,y.w,y.x,y.c,y.la,y.n,none,y.pn,0,y.ps⟩
def G8 (p:ByteArray):Fm:=jH (frA p none 0)
def C7:Nat->List UInt8->List ByteArray×List UInt8×Int
 |0,bs=>([],bs,0)
 |k+1,bs=>match uV (hZ bs) with
  |some e=>([],bs,e)
  |none=>(hZ bs::(C7 k (bs.drop (9+sL (hZ bs)).toNat)).1,(C7 k (bs.drop (9+sL (hZ bs)).toNat)).2)
def pF (bs:List UInt8):List ByteArray×List UInt8×Int:=C7 (bs.length+1) bs
theorem yC (h:uV (hZ bs)=none):(bs.drop (9+sL (hZ bs)).toNat).length+9<=bs.length:=by
 obtain⟨h1,h2,h3,h4,h5,h6,h7⟩:=Fw h
 have:=i8 bs
 rw[List.length_drop]
 omega
theorem I8:∀(k m:Nat) (bs:List UInt8),bs.length<k->bs.length<m->C7 k bs=C7 m bs
 |0,_,_,h,_=>by omega
 |_+1,0,_,_,h=>by omega
 |k+1,m+1,bs,h1,h2=>by
  unfold C7
  cases hs:uV (hZ bs) with
  |some e=>rfl
  |none=>
   have hd:=yC hs
   rw[I8 k m _ (by omega) (by omega)]
theorem uR (h:uV (hZ bs)=some e):pF bs=([],bs,e):=by
 unfold pF C7;rw[h]
theorem EI (h:uV (hZ bs)=none):pF bs=(hZ bs::(pF (bs.drop (9+sL (hZ bs)).toNat)).1,(pF (bs.drop (9+sL (hZ bs)).toNat)).2):=by
 have hd:=yC h
 have e:pF (bs.drop (9+sL (hZ bs)).toNat)=C7 bs.length (bs.drop (9+sL (hZ bs)).toNat):=I8 _ _ _ (by omega) (by omega)
 rw[e]
 unfold pF
 conv=>lhs;unfold C7
 rw[h]
def rD:Tr:=(.br (.st 0 1 (.st 1 1 (.st 2 1 (.st 3 1 (.st 4 1 (.st 5 1 (.st 6 1 (.st 7 1 (.st 8 1 (.st 9 1 (.st 10 1 (.st 11 1 (.st 12 1 (.st 13 1 (.st 14 1 (.st 15 1 (.st 16 2 (.st 17 2 (.st 18 1 .nil))))))))))))))))))) (.st 17 2 (.st 0 1 (.st 1 1 (.st 2 1 (.st 3 1 (.st 4 1 (.st 5 1 (.st 6 1 (.st 7 1 (.st 8 1 (.st 9 1 (.st 10 1 (.st 11 1 (.st 12 1 (.st 13 1 (.st 14 1 (.st 15 1 (.st 16 2 (.st 18 1 .nil))))))))))))))))))))
def qO:List (Nat×Nat):= [(1,0),(2,1),(0,1),(3,0),(4,0),(5,1)]
def pO:List (Nat×Nat):= [(0,0),(1,0),(2,0),(3,0),(4,0),(5,0),(6,0)]
theorem Alr {r:Nat}:aG (pt r [.slice none 0 0] 189::R) (KH r []::R):=aG.trans (aG.pick aU.here (aG.nilrow' (aG.allnil (aG.refl _)))) (Sg (A:=none) (c:=0) (fs:= []) rfl)
theorem XV {Q:Exit->Fr->List HP->Prop} {a:Fr} {r7 r2 r6 nx cx c:Nat} {A S:Option Addr} {all:List UInt8} (hc:all.length<=c) (hz:all.length<4000000)
  (ha:dP a [(2,PO r2),(6,PO r6),(7,PO r7),(8,.func (.func 199) #[] #[PO r7,PO r2,PO r6])])
  (hK:∀a A c F cF fs,(pF all).2.1.length<=all.length->fs.map jH=(pF all).1.map G8->fs.length<=all.length->Q (.exit 0) (gH a [(2,PO r2),(6,PO r6),(7,PO r7)]) (pt r7 [.slice A (pF all).2.1.length c] 187::oI A dT (pF all).2.1::pt x [.slice S nx cx,I6 (pF all).2.2] 277::pt r2 [PO x] 118::pt r6 [.slice F fs.length cF] 189::bV F cF 178 u7 fs::lS zP fs::R)):
  fJ Tryz.prog (Up Tryz.f115 0) Q a (pt r7 [.slice A all.length c] 187::oI A dT all::pt x [.slice S nx cx,I6 0] 277::pt r2 [PO x] 118::KH r6 []::R):=by
 refine jG (fun m a C'=>∃(bs:List UInt8) (A:Option Addr) (c:Nat) (srcs:List ByteArray) (fs:List Fm),bs.length=m/\bs.length<=c/\fs.map jH=srcs.map G8/\(pF all).1=srcs++(pF bs).1/\(pF all).2=(pF bs).2/\fs.length+bs.length<=all.length/\C'=pt r7 [.slice A bs.length c] 187::oI A dT bs::pt x [.slice S nx cx,I6 0] 277::pt r2 [PO x] 118::KH r6 fs::R/\dP a [(2,PO r2),(6,PO r6),(7,PO r7),(8,.func (.func 199) #[] #[PO r7,PO r2,PO r6])]) all.length (cN all.length ⟨all,A,c,[],[],rfl,hc,rfl,rfl,rfl,by simp,rfl,ha⟩) ?_
 clear ha hc
 rintro n1 a C' ⟨bs,A,c,srcs,fs,hm,hbc,hfs,h1,h2,hfl,rfl,ha⟩
 refine iT _ ha ?_
 simp only[gH]
 have hbz:bs.length<1000000000000:=by omega
 have hfz:fs.length<4000000:=by omega
 cases hs:uV (hZ bs) with
 |none=>
  have hd:=yC hs
  obtain⟨g1,g2,g3,g4,g5,g6,g7⟩:=Fw hs
  have hp:=EI hs
  repeat' (first|refine w1 ?_|refine w5 ?_ ?_|((refine bh fun h=>?_) <;> try exact w6 h)|(refine aE fun hA=>?_;subst hA)|intro _|(show aA _ 199 _ _ _;refine CA (h:=Afs rfl rfl hbc hbz hfz hs (fun A' c' A2 c2 hc'=>?_))))
  rw[<- List.length_drop] at *
  exact cN (bs.drop (9+sL (hZ bs)).toNat).length ⟨bs.drop (9+sL (hZ bs)).toNat,A',c',srcs++ [hZ bs],fs++ [frA (hZ bs) A2 c2],rfl,hc',by rw[List.map_append,List.map_append,hfs];rfl,by rw[h1,hp];simp,by rw[h2,hp],by rw[List.length_append];simp only[List.length_cons,List.length_nil];omega,rfl,rfl,rfl,rfl,rfl,trivial⟩
 |some e=>
  have hp:=uR hs
  rw[hp,List.append_nil] at h1
  rw[hp] at h2
  refine oR (C':=KH r6 fs::pt r7 [.slice A bs.length c] 187::oI A dT bs::pt x [.slice S nx cx,I6 0] 277::pt r2 [PO x] 118::R) (by exact aZ) ?_
  refine xQ fun F=>xQ fun cF=>ZV (oR (aG.cons aG.unsep) ?_)
  repeat' (first|refine w1 ?_|refine w5 ?_ ?_|((refine bh fun h=>?_) <;> try exact w6 h)|(refine aE fun hA=>?_;subst hA)|intro _|(show aA _ 199 _ _ _;refine CA (h:=Afx rfl hbc hbz hs ?_)))
  rw[h2,h1] at hK
  exact VT (p:=fun a=>Q (.exit 0) a _) [(2,PO r2),(6,PO r6),(7,PO r7)] ⟨rfl,rfl,rfl,trivial⟩ (hK _ A c F cF fs (by show bs.length<=_;omega) hfs (by omega))
theorem Ams:aG (pt x [.slice none 0 0,I6 e] 277::R) (spP x [] e::R):=aG.trans (aG.pick aU.here (aG.nilrow' (aG.refl _))) (Oz (A:=none) (c:=0) (bs:= []) rfl)
theorem Aik {ks:List UInt8} {s:ByteArray} (hz:ks.length+s.size<4000000) (hK:∀F c fs,fs.map jH=(pF (ks++s.data.toList)).1.map G8->K (.tuple #[.slice F fs.length c,I6 (pF (ks++s.data.toList)).2.2]) (bV F c 178 u7 fs::lS zP fs::spP x (if(pF (ks++s.data.toList)).2.2=0 then(pF (ks++s.data.toList)).2.1 else []) (pF (ks++s.data.toList)).2.2::R)):CT 115 #[PO x,.string s] (spP x ks 0::R) K:=by
 have hsl:s.data.toList.length=s.size:=by simp
 refine Alb fun A c=>?_
 refine i0 (l:=ks) (A:=A) (c:=c) (by((repeat (first|exact aU.here|apply aU.there)) <;> exact aU.here)) fun hkc=>?_
 have e0:List.take (((ks.length:Nat):Int).toNat - (0:Int).toNat) (List.drop (0:Int).toNat ks)=ks:=by simp
 have e1:(List.take (((ks.length:Nat):Int).toNat - (0:Int).toNat) (List.drop (0:Int).toNat ks)).length=((ks.length:Nat):Int).toNat - (0:Int).toNat:=by simp
 refine aH Tryz.func115 ?_
 repeat' (first|refine v92 ?_|refine SK rD ?_|refine dw qO ?_|refine dw pO ?_|refine w5 ?_ ?_|((refine bh fun h=>?_) <;> try exact w6 h)|(refine aE fun hA=>?_;subst hA)|intro _|(show aA _ 114 _ _ _;refine CA (h:=TL ?_)))
 all_goals
  rw[e0]
  refine Ru (l:=ks++s.data.toList) (by((repeat (first|exact aU.here|apply aU.there)) <;> exact aU.here)) fun hc=>?_
  have hall:(ks++s.data.toList).length<4000000:=by rw[List.length_append];omega
  refine oR (wF (E:=dT) (xs:=ks++s.data.toList) (by((repeat (first|exact aU.here|apply aU.there)) <;> exact aU.here)) (aG.trans (by exact aZ) (aG.trans Alr (by exact aZ)))) (XV (S:=A) (nx:=ks.length) (cx:=c) hc hall ⟨rfl,rfl,rfl,rfl,trivial⟩ (fun a A2 c2 F cF fs hl hfs hfl=>?_))
  have hrz:(pF (ks++s.data.toList)).2.1.length<4000000:=by omega
  generalize pF (ks++s.data.toList)=res at *
  obtain⟨srcs,rest,e⟩:=res
  simp only at hK hl hfs hrz
  by_cases he:e=0
  ·subst he
   rw[if_pos rfl] at hK
   repeat' (first|refine v92 ?_|refine SK rD ?_|refine dw qO ?_|refine dw pO ?_|refine w5 ?_ ?_|((refine bh fun h=>?_) <;> try exact w6 h)|(refine aE fun hA=>?_;subst hA)|intro _)
   all_goals
    refine aC ?_
    exact aK (aG.trans (by exact aZ) (aG.trans (Oz (bs:=rest) rfl) (by exact aZ))) (hK F cF fs hfs)
  ·rw[if_neg he] at hK
   repeat' (first|refine v92 ?_|refine SK rD ?_|refine dw qO ?_|refine dw pO ?_|refine w5 ?_ ?_|((refine bh fun h=>?_) <;> try exact w6 h)|(refine aE fun hA=>?_;subst hA)|intro _)
   all_goals
    refine aC ?_
    exact aK (aG.trans (by exact aZ) (aG.trans Ams (by exact aZ))) (hK F cF fs hfs)
end Go.Proofs.YtepnmcipkangkaaGreat
namespace Go.Proofs.YtepnmcipkangkaaGreat
open Go Go.Proofs Go.Sl
attribute [local irreducible] aN fJ cY bN aM aS aA dM dN aV dL pt ro fB star sep bF
attribute [local irreducible] mp CV
variable {R C:List HP} {K:KP} {k id on xw all most low w:Int} {l ks:List Int} {s:eW} {j p q r5 r7:Nat} {x:Bool} {r:Int->Nat}
def TrW (s:eW):Prop:=∀id,eA id s.1=true->1<=(dH id s).w/\(dH id s).w<=256
def O2 (s:eW):Prop:=(s.1.map KE.k).Nodup
def qU (s:eW):List Int->Int
 | []=>0
 |k::r=>(dH k s).w+qU s r
def Fb (w xw all:Int):Int:=max 1 (w * xw / all)
def qG (on xw all:Int):List Int->eW->eW
 | [],s=>s
 |k::r,s=>qG on xw all r (fN k ⟨on,Fb (dH k s).w xw all⟩ s)
def Az (id:Int) (s:eW):eW:=if eA id s.1=true then(nJ id (qG (dH id s).on (dH id s).w (qU s (cC id s.1)) (cC id s.1) s).1,(qG (dH id s).on (dH id s).w (qU s (cC id s.1)) (cC id s.1) s).2) else s
theorem BJ:k∈Oq l↔k∈l:=(List.mergeSort_perm l _).mem_iff
theorem Xg (h:l.Nodup):(Oq l).Nodup:=(List.mergeSort_perm l _).nodup_iff.2 h
theorem B9 (h:O2 s):(cC id s.1).Nodup:=Xg (List.Nodup.sublist ((List.filter_sublist ..).map _) h)
theorem MP {e:KE Nd}:∀ {l:List (KE Nd)},(l.map KE.k).Nodup->e∈l->gZ e.k l=some e.v
 | [],_,h=>by cases h
 |z::r,hnd,h=>by
  rw[List.map_cons] at hnd
  obtain⟨h1,h2⟩:=List.nodup_cons.1 hnd
  unfold gZ
  rcases List.mem_cons.1 h with rfl|h
  ·rw[if_pos rfl]
  ·rw[if_neg (fun q=>h1 (by rw[<- q];exact List.mem_map_of_mem h)),MP h2 h]
theorem lV (h:O2 s) (hk:k∈cC id s.1):eA k s.1=true/\(dH k s).on=id:=by
 unfold cC at hk
 rw[BJ] at hk
 obtain⟨e,he,rfl⟩:=List.mem_map.1 hk
 obtain⟨h1,h2⟩:=List.mem_filter.1 he
 have:=MP h h1
 exact⟨by unfold eA;rw[this];rfl,by unfold dH;rw[this];simpa using h2⟩
theorem JS {j:Int} {n:Nd}:dH j (fN id n s)=if j=id then n else dH j s:=by
 unfold dH fN
 simp only
 rw[IN]
 split <;> rfl
theorem IA {s:eW} (h:TrW s):∀ {l:List Int},(∀k∈l,eA k s.1=true)->(l.length:Int)<=qU s l/\qU s l<=256 * l.length
 | [],_=>by simp[qU]
 |k::r,hh=>by
  have h1:=h k (hh k (List.mem_cons_self ..))
  have h2:=IA h (l:=r) fun z hz=>hh z (List.mem_cons_of_mem _ hz)
  simp only[qU,List.length_cons]
  omega
theorem Ae7 (h:ks[j]?=some k):qU s (ks.drop j)=(dH k s).w+qU s (ks.drop (j+1)):=by
 have hj:=(List.getElem?_eq_some_iff.1 h).1
 rw[List.drop_eq_getElem_cons hj,(List.getElem?_eq_some_iff.1 h).2]
 rfl
theorem Aec (h:ks[j]?=some k):qG on xw all (ks.drop j) s=qG on xw all (ks.drop (j+1)) (fN k ⟨on,Fb (dH k s).w xw all⟩ s):=by
 have hj:=(List.getElem?_eq_some_iff.1 h).1
 rw[List.drop_eq_getElem_cons hj,(List.getElem?_eq_some_iff.1 h).2]
 rfl
theorem S9 (hw:0<=w/\w<=100000) (hx:0<=xw/\xw<=100000) (ha:0<all) (hK:K (I6 (Fb w xw all)) (pt r5 [I6 on,I6 xw] 410::pt r7 [I6 all] 3::R)):CT 423 #[I6 w,PO r5,PO r7] (pt r5 [I6 on,I6 xw] 410::pt r7 [I6 all] 3::R) K:=by
 have h1:0<=w * xw:=Int.mul_nonneg hw.1 hx.1
 have h2:w * xw<=100000 * 100000:=Int.mul_le_mul hw.2 hx.2 hx.1 (by omega)
 have hq1:0<=w * xw / all:=Int.ediv_nonneg h1 (by omega)
 have hq2:w * xw / all<=w * xw:=Int.ediv_le_self all h1
 have hm:IntKind.wrap .i64 (w * xw / all)=w * xw / all:=wG (by omega) (by omega)
 refine aH Tryz.func423 ?_
 repeat' (first|refine v43 ?_|refine w5 ?_ ?_|((refine bh fun h=>?_) <;> try exact w6 h)|(refine aE fun hA=>?_;subst hA)|intro _)
 all_goals(refine aC ?_;exact aB (hK))
def fF:List (Nat×Nat):= [(1,0),(2,0),(3,0),(4,0),(5,0),(6,1),(0,1),(7,0),(8,0),(9,1)]
def fD:List (Nat×Nat):= [(8,0),(9,0),(10,0),(11,0),(12,0),(13,1),(7,1),(14,0),(15,1),(0,2),(1,2),(2,2),(3,2),(4,2),(5,2),(6,2),(16,0),(17,1)]
theorem Qb (hok:SJ s.1 s.2) (hl:s.1.length<=1000) (hw:TrW s) (hn:O2 s) (hK:∀v,K v (pt p [I6 most,.map (some q)] 287::mp q (kM sG (Az id s).1) (Az id s).2::R)):CT 350 #[PO p,I6 id] (pt p [I6 most,.map (some q)] 287::mp q (kM sG s.1) s.2::R) K:=by
 cases h1:eA id s.1
 ·have e:Az id s=s:=by unfold Az;rw[h1,if_neg (by decide)]
  rw[e] at hK
  refine aH Tryz.func350 ?_
  repeat' (first|refine v88 ?_|refine dw fF ?_|refine dw fD ?_|refine w5 ?_ ?_|((refine bh fun h=>?_) <;> try exact w6 h)|(refine aE fun hA=>?_;subst hA)|intro _|(show aA _ 338 _ _ _;refine CA (h:=fO ?_);rw[h1]))
  all_goals(refine aC ?_;exact aB (hK _))
 ·have hx:=hw id h1
  have hnd:=B9 (id:=id) hn
  have hkh:∀k∈cC id s.1,eA k s.1=true:=fun k hk=>(lV hn hk).1
  have hkl:(cC id s.1).length<=1000:=by
   unfold cC
   rw[Bc,List.length_map]
   exact Nat.le_trans (List.length_filter_le _ _) hl
  have hal:=IA hw hkh
  have e:Az id s=(nJ id (qG (dH id s).on (dH id s).w (qU s (cC id s.1)) (cC id s.1) s).1,(qG (dH id s).on (dH id s).w (qU s (cC id s.1)) (cC id s.1) s).2):=by unfold Az;rw[h1,if_pos rfl]
  rw[e] at hK
  have hxe:(gZ id s.1).getD ⟨0,0⟩=dH id s:=rfl
  generalize hks:cC id s.1=ks at hK hnd hkh hkl hal
  generalize hxo:dH id s=X at hK hx hxe
  generalize hA:qU s ks=AL at hK hal
  refine aH Tryz.func350 ?_
  repeat' (first|refine v88 ?_|refine dw fF ?_|refine dw fD ?_|refine w5 ?_ ?_|((refine bh fun h=>?_) <;> try exact w6 h)|(refine aE fun hA=>?_;subst hA)|intro _|(show aA _ 338 _ _ _;refine CA (h:=fO ?_);rw[h1])|(show aN _ _ _ _ _ _ _;first|(refine jS ?_ (hv:=p6);simp only[sG];rw[hxe])|refine iD ?_)|(show aA _ 373 _ _ _;refine CA (h:=Cw hok (by omega) (fun A c=>?_));rw[hks]))
  rename_i r5 r7
  refine jG (fun kk a C'=>∃(j:Nat) (acc:Int),j+kk=ks.length/\acc+qU s (ks.drop j)=AL/\0<=acc/\acc<=256 * j/\dP a [(0,PO p),(1,I6 id),(5,PO r5),(6,.slice A ks.length c),(7,PO r7),(30,.slice A ks.length c),(31,I6 ks.length),(32,I6 j)]/\C'=pt r7 [I6 acc] 3::bV A c 3 pM ks::pt p [I6 most,.map (some q)] 287::mp q (kM sG s.1) s.2::pt r5 [I6 X.on,I6 X.w] 410::R) ks.length (cN ks.length ⟨0,0,by omega,by rw[List.drop_zero,hA];omega,by omega,by omega,⟨rfl,rfl,rfl,rfl,rfl,rfl,rfl,rfl,trivial⟩,rfl⟩ (by omega)) ?_
  rintro kk a C' ⟨j,acc,hj,hac,h0,h2,ha,rfl⟩
  refine iT _ ha ?_
  simp only[gH]
  by_cases hlt:j<ks.length
  ·obtain⟨k,hk⟩:∃k,ks[j]?=some k:=⟨_,List.getElem?_eq_getElem hlt⟩
   have hk':ks[((j:Nat):Int).toNat]?=some k:=by rw[Int.toNat_natCast];exact hk
   have hkw:=hw k (hkh k (List.mem_of_getElem? hk))
   rw[Ae7 hk] at hac
   have hke:(gZ k s.1).getD ⟨0,0⟩=dH k s:=rfl
   repeat' (first|refine v88 ?_|refine dw fF ?_|refine dw fD ?_|refine w5 ?_ ?_|((refine bh fun h=>?_) <;> try exact w6 h)|(refine aE fun hA=>?_;subst hA)|intro _|(show aN _ _ _ _ _ _ _;first|(refine jS ?_ (hv:=p6);simp only[sG];rw[hke])|refine iD ?_))
   all_goals(show aV _ _ _ _;exact cN (kk - 1) ⟨j+1,acc+(dH k s).w,by omega,by omega,by omega,by omega,⟨rfl,rfl,rfl,rfl,rfl,rfl,rfl,rfl,trivial⟩,rfl⟩)
  ·have hd:ks.drop j= []:=List.drop_eq_nil_of_le (by omega)
   rw[hd] at hac
   simp only[qU] at hac
   obtain rfl:acc=AL:=by omega
   repeat' (first|refine v88 ?_|refine dw fF ?_|refine dw fD ?_|refine w5 ?_ ?_|((refine bh fun h=>?_) <;> try exact w6 h)|(refine aE fun hA=>?_;subst hA)|intro _)
   refine jG (fun kk a C'=>∃(j:Nat) (s':eW),j+kk=ks.length/\qG X.on X.w acc (ks.drop j) s'=qG X.on X.w acc ks s/\(∀k∈ks.drop j,dH k s'=dH k s)/\dP a [(0,PO p),(1,I6 id),(5,PO r5),(7,PO r7),(10,.func (.func 423) #[] #[PO r5,PO r7]),(47,.slice A ks.length c),(48,I6 ks.length),(49,I6 j)]/\C'=pt r7 [I6 acc] 3::bV A c 3 pM ks::pt p [I6 most,.map (some q)] 287::mp q (kM sG s'.1) s'.2::pt r5 [I6 X.on,I6 X.w] 410::R) ks.length (cN ks.length ⟨0,s,by omega,rfl,(fun _ _=>rfl),⟨rfl,rfl,rfl,rfl,rfl,rfl,rfl,rfl,trivial⟩,rfl⟩ (by omega)) ?_
   rintro kk a C' ⟨j,s',hj,hs',hsame,ha,rfl⟩
   refine iT _ ha ?_
   simp only[gH]
   by_cases hlt:j<ks.length
   ·obtain⟨k,hk⟩:∃k,ks[j]?=some k:=⟨_,List.getElem?_eq_getElem hlt⟩
    have hk':ks[((j:Nat):Int).toNat]?=some k:=by rw[Int.toNat_natCast];exact hk
    have hkw:=hw k (hkh k (List.mem_of_getElem? hk))
    have hdr:ks.drop j=k::ks.drop (j+1):=by rw[List.drop_eq_getElem_cons hlt,(List.getElem?_eq_some_iff.1 hk).2]
    have hks':=hsame k (by rw[hdr];exact List.mem_cons_self ..)
    rw[Aec hk] at hs'
    have hnk:k ∉ ks.drop (j+1):=by
     have:=List.Nodup.sublist (List.drop_sublist j ks) hnd
     rw[hdr] at this
     exact(List.nodup_cons.1 this).1
    have hsm:∀z∈ks.drop (j+1),dH z (fN k ⟨X.on,Fb (dH k s').w X.w acc⟩ s')=dH z s:=fun z hz=>by
     rw[JS,if_neg (fun e:z=k=>hnk (e▸hz))]
     exact hsame z (by rw[hdr];exact List.mem_cons_of_mem _ hz)
    have hke:(gZ k s'.1).getD ⟨0,0⟩=dH k s':=rfl
    rw[<- hks'] at hkw
    simp only[fN] at hs' hsm
    repeat' (first|refine v88 ?_|refine dw fF ?_|refine dw fD ?_|refine w5 ?_ ?_|((refine bh fun h=>?_) <;> try exact w6 h)|(refine aE fun hA=>?_;subst hA)|intro _|(show aN _ _ _ _ _ _ _;first|(refine jS ?_ (hv:=p6);simp only[sG];rw[hke])|refine iD ?_|refine lA ?_ (hv:=Rs (enc:=sG) (v:=⟨X.on,Fb (dH k s').w X.w acc⟩)) (hu:=by exact rfl))|(show aA _ 423 _ _ _;refine CA (h:=S9 (by omega) (by omega) (by omega) ?_)))
    all_goals(show aV _ _ _ _;exact cN (kk - 1) ⟨j+1,_,by omega,hs',hsm,⟨rfl,rfl,rfl,rfl,rfl,rfl,rfl,rfl,trivial⟩,rfl⟩)
   ·have hd:ks.drop j= []:=List.drop_eq_nil_of_le (by omega)
    rw[hd] at hs'
    simp only[qG] at hs'
    subst hs'
    repeat' (first|refine v88 ?_|refine dw fF ?_|refine dw fD ?_|refine w5 ?_ ?_|((refine bh fun h=>?_) <;> try exact w6 h)|(refine aE fun hA=>?_;subst hA)|intro _|(show aN _ _ _ _ _ _ _;first|refine G_delete ?_ (hv:=Ahh)|refine Li ?_ (hv:=Ahh)))
    all_goals(refine aC ?_;exact aB (hK _))
end Go.Proofs.YtepnmcipkangkaaGreat
