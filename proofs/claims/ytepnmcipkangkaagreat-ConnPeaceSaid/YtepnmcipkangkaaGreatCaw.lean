/- A part of the proof: lemmas; each with the conditions that it states. -/
import Derived.Test.YtepnmcipkangkaaGreatCaq
set_option linter.unusedVariables false
set_option linter.unusedSimpArgs false
set_option maxRecDepth 100000
set_option maxHeartbeats 40000000
namespace Go.Proofs.YtepnmcipkangkaaGreat
open Go Go.Proofs Go.Sl
attribute [local irreducible] aN fL cL bM aL aR aA dJ dK aU dI pt ro fC star sep bF
attribute [local irreducible] ByteArray.extract rP eV
variable {R C:List HP} {K:KP} {u p:ByteArray} {A:Option Addr} {n c:Nat} {bs:List UInt8}
def sL (p:ByteArray):Int:=Ho (p.extract 0 9) 0 3
def sT (p:ByteArray):Int:=Ho (p.extract 0 9) 3 4
def sF (p:ByteArray):Int:=Ho (p.extract 0 9) 4 5
def sS (p:ByteArray):Int:=Ho (p.extract 0 9) 5 9
def sQ (p:ByteArray):ByteArray:=p.extract 9 (9+(sL p).toNat)
def uR (p:ByteArray):Option Int:=if p.size<9 then some 0 else if J9 (p.extract 0 9)=0 then(if nA (sL p) (sT p) (sF p) (sS p)=0 then(if(p.size:Int)<9+sL p then some 0 else if gE (sL p) (sT p) (sF p) (sS p) (sQ p)=0 then none else some (gE (sL p) (sT p) (sF p) (sS p) (sQ p))) else some (nA (sL p) (sT p) (sF p) (sS p))) else some 1
theorem IF {l t f s:Int} (h:nA l t f s=0):0<=l/\l<=256:=by
 unfold nA at h
 (repeat' split at h) <;> omega
def frA (p:ByteArray) (A:Option Addr) (c:Nat):Fm:=⟨sT p,sS p,(sF p == 1),gD (sT p) (sQ p),gK (sT p) (sQ p),gO (sT p) (sQ p),gW (sT p) (sQ p),gX (sT p) (sQ p),gC (sT p) (sQ p),gL (sT p) (sQ p),gN (sT p) (sQ p),A,(gP (sT p) (sQ p)).length,c,gP (sT p) (sQ p)⟩
theorem Lv (p:ByteArray):-9223372036854775808<=sF p/\sF p<=9223372036854775807:=by
 unfold sF Ho
 split
 ·have h1:=(ER (p.extract 0 9) 4 5).1
  have h2:rP (p.extract 0 9) 4 5<256:=by have:=(ER (p.extract 0 9) 4 5).2;simpa using this
  omega
 ·omega
theorem Ao2 (p:ByteArray):0<=sL p:=by
 unfold sL Ho
 split
 ·exact(ER _ _ _).1
 ·omega
def iG (bs:List UInt8):ByteArray:=⟨bs.toArray⟩
theorem jF (bs:List UInt8):(iG bs).size=bs.length:=xE _
theorem BQ (bs:List UInt8) (i j:Nat):iG ((bs.drop i).take (j - i))=(iG bs).extract i j:=by
 apply Gc
 unfold iG
 simp
theorem BO (h:u=p.extract 0 9) (hK:K (.tuple #[.agg #[I6 (sL p),I6 (sT p),I6 (sF p),I6 (sS p)],I6 (J9 (p.extract 0 9))]) R):CT 289 #[.string u] R K:=by
 subst h;exact Aex hK
theorem XT (hu:u=sQ p) (h:gE (sL p) (sT p) (sF p) (sS p) (sQ p)=0) (hK:∀A c,K (.tuple #[.agg #[I6 (sT p),I6 (sS p),.bool (sF p == 1),.string (gD (sT p) (sQ p)),I6 (gK (sT p) (sQ p)),I6 (gO (sT p) (sQ p)),I6 (gW (sT p) (sQ p)),.bool (gX (sT p) (sQ p)),I6 (gC (sT p) (sQ p)),I6 (gL (sT p) (sQ p)),I6 (gN (sT p) (sQ p)),.slice A (gP (sT p) (sQ p)).length c],I6 0]) (bT A c 349 tX (gP (sT p) (sQ p))::R)):CT 291 #[.agg #[I6 (sL p),I6 (sT p),I6 (sF p),I6 (sS p)],.string u] R K:=by
 subst hu;exact Acz (Lv p) h hK
theorem Yc (hu:u=sQ p) (h:gE (sL p) (sT p) (sF p) (sS p) (sQ p)≠0) (hK:K (.tuple #[.agg #[I6 0,I6 0,.bool false,.string ⟨#[]⟩,I6 0,I6 0,I6 0,.bool false,I6 0,I6 0,I6 0,.slice none 0 0],I6 (gE (sL p) (sT p) (sF p) (sS p) (sQ p))]) R):CT 291 #[.agg #[I6 (sL p),I6 (sT p),I6 (sF p),I6 (sS p)],.string u] R K:=by
 subst hu;exact Aeh (Lv p) h hK
def iR:Tr:=(.br (.st 1 1 (.st 2 1 (.st 3 1 (.st 4 2 (.br (.st 0 2 (.st 5 2 (.st 9 3 (.st 6 1 (.st 7 1 (.st 10 1 (.st 8 2 (.st 11 0 .nil)))))))) (.st 9 3 (.st 0 2 (.st 5 2 (.st 6 1 (.st 7 1 (.st 10 1 (.st 8 2 (.st 11 0 .nil))))))))))))) (.st 9 3 (.st 1 1 (.st 2 1 (.st 3 1 (.st 4 2 (.st 0 2 (.st 5 2 (.st 6 1 (.st 7 1 (.st 10 1 (.st 8 2 (.st 11 0 .nil)))))))))))))
theorem Ak5 {e:Int} (hn:bs.length=n) (hc:n<=c) (hz:n<1000000000000) (h:uR (iG bs)=some e) (hK:∀n',K (.tuple #[.agg #[I6 0,I6 0,.bool false,.string ⟨#[]⟩,I6 0,I6 0,I6 0,.bool false,I6 0,I6 0,I6 0,.slice none 0 0],I6 n',I6 e,.bool false]) (rF A eG bs::R)):CT 200 #[.slice A n c] (rF A eG bs::R) K:=by
 subst hn
 have hps:=jF bs
 have x0:(⟨(List.take ((9:Int).toNat - (0:Int).toNat) (List.drop (0:Int).toNat bs)).toArray⟩:ByteArray)=(iG bs).extract 0 9:=BQ bs 0 9
 have x1:(⟨(List.take ((9+sL (iG bs)).toNat - (9:Int).toNat) (List.drop (9:Int).toNat bs)).toArray⟩:ByteArray)=sQ (iG bs):=by
  have h0:=Ao2 (iG bs)
  rw[show(9+sL (iG bs)).toNat - (9:Int).toNat=9+(sL (iG bs)).toNat - 9 by omega]
  exact BQ bs 9 (9+(sL (iG bs)).toNat)
 unfold uR at h
 by_cases h1:(iG bs).size<9
 ·rw[if_pos h1] at h
  cases h
  refine aH Tryz.func200 ?_
  repeat' (first|refine v93 ?_|refine Sf iR ?_|refine w5 ?_ ?_|((refine bh fun h=>?_) <;> try exact w6 h)|(refine aE fun hA=>?_;subst hA)|intro _)
  all_goals(refine aC ?_;exact aB (hK _))
 rw[if_neg h1] at h
 have y0:(List.take ((9:Int).toNat - (0:Int).toNat) (List.drop (0:Int).toNat bs)).length=(9:Int).toNat - (0:Int).toNat:=by simp;omega
 by_cases h2:J9 ((iG bs).extract 0 9)=0
 ·rw[if_pos h2] at h
  by_cases h3:nA (sL (iG bs)) (sT (iG bs)) (sF (iG bs)) (sS (iG bs))=0
  ·rw[if_pos h3] at h
   have hl:=IF h3
   by_cases h4:((iG bs).size:Int)<9+sL (iG bs)
   ·rw[if_pos h4] at h
    cases h
    refine aH Tryz.func200 ?_
    repeat' (first|refine v93 ?_|refine Sf iR ?_|refine w5 ?_ ?_|((refine bh fun h=>?_) <;> try exact w6 h)|(refine aE fun hA=>?_;subst hA)|intro _|(show aA _ 289 _ _ _;refine CA (h:=BO x0 ?_))|(show aA _ 290 _ _ _;refine CA (h:=wY (Lv _) ?_)))
    all_goals(refine aC ?_;exact aB (hK _))
   ·rw[if_neg h4] at h
    by_cases h5:gE (sL (iG bs)) (sT (iG bs)) (sF (iG bs)) (sS (iG bs)) (sQ (iG bs))=0
    ·rw[if_pos h5] at h;cases h
    ·rw[if_neg h5] at h
     cases h
     have hbf:(gE (sL (iG bs)) (sT (iG bs)) (sF (iG bs)) (sS (iG bs)) (sQ (iG bs)) == 0)=false:=by simpa using h5
     have y1:(List.take ((9+sL (iG bs)).toNat - (9:Int).toNat) (List.drop (9:Int).toNat bs)).length=(9+sL (iG bs)).toNat - (9:Int).toNat:=by simp;omega
     refine aH Tryz.func200 ?_
     repeat' (first|refine v93 ?_|refine Sf iR ?_|refine w5 ?_ ?_|((refine bh fun h=>?_) <;> try exact w6 h)|(refine aE fun hA=>?_;subst hA)|intro _|(show aA _ 289 _ _ _;refine CA (h:=BO x0 ?_))|(show aA _ 290 _ _ _;refine CA (h:=wY (Lv _) ?_))|(show aA _ 291 _ _ _;refine CA (h:=Yc x1 h5 ?_)))
     all_goals(rw[hbf];(refine aC ?_;exact aB (hK _)))
  ·rw[if_neg h3] at h
   cases h
   refine aH Tryz.func200 ?_
   repeat' (first|refine v93 ?_|refine Sf iR ?_|refine w5 ?_ ?_|((refine bh fun h=>?_) <;> try exact w6 h)|(refine aE fun hA=>?_;subst hA)|intro _|(show aA _ 289 _ _ _;refine CA (h:=BO x0 ?_))|(show aA _ 290 _ _ _;refine CA (h:=wY (Lv _) ?_)))
   all_goals(refine aC ?_;exact aB (hK _))
 ·rw[if_neg h2] at h
  cases h
  refine aH Tryz.func200 ?_
  repeat' (first|refine v93 ?_|refine Sf iR ?_|refine w5 ?_ ?_|((refine bh fun h=>?_) <;> try exact w6 h)|(refine aE fun hA=>?_;subst hA)|intro _|(show aA _ 289 _ _ _;refine CA (h:=BO x0 ?_)))
  all_goals(refine aC ?_;exact aB (hK _))
theorem Ea (h:uR p=none):9<=p.size/\J9 (p.extract 0 9)=0/\nA (sL p) (sT p) (sF p) (sS p)=0/\9+sL p<=p.size/\gE (sL p) (sT p) (sF p) (sS p) (sQ p)=0/\0<=sL p/\sL p<=256:=by
 unfold uR at h
 split at h
 ·cases h
 ·split at h
  ·split at h
   ·rename_i h3
    have hl:=IF h3
    split at h
    ·cases h
    ·split at h
     ·exact⟨by omega,by assumption,h3,by omega,by assumption,hl.1,hl.2⟩
     ·cases h
   ·cases h
  ·cases h
theorem Ajm (hp:iG bs=p) (hn:bs.length=n) (hc:n<=c) (hz:n<1000000000000) (h:uR p=none) (hK:∀A' c',K (.tuple #[.agg #[I6 (sT p),I6 (sS p),.bool (sF p == 1),.string (gD (sT p) (sQ p)),I6 (gK (sT p) (sQ p)),I6 (gO (sT p) (sQ p)),I6 (gW (sT p) (sQ p)),.bool (gX (sT p) (sQ p)),I6 (gC (sT p) (sQ p)),I6 (gL (sT p) (sQ p)),I6 (gN (sT p) (sQ p)),.slice A' (gP (sT p) (sQ p)).length c'],I6 (9+sL p),I6 0,.bool true]) (bT A' c' 349 tX (gP (sT p) (sQ p))::rF A eG bs::R)):CT 200 #[.slice A n c] (rF A eG bs::R) K:=by
 subst hn
 subst hp
 have hps:=jF bs
 obtain⟨h1,h2,h3,h4,h5,h6,h7⟩:=Ea h
 have x0:(⟨(List.take ((9:Int).toNat - (0:Int).toNat) (List.drop (0:Int).toNat bs)).toArray⟩:ByteArray)=(iG bs).extract 0 9:=BQ bs 0 9
 have x1:(⟨(List.take ((9+sL (iG bs)).toNat - (9:Int).toNat) (List.drop (9:Int).toNat bs)).toArray⟩:ByteArray)=sQ (iG bs):=by
  rw[show(9+sL (iG bs)).toNat - (9:Int).toNat=9+(sL (iG bs)).toNat - 9 by omega]
  exact BQ bs 9 (9+(sL (iG bs)).toNat)
 have y0:(List.take ((9:Int).toNat - (0:Int).toNat) (List.drop (0:Int).toNat bs)).length=(9:Int).toNat - (0:Int).toNat:=by simp;omega
 have y1:(List.take ((9+sL (iG bs)).toNat - (9:Int).toNat) (List.drop (9:Int).toNat bs)).length=(9+sL (iG bs)).toNat - (9:Int).toNat:=by simp;omega
 refine aH Tryz.func200 ?_
 repeat' (first|refine v93 ?_|refine Sf iR ?_|refine w5 ?_ ?_|((refine bh fun h=>?_) <;> try exact w6 h)|(refine aE fun hA=>?_;subst hA)|intro _|(show aA _ 289 _ _ _;refine CA (h:=BO x0 ?_))|(show aA _ 290 _ _ _;refine CA (h:=wY (Lv _) ?_))|(show aA _ 291 _ _ _;refine CA (h:=XT x1 h5 (fun A' c'=>?_))))
 all_goals(refine aC ?_;exact aB (hK _ _))
end Go.Proofs.YtepnmcipkangkaaGreat
section
namespace Go.Proofs.YtepnmcipkangkaaGreat
open Go Go.Proofs Go.Sl
attribute [local irreducible] aN fL cL bM aL aR aA dJ dK aU dI pt ro fC star sep bF
attribute [local irreducible] ByteArray.extract rP eV
variable {R C:List HP} {K:KP} {x n c r:Nat} {bs:List UInt8} {e:Int} {A:Option Addr} {f:FuncId} {args:Array Value} {fs:List Fm}
def spP (x:Nat) (bs:List UInt8) (e:Int):HP:=fC fun A=>fC fun c=>sep (pt x [.slice A bs.length c,I6 e] 277) (bT A c 5 eG bs)
theorem Mi (h:bs.length=n):aG (pt x [.slice A n c,I6 e] 277::bT A c 5 eG bs::R) (spP x bs e::R):=by
 subst h
 exact aG.ex A (aG.ex c (aG.sep (aG.refl _)))
theorem Akm (h:∀A c,CT f args (pt x [.slice A bs.length c,I6 e] 277::bT A c 5 eG bs::R) K):CT f args (spP x bs e::R) K:=
 aA.ex fun A=>aA.ex fun c=>aA.sep (h A c)
theorem Ahd (hK:∀x,K (PO x) (spP x [] 0::R)):CT 90 #[] R K:=by
 refine aH Tryz.func90 ?_
 repeat' (first|refine v6 ?_|refine w5 ?_ ?_|((refine bh fun h=>?_) <;> try exact w6 h)|(refine aE fun hA=>?_;subst hA)|intro _)
 refine aC ?_
 exact aM (aG.trans (aG.pick aW.here (aG.nilrow' (aG.refl _))) (Mi (A:=none) (c:=0) (bs:= []) rfl)) (hK _)
theorem Ts (hK:K (I6 e) (pt x [.slice A n c,I6 e] 277::R)):CT 114 #[PO x] (pt x [.slice A n c,I6 e] 277::R) K:=by
 refine aH Tryz.func114 ?_
 repeat' (first|refine v4 ?_|refine w5 ?_ ?_|((refine bh fun h=>?_) <;> try exact w6 h)|(refine aE fun hA=>?_;subst hA)|intro _)
 (refine aC ?_;exact aB (hK))
def Kt (r:Nat) (fs:List Fm):HP:=fC fun F=>fC fun c=>sep (pt r [.slice F fs.length c] 189) (sep (bT F c 178 wD fs) (mC zE fs))
theorem Ab1 (h:∀F c,CT f args (pt r [.slice F fs.length c] 189::bT F c 178 wD fs::mC zE fs::R) K):CT f args (Kt r fs::R) K:=
 aA.ex fun A=>aA.ex fun c=>aA.sep (aA.ent (aG.cons aG.unsep) (h A c))
theorem QU (h:fs.length=n):aG (pt r [.slice A n c] 189::bT A c 178 wD fs::mC zE fs::R) (Kt r fs::R):=by
 subst h
 exact aG.ex A (aG.ex c (aG.sep (aG.pick aW.here (aG.sep (aG.refl _)))))
theorem Q4 {e:TypeId} {xs ys:List Fm} (h:xs.flatMap wD.enc=ys.flatMap wD.enc) (hl:xs.length=ys.length) (H:Hp) (hr:bT A c e wD xs H):bT A c e wD ys H:=by
 rcases hr with⟨h1,h2,h3⟩|⟨B,pre,post,h1,h2,h3,h4⟩
 ·subst h2
  exact .inl ⟨h1,List.length_eq_zero_iff.1 hl.symm,h3⟩
 ·rw[h] at h2
  rw[hl] at h3 h4
  exact .inr ⟨B,pre,post,h1,h2,h3,h4⟩
theorem Abh (f0 f1:Fm) (he:wD.enc f0=wD.enc f1) (hn:n=(fs++ [f0]).length):aG (pt r [.slice A n c] 189::bT A c 178 wD (fs++ [f0])::rF f1.pa tX f1.ps::mC zE fs::R) (Kt r (fs++ [f1])::R):=
 aG.trans (aG.cons (aG.imp (Q4 (ys:=fs++ [f1]) (by simp[he]) (by simp)) (aG.allsnoc (P:=zE) (x:=f1) AV AJ))) (QU (by rw[hn];simp))
end Go.Proofs.YtepnmcipkangkaaGreat
namespace Go.Proofs.YtepnmcipkangkaaGreat
open Go Go.Proofs Go.Sl
attribute [local irreducible] aN fL cL bM aL aR aA dJ dK aU dI pt ro fC star sep bF
attribute [local irreducible] ByteArray.extract rP eV
variable {R C:List HP} {K:KP} {r7 r2 r6 x n c nx cx:Nat} {A S:Option Addr} {bs:List UInt8} {e0:Int}
theorem Af1 {e:Int} (hn:bs.length=n) (hc:n<=c) (hz:n<1000000000000) (h:uR (iG bs)=some e) (hK:K (.bool false) (pt r7 [.slice A n c] 187::rF A eG bs::pt x [.slice S nx cx,I6 e] 277::pt r2 [PO x] 118::R)):
  CT 199 #[PO r7,PO r2,PO r6] (pt r7 [.slice A n c] 187::rF A eG bs::pt x [.slice S nx cx,I6 e0] 277::pt r2 [PO x] 118::R) K:=by
 refine aH Tryz.func199 ?_
 repeat' (first|refine Sg ?_|refine w5 ?_ ?_|((refine bh fun h=>?_) <;> try exact w6 h)|(refine aE fun hA=>?_;subst hA)|intro _|(show aA _ 200 _ _ _;refine CA (h:=Ak5 hn hc hz h (fun n'=>?_))))
 all_goals(refine aC ?_;exact aB (hK))
theorem Acr {p:ByteArray} {fs:List Fm} (hp:iG bs=p) (hn:bs.length=n) (hc:n<=c) (hz:n<1000000000000) (hf:fs.length<4000000) (h:uR p=none) (hK:∀A' c' A2 c2,n - (9+sL p).toNat<=c'->K (.bool true) (pt r7 [.slice A' (n - (9+sL p).toNat) c'] 187::rF A' eG (bs.drop (9+sL p).toNat)::pt x [.slice S nx cx,I6 e0] 277::pt r2 [PO x] 118::Kt r6 (fs++ [frA p A2 c2])::R)):
  CT 199 #[PO r7,PO r2,PO r6] (pt r7 [.slice A n c] 187::rF A eG bs::pt x [.slice S nx cx,I6 e0] 277::pt r2 [PO x] 118::Kt r6 fs::R) K:=by
 obtain⟨h1,h2,h3,h4,h5,h6,h7⟩:=Ea h
 have hps:p.size=bs.length:=by rw[<- hp];exact jF bs
 refine aA.ent (C':=Kt r6 fs::pt r7 [.slice A n c] 187::rF A eG bs::pt x [.slice S nx cx,I6 e0] 277::pt r2 [PO x] 118::R) (by exact aY) ?_
 refine Ab1 fun F cF=>?_
 refine aH Tryz.func199 ?_
 repeat' (first|refine Sg ?_|refine w5 ?_ ?_|((refine bh fun h=>?_) <;> try exact w6 h)|(refine aE fun hA=>?_;subst hA)|intro _|(show aA _ 200 _ _ _;refine CA (h:=Ajm hp hn hc hz h (fun A2 c2=>?_)))|(show aN _ _ _ _ _ _ _;first|(refine pX ?_;intro _ _)))
 have hz1:List.take (((n:Nat):Int).toNat - (9+sL p).toNat) (List.drop (9+sL p).toNat bs)=bs.drop (9+sL p).toNat:=by
  rw[Int.toNat_natCast]
  exact List.take_of_length_le (by rw[List.length_drop];omega)
 rw[hz1]
 refine aC ?_
 refine aM (Ds (E:=tX) (xs:=gP (sT p) (sQ p)) (by((repeat (first|exact aW.here|apply aW.there)) <;> exact aW.here)) (aG.trans (by exact aY) (aG.trans (Abh ⟨sT p,sS p,(sF p == 1),gD (sT p) (sQ p),gK (sT p) (sQ p),gO (sT p) (sQ p),gW (sT p) (sQ p),gX (sT p) (sQ p),gC (sT p) (sQ p),gL (sT p) (sQ p),gN (sT p) (sQ p),A2,(gP (sT p) (sQ p)).length,c2,[]⟩ (frA p A2 c2) rfl rfl) (by exact aY)))) (hK _ _ A2 c2 ?_)
 omega
end Go.Proofs.YtepnmcipkangkaaGreat
end
namespace Go.Proofs.YtepnmcipkangkaaGreat
open Go Go.Proofs Go.Sl
attribute [local irreducible] aN fL cL bM aL aR aA dJ dK aU dI pt ro fC star sep bF
variable {R C:List HP} {K:KP} {w st o last:Int}
def Ag1:List (Int×Bool):= [(1,true),(1,true),(1,true),(7,false),(7,false),(1,true),(1,false),(5,false),(3,false),(3,true),(9,false),(1,false),(1,true),(3,false),(3,true),(1,true),(4,true),(3,true),(11,true),(10,true),(12,true)]
def Apy:List Value:=Ag1.flatMap fun x=> [I6 x.1,.bool x.2]
def Ai6 (w:Int):Int:=(Ag1.getD w.toNat (0,false)).1
def Kv (w:Int):Bool:=(Ag1.getD w.toNat (0,false)).2
theorem w21 (h:0<=w/\w<=20):w=0\/w=1\/w=2\/w=3\/w=4\/w=5\/w=6\/w=7\/w=8\/w=9\/w=10\/w=11\/w=12\/w=13\/w=14\/w=15\/w=16\/w=17\/w=18\/w=19\/w=20:=by omega
theorem M5 (h:0<=w/\w<=20):1<=Ai6 w/\Ai6 w<=12:=by
 rcases w21 h with rfl|rfl|rfl|rfl|rfl|rfl|rfl|rfl|rfl|rfl|rfl|rfl|rfl|rfl|rfl|rfl|rfl|rfl|rfl|rfl|rfl <;> decide
theorem Afy (hK:K (.agg Apy.toArray) R):CT 438 #[] R K:=by
 refine aH Tryz.func438 ?_
 repeat' (first|refine v5 ?_|refine w5 ?_ ?_|((refine bh fun h=>?_) <;> try exact w6 h)|(refine aE fun hA=>?_;subst hA)|intro _)
 (refine aC ?_;exact aB (hK))
theorem MR (h:0<=w/\w<=20) (hK:K (.agg #[I6 (Ai6 w),.bool (Kv w)]) R):CT 391 #[.agg #[I6 w,I6 st,I6 o]] R K:=by
 rcases w21 h with rfl|rfl|rfl|rfl|rfl|rfl|rfl|rfl|rfl|rfl|rfl|rfl|rfl|rfl|rfl|rfl|rfl|rfl|rfl|rfl|rfl
 all_goals
  refine aH Tryz.func391 ?_
  repeat' (first|refine v82 ?_|refine w5 ?_ ?_|((refine bh fun h=>?_) <;> try exact w6 h)|(refine aE fun hA=>?_;subst hA)|intro _|(show aA _ 438 _ _ _;refine CA (h:=Afy ?_)))
  (refine aC ?_;exact aB (hK))
def i0 (w o:Int):Int:=if w=0/\0<o/\o<=12 then o else Ai6 w
theorem KY (h:0<=w/\w<=20):1<=i0 w o/\i0 w o<=12:=by
 have:=M5 h
 unfold i0
 split <;> omega
theorem KR {r:Nat} (hK:K (.bool (decide (w=0) && decide (0<o) && decide (o<=12))) (pt r [I6 w,I6 st,I6 o] 201::R)):CT 392 #[PO r] (pt r [I6 w,I6 st,I6 o] 201::R) K:=by
 refine aH Tryz.func392 ?_
 repeat' (first|refine v23 ?_|refine w5 ?_ ?_|((refine bh fun h=>?_) <;> try exact w6 h)|(refine aE fun hA=>?_;subst hA)|intro _)
 all_goals(refine aC ?_;exact aB (kb hK (by simp[*] <;> omega)))
theorem RY (hw:0<=w/\w<=20) (hK:K (.tuple #[I6 (i0 w o),I6 0]) R):CT 308 #[.agg #[I6 w,I6 st,I6 o]] R K:=by
 have ht:=M5 hw
 by_cases hc:w=0/\0<o/\o<=12
 ·unfold i0 at hK
  rw[if_pos hc] at hK
  obtain⟨c1,c2,c3⟩:=hc
  refine aH Tryz.func308 ?_
  repeat' (first|refine v79 ?_|refine w5 ?_ ?_|((refine bh fun h=>?_) <;> try exact w6 h)|(refine aE fun hA=>?_;subst hA)|intro _|(show aA _ 391 _ _ _;refine CA (h:=MR hw ?_))|(show aA _ 392 _ _ _;refine CA (h:=KR ?_)))
  all_goals(refine aC ?_;exact aB (hK))
 ·unfold i0 at hK
  rw[if_neg hc] at hK
  have hc2:w≠0\/o<=0\/12<o:=by omega
  refine aH Tryz.func308 ?_
  repeat' (first|refine v79 ?_|refine w5 ?_ ?_|((refine bh fun h=>?_) <;> try exact w6 h)|(refine aE fun hA=>?_;subst hA)|intro _|(show aA _ 391 _ _ _;refine CA (h:=MR hw ?_))|(show aA _ 392 _ _ _;refine CA (h:=KR ?_)))
  all_goals(refine aC ?_;exact aB (hK))
theorem xU (hw:0<=w/\w<=20) (hK:K (.bool (Kv w)) R):CT 309 #[.agg #[I6 w,I6 st,I6 o]] R K:=by
 have ht:=M5 hw
 refine aH Tryz.func309 ?_
 repeat' (first|refine v82 ?_|refine w5 ?_ ?_|((refine bh fun h=>?_) <;> try exact w6 h)|(refine aE fun hA=>?_;subst hA)|intro _|(show aA _ 391 _ _ _;refine CA (h:=MR hw ?_)))
 all_goals(refine aC ?_;exact aB (hK))
theorem Q5 {n l:Int} (hK:K (.bool (decide (l<=n) && decide (n<=2147483647))) R):CT 310 #[I6 n,I6 l] R K:=by
 refine aH Tryz.func310 ?_
 repeat' (first|refine v1 ?_|refine w5 ?_ ?_|((refine bh fun h=>?_) <;> try exact w6 h)|(refine aE fun hA=>?_;subst hA)|intro _)
 all_goals(refine aC ?_;exact aB (kb hK (by simp[*] <;> omega)))
theorem Aje (hw:0<=w/\w<=20) (hb1:Kv w=true) (hb2:0<=last/\last<=2147483647) (hK:K (.tuple #[.agg #[I6 9,I6 0,.bool false,.string ⟨#[]⟩,I6 0,I6 0,I6 0,.bool false,I6 (i0 w o),I6 last,I6 0,.slice none 0 0],I6 0]) R):CT 217 #[.agg #[I6 w,I6 st,I6 o],I6 last] R K:=by
 refine aH Tryz.func217 ?_
 repeat' (first|refine HG ?_|refine w5 ?_ ?_|((refine bh fun h=>?_) <;> try exact w6 h)|(refine aE fun hA=>?_;subst hA)|intro _|(show aA _ 308 _ _ _;refine CA (h:=RY hw ?_))|(show aA _ 309 _ _ _;refine CA (h:=xU hw ?_))|(show aA _ 310 _ _ _;refine CA (h:=Q5 ?_)))
 all_goals(refine aC ?_;exact aB (hK))
theorem Ws (hw:0<=w/\w<=20) (hb1:Kv w=false) (hb2:1<=st/\st<=2147483647) (hK:K (.tuple #[.agg #[I6 4,I6 st,.bool false,.string ⟨#[]⟩,I6 0,I6 0,I6 0,.bool false,I6 (i0 w o),I6 0,I6 0,.slice none 0 0],I6 0]) R):CT 217 #[.agg #[I6 w,I6 st,I6 o],I6 last] R K:=by
 refine aH Tryz.func217 ?_
 repeat' (first|refine HG ?_|refine w5 ?_ ?_|((refine bh fun h=>?_) <;> try exact w6 h)|(refine aE fun hA=>?_;subst hA)|intro _|(show aA _ 308 _ _ _;refine CA (h:=RY hw ?_))|(show aA _ 309 _ _ _;refine CA (h:=xU hw ?_))|(show aA _ 310 _ _ _;refine CA (h:=Q5 ?_)))
 all_goals(refine aC ?_;exact aB (hK))
end Go.Proofs.YtepnmcipkangkaaGreat
