/- A part of the proof: lemmas; each with the conditions that it states. -/
import Derived.Test.YtifgibijcmppmaaGreatUap
set_option linter.unusedVariables false
set_option linter.unusedSimpArgs false
set_option maxRecDepth 100000
set_option maxHeartbeats 40000000
namespace Go.Proofs.YtifgibijcmppmaaGreat
open Go Go.Proofs Go.Sl
attribute [local irreducible] aN fN cX bP aM aX aA dS dV aT dU pt ro eV star sep bH
attribute [local irreducible] ByteArray.extract xU eT
section
variable {R C:List HP} {K:KP}
def sL (p:ByteArray):Int:=RL (p.extract 0 9) 0 3
def sT (p:ByteArray):Int:=RL (p.extract 0 9) 3 4
def sF (p:ByteArray):Int:=RL (p.extract 0 9) 4 5
def sS (p:ByteArray):Int:=RL (p.extract 0 9) 5 9
def sQ (p:ByteArray):ByteArray:=p.extract 9 (9+(sL p).toNat)
def DU (p:ByteArray):Option Int:=if p.size<9 then some 0 else if hgE (p.extract 0 9)=0 then(if xM (sL p) (sT p) (sF p) (sS p)=0 then(if(p.size:Int)<9+sL p then some 0 else if gE (sL p) (sT p) (sF p) (sS p) (sQ p)=0 then none else some (gE (sL p) (sT p) (sF p) (sS p) (sQ p))) else some (xM (sL p) (sT p) (sF p) (sS p))) else some 1
theorem MZ {l t f s:Int} (h:xM l t f s=0):0≤l∧l≤256:=by
 unfold xM at h
 (repeat' split at h) <;> omega
def frA (p:ByteArray) (A:Option Addr) (c:Nat):Fm:=⟨sT p,sS p,(sF p == 1),gD (sT p) (sQ p),gK (sT p) (sQ p),gO (sT p) (sQ p),gW (sT p) (sQ p),gX (sT p) (sQ p),gC (sT p) (sQ p),gL (sT p) (sQ p),gN (sT p) (sQ p),A,(gP (sT p) (sQ p)).length,c,gP (sT p) (sQ p)⟩
theorem J9 (p:ByteArray):-9223372036854775808≤sF p∧sF p≤9223372036854775807:=by
 unfold sF RL
 split
 ·have h1:=(D2 (p.extract 0 9) 4 5).1
  have h2:xU (p.extract 0 9) 4 5<256:=by have:=(D2 (p.extract 0 9) 4 5).2;simpa using this
  omega
 ·omega
theorem Alj (p:ByteArray):0≤sL p:=by
 unfold sL RL
 split
 ·exact(D2 _ _ _).1
 ·omega
def kW (bs:List UInt8):ByteArray:=⟨bs.toArray⟩
theorem pD (bs:List UInt8):(kW bs).size=bs.length:=vR _
theorem GP (bs:List UInt8) (i j:Nat):kW ((bs.drop i).take (j - i))=(kW bs).extract i j:=by
 apply FF
 unfold kW
 simp
theorem Ah {u p:ByteArray} (h:u=p.extract 0 9) (hK:K (.tuple #[.agg #[I6 (sL p),I6 (sT p),I6 (sF p),I6 (sS p)],I6 (hgE (p.extract 0 9))]) R):CT 243 #[.string u] R K:=by
 subst h;exact YX hK
theorem Wn {u p:ByteArray} (hu:u=sQ p) (h:gE (sL p) (sT p) (sF p) (sS p) (sQ p)=0) (hK:∀A c,K (.tuple #[.agg #[I6 (sT p),I6 (sS p),.bool (sF p == 1),.string (gD (sT p) (sQ p)),I6 (gK (sT p) (sQ p)),I6 (gO (sT p) (sQ p)),I6 (gW (sT p) (sQ p)),.bool (gX (sT p) (sQ p)),I6 (gC (sT p) (sQ p)),I6 (gL (sT p) (sQ p)),I6 (gN (sT p) (sQ p)),.slice A (gP (sT p) (sQ p)).length c],I6 0]) (bQ A c 148 rE (gP (sT p) (sQ p))::R)):CT 245 #[.agg #[I6 (sL p),I6 (sT p),I6 (sF p),I6 (sS p)],.string u] R K:=by
 subst hu;exact Y1 (J9 p) h hK
theorem VK {u p:ByteArray} (hu:u=sQ p) (h:gE (sL p) (sT p) (sF p) (sS p) (sQ p)≠0) (hK:K (.tuple #[.agg #[I6 0,I6 0,.bool false,.string ⟨#[]⟩,I6 0,I6 0,I6 0,.bool false,I6 0,I6 0,I6 0,.slice none 0 0],I6 (gE (sL p) (sT p) (sF p) (sS p) (sQ p))]) R):CT 245 #[.agg #[I6 (sL p),I6 (sT p),I6 (sF p),I6 (sS p)],.string u] R K:=by
 subst hu;exact ZD (J9 p) h hK
def hQ:Tr:=(.br (.st 1 1 (.st 2 1 (.st 3 1 (.st 4 2 (.br (.st 0 2 (.st 5 2 (.st 9 3 (.st 6 1 (.st 7 1 (.st 10 1 (.st 8 2 (.st 11 0 .nil)))))))) (.st 9 3 (.st 0 2 (.st 5 2 (.st 6 1 (.st 7 1 (.st 10 1 (.st 8 2 (.st 11 0 .nil))))))))))))) (.st 9 3 (.st 1 1 (.st 2 1 (.st 3 1 (.st 4 2 (.st 0 2 (.st 5 2 (.st 6 1 (.st 7 1 (.st 10 1 (.st 8 2 (.st 11 0 .nil)))))))))))))
theorem Ah4 {A:Option Addr} {n c:Nat} {bs:List UInt8} {e:Int} (hn:bs.length=n) (hc:n≤c) (hz:n<1000000000000) (h:DU (kW bs)=some e) (hK:∀n',K (.tuple #[.agg #[I6 0,I6 0,.bool false,.string ⟨#[]⟩,I6 0,I6 0,I6 0,.bool false,I6 0,I6 0,I6 0,.slice none 0 0],I6 n',I6 e,.bool false]) (m7 A dL bs::R)):CT 160 #[.slice A n c] (m7 A dL bs::R) K:=by
 subst hn
 have hps:=pD bs
 have x0:(⟨(List.take ((9:Int).toNat - (0:Int).toNat) (List.drop (0:Int).toNat bs)).toArray⟩:ByteArray)=(kW bs).extract 0 9:=GP bs 0 9
 have x1:(⟨(List.take ((9+sL (kW bs)).toNat - (9:Int).toNat) (List.drop (9:Int).toNat bs)).toArray⟩:ByteArray)=sQ (kW bs):=by
  have h0:=Alj (kW bs)
  rw[show(9+sL (kW bs)).toNat - (9:Int).toNat=9+(sL (kW bs)).toNat - 9 by omega]
  exact GP bs 9 (9+(sL (kW bs)).toNat)
 unfold DU at h
 by_cases h1:(kW bs).size<9
 ·rw[if_pos h1] at h
  cases h
  refine aH Tryz.func160 ?_
  repeat' (first|refine v93 ?_|refine JD hQ ?_|refine w5 ?_ ?_|((refine bh fun h=>?_) <;> try exact w6 h)|(refine aE fun hA=>?_;subst hA)|intro _)
  all_goals(refine aC ?_;exact aB (hK _))
 rw[if_neg h1] at h
 have y0:(List.take ((9:Int).toNat - (0:Int).toNat) (List.drop (0:Int).toNat bs)).length=(9:Int).toNat - (0:Int).toNat:=by simp;omega
 by_cases h2:hgE ((kW bs).extract 0 9)=0
 ·rw[if_pos h2] at h
  by_cases h3:xM (sL (kW bs)) (sT (kW bs)) (sF (kW bs)) (sS (kW bs))=0
  ·rw[if_pos h3] at h
   have hl:=MZ h3
   by_cases h4:((kW bs).size:Int)<9+sL (kW bs)
   ·rw[if_pos h4] at h
    cases h
    refine aH Tryz.func160 ?_
    repeat' (first|refine v93 ?_|refine JD hQ ?_|refine w5 ?_ ?_|((refine bh fun h=>?_) <;> try exact w6 h)|(refine aE fun hA=>?_;subst hA)|intro _|(show aA _ 243 _ _ _;refine CA (h:=Ah x0 ?_))|(show aA _ 244 _ _ _;refine CA (h:=vQ (J9 _) ?_)))
    all_goals(refine aC ?_;exact aB (hK _))
   ·rw[if_neg h4] at h
    by_cases h5:gE (sL (kW bs)) (sT (kW bs)) (sF (kW bs)) (sS (kW bs)) (sQ (kW bs))=0
    ·rw[if_pos h5] at h;cases h
    ·rw[if_neg h5] at h
     cases h
     have hbf:(gE (sL (kW bs)) (sT (kW bs)) (sF (kW bs)) (sS (kW bs)) (sQ (kW bs)) == 0)=false:=by simpa using h5
     have y1:(List.take ((9+sL (kW bs)).toNat - (9:Int).toNat) (List.drop (9:Int).toNat bs)).length=(9+sL (kW bs)).toNat - (9:Int).toNat:=by simp;omega
     refine aH Tryz.func160 ?_
     repeat' (first|refine v93 ?_|refine JD hQ ?_|refine w5 ?_ ?_|((refine bh fun h=>?_) <;> try exact w6 h)|(refine aE fun hA=>?_;subst hA)|intro _|(show aA _ 243 _ _ _;refine CA (h:=Ah x0 ?_))|(show aA _ 244 _ _ _;refine CA (h:=vQ (J9 _) ?_))|(show aA _ 245 _ _ _;refine CA (h:=VK x1 h5 ?_)))
     all_goals(rw[hbf];(refine aC ?_;exact aB (hK _)))
  ·rw[if_neg h3] at h
   cases h
   refine aH Tryz.func160 ?_
   repeat' (first|refine v93 ?_|refine JD hQ ?_|refine w5 ?_ ?_|((refine bh fun h=>?_) <;> try exact w6 h)|(refine aE fun hA=>?_;subst hA)|intro _|(show aA _ 243 _ _ _;refine CA (h:=Ah x0 ?_))|(show aA _ 244 _ _ _;refine CA (h:=vQ (J9 _) ?_)))
   all_goals(refine aC ?_;exact aB (hK _))
 ·rw[if_neg h2] at h
  cases h
  refine aH Tryz.func160 ?_
  repeat' (first|refine v93 ?_|refine JD hQ ?_|refine w5 ?_ ?_|((refine bh fun h=>?_) <;> try exact w6 h)|(refine aE fun hA=>?_;subst hA)|intro _|(show aA _ 243 _ _ _;refine CA (h:=Ah x0 ?_)))
  all_goals(refine aC ?_;exact aB (hK _))
theorem GQ {p:ByteArray} (h:DU p=none):9≤p.size∧hgE (p.extract 0 9)=0∧xM (sL p) (sT p) (sF p) (sS p)=0∧9+sL p≤p.size∧gE (sL p) (sT p) (sF p) (sS p) (sQ p)=0∧0≤sL p∧sL p≤256:=by
 unfold DU at h
 split at h
 ·cases h
 ·split at h
  ·split at h
   ·rename_i h3
    have hl:=MZ h3
    split at h
    ·cases h
    ·split at h
     ·exact⟨by omega,by assumption,h3,by omega,by assumption,hl.1,hl.2⟩
     ·cases h
   ·cases h
  ·cases h
theorem Aff {A:Option Addr} {n c:Nat} {bs:List UInt8} {p:ByteArray} (hp:kW bs=p) (hn:bs.length=n) (hc:n≤c) (hz:n<1000000000000) (h:DU p=none) (hK:∀A' c',K (.tuple #[.agg #[I6 (sT p),I6 (sS p),.bool (sF p == 1),.string (gD (sT p) (sQ p)),I6 (gK (sT p) (sQ p)),I6 (gO (sT p) (sQ p)),I6 (gW (sT p) (sQ p)),.bool (gX (sT p) (sQ p)),I6 (gC (sT p) (sQ p)),I6 (gL (sT p) (sQ p)),I6 (gN (sT p) (sQ p)),.slice A' (gP (sT p) (sQ p)).length c'],I6 (9+sL p),I6 0,.bool true]) (bQ A' c' 148 rE (gP (sT p) (sQ p))::m7 A dL bs::R)):CT 160 #[.slice A n c] (m7 A dL bs::R) K:=by
 subst hn
 subst hp
 have hps:=pD bs
 obtain⟨h1,h2,h3,h4,h5,h6,h7⟩:=GQ h
 have x0:(⟨(List.take ((9:Int).toNat - (0:Int).toNat) (List.drop (0:Int).toNat bs)).toArray⟩:ByteArray)=(kW bs).extract 0 9:=GP bs 0 9
 have x1:(⟨(List.take ((9+sL (kW bs)).toNat - (9:Int).toNat) (List.drop (9:Int).toNat bs)).toArray⟩:ByteArray)=sQ (kW bs):=by
  rw[show(9+sL (kW bs)).toNat - (9:Int).toNat=9+(sL (kW bs)).toNat - 9 by omega]
  exact GP bs 9 (9+(sL (kW bs)).toNat)
 have y0:(List.take ((9:Int).toNat - (0:Int).toNat) (List.drop (0:Int).toNat bs)).length=(9:Int).toNat - (0:Int).toNat:=by simp;omega
 have y1:(List.take ((9+sL (kW bs)).toNat - (9:Int).toNat) (List.drop (9:Int).toNat bs)).length=(9+sL (kW bs)).toNat - (9:Int).toNat:=by simp;omega
 refine aH Tryz.func160 ?_
 repeat' (first|refine v93 ?_|refine JD hQ ?_|refine w5 ?_ ?_|((refine bh fun h=>?_) <;> try exact w6 h)|(refine aE fun hA=>?_;subst hA)|intro _|(show aA _ 243 _ _ _;refine CA (h:=Ah x0 ?_))|(show aA _ 244 _ _ _;refine CA (h:=vQ (J9 _) ?_))|(show aA _ 245 _ _ _;refine CA (h:=Wn x1 h5 (fun A' c'=>?_))))
 all_goals(refine aC ?_;exact aB (hK _ _))
end
end Go.Proofs.YtifgibijcmppmaaGreat
section
namespace Go.Proofs.YtifgibijcmppmaaGreat
open Go Go.Proofs Go.Sl
attribute [local irreducible] aN fN cX bP aM aX aA dS dV aT dU pt ro eV star sep bH
attribute [local irreducible] ByteArray.extract xU eT
variable {R C:List HP} {K:KP}
def spP (x:Nat) (bs:List UInt8) (e:Int):HP:=eV fun A=>eV fun c=>sep (pt x [.slice A bs.length c,I6 e] 216) (bQ A c 5 dL bs)
theorem Mr {x n:Nat} {bs:List UInt8} {e:Int} {A:Option Addr} {c:Nat} (h:bs.length=n):aG (pt x [.slice A n c,I6 e] 216::bQ A c 5 dL bs::R) (spP x bs e::R):=by
 subst h
 exact aG.ex A (aG.ex c (aG.sep (aG.refl _)))
theorem Afp {f:FuncId} {args:Array Value} {x:Nat} {bs:List UInt8} {e:Int} (h:∀A c,CT f args (pt x [.slice A bs.length c,I6 e] 216::bQ A c 5 dL bs::R) K):CT f args (spP x bs e::R) K:=
 aA.ex fun A=>aA.ex fun c=>aA.sep (h A c)
theorem Ae9 (hK:∀x,K (PO x) (spP x [] 0::R)):CT 50 #[] R K:=by
 refine aH Tryz.func50 ?_
 repeat' (first|refine v6 ?_|refine w5 ?_ ?_|((refine bh fun h=>?_) <;> try exact w6 h)|(refine aE fun hA=>?_;subst hA)|intro _)
 refine aC ?_
 exact aK (aG.trans (aG.pick aV.here (aG.nilrow' (aG.refl _))) (Mr (A:=none) (c:=0) (bs:= []) rfl)) (hK _)
theorem Ro {x n c:Nat} {A:Option Addr} {e:Int} (hK:K (I6 e) (pt x [.slice A n c,I6 e] 216::R)):CT 158 #[PO x] (pt x [.slice A n c,I6 e] 216::R) K:=by
 refine aH Tryz.func158 ?_
 repeat' (first|refine v4 ?_|refine w5 ?_ ?_|((refine bh fun h=>?_) <;> try exact w6 h)|(refine aE fun hA=>?_;subst hA)|intro _)
 (refine aC ?_;exact aB (hK))
def JU (r:Nat) (fs:List Fm):HP:=eV fun F=>eV fun c=>sep (pt r [.slice F fs.length c] 24) (sep (bQ F c 45 uR fs) (kR yA fs))
theorem Abf {f:FuncId} {args:Array Value} {r:Nat} {fs:List Fm} (h:∀F c,CT f args (pt r [.slice F fs.length c] 24::bQ F c 45 uR fs::kR yA fs::R) K):CT f args (JU r fs::R) K:=
 aA.ex fun A=>aA.ex fun c=>aA.sep (aA.ent (aG.cons aG.unsep) (h A c))
theorem Qr {r n:Nat} {fs:List Fm} {A:Option Addr} {c:Nat} (h:fs.length=n):aG (pt r [.slice A n c] 24::bQ A c 45 uR fs::kR yA fs::R) (JU r fs::R):=by
 subst h
 exact aG.ex A (aG.ex c (aG.sep (aG.pick aV.here (aG.sep (aG.refl _)))))
theorem Pn {A:Option Addr} {c:Nat} {e:TypeId} {xs ys:List Fm} (h:xs.flatMap uR.enc=ys.flatMap uR.enc) (hl:xs.length=ys.length) (H:Hp) (hr:bQ A c e uR xs H):bQ A c e uR ys H:=by
 rcases hr with⟨h1,h2,h3⟩|⟨B,pre,post,h1,h2,h3,h4⟩
 ·subst h2
  exact .inl ⟨h1,List.length_eq_zero_iff.1 hl.symm,h3⟩
 ·rw[h] at h2
  rw[hl] at h3 h4
  exact .inr ⟨B,pre,post,h1,h2,h3,h4⟩
theorem Adf {r n:Nat} {fs:List Fm} {A:Option Addr} {c:Nat} (f0 f1:Fm) (he:uR.enc f0=uR.enc f1) (hn:n=(fs++ [f0]).length):aG (pt r [.slice A n c] 24::bQ A c 45 uR (fs++ [f0])::m7 f1.pa rE f1.ps::kR yA fs::R) (JU r (fs++ [f1])::R):=
 aG.trans (aG.cons (aG.imp (Pn (ys:=fs++ [f1]) (by simp[he]) (by simp)) (aG.allsnoc (P:=yA) (x:=f1) zZ AT))) (Qr (by rw[hn];simp))
end Go.Proofs.YtifgibijcmppmaaGreat
namespace Go.Proofs.YtifgibijcmppmaaGreat
open Go Go.Proofs Go.Sl
attribute [local irreducible] aN fN cX bP aM aX aA dS dV aT dU pt ro eV star sep bH
attribute [local irreducible] ByteArray.extract xU eT
variable {R C:List HP} {K:KP}
theorem Adz {r7 r2 r6 x n c nx cx:Nat} {A S:Option Addr} {bs:List UInt8} {e e0:Int} (hn:bs.length=n) (hc:n≤c) (hz:n<1000000000000) (h:DU (kW bs)=some e) (hK:K (.bool false) (pt r7 [.slice A n c] 214::m7 A dL bs::pt x [.slice S nx cx,I6 e] 216::pt r2 [PO x] 114::R)):
  CT 159 #[PO r7,PO r2,PO r6] (pt r7 [.slice A n c] 214::m7 A dL bs::pt x [.slice S nx cx,I6 e0] 216::pt r2 [PO x] 114::R) K:=by
 refine aH Tryz.func159 ?_
 repeat' (first|refine Q7 ?_|refine w5 ?_ ?_|((refine bh fun h=>?_) <;> try exact w6 h)|(refine aE fun hA=>?_;subst hA)|intro _|(show aA _ 160 _ _ _;refine CA (h:=Ah4 hn hc hz h (fun n'=>?_))))
 all_goals(refine aC ?_;exact aB (hK))
theorem Ab8 {r7 r2 r6 x n c nx cx:Nat} {A S:Option Addr} {bs:List UInt8} {p:ByteArray} {fs:List Fm} {e0:Int} (hp:kW bs=p) (hn:bs.length=n) (hc:n≤c) (hz:n<1000000000000) (hf:fs.length<4000000) (h:DU p=none) (hK:∀A' c' A2 c2,n - (9+sL p).toNat≤c'→K (.bool true) (pt r7 [.slice A' (n - (9+sL p).toNat) c'] 214::m7 A' dL (bs.drop (9+sL p).toNat)::pt x [.slice S nx cx,I6 e0] 216::pt r2 [PO x] 114::JU r6 (fs++ [frA p A2 c2])::R)):
  CT 159 #[PO r7,PO r2,PO r6] (pt r7 [.slice A n c] 214::m7 A dL bs::pt x [.slice S nx cx,I6 e0] 216::pt r2 [PO x] 114::JU r6 fs::R) K:=by
 obtain⟨h1,h2,h3,h4,h5,h6,h7⟩:=GQ h
 have hps:p.size=bs.length:=by rw[← hp];exact pD bs
 refine aA.ent (C':=JU r6 fs::pt r7 [.slice A n c] 214::m7 A dL bs::pt x [.slice S nx cx,I6 e0] 216::pt r2 [PO x] 114::R) (by exact aZ) ?_
 refine Abf fun F cF=>?_
 refine aH Tryz.func159 ?_
 repeat' (first|refine Q7 ?_|refine w5 ?_ ?_|((refine bh fun h=>?_) <;> try exact w6 h)|(refine aE fun hA=>?_;subst hA)|intro _|(show aA _ 160 _ _ _;refine CA (h:=Aff hp hn hc hz h (fun A2 c2=>?_)))|(show aN _ _ _ _ _ _ _;first|(refine lZ ?_;intro _ _)))
 have hz1:List.take (((n:Nat):Int).toNat - (9+sL p).toNat) (List.drop (9+sL p).toNat bs)=bs.drop (9+sL p).toNat:=by
  rw[Int.toNat_natCast]
  exact List.take_of_length_le (by rw[List.length_drop];omega)
 rw[hz1]
 refine aC ?_
 refine aK (tZ (E:=rE) (xs:=gP (sT p) (sQ p)) (by((repeat (first|exact aV.here|apply aV.there)) <;> exact aV.here)) (aG.trans (by exact aZ) (aG.trans (Adf ⟨sT p,sS p,(sF p == 1),gD (sT p) (sQ p),gK (sT p) (sQ p),gO (sT p) (sQ p),gW (sT p) (sQ p),gX (sT p) (sQ p),gC (sT p) (sQ p),gL (sT p) (sQ p),gN (sT p) (sQ p),A2,(gP (sT p) (sQ p)).length,c2,[]⟩ (frA p A2 c2) rfl rfl) (by exact aZ)))) (hK _ _ A2 c2 ?_)
 omega
end Go.Proofs.YtifgibijcmppmaaGreat
end
namespace Go.Proofs.YtifgibijcmppmaaGreat
open Go Go.Proofs Go.Sl
attribute [local irreducible] aN fN cX bP aM aX aA dS dV aT dU pt ro eV star sep bH
attribute [local irreducible] ByteArray.extract xU eT
section
variable {R C:List HP} {K:KP}
def jL (y:Fm):Fm:=⟨y.t,y.st,y.e,y.d,y.k,y.on,y.w,y.x,y.c,y.la,y.n,none,y.pn,0,y.ps⟩
def Lu (p:ByteArray):Fm:=jL (frA p none 0)
def Cg:Nat→List UInt8→List ByteArray×List UInt8×Int
 |0,bs=>([],bs,0)
 |k+1,bs=>match DU (kW bs) with
  |some e=>([],bs,e)
  |none=>(kW bs::(Cg k (bs.drop (9+sL (kW bs)).toNat)).1,(Cg k (bs.drop (9+sL (kW bs)).toNat)).2)
def pF (bs:List UInt8):List ByteArray×List UInt8×Int:=Cg (bs.length+1) bs
theorem xL {bs:List UInt8} (h:DU (kW bs)=none):(bs.drop (9+sL (kW bs)).toNat).length+9≤bs.length:=by
 obtain⟨h1,h2,h3,h4,h5,h6,h7⟩:=GQ h
 have:=pD bs
 rw[List.length_drop]
 omega
theorem IJ:∀(k m:Nat) (bs:List UInt8),bs.length<k→bs.length<m→Cg k bs=Cg m bs
 |0,_,_,h,_=>by omega
 |_+1,0,_,_,h=>by omega
 |k+1,m+1,bs,h1,h2=>by
  unfold Cg
  cases hs:DU (kW bs) with
  |some e=>rfl
  |none=>
   have hd:=xL hs
   rw[IJ k m _ (by omega) (by omega)]
theorem yG {bs:List UInt8} {e:Int} (h:DU (kW bs)=some e):pF bs=([],bs,e):=by
 unfold pF Cg;rw[h]
theorem GG {bs:List UInt8} (h:DU (kW bs)=none):pF bs=(kW bs::(pF (bs.drop (9+sL (kW bs)).toNat)).1,(pF (bs.drop (9+sL (kW bs)).toNat)).2):=by
 have hd:=xL h
 have e:pF (bs.drop (9+sL (kW bs)).toNat)=Cg bs.length (bs.drop (9+sL (kW bs)).toNat):=IJ _ _ _ (by omega) (by omega)
 rw[e]
 unfold pF
 conv=>lhs;unfold Cg
 rw[h]
def qB:Tr:=(.br (.st 0 1 (.st 1 1 (.st 2 1 (.st 3 1 (.st 4 1 (.st 5 1 (.st 6 1 (.st 7 1 (.st 8 1 (.st 9 1 (.st 10 1 (.st 11 1 (.st 12 1 (.st 13 1 (.st 14 1 (.st 15 1 (.st 16 2 (.st 17 2 (.st 18 1 .nil))))))))))))))))))) (.st 17 2 (.st 0 1 (.st 1 1 (.st 2 1 (.st 3 1 (.st 4 1 (.st 5 1 (.st 6 1 (.st 7 1 (.st 8 1 (.st 9 1 (.st 10 1 (.st 11 1 (.st 12 1 (.st 13 1 (.st 14 1 (.st 15 1 (.st 16 2 (.st 18 1 .nil))))))))))))))))))))
def qL:List (Nat×Nat):= [(1,0),(2,1),(0,1),(3,0),(4,0),(5,1)]
def pA:List (Nat×Nat):= [(0,0),(1,0),(2,0),(3,0),(4,0),(5,0),(6,0)]
theorem Afl {r:Nat}:aG (pt r [.slice none 0 0] 24::R) (JU r []::R):=aG.trans (aG.pick aV.here (aG.nilrow' (aG.allnil (aG.refl _)))) (Qr (A:=none) (c:=0) (fs:= []) rfl)
theorem Wp {Q:Exit→Fr→List HP→Prop} {a:Fr} {r7 r2 r6 x nx cx c:Nat} {A S:Option Addr} {all:List UInt8} (hc:all.length≤c) (hz:all.length<4000000)
  (ha:cJ a [(2,PO r2),(6,PO r6),(7,PO r7),(8,.func (.func 159) #[] #[PO r7,PO r2,PO r6])])
  (hK:∀a A c F cF fs,(pF all).2.1.length≤all.length→fs.map jL=(pF all).1.map Lu→fs.length≤all.length→Q (.exit 0) (eP a [(2,PO r2),(6,PO r6),(7,PO r7)]) (pt r7 [.slice A (pF all).2.1.length c] 214::m7 A dL (pF all).2.1::pt x [.slice S nx cx,I6 (pF all).2.2] 216::pt r2 [PO x] 114::pt r6 [.slice F fs.length cF] 24::bQ F cF 45 uR fs::kR yA fs::R)):
  fN Tryz.prog (R9 Tryz.f76 0) Q a (pt r7 [.slice A all.length c] 214::m7 A dL all::pt x [.slice S nx cx,I6 0] 216::pt r2 [PO x] 114::JU r6 []::R):=by
 refine fZ (fun m a C'=>∃(bs:List UInt8) (A:Option Addr) (c:Nat) (srcs:List ByteArray) (fs:List Fm),bs.length=m∧bs.length≤c∧fs.map jL=srcs.map Lu∧(pF all).1=srcs++(pF bs).1∧(pF all).2=(pF bs).2∧fs.length+bs.length≤all.length∧C'=pt r7 [.slice A bs.length c] 214::m7 A dL bs::pt x [.slice S nx cx,I6 0] 216::pt r2 [PO x] 114::JU r6 fs::R∧cJ a [(2,PO r2),(6,PO r6),(7,PO r7),(8,.func (.func 159) #[] #[PO r7,PO r2,PO r6])]) all.length (bV all.length ⟨all,A,c,[],[],rfl,hc,rfl,rfl,rfl,by simp,rfl,ha⟩) ?_
 clear ha hc
 rintro n1 a C' ⟨bs,A,c,srcs,fs,hm,hbc,hfs,h1,h2,hfl,rfl,ha⟩
 refine fP _ ha ?_
 simp only[eP]
 have hbz:bs.length<1000000000000:=by omega
 have hfz:fs.length<4000000:=by omega
 cases hs:DU (kW bs) with
 |none=>
  have hd:=xL hs
  obtain⟨g1,g2,g3,g4,g5,g6,g7⟩:=GQ hs
  have hp:=GG hs
  repeat' (first|refine w1 ?_|refine w5 ?_ ?_|((refine bh fun h=>?_) <;> try exact w6 h)|(refine aE fun hA=>?_;subst hA)|intro _|(show aA _ 159 _ _ _;refine CA (h:=Ab8 rfl rfl hbc hbz hfz hs (fun A' c' A2 c2 hc'=>?_))))
  rw[← List.length_drop] at *
  exact bV (bs.drop (9+sL (kW bs)).toNat).length ⟨bs.drop (9+sL (kW bs)).toNat,A',c',srcs++ [kW bs],fs++ [frA (kW bs) A2 c2],rfl,hc',by rw[List.map_append,List.map_append,hfs];rfl,by rw[h1,hp];simp,by rw[h2,hp],by rw[List.length_append];simp only[List.length_cons,List.length_nil];omega,rfl,rfl,rfl,rfl,rfl,trivial⟩
 |some e=>
  have hp:=yG hs
  rw[hp,List.append_nil] at h1
  rw[hp] at h2
  refine l7 (C':=JU r6 fs::pt r7 [.slice A bs.length c] 214::m7 A dL bs::pt x [.slice S nx cx,I6 0] 216::pt r2 [PO x] 114::R) (by exact aZ) ?_
  refine qA fun F=>qA fun cF=>Ye (l7 (aG.cons aG.unsep) ?_)
  repeat' (first|refine w1 ?_|refine w5 ?_ ?_|((refine bh fun h=>?_) <;> try exact w6 h)|(refine aE fun hA=>?_;subst hA)|intro _|(show aA _ 159 _ _ _;refine CA (h:=Adz rfl hbc hbz hs ?_)))
  rw[h2,h1] at hK
  exact Uq (p:=fun a=>Q (.exit 0) a _) [(2,PO r2),(6,PO r6),(7,PO r7)] ⟨rfl,rfl,rfl,trivial⟩ (hK _ A c F cF fs (by show bs.length≤_;omega) hfs (by omega))
theorem Ajw {x:Nat} {e:Int}:aG (pt x [.slice none 0 0,I6 e] 216::R) (spP x [] e::R):=aG.trans (aG.pick aV.here (aG.nilrow' (aG.refl _))) (Mr (A:=none) (c:=0) (bs:= []) rfl)
theorem Aes {x:Nat} {ks:List UInt8} {s:ByteArray} (hz:ks.length+s.size<4000000) (hK:∀F c fs,fs.map jL=(pF (ks++s.data.toList)).1.map Lu→K (.tuple #[.slice F fs.length c,I6 (pF (ks++s.data.toList)).2.2]) (bQ F c 45 uR fs::kR yA fs::spP x (if(pF (ks++s.data.toList)).2.2=0 then(pF (ks++s.data.toList)).2.1 else []) (pF (ks++s.data.toList)).2.2::R)):CT 76 #[PO x,.string s] (spP x ks 0::R) K:=by
 have hsl:s.data.toList.length=s.size:=by simp
 refine Afp fun A c=>?_
 refine iK (l:=ks) (A:=A) (c:=c) (by((repeat (first|exact aV.here|apply aV.there)) <;> exact aV.here)) fun hkc=>?_
 have e0:List.take (((ks.length:Nat):Int).toNat - (0:Int).toNat) (List.drop (0:Int).toNat ks)=ks:=by simp
 have e1:(List.take (((ks.length:Nat):Int).toNat - (0:Int).toNat) (List.drop (0:Int).toNat ks)).length=((ks.length:Nat):Int).toNat - (0:Int).toNat:=by simp
 refine aH Tryz.func76 ?_
 repeat' (first|refine v92 ?_|refine JD qB ?_|refine dw qL ?_|refine dw pA ?_|refine w5 ?_ ?_|((refine bh fun h=>?_) <;> try exact w6 h)|(refine aE fun hA=>?_;subst hA)|intro _|(show aA _ 158 _ _ _;refine CA (h:=Ro ?_)))
 all_goals
  rw[e0]
  refine Oy (l:=ks++s.data.toList) (by((repeat (first|exact aV.here|apply aV.there)) <;> exact aV.here)) fun hc=>?_
  have hall:(ks++s.data.toList).length<4000000:=by rw[List.length_append];omega
  refine l7 (tZ (E:=dL) (xs:=ks++s.data.toList) (by((repeat (first|exact aV.here|apply aV.there)) <;> exact aV.here)) (aG.trans (by exact aZ) (aG.trans Afl (by exact aZ)))) (Wp (S:=A) (nx:=ks.length) (cx:=c) hc hall ⟨rfl,rfl,rfl,rfl,trivial⟩ (fun a A2 c2 F cF fs hl hfs hfl=>?_))
  have hrz:(pF (ks++s.data.toList)).2.1.length<4000000:=by omega
  generalize pF (ks++s.data.toList)=res at *
  obtain⟨srcs,rest,e⟩:=res
  simp only at hK hl hfs hrz
  by_cases he:e=0
  ·subst he
   rw[if_pos rfl] at hK
   repeat' (first|refine v92 ?_|refine JD qB ?_|refine dw qL ?_|refine dw pA ?_|refine w5 ?_ ?_|((refine bh fun h=>?_) <;> try exact w6 h)|(refine aE fun hA=>?_;subst hA)|intro _)
   all_goals
    refine aC ?_
    exact aK (aG.trans (by exact aZ) (aG.trans (Mr (bs:=rest) rfl) (by exact aZ))) (hK F cF fs hfs)
  ·rw[if_neg he] at hK
   repeat' (first|refine v92 ?_|refine JD qB ?_|refine dw qL ?_|refine dw pA ?_|refine w5 ?_ ?_|((refine bh fun h=>?_) <;> try exact w6 h)|(refine aE fun hA=>?_;subst hA)|intro _)
   all_goals
    refine aC ?_
    exact aK (aG.trans (by exact aZ) (aG.trans Ajw (by exact aZ))) (hK F cF fs hfs)
end
end Go.Proofs.YtifgibijcmppmaaGreat
