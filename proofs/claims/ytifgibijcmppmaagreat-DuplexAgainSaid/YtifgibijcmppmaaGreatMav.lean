/- A part of the proof: lemmas; each with the conditions that it states. -/
import Derived.Test.YtifgibijcmppmaaGreatMao
import Derived.Test.YtifgibijcmppmaaGreatMay
import Derived.Test.YtifgibijcmppmaaGreatMal
set_option linter.unusedVariables false
set_option linter.unusedSimpArgs false
namespace Go.Proofs.YtifgibijcmppmaaGreat
open Go Go.Proofs Go.Sl
set_option maxRecDepth 100000
set_option maxHeartbeats 40000000
attribute [local irreducible] aM fG cV bP aN aW aA dP dX aV dO pt ro eW star sep bH
section
variable {R C:List HP} {K:Value→List HP→Prop}
structure TA where
 k:Int
 n:Int
 s:ByteArray
end
section
variable {R C:List HP} {K:Value→List HP→Prop}
section
variable {t x cap:Nat} {st:Int} {bs:List UInt8} {en ou:Bool} {ac se dr w:Int} {k n:Int} {s:ByteArray} {l:List ByteArray}
end
section
variable {A:Option Addr} {n c:Nat} {ls:List TA} {kd st:Int}
end
end
end Go.Proofs.YtifgibijcmppmaaGreat
namespace Go.Proofs.YtifgibijcmppmaaGreat
open Go Go.Proofs Go.Sl
set_option maxRecDepth 100000
set_option maxHeartbeats 40000000
attribute [local irreducible] aM fG cV bP aN aW aA dP dX aV dO pt ro eW star sep bH
attribute [local irreducible] mp Ec
section
variable {R C:List HP} {K:Value→List HP→Prop}
section
theorem Aab {α:Type} {xs:List α} {i:Nat} (hi:i<xs.length):xs.take i++(xs.drop (i+1)++xs.drop (i+(xs.drop (i+1)).length))=xs.eraseIdx i++xs.drop (i+(xs.drop (i+1)).length):=by
 rw[List.eraseIdx_eq_take_drop_succ,List.append_assoc]
variable {A:Option Addr} {r c n i:Nat}
def pT:List (Nat×Nat):= [(0,0),(1,0),(2,0),(3,0),(4,0),(5,0),(6,1),(7,0)]
theorem Ad4 {xs:List gU} (hn:xs.length=n) (hi:i<n) (hs:n≤1000) (hK:∀A' c',K (.slice A' (n - 1) c') (bU A' c' 329 vX (xs.eraseIdx i)::R)):aA Tryz.prog 372 #[.slice A n c,.int .i64 i,.int .i64 ((i:Int)+1)] (bU A c 329 vX xs::R) K:=by
 refine iB aT.here fun hc=>?_
 subst hn
 refine oZ aT.here (by omega) fun B off hA=>?_
 subst hA
 have hdl:(xs.drop (i+1)).length=xs.length - (i+1):=List.length_drop ..
 have hel:(xs.eraseIdx i).length=xs.length - 1:=by rw[List.length_eraseIdx,if_pos hi]
 refine aH Tryz.func372 ?_
 repeat' (first|(show aM _ _ _ _ _ _ _;first|refine d3 (sz:=3) ?_|(refine mJ (sz:=3) ?_;intro A1 hA1))|refine v9 ?_|refine dw pT ?_|refine wr ?_|refine w5 ?_ ?_|((refine bh fun h=>?_) <;> try exact w6 h)|(refine aE fun hA=>?_;subst hA)|intro _)
 refine Kl (sz:=3) (j:=i) (N:=xs.length - 1) (vs:=xs.drop (i+1)) ?_ (hsrc:=T6 eX hA1 rfl (by omega) (by omega) (by omega) (by omega))
 repeat' (first|(show aM _ _ _ _ _ _ _;refine d3 (sz:=3) ?_)|refine v9 ?_|refine dw pT ?_|refine wr ?_|refine w5 ?_ ?_|((refine bh fun h=>?_) <;> try exact w6 h)|(refine aE fun hA=>?_;subst hA)|intro _)
 refine Nt (sz:=3) (xs:=xs.eraseIdx i) ?_ (Aab hi) (hA:=vL (by rw[hel];omega)) (hk0:=by rw[List.length_drop,hdl];omega)
 repeat' (first|refine v9 ?_|refine dw pT ?_|refine wr ?_|refine w5 ?_ ?_|((refine bh fun h=>?_) <;> try exact w6 h)|(refine aE fun hA=>?_;subst hA)|intro _)
 all_goals(refine aC ?_;exact aB (hK _ _))
def qF:List (Nat×Nat):= [(0,0),(1,0),(2,0),(3,0),(4,0),(5,0),(6,1),(7,0)]
theorem Ac5 {xs:List i6} (hn:xs.length=n) (hi:i<n) (hs:n≤1000) (hK:∀A' c',K (.slice A' (n - 1) c') (bU A' c' 255 eV (xs.eraseIdx i)::R)):aA Tryz.prog 370 #[.slice A n c,.int .i64 i,.int .i64 ((i:Int)+1)] (bU A c 255 eV xs::R) K:=by
 refine iB aT.here fun hc=>?_
 subst hn
 refine oZ aT.here (by omega) fun B off hA=>?_
 subst hA
 have hdl:(xs.drop (i+1)).length=xs.length - (i+1):=List.length_drop ..
 have hel:(xs.eraseIdx i).length=xs.length - 1:=by rw[List.length_eraseIdx,if_pos hi]
 refine aH Tryz.func370 ?_
 repeat' (first|(show aM _ _ _ _ _ _ _;first|refine d3 (sz:=2) ?_|(refine mJ (sz:=2) ?_;intro A1 hA1))|refine v9 ?_|refine dw qF ?_|refine wr ?_|refine w5 ?_ ?_|((refine bh fun h=>?_) <;> try exact w6 h)|(refine aE fun hA=>?_;subst hA)|intro _)
 refine Kl (sz:=2) (j:=i) (N:=xs.length - 1) (vs:=xs.drop (i+1)) ?_ (hsrc:=T6 eX hA1 rfl (by omega) (by omega) (by omega) (by omega))
 repeat' (first|(show aM _ _ _ _ _ _ _;refine d3 (sz:=2) ?_)|refine v9 ?_|refine dw qF ?_|refine wr ?_|refine w5 ?_ ?_|((refine bh fun h=>?_) <;> try exact w6 h)|(refine aE fun hA=>?_;subst hA)|intro _)
 refine Nt (sz:=2) (xs:=xs.eraseIdx i) ?_ (Aab hi) (hA:=vL (by rw[hel];omega)) (hk0:=by rw[List.length_drop,hdl];omega)
 repeat' (first|refine v9 ?_|refine dw qF ?_|refine wr ?_|refine w5 ?_ ?_|((refine bh fun h=>?_) <;> try exact w6 h)|(refine aE fun hA=>?_;subst hA)|intro _)
 all_goals(refine aC ?_;exact aB (hK _ _))
end
end
end Go.Proofs.YtifgibijcmppmaaGreat
namespace Go.Proofs.YtifgibijcmppmaaGreat
open Go Go.Proofs Go.Sl
set_option maxRecDepth 100000
set_option maxHeartbeats 40000000
attribute [local irreducible] aM fG cV bP aN aW aA dP dX aV dO pt ro eW star sep bH
attribute [local irreducible] ByteArray.extract xH eM
section
variable {R C:List HP} {K:Value→List HP→Prop}
def sL (p:ByteArray):Int:=SP (p.extract 0 9) 0 3
def sT (p:ByteArray):Int:=SP (p.extract 0 9) 3 4
def sF (p:ByteArray):Int:=SP (p.extract 0 9) 4 5
def sS (p:ByteArray):Int:=SP (p.extract 0 9) 5 9
def sQ (p:ByteArray):ByteArray:=p.extract 9 (9+(sL p).toNat)
def Dk (p:ByteArray):Option Int:=if p.size<9 then some 0 else if hgE (p.extract 0 9)=0 then(if wA (sL p) (sT p) (sF p) (sS p)=0 then(if(p.size:Int)<9+sL p then some 0 else if gE (sL p) (sT p) (sF p) (sS p) (sQ p)=0 then none else some (gE (sL p) (sT p) (sF p) (sS p) (sQ p))) else some (wA (sL p) (sT p) (sF p) (sS p))) else some 1
theorem LH {l t f s:Int} (h:wA l t f s=0):0≤l∧l≤256:=by
 unfold wA at h
 (repeat' split at h) <;> omega
def frA (p:ByteArray) (A:Option Addr) (c:Nat):Fm:=⟨sT p,sS p,(sF p == 1),gD (sT p) (sQ p),gK (sT p) (sQ p),gO (sT p) (sQ p),gW (sT p) (sQ p),gX (sT p) (sQ p),gC (sT p) (sQ p),gL (sT p) (sQ p),gN (sT p) (sQ p),A,(gP (sT p) (sQ p)).length,c,gP (sT p) (sQ p)⟩
theorem KU (p:ByteArray):-9223372036854775808≤sF p∧sF p≤9223372036854775807:=by
 unfold sF SP
 split
 ·have h1:=(Dw (p.extract 0 9) 4 5).1
  have h2:xH (p.extract 0 9) 4 5<256:=by have:=(Dw (p.extract 0 9) 4 5).2;simpa using this
  omega
 ·omega
theorem Ajo (p:ByteArray):0≤sL p:=by
 unfold sL SP
 split
 ·exact(Dw _ _ _).1
 ·omega
def kN (bs:List UInt8):ByteArray:=⟨bs.toArray⟩
theorem pI (bs:List UInt8):(kN bs).size=bs.length:=u3 _
theorem Gg (bs:List UInt8) (i j:Nat):kN ((bs.drop i).take (j - i))=(kN bs).extract i j:=by
 apply ES
 unfold kN
 simp
theorem Af {u p:ByteArray} (h:u=p.extract 0 9) (hK:K (.tuple #[.agg #[.int .i64 (sL p),.int .i64 (sT p),.int .i64 (sF p),.int .i64 (sS p)],.int .i64 (hgE (p.extract 0 9))]) R):aA Tryz.prog 243 #[.string u] R K:=by
 subst h;exact ZD hK
theorem WV {u p:ByteArray} (hu:u=sQ p) (h:gE (sL p) (sT p) (sF p) (sS p) (sQ p)=0) (hK:∀A c,K (.tuple #[.agg #[.int .i64 (sT p),.int .i64 (sS p),.bool (sF p == 1),.string (gD (sT p) (sQ p)),.int .i64 (gK (sT p) (sQ p)),.int .i64 (gO (sT p) (sQ p)),.int .i64 (gW (sT p) (sQ p)),.bool (gX (sT p) (sQ p)),.int .i64 (gC (sT p) (sQ p)),.int .i64 (gL (sT p) (sQ p)),.int .i64 (gN (sT p) (sQ p)),.slice A (gP (sT p) (sQ p)).length c],.int .i64 0]) (bU A c 148 rN (gP (sT p) (sQ p))::R)):aA Tryz.prog 245 #[.agg #[.int .i64 (sL p),.int .i64 (sT p),.int .i64 (sF p),.int .i64 (sS p)],.string u] R K:=by
 subst hu;exact Yr (KU p) h hK
theorem Ve {u p:ByteArray} (hu:u=sQ p) (h:gE (sL p) (sT p) (sF p) (sS p) (sQ p)≠0) (hK:K (.tuple #[.agg #[.int .i64 0,.int .i64 0,.bool false,.string ⟨#[]⟩,.int .i64 0,.int .i64 0,.int .i64 0,.bool false,.int .i64 0,.int .i64 0,.int .i64 0,.slice none 0 0],.int .i64 (gE (sL p) (sT p) (sF p) (sS p) (sQ p))]) R):aA Tryz.prog 245 #[.agg #[.int .i64 (sL p),.int .i64 (sT p),.int .i64 (sF p),.int .i64 (sS p)],.string u] R K:=by
 subst hu;exact XY (KU p) h hK
def gR:Tr:=(.br (.st 1 1 (.st 2 1 (.st 3 1 (.st 4 2 (.br (.st 0 2 (.st 5 2 (.st 9 3 (.st 6 1 (.st 7 1 (.st 10 1 (.st 8 2 (.st 11 0 .nil)))))))) (.st 9 3 (.st 0 2 (.st 5 2 (.st 6 1 (.st 7 1 (.st 10 1 (.st 8 2 (.st 11 0 .nil))))))))))))) (.st 9 3 (.st 1 1 (.st 2 1 (.st 3 1 (.st 4 2 (.st 0 2 (.st 5 2 (.st 6 1 (.st 7 1 (.st 10 1 (.st 8 2 (.st 11 0 .nil)))))))))))))
theorem Agp {A:Option Addr} {n c:Nat} {bs:List UInt8} {e:Int} (hn:bs.length=n) (hc:n≤c) (hz:n<1000000000000) (h:Dk (kN bs)=some e) (hK:∀n',K (.tuple #[.agg #[.int .i64 0,.int .i64 0,.bool false,.string ⟨#[]⟩,.int .i64 0,.int .i64 0,.int .i64 0,.bool false,.int .i64 0,.int .i64 0,.int .i64 0,.slice none 0 0],.int .i64 n',.int .i64 e,.bool false]) (lF A dF bs::R)):aA Tryz.prog 160 #[.slice A n c] (lF A dF bs::R) K:=by
 subst hn
 have hps:=pI bs
 have x0:(⟨(List.take ((9:Int).toNat - (0:Int).toNat) (List.drop (0:Int).toNat bs)).toArray⟩:ByteArray)=(kN bs).extract 0 9:=Gg bs 0 9
 have x1:(⟨(List.take ((9+sL (kN bs)).toNat - (9:Int).toNat) (List.drop (9:Int).toNat bs)).toArray⟩:ByteArray)=sQ (kN bs):=by
  have h0:=Ajo (kN bs)
  rw[show(9+sL (kN bs)).toNat - (9:Int).toNat=9+(sL (kN bs)).toNat - 9 by omega]
  exact Gg bs 9 (9+(sL (kN bs)).toNat)
 unfold Dk at h
 by_cases h1:(kN bs).size<9
 ·rw[if_pos h1] at h
  cases h
  refine aH Tryz.func160 ?_
  repeat' (first|refine v93 ?_|refine Gm gR ?_|refine wr ?_|refine w5 ?_ ?_|((refine bh fun h=>?_) <;> try exact w6 h)|(refine aE fun hA=>?_;subst hA)|intro _)
  all_goals(refine aC ?_;exact aB (hK _))
 rw[if_neg h1] at h
 have y0:(List.take ((9:Int).toNat - (0:Int).toNat) (List.drop (0:Int).toNat bs)).length=(9:Int).toNat - (0:Int).toNat:=by simp;omega
 by_cases h2:hgE ((kN bs).extract 0 9)=0
 ·rw[if_pos h2] at h
  by_cases h3:wA (sL (kN bs)) (sT (kN bs)) (sF (kN bs)) (sS (kN bs))=0
  ·rw[if_pos h3] at h
   have hl:=LH h3
   by_cases h4:((kN bs).size:Int)<9+sL (kN bs)
   ·rw[if_pos h4] at h
    cases h
    refine aH Tryz.func160 ?_
    repeat' (first|refine v93 ?_|refine Gm gR ?_|refine wr ?_|refine w5 ?_ ?_|((refine bh fun h=>?_) <;> try exact w6 h)|(refine aE fun hA=>?_;subst hA)|intro _|(show aA _ 243 _ _ _;refine CA (h:=Af x0 ?_))|(show aA _ 244 _ _ _;refine CA (h:=vC (KU _) ?_)))
    all_goals(refine aC ?_;exact aB (hK _))
   ·rw[if_neg h4] at h
    by_cases h5:gE (sL (kN bs)) (sT (kN bs)) (sF (kN bs)) (sS (kN bs)) (sQ (kN bs))=0
    ·rw[if_pos h5] at h;cases h
    ·rw[if_neg h5] at h
     cases h
     have hbf:(gE (sL (kN bs)) (sT (kN bs)) (sF (kN bs)) (sS (kN bs)) (sQ (kN bs)) == 0)=false:=by simpa using h5
     have y1:(List.take ((9+sL (kN bs)).toNat - (9:Int).toNat) (List.drop (9:Int).toNat bs)).length=(9+sL (kN bs)).toNat - (9:Int).toNat:=by simp;omega
     refine aH Tryz.func160 ?_
     repeat' (first|refine v93 ?_|refine Gm gR ?_|refine wr ?_|refine w5 ?_ ?_|((refine bh fun h=>?_) <;> try exact w6 h)|(refine aE fun hA=>?_;subst hA)|intro _|(show aA _ 243 _ _ _;refine CA (h:=Af x0 ?_))|(show aA _ 244 _ _ _;refine CA (h:=vC (KU _) ?_))|(show aA _ 245 _ _ _;refine CA (h:=Ve x1 h5 ?_)))
     all_goals(rw[hbf];(refine aC ?_;exact aB (hK _)))
  ·rw[if_neg h3] at h
   cases h
   refine aH Tryz.func160 ?_
   repeat' (first|refine v93 ?_|refine Gm gR ?_|refine wr ?_|refine w5 ?_ ?_|((refine bh fun h=>?_) <;> try exact w6 h)|(refine aE fun hA=>?_;subst hA)|intro _|(show aA _ 243 _ _ _;refine CA (h:=Af x0 ?_))|(show aA _ 244 _ _ _;refine CA (h:=vC (KU _) ?_)))
   all_goals(refine aC ?_;exact aB (hK _))
 ·rw[if_neg h2] at h
  cases h
  refine aH Tryz.func160 ?_
  repeat' (first|refine v93 ?_|refine Gm gR ?_|refine wr ?_|refine w5 ?_ ?_|((refine bh fun h=>?_) <;> try exact w6 h)|(refine aE fun hA=>?_;subst hA)|intro _|(show aA _ 243 _ _ _;refine CA (h:=Af x0 ?_)))
  all_goals(refine aC ?_;exact aB (hK _))
theorem F8 {p:ByteArray} (h:Dk p=none):9≤p.size∧hgE (p.extract 0 9)=0∧wA (sL p) (sT p) (sF p) (sS p)=0∧9+sL p≤p.size∧gE (sL p) (sT p) (sF p) (sS p) (sQ p)=0∧0≤sL p∧sL p≤256:=by
 unfold Dk at h
 split at h
 ·cases h
 ·split at h
  ·split at h
   ·rename_i h3
    have hl:=LH h3
    split at h
    ·cases h
    ·split at h
     ·exact⟨by omega,by assumption,h3,by omega,by assumption,hl.1,hl.2⟩
     ·cases h
   ·cases h
  ·cases h
theorem Agr {A:Option Addr} {n c:Nat} {bs:List UInt8} {p:ByteArray} (hp:kN bs=p) (hn:bs.length=n) (hc:n≤c) (hz:n<1000000000000) (h:Dk p=none) (hK:∀A' c',K (.tuple #[.agg #[.int .i64 (sT p),.int .i64 (sS p),.bool (sF p == 1),.string (gD (sT p) (sQ p)),.int .i64 (gK (sT p) (sQ p)),.int .i64 (gO (sT p) (sQ p)),.int .i64 (gW (sT p) (sQ p)),.bool (gX (sT p) (sQ p)),.int .i64 (gC (sT p) (sQ p)),.int .i64 (gL (sT p) (sQ p)),.int .i64 (gN (sT p) (sQ p)),.slice A' (gP (sT p) (sQ p)).length c'],.int .i64 (9+sL p),.int .i64 0,.bool true]) (bU A' c' 148 rN (gP (sT p) (sQ p))::lF A dF bs::R)):aA Tryz.prog 160 #[.slice A n c] (lF A dF bs::R) K:=by
 subst hn
 subst hp
 have hps:=pI bs
 obtain⟨h1,h2,h3,h4,h5,h6,h7⟩:=F8 h
 have x0:(⟨(List.take ((9:Int).toNat - (0:Int).toNat) (List.drop (0:Int).toNat bs)).toArray⟩:ByteArray)=(kN bs).extract 0 9:=Gg bs 0 9
 have x1:(⟨(List.take ((9+sL (kN bs)).toNat - (9:Int).toNat) (List.drop (9:Int).toNat bs)).toArray⟩:ByteArray)=sQ (kN bs):=by
  rw[show(9+sL (kN bs)).toNat - (9:Int).toNat=9+(sL (kN bs)).toNat - 9 by omega]
  exact Gg bs 9 (9+(sL (kN bs)).toNat)
 have y0:(List.take ((9:Int).toNat - (0:Int).toNat) (List.drop (0:Int).toNat bs)).length=(9:Int).toNat - (0:Int).toNat:=by simp;omega
 have y1:(List.take ((9+sL (kN bs)).toNat - (9:Int).toNat) (List.drop (9:Int).toNat bs)).length=(9+sL (kN bs)).toNat - (9:Int).toNat:=by simp;omega
 refine aH Tryz.func160 ?_
 repeat' (first|refine v93 ?_|refine Gm gR ?_|refine wr ?_|refine w5 ?_ ?_|((refine bh fun h=>?_) <;> try exact w6 h)|(refine aE fun hA=>?_;subst hA)|intro _|(show aA _ 243 _ _ _;refine CA (h:=Af x0 ?_))|(show aA _ 244 _ _ _;refine CA (h:=vC (KU _) ?_))|(show aA _ 245 _ _ _;refine CA (h:=WV x1 h5 (fun A' c'=>?_))))
 all_goals(refine aC ?_;exact aB (hK _ _))
end
end Go.Proofs.YtifgibijcmppmaaGreat
section
namespace Go.Proofs.YtifgibijcmppmaaGreat
open Go Go.Proofs Go.Sl
set_option maxRecDepth 100000
set_option maxHeartbeats 40000000
attribute [local irreducible] aM fG cV bP aN aW aA dP dX aV dO pt ro eW star sep bH
attribute [local irreducible] ByteArray.extract xH eM
variable {R C:List HP} {K:Value→List HP→Prop}
def spP (x:Nat) (bs:List UInt8) (e:Int):HP:=eW fun A=>eW fun c=>sep (pt x [.slice A bs.length c,.int .i64 e] 216) (bU A c 5 dF bs)
theorem MP {x n:Nat} {bs:List UInt8} {e:Int} {A:Option Addr} {c:Nat} (h:bs.length=n):aG (pt x [.slice A n c,.int .i64 e] 216::bU A c 5 dF bs::R) (spP x bs e::R):=by
 subst h
 exact aG.ex A (aG.ex c (aG.sep (aG.refl _)))
theorem Adw {f:FuncId} {args:Array Value} {x:Nat} {bs:List UInt8} {e:Int} (h:∀A c,aA Tryz.prog f args (pt x [.slice A bs.length c,.int .i64 e] 216::bU A c 5 dF bs::R) K):aA Tryz.prog f args (spP x bs e::R) K:=
 aA.ex fun A=>aA.ex fun c=>aA.sep (h A c)
theorem Ac6 (hK:∀x,K (.pointer (some ⟨x,0,none⟩)) (spP x [] 0::R)):aA Tryz.prog 50 #[] R K:=by
 refine aH Tryz.func50 ?_
 repeat' (first|refine v6 ?_|refine wr ?_|refine w5 ?_ ?_|((refine bh fun h=>?_) <;> try exact w6 h)|(refine aE fun hA=>?_;subst hA)|intro _)
 refine aC ?_
 exact aK (aG.trans (aG.pick aT.here (aG.nilrow' (aG.refl _))) (MP (A:=none) (c:=0) (bs:= []) rfl)) (hK _)
theorem RJ {x n c:Nat} {A:Option Addr} {e:Int} (hK:K (.int .i64 e) (pt x [.slice A n c,.int .i64 e] 216::R)):aA Tryz.prog 158 #[.pointer (some ⟨x,0,none⟩)] (pt x [.slice A n c,.int .i64 e] 216::R) K:=by
 refine aH Tryz.func158 ?_
 repeat' (first|refine v4 ?_|refine wr ?_|refine w5 ?_ ?_|((refine bh fun h=>?_) <;> try exact w6 h)|(refine aE fun hA=>?_;subst hA)|intro _)
 (refine aC ?_;exact aB (hK))
def Jm (r:Nat) (fs:List Fm):HP:=eW fun F=>eW fun c=>sep (pt r [.slice F fs.length c] 24) (sep (bU F c 45 uM fs) (kB yG fs))
theorem Abe {f:FuncId} {args:Array Value} {r:Nat} {fs:List Fm} (h:∀F c,aA Tryz.prog f args (pt r [.slice F fs.length c] 24::bU F c 45 uM fs::kB yG fs::R) K):aA Tryz.prog f args (Jm r fs::R) K:=
 aA.ex fun A=>aA.ex fun c=>aA.sep (aA.ent (aG.cons aG.unsep) (h A c))
theorem N5 {r n:Nat} {fs:List Fm} {A:Option Addr} {c:Nat} (h:fs.length=n):aG (pt r [.slice A n c] 24::bU A c 45 uM fs::kB yG fs::R) (Jm r fs::R):=by
 subst h
 exact aG.ex A (aG.ex c (aG.sep (aG.pick aT.here (aG.sep (aG.refl _)))))
theorem Qg {A:Option Addr} {c:Nat} {e:TypeId} {xs ys:List Fm} (h:xs.flatMap uM.enc=ys.flatMap uM.enc) (hl:xs.length=ys.length) (H:Hp) (hr:bU A c e uM xs H):bU A c e uM ys H:=by
 rcases hr with⟨h1,h2,h3⟩|⟨B,pre,post,h1,h2,h3,h4⟩
 ·subst h2
  exact .inl ⟨h1,List.length_eq_zero_iff.1 hl.symm,h3⟩
 ·rw[h] at h2
  rw[hl] at h3 h4
  exact .inr ⟨B,pre,post,h1,h2,h3,h4⟩
theorem ZY {r n:Nat} {fs:List Fm} {A:Option Addr} {c:Nat} (f0 f1:Fm) (he:uM.enc f0=uM.enc f1) (hn:n=(fs++ [f0]).length):aG (pt r [.slice A n c] 24::bU A c 45 uM (fs++ [f0])::lF f1.pa rN f1.ps::kB yG fs::R) (Jm r (fs++ [f1])::R):=
 aG.trans (aG.cons (aG.imp (Qg (ys:=fs++ [f1]) (by simp[he]) (by simp)) (aG.allsnoc (P:=yG) (x:=f1) Ac zV))) (N5 (by rw[hn];simp))
end Go.Proofs.YtifgibijcmppmaaGreat
namespace Go.Proofs.YtifgibijcmppmaaGreat
open Go Go.Proofs Go.Sl
set_option maxRecDepth 100000
set_option maxHeartbeats 40000000
attribute [local irreducible] aM fG cV bP aN aW aA dP dX aV dO pt ro eW star sep bH
attribute [local irreducible] ByteArray.extract xH eM
variable {R C:List HP} {K:Value→List HP→Prop}
theorem Abw {r7 r2 r6 x n c nx cx:Nat} {A S:Option Addr} {bs:List UInt8} {e e0:Int} (hn:bs.length=n) (hc:n≤c) (hz:n<1000000000000) (h:Dk (kN bs)=some e) (hK:K (.bool false) (pt r7 [.slice A n c] 214::lF A dF bs::pt x [.slice S nx cx,.int .i64 e] 216::pt r2 [.pointer (some ⟨x,0,none⟩)] 114::R)):
  aA Tryz.prog 159 #[.pointer (some ⟨r7,0,none⟩),.pointer (some ⟨r2,0,none⟩),.pointer (some ⟨r6,0,none⟩)] (pt r7 [.slice A n c] 214::lF A dF bs::pt x [.slice S nx cx,.int .i64 e0] 216::pt r2 [.pointer (some ⟨x,0,none⟩)] 114::R) K:=by
 refine aH Tryz.func159 ?_
 repeat' (first|refine Qo ?_|refine wr ?_|refine w5 ?_ ?_|((refine bh fun h=>?_) <;> try exact w6 h)|(refine aE fun hA=>?_;subst hA)|intro _|(show aA _ 160 _ _ _;refine CA (h:=Agp hn hc hz h (fun n'=>?_))))
 all_goals(refine aC ?_;exact aB (hK))
theorem Yt {r7 r2 r6 x n c nx cx:Nat} {A S:Option Addr} {bs:List UInt8} {p:ByteArray} {fs:List Fm} {e0:Int} (hp:kN bs=p) (hn:bs.length=n) (hc:n≤c) (hz:n<1000000000000) (hf:fs.length<4000000) (h:Dk p=none) (hK:∀A' c' A2 c2,n - (9+sL p).toNat≤c'→K (.bool true) (pt r7 [.slice A' (n - (9+sL p).toNat) c'] 214::lF A' dF (bs.drop (9+sL p).toNat)::pt x [.slice S nx cx,.int .i64 e0] 216::pt r2 [.pointer (some ⟨x,0,none⟩)] 114::Jm r6 (fs++ [frA p A2 c2])::R)):
  aA Tryz.prog 159 #[.pointer (some ⟨r7,0,none⟩),.pointer (some ⟨r2,0,none⟩),.pointer (some ⟨r6,0,none⟩)] (pt r7 [.slice A n c] 214::lF A dF bs::pt x [.slice S nx cx,.int .i64 e0] 216::pt r2 [.pointer (some ⟨x,0,none⟩)] 114::Jm r6 fs::R) K:=by
 obtain⟨h1,h2,h3,h4,h5,h6,h7⟩:=F8 h
 have hps:p.size=bs.length:=by rw[← hp];exact pI bs
 refine aA.ent (C':=Jm r6 fs::pt r7 [.slice A n c] 214::lF A dF bs::pt x [.slice S nx cx,.int .i64 e0] 216::pt r2 [.pointer (some ⟨x,0,none⟩)] 114::R) (by exact aY) ?_
 refine Abe fun F cF=>?_
 refine aH Tryz.func159 ?_
 repeat' (first|refine Qo ?_|refine wr ?_|refine w5 ?_ ?_|((refine bh fun h=>?_) <;> try exact w6 h)|(refine aE fun hA=>?_;subst hA)|intro _|(show aA _ 160 _ _ _;refine CA (h:=Agr hp hn hc hz h (fun A2 c2=>?_)))|(show aM _ _ _ _ _ _ _;first|(refine nX ?_;intro _ _)))
 have hz1:List.take (((n:Nat):Int).toNat - (9+sL p).toNat) (List.drop (9+sL p).toNat bs)=bs.drop (9+sL p).toNat:=by
  rw[Int.toNat_natCast]
  exact List.take_of_length_le (by rw[List.length_drop];omega)
 rw[hz1]
 refine aC ?_
 refine aK (tU (E:=rN) (xs:=gP (sT p) (sQ p)) (by((repeat (first|exact aT.here|apply aT.there)) <;> exact aT.here)) (aG.trans (by exact aY) (aG.trans (ZY ⟨sT p,sS p,(sF p == 1),gD (sT p) (sQ p),gK (sT p) (sQ p),gO (sT p) (sQ p),gW (sT p) (sQ p),gX (sT p) (sQ p),gC (sT p) (sQ p),gL (sT p) (sQ p),gN (sT p) (sQ p),A2,(gP (sT p) (sQ p)).length,c2,[]⟩ (frA p A2 c2) rfl rfl) (by exact aY)))) (hK _ _ A2 c2 ?_)
 omega
end Go.Proofs.YtifgibijcmppmaaGreat
end
namespace Go.Proofs.YtifgibijcmppmaaGreat
open Go Go.Proofs Go.Sl
set_option maxRecDepth 100000
set_option maxHeartbeats 40000000
attribute [local irreducible] aM fG cV bP aN aW aA dP dX aV dO pt ro eW star sep bH
attribute [local irreducible] ByteArray.extract xH eM
section
variable {R C:List HP} {K:Value→List HP→Prop}
def jD (y:Fm):Fm:=⟨y.t,y.st,y.e,y.d,y.k,y.on,y.w,y.x,y.c,y.la,y.n,none,y.pn,0,y.ps⟩
def Ke (p:ByteArray):Fm:=jD (frA p none 0)
def BL:Nat→List UInt8→List ByteArray×List UInt8×Int
 |0,bs=>([],bs,0)
 |k+1,bs=>match Dk (kN bs) with
  |some e=>([],bs,e)
  |none=>(kN bs::(BL k (bs.drop (9+sL (kN bs)).toNat)).1,(BL k (bs.drop (9+sL (kN bs)).toNat)).2)
def pF (bs:List UInt8):List ByteArray×List UInt8×Int:=BL (bs.length+1) bs
theorem wZ {bs:List UInt8} (h:Dk (kN bs)=none):(bs.drop (9+sL (kN bs)).toNat).length+9≤bs.length:=by
 obtain⟨h1,h2,h3,h4,h5,h6,h7⟩:=F8 h
 have:=pI bs
 rw[List.length_drop]
 omega
theorem IY:∀(k m:Nat) (bs:List UInt8),bs.length<k→bs.length<m→BL k bs=BL m bs
 |0,_,_,h,_=>by omega
 |_+1,0,_,_,h=>by omega
 |k+1,m+1,bs,h1,h2=>by
  unfold BL
  cases hs:Dk (kN bs) with
  |some e=>rfl
  |none=>
   have hd:=wZ hs
   rw[IY k m _ (by omega) (by omega)]
theorem x9 {bs:List UInt8} {e:Int} (h:Dk (kN bs)=some e):pF bs=([],bs,e):=by
 unfold pF BL;rw[h]
theorem F7 {bs:List UInt8} (h:Dk (kN bs)=none):pF bs=(kN bs::(pF (bs.drop (9+sL (kN bs)).toNat)).1,(pF (bs.drop (9+sL (kN bs)).toNat)).2):=by
 have hd:=wZ h
 have e:pF (bs.drop (9+sL (kN bs)).toNat)=BL bs.length (bs.drop (9+sL (kN bs)).toNat):=IY _ _ _ (by omega) (by omega)
 rw[e]
 unfold pF
 conv=>lhs;unfold BL
 rw[h]
def qB:Tr:=(.br (.st 0 1 (.st 1 1 (.st 2 1 (.st 3 1 (.st 4 1 (.st 5 1 (.st 6 1 (.st 7 1 (.st 8 1 (.st 9 1 (.st 10 1 (.st 11 1 (.st 12 1 (.st 13 1 (.st 14 1 (.st 15 1 (.st 16 2 (.st 17 2 (.st 18 1 .nil))))))))))))))))))) (.st 17 2 (.st 0 1 (.st 1 1 (.st 2 1 (.st 3 1 (.st 4 1 (.st 5 1 (.st 6 1 (.st 7 1 (.st 8 1 (.st 9 1 (.st 10 1 (.st 11 1 (.st 12 1 (.st 13 1 (.st 14 1 (.st 15 1 (.st 16 2 (.st 18 1 .nil))))))))))))))))))))
def qD:List (Nat×Nat):= [(1,0),(2,1),(0,1),(3,0),(4,0),(5,1)]
def oU:List (Nat×Nat):= [(0,0),(1,0),(2,0),(3,0),(4,0),(5,0),(6,0)]
theorem Adk {r:Nat}:aG (pt r [.slice none 0 0] 24::R) (Jm r []::R):=aG.trans (aG.pick aT.here (aG.nilrow' (aG.allnil (aG.refl _)))) (N5 (A:=none) (c:=0) (fs:= []) rfl)
theorem WZ {Q:Exit→Fr→List HP→Prop} {a:Fr} {r7 r2 r6 x nx cx c:Nat} {A S:Option Addr} {all:List UInt8} (hc:all.length≤c) (hz:all.length<4000000)
  (ha:dC a [(2,.pointer (some ⟨r2,0,none⟩)),(6,.pointer (some ⟨r6,0,none⟩)),(7,.pointer (some ⟨r7,0,none⟩)),(8,.func (.func 159) #[] #[.pointer (some ⟨r7,0,none⟩),.pointer (some ⟨r2,0,none⟩),.pointer (some ⟨r6,0,none⟩)])])
  (hK:∀a A c F cF fs,(pF all).2.1.length≤all.length→fs.map jD=(pF all).1.map Ke→fs.length≤all.length→Q (.exit 0) (fN a [(2,.pointer (some ⟨r2,0,none⟩)),(6,.pointer (some ⟨r6,0,none⟩)),(7,.pointer (some ⟨r7,0,none⟩))]) (pt r7 [.slice A (pF all).2.1.length c] 214::lF A dF (pF all).2.1::pt x [.slice S nx cx,.int .i64 (pF all).2.2] 216::pt r2 [.pointer (some ⟨x,0,none⟩)] 114::pt r6 [.slice F fs.length cF] 24::bU F cF 45 uM fs::kB yG fs::R)):
  fG Tryz.prog (SC Tryz.f76 0) Q a (pt r7 [.slice A all.length c] 214::lF A dF all::pt x [.slice S nx cx,.int .i64 0] 216::pt r2 [.pointer (some ⟨x,0,none⟩)] 114::Jm r6 []::R):=by
 refine iL (fun m a C'=>∃(bs:List UInt8) (A:Option Addr) (c:Nat) (srcs:List ByteArray) (fs:List Fm),bs.length=m∧bs.length≤c∧fs.map jD=srcs.map Ke∧(pF all).1=srcs++(pF bs).1∧(pF all).2=(pF bs).2∧fs.length+bs.length≤all.length∧C'=pt r7 [.slice A bs.length c] 214::lF A dF bs::pt x [.slice S nx cx,.int .i64 0] 216::pt r2 [.pointer (some ⟨x,0,none⟩)] 114::Jm r6 fs::R∧dC a [(2,.pointer (some ⟨r2,0,none⟩)),(6,.pointer (some ⟨r6,0,none⟩)),(7,.pointer (some ⟨r7,0,none⟩)),(8,.func (.func 159) #[] #[.pointer (some ⟨r7,0,none⟩),.pointer (some ⟨r2,0,none⟩),.pointer (some ⟨r6,0,none⟩)])]) all.length (cC all.length ⟨all,A,c,[],[],rfl,hc,rfl,rfl,rfl,by simp,rfl,ha⟩) ?_
 clear ha hc
 rintro n1 a C' ⟨bs,A,c,srcs,fs,hm,hbc,hfs,h1,h2,hfl,rfl,ha⟩
 refine gV _ ha ?_
 simp only[fN]
 have hbz:bs.length<1000000000000:=by omega
 have hfz:fs.length<4000000:=by omega
 cases hs:Dk (kN bs) with
 |none=>
  have hd:=wZ hs
  obtain⟨g1,g2,g3,g4,g5,g6,g7⟩:=F8 hs
  have hp:=F7 hs
  repeat' (first|refine w1 ?_|refine w5 ?_ ?_|((refine bh fun h=>?_) <;> try exact w6 h)|(refine aE fun hA=>?_;subst hA)|intro _|(show aA _ 159 _ _ _;refine CA (h:=Yt rfl rfl hbc hbz hfz hs (fun A' c' A2 c2 hc'=>?_))))
  rw[← List.length_drop] at *
  exact cC (bs.drop (9+sL (kN bs)).toNat).length ⟨bs.drop (9+sL (kN bs)).toNat,A',c',srcs++ [kN bs],fs++ [frA (kN bs) A2 c2],rfl,hc',by rw[List.map_append,List.map_append,hfs];rfl,by rw[h1,hp];simp,by rw[h2,hp],by rw[List.length_append];simp only[List.length_cons,List.length_nil];omega,rfl,rfl,rfl,rfl,rfl,trivial⟩
 |some e=>
  have hp:=x9 hs
  rw[hp,List.append_nil] at h1
  rw[hp] at h2
  refine lW (C':=Jm r6 fs::pt r7 [.slice A bs.length c] 214::lF A dF bs::pt x [.slice S nx cx,.int .i64 0] 216::pt r2 [.pointer (some ⟨x,0,none⟩)] 114::R) (by exact aY) ?_
  refine vV fun F=>vV fun cF=>U9 (lW (aG.cons aG.unsep) ?_)
  repeat' (first|refine w1 ?_|refine w5 ?_ ?_|((refine bh fun h=>?_) <;> try exact w6 h)|(refine aE fun hA=>?_;subst hA)|intro _|(show aA _ 159 _ _ _;refine CA (h:=Abw rfl hbc hbz hs ?_)))
  rw[h2,h1] at hK
  exact Lr (p:=fun a=>Q (.exit 0) a _) [(2,.pointer (some ⟨r2,0,none⟩)),(6,.pointer (some ⟨r6,0,none⟩)),(7,.pointer (some ⟨r7,0,none⟩))] ⟨rfl,rfl,rfl,trivial⟩ (hK _ A c F cF fs (by show bs.length≤_;omega) hfs (by omega))
theorem Ah9 {x:Nat} {e:Int}:aG (pt x [.slice none 0 0,.int .i64 e] 216::R) (spP x [] e::R):=aG.trans (aG.pick aT.here (aG.nilrow' (aG.refl _))) (MP (A:=none) (c:=0) (bs:= []) rfl)
theorem Afe {x:Nat} {ks:List UInt8} {s:ByteArray} (hz:ks.length+s.size<4000000) (hK:∀F c fs,fs.map jD=(pF (ks++s.data.toList)).1.map Ke→K (.tuple #[.slice F fs.length c,.int .i64 (pF (ks++s.data.toList)).2.2]) (bU F c 45 uM fs::kB yG fs::spP x (if(pF (ks++s.data.toList)).2.2=0 then(pF (ks++s.data.toList)).2.1 else []) (pF (ks++s.data.toList)).2.2::R)):aA Tryz.prog 76 #[.pointer (some ⟨x,0,none⟩),.string s] (spP x ks 0::R) K:=by
 have hsl:s.data.toList.length=s.size:=by simp
 refine Adw fun A c=>?_
 refine iB (l:=ks) (A:=A) (c:=c) (by((repeat (first|exact aT.here|apply aT.there)) <;> exact aT.here)) fun hkc=>?_
 have e0:List.take (((ks.length:Nat):Int).toNat - (0:Int).toNat) (List.drop (0:Int).toNat ks)=ks:=by simp
 have e1:(List.take (((ks.length:Nat):Int).toNat - (0:Int).toNat) (List.drop (0:Int).toNat ks)).length=((ks.length:Nat):Int).toNat - (0:Int).toNat:=by simp
 refine aH Tryz.func76 ?_
 repeat' (first|refine v92 ?_|refine Gm qB ?_|refine dw qD ?_|refine dw oU ?_|refine wr ?_|refine w5 ?_ ?_|((refine bh fun h=>?_) <;> try exact w6 h)|(refine aE fun hA=>?_;subst hA)|intro _|(show aA _ 158 _ _ _;refine CA (h:=RJ ?_)))
 all_goals
  rw[e0]
  refine OA (l:=ks++s.data.toList) (by((repeat (first|exact aT.here|apply aT.there)) <;> exact aT.here)) fun hc=>?_
  have hall:(ks++s.data.toList).length<4000000:=by rw[List.length_append];omega
  refine lW (tU (E:=dF) (xs:=ks++s.data.toList) (by((repeat (first|exact aT.here|apply aT.there)) <;> exact aT.here)) (aG.trans (by exact aY) (aG.trans Adk (by exact aY)))) (WZ (S:=A) (nx:=ks.length) (cx:=c) hc hall ⟨rfl,rfl,rfl,rfl,trivial⟩ (fun a A2 c2 F cF fs hl hfs hfl=>?_))
  have hrz:(pF (ks++s.data.toList)).2.1.length<4000000:=by omega
  generalize pF (ks++s.data.toList)=res at *
  obtain⟨srcs,rest,e⟩:=res
  simp only at hK hl hfs hrz
  by_cases he:e=0
  ·subst he
   rw[if_pos rfl] at hK
   repeat' (first|refine v92 ?_|refine Gm qB ?_|refine dw qD ?_|refine dw oU ?_|refine wr ?_|refine w5 ?_ ?_|((refine bh fun h=>?_) <;> try exact w6 h)|(refine aE fun hA=>?_;subst hA)|intro _)
   all_goals
    refine aC ?_
    exact aK (aG.trans (by exact aY) (aG.trans (MP (bs:=rest) rfl) (by exact aY))) (hK F cF fs hfs)
  ·rw[if_neg he] at hK
   repeat' (first|refine v92 ?_|refine Gm qB ?_|refine dw qD ?_|refine dw oU ?_|refine wr ?_|refine w5 ?_ ?_|((refine bh fun h=>?_) <;> try exact w6 h)|(refine aE fun hA=>?_;subst hA)|intro _)
   all_goals
    refine aC ?_
    exact aK (aG.trans (by exact aY) (aG.trans Ah9 (by exact aY))) (hK F cF fs hfs)
end
end Go.Proofs.YtifgibijcmppmaaGreat
namespace Go.Proofs.YtifgibijcmppmaaGreat
open Go Go.Proofs Go.Sl
set_option maxRecDepth 100000
set_option maxHeartbeats 40000000
attribute [local irreducible] aM fG cV bP aN aW aA dP dX aV dO pt ro eW star sep bH
attribute [local irreducible] mp Ec
section
variable {R C:List HP} {K:Value→List HP→Prop}
def Jt (s:eJ) (lv:List Int):List Int:=Mi (lv.flatMap fun k=>bZ k s.1)
def yN (s:eJ):Nat→List Int→List Int
 |0,_=> []
 |n+1,lv=>if lv= [] then [] else lv++yN s n (Jt s lv)
def d6 (s:eJ):List Int:=yN s (s.1.length+1) (bZ 0 s.1)
theorem sZ {s:eJ} (h:Ni s):∀ {lv:List Int},lv.Nodup→(lv.flatMap fun k=>bZ k s.1).Nodup
 | [],_=>List.nodup_nil
 |k::r,hn=>by
  obtain⟨h1,h2⟩:=List.nodup_cons.1 hn
  rw[List.flatMap_cons]
  refine List.nodup_append.2 ⟨AG h,sZ h h2,?_⟩
  intro a ha b hb e
  subst e
  obtain⟨z,hz,hzb⟩:=List.mem_flatMap.1 hb
  have e1:=(kF h ha).2
  have e2:=(kF h hzb).2
  exact h1 (by rw[← e1,e2];exact hz)
theorem Add {s:eJ} {l:List Int} (h:∀k∈l,dR k s.1=true):∀k∈l,k∈s.1.map KE.k:=fun k hk=>w9 (h k hk)
theorem G9 {s:eJ} {l:List Int} (hn:l.Nodup) (h:∀k∈l,dR k s.1=true):l.length≤s.1.length:=by
 have:=List.Nodup.length_le_of_subset hn (Add h)
 rwa[List.length_map] at this
theorem zD {s:eJ} {lv:List Int} (h:Ni s):∀y∈lv.flatMap fun k=>bZ k s.1,dR y s.1=true∧(cZ y s).on∈lv:=fun y hy=>by
 obtain⟨k,hk,hy⟩:=List.mem_flatMap.1 hy
 obtain⟨h1,h2⟩:=kF h hy
 exact⟨h1,by rw[h2];exact hk⟩
def Z4 (s:eJ) (r:Int→Nat) (n:Nat) (lv:List Int):Prop:=∀x∈lv,dR x s.1=true∧∃c:List Int,c.Nodup∧c.length=n∧∀z∈c,dR z s.1=true∧r z<r x
theorem Akt {s:eJ} {r:Int→Nat} {n:Nat} {lv:List Int} (hr:RS r s) (hk:Ni s) (h:Z4 s r n lv):Z4 s r (n+1) (Jt s lv):=fun y hy=>by
 unfold Jt at hy
 rw[Av] at hy
 obtain⟨h1,h2⟩:=zD hk y hy
 obtain⟨h3,c,h4,h5,h6⟩:=h _ h2
 have h7:=hr y h1 h3
 refine⟨h1,(cZ y s).on::c,List.nodup_cons.2 ⟨fun q=>by have:=(h6 _ q).2;omega,h4⟩,by rw[List.length_cons,h5],fun z hz=>?_⟩
 rcases List.mem_cons.1 hz with rfl|hz
 ·exact⟨h3,h7⟩
 ·exact⟨(h6 z hz).1,Nat.lt_trans (h6 z hz).2 h7⟩
theorem Aju {s:eJ} {r:Int→Nat} {n:Nat} {lv:List Int} (h:Z4 s r n lv) (hn:lv≠ []):n<s.1.length:=by
 obtain⟨x,hx⟩:=List.exists_mem_of_ne_nil lv hn
 obtain⟨h1,c,h2,h3,h4⟩:=h x hx
 have:=G9 (s:=s) (l:=x::c) (List.nodup_cons.2 ⟨fun q=>by have:=(h4 _ q).2;omega,h2⟩) (fun z hz=>by
  rcases List.mem_cons.1 hz with rfl|hz
  ·exact h1
  ·exact(h4 z hz).1)
 rw[List.length_cons,h3] at this
 exact this
theorem Ag7 {s:eJ} {lv:List Int} (hk:Ni s) (h:lv.Nodup):(Jt s lv).Nodup:=TX (sZ hk h)
section
variable {p q:Nat} {most:Int} {s:eJ} {r:Int→Nat}
theorem SV (hok:Qp s.1 s.2) (hl:s.1.length≤1000) (hn:Ni s) (hr:RS r s) (hK:∀B d,K (.slice B (d6 s).length d) (bU B d 3 nI (d6 s)::pt p [.int .i64 most,.map (some q)] 229::mp q (kM qI s.1) s.2::R)):aA Tryz.prog 288 #[.pointer (some ⟨p,0,none⟩)] (pt p [.int .i64 most,.map (some q)] 229::mp q (kM qI s.1) s.2::R) K:=by
 have hc0:Z4 s r 0 (bZ 0 s.1):=fun x hx=>⟨(kF hn hx).1,[],List.nodup_nil,rfl,fun z hz=>by cases hz⟩
 refine aH Tryz.func288 ?_
 repeat' (first|refine v45 ?_|refine wr ?_|refine w5 ?_ ?_|((refine bh fun h=>?_) <;> try exact w6 h)|(refine aE fun hA=>?_;subst hA)|intro _|(show aA _ 355 _ _ _;refine CA (h:=AU hok (by omega) (fun A c=>?_))))
 refine lW (aG.nilrow 3 nI _) ?_
 refine iL (fun kk a C'=>∃(n:Nat) (acc lv:List Int) (A:Option Addr) (c:Nat) (B:Option Addr) (d:Nat),n+kk=s.1.length∧acc++yN s (kk+1) lv=d6 s∧acc.length≤1000 * n∧lv.Nodup∧Z4 s r n lv∧dC a [(0,.pointer (some ⟨p,0,none⟩)),(3,.slice B acc.length d),(4,.slice A lv.length c)]∧C'=bU B d 3 nI acc::bU A c 3 nI lv::pt p [.int .i64 most,.map (some q)] 229::mp q (kM qI s.1) s.2::R) s.1.length (cC s.1.length ⟨0,[],_,A,c,none,0,by omega,rfl,by simp,AG hn,hc0,⟨rfl,rfl,rfl,trivial⟩,rfl⟩ (by omega)) ?_
 rintro kk a C' ⟨n,acc,lv,A,c,B,d,hk,hac,hal,hnd,hch,ha,rfl⟩
 refine gV _ ha ?_
 simp only[fN]
 by_cases h0:lv= []
 ·subst h0
  have e:yN s (kk+1) []= []:=by unfold yN;rw[if_pos rfl]
  rw[e,List.append_nil] at hac
  subst hac
  repeat' (first|refine v45 ?_|refine wr ?_|refine w5 ?_ ?_|((refine bh fun h=>?_) <;> try exact w6 h)|(refine aE fun hA=>?_;subst hA)|intro _)
  all_goals(refine aC ?_;exact aB (hK _ _))
 ·have hlt:=Aju hch h0
  have e:yN s (kk+1) lv=lv++yN s kk (Jt s lv):=by
   conv=>lhs;unfold yN
   rw[if_neg h0]
  rw[e,← List.append_assoc] at hac
  have hll:lv.length≤s.1.length:=G9 hnd fun k hk=>(hch k hk).1
  have hl0:0<lv.length:=List.length_pos_iff.2 h0
  have hn1:1000 * n≤1000 * 1000:=Nat.mul_le_mul_left _ (by omega)
  repeat' (first|(show aM _ _ _ _ _ _ _;(refine cU (E:=nI) (xs:=acc) (ys:=lv) ?_;intro B2 d2))|refine v45 ?_|refine wr ?_|refine w5 ?_ ?_|((refine bh fun h=>?_) <;> try exact w6 h)|(refine aE fun hA=>?_;subst hA)|intro _)
  refine lW (aG.nilrow 3 nI _) ?_
  refine iL (fun k2 a C'=>∃(j:Nat) (N:Option Addr) (e:Nat),j+k2=lv.length∧dC a [(0,.pointer (some ⟨p,0,none⟩)),(3,.slice B2 (acc++lv).length d2),(5,.slice N ((lv.take j).flatMap fun k=>bZ k s.1).length e),(16,.slice A lv.length c),(17,.int .i64 lv.length),(18,.int .i64 j)]∧C'=bU N e 3 nI ((lv.take j).flatMap fun k=>bZ k s.1)::bU B2 d2 3 nI (acc++lv)::bU A c 3 nI lv::pt p [.int .i64 most,.map (some q)] 229::mp q (kM qI s.1) s.2::R) lv.length (cC lv.length ⟨0,none,0,by omega,⟨rfl,rfl,rfl,rfl,rfl,rfl,trivial⟩,rfl⟩ (by omega)) ?_
  rintro k2 a2 C' ⟨j,N,e2,hj,ha,rfl⟩
  refine gV _ ha ?_
  simp only[fN]
  by_cases hlt2:j<lv.length
  ·obtain⟨k,hkj⟩:∃k,lv[j]?=some k:=⟨_,List.getElem?_eq_getElem hlt2⟩
   have hk':lv[((j:Nat):Int).toNat]?=some k:=by rw[Int.toNat_natCast];exact hkj
   have hfl:((lv.take j).flatMap fun k=>bZ k s.1).length≤1000:=Nat.le_trans (G9 (sZ hn (List.Nodup.sublist (List.take_sublist ..) hnd)) fun y hy=>(zD hn y hy).1) hl
   have hkl:(bZ k s.1).length≤1000:=by
    unfold bZ
    rw[Ax,List.length_map]
    exact Nat.le_trans (List.length_filter_le _ _) hl
   have hnx:((lv.take j).flatMap fun k=>bZ k s.1)++bZ k s.1=(lv.take (j+1)).flatMap fun k=>bZ k s.1:=by rw[List.take_add_one,hkj];simp
   repeat' (first|(show aM _ _ _ _ _ _ _;(refine cU (E:=nI) (xs:=(lv.take j).flatMap fun k=>bZ k s.1) (ys:=bZ k s.1) ?_;intro N2 e3))|refine v45 ?_|refine wr ?_|refine w5 ?_ ?_|((refine bh fun h=>?_) <;> try exact w6 h)|(refine aE fun hA=>?_;subst hA)|intro _|(show aA _ 355 _ _ _;refine CA (h:=AU hok (by omega) (fun A3 c3=>?_))))
   all_goals rw[hnx]
   all_goals(show aV _ _ _ _;exact cC (k2 - 1) ⟨j+1,_,_,by omega,⟨rfl,rfl,rfl,rfl,rfl,rfl,trivial⟩,rfl⟩)
  ·have hjl:lv.take j=lv:=List.take_of_length_le (by omega)
   rw[hjl]
   have hfl:(lv.flatMap fun k=>bZ k s.1).length≤1000:=Nat.le_trans (G9 (sZ hn hnd) fun y hy=>(zD hn y hy).1) hl
   have hsl:(Jt s lv).length=(lv.flatMap fun k=>bZ k s.1).length:=Ax _
   repeat' (first|refine v45 ?_|refine wr ?_|refine w5 ?_ ?_|((refine bh fun h=>?_) <;> try exact w6 h)|(refine aE fun hA=>?_;subst hA)|intro _|(show aA _ 356 _ _ _;refine CA (h:=NZ (xs:=lv.flatMap fun k=>bZ k s.1) rfl (by omega) ?_)))
   all_goals rw[← hsl]
   all_goals(show aV _ _ _ _;exact cC (kk - 1) ⟨n+1,acc++lv,Jt s lv,N,e2,B2,d2,by omega,by rw[show kk - 1+1=kk by omega];exact hac,by rw[List.length_append];omega,Ag7 hn hnd,Akt hr hn hch,⟨rfl,rfl,rfl,trivial⟩,rfl⟩)
end
end
end Go.Proofs.YtifgibijcmppmaaGreat
namespace Go.Proofs.YtifgibijcmppmaaGreat
open Go Go.Proofs Go.Sl
set_option maxHeartbeats 40000000
attribute [local irreducible] pF BL
theorem T3:∀(k:Nat) (a:List UInt8),a.length≤k→Dk (kN (pF a).2.1)=some (pF a).2.2∧(pF a).2.1.length≤a.length:=fun k=>by
 induction k with
 |zero=>
  intro a h
  obtain rfl:a= []:=List.length_eq_zero_iff.1 (by omega)
  have hs:Dk (kN [])=some 0:=by unfold Dk;rw[if_pos (by rw[pI];decide)]
  rw[x9 hs]
  exact⟨hs,Nat.le_refl _⟩
 |succ k ih=>
  intro a h
  cases hs:Dk (kN a) with
  |some e=>rw[x9 hs];exact⟨hs,Nat.le_refl _⟩
  |none=>
   have hd:=wZ hs
   obtain⟨i1,i2⟩:=ih (a.drop (9+sL (kN a)).toNat) (by omega)
   rw[F7 hs]
   exact⟨i1,by show(pF (a.drop (9+sL (kN a)).toNat)).2.1.length≤a.length;omega⟩
end Go.Proofs.YtifgibijcmppmaaGreat
namespace Go.Proofs.YtifgibijcmppmaaGreat
open Go Go.Proofs Go.Sl
def bq (l:List UInt8):ByteArray:=⟨l.toArray⟩
structure AC where
 kd:Int
 sd:Int
 id:Int
 n:Int
 cd:Int
 s:ByteArray
 on:Int
 ww:Int
 xx:Bool
 xw:Int
 xs:Int
 xi:Int
def isL (c:UInt8):Prop:=c=115∨c=105∨c=110∨c=99∨c=116∨c=111∨c=119∨c=120∨c=112∨c=113∨c=114
instance (c:UInt8):Decidable (isL c):=by unfold isL;infer_instance
end Go.Proofs.YtifgibijcmppmaaGreat
