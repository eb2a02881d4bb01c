/- A part of the proof: lemmas; each with the conditions that it states. -/
import Derived.Test.YtffnpejdkkohcaaGreatBas
set_option linter.unusedVariables false
set_option linter.unusedSimpArgs false
set_option maxRecDepth 100000
set_option maxHeartbeats 40000000
namespace Go.Proofs.YtffnpejdkkohcaaGreat
open Go Go.Proofs Go.Sl
attribute [local irreducible] aM eY cU bQ aL aW aA dS dT aZ dR pt ro fN star sep bH
attribute [local irreducible] ByteArray.extract qL eW
variable {R C:List HP} {K:KP} {u p:ByteArray} {A:Option Addr} {n c:Nat} {bs:List UInt8}
def sL (p:ByteArray):Int:=Gy (p.extract 0 9) 0 3
def sT (p:ByteArray):Int:=Gy (p.extract 0 9) 3 4
def sF (p:ByteArray):Int:=Gy (p.extract 0 9) 4 5
def sS (p:ByteArray):Int:=Gy (p.extract 0 9) 5 9
def sQ (p:ByteArray):ByteArray:=p.extract 9 (9+(sL p).toNat)
def Bn (p:ByteArray):Option Int:=if p.size<9 then some 0 else if Xq (p.extract 0 9)=0 then(if sU (sL p) (sT p) (sF p) (sS p)=0 then(if(p.size:Int)<9+sL p then some 0 else if gE (sL p) (sT p) (sF p) (sS p) (sQ p)=0 then none else some (gE (sL p) (sT p) (sF p) (sS p) (sQ p))) else some (sU (sL p) (sT p) (sF p) (sS p))) else some 1
theorem MA {l t f s:Int} (h:sU l t f s=0):0<=l/\l<=256:=by
 unfold sU at h
 (repeat' split at h) <;> omega
def frA (p:ByteArray) (A:Option Addr) (c:Nat):Fm:=⟨sT p,sS p,(sF p == 1),gD (sT p) (sQ p),gK (sT p) (sQ p),gO (sT p) (sQ p),gW (sT p) (sQ p),gX (sT p) (sQ p),gC (sT p) (sQ p),gL (sT p) (sQ p),gN (sT p) (sQ p),A,(gP (sT p) (sQ p)).length,c,gP (sT p) (sQ p)⟩
theorem Kl (p:ByteArray):-9223372036854775808<=sF p/\sF p<=9223372036854775807:=by
 unfold sF Gy
 split
 ·have h1:=(C7 (p.extract 0 9) 4 5).1
  have h2:qL (p.extract 0 9) 4 5<256:=by have:=(C7 (p.extract 0 9) 4 5).2;simpa using this
  omega
 ·omega
theorem Al5 (p:ByteArray):0<=sL p:=by
 unfold sL Gy
 split
 ·exact(C7 _ _ _).1
 ·omega
def kO (bs:List UInt8):ByteArray:=⟨bs.toArray⟩
theorem m7 (bs:List UInt8):(kO bs).size=bs.length:=pJ _
theorem GE (bs:List UInt8) (i j:Nat):kO ((bs.drop i).take (j - i))=(kO bs).extract i j:=by
 apply yB
 unfold kO
 simp
theorem Ao (h:u=p.extract 0 9) (hK:K (.tuple #[.agg #[I6 (sL p),I6 (sT p),I6 (sF p),I6 (sS p)],I6 (Xq (p.extract 0 9))]) R):CT 180 #[.string u] R K:=by
 subst h;exact X4 hK
theorem VO (hu:u=sQ p) (h:gE (sL p) (sT p) (sF p) (sS p) (sQ p)=0) (hK:∀A c,K (.tuple #[.agg #[I6 (sT p),I6 (sS p),.bool (sF p == 1),.string (gD (sT p) (sQ p)),I6 (gK (sT p) (sQ p)),I6 (gO (sT p) (sQ p)),I6 (gW (sT p) (sQ p)),.bool (gX (sT p) (sQ p)),I6 (gC (sT p) (sQ p)),I6 (gL (sT p) (sQ p)),I6 (gN (sT p) (sQ p)),.slice A (gP (sT p) (sQ p)).length c],I6 0]) (bU A c 114 oG (gP (sT p) (sQ p))::R)):CT 182 #[.agg #[I6 (sL p),I6 (sT p),I6 (sF p),I6 (sS p)],.string u] R K:=by
 subst hu;exact XN (Kl p) h hK
theorem Vn (hu:u=sQ p) (h:gE (sL p) (sT p) (sF p) (sS p) (sQ p)≠0) (hK:K (.tuple #[.agg #[I6 0,I6 0,.bool false,.string ⟨#[]⟩,I6 0,I6 0,I6 0,.bool false,I6 0,I6 0,I6 0,.slice none 0 0],I6 (gE (sL p) (sT p) (sF p) (sS p) (sQ p))]) R):CT 182 #[.agg #[I6 (sL p),I6 (sT p),I6 (sF p),I6 (sS p)],.string u] R K:=by
 subst hu;exact Aa1 (Kl p) h hK
def hJ:Tr:=(.br (.st 1 1 (.st 2 1 (.st 3 1 (.st 4 2 (.br (.st 0 2 (.st 5 2 (.st 9 3 (.st 6 1 (.st 7 1 (.st 10 1 (.st 8 2 (.st 11 0 .nil)))))))) (.st 9 3 (.st 0 2 (.st 5 2 (.st 6 1 (.st 7 1 (.st 10 1 (.st 8 2 (.st 11 0 .nil))))))))))))) (.st 9 3 (.st 1 1 (.st 2 1 (.st 3 1 (.st 4 2 (.st 0 2 (.st 5 2 (.st 6 1 (.st 7 1 (.st 10 1 (.st 8 2 (.st 11 0 .nil)))))))))))))
theorem Aeh {e:Int} (hn:bs.length=n) (hc:n<=c) (hz:n<1000000000000) (h:Bn (kO bs)=some e) (hK:∀n',K (.tuple #[.agg #[I6 0,I6 0,.bool false,.string ⟨#[]⟩,I6 0,I6 0,I6 0,.bool false,I6 0,I6 0,I6 0,.slice none 0 0],I6 n',I6 e,.bool false]) (pD A dX bs::R)):CT 111 #[.slice A n c] (pD A dX bs::R) K:=by
 subst hn
 have hps:=m7 bs
 have x0:(⟨(List.take ((9:Int).toNat - (0:Int).toNat) (List.drop (0:Int).toNat bs)).toArray⟩:ByteArray)=(kO bs).extract 0 9:=GE bs 0 9
 have x1:(⟨(List.take ((9+sL (kO bs)).toNat - (9:Int).toNat) (List.drop (9:Int).toNat bs)).toArray⟩:ByteArray)=sQ (kO bs):=by
  have h0:=Al5 (kO bs)
  rw[show(9+sL (kO bs)).toNat - (9:Int).toNat=9+(sL (kO bs)).toNat - 9 by omega]
  exact GE bs 9 (9+(sL (kO bs)).toNat)
 unfold Bn at h
 by_cases h1:(kO bs).size<9
 ·rw[if_pos h1] at h
  cases h
  refine aJ Tryz.func111 ?_
  repeat' (first|refine v93 ?_|refine Hq hJ ?_|refine w5 ?_ ?_|((refine bh fun h=>?_) <;> try exact w6 h)|(refine aF fun hA=>?_;subst hA)|intro _)
  all_goals(refine aC ?_;exact aB (hK _))
 rw[if_neg h1] at h
 have y0:(List.take ((9:Int).toNat - (0:Int).toNat) (List.drop (0:Int).toNat bs)).length=(9:Int).toNat - (0:Int).toNat:=by simp;omega
 by_cases h2:Xq ((kO bs).extract 0 9)=0
 ·rw[if_pos h2] at h
  by_cases h3:sU (sL (kO bs)) (sT (kO bs)) (sF (kO bs)) (sS (kO bs))=0
  ·rw[if_pos h3] at h
   have hl:=MA h3
   by_cases h4:((kO bs).size:Int)<9+sL (kO bs)
   ·rw[if_pos h4] at h
    cases h
    refine aJ Tryz.func111 ?_
    repeat' (first|refine v93 ?_|refine Hq hJ ?_|refine w5 ?_ ?_|((refine bh fun h=>?_) <;> try exact w6 h)|(refine aF fun hA=>?_;subst hA)|intro _|(show aA _ 180 _ _ _;refine CA (h:=Ao x0 ?_))|(show aA _ 181 _ _ _;refine CA (h:=vK (Kl _) ?_)))
    all_goals(refine aC ?_;exact aB (hK _))
   ·rw[if_neg h4] at h
    by_cases h5:gE (sL (kO bs)) (sT (kO bs)) (sF (kO bs)) (sS (kO bs)) (sQ (kO bs))=0
    ·rw[if_pos h5] at h;cases h
    ·rw[if_neg h5] at h
     cases h
     have hbf:(gE (sL (kO bs)) (sT (kO bs)) (sF (kO bs)) (sS (kO bs)) (sQ (kO bs)) == 0)=false:=by simpa using h5
     have y1:(List.take ((9+sL (kO bs)).toNat - (9:Int).toNat) (List.drop (9:Int).toNat bs)).length=(9+sL (kO bs)).toNat - (9:Int).toNat:=by simp;omega
     refine aJ Tryz.func111 ?_
     repeat' (first|refine v93 ?_|refine Hq hJ ?_|refine w5 ?_ ?_|((refine bh fun h=>?_) <;> try exact w6 h)|(refine aF fun hA=>?_;subst hA)|intro _|(show aA _ 180 _ _ _;refine CA (h:=Ao x0 ?_))|(show aA _ 181 _ _ _;refine CA (h:=vK (Kl _) ?_))|(show aA _ 182 _ _ _;refine CA (h:=Vn x1 h5 ?_)))
     all_goals(rw[hbf];(refine aC ?_;exact aB (hK _)))
  ·rw[if_neg h3] at h
   cases h
   refine aJ Tryz.func111 ?_
   repeat' (first|refine v93 ?_|refine Hq hJ ?_|refine w5 ?_ ?_|((refine bh fun h=>?_) <;> try exact w6 h)|(refine aF fun hA=>?_;subst hA)|intro _|(show aA _ 180 _ _ _;refine CA (h:=Ao x0 ?_))|(show aA _ 181 _ _ _;refine CA (h:=vK (Kl _) ?_)))
   all_goals(refine aC ?_;exact aB (hK _))
 ·rw[if_neg h2] at h
  cases h
  refine aJ Tryz.func111 ?_
  repeat' (first|refine v93 ?_|refine Hq hJ ?_|refine w5 ?_ ?_|((refine bh fun h=>?_) <;> try exact w6 h)|(refine aF fun hA=>?_;subst hA)|intro _|(show aA _ 180 _ _ _;refine CA (h:=Ao x0 ?_)))
  all_goals(refine aC ?_;exact aB (hK _))
theorem Gh (h:Bn p=none):9<=p.size/\Xq (p.extract 0 9)=0/\sU (sL p) (sT p) (sF p) (sS p)=0/\9+sL p<=p.size/\gE (sL p) (sT p) (sF p) (sS p) (sQ p)=0/\0<=sL p/\sL p<=256:=by
 unfold Bn at h
 split at h
 ·cases h
 ·split at h
  ·split at h
   ·rename_i h3
    have hl:=MA h3
    split at h
    ·cases h
    ·split at h
     ·exact⟨by omega,by assumption,h3,by omega,by assumption,hl.1,hl.2⟩
     ·cases h
   ·cases h
  ·cases h
theorem Af4 (hp:kO bs=p) (hn:bs.length=n) (hc:n<=c) (hz:n<1000000000000) (h:Bn p=none) (hK:∀A' c',K (.tuple #[.agg #[I6 (sT p),I6 (sS p),.bool (sF p == 1),.string (gD (sT p) (sQ p)),I6 (gK (sT p) (sQ p)),I6 (gO (sT p) (sQ p)),I6 (gW (sT p) (sQ p)),.bool (gX (sT p) (sQ p)),I6 (gC (sT p) (sQ p)),I6 (gL (sT p) (sQ p)),I6 (gN (sT p) (sQ p)),.slice A' (gP (sT p) (sQ p)).length c'],I6 (9+sL p),I6 0,.bool true]) (bU A' c' 114 oG (gP (sT p) (sQ p))::pD A dX bs::R)):CT 111 #[.slice A n c] (pD A dX bs::R) K:=by
 subst hn
 subst hp
 have hps:=m7 bs
 obtain⟨h1,h2,h3,h4,h5,h6,h7⟩:=Gh h
 have x0:(⟨(List.take ((9:Int).toNat - (0:Int).toNat) (List.drop (0:Int).toNat bs)).toArray⟩:ByteArray)=(kO bs).extract 0 9:=GE bs 0 9
 have x1:(⟨(List.take ((9+sL (kO bs)).toNat - (9:Int).toNat) (List.drop (9:Int).toNat bs)).toArray⟩:ByteArray)=sQ (kO bs):=by
  rw[show(9+sL (kO bs)).toNat - (9:Int).toNat=9+(sL (kO bs)).toNat - 9 by omega]
  exact GE bs 9 (9+(sL (kO bs)).toNat)
 have y0:(List.take ((9:Int).toNat - (0:Int).toNat) (List.drop (0:Int).toNat bs)).length=(9:Int).toNat - (0:Int).toNat:=by simp;omega
 have y1:(List.take ((9+sL (kO bs)).toNat - (9:Int).toNat) (List.drop (9:Int).toNat bs)).length=(9+sL (kO bs)).toNat - (9:Int).toNat:=by simp;omega
 refine aJ Tryz.func111 ?_
 repeat' (first|refine v93 ?_|refine Hq hJ ?_|refine w5 ?_ ?_|((refine bh fun h=>?_) <;> try exact w6 h)|(refine aF fun hA=>?_;subst hA)|intro _|(show aA _ 180 _ _ _;refine CA (h:=Ao x0 ?_))|(show aA _ 181 _ _ _;refine CA (h:=vK (Kl _) ?_))|(show aA _ 182 _ _ _;refine CA (h:=VO x1 h5 (fun A' c'=>?_))))
 all_goals(refine aC ?_;exact aB (hK _ _))
end Go.Proofs.YtffnpejdkkohcaaGreat
section
namespace Go.Proofs.YtffnpejdkkohcaaGreat
open Go Go.Proofs Go.Sl
attribute [local irreducible] aM eY cU bQ aL aW aA dS dT aZ dR pt ro fN star sep bH
attribute [local irreducible] ByteArray.extract qL eW
variable {R C:List HP} {K:KP} {x n c r:Nat} {bs:List UInt8} {e:Int} {A:Option Addr} {f:FuncId} {args:Array Value} {fs:List Fm}
def spP (x:Nat) (bs:List UInt8) (e:Int):HP:=fN fun A=>fN fun c=>sep (pt x [.slice A bs.length c,I6 e] 162) (bU A c 5 dX bs)
theorem Mz (h:bs.length=n):aG (pt x [.slice A n c,I6 e] 162::bU A c 5 dX bs::R) (spP x bs e::R):=by
 subst h
 exact aG.ex A (aG.ex c (aG.sep (aG.refl _)))
theorem Afk (h:∀A c,CT f args (pt x [.slice A bs.length c,I6 e] 162::bU A c 5 dX bs::R) K):CT f args (spP x bs e::R) K:=
 aA.ex fun A=>aA.ex fun c=>aA.sep (h A c)
theorem Ad4 (hK:∀x,K (PO x) (spP x [] 0::R)):CT 28 #[] R K:=by
 refine aJ Tryz.func28 ?_
 repeat' (first|refine v6 ?_|refine w5 ?_ ?_|((refine bh fun h=>?_) <;> try exact w6 h)|(refine aF fun hA=>?_;subst hA)|intro _)
 refine aC ?_
 exact aQ (aG.trans (aG.pick aS.here (aG.nilrow' (aG.refl _))) (Mz (A:=none) (c:=0) (bs:= []) rfl)) (hK _)
theorem RP (hK:K (I6 e) (pt x [.slice A n c,I6 e] 162::R)):CT 109 #[PO x] (pt x [.slice A n c,I6 e] 162::R) K:=by
 refine aJ Tryz.func109 ?_
 repeat' (first|refine v4 ?_|refine w5 ?_ ?_|((refine bh fun h=>?_) <;> try exact w6 h)|(refine aF fun hA=>?_;subst hA)|intro _)
 (refine aC ?_;exact aB (hK))
def Jh (r:Nat) (fs:List Fm):HP:=fN fun F=>fN fun c=>sep (pt r [.slice F fs.length c] 24) (sep (bU F c 45 tC fs) (kS xP fs))
theorem Acc (h:∀F c,CT f args (pt r [.slice F fs.length c] 24::bU F c 45 tC fs::kS xP fs::R) K):CT f args (Jh r fs::R) K:=
 aA.ex fun A=>aA.ex fun c=>aA.sep (aA.ent (aG.cons aG.unsep) (h A c))
theorem P8 (h:fs.length=n):aG (pt r [.slice A n c] 24::bU A c 45 tC fs::kS xP fs::R) (Jh r fs::R):=by
 subst h
 exact aG.ex A (aG.ex c (aG.sep (aG.pick aS.here (aG.sep (aG.refl _)))))
theorem Np {e:TypeId} {xs ys:List Fm} (h:xs.flatMap tC.enc=ys.flatMap tC.enc) (hl:xs.length=ys.length) (H:Hp) (hr:bU A c e tC xs H):bU A c e tC ys H:=by
 rcases hr with⟨h1,h2,h3⟩|⟨B,pre,post,h1,h2,h3,h4⟩
 ·subst h2
  exact .inl ⟨h1,List.length_eq_zero_iff.1 hl.symm,h3⟩
 ·rw[h] at h2
  rw[hl] at h3 h4
  exact .inr ⟨B,pre,post,h1,h2,h3,h4⟩
theorem Abg (f0 f1:Fm) (he:tC.enc f0=tC.enc f1) (hn:n=(fs++ [f0]).length):aG (pt r [.slice A n c] 24::bU A c 45 tC (fs++ [f0])::pD f1.pa oG f1.ps::kS xP fs::R) (Jh r (fs++ [f1])::R):=
 aG.trans (aG.cons (aG.imp (Np (ys:=fs++ [f1]) (by simp[he]) (by simp)) (aG.allsnoc (P:=xP) (x:=f1) zO Ab))) (P8 (by rw[hn];simp))
end Go.Proofs.YtffnpejdkkohcaaGreat
namespace Go.Proofs.YtffnpejdkkohcaaGreat
open Go Go.Proofs Go.Sl
attribute [local irreducible] aM eY cU bQ aL aW aA dS dT aZ dR pt ro fN star sep bH
attribute [local irreducible] ByteArray.extract qL eW
variable {R C:List HP} {K:KP} {r7 r2 r6 x n c nx cx:Nat} {A S:Option Addr} {bs:List UInt8} {e0:Int}
theorem Z9 {e:Int} (hn:bs.length=n) (hc:n<=c) (hz:n<1000000000000) (h:Bn (kO bs)=some e) (hK:K (.bool false) (pt r7 [.slice A n c] 160::pD A dX bs::pt x [.slice S nx cx,I6 e] 162::pt r2 [PO x] 79::R)):
  CT 110 #[PO r7,PO r2,PO r6] (pt r7 [.slice A n c] 160::pD A dX bs::pt x [.slice S nx cx,I6 e0] 162::pt r2 [PO x] 79::R) K:=by
 refine aJ Tryz.func110 ?_
 repeat' (first|refine Qj ?_|refine w5 ?_ ?_|((refine bh fun h=>?_) <;> try exact w6 h)|(refine aF fun hA=>?_;subst hA)|intro _|(show aA _ 111 _ _ _;refine CA (h:=Aeh hn hc hz h (fun n'=>?_))))
 all_goals(refine aC ?_;exact aB (hK))
theorem Aao {p:ByteArray} {fs:List Fm} (hp:kO bs=p) (hn:bs.length=n) (hc:n<=c) (hz:n<1000000000000) (hf:fs.length<4000000) (h:Bn p=none) (hK:∀A' c' A2 c2,n - (9+sL p).toNat<=c'->K (.bool true) (pt r7 [.slice A' (n - (9+sL p).toNat) c'] 160::pD A' dX (bs.drop (9+sL p).toNat)::pt x [.slice S nx cx,I6 e0] 162::pt r2 [PO x] 79::Jh r6 (fs++ [frA p A2 c2])::R)):
  CT 110 #[PO r7,PO r2,PO r6] (pt r7 [.slice A n c] 160::pD A dX bs::pt x [.slice S nx cx,I6 e0] 162::pt r2 [PO x] 79::Jh r6 fs::R) K:=by
 obtain⟨h1,h2,h3,h4,h5,h6,h7⟩:=Gh h
 have hps:p.size=bs.length:=by rw[<- hp];exact m7 bs
 refine aA.ent (C':=Jh r6 fs::pt r7 [.slice A n c] 160::pD A dX bs::pt x [.slice S nx cx,I6 e0] 162::pt r2 [PO x] 79::R) (by exact bE) ?_
 refine Acc fun F cF=>?_
 refine aJ Tryz.func110 ?_
 repeat' (first|refine Qj ?_|refine w5 ?_ ?_|((refine bh fun h=>?_) <;> try exact w6 h)|(refine aF fun hA=>?_;subst hA)|intro _|(show aA _ 111 _ _ _;refine CA (h:=Af4 hp hn hc hz h (fun A2 c2=>?_)))|(show aM _ _ _ _ _ _ _;first|(refine mD ?_;intro _ _)))
 have hz1:List.take (((n:Nat):Int).toNat - (9+sL p).toNat) (List.drop (9+sL p).toNat bs)=bs.drop (9+sL p).toNat:=by
  rw[Int.toNat_natCast]
  exact List.take_of_length_le (by rw[List.length_drop];omega)
 rw[hz1]
 refine aC ?_
 refine aQ (yH (E:=oG) (xs:=gP (sT p) (sQ p)) (by((repeat (first|exact aS.here|apply aS.there)) <;> exact aS.here)) (aG.trans (by exact bE) (aG.trans (Abg ⟨sT p,sS p,(sF p == 1),gD (sT p) (sQ p),gK (sT p) (sQ p),gO (sT p) (sQ p),gW (sT p) (sQ p),gX (sT p) (sQ p),gC (sT p) (sQ p),gL (sT p) (sQ p),gN (sT p) (sQ p),A2,(gP (sT p) (sQ p)).length,c2,[]⟩ (frA p A2 c2) rfl rfl) (by exact bE)))) (hK _ _ A2 c2 ?_)
 omega
end Go.Proofs.YtffnpejdkkohcaaGreat
end
namespace Go.Proofs.YtffnpejdkkohcaaGreat
open Go Go.Proofs Go.Sl
attribute [local irreducible] aM eY cU bQ aL aW aA dS dT aZ dR pt ro fN star sep bH
attribute [local irreducible] ByteArray.extract qL eW
variable {R C:List HP} {K:KP} {bs:List UInt8} {e:Int} {x:Nat}
def iN (y:Fm):Fm:=⟨y.t,y.st,y.e,y.d,y.k,y.on,y.w,y.x,y.c,y.la,y.n,none,y.pn,0,y.ps⟩
def F5 (p:ByteArray):Fm:=iN (frA p none 0)
def B7:Nat->List UInt8->List ByteArray×List UInt8×Int
 |0,bs=>([],bs,0)
 |k+1,bs=>match Bn (kO bs) with
  |some e=>([],bs,e)
  |none=>(kO bs::(B7 k (bs.drop (9+sL (kO bs)).toNat)).1,(B7 k (bs.drop (9+sL (kO bs)).toNat)).2)
def pF (bs:List UInt8):List ByteArray×List UInt8×Int:=B7 (bs.length+1) bs
theorem wS (h:Bn (kO bs)=none):(bs.drop (9+sL (kO bs)).toNat).length+9<=bs.length:=by
 obtain⟨h1,h2,h3,h4,h5,h6,h7⟩:=Gh h
 have:=m7 bs
 rw[List.length_drop]
 omega
theorem Ia:∀(k m:Nat) (bs:List UInt8),bs.length<k->bs.length<m->B7 k bs=B7 m bs
 |0,_,_,h,_=>by omega
 |_+1,0,_,_,h=>by omega
 |k+1,m+1,bs,h1,h2=>by
  unfold B7
  cases hs:Bn (kO bs) with
  |some e=>rfl
  |none=>
   have hd:=wS hs
   rw[Ia k m _ (by omega) (by omega)]
theorem u7 (h:Bn (kO bs)=some e):pF bs=([],bs,e):=by
 unfold pF B7;rw[h]
theorem Dk (h:Bn (kO bs)=none):pF bs=(kO bs::(pF (bs.drop (9+sL (kO bs)).toNat)).1,(pF (bs.drop (9+sL (kO bs)).toNat)).2):=by
 have hd:=wS h
 have e:pF (bs.drop (9+sL (kO bs)).toNat)=B7 bs.length (bs.drop (9+sL (kO bs)).toNat):=Ia _ _ _ (by omega) (by omega)
 rw[e]
 unfold pF
 conv=>lhs;unfold B7
 rw[h]
def rJ:Tr:=(.br (.st 0 1 (.st 1 1 (.st 2 1 (.st 3 1 (.st 4 1 (.st 5 1 (.st 6 1 (.st 7 1 (.st 8 1 (.st 9 1 (.st 10 1 (.st 11 1 (.st 12 1 (.st 13 1 (.st 14 1 (.st 15 1 (.st 16 2 (.st 17 2 (.st 18 1 .nil))))))))))))))))))) (.st 17 2 (.st 0 1 (.st 1 1 (.st 2 1 (.st 3 1 (.st 4 1 (.st 5 1 (.st 6 1 (.st 7 1 (.st 8 1 (.st 9 1 (.st 10 1 (.st 11 1 (.st 12 1 (.st 13 1 (.st 14 1 (.st 15 1 (.st 16 2 (.st 18 1 .nil))))))))))))))))))))
def qP:List (Nat×Nat):= [(1,0),(2,1),(0,1),(3,0),(4,0),(5,1)]
def pY:List (Nat×Nat):= [(0,0),(1,0),(2,0),(3,0),(4,0),(5,0),(6,0)]
theorem Aeb {r:Nat}:aG (pt r [.slice none 0 0] 24::R) (Jh r []::R):=aG.trans (aG.pick aS.here (aG.nilrow' (aG.allnil (aG.refl _)))) (P8 (A:=none) (c:=0) (fs:= []) rfl)
theorem Vd {Q:Exit->Fr->List HP->Prop} {a:Fr} {r7 r2 r6 nx cx c:Nat} {A S:Option Addr} {all:List UInt8} (hc:all.length<=c) (hz:all.length<4000000)
  (ha:cW a [(2,PO r2),(6,PO r6),(7,PO r7),(8,.func (.func 110) #[] #[PO r7,PO r2,PO r6])])
  (hK:∀a A c F cF fs,(pF all).2.1.length<=all.length->fs.map iN=(pF all).1.map F5->fs.length<=all.length->Q (.exit 0) (fF a [(2,PO r2),(6,PO r6),(7,PO r7)]) (pt r7 [.slice A (pF all).2.1.length c] 160::pD A dX (pF all).2.1::pt x [.slice S nx cx,I6 (pF all).2.2] 162::pt r2 [PO x] 79::pt r6 [.slice F fs.length cF] 24::bU F cF 45 tC fs::kS xP fs::R)):
  eY Tryz.prog (SH Tryz.f54 0) Q a (pt r7 [.slice A all.length c] 160::pD A dX all::pt x [.slice S nx cx,I6 0] 162::pt r2 [PO x] 79::Jh r6 []::R):=by
 refine iH (fun m a C'=>∃(bs:List UInt8) (A:Option Addr) (c:Nat) (srcs:List ByteArray) (fs:List Fm),bs.length=m/\bs.length<=c/\fs.map iN=srcs.map F5/\(pF all).1=srcs++(pF bs).1/\(pF all).2=(pF bs).2/\fs.length+bs.length<=all.length/\C'=pt r7 [.slice A bs.length c] 160::pD A dX bs::pt x [.slice S nx cx,I6 0] 162::pt r2 [PO x] 79::Jh r6 fs::R/\cW a [(2,PO r2),(6,PO r6),(7,PO r7),(8,.func (.func 110) #[] #[PO r7,PO r2,PO r6])]) all.length (cG all.length ⟨all,A,c,[],[],rfl,hc,rfl,rfl,rfl,by simp,rfl,ha⟩) ?_
 clear ha hc
 rintro n1 a C' ⟨bs,A,c,srcs,fs,hm,hbc,hfs,h1,h2,hfl,rfl,ha⟩
 refine gJ _ ha ?_
 simp only[fF]
 have hbz:bs.length<1000000000000:=by omega
 have hfz:fs.length<4000000:=by omega
 cases hs:Bn (kO bs) with
 |none=>
  have hd:=wS hs
  obtain⟨g1,g2,g3,g4,g5,g6,g7⟩:=Gh hs
  have hp:=Dk hs
  repeat' (first|refine w1 ?_|refine w5 ?_ ?_|((refine bh fun h=>?_) <;> try exact w6 h)|(refine aF fun hA=>?_;subst hA)|intro _|(show aA _ 110 _ _ _;refine CA (h:=Aao rfl rfl hbc hbz hfz hs (fun A' c' A2 c2 hc'=>?_))))
  rw[<- List.length_drop] at *
  exact cG (bs.drop (9+sL (kO bs)).toNat).length ⟨bs.drop (9+sL (kO bs)).toNat,A',c',srcs++ [kO bs],fs++ [frA (kO bs) A2 c2],rfl,hc',by rw[List.map_append,List.map_append,hfs];rfl,by rw[h1,hp];simp,by rw[h2,hp],by rw[List.length_append];simp only[List.length_cons,List.length_nil];omega,rfl,rfl,rfl,rfl,rfl,trivial⟩
 |some e=>
  have hp:=u7 hs
  rw[hp,List.append_nil] at h1
  rw[hp] at h2
  refine nN (C':=Jh r6 fs::pt r7 [.slice A bs.length c] 160::pD A dX bs::pt x [.slice S nx cx,I6 0] 162::pt r2 [PO x] 79::R) (by exact bE) ?_
  refine vX fun F=>vX fun cF=>Vw (nN (aG.cons aG.unsep) ?_)
  repeat' (first|refine w1 ?_|refine w5 ?_ ?_|((refine bh fun h=>?_) <;> try exact w6 h)|(refine aF fun hA=>?_;subst hA)|intro _|(show aA _ 110 _ _ _;refine CA (h:=Z9 rfl hbc hbz hs ?_)))
  rw[h2,h1] at hK
  exact BH (p:=fun a=>Q (.exit 0) a _) [(2,PO r2),(6,PO r6),(7,PO r7)] ⟨rfl,rfl,rfl,trivial⟩ (hK _ A c F cF fs (by show bs.length<=_;omega) hfs (by omega))
theorem Air:aG (pt x [.slice none 0 0,I6 e] 162::R) (spP x [] e::R):=aG.trans (aG.pick aS.here (aG.nilrow' (aG.refl _))) (Mz (A:=none) (c:=0) (bs:= []) rfl)
theorem Ae1 {ks:List UInt8} {s:ByteArray} (hz:ks.length+s.size<4000000) (hK:∀F c fs,fs.map iN=(pF (ks++s.data.toList)).1.map F5->K (.tuple #[.slice F fs.length c,I6 (pF (ks++s.data.toList)).2.2]) (bU F c 45 tC fs::kS xP fs::spP x (if(pF (ks++s.data.toList)).2.2=0 then(pF (ks++s.data.toList)).2.1 else []) (pF (ks++s.data.toList)).2.2::R)):CT 54 #[PO x,.string s] (spP x ks 0::R) K:=by
 have hsl:s.data.toList.length=s.size:=by simp
 refine Afk fun A c=>?_
 refine iJ (l:=ks) (A:=A) (c:=c) (by((repeat (first|exact aS.here|apply aS.there)) <;> exact aS.here)) fun hkc=>?_
 have e0:List.take (((ks.length:Nat):Int).toNat - (0:Int).toNat) (List.drop (0:Int).toNat ks)=ks:=by simp
 have e1:(List.take (((ks.length:Nat):Int).toNat - (0:Int).toNat) (List.drop (0:Int).toNat ks)).length=((ks.length:Nat):Int).toNat - (0:Int).toNat:=by simp
 refine aJ Tryz.func54 ?_
 repeat' (first|refine v92 ?_|refine Hq rJ ?_|refine dw qP ?_|refine dw pY ?_|refine w5 ?_ ?_|((refine bh fun h=>?_) <;> try exact w6 h)|(refine aF fun hA=>?_;subst hA)|intro _|(show aA _ 109 _ _ _;refine CA (h:=RP ?_)))
 all_goals
  rw[e0]
  refine Nm (l:=ks++s.data.toList) (by((repeat (first|exact aS.here|apply aS.there)) <;> exact aS.here)) fun hc=>?_
  have hall:(ks++s.data.toList).length<4000000:=by rw[List.length_append];omega
  refine nN (yH (E:=dX) (xs:=ks++s.data.toList) (by((repeat (first|exact aS.here|apply aS.there)) <;> exact aS.here)) (aG.trans (by exact bE) (aG.trans Aeb (by exact bE)))) (Vd (S:=A) (nx:=ks.length) (cx:=c) hc hall ⟨rfl,rfl,rfl,rfl,trivial⟩ (fun a A2 c2 F cF fs hl hfs hfl=>?_))
  have hrz:(pF (ks++s.data.toList)).2.1.length<4000000:=by omega
  generalize pF (ks++s.data.toList)=res at *
  obtain⟨srcs,rest,e⟩:=res
  simp only at hK hl hfs hrz
  by_cases he:e=0
  ·subst he
   rw[if_pos rfl] at hK
   repeat' (first|refine v92 ?_|refine Hq rJ ?_|refine dw qP ?_|refine dw pY ?_|refine w5 ?_ ?_|((refine bh fun h=>?_) <;> try exact w6 h)|(refine aF fun hA=>?_;subst hA)|intro _)
   all_goals
    refine aC ?_
    exact aQ (aG.trans (by exact bE) (aG.trans (Mz (bs:=rest) rfl) (by exact bE))) (hK F cF fs hfs)
  ·rw[if_neg he] at hK
   repeat' (first|refine v92 ?_|refine Hq rJ ?_|refine dw qP ?_|refine dw pY ?_|refine w5 ?_ ?_|((refine bh fun h=>?_) <;> try exact w6 h)|(refine aF fun hA=>?_;subst hA)|intro _)
   all_goals
    refine aC ?_
    exact aQ (aG.trans (by exact bE) (aG.trans Air (by exact bE))) (hK F cF fs hfs)
end Go.Proofs.YtffnpejdkkohcaaGreat
namespace Go.Proofs.YtffnpejdkkohcaaGreat
open Go Go.Proofs Go.Sl
attribute [local irreducible] aM eY cU bQ aL aW aA dS dT aZ dR pt ro fN star sep bH
variable {R C:List HP} {K:KP} {w st o last:Int}
def ZK:List (Int×Bool):= [(1,true),(1,true),(1,true),(7,false),(7,false),(1,true),(1,false),(5,false),(3,false),(3,true),(9,false),(1,false),(1,true),(3,false),(3,true),(1,true),(4,true),(3,true),(11,true),(10,true),(12,true)]
def Ak4:List Value:=ZK.flatMap fun x=> [I6 x.1,.bool x.2]
def Agj (w:Int):Int:=(ZK.getD w.toNat (0,false)).1
def Js (w:Int):Bool:=(ZK.getD w.toNat (0,false)).2
theorem w21 (h:0<=w/\w<=20):w=0\/w=1\/w=2\/w=3\/w=4\/w=5\/w=6\/w=7\/w=8\/w=9\/w=10\/w=11\/w=12\/w=13\/w=14\/w=15\/w=16\/w=17\/w=18\/w=19\/w=20:=by omega
theorem Mq (h:0<=w/\w<=20):1<=Agj w/\Agj w<=12:=by
 rcases w21 h with rfl|rfl|rfl|rfl|rfl|rfl|rfl|rfl|rfl|rfl|rfl|rfl|rfl|rfl|rfl|rfl|rfl|rfl|rfl|rfl|rfl <;> decide
theorem ZL (hK:K (.agg Ak4.toArray) R):CT 325 #[] R K:=by
 refine aJ Tryz.func325 ?_
 repeat' (first|refine v5 ?_|refine w5 ?_ ?_|((refine bh fun h=>?_) <;> try exact w6 h)|(refine aF fun hA=>?_;subst hA)|intro _)
 (refine aC ?_;exact aB (hK))
theorem Ma (h:0<=w/\w<=20) (hK:K (.agg #[I6 (Agj w),.bool (Js w)]) R):CT 279 #[.agg #[I6 w,I6 st,I6 o]] R K:=by
 rcases w21 h with rfl|rfl|rfl|rfl|rfl|rfl|rfl|rfl|rfl|rfl|rfl|rfl|rfl|rfl|rfl|rfl|rfl|rfl|rfl|rfl|rfl
 all_goals
  refine aJ Tryz.func279 ?_
  repeat' (first|refine v82 ?_|refine w5 ?_ ?_|((refine bh fun h=>?_) <;> try exact w6 h)|(refine aF fun hA=>?_;subst hA)|intro _|(show aA _ 325 _ _ _;refine CA (h:=ZL ?_)))
  (refine aC ?_;exact aB (hK))
def hQ (w o:Int):Int:=if w=0/\0<o/\o<=12 then o else Agj w
theorem Kh (h:0<=w/\w<=20):1<=hQ w o/\hQ w o<=12:=by
 have:=Mq h
 unfold hQ
 split <;> omega
theorem JY {r:Nat} (hK:K (.bool (decide (w=0) && decide (0<o) && decide (o<=12))) (pt r [I6 w,I6 st,I6 o] 121::R)):CT 280 #[PO r] (pt r [I6 w,I6 st,I6 o] 121::R) K:=by
 refine aJ Tryz.func280 ?_
 repeat' (first|refine v23 ?_|refine w5 ?_ ?_|((refine bh fun h=>?_) <;> try exact w6 h)|(refine aF fun hA=>?_;subst hA)|intro _)
 all_goals(refine aC ?_;exact aB (kb hK (by simp[*] <;> omega)))
theorem NR (hw:0<=w/\w<=20) (hK:K (.tuple #[I6 (hQ w o),I6 0]) R):CT 201 #[.agg #[I6 w,I6 st,I6 o]] R K:=by
 have ht:=Mq hw
 by_cases hc:w=0/\0<o/\o<=12
 ·unfold hQ at hK
  rw[if_pos hc] at hK
  obtain⟨c1,c2,c3⟩:=hc
  refine aJ Tryz.func201 ?_
  repeat' (first|refine v79 ?_|refine w5 ?_ ?_|((refine bh fun h=>?_) <;> try exact w6 h)|(refine aF fun hA=>?_;subst hA)|intro _|(show aA _ 279 _ _ _;refine CA (h:=Ma hw ?_))|(show aA _ 280 _ _ _;refine CA (h:=JY ?_)))
  all_goals(refine aC ?_;exact aB (hK))
 ·unfold hQ at hK
  rw[if_neg hc] at hK
  have hc2:w≠0\/o<=0\/12<o:=by omega
  refine aJ Tryz.func201 ?_
  repeat' (first|refine v79 ?_|refine w5 ?_ ?_|((refine bh fun h=>?_) <;> try exact w6 h)|(refine aF fun hA=>?_;subst hA)|intro _|(show aA _ 279 _ _ _;refine CA (h:=Ma hw ?_))|(show aA _ 280 _ _ _;refine CA (h:=JY ?_)))
  all_goals(refine aC ?_;exact aB (hK))
theorem xF (hw:0<=w/\w<=20) (hK:K (.bool (Js w)) R):CT 202 #[.agg #[I6 w,I6 st,I6 o]] R K:=by
 have ht:=Mq hw
 refine aJ Tryz.func202 ?_
 repeat' (first|refine v82 ?_|refine w5 ?_ ?_|((refine bh fun h=>?_) <;> try exact w6 h)|(refine aF fun hA=>?_;subst hA)|intro _|(show aA _ 279 _ _ _;refine CA (h:=Ma hw ?_)))
 all_goals(refine aC ?_;exact aB (hK))
theorem Ow {n l:Int} (hK:K (.bool (decide (l<=n) && decide (n<=2147483647))) R):CT 203 #[I6 n,I6 l] R K:=by
 refine aJ Tryz.func203 ?_
 repeat' (first|refine v1 ?_|refine w5 ?_ ?_|((refine bh fun h=>?_) <;> try exact w6 h)|(refine aF fun hA=>?_;subst hA)|intro _)
 all_goals(refine aC ?_;exact aB (kb hK (by simp[*] <;> omega)))
theorem Afc (hw:0<=w/\w<=20) (hb1:Js w=true) (hb2:0<=last/\last<=2147483647) (hK:K (.tuple #[.agg #[I6 9,I6 0,.bool false,.string ⟨#[]⟩,I6 0,I6 0,I6 0,.bool false,I6 (hQ w o),I6 last,I6 0,.slice none 0 0],I6 0]) R):CT 123 #[.agg #[I6 w,I6 st,I6 o],I6 last] R K:=by
 refine aJ Tryz.func123 ?_
 repeat' (first|refine Gr ?_|refine w5 ?_ ?_|((refine bh fun h=>?_) <;> try exact w6 h)|(refine aF fun hA=>?_;subst hA)|intro _|(show aA _ 201 _ _ _;refine CA (h:=NR hw ?_))|(show aA _ 202 _ _ _;refine CA (h:=xF hw ?_))|(show aA _ 203 _ _ _;refine CA (h:=Ow ?_)))
 all_goals(refine aC ?_;exact aB (hK))
theorem TR (hw:0<=w/\w<=20) (hb1:Js w=false) (hb2:1<=st/\st<=2147483647) (hK:K (.tuple #[.agg #[I6 4,I6 st,.bool false,.string ⟨#[]⟩,I6 0,I6 0,I6 0,.bool false,I6 (hQ w o),I6 0,I6 0,.slice none 0 0],I6 0]) R):CT 123 #[.agg #[I6 w,I6 st,I6 o],I6 last] R K:=by
 refine aJ Tryz.func123 ?_
 repeat' (first|refine Gr ?_|refine w5 ?_ ?_|((refine bh fun h=>?_) <;> try exact w6 h)|(refine aF fun hA=>?_;subst hA)|intro _|(show aA _ 201 _ _ _;refine CA (h:=NR hw ?_))|(show aA _ 202 _ _ _;refine CA (h:=xF hw ?_))|(show aA _ 203 _ _ _;refine CA (h:=Ow ?_)))
 all_goals(refine aC ?_;exact aB (hK))
end Go.Proofs.YtffnpejdkkohcaaGreat
