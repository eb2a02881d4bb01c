/- A part of the proof: lemmas; each with the conditions that it states. -/
import Derived.Test.YtifgibijcmppmaaGreatNaq
set_option linter.unusedVariables false
set_option linter.unusedSimpArgs false
namespace Go.Proofs.YtifgibijcmppmaaGreat
open Go Go.Proofs Go.Sl
set_option maxRecDepth 100000
set_option maxHeartbeats 40000000
attribute [local irreducible] aN fB cJ bO aM aY aA dM dQ aW dK pt ro fF star sep bI
attribute [local irreducible] ByteArray.extract xT eX
section
variable {R C:List HP} {K:Value→List HP→Prop}
def sL (p:ByteArray):Int:=SZ (p.extract 0 9) 0 3
def sT (p:ByteArray):Int:=SZ (p.extract 0 9) 3 4
def sF (p:ByteArray):Int:=SZ (p.extract 0 9) 4 5
def sS (p:ByteArray):Int:=SZ (p.extract 0 9) 5 9
def sQ (p:ByteArray):ByteArray:=p.extract 9 (9+(sL p).toNat)
def Dh (p:ByteArray):Option Int:=if p.size<9 then some 0 else if hgE (p.extract 0 9)=0 then(if wQ (sL p) (sT p) (sF p) (sS p)=0 then(if(p.size:Int)<9+sL p then some 0 else if gE (sL p) (sT p) (sF p) (sS p) (sQ p)=0 then none else some (gE (sL p) (sT p) (sF p) (sS p) (sQ p))) else some (wQ (sL p) (sT p) (sF p) (sS p))) else some 1
theorem Lq {l t f s:Int} (h:wQ l t f s=0):0≤l∧l≤256:=by
 unfold wQ at h
 (repeat' split at h) <;> omega
def frA (p:ByteArray) (A:Option Addr) (c:Nat):Fm:=⟨sT p,sS p,(sF p == 1),gD (sT p) (sQ p),gK (sT p) (sQ p),gO (sT p) (sQ p),gW (sT p) (sQ p),gX (sT p) (sQ p),gC (sT p) (sQ p),gL (sT p) (sQ p),gN (sT p) (sQ p),A,(gP (sT p) (sQ p)).length,c,gP (sT p) (sQ p)⟩
theorem K6 (p:ByteArray):-9223372036854775808≤sF p∧sF p≤9223372036854775807:=by
 unfold sF SZ
 split
 ·have h1:=(DO (p.extract 0 9) 4 5).1
  have h2:xT (p.extract 0 9) 4 5<256:=by have:=(DO (p.extract 0 9) 4 5).2;simpa using this
  omega
 ·omega
theorem Akm (p:ByteArray):0≤sL p:=by
 unfold sL SZ
 split
 ·exact(DO _ _ _).1
 ·omega
def lH (bs:List UInt8):ByteArray:=⟨bs.toArray⟩
theorem pI (bs:List UInt8):(lH bs).size=bs.length:=o9 _
theorem Gi (bs:List UInt8) (i j:Nat):lH ((bs.drop i).take (j - i))=(lH bs).extract i j:=by
 apply x5
 unfold lH
 simp
theorem Ah {u p:ByteArray} (h:u=p.extract 0 9) (hK:K (.tuple #[.agg #[.int .i64 (sL p),.int .i64 (sT p),.int .i64 (sF p),.int .i64 (sS p)],.int .i64 (hgE (p.extract 0 9))]) R):aA Tryz.prog 243 #[.string u] R K:=by
 subst h;exact Abs hK
theorem VX {u p:ByteArray} (hu:u=sQ p) (h:gE (sL p) (sT p) (sF p) (sS p) (sQ p)=0) (hK:∀A c,K (.tuple #[.agg #[.int .i64 (sT p),.int .i64 (sS p),.bool (sF p == 1),.string (gD (sT p) (sQ p)),.int .i64 (gK (sT p) (sQ p)),.int .i64 (gO (sT p) (sQ p)),.int .i64 (gW (sT p) (sQ p)),.bool (gX (sT p) (sQ p)),.int .i64 (gC (sT p) (sQ p)),.int .i64 (gL (sT p) (sQ p)),.int .i64 (gN (sT p) (sQ p)),.slice A (gP (sT p) (sQ p)).length c],.int .i64 0]) (bT A c 148 nV (gP (sT p) (sQ p))::R)):aA Tryz.prog 245 #[.agg #[.int .i64 (sL p),.int .i64 (sT p),.int .i64 (sF p),.int .i64 (sS p)],.string u] R K:=by
 subst hu;exact Ac7 (K6 p) h hK
theorem WM {u p:ByteArray} (hu:u=sQ p) (h:gE (sL p) (sT p) (sF p) (sS p) (sQ p)≠0) (hK:K (.tuple #[.agg #[.int .i64 0,.int .i64 0,.bool false,.string ⟨#[]⟩,.int .i64 0,.int .i64 0,.int .i64 0,.bool false,.int .i64 0,.int .i64 0,.int .i64 0,.slice none 0 0],.int .i64 (gE (sL p) (sT p) (sF p) (sS p) (sQ p))]) R):aA Tryz.prog 245 #[.agg #[.int .i64 (sL p),.int .i64 (sT p),.int .i64 (sF p),.int .i64 (sS p)],.string u] R K:=by
 subst hu;exact Zj (K6 p) h hK
def iG:Tr:=(.br (.st 1 1 (.st 2 1 (.st 3 1 (.st 4 2 (.br (.st 0 2 (.st 5 2 (.st 9 3 (.st 6 1 (.st 7 1 (.st 10 1 (.st 8 2 (.st 11 0 .nil)))))))) (.st 9 3 (.st 0 2 (.st 5 2 (.st 6 1 (.st 7 1 (.st 10 1 (.st 8 2 (.st 11 0 .nil))))))))))))) (.st 9 3 (.st 1 1 (.st 2 1 (.st 3 1 (.st 4 2 (.st 0 2 (.st 5 2 (.st 6 1 (.st 7 1 (.st 10 1 (.st 8 2 (.st 11 0 .nil)))))))))))))
theorem Ad1 {A:Option Addr} {n c:Nat} {bs:List UInt8} {e:Int} (hn:bs.length=n) (hc:n≤c) (hz:n<1000000000000) (h:Dh (lH bs)=some e) (hK:∀n',K (.tuple #[.agg #[.int .i64 0,.int .i64 0,.bool false,.string ⟨#[]⟩,.int .i64 0,.int .i64 0,.int .i64 0,.bool false,.int .i64 0,.int .i64 0,.int .i64 0,.slice none 0 0],.int .i64 n',.int .i64 e,.bool false]) (nY A d8 bs::R)):aA Tryz.prog 160 #[.slice A n c] (nY A d8 bs::R) K:=by
 subst hn
 have hps:=pI bs
 have x0:(⟨(List.take ((9:Int).toNat - (0:Int).toNat) (List.drop (0:Int).toNat bs)).toArray⟩:ByteArray)=(lH bs).extract 0 9:=Gi bs 0 9
 have x1:(⟨(List.take ((9+sL (lH bs)).toNat - (9:Int).toNat) (List.drop (9:Int).toNat bs)).toArray⟩:ByteArray)=sQ (lH bs):=by
  have h0:=Akm (lH bs)
  rw[show(9+sL (lH bs)).toNat - (9:Int).toNat=9+(sL (lH bs)).toNat - 9 by omega]
  exact Gi bs 9 (9+(sL (lH bs)).toNat)
 unfold Dh at h
 by_cases h1:(lH bs).size<9
 ·rw[if_pos h1] at h
  cases h
  refine aH Tryz.func160 ?_
  repeat' (first|refine v93 ?_|refine Hi iG ?_|refine wr ?_|refine w5 ?_ ?_|((refine bh fun h=>?_) <;> try exact w6 h)|(refine aE fun hA=>?_;subst hA)|intro _)
  all_goals(refine aC ?_;exact aB (hK _))
 rw[if_neg h1] at h
 have y0:(List.take ((9:Int).toNat - (0:Int).toNat) (List.drop (0:Int).toNat bs)).length=(9:Int).toNat - (0:Int).toNat:=by simp;omega
 by_cases h2:hgE ((lH bs).extract 0 9)=0
 ·rw[if_pos h2] at h
  by_cases h3:wQ (sL (lH bs)) (sT (lH bs)) (sF (lH bs)) (sS (lH bs))=0
  ·rw[if_pos h3] at h
   have hl:=Lq h3
   by_cases h4:((lH bs).size:Int)<9+sL (lH bs)
   ·rw[if_pos h4] at h
    cases h
    refine aH Tryz.func160 ?_
    repeat' (first|refine v93 ?_|refine Hi iG ?_|refine wr ?_|refine w5 ?_ ?_|((refine bh fun h=>?_) <;> try exact w6 h)|(refine aE fun hA=>?_;subst hA)|intro _|(show aA _ 243 _ _ _;refine CA (h:=Ah x0 ?_))|(show aA _ 244 _ _ _;refine CA (h:=vN (K6 _) ?_)))
    all_goals(refine aC ?_;exact aB (hK _))
   ·rw[if_neg h4] at h
    by_cases h5:gE (sL (lH bs)) (sT (lH bs)) (sF (lH bs)) (sS (lH bs)) (sQ (lH bs))=0
    ·rw[if_pos h5] at h;cases h
    ·rw[if_neg h5] at h
     cases h
     have hbf:(gE (sL (lH bs)) (sT (lH bs)) (sF (lH bs)) (sS (lH bs)) (sQ (lH bs)) == 0)=false:=by simpa using h5
     have y1:(List.take ((9+sL (lH bs)).toNat - (9:Int).toNat) (List.drop (9:Int).toNat bs)).length=(9+sL (lH bs)).toNat - (9:Int).toNat:=by simp;omega
     refine aH Tryz.func160 ?_
     repeat' (first|refine v93 ?_|refine Hi iG ?_|refine wr ?_|refine w5 ?_ ?_|((refine bh fun h=>?_) <;> try exact w6 h)|(refine aE fun hA=>?_;subst hA)|intro _|(show aA _ 243 _ _ _;refine CA (h:=Ah x0 ?_))|(show aA _ 244 _ _ _;refine CA (h:=vN (K6 _) ?_))|(show aA _ 245 _ _ _;refine CA (h:=WM x1 h5 ?_)))
     all_goals(rw[hbf];(refine aC ?_;exact aB (hK _)))
  ·rw[if_neg h3] at h
   cases h
   refine aH Tryz.func160 ?_
   repeat' (first|refine v93 ?_|refine Hi iG ?_|refine wr ?_|refine w5 ?_ ?_|((refine bh fun h=>?_) <;> try exact w6 h)|(refine aE fun hA=>?_;subst hA)|intro _|(show aA _ 243 _ _ _;refine CA (h:=Ah x0 ?_))|(show aA _ 244 _ _ _;refine CA (h:=vN (K6 _) ?_)))
   all_goals(refine aC ?_;exact aB (hK _))
 ·rw[if_neg h2] at h
  cases h
  refine aH Tryz.func160 ?_
  repeat' (first|refine v93 ?_|refine Hi iG ?_|refine wr ?_|refine w5 ?_ ?_|((refine bh fun h=>?_) <;> try exact w6 h)|(refine aE fun hA=>?_;subst hA)|intro _|(show aA _ 243 _ _ _;refine CA (h:=Ah x0 ?_)))
  all_goals(refine aC ?_;exact aB (hK _))
theorem Gc {p:ByteArray} (h:Dh p=none):9≤p.size∧hgE (p.extract 0 9)=0∧wQ (sL p) (sT p) (sF p) (sS p)=0∧9+sL p≤p.size∧gE (sL p) (sT p) (sF p) (sS p) (sQ p)=0∧0≤sL p∧sL p≤256:=by
 unfold Dh at h
 split at h
 ·cases h
 ·split at h
  ·split at h
   ·rename_i h3
    have hl:=Lq h3
    split at h
    ·cases h
    ·split at h
     ·exact⟨by omega,by assumption,h3,by omega,by assumption,hl.1,hl.2⟩
     ·cases h
   ·cases h
  ·cases h
theorem Afo {A:Option Addr} {n c:Nat} {bs:List UInt8} {p:ByteArray} (hp:lH bs=p) (hn:bs.length=n) (hc:n≤c) (hz:n<1000000000000) (h:Dh p=none) (hK:∀A' c',K (.tuple #[.agg #[.int .i64 (sT p),.int .i64 (sS p),.bool (sF p == 1),.string (gD (sT p) (sQ p)),.int .i64 (gK (sT p) (sQ p)),.int .i64 (gO (sT p) (sQ p)),.int .i64 (gW (sT p) (sQ p)),.bool (gX (sT p) (sQ p)),.int .i64 (gC (sT p) (sQ p)),.int .i64 (gL (sT p) (sQ p)),.int .i64 (gN (sT p) (sQ p)),.slice A' (gP (sT p) (sQ p)).length c'],.int .i64 (9+sL p),.int .i64 0,.bool true]) (bT A' c' 148 nV (gP (sT p) (sQ p))::nY A d8 bs::R)):aA Tryz.prog 160 #[.slice A n c] (nY A d8 bs::R) K:=by
 subst hn
 subst hp
 have hps:=pI bs
 obtain⟨h1,h2,h3,h4,h5,h6,h7⟩:=Gc h
 have x0:(⟨(List.take ((9:Int).toNat - (0:Int).toNat) (List.drop (0:Int).toNat bs)).toArray⟩:ByteArray)=(lH bs).extract 0 9:=Gi bs 0 9
 have x1:(⟨(List.take ((9+sL (lH bs)).toNat - (9:Int).toNat) (List.drop (9:Int).toNat bs)).toArray⟩:ByteArray)=sQ (lH bs):=by
  rw[show(9+sL (lH bs)).toNat - (9:Int).toNat=9+(sL (lH bs)).toNat - 9 by omega]
  exact Gi bs 9 (9+(sL (lH bs)).toNat)
 have y0:(List.take ((9:Int).toNat - (0:Int).toNat) (List.drop (0:Int).toNat bs)).length=(9:Int).toNat - (0:Int).toNat:=by simp;omega
 have y1:(List.take ((9+sL (lH bs)).toNat - (9:Int).toNat) (List.drop (9:Int).toNat bs)).length=(9+sL (lH bs)).toNat - (9:Int).toNat:=by simp;omega
 refine aH Tryz.func160 ?_
 repeat' (first|refine v93 ?_|refine Hi iG ?_|refine wr ?_|refine w5 ?_ ?_|((refine bh fun h=>?_) <;> try exact w6 h)|(refine aE fun hA=>?_;subst hA)|intro _|(show aA _ 243 _ _ _;refine CA (h:=Ah x0 ?_))|(show aA _ 244 _ _ _;refine CA (h:=vN (K6 _) ?_))|(show aA _ 245 _ _ _;refine CA (h:=VX x1 h5 (fun A' c'=>?_))))
 all_goals(refine aC ?_;exact aB (hK _ _))
end
end Go.Proofs.YtifgibijcmppmaaGreat
section
namespace Go.Proofs.YtifgibijcmppmaaGreat
open Go Go.Proofs Go.Sl
set_option maxRecDepth 100000
set_option maxHeartbeats 40000000
attribute [local irreducible] aN fB cJ bO aM aY aA dM dQ aW dK pt ro fF star sep bI
attribute [local irreducible] ByteArray.extract xT eX
variable {R C:List HP} {K:Value→List HP→Prop}
def spP (x:Nat) (bs:List UInt8) (e:Int):HP:=fF fun A=>fF fun c=>sep (pt x [.slice A bs.length c,.int .i64 e] 216) (bT A c 5 d8 bs)
theorem LD {x n:Nat} {bs:List UInt8} {e:Int} {A:Option Addr} {c:Nat} (h:bs.length=n):aG (pt x [.slice A n c,.int .i64 e] 216::bT A c 5 d8 bs::R) (spP x bs e::R):=by
 subst h
 exact aG.ex A (aG.ex c (aG.sep (aG.refl _)))
theorem Ahg {f:FuncId} {args:Array Value} {x:Nat} {bs:List UInt8} {e:Int} (h:∀A c,aA Tryz.prog f args (pt x [.slice A bs.length c,.int .i64 e] 216::bT A c 5 d8 bs::R) K):aA Tryz.prog f args (spP x bs e::R) K:=
 aA.ex fun A=>aA.ex fun c=>aA.sep (h A c)
theorem Aeb (hK:∀x,K (.pointer (some ⟨x,0,none⟩)) (spP x [] 0::R)):aA Tryz.prog 50 #[] R K:=by
 refine aH Tryz.func50 ?_
 repeat' (first|refine v6 ?_|refine wr ?_|refine w5 ?_ ?_|((refine bh fun h=>?_) <;> try exact w6 h)|(refine aE fun hA=>?_;subst hA)|intro _)
 refine aC ?_
 exact aL (aG.trans (aG.pick aV.here (aG.nilrow' (aG.refl _))) (LD (A:=none) (c:=0) (bs:= []) rfl)) (hK _)
theorem QK {x n c:Nat} {A:Option Addr} {e:Int} (hK:K (.int .i64 e) (pt x [.slice A n c,.int .i64 e] 216::R)):aA Tryz.prog 158 #[.pointer (some ⟨x,0,none⟩)] (pt x [.slice A n c,.int .i64 e] 216::R) K:=by
 refine aH Tryz.func158 ?_
 repeat' (first|refine v4 ?_|refine wr ?_|refine w5 ?_ ?_|((refine bh fun h=>?_) <;> try exact w6 h)|(refine aE fun hA=>?_;subst hA)|intro _)
 (refine aC ?_;exact aB (hK))
def Jm (r:Nat) (fs:List Fm):HP:=fF fun F=>fF fun c=>sep (pt r [.slice F fs.length c] 24) (sep (bT F c 45 sR fs) (jY xS fs))
theorem Yr {f:FuncId} {args:Array Value} {r:Nat} {fs:List Fm} (h:∀F c,aA Tryz.prog f args (pt r [.slice F fs.length c] 24::bT F c 45 sR fs::jY xS fs::R) K):aA Tryz.prog f args (Jm r fs::R) K:=
 aA.ex fun A=>aA.ex fun c=>aA.sep (aA.ent (aG.cons aG.unsep) (h A c))
theorem P5 {r n:Nat} {fs:List Fm} {A:Option Addr} {c:Nat} (h:fs.length=n):aG (pt r [.slice A n c] 24::bT A c 45 sR fs::jY xS fs::R) (Jm r fs::R):=by
 subst h
 exact aG.ex A (aG.ex c (aG.sep (aG.pick aV.here (aG.sep (aG.refl _)))))
theorem ON {A:Option Addr} {c:Nat} {e:TypeId} {xs ys:List Fm} (h:xs.flatMap sR.enc=ys.flatMap sR.enc) (hl:xs.length=ys.length) (H:Hp) (hr:bT A c e sR xs H):bT A c e sR ys H:=by
 rcases hr with⟨h1,h2,h3⟩|⟨B,pre,post,h1,h2,h3,h4⟩
 ·subst h2
  exact .inl ⟨h1,List.length_eq_zero_iff.1 hl.symm,h3⟩
 ·rw[h] at h2
  rw[hl] at h3 h4
  exact .inr ⟨B,pre,post,h1,h2,h3,h4⟩
theorem Abx {r n:Nat} {fs:List Fm} {A:Option Addr} {c:Nat} (f0 f1:Fm) (he:sR.enc f0=sR.enc f1) (hn:n=(fs++ [f0]).length):aG (pt r [.slice A n c] 24::bT A c 45 sR (fs++ [f0])::nY f1.pa nV f1.ps::jY xS fs::R) (Jm r (fs++ [f1])::R):=
 aG.trans (aG.cons (aG.imp (ON (ys:=fs++ [f1]) (by simp[he]) (by simp)) (aG.allsnoc (P:=xS) (x:=f1) w3 rO))) (P5 (by rw[hn];simp))
end Go.Proofs.YtifgibijcmppmaaGreat
namespace Go.Proofs.YtifgibijcmppmaaGreat
open Go Go.Proofs Go.Sl
set_option maxRecDepth 100000
set_option maxHeartbeats 40000000
attribute [local irreducible] aN fB cJ bO aM aY aA dM dQ aW dK pt ro fF star sep bI
attribute [local irreducible] ByteArray.extract xT eX
variable {R C:List HP} {K:Value→List HP→Prop}
theorem ZH {r7 r2 r6 x n c nx cx:Nat} {A S:Option Addr} {bs:List UInt8} {e e0:Int} (hn:bs.length=n) (hc:n≤c) (hz:n<1000000000000) (h:Dh (lH bs)=some e) (hK:K (.bool false) (pt r7 [.slice A n c] 214::nY A d8 bs::pt x [.slice S nx cx,.int .i64 e] 216::pt r2 [.pointer (some ⟨x,0,none⟩)] 114::R)):
  aA Tryz.prog 159 #[.pointer (some ⟨r7,0,none⟩),.pointer (some ⟨r2,0,none⟩),.pointer (some ⟨r6,0,none⟩)] (pt r7 [.slice A n c] 214::nY A d8 bs::pt x [.slice S nx cx,.int .i64 e0] 216::pt r2 [.pointer (some ⟨x,0,none⟩)] 114::R) K:=by
 refine aH Tryz.func159 ?_
 repeat' (first|refine Qz ?_|refine wr ?_|refine w5 ?_ ?_|((refine bh fun h=>?_) <;> try exact w6 h)|(refine aE fun hA=>?_;subst hA)|intro _|(show aA _ 160 _ _ _;refine CA (h:=Ad1 hn hc hz h (fun n'=>?_))))
 all_goals(refine aC ?_;exact aB (hK))
theorem Yl {r7 r2 r6 x n c nx cx:Nat} {A S:Option Addr} {bs:List UInt8} {p:ByteArray} {fs:List Fm} {e0:Int} (hp:lH bs=p) (hn:bs.length=n) (hc:n≤c) (hz:n<1000000000000) (hf:fs.length<4000000) (h:Dh p=none) (hK:∀A' c' A2 c2,n - (9+sL p).toNat≤c'→K (.bool true) (pt r7 [.slice A' (n - (9+sL p).toNat) c'] 214::nY A' d8 (bs.drop (9+sL p).toNat)::pt x [.slice S nx cx,.int .i64 e0] 216::pt r2 [.pointer (some ⟨x,0,none⟩)] 114::Jm r6 (fs++ [frA p A2 c2])::R)):
  aA Tryz.prog 159 #[.pointer (some ⟨r7,0,none⟩),.pointer (some ⟨r2,0,none⟩),.pointer (some ⟨r6,0,none⟩)] (pt r7 [.slice A n c] 214::nY A d8 bs::pt x [.slice S nx cx,.int .i64 e0] 216::pt r2 [.pointer (some ⟨x,0,none⟩)] 114::Jm r6 fs::R) K:=by
 obtain⟨h1,h2,h3,h4,h5,h6,h7⟩:=Gc h
 have hps:p.size=bs.length:=by rw[← hp];exact pI bs
 refine aA.ent (C':=Jm r6 fs::pt r7 [.slice A n c] 214::nY A d8 bs::pt x [.slice S nx cx,.int .i64 e0] 216::pt r2 [.pointer (some ⟨x,0,none⟩)] 114::R) (by exact bA) ?_
 refine Yr fun F cF=>?_
 refine aH Tryz.func159 ?_
 repeat' (first|refine Qz ?_|refine wr ?_|refine w5 ?_ ?_|((refine bh fun h=>?_) <;> try exact w6 h)|(refine aE fun hA=>?_;subst hA)|intro _|(show aA _ 160 _ _ _;refine CA (h:=Afo hp hn hc hz h (fun A2 c2=>?_)))|(show aN _ _ _ _ _ _ _;first|(refine o4 ?_;intro _ _)))
 have hz1:List.take (((n:Nat):Int).toNat - (9+sL p).toNat) (List.drop (9+sL p).toNat bs)=bs.drop (9+sL p).toNat:=by
  rw[Int.toNat_natCast]
  exact List.take_of_length_le (by rw[List.length_drop];omega)
 rw[hz1]
 refine aC ?_
 refine aL (Cd (E:=nV) (xs:=gP (sT p) (sQ p)) (by((repeat (first|exact aV.here|apply aV.there)) <;> exact aV.here)) (aG.trans (by exact bA) (aG.trans (Abx ⟨sT p,sS p,(sF p == 1),gD (sT p) (sQ p),gK (sT p) (sQ p),gO (sT p) (sQ p),gW (sT p) (sQ p),gX (sT p) (sQ p),gC (sT p) (sQ p),gL (sT p) (sQ p),gN (sT p) (sQ p),A2,(gP (sT p) (sQ p)).length,c2,[]⟩ (frA p A2 c2) rfl rfl) (by exact bA)))) (hK _ _ A2 c2 ?_)
 omega
end Go.Proofs.YtifgibijcmppmaaGreat
end
namespace Go.Proofs.YtifgibijcmppmaaGreat
open Go Go.Proofs Go.Sl
set_option maxRecDepth 100000
set_option maxHeartbeats 40000000
attribute [local irreducible] aN fB cJ bO aM aY aA dM dQ aW dK pt ro fF star sep bI
attribute [local irreducible] ByteArray.extract xT eX
section
variable {R C:List HP} {K:Value→List HP→Prop}
def jW (y:Fm):Fm:=⟨y.t,y.st,y.e,y.d,y.k,y.on,y.w,y.x,y.c,y.la,y.n,none,y.pn,0,y.ps⟩
def KF (p:ByteArray):Fm:=jW (frA p none 0)
def BU:Nat→List UInt8→List ByteArray×List UInt8×Int
 |0,bs=>([],bs,0)
 |k+1,bs=>match Dh (lH bs) with
  |some e=>([],bs,e)
  |none=>(lH bs::(BU k (bs.drop (9+sL (lH bs)).toNat)).1,(BU k (bs.drop (9+sL (lH bs)).toNat)).2)
def pF (bs:List UInt8):List ByteArray×List UInt8×Int:=BU (bs.length+1) bs
theorem wP {bs:List UInt8} (h:Dh (lH bs)=none):(bs.drop (9+sL (lH bs)).toNat).length+9≤bs.length:=by
 obtain⟨h1,h2,h3,h4,h5,h6,h7⟩:=Gc h
 have:=pI bs
 rw[List.length_drop]
 omega
theorem G7:∀(k m:Nat) (bs:List UInt8),bs.length<k→bs.length<m→BU k bs=BU m bs
 |0,_,_,h,_=>by omega
 |_+1,0,_,_,h=>by omega
 |k+1,m+1,bs,h1,h2=>by
  unfold BU
  cases hs:Dh (lH bs) with
  |some e=>rfl
  |none=>
   have hd:=wP hs
   rw[G7 k m _ (by omega) (by omega)]
theorem yL {bs:List UInt8} {e:Int} (h:Dh (lH bs)=some e):pF bs=([],bs,e):=by
 unfold pF BU;rw[h]
theorem Gq {bs:List UInt8} (h:Dh (lH bs)=none):pF bs=(lH bs::(pF (bs.drop (9+sL (lH bs)).toNat)).1,(pF (bs.drop (9+sL (lH bs)).toNat)).2):=by
 have hd:=wP h
 have e:pF (bs.drop (9+sL (lH bs)).toNat)=BU bs.length (bs.drop (9+sL (lH bs)).toNat):=G7 _ _ _ (by omega) (by omega)
 rw[e]
 unfold pF
 conv=>lhs;unfold BU
 rw[h]
def qS:Tr:=(.br (.st 0 1 (.st 1 1 (.st 2 1 (.st 3 1 (.st 4 1 (.st 5 1 (.st 6 1 (.st 7 1 (.st 8 1 (.st 9 1 (.st 10 1 (.st 11 1 (.st 12 1 (.st 13 1 (.st 14 1 (.st 15 1 (.st 16 2 (.st 17 2 (.st 18 1 .nil))))))))))))))))))) (.st 17 2 (.st 0 1 (.st 1 1 (.st 2 1 (.st 3 1 (.st 4 1 (.st 5 1 (.st 6 1 (.st 7 1 (.st 8 1 (.st 9 1 (.st 10 1 (.st 11 1 (.st 12 1 (.st 13 1 (.st 14 1 (.st 15 1 (.st 16 2 (.st 18 1 .nil))))))))))))))))))))
def qZ:List (Nat×Nat):= [(1,0),(2,1),(0,1),(3,0),(4,0),(5,1)]
def pV:List (Nat×Nat):= [(0,0),(1,0),(2,0),(3,0),(4,0),(5,0),(6,0)]
theorem Afp {r:Nat}:aG (pt r [.slice none 0 0] 24::R) (Jm r []::R):=aG.trans (aG.pick aV.here (aG.nilrow' (aG.allnil (aG.refl _)))) (P5 (A:=none) (c:=0) (fs:= []) rfl)
theorem W4 {Q:Exit→Fr→List HP→Prop} {a:Fr} {r7 r2 r6 x nx cx c:Nat} {A S:Option Addr} {all:List UInt8} (hc:all.length≤c) (hz:all.length<4000000)
  (ha:cN a [(2,.pointer (some ⟨r2,0,none⟩)),(6,.pointer (some ⟨r6,0,none⟩)),(7,.pointer (some ⟨r7,0,none⟩)),(8,.func (.func 159) #[] #[.pointer (some ⟨r7,0,none⟩),.pointer (some ⟨r2,0,none⟩),.pointer (some ⟨r6,0,none⟩)])])
  (hK:∀a A c F cF fs,(pF all).2.1.length≤all.length→fs.map jW=(pF all).1.map KF→fs.length≤all.length→Q (.exit 0) (eQ a [(2,.pointer (some ⟨r2,0,none⟩)),(6,.pointer (some ⟨r6,0,none⟩)),(7,.pointer (some ⟨r7,0,none⟩))]) (pt r7 [.slice A (pF all).2.1.length c] 214::nY A d8 (pF all).2.1::pt x [.slice S nx cx,.int .i64 (pF all).2.2] 216::pt r2 [.pointer (some ⟨x,0,none⟩)] 114::pt r6 [.slice F fs.length cF] 24::bT F cF 45 sR fs::jY xS fs::R)):
  fB Tryz.prog (Rf Tryz.f76 0) Q a (pt r7 [.slice A all.length c] 214::nY A d8 all::pt x [.slice S nx cx,.int .i64 0] 216::pt r2 [.pointer (some ⟨x,0,none⟩)] 114::Jm r6 []::R):=by
 refine iF (fun m a C'=>∃(bs:List UInt8) (A:Option Addr) (c:Nat) (srcs:List ByteArray) (fs:List Fm),bs.length=m∧bs.length≤c∧fs.map jW=srcs.map KF∧(pF all).1=srcs++(pF bs).1∧(pF all).2=(pF bs).2∧fs.length+bs.length≤all.length∧C'=pt r7 [.slice A bs.length c] 214::nY A d8 bs::pt x [.slice S nx cx,.int .i64 0] 216::pt r2 [.pointer (some ⟨x,0,none⟩)] 114::Jm r6 fs::R∧cN a [(2,.pointer (some ⟨r2,0,none⟩)),(6,.pointer (some ⟨r6,0,none⟩)),(7,.pointer (some ⟨r7,0,none⟩)),(8,.func (.func 159) #[] #[.pointer (some ⟨r7,0,none⟩),.pointer (some ⟨r2,0,none⟩),.pointer (some ⟨r6,0,none⟩)])]) all.length (b9 all.length ⟨all,A,c,[],[],rfl,hc,rfl,rfl,rfl,by simp,rfl,ha⟩) ?_
 clear ha hc
 rintro n1 a C' ⟨bs,A,c,srcs,fs,hm,hbc,hfs,h1,h2,hfl,rfl,ha⟩
 refine gF _ ha ?_
 simp only[eQ]
 have hbz:bs.length<1000000000000:=by omega
 have hfz:fs.length<4000000:=by omega
 cases hs:Dh (lH bs) with
 |none=>
  have hd:=wP hs
  obtain⟨g1,g2,g3,g4,g5,g6,g7⟩:=Gc hs
  have hp:=Gq hs
  repeat' (first|refine w1 ?_|refine w5 ?_ ?_|((refine bh fun h=>?_) <;> try exact w6 h)|(refine aE fun hA=>?_;subst hA)|intro _|(show aA _ 159 _ _ _;refine CA (h:=Yl rfl rfl hbc hbz hfz hs (fun A' c' A2 c2 hc'=>?_))))
  rw[← List.length_drop] at *
  exact b9 (bs.drop (9+sL (lH bs)).toNat).length ⟨bs.drop (9+sL (lH bs)).toNat,A',c',srcs++ [lH bs],fs++ [frA (lH bs) A2 c2],rfl,hc',by rw[List.map_append,List.map_append,hfs];rfl,by rw[h1,hp];simp,by rw[h2,hp],by rw[List.length_append];simp only[List.length_cons,List.length_nil];omega,rfl,rfl,rfl,rfl,rfl,trivial⟩
 |some e=>
  have hp:=yL hs
  rw[hp,List.append_nil] at h1
  rw[hp] at h2
  refine nR (C':=Jm r6 fs::pt r7 [.slice A bs.length c] 214::nY A d8 bs::pt x [.slice S nx cx,.int .i64 0] 216::pt r2 [.pointer (some ⟨x,0,none⟩)] 114::R) (by exact bA) ?_
  refine wG fun F=>wG fun cF=>WE (nR (aG.cons aG.unsep) ?_)
  repeat' (first|refine w1 ?_|refine w5 ?_ ?_|((refine bh fun h=>?_) <;> try exact w6 h)|(refine aE fun hA=>?_;subst hA)|intro _|(show aA _ 159 _ _ _;refine CA (h:=ZH rfl hbc hbz hs ?_)))
  rw[h2,h1] at hK
  exact AY (p:=fun a=>Q (.exit 0) a _) [(2,.pointer (some ⟨r2,0,none⟩)),(6,.pointer (some ⟨r6,0,none⟩)),(7,.pointer (some ⟨r7,0,none⟩))] ⟨rfl,rfl,rfl,trivial⟩ (hK _ A c F cF fs (by show bs.length≤_;omega) hfs (by omega))
theorem Ajb {x:Nat} {e:Int}:aG (pt x [.slice none 0 0,.int .i64 e] 216::R) (spP x [] e::R):=aG.trans (aG.pick aV.here (aG.nilrow' (aG.refl _))) (LD (A:=none) (c:=0) (bs:= []) rfl)
theorem Ag0 {x:Nat} {ks:List UInt8} {s:ByteArray} (hz:ks.length+s.size<4000000) (hK:∀F c fs,fs.map jW=(pF (ks++s.data.toList)).1.map KF→K (.tuple #[.slice F fs.length c,.int .i64 (pF (ks++s.data.toList)).2.2]) (bT F c 45 sR fs::jY xS fs::spP x (if(pF (ks++s.data.toList)).2.2=0 then(pF (ks++s.data.toList)).2.1 else []) (pF (ks++s.data.toList)).2.2::R)):aA Tryz.prog 76 #[.pointer (some ⟨x,0,none⟩),.string s] (spP x ks 0::R) K:=by
 have hsl:s.data.toList.length=s.size:=by simp
 refine Ahg fun A c=>?_
 refine iS (l:=ks) (A:=A) (c:=c) (by((repeat (first|exact aV.here|apply aV.there)) <;> exact aV.here)) fun hkc=>?_
 have e0:List.take (((ks.length:Nat):Int).toNat - (0:Int).toNat) (List.drop (0:Int).toNat ks)=ks:=by simp
 have e1:(List.take (((ks.length:Nat):Int).toNat - (0:Int).toNat) (List.drop (0:Int).toNat ks)).length=((ks.length:Nat):Int).toNat - (0:Int).toNat:=by simp
 refine aH Tryz.func76 ?_
 repeat' (first|refine v92 ?_|refine Hi qS ?_|refine dw qZ ?_|refine dw pV ?_|refine wr ?_|refine w5 ?_ ?_|((refine bh fun h=>?_) <;> try exact w6 h)|(refine aE fun hA=>?_;subst hA)|intro _|(show aA _ 158 _ _ _;refine CA (h:=QK ?_)))
 all_goals
  rw[e0]
  refine OL (l:=ks++s.data.toList) (by((repeat (first|exact aV.here|apply aV.there)) <;> exact aV.here)) fun hc=>?_
  have hall:(ks++s.data.toList).length<4000000:=by rw[List.length_append];omega
  refine nR (Cd (E:=d8) (xs:=ks++s.data.toList) (by((repeat (first|exact aV.here|apply aV.there)) <;> exact aV.here)) (aG.trans (by exact bA) (aG.trans Afp (by exact bA)))) (W4 (S:=A) (nx:=ks.length) (cx:=c) hc hall ⟨rfl,rfl,rfl,rfl,trivial⟩ (fun a A2 c2 F cF fs hl hfs hfl=>?_))
  have hrz:(pF (ks++s.data.toList)).2.1.length<4000000:=by omega
  generalize pF (ks++s.data.toList)=res at *
  obtain⟨srcs,rest,e⟩:=res
  simp only at hK hl hfs hrz
  by_cases he:e=0
  ·subst he
   rw[if_pos rfl] at hK
   repeat' (first|refine v92 ?_|refine Hi qS ?_|refine dw qZ ?_|refine dw pV ?_|refine wr ?_|refine w5 ?_ ?_|((refine bh fun h=>?_) <;> try exact w6 h)|(refine aE fun hA=>?_;subst hA)|intro _)
   all_goals
    refine aC ?_
    exact aL (aG.trans (by exact bA) (aG.trans (LD (bs:=rest) rfl) (by exact bA))) (hK F cF fs hfs)
  ·rw[if_neg he] at hK
   repeat' (first|refine v92 ?_|refine Hi qS ?_|refine dw qZ ?_|refine dw pV ?_|refine wr ?_|refine w5 ?_ ?_|((refine bh fun h=>?_) <;> try exact w6 h)|(refine aE fun hA=>?_;subst hA)|intro _)
   all_goals
    refine aC ?_
    exact aL (aG.trans (by exact bA) (aG.trans Ajb (by exact bA))) (hK F cF fs hfs)
end
end Go.Proofs.YtifgibijcmppmaaGreat
