/- A part of the proof: lemmas; each with the conditions that it states. -/
import Derived.Test.YtepnmcipkangkaaGreatPbm
import Derived.Test.YtepnmcipkangkaaGreatPbk
set_option linter.unusedVariables false
set_option linter.unusedSimpArgs false
set_option maxRecDepth 100000
set_option maxHeartbeats 40000000
namespace Go.Proofs.YtepnmcipkangkaaGreat
open Go Go.Proofs Go.Sl
attribute [local irreducible] aN fJ cY bN aM aS aA dM dN aV dL pt ro fB star sep bF
attribute [local irreducible] mp CV
variable {R C:List HP} {K:KP} {x p x0 x1 j:Nat} {ad a0 a1:Ca} {c c0 c1 c0' c1':Cn} {P N side gr got us cap most w st it sb si sg ev wa stl w0 st0 it0 sb0 si0 sg0 ev0 wa0 stl0 w1 st1 it1 sb1 si1 sg1 ev1 wa1 stl1:Int} {cf f0 f1:Cf} {a:A6} {u o u0 u1 u0' u1' d:ByteArray} {A1:Option Addr} {ls:List AC}
structure PJ (f0 f1:Cf) (j:Nat) (c0 c1:Cn) (u0 u1:ByteArray):Prop where
 p0:∃P:Int,AH f0 P c0/\P+35 * u0.size<=800000 * j
 p1:∃P:Int,AH f1 P c1/\P+35 * u1.size<=800000 * j
 z0:u0.size<=8500 * j
 z1:u1.size<=8500 * j
 px:PX (j+1) c0 c1 u0.data.toList u1.data.toList
theorem PJ.mono {j2:Nat} (h:PJ f0 f1 j c0 c1 u0 u1) (hj:j<=j2):PJ f0 f1 j2 c0 c1 u0 u1:=by
 obtain⟨⟨P,q1,q2⟩,⟨P2,q3,q4⟩,q5,q6,q7⟩:=h
 exact⟨⟨P,q1,by omega⟩,⟨P2,q3,by omega⟩,by omega,by omega,q7.mono (by omega)⟩
structure PQ (f0 f1:Cf) (j:Nat) (c0 c1:Cn) (u0 u1:ByteArray):Prop where
 p0:∃P:Int,AH f0 P c0
 p1:∃P:Int,AH f1 P c1
 o:c0.dr.co=11\/c0.dr.co=0/\c0.ld.sp<=c1.rv.gr/\(c1.dr.co=11\/c1.dr.co=0/\c1.ld.sp<=c0.rv.gr/\PJ f0 f1 j c0 c1 u0 u1)
theorem PJ.q (h:PJ f0 f1 j c0 c1 u0 u1):PQ f0 f1 j c0 c1 u0 u1:=by
 obtain⟨q1,q2⟩:=h.px.says
 obtain⟨q3,q4⟩:=h.px.symm.says
 obtain⟨P,q5,_⟩:=h.p0
 obtain⟨P2,q6,_⟩:=h.p1
 exact⟨⟨P,q5⟩,⟨P2,q6⟩,.inr ⟨q1,q2,.inr ⟨q3,q4,h⟩⟩⟩
structure PS (f g:Cf) (j:Nat) (c d:Cn) (u o:ByteArray) (c':Cn) (u' o':ByteArray):Prop where
 p:∃P:Int,AH f P c'/\(PX ((j:Int)+1+1) c' d u'.data.toList o'.data.toList/\P+35 * u'.size<=800000 * ((j:Int)+1)/\u'.size<=8500 * (j+1)/\o'.size<=o.size+8500\/Fl c c')
theorem PS.q1 (h:PS f1 f0 j c1 c0 u1 u0 c1' u1' u0') (hJ:PJ f0 f1 j c0 c1 u0 u1):PQ f0 f1 (j+1) c0 c1' u0' u1':=by
 obtain⟨P,h1,h2⟩:=h.p
 obtain⟨P2,h3,h4⟩:=hJ.p0
 have h5:=hJ.z0
 rcases h2 with⟨h2,h6,h7,h8⟩|h2
 ·refine PJ.q ⟨⟨P2,h3,by omega⟩,⟨P,h1,by omega⟩,by omega,by omega,?_⟩
  rw[show(((j+1:Nat):Int))=(j:Int)+1 from rfl];exact h2.symm
 ·obtain⟨q1,q2⟩:=hJ.px.says
  exact⟨⟨P2,h3⟩,⟨P,h1⟩,.inr ⟨q1,by rw[h2.2];exact q2,.inl h2.1.2⟩⟩
def cfP (w it sb si sg:Int):Cf:=⟨w % 18446744073709551616 % 100,8,it % 18446744073709551616 % 20,sb % 18446744073709551616 % 200,si % 18446744073709551616 % 20,sg % 18446744073709551616 % 3,0,0,0⟩
theorem Anm:Dq (cfP w it sb si sg):=by
 refine⟨?_,?_,?_,?_,?_,?_,?_⟩
 ·unfold rT cfP;simp only[Bool.and_eq_true,decide_eq_true_eq];omega
 all_goals(unfold cfP;dsimp only;omega)
theorem YT (hK:∀f0,Dq f0/\f0.ev=0/\f0.sl=0->K (.agg #[I6 f0.w,I6 f0.st,I6 f0.it,I6 f0.sb,I6 f0.si,I6 f0.sg,I6 f0.ev,I6 f0.wa,I6 f0.sl]) R):CT 10 #[.agg #[I6 w,I6 st,I6 it,I6 sb,I6 si,I6 sg,I6 ev,I6 wa,I6 stl]] R K:=by
 have hK:=hK (cfP w it sb si sg) ⟨Anm,rfl,rfl⟩
 unfold cfP at hK
 dsimp only at hK
 refine aH Tryz.func10 ?_
 repeat' (first|refine v31 ?_|refine w5 ?_ ?_|((refine bh fun h=>?_) <;> try exact w6 h)|(refine aE fun hA=>?_;subst hA)|intro _|(show aA _ 32 _ _ _;refine CA (h:=Te ?_)))
 all_goals(refine aC ?_;exact aB (hK))
section
variable {z1:Nat}
def dI:List (Nat×Nat):= [(0,0),(1,1),(2,1),(3,1),(4,1),(5,0),(6,0),(7,0),(8,0),(9,0)]
theorem JD (hv:d4 R A1 QT ls) (hz1:ls.length<1000000000000000) (hK:K (.bool true) R):CT 4 #[.agg #[I6 w0,I6 st0,I6 it0,I6 sb0,I6 si0,I6 sg0,I6 ev0,I6 wa0,I6 stl0],.agg #[I6 w1,I6 st1,I6 it1,I6 sb1,I6 si1,I6 sg1,I6 ev1,I6 wa1,I6 stl1],.slice A1 ls.length z1] R K:=by
 have k1:∀v:Bool,v=true->K (.bool v) R:=fun v hv=>hv▸hK
 refine aH Tryz.func4 ?_
 repeat' (first|refine Kx ?_|refine dw dI ?_|refine w5 ?_ ?_|((refine bh fun h=>?_) <;> try exact w6 h)|(refine aE fun hA=>?_;subst hA)|intro _|(show aA _ 10 _ _ _;refine CA (h:=YT (fun fa hca=>?_)))|(show aA _ 19 _ _ _;refine CA (h:=Q5 (And.left (by assumption)) (And.left (by assumption)) (fun d0 A0=>?_));dsimp only[Af])|(show aA _ 20 _ _ _;refine CA (h:=R5 ?_)))
 rename_i f0 h0
 refine jG (fun m a C'=>∃(j:Nat) (z:Du),j+m=ls.length/\j<=120/\DJ f0 fa j z/\dP a [(2,.slice A1 ls.length z1),(6,.bool false),(7,PO d0),(9,I6 j)]/\C'=pt d0 [PO A0.x0,PO A0.x1,PO A0.p0,PO A0.p1,.bool z.b0,.bool z.b1] 146::pY A0.p0 z.l0::pY A0.p1 z.l1::ME A0.x0 A0.a0 z.c0::ME A0.x1 A0.a1 z.c1::R) ls.length (cN ls.length ⟨0,⟨iB 0 f0,iB 1 fa,⟨[],0,0⟩,⟨[],0,0⟩,false,false⟩,by omega,by omega,⟨QP h0.1 hca.1,PX.init h0.1 hca.1 h0.2 hca.2,Nat.zero_le _,Nat.zero_le _⟩,⟨rfl,rfl,rfl,rfl,trivial⟩,rfl⟩ (by omega)) ?_
 rintro m a C' ⟨j,z,hj,hj120,hJ,ha,rfl⟩
 refine iT _ ha ?_
 simp only[gH]
 refine Acx (fun H hs=>An8 (p:=d0) (A:=A0) (z:=z) hs) (fun hF=>?_)
 by_cases hlt:j<ls.length
 ·obtain⟨al,hq⟩:∃q,ls[j]?=some q:=⟨_,List.getElem?_eq_getElem hlt⟩
  by_cases h120:j<120
  ·by_cases hL:(al.s.size:Int)<600
   ·by_cases h14:al.kd=14
    ·repeat' (first|refine Kx ?_|refine dw dI ?_|refine w5 ?_ ?_|((refine bh fun h=>?_) <;> try exact w6 h)|(refine aE fun hA=>?_;subst hA)|intro _|(show aA _ 21 _ _ _;refine CA (h:=vI ?_)))
     all_goals(show aV _ _ _ _;exact cN (m - 1) ⟨j+1,z,by omega,by omega,hJ.mono (by omega) (by omega),⟨rfl,rfl,rfl,rfl,trivial⟩,rfl⟩)
    ·have hg:=Wo (a:=al) hJ.g (by omega) hF.1 hF.2 (by omega)
     rcases Ahu (a:=al) hJ h120 hF h14 hg with hN|h11|h11
     ·have e0:=hN.px.says.1
      have e1:=hN.px.symm.says.1
      repeat' (first|(show aN _ _ _ _ _ _ _;refine iD ?_)|refine Kx ?_|refine dw dI ?_|refine w5 ?_ ?_|((refine bh fun h=>?_) <;> try exact w6 h)|(refine aE fun hA=>?_;subst hA)|intro _|(show aA _ 21 _ _ _;refine CA (h:=vI ?_))|(show aA _ 22 _ _ _;refine CA (h:=w8 (d:=d0) (A:=A0) (z:=z) (a:=al) hJ.g (by omega) (by omega) (fun _=>?_));dsimp only[Af,uQ])|(show aA _ 23 _ _ _;first|(refine CA (h:=u3 (d:=d0) (A:=A0) (z:=Ee al z) (.inl rfl) ?_))|(refine CA (h:=u3 (d:=d0) (A:=A0) (z:=Ee al z) (.inr rfl) ?_));dsimp only[Af];simp only[Int.reduceEq,if_true,if_false])|(show aA _ 13 _ _ _;first|(refine CA (h:=yQ (x:=A0.x0) (ad:=A0.a0) (c:=(Ee al z).c0) hg.c0 ?_);unfold zV;rw[e0])|(refine CA (h:=yQ (x:=A0.x1) (ad:=A0.a1) (c:=(Ee al z).c1) hg.c1 ?_);unfold zV;rw[e1])))
      all_goals(show aV _ _ _ _;exact cN (m - 1) ⟨j+1,Ee al z,by omega,by omega,hN,⟨rfl,rfl,rfl,rfl,trivial⟩,rfl⟩)
     ·repeat' (first|(show aN _ _ _ _ _ _ _;refine iD ?_)|refine Kx ?_|refine dw dI ?_|refine w5 ?_ ?_|((refine bh fun h=>?_) <;> try exact w6 h)|(refine aE fun hA=>?_;subst hA)|intro _|(show aA _ 21 _ _ _;refine CA (h:=vI ?_))|(show aA _ 22 _ _ _;refine CA (h:=w8 (d:=d0) (A:=A0) (z:=z) (a:=al) hJ.g (by omega) (by omega) (fun _=>?_));dsimp only[Af,uQ])|(show aA _ 23 _ _ _;first|(refine CA (h:=u3 (d:=d0) (A:=A0) (z:=Ee al z) (.inl rfl) ?_))|(refine CA (h:=u3 (d:=d0) (A:=A0) (z:=Ee al z) (.inr rfl) ?_));dsimp only[Af];simp only[Int.reduceEq,if_true,if_false])|(show aA _ 13 _ _ _;first|(refine CA (h:=yQ (x:=A0.x0) (ad:=A0.a0) (c:=(Ee al z).c0) hg.c0 ?_);unfold zV;rw[h11])|(refine CA (h:=yQ (x:=A0.x1) (ad:=A0.a1) (c:=(Ee al z).c1) hg.c1 ?_);unfold zV)))
      all_goals(refine aC ?_;exact aB (k1 _ rfl))
     ·repeat' (first|(show aN _ _ _ _ _ _ _;refine iD ?_)|refine Kx ?_|refine dw dI ?_|refine w5 ?_ ?_|((refine bh fun h=>?_) <;> try exact w6 h)|(refine aE fun hA=>?_;subst hA)|intro _|(show aA _ 21 _ _ _;refine CA (h:=vI ?_))|(show aA _ 22 _ _ _;refine CA (h:=w8 (d:=d0) (A:=A0) (z:=z) (a:=al) hJ.g (by omega) (by omega) (fun _=>?_));dsimp only[Af,uQ])|(show aA _ 23 _ _ _;first|(refine CA (h:=u3 (d:=d0) (A:=A0) (z:=Ee al z) (.inl rfl) ?_))|(refine CA (h:=u3 (d:=d0) (A:=A0) (z:=Ee al z) (.inr rfl) ?_));dsimp only[Af];simp only[Int.reduceEq,if_true,if_false])|(show aA _ 13 _ _ _;first|(refine CA (h:=yQ (x:=A0.x0) (ad:=A0.a0) (c:=(Ee al z).c0) hg.c0 ?_);unfold zV)|(refine CA (h:=yQ (x:=A0.x1) (ad:=A0.a1) (c:=(Ee al z).c1) hg.c1 ?_);unfold zV;rw[h11])))
      all_goals(refine aC ?_;exact aB (k1 _ rfl))
   ·repeat' (first|refine Kx ?_|refine dw dI ?_|refine w5 ?_ ?_|((refine bh fun h=>?_) <;> try exact w6 h)|(refine aE fun hA=>?_;subst hA)|intro _|(show aA _ 21 _ _ _;refine CA (h:=vI ?_)))
    all_goals(show aV _ _ _ _;exact cN (m - 1) ⟨j+1,z,by omega,by omega,hJ.mono (by omega) (by omega),⟨rfl,rfl,rfl,rfl,trivial⟩,rfl⟩)
  ·repeat' (first|refine Kx ?_|refine dw dI ?_|refine w5 ?_ ?_|((refine bh fun h=>?_) <;> try exact w6 h)|(refine aE fun hA=>?_;subst hA)|intro _)
   all_goals(refine aC ?_;exact aB (k1 _ rfl))
 ·repeat' (first|refine Kx ?_|refine dw dI ?_|refine w5 ?_ ?_|((refine bh fun h=>?_) <;> try exact w6 h)|(refine aE fun hA=>?_;subst hA)|intro _)
  all_goals(refine aC ?_;exact aB (k1 _ rfl))
end
end Go.Proofs.YtepnmcipkangkaaGreat
