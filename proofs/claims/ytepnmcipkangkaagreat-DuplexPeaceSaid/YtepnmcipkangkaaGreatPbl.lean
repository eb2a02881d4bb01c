/- A part of the proof: lemmas; each with the conditions that it states. -/
import Derived.Test.YtepnmcipkangkaaGreatPbi
set_option linter.unusedVariables false
set_option linter.unusedSimpArgs false
set_option maxRecDepth 100000
set_option maxHeartbeats 40000000
namespace Go.Proofs.YtepnmcipkangkaaGreat
open Go Go.Proofs Go.Sl
attribute [local irreducible] aN fJ cY bN aM aS aA dM dN aV dL pt ro fB star sep bF
attribute [local irreducible] mp CV
variable {R C:List HP} {K:KP} {d mc m0 m1 x y pl po:Nat} {c c' s:Cn} {l o:Lk} {M M0 M1:Option Addr} {B P k side sd:Int} {a:AC} {cf cf0 cf1:Cf} {f:FuncId} {args:Array Value} {ad:Ca}
section
structure Du where
 c0:Cn
 c1:Cn
 l0:Lk
 l1:Lk
 b0:Bool
 b1:Bool
structure Dd where
 x0:Nat
 x1:Nat
 p0:Nat
 p1:Nat
 a0:Ca
 a1:Ca
def duT (a:AC) (z:Du):Td:=
 if a.kd<1\/14<a.kd then LZ 2
 else if a.kd=13 then⟨0,z.c0.now+1,⟨#[]⟩,false,false⟩
 else if a.sd=0 then CN a z.c0 z.l0 z.l1
 else if a.sd=1 then CN a z.c1 z.l1 z.l0
 else LZ 3
def Ee (a:AC) (z:Du):Du:=
 if a.kd<1\/14<a.kd then z
 else if a.kd=13 then { z with c0:=pI z.c0,c1:=pI z.c1,b0:=false,b1:=false }
 else if a.sd=0 then { c0:=lG a z.c0 z.l0,c1:=z.c1,l0:=k9 a z.l0,l1:=mG a z.c0 z.l1,b0:=bz 0 0 a.kd,b1:=bz 0 1 a.kd }
 else if a.sd=1 then { c0:=z.c0,c1:=lG a z.c1 z.l1,l0:=mG a z.c1 z.l0,l1:=k9 a z.l1,b0:=bz 1 0 a.kd,b1:=bz 1 1 a.kd }
 else { z with b0:=false,b1:=false }
variable {A:Dd} {z:Du} {b0 b1:Bool}
def KJ (k:Int) (l:Lk):Prop:=l.b.length<=1048576/\0<=l.we/\(l.b.length:Int)+l.we=l.ca/\l.ca<=40000 * k
structure DuG (cf0 cf1:Cf) (k:Int) (z:Du):Prop where
 kk:0<=k/\k<=140
 c0:AH cf0 (1000+2000 * k+35 * z.l0.we) z.c0
 c1:AH cf1 (1000+2000 * k+35 * z.l1.we) z.c1
 l0:KJ k z.l0
 l1:KJ k z.l1
theorem KJ.i (h:KJ k l) (hk:0<=k/\k<=140):Kt l:=by
 obtain⟨h1,h2,h3,h4⟩:=h
 exact⟨h1,by omega,by omega,by omega,by omega⟩
theorem KJ.mono {k':Int} (h:KJ k l) (hk:k<=k'):KJ k' l:=by
 obtain⟨h1,h2,h3,h4⟩:=h
 exact⟨h1,h2,h3,by omega⟩
theorem AH.mono {P':Int} (h:AH cf P c) (hP:P<=P'):AH cf P' c:=by
 obtain⟨B,h1,h2⟩:=h
 exact⟨B,h1,by omega⟩
theorem Ab7 {s:ByteArray} (h:KJ k l) (hs:s.size<=40000):KJ (k+1) (zE s l):=by
 obtain⟨h1,h2,h3,h4⟩:=h
 have e:s.data.toList.length=s.size:=Array.length_toList
 unfold zE WU
 by_cases hE:1048576 - (l.b.length:Int)<s.size
 ·rw[if_pos hE,if_neg (by decide)]
  exact⟨h1,h2,h3,by omega⟩
 ·rw[if_neg hE,if_pos rfl]
  exact⟨by rw[List.length_append];omega,h2,by rw[List.length_append];dsimp only;omega,by dsimp only;omega⟩
theorem W8 {s:ByteArray} (h:KJ k l) (hs:s.size<=40000):KJ (k+1) (zN s l):=by
 obtain⟨h1,h2,h3,h4⟩:=h
 have e:s.data.toList.length=s.size:=Array.length_toList
 unfold zN WU
 by_cases hE:1048576 - (l.b.length:Int)<s.size
 ·rw[if_pos hE,if_neg (by decide)]
  exact⟨h1,h2,h3,by omega⟩
 ·rw[if_neg hE,if_pos rfl]
  exact⟨by rw[List.length_append];omega,h2,by rw[List.length_append];dsimp only;omega,by dsimp only;omega⟩
theorem Aaa {n:Int} (h:KJ k l):KJ (k+1) (xR n l):=by
 obtain⟨h1,h2,h3,h4⟩:=h
 have hN:AU n l<=l.b.length:=by unfold AU;omega
 unfold xR
 exact⟨by rw[List.length_drop];omega,by dsimp only;omega,by rw[List.length_drop];dsimp only;omega,by dsimp only;omega⟩
theorem Jj (hI:bO B c) (hk:fY cf c) (hF:∀m∈c.l,FK m) (hB:B+1301<=250000000) (ho:c.dr.ov=false) (ho1:(bH (aD c)).dr.ov=false):(∀f∈t7 c,bR f)/\(t7 c).length<=134:=by
 have hbb:=hI.bb
 have hIb:=bI hI
 have hkb:=cQ hk
 have hI1:=J6 hIb (by omega)
 have hk1:=FG hIb hkb (by omega)
 have hou:=Mm ho1
 have hti:=Ago ho1
 have hI2:=E8 hI1
 have hk2:=Ew hk1
 have hI3:=M6 hI2
 have hk3:=Oe hk2
 have hF2:∀m∈({ bH (aD c) with out:= [] }:Cn).l,FK m:=fun m hm=>hF m (by have hm:m∈(bH (aD c)).l:=hm;rw[hti] at hm;exact hm)
 have hgr:=J5 hI2 hF2
 have hbr:=BR (k:=4) hI3 hk3 (by omega)
 have hfo:=hk1.fo
 refine⟨fun f hf=>?_,?_⟩
 ·unfold t7 at hf
  rcases List.mem_append.1 hf with hf|hf
  ·rcases List.mem_append.1 hf with hf|hf
   ·rcases List.mem_append.1 hf with hf|hf
    ·exact(zT f hf).1
    ·exact(iX f).1 (hfo f hf).1
   ·exact(hgr f hf).1
  ·exact(hbr f hf).1
 ·have hl0:=LD (s:=aD c)
  have hgl:(iR { bH (aD c) with out:= [] }).length<=65:=by
   have h1:=flat_len (l:=(bH (aD c)).l)
   have h2:=hI1.sm.1
   have h3:=En (t:=10) (st:=0) (n:=nH (bH (aD c)).rv)
   show(Eg 10 0 (nH (bH (aD c)).rv)++(bH (aD c)).l.flatMap mD).length<=65
   rw[List.length_append];omega
  have hol:=hI1.ou.1
  have hbl:=F0 (k:=4) (s:=zY { bH (aD c) with out:= [] })
  show(fA (aD c)++(bH (aD c)).out++iR { bH (aD c) with out:= [] }++(eH 4 (zY { bH (aD c) with out:= [] })).1).length<=134
  revert hbl hgl
  generalize ({ bH (aD c) with out:= [] }:Cn)=z2
  intro hbl hgl
  rw[List.length_append,List.length_append,List.length_append]
  omega
theorem Sv (hG:CnG cf B c) (hF:∀m∈c.l,FK m) (hB:B+1301<=250000000):(cR c).1.length<=40000:=by
 have hIb:=bI hG.I
 have hkb:=cQ hG.K
 have hk1:=FG hIb hkb (by omega)
 have hls:=hG.K.ls
 have hls1:=hk1.ls
 cases ho:c.dr.ov
 ·cases ho1:(bH (aD c)).dr.ov
  ·obtain⟨h1,h2⟩:=Jj hG.I hG.K hF hB ho ho1
   rw[OR ho ho1 h1]
   have:=HI h1
   show(kC (t7 c)).length<=40000
   omega
  ·have e:cR c=((bH (aD c)).last.data.toList,{ bH (aD c) with last:=⟨#[]⟩ }):=by unfold cR;rw[if_neg (by rw[ho];decide),if_pos ho1]
   rw[e]
   have e2:(bH (aD c)).last.data.toList.length=(bH (aD c)).last.size:=Array.length_toList
   show(bH (aD c)).last.data.toList.length<=40000
   omega
 ·have e:cR c=(c.last.data.toList,{ aD c with last:=⟨#[]⟩ }):=by unfold cR;rw[if_pos ho]
  rw[e]
  have e2:c.last.data.toList.length=c.last.size:=Array.length_toList
  show c.last.data.toList.length<=40000
  omega
end
section
variable {A:Dd} {z:Du} {b0 b1:Bool}
theorem Aa6:nN (Y2 a c)=nN c:=by
 unfold Y2
 split
 ·unfold mM;split <;> rfl
 ·split
  ·unfold oW;split
   ·rfl
   ·split <;> rfl
  ·split
   ·unfold Ax;split
    ·rfl
    ·split <;> rfl
   ·split
    ·unfold tV;split
     ·rfl
     ·split
      ·split
       ·rfl
       ·exact CF
      ·rfl
    ·split
     ·unfold tZ;split
      ·rfl
      ·split
       ·split
        ·rfl
        ·exact CF
       ·rfl
     ·split
      ·unfold Ar;split
       ·rfl
       ·split <;> rfl
      ·split
       ·unfold sI;split <;> rfl
       ·unfold nC;split
        ·rfl
        ·split <;> rfl
theorem WR:nN (bH c)=nN c:=by
 unfold bH
 split
 ·exact kD
 ·split
  ·exact kD
  ·rfl
theorem Aip:nN (rV c).2=nN c:=by
 unfold rV
 split
 ·rfl
 ·split
  ·rfl
  ·split
   ·rfl
   ·exact CF
theorem Ss:∀ {k:Nat} {c:Cn},nN (eH k c).2=nN c
 |0,_=>rfl
 |k+1,c=>by
  have h:=Aip (c:=c)
  rw[yV]
  split
  ·rename_i z hz
   rw[hz] at h;exact h
  ·rename_i f z hz
   rw[hz] at h
   exact(Ss (k:=k) (c:=z)).trans h
theorem EW:nN (cR c).2=nN c:=by
 unfold cR
 split
 ·rfl
 ·split
  ·exact(show nN (bH (aD c))=nN c from WR)
  ·exact(Ss (k:=4) (c:=zY { bH (aD c) with out:= [] })).trans (show nN (bH (aD c))=nN c from WR)
theorem Abr (h:C5 c):C5 (cR c).2:=Ox h EW fun ho=>by
 unfold cR
 rw[if_pos ho];exact ho
theorem MR (h:nN c'=nN c):c'.inb=c.inb:=congrArg Prod.snd h
theorem GJ {D:Int} (h:AH cf P c) (hP:P<=240000000) (hD:D<=2000) (hi:nN c'=nN c) (hg:∀B,B+2000<=250000000->CnG cf B c->CnG cf (B+D) c'):AH cf (P+2000) c':=by
 obtain⟨B,h1,h2⟩:=h
 exact⟨B+D,hg B (by omega) h1,by rw[MR hi];omega⟩
theorem Ame (h:AH cf P c) (hP:P<=200000000) (hd:a.s.size<=599) (hk:a.kd≠12):AH cf (P+2000) (lG a c l):=by
 unfold lG
 split
 ·exact GJ (D:=0) h (by omega) (by decide) (by unfold EK;split <;> rfl) fun B hB hG=>⟨by rw[Int.add_zero];exact Ano hG.I,Anp hG.K,Amw hG.E⟩
 ·split
  ·exact GJ (D:=0) h (by omega) (by decide) (by unfold wO;split <;> rfl) fun B hB hG=>⟨by rw[Int.add_zero];exact Abv hG.I,Aba hG.K,Abj hG.E⟩
  ·split
   ·exact GJ (D:=1301) h (by omega) (by decide) EW fun B hB hG=>⟨(Acr hG.I hG.K (by omega)).1,(Acr hG.I hG.K (by omega)).2,Abr hG.E⟩
   ·split
    ·exact GJ (D:=0) h (by omega) (by decide) rfl fun B hB hG=>by rw[Int.add_zero];exact hG
    ·exact GJ (D:=600) h (by omega) (by decide) Aa6 fun B hB hG=>⟨caI hG.I hd (by omega),caK hG.I hG.K,caE hG.E⟩
theorem Ahb (h:AH cf P c) (hP:P<=200000000):AH cf (P+2000) (pI c):=
 GJ (D:=1) h (by omega) (by decide) rfl fun B hB hG=>⟨Ab0 hG.I (by omega),Ahd hG.K,Aat hG.E⟩
end
section
variable {A:Dd} {z:Du} {b0 b1:Bool}
theorem Wo (hG:DuG cf0 cf1 k z) (hk:k<140) (h0:∀m∈z.c0.l,FK m) (h1:∀m∈z.c1.l,FK m) (hd:a.s.size<=599):DuG cf0 cf1 (k+1) (Ee a z):=by
 have hkk:=hG.kk
 have hl0:=hG.l0
 have hl1:=hG.l1
 obtain⟨q01,q02,q03,q04⟩:=id hl0
 obtain⟨q11,q12,q13,q14⟩:=id hl1
 have p0:=hG.c0
 have p1:=hG.c1
 have hsl0:(⟨(cR z.c0).1.toArray⟩:ByteArray).size<=40000:=by
  obtain⟨B,hG0,hB0⟩:=p0
  have:=Sv hG0 h0 (by omega)
  simpa[ByteArray.size] using this
 have hsl1:(⟨(cR z.c1).1.toArray⟩:ByteArray).size<=40000:=by
  obtain⟨B,hG0,hB0⟩:=p1
  have:=Sv hG0 h1 (by omega)
  simpa[ByteArray.size] using this
 unfold Ee
 split
 ·exact⟨by omega,p0.mono (by(try dsimp only);omega),p1.mono (by(try dsimp only);omega),hl0.mono (by(try dsimp only);omega),hl1.mono (by(try dsimp only);omega)⟩
 ·split
  ·exact⟨by omega,(Ahb p0 (by omega)).mono (by(try dsimp only);omega),(Ahb p1 (by omega)).mono (by(try dsimp only);omega),hl0.mono (by(try dsimp only);omega),hl1.mono (by(try dsimp only);omega)⟩
  ·split
   ·by_cases h12:a.kd=12
    ·have e1:lG a z.c0 z.l0=fS (z.l0.b.take (AU a.n z.l0)) z.c0:=by unfold lG;simp only[h12,Int.reduceEq,if_true,if_false]
     have e2:k9 a z.l0=xR a.n z.l0:=by unfold k9;simp only[h12,if_true]
     have e3:mG a z.c0 z.l1=z.l1:=by unfold mG;simp only[h12,Int.reduceEq,if_false]
     have hN:(z.l0.b.take (AU a.n z.l0)).length=AU a.n z.l0:=by
      have:AU a.n z.l0<=z.l0.b.length:=by unfold AU;omega
      rw[List.length_take];omega
     have hN2:AU a.n z.l0<=z.l0.b.length:=by unfold AU;omega
     refine⟨by omega,?_,p1.mono (by rw[e3];dsimp only;omega),?_,?_⟩
     ·show AH cf0 _ (lG a z.c0 z.l0)
      rw[e1]
      refine(Aef p0 (by rw[hN];omega)).mono ?_
      rw[hN]
      show _<=1000+2000 * (k+1)+35 * (k9 a z.l0).we
      rw[e2]
      show _<=1000+2000 * (k+1)+35 * (z.l0.we+(AU a.n z.l0:Nat))
      omega
     ·show KJ (k+1) (k9 a z.l0)
      rw[e2];exact Aaa hl0
     ·show KJ (k+1) (mG a z.c0 z.l1)
      rw[e3];exact hl1.mono (by(try dsimp only);omega)
    ·have e2:(k9 a z.l0).we=z.l0.we/\KJ (k+1) (k9 a z.l0):=by
      unfold k9
      rw[if_neg h12]
      split
      ·refine⟨?_,W8 hl0 (by omega)⟩
       unfold zN;split <;> rfl
      ·exact⟨rfl,hl0.mono (by(try dsimp only);omega)⟩
     have e3:(mG a z.c0 z.l1).we=z.l1.we/\KJ (k+1) (mG a z.c0 z.l1):=by
      unfold mG
      split
      ·refine⟨?_,Ab7 hl1 hsl0⟩
       unfold zE;split <;> rfl
      ·exact⟨rfl,hl1.mono (by(try dsimp only);omega)⟩
     refine⟨by omega,(Ame p0 (by omega) hd h12).mono ?_,p1.mono ?_,e2.2,e3.2⟩
     ·show _<=1000+2000 * (k+1)+35 * (k9 a z.l0).we
      omega
     ·show _<=1000+2000 * (k+1)+35 * (mG a z.c0 z.l1).we
      omega
   ·split
    ·by_cases h12:a.kd=12
     ·have e1:lG a z.c1 z.l1=fS (z.l1.b.take (AU a.n z.l1)) z.c1:=by unfold lG;simp only[h12,Int.reduceEq,if_true,if_false]
      have e2:k9 a z.l1=xR a.n z.l1:=by unfold k9;simp only[h12,if_true]
      have e3:mG a z.c1 z.l0=z.l0:=by unfold mG;simp only[h12,Int.reduceEq,if_false]
      have hN:(z.l1.b.take (AU a.n z.l1)).length=AU a.n z.l1:=by
       have:AU a.n z.l1<=z.l1.b.length:=by unfold AU;omega
       rw[List.length_take];omega
      have hN2:AU a.n z.l1<=z.l1.b.length:=by unfold AU;omega
      refine⟨by omega,p0.mono (by rw[e3];dsimp only;omega),?_,?_,?_⟩
      ·show AH cf1 _ (lG a z.c1 z.l1)
       rw[e1]
       refine(Aef p1 (by rw[hN];omega)).mono ?_
       rw[hN]
       show _<=1000+2000 * (k+1)+35 * (k9 a z.l1).we
       rw[e2]
       show _<=1000+2000 * (k+1)+35 * (z.l1.we+(AU a.n z.l1:Nat))
       omega
      ·show KJ (k+1) (mG a z.c1 z.l0)
       rw[e3];exact hl0.mono (by(try dsimp only);omega)
      ·show KJ (k+1) (k9 a z.l1)
       rw[e2];exact Aaa hl1
     ·have e2:(k9 a z.l1).we=z.l1.we/\KJ (k+1) (k9 a z.l1):=by
       unfold k9
       rw[if_neg h12]
       split
       ·refine⟨?_,W8 hl1 (by omega)⟩
        unfold zN;split <;> rfl
       ·exact⟨rfl,hl1.mono (by(try dsimp only);omega)⟩
      have e3:(mG a z.c1 z.l0).we=z.l0.we/\KJ (k+1) (mG a z.c1 z.l0):=by
       unfold mG
       split
       ·refine⟨?_,Ab7 hl0 hsl1⟩
        unfold zE;split <;> rfl
       ·exact⟨rfl,hl0.mono (by(try dsimp only);omega)⟩
      refine⟨by omega,p0.mono ?_,(Ame p1 (by omega) hd h12).mono ?_,e3.2,e2.2⟩
      ·show _<=1000+2000 * (k+1)+35 * (mG a z.c1 z.l0).we
       omega
      ·show _<=1000+2000 * (k+1)+35 * (k9 a z.l1).we
       omega
    ·exact⟨by omega,p0.mono (by dsimp only;omega),p1.mono (by dsimp only;omega),hl0.mono (by(try dsimp only);omega),hl1.mono (by(try dsimp only);omega)⟩
def ME (x:Nat) (a:Ca) (s:Cn):HP:=fB fun M=>fB fun mc=>star (cB x a s M mc [])
theorem I5 {a:Ca} (h:∀M mc,CT f args (cB x a s M mc R) K):CT f args (ME x a s::R) K:=aA.ex fun M=>aA.ex fun mc=>aA.star (h M mc)
theorem Fx {a:Ca}:aG (cB x a s M mc R) (ME x a s::R):=aG.ex M (aG.ex mc (aG.mkstar (l:=cB x a s M mc [])))
theorem FZ {C':List HP} (hp:C.Perm C') (h:CT f args C' K):CT f args C K:=aA.ent (fun _ hs=>hs.perm hp) h
def Af (d:Nat) (A:Dd) (z:Du) (R:List HP):List HP:=
 pt d [PO A.x0,PO A.x1,PO A.p0,PO A.p1,.bool z.b0,.bool z.b1] 146::pY A.p0 z.l0::pY A.p1 z.l1::ME A.x0 A.a0 z.c0::ME A.x1 A.a1 z.c1::R
theorem Px (hb:0<=s.now/\s.now<=1000000000) (hK:K (I6 (s.now+1)) (ME x ad (pI s)::R)):CT 57 #[PO x] (ME x ad s::R) K:=
 I5 fun M mc=>aA.entK (Yl hb ⟨_,Fx,hK⟩)
theorem ZI (h0:0<=z.c0.now/\z.c0.now<=1000000000) (h1:0<=z.c1.now/\z.c1.now<=1000000000) (hK:K (uQ ⟨0,z.c0.now+1,⟨#[]⟩,false,false⟩) (Af d A { z with c0:=pI z.c0,c1:=pI z.c1 } R)):CT 78 #[PO d] (Af d A z R) K:=by
 dsimp only[Af,uQ] at hK ⊢
 refine aH Tryz.func78 ?_
 repeat' (first|refine Lc ?_|refine w5 ?_ ?_|((refine bh fun h=>?_) <;> try exact w6 h)|(refine aE fun hA=>?_;subst hA)|intro _|(show aA _ 57 _ _ _;first|refine CA (h:=Px (x:=A.x0) (ad:=A.a0) (s:=z.c0) h0 ?_)|refine CA (h:=Px (x:=A.x1) (ad:=A.a1) (s:=z.c1) h1 ?_)))
 all_goals(refine aC ?_;exact aB (hK))
def qH:List (Nat×Nat):= [(7,1),(0,1),(1,1),(2,1),(3,1),(4,1),(5,1),(6,1),(8,1)]
def qZ:List (Nat×Nat):= [(0,0),(1,0),(2,0),(3,0),(4,0),(5,0),(6,0),(7,0),(8,0),(9,1)]
def qF:List (Nat×Nat):= [(0,0),(1,0),(2,0),(3,0),(4,0),(5,0),(6,0),(7,0),(8,0),(9,1),(10,1),(11,1)]
theorem Acs (h:a.kd<1\/14<a.kd) (hK:K (uQ (LZ 2)) (Af d A z R)):CT 22 #[PO d,.agg #[I6 a.kd,I6 a.sd,I6 a.id,I6 a.n,I6 a.cd,.string a.s,I6 a.on,I6 a.ww,.bool a.xx,I6 a.xw,I6 a.xs,I6 a.xi]] (Af d A z R) K:=by
 dsimp only[Af,uQ,LZ] at hK ⊢
 refine aH Tryz.func22 ?_
 repeat' (first|refine O1 ?_|refine dw qH ?_|refine dw qZ ?_|refine dw qF ?_|refine w5 ?_ ?_|((refine bh fun h=>?_) <;> try exact w6 h)|(refine aE fun hA=>?_;subst hA)|intro _|(show aA _ 77 _ _ _;refine CA (h:=tK ?_)))
 all_goals(refine aC ?_;exact aB (hK))
theorem Aa3 (h:a.kd=13) (h0:0<=z.c0.now/\z.c0.now<=1000000000) (h1:0<=z.c1.now/\z.c1.now<=1000000000) (hK:K (uQ ⟨0,z.c0.now+1,⟨#[]⟩,false,false⟩) (Af d A { z with c0:=pI z.c0,c1:=pI z.c1,b0:=false,b1:=false } R)):CT 22 #[PO d,.agg #[I6 a.kd,I6 a.sd,I6 a.id,I6 a.n,I6 a.cd,.string a.s,I6 a.on,I6 a.ww,.bool a.xx,I6 a.xw,I6 a.xs,I6 a.xi]] (Af d A z R) K:=by
 dsimp only[Af,uQ] at hK ⊢
 refine aH Tryz.func22 ?_
 repeat' (first|refine O1 ?_|refine dw qH ?_|refine dw qZ ?_|refine dw qF ?_|refine w5 ?_ ?_|((refine bh fun h=>?_) <;> try exact w6 h)|(refine aE fun hA=>?_;subst hA)|intro _|(show aA _ 78 _ _ _;refine CA (h:=ZI (d:=d) (A:=A) (z:= { z with b0:=false,b1:=false }) h0 h1 ?_);dsimp only[uQ,Af]))
 all_goals(refine aC ?_;exact aB (hK))
theorem Aft (h:¬(a.kd<1\/14<a.kd)) (h13:a.kd≠13) (h0:a.sd≠0) (h1:a.sd≠1) (hK:K (uQ (LZ 3)) (Af d A { z with b0:=false,b1:=false } R)):CT 22 #[PO d,.agg #[I6 a.kd,I6 a.sd,I6 a.id,I6 a.n,I6 a.cd,.string a.s,I6 a.on,I6 a.ww,.bool a.xx,I6 a.xw,I6 a.xs,I6 a.xi]] (Af d A z R) K:=by
 dsimp only[Af,uQ,LZ] at hK ⊢
 have hr:decide (a.sd=0\/a.sd=1)=false:=by simp[h0,h1]
 refine aH Tryz.func22 ?_
 repeat' (first|refine O1 ?_|refine dw qH ?_|refine dw qZ ?_|refine dw qF ?_|refine w5 ?_ ?_|((refine bh fun h=>?_) <;> try exact w6 h)|(refine aE fun hA=>?_;subst hA)|intro _|(show aA _ 77 _ _ _;refine CA (h:=tK ?_))|(show aA _ 79 _ _ _;refine CA (h:=jD ?_);rw[hr]))
 all_goals(refine aC ?_;exact aB (hK))
end
section
variable {A:Dd} {z:Du} {b0 b1:Bool}
theorem Pu {a:Ca} {H:Hp} (hs:bW (ME x a s::R) H):∀m∈s.l,FK m:=by
 obtain⟨M,hs⟩:=hs.ex
 obtain⟨mc,hs⟩:=hs.ex
 have h2:bW (cB x a s M mc R) H:=bW.star hs
 exact JW h2.tail.tail
theorem Pn (hs:side=0\/side=1) (ha:a.sd=side) (hkd:¬(a.kd<1\/14<a.kd)) (h13:a.kd≠13) (hP:AH cf P c) (hB:P<=200000000) (hl:Kt l) (ho:Kt o) (hz:a.s.size<=599) (hK:K (uQ (CN a c l o)) (pt d (AE side x y pl po (bz side 0 a.kd) (bz side 1 a.kd)) 146::pY pl (k9 a l)::pY po (mG a c o)::ME x ad (lG a c l)::R)):CT 22 #[PO d,.agg #[I6 a.kd,I6 a.sd,I6 a.id,I6 a.n,I6 a.cd,.string a.s,I6 a.on,I6 a.ww,.bool a.xx,I6 a.xw,I6 a.xs,I6 a.xi]] (pt d (AE side x y pl po b0 b1) 146::pY pl l::pY po o::ME x ad c::R) K:=by
 have Ex:∀ {X Y Z W:HP},(X::Y::Z::W::R).Perm (W::X::Y::Z::R):=fun {X Y Z W}=>by
  have:(X::Y::Z::W::R)= [X,Y,Z]++W::R:=rfl
  rw[this]
  exact List.perm_middle
 refine FZ Ex (I5 fun M mc=>?_)
 have hp2:∀ {X Y Z:HP} {s:Cn} {N:Option Addr} {n:Nat},(cB x ad s N n (X::Y::Z::R)).Perm (X::Y::Z::cB x ad s N n R):=fun {X Y Z s N n}=>by
  have e1:cB x ad s N n (X::Y::Z::R)=cB x ad s N n []++([X,Y,Z]++R):=rfl
  have e2:(X::Y::Z::cB x ad s N n R)= [X,Y,Z]++(cB x ad s N n []++R):=rfl
  rw[e1,e2,<- List.append_assoc,<- List.append_assoc]
  exact List.Perm.append_right R List.perm_append_comm
 refine FZ hp2 ?_
 have hK2:∀N n,∃C',aG (pt d (AE side x y pl po (bz side 0 a.kd) (bz side 1 a.kd)) 146::pY pl (k9 a l)::pY po (mG a c o)::cB x ad (lG a c l) N n R) C'/\K (uQ (CN a c l o)) C':=fun N n=>⟨_,aG.cons (aG.cons (aG.cons Fx)),hK⟩
 clear hK
 obtain⟨kd,sd,id,n,cd,z,on,ww,xx,xw,xs,xi⟩:=a
 dsimp only at ha hkd h13 hz hK2 ⊢
 subst ha
 by_cases h9:kd=9
 ·subst h9
  exact aA.entK (Yb (kd:=9) hs hP hB hl ho hz hK2)
 by_cases h10:kd=10
 ·subst h10
  exact aA.entK (UA (kd:=9) hs hP hB hl ho hz hK2)
 by_cases h11:kd=11
 ·subst h11
  exact aA.entK (UH (kd:=9) hs hP hB hl ho hz hK2)
 by_cases h12:kd=12
 ·subst h12
  exact aA.entK (T3 (kd:=9) hs hP hB hl ho hz hK2)
 by_cases h14:kd=14
 ·subst h14
  exact aA.entK (TX (kd:=9) hs hP hB hl ho hz hK2)
 exact aA.entK (XL hs (by omega) hP hB hl ho hz hK2)
theorem w8 (hG:DuG cf0 cf1 k z) (hk:k<140) (hd:a.s.size<=599) (hK:DuG cf0 cf1 (k+1) (Ee a z)->K (uQ (duT a z)) (Af d A (Ee a z) R)):CT 22 #[PO d,.agg #[I6 a.kd,I6 a.sd,I6 a.id,I6 a.n,I6 a.cd,.string a.s,I6 a.on,I6 a.ww,.bool a.xx,I6 a.xw,I6 a.xs,I6 a.xi]] (Af d A z R) K:=by
 refine aA.fact (p:=(∀m∈z.c0.l,FK m)/\∀m∈z.c1.l,FK m) (fun H hs=>⟨Pu hs.tail.tail.tail,Pu hs.tail.tail.tail.tail⟩) fun hF=>?_
 have hK:=hK (Wo hG hk hF.1 hF.2 hd)
 have hkk:=hG.kk
 obtain⟨q01,q02,q03,q04⟩:=hG.l0
 obtain⟨q11,q12,q13,q14⟩:=hG.l1
 have n0:0<=z.c0.now/\z.c0.now<=1000000000:=by
  obtain⟨B,hg,hb⟩:=hG.c0
  have:=hg.I.now;have:=hg.I.bb;omega
 have n1:0<=z.c1.now/\z.c1.now<=1000000000:=by
  obtain⟨B,hg,hb⟩:=hG.c1
  have:=hg.I.now;have:=hg.I.bb;omega
 unfold duT Ee at hK
 by_cases hr:a.kd<1\/14<a.kd
 ·rw[if_pos hr,if_pos hr] at hK
  exact Acs hr hK
 rw[if_neg hr,if_neg hr] at hK
 by_cases h13:a.kd=13
 ·rw[if_pos h13,if_pos h13] at hK
  exact Aa3 h13 n0 n1 hK
 rw[if_neg h13,if_neg h13] at hK
 by_cases h0:a.sd=0
 ·rw[if_pos h0,if_pos h0] at hK
  exact Pn (side:=0) (R:=ME A.x1 A.a1 z.c1::R) (.inl rfl) h0 hr h13 hG.c0 (by omega) (hG.l0.i hkk) (hG.l1.i hkk) hd hK
 rw[if_neg h0,if_neg h0] at hK
 by_cases h1:a.sd=1
 ·rw[if_pos h1,if_pos h1] at hK
  have hp:∀ {X Y Z U W:HP},(X::Y::Z::U::W::R).Perm (X::Z::Y::W::U::R):=fun {X Y Z U W}=>(List.Perm.cons X ((List.Perm.swap Z Y _).trans (List.Perm.cons Z (List.Perm.cons Y (List.Perm.swap W U R)))))
  refine FZ hp (aA.entK ?_)
  exact Pn (side:=1) (x:=A.x1) (y:=A.x0) (pl:=A.p1) (po:=A.p0) (ad:=A.a1) (c:=z.c1) (R:=ME A.x0 A.a0 z.c0::R) (.inr rfl) h1 hr h13 hG.c1 (by omega) (hG.l1.i hkk) (hG.l0.i hkk) hd ⟨_,(fun _ hs=>hs.perm hp.symm),hK⟩
 rw[if_neg h1,if_neg h1] at hK
 exact Aft hr h13 h0 h1 hK
end
section
variable {A:Dd} {z:Du} {b0 b1:Bool}
theorem Sy (hs:sd=0\/sd=1) (h:Dq cf):CnG cf 0 (iB sd cf):=by
 obtain⟨h1,h2,h3,h4,h5,h6,h7⟩:=h
 have hc:tM ⟨cf.w,cf.st,cf.it⟩:=h1
 have hf:tM rH:=by show rT 64 8 4=true;decide
 have hm:tM (MZ rH ⟨cf.w,cf.st,cf.it⟩):=by
  unfold tM rT MZ rH at *
  simp only[Bool.and_eq_true,decide_eq_true_eq] at *
  omega
 have e0:∀id,eA id (iB sd cf).tr.1=false:=fun id=>rfl
 have hI:bO 0 (iB sd cf):= {
  bb:=by omega
  cf:=⟨h2,h3,h4⟩
  sd:=hs
  nx:=by show 1<=sd+1/\sd+1<=2147483649/\((sd+1) % 2=1↔sd=0);omega
  la:=by show 0<=(0:Int)/\(0:Int)<=2147483647;omega
  sm:=⟨Nat.zero_le _,List.Pairwise.nil⟩
  st:=fun m hm=>by cases hm
  ids:=fun m hm=>by cases hm
  own:=fun b=>Nat.zero_le _
  tr:= {
   kok:=⟨List.nodup_nil,fun e he=>by cases he⟩
   nd:=List.nodup_nil
   len:=Nat.zero_le _
   w:=fun id h=>by cases h
   ky:=fun id h=>by cases h
   cl:=fun id h=>by cases h
   rk:=⟨fun _=>0,fun id h=>by cases h⟩ }
  pk:=fun e he=>by cases he
  ld:=⟨Nat.zero_le _,List.Pairwise.nil,(fun e he=>by cases he),by show -2147483647<=(512:Int)/\(512:Int)<=2147483647;omega,Int.le_refl _,Int.le_refl _⟩
  rv:=⟨rfl,by show(0:Int)<=0/\(0:Int)<=0/\(0:Int)<=512/\(512:Int)<=0+512/\(0:Int)<=0;omega⟩
  sh:=⟨by show 1<=4;omega,hf,hm,fun t ht=>by obtain rfl:t=_:=List.mem_singleton.1 ht;exact hc⟩
  pe:=by show AG 64/\AG 8/\AG 4;unfold AG;omega
  bt:=by show(0<=(0:Int)/\(0:Int)<=0)/\(0<=(0:Int)/\(0:Int)<=0)/\(0<=(0:Int)/\(0:Int)<=0)/\0<=(0:Int)/\(0:Int)<=0;omega
  sl:=by show(0<=(0:Int)/\(0:Int)<=0)/\0<=(0:Int)/\(0:Int)<=0;omega
  ou:=GK OL
  inb:=Int.le_refl _
  now:=⟨Int.le_refl _,Int.le_refl _⟩
  mv:=Int.le_refl _ }
 have hK:fY cf (iB sd cf):= {
  cfe:=rfl
  tn:=fun id h=>by cases h
  fo:=VS (f:=vK (Ds rH ⟨cf.w,cf.st,cf.it⟩)) (fun f hf=>by cases hf) ⟨rfl,(by show(5:Int)≠10;decide),(by show(5:Int)≠11;decide)⟩
  cl:=fun _=>rfl
  mo:=fun m hm=>by cases hm
  hg:=by
   have e1:O0 rH (MZ rH ⟨cf.w,cf.st,cf.it⟩):=by unfold O0 MZ;dsimp only;omega
   have e2:O0 ⟨cf.w,cf.st,cf.it⟩ (MZ rH ⟨cf.w,cf.st,cf.it⟩):=by unfold O0 MZ;dsimp only;omega
   exact⟨e1,fun t ht=>by obtain rfl:t=_:=List.mem_singleton.1 ht;exact e2⟩
  nf:=by
   have:=hm
   unfold tM rT MZ rH at this
   simp only[Bool.and_eq_true,decide_eq_true_eq] at this
   show(0:Int)<=max 8 cf.st
   omega
  kp:=by show(0:Int)+(zA []:Nat)<=0;decide
  ls:=Nat.zero_le _
  lk:=fun j=>⟨(fun h=>by cases h),(fun⟨m,h,_⟩=>by cases h)⟩ }
 exact⟨hI,hK,.inr rfl,Nat.zero_le _⟩
theorem QP (h0:Dq cf0) (h1:Dq cf1):DuG cf0 cf1 0 ⟨iB 0 cf0,iB 1 cf1,⟨[],0,0⟩,⟨[],0,0⟩,false,false⟩:=
 ⟨by omega,⟨0,Sy (.inl rfl) h0,by show(0:Int)+34 * (0:Nat)<=_;dsimp only;omega⟩,⟨0,Sy (.inr rfl) h1,by show(0:Int)+34 * (0:Nat)<=_;dsimp only;omega⟩,⟨Nat.zero_le _,Int.le_refl _,rfl,by dsimp only;omega⟩,⟨Nat.zero_le _,Int.le_refl _,rfl,by dsimp only;omega⟩⟩
theorem LG (hs:sd=0\/sd=1) (h:Dq cf) (hK:∀x a,K (.tuple #[PO x,I6 0]) (ME x a (iB sd cf)::R)):CT 24 #[I6 sd,.agg #[I6 cf.w,I6 cf.st,I6 cf.it,I6 cf.sb,I6 cf.si,I6 cf.sg,I6 cf.ev,I6 cf.wa,I6 cf.sl]] R K:=
 aA.entK (Aee hs h fun x a=>⟨_,Fx,hK x a⟩)
def nB:List (Nat×Nat):= [(2,0),(3,0),(4,1),(0,1),(1,1),(5,0),(6,0),(8,1),(9,1),(10,0),(11,1),(7,1),(12,0)]
def m7:List (Nat×Nat):= [(2,1),(0,1),(1,1),(3,0),(4,0),(6,1),(7,1),(8,0),(9,1),(5,1)]
theorem Q5 (h0:Dq cf0) (h1:Dq cf1) (hK:∀d A,K (.tuple #[PO d,I6 0]) (Af d A ⟨iB 0 cf0,iB 1 cf1,⟨[],0,0⟩,⟨[],0,0⟩,false,false⟩ R)):CT 19 #[.agg #[I6 cf0.w,I6 cf0.st,I6 cf0.it,I6 cf0.sb,I6 cf0.si,I6 cf0.sg,I6 cf0.ev,I6 cf0.wa,I6 cf0.sl],.agg #[I6 cf1.w,I6 cf1.st,I6 cf1.it,I6 cf1.sb,I6 cf1.si,I6 cf1.sg,I6 cf1.ev,I6 cf1.wa,I6 cf1.sl]] R K:=by
 have hK:∀d x0 x1 p0 p1 a0 a1,K (.tuple #[PO d,I6 0]) (Af d ⟨x0,x1,p0,p1,a0,a1⟩ ⟨iB 0 cf0,iB 1 cf1,⟨[],0,0⟩,⟨[],0,0⟩,false,false⟩ R):=fun d x0 x1 p0 p1 a0 a1=>hK d ⟨x0,x1,p0,p1,a0,a1⟩
 dsimp only[Af] at hK
 refine aH Tryz.func19 ?_
 repeat' (first|refine v81 ?_|refine dw nB ?_|refine dw m7 ?_|refine w5 ?_ ?_|((refine bh fun h=>?_) <;> try exact w6 h)|(refine aE fun hA=>?_;subst hA)|intro _)
 rename_i x
 refine jG (fun kk a C'=>∃j:Nat,j+kk=2/\dP a [(6,PO x),(14,.agg #[I6 cf0.w,I6 cf0.st,I6 cf0.it,I6 cf0.sb,I6 cf0.si,I6 cf0.sg,I6 cf0.ev,I6 cf0.wa,I6 cf0.sl,I6 cf1.w,I6 cf1.st,I6 cf1.it,I6 cf1.sb,I6 cf1.si,I6 cf1.sg,I6 cf1.ev,I6 cf1.wa,I6 cf1.sl]),(15,I6 (j:Int))]/\((j=0/\C'=pt x [.pointer none,.pointer none,.pointer none,.pointer none,.bool false,.bool false] 146::R)\/(j=1/\∃(c0 l0:Nat) (a0:Ca),C'=pt x [PO c0,.pointer none,PO l0,.pointer none,.bool false,.bool false] 146::pY l0 ⟨[],0,0⟩::ME c0 a0 (iB 0 cf0)::R)\/(j=2/\∃(c0 l0 c1 l1:Nat) (a0 a1:Ca),C'=pt x [PO c0,PO c1,PO l0,PO l1,.bool false,.bool false] 146::pY l0 ⟨[],0,0⟩::pY l1 ⟨[],0,0⟩::ME c0 a0 (iB 0 cf0)::ME c1 a1 (iB 1 cf1)::R))) 2 (cN 2 ⟨0,by omega,⟨rfl,rfl,rfl,trivial⟩,.inl ⟨rfl,rfl⟩⟩ (by omega)) ?_
 rintro kk a C' ⟨j,hj,ha,hc⟩
 rcases hc with⟨rfl,rfl⟩|⟨rfl,c0,l0,a0,rfl⟩|⟨rfl,c0,l0,c1,l1,a0,a1,rfl⟩
 ·refine iT _ ha ?_
  simp only[gH]
  repeat' (first|refine v81 ?_|refine dw nB ?_|refine dw m7 ?_|refine w5 ?_ ?_|((refine bh fun h=>?_) <;> try exact w6 h)|(refine aE fun hA=>?_;subst hA)|intro _|(show aA _ 24 _ _ _;refine CA (h:=LG (.inl rfl) h0 (fun _ _=>?_)))|(show aA _ 74 _ _ _;refine CA (h:=Pt (fun _=>?_)))|(show aN _ _ _ _ _ _ _;refine Al ?_))
  all_goals(show aV _ _ _ _;exact cN (kk - 1) ⟨1,by omega,⟨rfl,rfl,rfl,trivial⟩,.inr (.inl ⟨rfl,_,_,_,rfl⟩)⟩)
 ·refine iT _ ha ?_
  simp only[gH]
  repeat' (first|refine v81 ?_|refine dw nB ?_|refine dw m7 ?_|refine w5 ?_ ?_|((refine bh fun h=>?_) <;> try exact w6 h)|(refine aE fun hA=>?_;subst hA)|intro _|(show aA _ 24 _ _ _;refine CA (h:=LG (.inr rfl) h1 (fun _ _=>?_)))|(show aA _ 74 _ _ _;refine CA (h:=Pt (fun _=>?_)))|(show aN _ _ _ _ _ _ _;refine Al ?_))
  all_goals(show aV _ _ _ _;exact cN (kk - 1) ⟨2,by omega,⟨rfl,rfl,rfl,trivial⟩,.inr (.inr ⟨rfl,_,_,_,_,_,_,rfl⟩)⟩)
 ·refine iT _ ha ?_
  simp only[gH]
  repeat' (first|refine v81 ?_|refine dw nB ?_|refine dw m7 ?_|refine w5 ?_ ?_|((refine bh fun h=>?_) <;> try exact w6 h)|(refine aE fun hA=>?_;subst hA)|intro _|(show aN _ _ _ _ _ _ _;refine Al ?_))
  all_goals(refine aC ?_;exact aB (hK _ _ _ _ _ _ _))
theorem yQ (hG:AH cf P c) (hK:K (zV c) (ME x ad c::R)):CT 13 #[PO x] (ME x ad c::R) K:=by
 obtain⟨B,h,_⟩:=hG
 exact I5 fun M mc=>aA.entK (XH h.I ⟨_,Fx,hK⟩)
theorem u3 (hs:sd=0\/sd=1) (hK:K (.pointer (some ⟨if sd=0 then A.x0 else A.x1,0,none⟩)) (Af d A z R)):CT 23 #[PO d,I6 sd] (Af d A z R) K:=by
 dsimp only[Af] at hK ⊢
 rcases hs with rfl|rfl
 all_goals
  simp only[Int.reduceEq,if_true,if_false] at hK
  refine aH Tryz.func23 ?_
  repeat' (first|refine v41 ?_|refine w5 ?_ ?_|((refine bh fun h=>?_) <;> try exact w6 h)|(refine aE fun hA=>?_;subst hA)|intro _|(show aA _ 79 _ _ _;refine CA (h:=jD ?_)))
  all_goals(refine aC ?_;exact aB (hK))
theorem Ae3 (hs:sd=0\/sd=1) (hK:K (I6 ((if sd=0 then z.l0 else z.l1).b.length:Nat)) (Af d A z R)):CT 76 #[PO d,I6 sd] (Af d A z R) K:=by
 dsimp only[Af] at hK ⊢
 rcases hs with rfl|rfl
 all_goals
  simp only[Int.reduceEq,if_true,if_false] at hK
  refine aH Tryz.func76 ?_
  repeat' (first|refine v41 ?_|refine w5 ?_ ?_|((refine bh fun h=>?_) <;> try exact w6 h)|(refine aE fun hA=>?_;subst hA)|intro _|(show aA _ 79 _ _ _;refine CA (h:=jD ?_))|(show aA _ 161 _ _ _;refine CA (h:=Aeo ?_)))
  all_goals(refine aC ?_;exact aB (hK))
end
end Go.Proofs.YtepnmcipkangkaaGreat
