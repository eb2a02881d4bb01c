/- A part of the proof: lemmas; each with the conditions that it states. -/
import Derived.Test.YtifgibijcmppmaaGreatMbi
set_option linter.unusedVariables false
set_option linter.unusedSimpArgs false
namespace Go.Proofs.YtifgibijcmppmaaGreat
open Go Go.Proofs Go.Sl
set_option maxRecDepth 100000
set_option maxHeartbeats 40000000
attribute [local irreducible] aM fG cV bP aN aW aA dP dX aV dO pt ro eW star sep bH
attribute [local irreducible] mp Ec
section
structure Du where
 c0:Cn
 c1:Cn
 l0:Lk
 l1:Lk
 b0:Bool
 b1:Bool
structure Dd where
 x0:Nat
 x1:Nat
 p0:Nat
 p1:Nat
 a0:Ca
 a1:Ca
def duT (a:AC) (z:Du):Td:=
 if a.kd<1∨14<a.kd then KJ 2
 else if a.kd=13 then⟨0,z.c0.now+1,⟨#[]⟩,false,false⟩
 else if a.sd=0 then Bu a z.c0 z.l0 z.l1
 else if a.sd=1 then Bu a z.c1 z.l1 z.l0
 else KJ 3
def Qw (a:AC) (z:Du):Du:=
 if a.kd<1∨14<a.kd then z
 else if a.kd=13 then { z with c0:=qH z.c0,c1:=qH z.c1,b0:=false,b1:=false }
 else if a.sd=0 then { c0:=s6 a z.c0 z.l0,c1:=z.c1,l0:=mQ a z.l0,l1:=nY a z.c0 z.l1,b0:=bz 0 0 a.kd,b1:=bz 0 1 a.kd }
 else if a.sd=1 then { c0:=z.c0,c1:=s6 a z.c1 z.l1,l0:=nY a z.c1 z.l0,l1:=mQ a z.l1,b0:=bz 1 0 a.kd,b1:=bz 1 1 a.kd }
 else { z with b0:=false,b1:=false }
variable {R C:List HP} {K:Value→List HP→Prop} {d mc m0 m1:Nat} {A:Dd} {z:Du} {c:Cn} {l o:Lk} {M M0 M1:Option Addr} {B P k side:Int} {a:AC} {cf cf0 cf1:Cf} {b0 b1:Bool}
def Js (k:Int) (l:Lk):Prop:=l.b.length≤1048576∧0≤l.we∧(l.b.length:Int)+l.we=l.ca∧l.ca≤40000 * k
structure DuG (cf0 cf1:Cf) (k:Int) (z:Du):Prop where
 kk:0≤k∧k≤100
 c0:F3 cf0 (1000+2000 * k+35 * z.l0.we) z.c0
 c1:F3 cf1 (1000+2000 * k+35 * z.l1.we) z.c1
 l0:Js k z.l0
 l1:Js k z.l1
theorem Js.i (h:Js k l) (hk:0≤k∧k≤100):I5 l:=by
 obtain⟨h1,h2,h3,h4⟩:=h
 exact⟨h1,by omega,by omega,by omega,by omega⟩
theorem Js.mono {k':Int} (h:Js k l) (hk:k≤k'):Js k' l:=by
 obtain⟨h1,h2,h3,h4⟩:=h
 exact⟨h1,h2,h3,by omega⟩
theorem F3.mono {P':Int} (h:F3 cf P c) (hP:P≤P'):F3 cf P' c:=by
 obtain⟨B,h1,h2⟩:=h
 exact⟨B,h1,by omega⟩
theorem YY {s:ByteArray} (h:Js k l) (hs:s.size≤40000):Js (k+1) (AA s l):=by
 obtain⟨h1,h2,h3,h4⟩:=h
 have e:s.data.toList.length=s.size:=Array.length_toList
 unfold AA Vb
 by_cases hE:1048576 - (l.b.length:Int)<s.size
 ·rw[if_pos hE,if_neg (by decide)]
  exact⟨h1,h2,h3,by omega⟩
 ·rw[if_neg hE,if_pos rfl]
  exact⟨by rw[List.length_append];omega,h2,by rw[List.length_append];dsimp only;omega,by dsimp only;omega⟩
theorem UN {s:ByteArray} (h:Js k l) (hs:s.size≤40000):Js (k+1) (yB s l):=by
 obtain⟨h1,h2,h3,h4⟩:=h
 have e:s.data.toList.length=s.size:=Array.length_toList
 unfold yB Vb
 by_cases hE:1048576 - (l.b.length:Int)<s.size
 ·rw[if_pos hE,if_neg (by decide)]
  exact⟨h1,h2,h3,by omega⟩
 ·rw[if_neg hE,if_pos rfl]
  exact⟨by rw[List.length_append];omega,h2,by rw[List.length_append];dsimp only;omega,by dsimp only;omega⟩
theorem Y8 {n:Int} (h:Js k l):Js (k+1) (vS n l):=by
 obtain⟨h1,h2,h3,h4⟩:=h
 have hN:CM n l≤l.b.length:=by unfold CM;omega
 unfold vS
 exact⟨by rw[List.length_drop];omega,by dsimp only;omega,by rw[List.length_drop];dsimp only;omega,by dsimp only;omega⟩
theorem Rv (hI:bS B c) (hk:fR cf c) (hF:∀m∈c.l,Q9 m) (hB:B+1301≤250000000) (ho:c.dr.ov=false) (ho1:(bG (aD c)).dr.ov=false):(∀f∈uV c,cX f)∧(uV c).length≤134:=by
 have hbb:=hI.bb
 have hIb:=bF hI
 have hkb:=cI hk
 have hI1:=Ih hIb (by omega)
 have hk1:=DG hIb hkb (by omega)
 have hou:=J9 ho1
 have hti:=XP ho1
 have hI2:=GW hI1
 have hk2:=GL hk1
 have hI3:=Ra hI2
 have hk3:=Q2 hk2
 have hF2:∀m∈({ bG (aD c) with out:= [] }:Cn).l,Q9 m:=fun m hm=>hF m (by have hm:m∈(bG (aD c)).l:=hm;rw[hti] at hm;exact hm)
 have hgr:=NQ hI2 hF2
 have hbr:=As (k:=4) hI3 hk3 (by omega)
 have hfo:=hk1.fo
 refine⟨fun f hf=>?_,?_⟩
 ·unfold uV at hf
  rcases List.mem_append.1 hf with hf|hf
  ·rcases List.mem_append.1 hf with hf|hf
   ·rcases List.mem_append.1 hf with hf|hf
    ·exact(xK f hf).1
    ·exact(t6 f).1 (hfo f hf).1
   ·exact(hgr f hf).1
  ·exact(hbr f hf).1
 ·have hl0:=K4 (s:=aD c)
  have hgl:(uG { bG (aD c) with out:= [] }).length≤65:=by
   have h1:=flat_len (l:=(bG (aD c)).l)
   have h2:=hI1.sm.1
   have h3:=Gu (t:=10) (st:=0) (n:=uT (bG (aD c)).rv)
   show(Kx 10 0 (uT (bG (aD c)).rv)++(bG (aD c)).l.flatMap qS).length≤65
   rw[List.length_append];omega
  have hol:=hI1.ou.1
  have hbl:=KA (k:=4) (s:=Bp { bG (aD c) with out:= [] })
  show(fC (aD c)++(bG (aD c)).out++uG { bG (aD c) with out:= [] }++(fB 4 (Bp { bG (aD c) with out:= [] })).1).length≤134
  revert hbl hgl
  generalize ({ bG (aD c) with out:= [] }:Cn)=z2
  intro hbl hgl
  rw[List.length_append,List.length_append,List.length_append]
  omega
theorem PH (hG:CnG cf B c) (hF:∀m∈c.l,Q9 m) (hB:B+1301≤250000000):(eR c).1.length≤40000:=by
 have hIb:=bF hG.I
 have hkb:=cI hG.K
 have hk1:=DG hIb hkb (by omega)
 have hls:=hG.K.ls
 have hls1:=hk1.ls
 cases ho:c.dr.ov
 ·cases ho1:(bG (aD c)).dr.ov
  ·obtain⟨h1,h2⟩:=Rv hG.I hG.K hF hB ho ho1
   rw[UI ho ho1 h1]
   have:=MH h1
   show(rW (uV c)).length≤40000
   omega
  ·have e:eR c=((bG (aD c)).last.data.toList,{ bG (aD c) with last:=⟨#[]⟩ }):=by unfold eR;rw[if_neg (by rw[ho];decide),if_pos ho1]
   rw[e]
   have e2:(bG (aD c)).last.data.toList.length=(bG (aD c)).last.size:=Array.length_toList
   show(bG (aD c)).last.data.toList.length≤40000
   omega
 ·have e:eR c=(c.last.data.toList,{ aD c with last:=⟨#[]⟩ }):=by unfold eR;rw[if_pos ho]
  rw[e]
  have e2:c.last.data.toList.length=c.last.size:=Array.length_toList
  show c.last.data.toList.length≤40000
  omega
end
section
variable {R C:List HP} {K:Value→List HP→Prop} {d mc m0 m1:Nat} {A:Dd} {z:Du} {c:Cn} {l o:Lk} {M M0 M1:Option Addr} {B P k side:Int} {a:AC} {cf cf0 cf1:Cf} {b0 b1:Bool}
theorem Aix:pE (XF a c)=pE c:=by
 unfold XF
 split
 ·unfold rU;split <;> rfl
 ·split
  ·unfold qK;split
   ·rfl
   ·split <;> rfl
  ·split
   ·unfold BQ;split
    ·rfl
    ·split <;> rfl
   ·split
    ·unfold vQ;split
     ·rfl
     ·split
      ·split
       ·rfl
       ·exact AM
      ·rfl
    ·split
     ·unfold vO;split
      ·rfl
      ·split
       ·split
        ·rfl
        ·exact AM
       ·rfl
     ·split
      ·unfold BJ;split
       ·rfl
       ·split <;> rfl
      ·split
       ·unfold vR;split <;> rfl
       ·unfold qQ;split
        ·rfl
        ·split <;> rfl
theorem Uc:pE (bG c)=pE c:=by
 unfold bG
 split
 ·exact jF
 ·split
  ·exact jF
  ·rfl
theorem Aee:pE (p8 c).2=pE c:=by
 unfold p8
 split
 ·rfl
 ·split
  ·rfl
  ·split
   ·rfl
   ·exact AM
theorem Ob:∀ {k:Nat} {c:Cn},pE (fB k c).2=pE c
 |0,_=>rfl
 |k+1,c=>by
  have h:=Aee (c:=c)
  rw[Eg]
  split
  ·rename_i z hz
   rw[hz] at h;exact h
  ·rename_i f z hz
   rw[hz] at h
   exact(Ob (k:=k) (c:=z)).trans h
theorem UO:pE (eR c).2=pE c:=by
 unfold eR
 split
 ·rfl
 ·split
  ·exact(show pE (bG (aD c))=pE c from Uc)
  ·exact(Ob (k:=4) (c:=Bp { bG (aD c) with out:= [] })).trans (show pE (bG (aD c))=pE c from Uc)
theorem Abc (h:BP c):BP (eR c).2:=MY h UO fun ho=>by
 unfold eR
 rw[if_pos ho];exact ho
theorem Aig {c':Cn} (h:pE c'=pE c):c'.inb=c.inb:=congrArg Prod.snd h
theorem EN {c':Cn} {D:Int} (h:F3 cf P c) (hP:P≤240000000) (hD:D≤2000) (hi:pE c'=pE c) (hg:∀B,B+2000≤250000000→CnG cf B c→CnG cf (B+D) c'):F3 cf (P+2000) c':=by
 obtain⟨B,h1,h2⟩:=h
 exact⟨B+D,hg B (by omega) h1,by rw[Aig hi];omega⟩
theorem Aha (h:F3 cf P c) (hP:P≤200000000) (hd:a.s.size≤599) (hk:a.kd≠12):F3 cf (P+2000) (s6 a c l):=by
 unfold s6
 split
 ·exact EN (D:=0) h (by omega) (by decide) (by unfold Jp;split <;> rfl) fun B hB hG=>⟨by rw[Int.add_zero];exact Ahk hG.I,Ajc hG.K,Ai5 hG.E⟩
 ·split
  ·exact EN (D:=0) h (by omega) (by decide) (by unfold BW;split <;> rfl) fun B hB hG=>⟨by rw[Int.add_zero];exact Zy hG.I,YQ hG.K,Y4 hG.E⟩
  ·split
   ·exact EN (D:=1301) h (by omega) (by decide) UO fun B hB hG=>⟨(X4 hG.I hG.K (by omega)).1,(X4 hG.I hG.K (by omega)).2,Abc hG.E⟩
   ·split
    ·exact EN (D:=0) h (by omega) (by decide) rfl fun B hB hG=>by rw[Int.add_zero];exact hG
    ·exact EN (D:=600) h (by omega) (by decide) Aix fun B hB hG=>⟨caI hG.I hd (by omega),caK hG.I hG.K,caE hG.E⟩
theorem XL (h:F3 cf P c) (hP:P≤200000000):F3 cf (P+2000) (qH c):=
 EN (D:=1) h (by omega) (by decide) rfl fun B hB hG=>⟨ZW hG.I (by omega),Aa6 hG.K,X3 hG.E⟩
end
section
variable {R C:List HP} {K:Value→List HP→Prop} {d mc m0 m1:Nat} {A:Dd} {z:Du} {c:Cn} {l o:Lk} {M M0 M1:Option Addr} {B P k side:Int} {a:AC} {cf cf0 cf1:Cf} {b0 b1:Bool}
theorem Afo (hG:DuG cf0 cf1 k z) (hk:k<100) (h0:∀m∈z.c0.l,Q9 m) (h1:∀m∈z.c1.l,Q9 m) (hd:a.s.size≤599):DuG cf0 cf1 (k+1) (Qw a z):=by
 have hkk:=hG.kk
 have hl0:=hG.l0
 have hl1:=hG.l1
 obtain⟨q01,q02,q03,q04⟩:=id hl0
 obtain⟨q11,q12,q13,q14⟩:=id hl1
 have p0:=hG.c0
 have p1:=hG.c1
 have hsl0:(⟨(eR z.c0).1.toArray⟩:ByteArray).size≤40000:=by
  obtain⟨B,hG0,hB0⟩:=p0
  have:=PH hG0 h0 (by omega)
  simpa[ByteArray.size] using this
 have hsl1:(⟨(eR z.c1).1.toArray⟩:ByteArray).size≤40000:=by
  obtain⟨B,hG0,hB0⟩:=p1
  have:=PH hG0 h1 (by omega)
  simpa[ByteArray.size] using this
 unfold Qw
 split
 ·exact⟨by omega,p0.mono (by(try dsimp only);omega),p1.mono (by(try dsimp only);omega),hl0.mono (by(try dsimp only);omega),hl1.mono (by(try dsimp only);omega)⟩
 ·split
  ·exact⟨by omega,(XL p0 (by omega)).mono (by(try dsimp only);omega),(XL p1 (by omega)).mono (by(try dsimp only);omega),hl0.mono (by(try dsimp only);omega),hl1.mono (by(try dsimp only);omega)⟩
  ·split
   ·by_cases h12:a.kd=12
    ·have e1:s6 a z.c0 z.l0=lB (z.l0.b.take (CM a.n z.l0)) z.c0:=by unfold s6;simp only[h12,Int.reduceEq,if_true,if_false]
     have e2:mQ a z.l0=vS a.n z.l0:=by unfold mQ;simp only[h12,if_true]
     have e3:nY a z.c0 z.l1=z.l1:=by unfold nY;simp only[h12,Int.reduceEq,if_false]
     have hN:(z.l0.b.take (CM a.n z.l0)).length=CM a.n z.l0:=by
      have:CM a.n z.l0≤z.l0.b.length:=by unfold CM;omega
      rw[List.length_take];omega
     have hN2:CM a.n z.l0≤z.l0.b.length:=by unfold CM;omega
     refine⟨by omega,?_,p1.mono (by rw[e3];dsimp only;omega),?_,?_⟩
     ·show F3 cf0 _ (s6 a z.c0 z.l0)
      rw[e1]
      refine(Yy p0 (by rw[hN];omega)).mono ?_
      rw[hN]
      show _≤1000+2000 * (k+1)+35 * (mQ a z.l0).we
      rw[e2]
      show _≤1000+2000 * (k+1)+35 * (z.l0.we+(CM a.n z.l0:Nat))
      omega
     ·show Js (k+1) (mQ a z.l0)
      rw[e2];exact Y8 hl0
     ·show Js (k+1) (nY a z.c0 z.l1)
      rw[e3];exact hl1.mono (by(try dsimp only);omega)
    ·have e2:(mQ a z.l0).we=z.l0.we∧Js (k+1) (mQ a z.l0):=by
      unfold mQ
      rw[if_neg h12]
      split
      ·refine⟨?_,UN hl0 (by omega)⟩
       unfold yB;split <;> rfl
      ·exact⟨rfl,hl0.mono (by(try dsimp only);omega)⟩
     have e3:(nY a z.c0 z.l1).we=z.l1.we∧Js (k+1) (nY a z.c0 z.l1):=by
      unfold nY
      split
      ·refine⟨?_,YY hl1 hsl0⟩
       unfold AA;split <;> rfl
      ·exact⟨rfl,hl1.mono (by(try dsimp only);omega)⟩
     refine⟨by omega,(Aha p0 (by omega) hd h12).mono ?_,p1.mono ?_,e2.2,e3.2⟩
     ·show _≤1000+2000 * (k+1)+35 * (mQ a z.l0).we
      omega
     ·show _≤1000+2000 * (k+1)+35 * (nY a z.c0 z.l1).we
      omega
   ·split
    ·by_cases h12:a.kd=12
     ·have e1:s6 a z.c1 z.l1=lB (z.l1.b.take (CM a.n z.l1)) z.c1:=by unfold s6;simp only[h12,Int.reduceEq,if_true,if_false]
      have e2:mQ a z.l1=vS a.n z.l1:=by unfold mQ;simp only[h12,if_true]
      have e3:nY a z.c1 z.l0=z.l0:=by unfold nY;simp only[h12,Int.reduceEq,if_false]
      have hN:(z.l1.b.take (CM a.n z.l1)).length=CM a.n z.l1:=by
       have:CM a.n z.l1≤z.l1.b.length:=by unfold CM;omega
       rw[List.length_take];omega
      have hN2:CM a.n z.l1≤z.l1.b.length:=by unfold CM;omega
      refine⟨by omega,p0.mono (by rw[e3];dsimp only;omega),?_,?_,?_⟩
      ·show F3 cf1 _ (s6 a z.c1 z.l1)
       rw[e1]
       refine(Yy p1 (by rw[hN];omega)).mono ?_
       rw[hN]
       show _≤1000+2000 * (k+1)+35 * (mQ a z.l1).we
       rw[e2]
       show _≤1000+2000 * (k+1)+35 * (z.l1.we+(CM a.n z.l1:Nat))
       omega
      ·show Js (k+1) (nY a z.c1 z.l0)
       rw[e3];exact hl0.mono (by(try dsimp only);omega)
      ·show Js (k+1) (mQ a z.l1)
       rw[e2];exact Y8 hl1
     ·have e2:(mQ a z.l1).we=z.l1.we∧Js (k+1) (mQ a z.l1):=by
       unfold mQ
       rw[if_neg h12]
       split
       ·refine⟨?_,UN hl1 (by omega)⟩
        unfold yB;split <;> rfl
       ·exact⟨rfl,hl1.mono (by(try dsimp only);omega)⟩
      have e3:(nY a z.c1 z.l0).we=z.l0.we∧Js (k+1) (nY a z.c1 z.l0):=by
       unfold nY
       split
       ·refine⟨?_,YY hl0 hsl1⟩
        unfold AA;split <;> rfl
       ·exact⟨rfl,hl0.mono (by(try dsimp only);omega)⟩
      refine⟨by omega,p0.mono ?_,(Aha p1 (by omega) hd h12).mono ?_,e3.2,e2.2⟩
      ·show _≤1000+2000 * (k+1)+35 * (nY a z.c1 z.l0).we
       omega
      ·show _≤1000+2000 * (k+1)+35 * (mQ a z.l1).we
       omega
    ·exact⟨by omega,p0.mono (by dsimp only;omega),p1.mono (by dsimp only;omega),hl0.mono (by(try dsimp only);omega),hl1.mono (by(try dsimp only);omega)⟩
def Hb (x:Nat) (a:Ca) (s:Cn):HP:=eW fun M=>eW fun mc=>star (bY x a s M mc [])
theorem HF {f:FuncId} {args:Array Value} {x:Nat} {a:Ca} {s:Cn} (h:∀M mc,aA Tryz.prog f args (bY x a s M mc R) K):aA Tryz.prog f args (Hb x a s::R) K:=aA.ex fun M=>aA.ex fun mc=>aA.star (h M mc)
theorem DF {x:Nat} {a:Ca} {s:Cn}:aG (bY x a s M mc R) (Hb x a s::R):=aG.ex M (aG.ex mc (aG.mkstar (l:=bY x a s M mc [])))
theorem E2 {f:FuncId} {args:Array Value} {C C':List HP} (hp:C.Perm C') (h:aA Tryz.prog f args C' K):aA Tryz.prog f args C K:=aA.ent (fun _ hs=>hs.perm hp) h
def uO (d:Nat) (A:Dd) (z:Du) (R:List HP):List HP:=
 pt d [.pointer (some ⟨A.x0,0,none⟩),.pointer (some ⟨A.x1,0,none⟩),.pointer (some ⟨A.p0,0,none⟩),.pointer (some ⟨A.p1,0,none⟩),.bool z.b0,.bool z.b1] 196::mS A.p0 z.l0::mS A.p1 z.l1::Hb A.x0 A.a0 z.c0::Hb A.x1 A.a1 z.c1::R
theorem Nu {x:Nat} {ad:Ca} {s:Cn} (hb:0≤s.now∧s.now≤1000000000) (hK:K (.int .i64 (s.now+1)) (Hb x ad (qH s)::R)):aA Tryz.prog 102 #[.pointer (some ⟨x,0,none⟩)] (Hb x ad s::R) K:=
 HF fun M mc=>aA.entK (VT hb ⟨_,DF,hK⟩)
theorem WM (h0:0≤z.c0.now∧z.c0.now≤1000000000) (h1:0≤z.c1.now∧z.c1.now≤1000000000) (hK:K (p5 ⟨0,z.c0.now+1,⟨#[]⟩,false,false⟩) (uO d A { z with c0:=qH z.c0,c1:=qH z.c1 } R)):aA Tryz.prog 124 #[.pointer (some ⟨d,0,none⟩)] (uO d A z R) K:=by
 dsimp only[uO,p5] at hK ⊢
 refine aH Tryz.func124 ?_
 repeat' (first|refine JC ?_|refine wr ?_|refine w5 ?_ ?_|((refine bh fun h=>?_) <;> try exact w6 h)|(refine aE fun hA=>?_;subst hA)|intro _|(show aA _ 102 _ _ _;first|refine CA (h:=Nu (x:=A.x0) (ad:=A.a0) (s:=z.c0) h0 ?_)|refine CA (h:=Nu (x:=A.x1) (ad:=A.a1) (s:=z.c1) h1 ?_)))
 all_goals(refine aC ?_;exact aB (hK))
def oY:List (Nat×Nat):= [(7,1),(0,1),(1,1),(2,1),(3,1),(4,1),(5,1),(6,1),(8,1)]
def oQ:List (Nat×Nat):= [(0,0),(1,0),(2,0),(3,0),(4,0),(5,0),(6,0),(7,0),(8,0),(9,1)]
def pL:List (Nat×Nat):= [(0,0),(1,0),(2,0),(3,0),(4,0),(5,0),(6,0),(7,0),(8,0),(9,1),(10,1),(11,1)]
theorem Ab8 (h:a.kd<1∨14<a.kd) (hK:K (p5 (KJ 2)) (uO d A z R)):aA Tryz.prog 33 #[.pointer (some ⟨d,0,none⟩),.agg #[.int .i64 a.kd,.int .i64 a.sd,.int .i64 a.id,.int .i64 a.n,.int .i64 a.cd,.string a.s,.int .i64 a.on,.int .i64 a.ww,.bool a.xx,.int .i64 a.xw,.int .i64 a.xs,.int .i64 a.xi]] (uO d A z R) K:=by
 dsimp only[uO,p5,KJ] at hK ⊢
 refine aH Tryz.func33 ?_
 repeat' (first|refine Nk ?_|refine dw oY ?_|refine dw oQ ?_|refine dw pL ?_|refine wr ?_|refine w5 ?_ ?_|((refine bh fun h=>?_) <;> try exact w6 h)|(refine aE fun hA=>?_;subst hA)|intro _|(show aA _ 123 _ _ _;refine CA (h:=rC ?_)))
 all_goals(refine aC ?_;exact aB (hK))
theorem XW (h:a.kd=13) (h0:0≤z.c0.now∧z.c0.now≤1000000000) (h1:0≤z.c1.now∧z.c1.now≤1000000000) (hK:K (p5 ⟨0,z.c0.now+1,⟨#[]⟩,false,false⟩) (uO d A { z with c0:=qH z.c0,c1:=qH z.c1,b0:=false,b1:=false } R)):aA Tryz.prog 33 #[.pointer (some ⟨d,0,none⟩),.agg #[.int .i64 a.kd,.int .i64 a.sd,.int .i64 a.id,.int .i64 a.n,.int .i64 a.cd,.string a.s,.int .i64 a.on,.int .i64 a.ww,.bool a.xx,.int .i64 a.xw,.int .i64 a.xs,.int .i64 a.xi]] (uO d A z R) K:=by
 dsimp only[uO,p5] at hK ⊢
 refine aH Tryz.func33 ?_
 repeat' (first|refine Nk ?_|refine dw oY ?_|refine dw oQ ?_|refine dw pL ?_|refine wr ?_|refine w5 ?_ ?_|((refine bh fun h=>?_) <;> try exact w6 h)|(refine aE fun hA=>?_;subst hA)|intro _|(show aA _ 124 _ _ _;refine CA (h:=WM (d:=d) (A:=A) (z:= { z with b0:=false,b1:=false }) h0 h1 ?_);dsimp only[p5,uO]))
 all_goals(refine aC ?_;exact aB (hK))
theorem XK (h:¬(a.kd<1∨14<a.kd)) (h13:a.kd≠13) (h0:a.sd≠0) (h1:a.sd≠1) (hK:K (p5 (KJ 3)) (uO d A { z with b0:=false,b1:=false } R)):aA Tryz.prog 33 #[.pointer (some ⟨d,0,none⟩),.agg #[.int .i64 a.kd,.int .i64 a.sd,.int .i64 a.id,.int .i64 a.n,.int .i64 a.cd,.string a.s,.int .i64 a.on,.int .i64 a.ww,.bool a.xx,.int .i64 a.xw,.int .i64 a.xs,.int .i64 a.xi]] (uO d A z R) K:=by
 dsimp only[uO,p5,KJ] at hK ⊢
 have hr:decide (a.sd=0∨a.sd=1)=false:=by simp[h0,h1]
 refine aH Tryz.func33 ?_
 repeat' (first|refine Nk ?_|refine dw oY ?_|refine dw oQ ?_|refine dw pL ?_|refine wr ?_|refine w5 ?_ ?_|((refine bh fun h=>?_) <;> try exact w6 h)|(refine aE fun hA=>?_;subst hA)|intro _|(show aA _ 123 _ _ _;refine CA (h:=rC ?_))|(show aA _ 125 _ _ _;refine CA (h:=iN ?_);rw[hr]))
 all_goals(refine aC ?_;exact aB (hK))
end
section
variable {R C:List HP} {K:Value→List HP→Prop} {d x y pl po mc m0 m1:Nat} {ad:Ca} {A:Dd} {z:Du} {c:Cn} {l o:Lk} {M M0 M1:Option Addr} {B P k side:Int} {a:AC} {cf cf0 cf1:Cf} {b0 b1:Bool}
theorem O9 {x:Nat} {a:Ca} {s:Cn} {H:Hp} (hs:bV (Hb x a s::R) H):∀m∈s.l,Q9 m:=by
 obtain⟨M,hs⟩:=hs.ex
 obtain⟨mc,hs⟩:=hs.ex
 have h2:bV (bY x a s M mc R) H:=bV.star hs
 exact PI h2.tail.tail
theorem Pt (hs:side=0∨side=1) (ha:a.sd=side) (hkd:¬(a.kd<1∨14<a.kd)) (h13:a.kd≠13) (hP:F3 cf P c) (hB:P≤200000000) (hl:I5 l) (ho:I5 o) (hz:a.s.size≤599) (hK:K (p5 (Bu a c l o)) (pt d (yX side x y pl po (bz side 0 a.kd) (bz side 1 a.kd)) 196::mS pl (mQ a l)::mS po (nY a c o)::Hb x ad (s6 a c l)::R)):aA Tryz.prog 33 #[.pointer (some ⟨d,0,none⟩),.agg #[.int .i64 a.kd,.int .i64 a.sd,.int .i64 a.id,.int .i64 a.n,.int .i64 a.cd,.string a.s,.int .i64 a.on,.int .i64 a.ww,.bool a.xx,.int .i64 a.xw,.int .i64 a.xs,.int .i64 a.xi]] (pt d (yX side x y pl po b0 b1) 196::mS pl l::mS po o::Hb x ad c::R) K:=by
 have Jd:∀ {X Y Z W:HP},(X::Y::Z::W::R).Perm (W::X::Y::Z::R):=fun {X Y Z W}=>by
  have:(X::Y::Z::W::R)= [X,Y,Z]++W::R:=rfl
  rw[this]
  exact List.perm_middle
 refine E2 Jd (HF fun M mc=>?_)
 have hp2:∀ {X Y Z:HP} {s:Cn} {N:Option Addr} {n:Nat},(bY x ad s N n (X::Y::Z::R)).Perm (X::Y::Z::bY x ad s N n R):=fun {X Y Z s N n}=>by
  have e1:bY x ad s N n (X::Y::Z::R)=bY x ad s N n []++([X,Y,Z]++R):=rfl
  have e2:(X::Y::Z::bY x ad s N n R)= [X,Y,Z]++(bY x ad s N n []++R):=rfl
  rw[e1,e2,← List.append_assoc,← List.append_assoc]
  exact List.Perm.append_right R List.perm_append_comm
 refine E2 hp2 ?_
 have hK2:∀N n,∃C',aG (pt d (yX side x y pl po (bz side 0 a.kd) (bz side 1 a.kd)) 196::mS pl (mQ a l)::mS po (nY a c o)::bY x ad (s6 a c l) N n R) C'∧K (p5 (Bu a c l o)) C':=fun N n=>⟨_,aG.cons (aG.cons (aG.cons DF)),hK⟩
 clear hK
 obtain⟨kd,sd,id,n,cd,z,on,ww,xx,xw,xs,xi⟩:=a
 dsimp only at ha hkd h13 hz hK2 ⊢
 subst ha
 by_cases h9:kd=9
 ·subst h9
  exact aA.entK (VO (kd:=9) hs hP hB hl ho hz hK2)
 by_cases h10:kd=10
 ·subst h10
  exact aA.entK (Q8 (kd:=9) hs hP hB hl ho hz hK2)
 by_cases h11:kd=11
 ·subst h11
  exact aA.entK (RV (kd:=9) hs hP hB hl ho hz hK2)
 by_cases h12:kd=12
 ·subst h12
  exact aA.entK (Rr (kd:=9) hs hP hB hl ho hz hK2)
 by_cases h14:kd=14
 ·subst h14
  exact aA.entK (Rj (kd:=9) hs hP hB hl ho hz hK2)
 exact aA.entK (Xt hs (by omega) hP hB hl ho hz hK2)
theorem kT (hG:DuG cf0 cf1 k z) (hk:k<100) (hd:a.s.size≤599) (hK:DuG cf0 cf1 (k+1) (Qw a z)→K (p5 (duT a z)) (uO d A (Qw a z) R)):aA Tryz.prog 33 #[.pointer (some ⟨d,0,none⟩),.agg #[.int .i64 a.kd,.int .i64 a.sd,.int .i64 a.id,.int .i64 a.n,.int .i64 a.cd,.string a.s,.int .i64 a.on,.int .i64 a.ww,.bool a.xx,.int .i64 a.xw,.int .i64 a.xs,.int .i64 a.xi]] (uO d A z R) K:=by
 refine aA.fact (p:=(∀m∈z.c0.l,Q9 m)∧∀m∈z.c1.l,Q9 m) (fun H hs=>⟨O9 hs.tail.tail.tail,O9 hs.tail.tail.tail.tail⟩) fun hF=>?_
 have hK:=hK (Afo hG hk hF.1 hF.2 hd)
 have hkk:=hG.kk
 obtain⟨q01,q02,q03,q04⟩:=hG.l0
 obtain⟨q11,q12,q13,q14⟩:=hG.l1
 have n0:0≤z.c0.now∧z.c0.now≤1000000000:=by
  obtain⟨B,hg,hb⟩:=hG.c0
  have:=hg.I.now;have:=hg.I.bb;omega
 have n1:0≤z.c1.now∧z.c1.now≤1000000000:=by
  obtain⟨B,hg,hb⟩:=hG.c1
  have:=hg.I.now;have:=hg.I.bb;omega
 unfold duT Qw at hK
 by_cases hr:a.kd<1∨14<a.kd
 ·rw[if_pos hr,if_pos hr] at hK
  exact Ab8 hr hK
 rw[if_neg hr,if_neg hr] at hK
 by_cases h13:a.kd=13
 ·rw[if_pos h13,if_pos h13] at hK
  exact XW h13 n0 n1 hK
 rw[if_neg h13,if_neg h13] at hK
 by_cases h0:a.sd=0
 ·rw[if_pos h0,if_pos h0] at hK
  exact Pt (side:=0) (R:=Hb A.x1 A.a1 z.c1::R) (.inl rfl) h0 hr h13 hG.c0 (by omega) (hG.l0.i hkk) (hG.l1.i hkk) hd hK
 rw[if_neg h0,if_neg h0] at hK
 by_cases h1:a.sd=1
 ·rw[if_pos h1,if_pos h1] at hK
  have hp:∀ {X Y Z U W:HP},(X::Y::Z::U::W::R).Perm (X::Z::Y::W::U::R):=fun {X Y Z U W}=>(List.Perm.cons X ((List.Perm.swap Z Y _).trans (List.Perm.cons Z (List.Perm.cons Y (List.Perm.swap W U R)))))
  refine E2 hp (aA.entK ?_)
  exact Pt (side:=1) (x:=A.x1) (y:=A.x0) (pl:=A.p1) (po:=A.p0) (ad:=A.a1) (c:=z.c1) (R:=Hb A.x0 A.a0 z.c0::R) (.inr rfl) h1 hr h13 hG.c1 (by omega) (hG.l1.i hkk) (hG.l0.i hkk) hd ⟨_,(fun _ hs=>hs.perm hp.symm),hK⟩
 rw[if_neg h1,if_neg h1] at hK
 exact XK hr h13 h0 h1 hK
end
section
variable {R C:List HP} {K:Value→List HP→Prop} {d x y pl po mc m0 m1:Nat} {ad:Ca} {A:Dd} {z:Du} {c:Cn} {l o:Lk} {M M0 M1:Option Addr} {B P k sd:Int} {a:AC} {cf cf0 cf1:Cf} {b0 b1:Bool}
theorem OL (hs:sd=0∨sd=1) (h:HW cf):CnG cf 0 (j8 sd cf):=by
 obtain⟨h1,h2,h3,h4,h5,h6,h7⟩:=h
 have hc:vT ⟨cf.w,cf.st,cf.it⟩:=h1
 have hf:vT rP:=by show rY 64 8 4=true;decide
 have hm:vT (LL rP ⟨cf.w,cf.st,cf.it⟩):=by
  unfold vT rY LL rP at *
  simp only[Bool.and_eq_true,decide_eq_true_eq] at *
  omega
 have e0:∀id,dR id (j8 sd cf).tr.1=false:=fun id=>rfl
 have hI:bS 0 (j8 sd cf):= {
  bb:=by omega
  cf:=⟨h2,h3,h4⟩
  sd:=hs
  nx:=by show 1≤sd+1∧sd+1≤2147483649∧((sd+1) % 2=1↔sd=0);omega
  la:=by show 0≤(0:Int)∧(0:Int)≤2147483647;omega
  sm:=⟨Nat.zero_le _,List.Pairwise.nil⟩
  st:=fun m hm=>by cases hm
  ids:=fun m hm=>by cases hm
  own:=fun b=>Nat.zero_le _
  tr:= {
   kok:=⟨List.nodup_nil,fun e he=>by cases he⟩
   nd:=List.nodup_nil
   len:=Nat.zero_le _
   w:=fun id h=>by cases h
   ky:=fun id h=>by cases h
   cl:=fun id h=>by cases h
   rk:=⟨fun _=>0,fun id h=>by cases h⟩ }
  pk:=fun e he=>by cases he
  ld:=⟨Nat.zero_le _,List.Pairwise.nil,(fun e he=>by cases he),by show -2147483647≤(512:Int)∧(512:Int)≤2147483647;omega,Int.le_refl _,Int.le_refl _⟩
  rv:=⟨rfl,by show(0:Int)≤0∧(0:Int)≤0∧(0:Int)≤512∧(512:Int)≤0+512∧(0:Int)≤0;omega⟩
  sh:=⟨by show 1≤4;omega,hf,hm,fun t ht=>by obtain rfl:t=_:=List.mem_singleton.1 ht;exact hc⟩
  pe:=by show yT 64∧yT 8∧yT 4;unfold yT;omega
  bt:=by show(0≤(0:Int)∧(0:Int)≤0)∧(0≤(0:Int)∧(0:Int)≤0)∧(0≤(0:Int)∧(0:Int)≤0)∧0≤(0:Int)∧(0:Int)≤0;omega
  sl:=by show(0≤(0:Int)∧(0:Int)≤0)∧0≤(0:Int)∧(0:Int)≤0;omega
  ou:=Ez LN
  inb:=Int.le_refl _
  now:=⟨Int.le_refl _,Int.le_refl _⟩
  mv:=Int.le_refl _ }
 have hK:fR cf (j8 sd cf):= {
  cfe:=rfl
  tn:=fun id h=>by cases h
  fo:=UC (f:=KM (LG rP ⟨cf.w,cf.st,cf.it⟩)) (fun f hf=>by cases hf) ⟨rfl,(by show(5:Int)≠10;decide),(by show(5:Int)≠11;decide)⟩
  cl:=fun _=>rfl
  mo:=fun m hm=>by cases hm
  hg:=by
   have e1:Nj rP (LL rP ⟨cf.w,cf.st,cf.it⟩):=by unfold Nj LL;dsimp only;omega
   have e2:Nj ⟨cf.w,cf.st,cf.it⟩ (LL rP ⟨cf.w,cf.st,cf.it⟩):=by unfold Nj LL;dsimp only;omega
   exact⟨e1,fun t ht=>by obtain rfl:t=_:=List.mem_singleton.1 ht;exact e2⟩
  nf:=by
   have:=hm
   unfold vT rY LL rP at this
   simp only[Bool.and_eq_true,decide_eq_true_eq] at this
   show(0:Int)≤max 8 cf.st
   omega
  kp:=by show(0:Int)+(xI []:Nat)≤0;decide
  ls:=Nat.zero_le _
  lk:=fun j=>⟨(fun h=>by cases h),(fun⟨m,h,_⟩=>by cases h)⟩ }
 exact⟨hI,hK,.inr rfl,Nat.zero_le _⟩
theorem Hh (h0:HW cf0) (h1:HW cf1):DuG cf0 cf1 0 ⟨j8 0 cf0,j8 1 cf1,⟨[],0,0⟩,⟨[],0,0⟩,false,false⟩:=
 ⟨by omega,⟨0,OL (.inl rfl) h0,by show(0:Int)+34 * (0:Nat)≤_;dsimp only;omega⟩,⟨0,OL (.inr rfl) h1,by show(0:Int)+34 * (0:Nat)≤_;dsimp only;omega⟩,⟨Nat.zero_le _,Int.le_refl _,rfl,by dsimp only;omega⟩,⟨Nat.zero_le _,Int.le_refl _,rfl,by dsimp only;omega⟩⟩
theorem Kj (hs:sd=0∨sd=1) (h:HW cf) (hK:∀x a,K (.tuple #[.pointer (some ⟨x,0,none⟩),.int .i64 0]) (Hb x a (j8 sd cf)::R)):aA Tryz.prog 9 #[.int .i64 sd,.agg #[.int .i64 cf.w,.int .i64 cf.st,.int .i64 cf.it,.int .i64 cf.sb,.int .i64 cf.si,.int .i64 cf.sg,.int .i64 cf.ev,.int .i64 cf.wa,.int .i64 cf.sl]] R K:=
 aA.entK (X9 hs h fun x a=>⟨_,DF,hK x a⟩)
def lU:List (Nat×Nat):= [(2,0),(3,0),(4,1),(0,1),(1,1),(5,0),(6,0),(8,1),(9,1),(10,0),(11,1),(7,1),(12,0)]
def l5:List (Nat×Nat):= [(2,1),(0,1),(1,1),(3,0),(4,0),(6,1),(7,1),(8,0),(9,1),(5,1)]
theorem GG (h0:HW cf0) (h1:HW cf1) (hK:∀d A,K (.tuple #[.pointer (some ⟨d,0,none⟩),.int .i64 0]) (uO d A ⟨j8 0 cf0,j8 1 cf1,⟨[],0,0⟩,⟨[],0,0⟩,false,false⟩ R)):aA Tryz.prog 29 #[.agg #[.int .i64 cf0.w,.int .i64 cf0.st,.int .i64 cf0.it,.int .i64 cf0.sb,.int .i64 cf0.si,.int .i64 cf0.sg,.int .i64 cf0.ev,.int .i64 cf0.wa,.int .i64 cf0.sl],.agg #[.int .i64 cf1.w,.int .i64 cf1.st,.int .i64 cf1.it,.int .i64 cf1.sb,.int .i64 cf1.si,.int .i64 cf1.sg,.int .i64 cf1.ev,.int .i64 cf1.wa,.int .i64 cf1.sl]] R K:=by
 have hK:∀d x0 x1 p0 p1 a0 a1,K (.tuple #[.pointer (some ⟨d,0,none⟩),.int .i64 0]) (uO d ⟨x0,x1,p0,p1,a0,a1⟩ ⟨j8 0 cf0,j8 1 cf1,⟨[],0,0⟩,⟨[],0,0⟩,false,false⟩ R):=fun d x0 x1 p0 p1 a0 a1=>hK d ⟨x0,x1,p0,p1,a0,a1⟩
 dsimp only[uO] at hK
 refine aH Tryz.func29 ?_
 repeat' (first|refine v81 ?_|refine dw lU ?_|refine dw l5 ?_|refine wr ?_|refine w5 ?_ ?_|((refine bh fun h=>?_) <;> try exact w6 h)|(refine aE fun hA=>?_;subst hA)|intro _)
 rename_i x
 refine iL (fun kk a C'=>∃j:Nat,j+kk=2∧dC a [(6,.pointer (some ⟨x,0,none⟩)),(14,.agg #[.int .i64 cf0.w,.int .i64 cf0.st,.int .i64 cf0.it,.int .i64 cf0.sb,.int .i64 cf0.si,.int .i64 cf0.sg,.int .i64 cf0.ev,.int .i64 cf0.wa,.int .i64 cf0.sl,.int .i64 cf1.w,.int .i64 cf1.st,.int .i64 cf1.it,.int .i64 cf1.sb,.int .i64 cf1.si,.int .i64 cf1.sg,.int .i64 cf1.ev,.int .i64 cf1.wa,.int .i64 cf1.sl]),(15,.int .i64 (j:Int))]∧((j=0∧C'=pt x [.pointer none,.pointer none,.pointer none,.pointer none,.bool false,.bool false] 196::R)∨(j=1∧∃(c0 l0:Nat) (a0:Ca),C'=pt x [.pointer (some ⟨c0,0,none⟩),.pointer none,.pointer (some ⟨l0,0,none⟩),.pointer none,.bool false,.bool false] 196::mS l0 ⟨[],0,0⟩::Hb c0 a0 (j8 0 cf0)::R)∨(j=2∧∃(c0 l0 c1 l1:Nat) (a0 a1:Ca),C'=pt x [.pointer (some ⟨c0,0,none⟩),.pointer (some ⟨c1,0,none⟩),.pointer (some ⟨l0,0,none⟩),.pointer (some ⟨l1,0,none⟩),.bool false,.bool false] 196::mS l0 ⟨[],0,0⟩::mS l1 ⟨[],0,0⟩::Hb c0 a0 (j8 0 cf0)::Hb c1 a1 (j8 1 cf1)::R))) 2 (cC 2 ⟨0,by omega,⟨rfl,rfl,rfl,trivial⟩,.inl ⟨rfl,rfl⟩⟩ (by omega)) ?_
 rintro kk a C' ⟨j,hj,ha,hc⟩
 rcases hc with⟨rfl,rfl⟩|⟨rfl,c0,l0,a0,rfl⟩|⟨rfl,c0,l0,c1,l1,a0,a1,rfl⟩
 ·refine gV _ ha ?_
  simp only[fN]
  repeat' (first|refine v81 ?_|refine dw lU ?_|refine dw l5 ?_|refine wr ?_|refine w5 ?_ ?_|((refine bh fun h=>?_) <;> try exact w6 h)|(refine aE fun hA=>?_;subst hA)|intro _|(show aA _ 9 _ _ _;refine CA (h:=Kj (.inl rfl) h0 (fun _ _=>?_)))|(show aA _ 122 _ _ _;refine CA (h:=Pl (fun _=>?_)))|(show aM _ _ _ _ _ _ _;refine x5 ?_))
  all_goals(show aV _ _ _ _;exact cC (kk - 1) ⟨1,by omega,⟨rfl,rfl,rfl,trivial⟩,.inr (.inl ⟨rfl,_,_,_,rfl⟩)⟩)
 ·refine gV _ ha ?_
  simp only[fN]
  repeat' (first|refine v81 ?_|refine dw lU ?_|refine dw l5 ?_|refine wr ?_|refine w5 ?_ ?_|((refine bh fun h=>?_) <;> try exact w6 h)|(refine aE fun hA=>?_;subst hA)|intro _|(show aA _ 9 _ _ _;refine CA (h:=Kj (.inr rfl) h1 (fun _ _=>?_)))|(show aA _ 122 _ _ _;refine CA (h:=Pl (fun _=>?_)))|(show aM _ _ _ _ _ _ _;refine x5 ?_))
  all_goals(show aV _ _ _ _;exact cC (kk - 1) ⟨2,by omega,⟨rfl,rfl,rfl,trivial⟩,.inr (.inr ⟨rfl,_,_,_,_,_,_,rfl⟩)⟩)
 ·refine gV _ ha ?_
  simp only[fN]
  repeat' (first|refine v81 ?_|refine dw lU ?_|refine dw l5 ?_|refine wr ?_|refine w5 ?_ ?_|((refine bh fun h=>?_) <;> try exact w6 h)|(refine aE fun hA=>?_;subst hA)|intro _|(show aM _ _ _ _ _ _ _;refine x5 ?_))
  all_goals(refine aC ?_;exact aB (hK _ _ _ _ _ _ _))
theorem rA (hG:F3 cf P c) (hK:K (GO c) (Hb x ad c::R)):aA Tryz.prog 16 #[.pointer (some ⟨x,0,none⟩)] (Hb x ad c::R) K:=by
 obtain⟨B,h,_⟩:=hG
 exact HF fun M mc=>aA.entK (WA h.I ⟨_,DF,hK⟩)
theorem nO (hs:sd=0∨sd=1) (hK:K (.pointer (some ⟨if sd=0 then A.x0 else A.x1,0,none⟩)) (uO d A z R)):aA Tryz.prog 34 #[.pointer (some ⟨d,0,none⟩),.int .i64 sd] (uO d A z R) K:=by
 dsimp only[uO] at hK ⊢
 rcases hs with rfl|rfl
 all_goals
  simp only[Int.reduceEq,if_true,if_false] at hK
  refine aH Tryz.func34 ?_
  repeat' (first|refine v41 ?_|refine wr ?_|refine w5 ?_ ?_|((refine bh fun h=>?_) <;> try exact w6 h)|(refine aE fun hA=>?_;subst hA)|intro _|(show aA _ 125 _ _ _;refine CA (h:=iN ?_)))
  all_goals(refine aC ?_;exact aB (hK))
theorem pH (hs:sd=0∨sd=1) (hK:K (.int .i64 ((if sd=0 then z.l0 else z.l1).b.length:Nat)) (uO d A z R)):aA Tryz.prog 35 #[.pointer (some ⟨d,0,none⟩),.int .i64 sd] (uO d A z R) K:=by
 dsimp only[uO] at hK ⊢
 rcases hs with rfl|rfl
 all_goals
  simp only[Int.reduceEq,if_true,if_false] at hK
  refine aH Tryz.func35 ?_
  repeat' (first|refine v41 ?_|refine wr ?_|refine w5 ?_ ?_|((refine bh fun h=>?_) <;> try exact w6 h)|(refine aE fun hA=>?_;subst hA)|intro _|(show aA _ 125 _ _ _;refine CA (h:=iN ?_))|(show aA _ 131 _ _ _;refine CA (h:=YD ?_)))
  all_goals(refine aC ?_;exact aB (hK))
end
section
def YK:Cf:=⟨64,8,4,100,5,0,0,0,0⟩
theorem u2:HW YK:=⟨by decide,by decide,by decide,by decide,by decide,by decide,by decide⟩
def dz0:Du:=⟨j8 0 YK,j8 1 YK,⟨[],0,0⟩,⟨[],0,0⟩,false,false⟩
def da1:AC:=⟨1,0,0,1,0,⟨#[]⟩,0,1,false,0,0,0⟩
def da2:AC:=⟨2,0,1,0,0,"abc".toUTF8,0,0,false,0,0,0⟩
def da3:AC:=⟨11,0,0,0,0,⟨#[]⟩,0,0,false,0,0,0⟩
def da4:AC:=⟨12,1,0,1000,0,⟨#[]⟩,0,0,false,0,0,0⟩
def da5:AC:=⟨4,1,1,9,0,⟨#[]⟩,0,0,false,0,0,0⟩
def dz1:=Qw da1 dz0
def dz2:=Qw da2 dz1
def dz3:=Qw da3 dz2
def dz4:=Qw da4 dz3
theorem y1:(duT da1 dz0).n=1∧(duT da1 dz0).e=0:=by decide +kernel
theorem y2:(duT da2 dz1).n=3:=by decide +kernel
theorem y3:(duT da3 dz2).n=(duT da4 dz3).n∧0<(duT da3 dz2).n:=by decide +kernel
theorem y5:(duT da5 dz4).s= "abc".toUTF8∧(duT da5 dz4).e=0:=by decide +kernel
theorem y6:(((if(0:Int)=0 then(Qw da5 dz4).l0 else(Qw da5 dz4).l1).b.length:Nat):Int)=0:=by decide +kernel
variable {R C:List HP} {K:Value→List HP→Prop}
theorem IF (hK:K (.agg #[.int .i64 64,.int .i64 8,.int .i64 4,.int .i64 100,.int .i64 5,.int .i64 0,.int .i64 0,.int .i64 0,.int .i64 0]) R):aA Tryz.prog 30 #[] R K:=by
 refine aH Tryz.func30 ?_
 repeat' (first|refine v5 ?_|refine wr ?_|refine w5 ?_ ?_|((refine bh fun h=>?_) <;> try exact w6 h)|(refine aE fun hA=>?_;subst hA)|intro _)
 all_goals(refine aC ?_;exact aB (hK))
theorem Pv (hK:K (.bool true) R):aA Tryz.prog 31 #[] R K:=by
 have hG:=Hh u2 u2
 obtain⟨y11,y12⟩:=y1
 have y2:=y2
 obtain⟨y31,y32⟩:=y3
 obtain⟨y51,y52⟩:=y5
 refine aH Tryz.func31 ?_
 repeat' (first|refine v82 ?_|refine wr ?_|refine w5 ?_ ?_|((refine bh fun h=>?_) <;> try exact w6 h)|(refine aE fun hA=>?_;subst hA)|intro _|(show aA _ 30 _ _ _;refine CA (h:=IF ?_))|(show aA _ 29 _ _ _;refine CA (h:=GG u2 u2 (fun d0 A0=>?_));dsimp only[uO])|(show aA _ 33 _ _ _;first|(refine CA (h:=kT (A:=A0) (a:=da1) (z:=dz0) (k:=0) hG (by decide) (by decide) (fun hG1=>?_));dsimp only[p5,uO];rw[y11,y12])|(refine CA (h:=kT (A:=A0) (a:=da2) (z:=dz1) (k:=1) hG1 (by decide) (by decide) (fun hG2=>?_));dsimp only[p5,uO];rw[y2])|(refine CA (h:=kT (A:=A0) (a:=da3) (z:=dz2) (k:=2) hG2 (by decide) (by decide) (fun hG3=>?_));dsimp only[p5,uO];skip)|(refine CA (h:=kT (A:=A0) (a:=da4) (z:=dz3) (k:=3) hG3 (by decide) (by decide) (fun hG4=>?_));dsimp only[p5,uO];rw[← y31])|(refine CA (h:=kT (A:=A0) (a:=da5) (z:=dz4) (k:=4) hG4 (by decide) (by decide) (fun hG5=>?_));dsimp only[p5,uO];rw[y51,y52]))|(show aA _ 35 _ _ _;refine CA (h:=pH (A:=A0) (z:=Qw da5 dz4) (.inl rfl) ?_);dsimp only[uO];rw[y6]))
 all_goals(refine aC ?_;exact aB (hK))
end
end Go.Proofs.YtifgibijcmppmaaGreat
namespace Go.Proofs.YtifgibijcmppmaaGreat
open Go Go.Proofs Go.Sl
set_option maxRecDepth 100000
set_option maxHeartbeats 40000000
attribute [local irreducible] aM fG cV bP aN aW aA dP dX aV dO pt ro eW star sep bH
section
def Z5:List Value→Option AC
 | [.int .i64 kd,.int .i64 sd,.int .i64 id,.int .i64 n,.int .i64 cd,.string s,.int .i64 on,.int .i64 ww,.bool xx,.int .i64 xw,.int .i64 xs,.int .i64 xi]=>some ⟨kd,sd,id,n,cd,s,on,ww,xx,xw,xs,xi⟩
 |_=>none
theorem Zu (cs:List Value) (y:AC) (h:Z5 cs=some y): [.int .i64 y.kd,.int .i64 y.sd,.int .i64 y.id,.int .i64 y.n,.int .i64 y.cd,.string y.s,.int .i64 y.on,.int .i64 y.ww,.bool y.xx,.int .i64 y.xw,.int .i64 y.xs,.int .i64 y.xi]=cs:=by
 unfold Z5 at h
 split at h
 ·cases h;rfl
 ·cases h
def Dx:tG AC:= { enc:=fun y=> [.int .i64 y.kd,.int .i64 y.sd,.int .i64 y.id,.int .i64 y.n,.int .i64 y.cd,.string y.s,.int .i64 y.on,.int .i64 y.ww,.bool y.xx,.int .i64 y.xw,.int .i64 y.xs,.int .i64 y.xi],sz:=12,dec:=Z5,len:=fun _=>rfl,one:=fun _=>rfl,ok:=Zu }
variable {W:World}
theorem Acl {cs:List Value} {o m j n:Nat} (h:j+n≤m):(((cs.drop o).take m).drop j).take n=(cs.drop (o+j)).take n:=by
 rw[List.drop_take,List.take_take,List.drop_drop]
 congr 1
 omega
theorem Aer {cs:List Value} {v0 v1 v2 v3 v4 v5 v6 v7 v8 v9 v10 I2:Value} (hl:cs.length=12) (h0:(cs.drop 0).take 1= [v0]) (h1:(cs.drop 1).take 1= [v1]) (h2:(cs.drop 2).take 1= [v2]) (h3:(cs.drop 3).take 1= [v3]) (h4:(cs.drop 4).take 1= [v4]) (h5:(cs.drop 5).take 1= [v5]) (h6:(cs.drop 6).take 1= [v6]) (h7:(cs.drop 7).take 1= [v7]) (h8:(cs.drop 8).take 1= [v8]) (h9:(cs.drop 9).take 1= [v9]) (h10:(cs.drop 10).take 1= [v10]) (h11:(cs.drop 11).take 1= [I2]):cs= [v0,v1,v2,v3,v4,v5,v6,v7,v8,v9,v10,I2]:=by
 match cs,hl with
 | [a0,a1,a2,a3,a4,a5,a6,a7,a8,a9,a10,a11],_=>simp_all
theorem SR {n:Nat} {cs:List Value} (hg:Go.Sl.Good Tryz.prog W n 92 cs):∃a:AC,cs= [.int .i64 a.kd,.int .i64 a.sd,.int .i64 a.id,.int .i64 a.n,.int .i64 a.cd,.string a.s,.int .i64 a.on,.int .i64 a.ww,.bool a.xx,.int .i64 a.xw,.int .i64 a.xs,.int .i64 a.xi]:=by
 have hz:Tryz.prog.cellsOf 92=12:=by kernel_rfl
 have hz2:Tryz.prog.cellsOf 23=3:=by kernel_rfl
 have hz3:Tryz.prog.cellsOf 42=3:=by kernel_rfl
 obtain⟨m2,k3,k4⟩:=nT Tryz.underlying92 hg
 obtain⟨kd,r0,_⟩:=fL Tryz.underlying3 (k4 0 _ rfl)
 obtain⟨sd,r1,w1⟩:=fL Tryz.underlying3 (k4 1 _ rfl)
 obtain⟨id,r2,w2⟩:=fL Tryz.underlying3 (k4 2 _ rfl)
 obtain⟨n,r3,w3⟩:=fL Tryz.underlying3 (k4 3 _ rfl)
 obtain⟨cd,r4,w4⟩:=fL Tryz.underlying3 (k4 4 _ rfl)
 obtain⟨s,r5,_⟩:=PD Tryz.underlying9 (k4 5 _ rfl)
 obtain⟨m5,j5,j6⟩:=nT Tryz.underlying42 (k4 6 _ rfl)
 obtain⟨on,q0,u0⟩:=fL Tryz.underlying3 (j6 0 _ rfl)
 obtain⟨ww,q1,u1⟩:=fL Tryz.underlying3 (j6 1 _ rfl)
 obtain⟨xx,q2⟩:=Ws Tryz.underlying4 (j6 2 _ rfl)
 obtain⟨m3,j3,j4⟩:=nT Tryz.underlying23 (k4 7 _ rfl)
 obtain⟨xw,p0,x0⟩:=fL Tryz.underlying3 (j4 0 _ rfl)
 obtain⟨xs,p1,x1⟩:=fL Tryz.underlying3 (j4 1 _ rfl)
 obtain⟨xi,p2,x2⟩:=fL Tryz.underlying3 (j4 2 _ rfl)
 have go:∀(j:Nat) (v:Value),j+1≤3→List.take 1 (List.drop j (List.take (Tryz.prog.cellsOf 42) (List.drop 6 cs)))= [v]→(cs.drop (6+j)).take 1= [v]:=fun j v hj h=>by
  rw[hz3,Acl hj] at h;exact h
 have go2:∀(j:Nat) (v:Value),j+1≤3→List.take 1 (List.drop j (List.take (Tryz.prog.cellsOf 23) (List.drop 9 cs)))= [v]→(cs.drop (9+j)).take 1= [v]:=fun j v hj h=>by
  rw[hz2,Acl hj] at h;exact h
 exact⟨⟨kd,sd,id,n,cd,s,on,ww,xx,xw,xs,xi⟩,Aer (k3.trans hz) r0 r1 r2 r3 r4 r5 (go 0 _ (by omega) q0) (go 1 _ (by omega) q1) (go 2 _ (by omega) q2) (go2 0 _ (by omega) p0) (go2 1 _ (by omega) p1) (go2 2 _ (by omega) p2)⟩
variable {R C:List HP} {K:Value→List HP→Prop} {w st it sb si sg ev wa stl:Int} {a:AC}
def Fz (w it sb si sg ev wa stl:Int):Cf:=⟨w % 18446744073709551616 % 100,8,it % 18446744073709551616 % 20,sb % 18446744073709551616 % 200,si % 18446744073709551616 % 20,sg % 18446744073709551616 % 3,ev % 18446744073709551616 % 30,wa % 18446744073709551616 % 30,stl % 18446744073709551616 % 30⟩
theorem X0:HW (Fz w it sb si sg ev wa stl):=by
 refine⟨?_,?_,?_,?_,?_,?_,?_⟩
 ·unfold rY Fz;simp only[Bool.and_eq_true,decide_eq_true_eq];omega
 all_goals(unfold Fz;dsimp only;omega)
theorem Q7 (hK:K (.agg #[.int .i64 (w % 18446744073709551616 % 100),.int .i64 8,.int .i64 (it % 18446744073709551616 % 20),.int .i64 (sb % 18446744073709551616 % 200),.int .i64 (si % 18446744073709551616 % 20),.int .i64 (sg % 18446744073709551616 % 3),.int .i64 (ev % 18446744073709551616 % 30),.int .i64 (wa % 18446744073709551616 % 30),.int .i64 (stl % 18446744073709551616 % 30)]) R):aA Tryz.prog 22 #[.agg #[.int .i64 w,.int .i64 st,.int .i64 it,.int .i64 sb,.int .i64 si,.int .i64 sg,.int .i64 ev,.int .i64 wa,.int .i64 stl]] R K:=by
 have h1:∀z:Int,0≤z % 18446744073709551616 % 100∧z % 18446744073709551616 % 100<100:=fun z=>by omega
 have h2:∀z:Int,0≤z % 18446744073709551616 % 20∧z % 18446744073709551616 % 20<20:=fun z=>by omega
 have h3:∀z:Int,0≤z % 18446744073709551616 % 200∧z % 18446744073709551616 % 200<200:=fun z=>by omega
 have h4:∀z:Int,0≤z % 18446744073709551616 % 3∧z % 18446744073709551616 % 3<3:=fun z=>by omega
 have h5:∀z:Int,0≤z % 18446744073709551616 % 30∧z % 18446744073709551616 % 30<30:=fun z=>by omega
 refine aH Tryz.func22 ?_
 repeat' (first|(show aM _ _ _ _ _ _ _;first|refine mZ ?_|refine kC ?_)|refine v61 ?_|refine wr ?_|refine w5 ?_ ?_|((refine bh fun h=>?_) <;> try exact w6 h)|(refine aE fun hA=>?_;subst hA)|intro _)
 all_goals(refine aC ?_;exact aB (hK))
theorem xM (hK:K (.bool (decide ((a.s.size:Int)<600))) R):aA Tryz.prog 32 #[.agg #[.int .i64 a.kd,.int .i64 a.sd,.int .i64 a.id,.int .i64 a.n,.int .i64 a.cd,.string a.s,.int .i64 a.on,.int .i64 a.ww,.bool a.xx,.int .i64 a.xw,.int .i64 a.xs,.int .i64 a.xi]] R K:=by
 refine aH Tryz.func32 ?_
 repeat' (first|refine v19 ?_|refine wr ?_|refine w5 ?_ ?_|((refine bh fun h=>?_) <;> try exact w6 h)|(refine aE fun hA=>?_;subst hA)|intro _)
 all_goals(refine aC ?_;exact aB (hK))
end
end Go.Proofs.YtifgibijcmppmaaGreat
