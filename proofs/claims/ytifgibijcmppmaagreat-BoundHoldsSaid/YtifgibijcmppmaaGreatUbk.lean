/- A part of the proof: lemmas; each with the conditions that it states. -/
import Derived.Test.YtifgibijcmppmaaGreatUbj
set_option linter.unusedVariables false
set_option linter.unusedSimpArgs false
set_option maxRecDepth 100000
set_option maxHeartbeats 40000000
namespace Go.Proofs.YtifgibijcmppmaaGreat
open Go Go.Proofs Go.Sl
attribute [local irreducible] aN fN cX bP aM aX aA dS dV aT dU pt ro eV star sep bH
attribute [local irreducible] mp ED
section
structure Du where
 c0:Cn
 c1:Cn
 l0:Lk
 l1:Lk
 b0:Bool
 b1:Bool
structure Dd where
 x0:Nat
 x1:Nat
 p0:Nat
 p1:Nat
 a0:Ca
 a1:Ca
def duT (a:AC) (z:Du):Td:=
 if a.kd<1∨14<a.kd then KN 2
 else if a.kd=13 then⟨0,z.c0.now+1,⟨#[]⟩,false,false⟩
 else if a.sd=0 then BR a z.c0 z.l0 z.l1
 else if a.sd=1 then BR a z.c1 z.l1 z.l0
 else KN 3
def duS (a:AC) (z:Du):Du:=
 if a.kd<1∨14<a.kd then z
 else if a.kd=13 then { z with c0:=qC z.c0,c1:=qC z.c1,b0:=false,b1:=false }
 else if a.sd=0 then { c0:=s6 a z.c0 z.l0,c1:=z.c1,l0:=nD a z.l0,l1:=oQ a z.c0 z.l1,b0:=bz 0 0 a.kd,b1:=bz 0 1 a.kd }
 else if a.sd=1 then { c0:=z.c0,c1:=s6 a z.c1 z.l1,l0:=oQ a z.c1 z.l0,l1:=nD a z.l1,b0:=bz 1 0 a.kd,b1:=bz 1 1 a.kd }
 else { z with b0:=false,b1:=false }
variable {R C:List HP} {K:KP} {d mc m0 m1:Nat} {A:Dd} {z:Du} {c:Cn} {l o:Lk} {M M0 M1:Option Addr} {B P k side:Int} {a:AC} {cf cf0 cf1:Cf} {b0 b1:Bool}
def JF (k:Int) (l:Lk):Prop:=l.b.length≤1048576∧0≤l.we∧(l.b.length:Int)+l.we=l.ca∧l.ca≤40000 * k
structure Jx (cf0 cf1:Cf) (k:Int) (z:Du):Prop where
 kk:0≤k∧k≤100
 c0:zU cf0 (1000+2000 * k+35 * z.l0.we) z.c0
 c1:zU cf1 (1000+2000 * k+35 * z.l1.we) z.c1
 l0:JF k z.l0
 l1:JF k z.l1
theorem JF.i (h:JF k l) (hk:0≤k∧k≤100):Jl l:=by
 obtain⟨h1,h2,h3,h4⟩:=h
 exact⟨h1,by omega,by omega,by omega,by omega⟩
theorem JF.mono {k':Int} (h:JF k l) (hk:k≤k'):JF k' l:=by
 obtain⟨h1,h2,h3,h4⟩:=h
 exact⟨h1,h2,h3,by omega⟩
theorem zU.mono {P':Int} (h:zU cf P c) (hP:P≤P'):zU cf P' c:=by
 obtain⟨B,h1,h2⟩:=h
 exact⟨B,h1,by omega⟩
theorem Aac {s:ByteArray} (h:JF k l) (hs:s.size≤40000):JF (k+1) (Ai s l):=by
 obtain⟨h1,h2,h3,h4⟩:=h
 have e:s.data.toList.length=s.size:=Array.length_toList
 unfold Ai WI
 by_cases hE:1048576 - (l.b.length:Int)<s.size
 ·rw[if_pos hE,if_neg (by decide)]
  exact⟨h1,h2,h3,by omega⟩
 ·rw[if_neg hE,if_pos rfl]
  exact⟨by rw[List.length_append];omega,h2,by rw[List.length_append];dsimp only;omega,by dsimp only;omega⟩
theorem T9 {s:ByteArray} (h:JF k l) (hs:s.size≤40000):JF (k+1) (x6 s l):=by
 obtain⟨h1,h2,h3,h4⟩:=h
 have e:s.data.toList.length=s.size:=Array.length_toList
 unfold x6 WI
 by_cases hE:1048576 - (l.b.length:Int)<s.size
 ·rw[if_pos hE,if_neg (by decide)]
  exact⟨h1,h2,h3,by omega⟩
 ·rw[if_neg hE,if_pos rfl]
  exact⟨by rw[List.length_append];omega,h2,by rw[List.length_append];dsimp only;omega,by dsimp only;omega⟩
theorem ZV {n:Int} (h:JF k l):JF (k+1) (wG n l):=by
 obtain⟨h1,h2,h3,h4⟩:=h
 have hN:C8 n l≤l.b.length:=by unfold C8;omega
 unfold wG
 exact⟨by rw[List.length_drop];omega,by dsimp only;omega,by rw[List.length_drop];dsimp only;omega,by dsimp only;omega⟩
theorem Rw (hI:bU B c) (hk:fV cf c) (hF:∀m∈c.l,NL m) (hB:B+1301≤250000000) (ho:c.dr.ov=false) (ho1:(bI (aD c)).dr.ov=false):(∀f∈vD c,cZ f)∧(vD c).length≤134:=by
 have hbb:=hI.bb
 have hIb:=bG hI
 have hkb:=cL hk
 have hI1:=IT hIb (by omega)
 have hk1:=Ex hIb hkb (by omega)
 have hou:=Kq ho1
 have hti:=Adk ho1
 have hI2:=He hI1
 have hk2:=IY hk1
 have hI3:=Sr hI2
 have hk3:=Tg hk2
 have hF2:∀m∈({ bI (aD c) with out:= [] }:Cn).l,NL m:=fun m hm=>hF m (by have hm:m∈(bI (aD c)).l:=hm;rw[hti] at hm;exact hm)
 have hgr:=Pv hI2 hF2
 have hbr:=Ak (k:=4) hI3 hk3 (by omega)
 have hfo:=hk1.fo
 refine⟨fun f hf=>?_,?_⟩
 ·unfold vD at hf
  rcases List.mem_append.1 hf with hf|hf
  ·rcases List.mem_append.1 hf with hf|hf
   ·rcases List.mem_append.1 hf with hf|hf
    ·exact(xY f hf).1
    ·exact(uO f).1 (hfo f hf).1
   ·exact(hgr f hf).1
  ·exact(hbr f hf).1
 ·have hl0:=Li (s:=aD c)
  have hgl:(uI { bI (aD c) with out:= [] }).length≤65:=by
   have h1:=flat_len (l:=(bI (aD c)).l)
   have h2:=hI1.sm.1
   have h3:=GE (t:=10) (st:=0) (n:=vX (bI (aD c)).rv)
   show(K1 10 0 (vX (bI (aD c)).rv)++(bI (aD c)).l.flatMap rO).length≤65
   rw[List.length_append];omega
  have hol:=hI1.ou.1
  have hbl:=Ki (k:=4) (s:=BU { bI (aD c) with out:= [] })
  show(fJ (aD c)++(bI (aD c)).out++uI { bI (aD c) with out:= [] }++(fI 4 (BU { bI (aD c) with out:= [] })).1).length≤134
  revert hbl hgl
  generalize ({ bI (aD c) with out:= [] }:Cn)=z2
  intro hbl hgl
  rw[List.length_append,List.length_append,List.length_append]
  omega
theorem Qs (hG:CnG cf B c) (hF:∀m∈c.l,NL m) (hB:B+1301≤250000000):(eZ c).1.length≤40000:=by
 have hIb:=bG hG.I
 have hkb:=cL hG.K
 have hk1:=Ex hIb hkb (by omega)
 have hls:=hG.K.ls
 have hls1:=hk1.ls
 cases ho:c.dr.ov
 ·cases ho1:(bI (aD c)).dr.ov
  ·obtain⟨h1,h2⟩:=Rw hG.I hG.K hF hB ho ho1
   rw[Vb ho ho1 h1]
   have:=Mz h1
   show(sG (vD c)).length≤40000
   omega
  ·have e:eZ c=((bI (aD c)).last.data.toList,{ bI (aD c) with last:=⟨#[]⟩ }):=by unfold eZ;rw[if_neg (by rw[ho];decide),if_pos ho1]
   rw[e]
   have e2:(bI (aD c)).last.data.toList.length=(bI (aD c)).last.size:=Array.length_toList
   show(bI (aD c)).last.data.toList.length≤40000
   omega
 ·have e:eZ c=(c.last.data.toList,{ aD c with last:=⟨#[]⟩ }):=by unfold eZ;rw[if_pos ho]
  rw[e]
  have e2:c.last.data.toList.length=c.last.size:=Array.length_toList
  show c.last.data.toList.length≤40000
  omega
end
section
variable {R C:List HP} {K:KP} {d mc m0 m1:Nat} {A:Dd} {z:Du} {c:Cn} {l o:Lk} {M M0 M1:Option Addr} {B P k side:Int} {a:AC} {cf cf0 cf1:Cf} {b0 b1:Bool}
theorem Ajo:o9 (Yt a c)=o9 c:=by
 unfold Yt
 split
 ·unfold sD;split <;> rfl
 ·split
  ·unfold qX;split
   ·rfl
   ·split <;> rfl
  ·split
   ·unfold Cd;split
    ·rfl
    ·split <;> rfl
   ·split
    ·unfold wF;split
     ·rfl
     ·split
      ·split
       ·rfl
       ·exact A8
      ·rfl
    ·split
     ·unfold wE;split
      ·rfl
      ·split
       ·split
        ·rfl
        ·exact A8
       ·rfl
     ·split
      ·unfold Ci;split
       ·rfl
       ·split <;> rfl
      ·split
       ·unfold wC;split <;> rfl
       ·unfold qZ;split
        ·rfl
        ·split <;> rfl
theorem Vd:o9 (bI c)=o9 c:=by
 unfold bI
 split
 ·exact jP
 ·split
  ·exact jP
  ·rfl
theorem Ae2:o9 (qD c).2=o9 c:=by
 unfold qD
 split
 ·rfl
 ·split
  ·rfl
  ·split
   ·rfl
   ·exact A8
theorem OO:∀ {k:Nat} {c:Cn},o9 (fI k c).2=o9 c
 |0,_=>rfl
 |k+1,c=>by
  have h:=Ae2 (c:=c)
  rw[Dv]
  split
  ·rename_i z hz
   rw[hz] at h;exact h
  ·rename_i f z hz
   rw[hz] at h
   exact(OO (k:=k) (c:=z)).trans h
theorem Vy:o9 (eZ c).2=o9 c:=by
 unfold eZ
 split
 ·rfl
 ·split
  ·exact(show o9 (bI (aD c))=o9 c from Vd)
  ·exact(OO (k:=4) (c:=BU { bI (aD c) with out:= [] })).trans (show o9 (bI (aD c))=o9 c from Vd)
theorem Zl (h:Ch c):Ch (eZ c).2:=MO h Vy fun ho=>by
 unfold eZ
 rw[if_pos ho];exact ho
theorem Akv {c':Cn} (h:o9 c'=o9 c):c'.inb=c.inb:=congrArg Prod.snd h
theorem ER {c':Cn} {D:Int} (h:zU cf P c) (hP:P≤240000000) (hD:D≤2000) (hi:o9 c'=o9 c) (hg:∀B,B+2000≤250000000→CnG cf B c→CnG cf (B+D) c'):zU cf (P+2000) c':=by
 obtain⟨B,h1,h2⟩:=h
 exact⟨B+D,hg B (by omega) h1,by rw[Akv hi];omega⟩
theorem Aim (h:zU cf P c) (hP:P≤200000000) (hd:a.s.size≤599) (hk:a.kd≠12):zU cf (P+2000) (s6 a c l):=by
 unfold s6
 split
 ·exact ER (D:=0) h (by omega) (by decide) (by unfold JI;split <;> rfl) fun B hB hG=>⟨by rw[Int.add_zero];exact Akm hG.I,Aj4 hG.K,Aje hG.E⟩
 ·split
  ·exact ER (D:=0) h (by omega) (by decide) (by unfold Cc;split <;> rfl) fun B hB hG=>⟨by rw[Int.add_zero];exact ZB hG.I,ZL hG.K,Adj hG.E⟩
  ·split
   ·exact ER (D:=1301) h (by omega) (by decide) Vy fun B hB hG=>⟨(YK hG.I hG.K (by omega)).1,(YK hG.I hG.K (by omega)).2,Zl hG.E⟩
   ·split
    ·exact ER (D:=0) h (by omega) (by decide) rfl fun B hB hG=>by rw[Int.add_zero];exact hG
    ·exact ER (D:=600) h (by omega) (by decide) Ajo fun B hB hG=>⟨caI hG.I hd (by omega),caK hG.I hG.K,caE hG.E⟩
theorem Acf (h:zU cf P c) (hP:P≤200000000):zU cf (P+2000) (qC c):=
 ER (D:=1) h (by omega) (by decide) rfl fun B hB hG=>⟨Abl hG.I (by omega),ZF hG.K,Ac0 hG.E⟩
end
section
variable {R C:List HP} {K:KP} {d mc m0 m1:Nat} {A:Dd} {z:Du} {c:Cn} {l o:Lk} {M M0 M1:Option Addr} {B P k side:Int} {a:AC} {cf cf0 cf1:Cf} {b0 b1:Bool}
theorem Ag6 (hG:Jx cf0 cf1 k z) (hk:k<100) (h0:∀m∈z.c0.l,NL m) (h1:∀m∈z.c1.l,NL m) (hd:a.s.size≤599):Jx cf0 cf1 (k+1) (duS a z):=by
 have hkk:=hG.kk
 have hl0:=hG.l0
 have hl1:=hG.l1
 obtain⟨q01,q02,q03,q04⟩:=id hl0
 obtain⟨q11,q12,q13,q14⟩:=id hl1
 have p0:=hG.c0
 have p1:=hG.c1
 have hsl0:(⟨(eZ z.c0).1.toArray⟩:ByteArray).size≤40000:=by
  obtain⟨B,hG0,hB0⟩:=p0
  have:=Qs hG0 h0 (by omega)
  simpa[ByteArray.size] using this
 have hsl1:(⟨(eZ z.c1).1.toArray⟩:ByteArray).size≤40000:=by
  obtain⟨B,hG0,hB0⟩:=p1
  have:=Qs hG0 h1 (by omega)
  simpa[ByteArray.size] using this
 unfold duS
 split
 ·exact⟨by omega,p0.mono (by(try dsimp only);omega),p1.mono (by(try dsimp only);omega),hl0.mono (by(try dsimp only);omega),hl1.mono (by(try dsimp only);omega)⟩
 ·split
  ·exact⟨by omega,(Acf p0 (by omega)).mono (by(try dsimp only);omega),(Acf p1 (by omega)).mono (by(try dsimp only);omega),hl0.mono (by(try dsimp only);omega),hl1.mono (by(try dsimp only);omega)⟩
  ·split
   ·by_cases h12:a.kd=12
    ·have e1:s6 a z.c0 z.l0=lQ (z.l0.b.take (C8 a.n z.l0)) z.c0:=by unfold s6;simp only[h12,Int.reduceEq,if_true,if_false]
     have e2:nD a z.l0=wG a.n z.l0:=by unfold nD;simp only[h12,if_true]
     have e3:oQ a z.c0 z.l1=z.l1:=by unfold oQ;simp only[h12,Int.reduceEq,if_false]
     have hN:(z.l0.b.take (C8 a.n z.l0)).length=C8 a.n z.l0:=by
      have:C8 a.n z.l0≤z.l0.b.length:=by unfold C8;omega
      rw[List.length_take];omega
     have hN2:C8 a.n z.l0≤z.l0.b.length:=by unfold C8;omega
     refine⟨by omega,?_,p1.mono (by rw[e3];dsimp only;omega),?_,?_⟩
     ·show zU cf0 _ (s6 a z.c0 z.l0)
      rw[e1]
      refine(Ad4 p0 (by rw[hN];omega)).mono ?_
      rw[hN]
      show _≤1000+2000 * (k+1)+35 * (nD a z.l0).we
      rw[e2]
      show _≤1000+2000 * (k+1)+35 * (z.l0.we+(C8 a.n z.l0:Nat))
      omega
     ·show JF (k+1) (nD a z.l0)
      rw[e2];exact ZV hl0
     ·show JF (k+1) (oQ a z.c0 z.l1)
      rw[e3];exact hl1.mono (by(try dsimp only);omega)
    ·have e2:(nD a z.l0).we=z.l0.we∧JF (k+1) (nD a z.l0):=by
      unfold nD
      rw[if_neg h12]
      split
      ·refine⟨?_,T9 hl0 (by omega)⟩
       unfold x6;split <;> rfl
      ·exact⟨rfl,hl0.mono (by(try dsimp only);omega)⟩
     have e3:(oQ a z.c0 z.l1).we=z.l1.we∧JF (k+1) (oQ a z.c0 z.l1):=by
      unfold oQ
      split
      ·refine⟨?_,Aac hl1 hsl0⟩
       unfold Ai;split <;> rfl
      ·exact⟨rfl,hl1.mono (by(try dsimp only);omega)⟩
     refine⟨by omega,(Aim p0 (by omega) hd h12).mono ?_,p1.mono ?_,e2.2,e3.2⟩
     ·show _≤1000+2000 * (k+1)+35 * (nD a z.l0).we
      omega
     ·show _≤1000+2000 * (k+1)+35 * (oQ a z.c0 z.l1).we
      omega
   ·split
    ·by_cases h12:a.kd=12
     ·have e1:s6 a z.c1 z.l1=lQ (z.l1.b.take (C8 a.n z.l1)) z.c1:=by unfold s6;simp only[h12,Int.reduceEq,if_true,if_false]
      have e2:nD a z.l1=wG a.n z.l1:=by unfold nD;simp only[h12,if_true]
      have e3:oQ a z.c1 z.l0=z.l0:=by unfold oQ;simp only[h12,Int.reduceEq,if_false]
      have hN:(z.l1.b.take (C8 a.n z.l1)).length=C8 a.n z.l1:=by
       have:C8 a.n z.l1≤z.l1.b.length:=by unfold C8;omega
       rw[List.length_take];omega
      have hN2:C8 a.n z.l1≤z.l1.b.length:=by unfold C8;omega
      refine⟨by omega,p0.mono (by rw[e3];dsimp only;omega),?_,?_,?_⟩
      ·show zU cf1 _ (s6 a z.c1 z.l1)
       rw[e1]
       refine(Ad4 p1 (by rw[hN];omega)).mono ?_
       rw[hN]
       show _≤1000+2000 * (k+1)+35 * (nD a z.l1).we
       rw[e2]
       show _≤1000+2000 * (k+1)+35 * (z.l1.we+(C8 a.n z.l1:Nat))
       omega
      ·show JF (k+1) (oQ a z.c1 z.l0)
       rw[e3];exact hl0.mono (by(try dsimp only);omega)
      ·show JF (k+1) (nD a z.l1)
       rw[e2];exact ZV hl1
     ·have e2:(nD a z.l1).we=z.l1.we∧JF (k+1) (nD a z.l1):=by
       unfold nD
       rw[if_neg h12]
       split
       ·refine⟨?_,T9 hl1 (by omega)⟩
        unfold x6;split <;> rfl
       ·exact⟨rfl,hl1.mono (by(try dsimp only);omega)⟩
      have e3:(oQ a z.c1 z.l0).we=z.l0.we∧JF (k+1) (oQ a z.c1 z.l0):=by
       unfold oQ
       split
       ·refine⟨?_,Aac hl0 hsl1⟩
        unfold Ai;split <;> rfl
       ·exact⟨rfl,hl0.mono (by(try dsimp only);omega)⟩
      refine⟨by omega,p0.mono ?_,(Aim p1 (by omega) hd h12).mono ?_,e3.2,e2.2⟩
      ·show _≤1000+2000 * (k+1)+35 * (oQ a z.c1 z.l0).we
       omega
      ·show _≤1000+2000 * (k+1)+35 * (nD a z.l1).we
       omega
    ·exact⟨by omega,p0.mono (by dsimp only;omega),p1.mono (by dsimp only;omega),hl0.mono (by(try dsimp only);omega),hl1.mono (by(try dsimp only);omega)⟩
def mU (x:Nat) (a:Ca) (s:Cn):HP:=eV fun M=>eV fun mc=>star (b5 x a s M mc [])
theorem o5 {f:FuncId} {args:Array Value} {x:Nat} {a:Ca} {s:Cn} (h:∀M mc,CT f args (b5 x a s M mc R) K):CT f args (mU x a s::R) K:=aA.ex fun M=>aA.ex fun mc=>aA.star (h M mc)
theorem nC {x:Nat} {a:Ca} {s:Cn}:aG (b5 x a s M mc R) (mU x a s::R):=aG.ex M (aG.ex mc (aG.mkstar (l:=b5 x a s M mc [])))
theorem WH {f:FuncId} {args:Array Value} {x:Nat} {a:Ca} {s:Cn} (h:(∀m∈s.l,NL m)→CT f args (mU x a s::R) K):CT f args (mU x a s::R) K:=o5 fun M mc=>PP fun hF=>aA.ent nC (h hF)
theorem Fl {f:FuncId} {args:Array Value} {C C':List HP} (hp:C.Perm C') (h:CT f args C' K):CT f args C K:=aA.ent (fun _ hs=>hs.perm hp) h
def kS (d:Nat) (A:Dd) (z:Du) (R:List HP):List HP:=
 pt d [PO A.x0,PO A.x1,PO A.p0,PO A.p1,.bool z.b0,.bool z.b1] 196::kZ A.p0 z.l0::kZ A.p1 z.l1::mU A.x0 A.a0 z.c0::mU A.x1 A.a1 z.c1::R
theorem Ob {x:Nat} {ad:Ca} {s:Cn} (hb:0≤s.now∧s.now≤1000000000) (hK:K (I6 (s.now+1)) (mU x ad (qC s)::R)):CT 102 #[PO x] (mU x ad s::R) K:=
 o5 fun M mc=>aA.entK (WX hb ⟨_,nC,hK⟩)
theorem XU (h0:0≤z.c0.now∧z.c0.now≤1000000000) (h1:0≤z.c1.now∧z.c1.now≤1000000000) (hK:K (m9 ⟨0,z.c0.now+1,⟨#[]⟩,false,false⟩) (kS d A { z with c0:=qC z.c0,c1:=qC z.c1 } R)):CT 124 #[PO d] (kS d A z R) K:=by
 dsimp only[kS,m9] at hK ⊢
 refine aH Tryz.func124 ?_
 repeat' (first|refine KV ?_|refine w5 ?_ ?_|((refine bh fun h=>?_) <;> try exact w6 h)|(refine aE fun hA=>?_;subst hA)|intro _|(show aA _ 102 _ _ _;first|refine CA (h:=Ob (x:=A.x0) (ad:=A.a0) (s:=z.c0) h0 ?_)|refine CA (h:=Ob (x:=A.x1) (ad:=A.a1) (s:=z.c1) h1 ?_)))
 all_goals(refine aC ?_;exact aB (hK))
def oY:List (Nat×Nat):= [(7,1),(0,1),(1,1),(2,1),(3,1),(4,1),(5,1),(6,1),(8,1)]
def pG:List (Nat×Nat):= [(0,0),(1,0),(2,0),(3,0),(4,0),(5,0),(6,0),(7,0),(8,0),(9,1)]
def pC:List (Nat×Nat):= [(0,0),(1,0),(2,0),(3,0),(4,0),(5,0),(6,0),(7,0),(8,0),(9,1),(10,1),(11,1)]
theorem Aed (h:a.kd<1∨14<a.kd) (hK:K (m9 (KN 2)) (kS d A z R)):CT 33 #[PO d,.agg #[I6 a.kd,I6 a.sd,I6 a.id,I6 a.n,I6 a.cd,.string a.s,I6 a.on,I6 a.ww,.bool a.xx,I6 a.xw,I6 a.xs,I6 a.xi]] (kS d A z R) K:=by
 dsimp only[kS,m9,KN] at hK ⊢
 refine aH Tryz.func33 ?_
 repeat' (first|refine NJ ?_|refine dw oY ?_|refine dw pG ?_|refine dw pC ?_|refine w5 ?_ ?_|((refine bh fun h=>?_) <;> try exact w6 h)|(refine aE fun hA=>?_;subst hA)|intro _|(show aA _ 123 _ _ _;refine CA (h:=rT ?_)))
 all_goals(refine aC ?_;exact aB (hK))
theorem Zd (h:a.kd=13) (h0:0≤z.c0.now∧z.c0.now≤1000000000) (h1:0≤z.c1.now∧z.c1.now≤1000000000) (hK:K (m9 ⟨0,z.c0.now+1,⟨#[]⟩,false,false⟩) (kS d A { z with c0:=qC z.c0,c1:=qC z.c1,b0:=false,b1:=false } R)):CT 33 #[PO d,.agg #[I6 a.kd,I6 a.sd,I6 a.id,I6 a.n,I6 a.cd,.string a.s,I6 a.on,I6 a.ww,.bool a.xx,I6 a.xw,I6 a.xs,I6 a.xi]] (kS d A z R) K:=by
 dsimp only[kS,m9] at hK ⊢
 refine aH Tryz.func33 ?_
 repeat' (first|refine NJ ?_|refine dw oY ?_|refine dw pG ?_|refine dw pC ?_|refine w5 ?_ ?_|((refine bh fun h=>?_) <;> try exact w6 h)|(refine aE fun hA=>?_;subst hA)|intro _|(show aA _ 124 _ _ _;refine CA (h:=XU (d:=d) (A:=A) (z:= { z with b0:=false,b1:=false }) h0 h1 ?_);dsimp only[m9,kS]))
 all_goals(refine aC ?_;exact aB (hK))
theorem Z2 (h:¬(a.kd<1∨14<a.kd)) (h13:a.kd≠13) (h0:a.sd≠0) (h1:a.sd≠1) (hK:K (m9 (KN 3)) (kS d A { z with b0:=false,b1:=false } R)):CT 33 #[PO d,.agg #[I6 a.kd,I6 a.sd,I6 a.id,I6 a.n,I6 a.cd,.string a.s,I6 a.on,I6 a.ww,.bool a.xx,I6 a.xw,I6 a.xs,I6 a.xi]] (kS d A z R) K:=by
 dsimp only[kS,m9,KN] at hK ⊢
 have hr:decide (a.sd=0∨a.sd=1)=false:=by simp[h0,h1]
 refine aH Tryz.func33 ?_
 repeat' (first|refine NJ ?_|refine dw oY ?_|refine dw pG ?_|refine dw pC ?_|refine w5 ?_ ?_|((refine bh fun h=>?_) <;> try exact w6 h)|(refine aE fun hA=>?_;subst hA)|intro _|(show aA _ 123 _ _ _;refine CA (h:=rT ?_))|(show aA _ 125 _ _ _;refine CA (h:=i6 ?_);rw[hr]))
 all_goals(refine aC ?_;exact aB (hK))
end
section
variable {R C:List HP} {K:KP} {d x y pl po mc m0 m1:Nat} {ad:Ca} {A:Dd} {z:Du} {c:Cn} {l o:Lk} {M M0 M1:Option Addr} {B P k side:Int} {a:AC} {cf cf0 cf1:Cf} {b0 b1:Bool}
theorem Qe {x:Nat} {a:Ca} {s:Cn} {H:Hp} (hs:bX (mU x a s::R) H):∀m∈s.l,NL m:=by
 obtain⟨M,hs⟩:=hs.ex
 obtain⟨mc,hs⟩:=hs.ex
 have h2:bX (b5 x a s M mc R) H:=bX.star hs
 exact OR h2.tail.tail
theorem OT (hs:side=0∨side=1) (ha:a.sd=side) (hkd:¬(a.kd<1∨14<a.kd)) (h13:a.kd≠13) (hP:zU cf P c) (hB:P≤200000000) (hl:Jl l) (ho:Jl o) (hz:a.s.size≤599) (hK:K (m9 (BR a c l o)) (pt d (zD side x y pl po (bz side 0 a.kd) (bz side 1 a.kd)) 196::kZ pl (nD a l)::kZ po (oQ a c o)::mU x ad (s6 a c l)::R)):CT 33 #[PO d,.agg #[I6 a.kd,I6 a.sd,I6 a.id,I6 a.n,I6 a.cd,.string a.s,I6 a.on,I6 a.ww,.bool a.xx,I6 a.xw,I6 a.xs,I6 a.xi]] (pt d (zD side x y pl po b0 b1) 196::kZ pl l::kZ po o::mU x ad c::R) K:=by
 have JE:∀ {X Y Z W:HP},(X::Y::Z::W::R).Perm (W::X::Y::Z::R):=fun {X Y Z W}=>by
  have:(X::Y::Z::W::R)= [X,Y,Z]++W::R:=rfl
  rw[this]
  exact List.perm_middle
 refine Fl JE (o5 fun M mc=>?_)
 have hp2:∀ {X Y Z:HP} {s:Cn} {N:Option Addr} {n:Nat},(b5 x ad s N n (X::Y::Z::R)).Perm (X::Y::Z::b5 x ad s N n R):=fun {X Y Z s N n}=>by
  have e1:b5 x ad s N n (X::Y::Z::R)=b5 x ad s N n []++([X,Y,Z]++R):=rfl
  have e2:(X::Y::Z::b5 x ad s N n R)= [X,Y,Z]++(b5 x ad s N n []++R):=rfl
  rw[e1,e2,← List.append_assoc,← List.append_assoc]
  exact List.Perm.append_right R List.perm_append_comm
 refine Fl hp2 ?_
 have hK2:∀N n,∃C',aG (pt d (zD side x y pl po (bz side 0 a.kd) (bz side 1 a.kd)) 196::kZ pl (nD a l)::kZ po (oQ a c o)::b5 x ad (s6 a c l) N n R) C'∧K (m9 (BR a c l o)) C':=fun N n=>⟨_,aG.cons (aG.cons (aG.cons nC)),hK⟩
 clear hK
 obtain⟨kd,sd,id,n,cd,z,on,ww,xx,xw,xs,xi⟩:=a
 dsimp only at ha hkd h13 hz hK2 ⊢
 subst ha
 by_cases h9:kd=9
 ·subst h9
  exact aA.entK (Yr (kd:=9) hs hP hB hl ho hz hK2)
 by_cases h10:kd=10
 ·subst h10
  exact aA.entK (Rr (kd:=9) hs hP hB hl ho hz hK2)
 by_cases h11:kd=11
 ·subst h11
  exact aA.entK (TH (kd:=9) hs hP hB hl ho hz hK2)
 by_cases h12:kd=12
 ·subst h12
  exact aA.entK (TF (kd:=9) hs hP hB hl ho hz hK2)
 by_cases h14:kd=14
 ·subst h14
  exact aA.entK (Sa (kd:=9) hs hP hB hl ho hz hK2)
 exact aA.entK (WR hs (by omega) hP hB hl ho hz hK2)
theorem GO (hG:Jx cf0 cf1 k z) (hk:k<100) (hd:a.s.size≤599) (hK:Jx cf0 cf1 (k+1) (duS a z)→K (m9 (duT a z)) (kS d A (duS a z) R)):CT 33 #[PO d,.agg #[I6 a.kd,I6 a.sd,I6 a.id,I6 a.n,I6 a.cd,.string a.s,I6 a.on,I6 a.ww,.bool a.xx,I6 a.xw,I6 a.xs,I6 a.xi]] (kS d A z R) K:=by
 refine aA.fact (p:=(∀m∈z.c0.l,NL m)∧∀m∈z.c1.l,NL m) (fun H hs=>⟨Qe hs.tail.tail.tail,Qe hs.tail.tail.tail.tail⟩) fun hF=>?_
 have hK:=hK (Ag6 hG hk hF.1 hF.2 hd)
 have hkk:=hG.kk
 obtain⟨q01,q02,q03,q04⟩:=hG.l0
 obtain⟨q11,q12,q13,q14⟩:=hG.l1
 have n0:0≤z.c0.now∧z.c0.now≤1000000000:=by
  obtain⟨B,hg,hb⟩:=hG.c0
  have:=hg.I.now;have:=hg.I.bb;omega
 have n1:0≤z.c1.now∧z.c1.now≤1000000000:=by
  obtain⟨B,hg,hb⟩:=hG.c1
  have:=hg.I.now;have:=hg.I.bb;omega
 unfold duT duS at hK
 by_cases hr:a.kd<1∨14<a.kd
 ·rw[if_pos hr,if_pos hr] at hK
  exact Aed hr hK
 rw[if_neg hr,if_neg hr] at hK
 by_cases h13:a.kd=13
 ·rw[if_pos h13,if_pos h13] at hK
  exact Zd h13 n0 n1 hK
 rw[if_neg h13,if_neg h13] at hK
 by_cases h0:a.sd=0
 ·rw[if_pos h0,if_pos h0] at hK
  exact OT (side:=0) (R:=mU A.x1 A.a1 z.c1::R) (.inl rfl) h0 hr h13 hG.c0 (by omega) (hG.l0.i hkk) (hG.l1.i hkk) hd hK
 rw[if_neg h0,if_neg h0] at hK
 by_cases h1:a.sd=1
 ·rw[if_pos h1,if_pos h1] at hK
  have hp:∀ {X Y Z U W:HP},(X::Y::Z::U::W::R).Perm (X::Z::Y::W::U::R):=fun {X Y Z U W}=>(List.Perm.cons X ((List.Perm.swap Z Y _).trans (List.Perm.cons Z (List.Perm.cons Y (List.Perm.swap W U R)))))
  refine Fl hp (aA.entK ?_)
  exact OT (side:=1) (x:=A.x1) (y:=A.x0) (pl:=A.p1) (po:=A.p0) (ad:=A.a1) (c:=z.c1) (R:=mU A.x0 A.a0 z.c0::R) (.inr rfl) h1 hr h13 hG.c1 (by omega) (hG.l1.i hkk) (hG.l0.i hkk) hd ⟨_,(fun _ hs=>hs.perm hp.symm),hK⟩
 rw[if_neg h1,if_neg h1] at hK
 exact Z2 hr h13 h0 h1 hK
end
section
variable {R C:List HP} {K:KP} {d x y pl po mc m0 m1:Nat} {ad:Ca} {A:Dd} {z:Du} {c:Cn} {l o:Lk} {M M0 M1:Option Addr} {B P k sd:Int} {a:AC} {cf cf0 cf1:Cf} {b0 b1:Bool}
theorem Oj (hs:sd=0∨sd=1) (h:Fu cf):CnG cf 0 (kI sd cf):=by
 obtain⟨h1,h2,h3,h4,h5,h6,h7⟩:=h
 have hc:u3 ⟨cf.w,cf.st,cf.it⟩:=h1
 have hf:u3 rV:=by show rY 64 8 4=true;decide
 have hm:u3 (M7 rV ⟨cf.w,cf.st,cf.it⟩):=by
  unfold u3 rY M7 rV at *
  simp only[Bool.and_eq_true,decide_eq_true_eq] at *
  omega
 have e0:∀id,dZ id (kI sd cf).tr.1=false:=fun id=>rfl
 have hI:bU 0 (kI sd cf):= {
  bb:=by omega
  cf:=⟨h2,h3,h4⟩
  sd:=hs
  nx:=by show 1≤sd+1∧sd+1≤2147483649∧((sd+1) % 2=1↔sd=0);omega
  la:=by show 0≤(0:Int)∧(0:Int)≤2147483647;omega
  sm:=⟨Nat.zero_le _,List.Pairwise.nil⟩
  st:=fun m hm=>by cases hm
  ids:=fun m hm=>by cases hm
  own:=fun b=>Nat.zero_le _
  tr:= {
   kok:=⟨List.nodup_nil,fun e he=>by cases he⟩
   nd:=List.nodup_nil
   len:=Nat.zero_le _
   w:=fun id h=>by cases h
   ky:=fun id h=>by cases h
   cl:=fun id h=>by cases h
   rk:=⟨fun _=>0,fun id h=>by cases h⟩ }
  pk:=fun e he=>by cases he
  ld:=⟨Nat.zero_le _,List.Pairwise.nil,(fun e he=>by cases he),by show -2147483647≤(512:Int)∧(512:Int)≤2147483647;omega,Int.le_refl _,Int.le_refl _⟩
  rv:=⟨rfl,by show(0:Int)≤0∧(0:Int)≤0∧(0:Int)≤512∧(512:Int)≤0+512∧(0:Int)≤0;omega⟩
  sh:=⟨by show 1≤4;omega,hf,hm,fun t ht=>by obtain rfl:t=_:=List.mem_singleton.1 ht;exact hc⟩
  pe:=by show zA 64∧zA 8∧zA 4;unfold zA;omega
  bt:=by show(0≤(0:Int)∧(0:Int)≤0)∧(0≤(0:Int)∧(0:Int)≤0)∧(0≤(0:Int)∧(0:Int)≤0)∧0≤(0:Int)∧(0:Int)≤0;omega
  sl:=by show(0≤(0:Int)∧(0:Int)≤0)∧0≤(0:Int)∧(0:Int)≤0;omega
  ou:=EQ LJ
  inb:=Int.le_refl _
  now:=⟨Int.le_refl _,Int.le_refl _⟩
  mv:=Int.le_refl _ }
 have hK:fV cf (kI sd cf):= {
  cfe:=rfl
  tn:=fun id h=>by cases h
  fo:=Uf (f:=J6 (NE rV ⟨cf.w,cf.st,cf.it⟩)) (fun f hf=>by cases hf) ⟨rfl,(by show(5:Int)≠10;decide),(by show(5:Int)≠11;decide)⟩
  cl:=fun _=>rfl
  mo:=fun m hm=>by cases hm
  hg:=by
   have e1:NK rV (M7 rV ⟨cf.w,cf.st,cf.it⟩):=by unfold NK M7;dsimp only;omega
   have e2:NK ⟨cf.w,cf.st,cf.it⟩ (M7 rV ⟨cf.w,cf.st,cf.it⟩):=by unfold NK M7;dsimp only;omega
   exact⟨e1,fun t ht=>by obtain rfl:t=_:=List.mem_singleton.1 ht;exact e2⟩
  nf:=by
   have:=hm
   unfold u3 rY M7 rV at this
   simp only[Bool.and_eq_true,decide_eq_true_eq] at this
   show(0:Int)≤max 8 cf.st
   omega
  kp:=by show(0:Int)+(xT []:Nat)≤0;decide
  ls:=Nat.zero_le _
  lk:=fun j=>⟨(fun h=>by cases h),(fun⟨m,h,_⟩=>by cases h)⟩ }
 exact⟨hI,hK,.inr rfl,Nat.zero_le _⟩
theorem OU (h0:Fu cf0) (h1:Fu cf1):Jx cf0 cf1 0 ⟨kI 0 cf0,kI 1 cf1,⟨[],0,0⟩,⟨[],0,0⟩,false,false⟩:=
 ⟨by omega,⟨0,Oj (.inl rfl) h0,by show(0:Int)+34 * (0:Nat)≤_;dsimp only;omega⟩,⟨0,Oj (.inr rfl) h1,by show(0:Int)+34 * (0:Nat)≤_;dsimp only;omega⟩,⟨Nat.zero_le _,Int.le_refl _,rfl,by dsimp only;omega⟩,⟨Nat.zero_le _,Int.le_refl _,rfl,by dsimp only;omega⟩⟩
theorem K5 (hs:sd=0∨sd=1) (h:Fu cf) (hK:∀x a,K (.tuple #[PO x,I6 0]) (mU x a (kI sd cf)::R)):CT 9 #[I6 sd,.agg #[I6 cf.w,I6 cf.st,I6 cf.it,I6 cf.sb,I6 cf.si,I6 cf.sg,I6 cf.ev,I6 cf.wa,I6 cf.sl]] R K:=
 aA.entK (Abp hs h fun x a=>⟨_,nC,hK x a⟩)
def mG:List (Nat×Nat):= [(2,0),(3,0),(4,1),(0,1),(1,1),(5,0),(6,0),(8,1),(9,1),(10,0),(11,1),(7,1),(12,0)]
def lY:List (Nat×Nat):= [(2,1),(0,1),(1,1),(3,0),(4,0),(6,1),(7,1),(8,0),(9,1),(5,1)]
theorem Q2 (h0:Fu cf0) (h1:Fu cf1) (hK:∀d A,K (.tuple #[PO d,I6 0]) (kS d A ⟨kI 0 cf0,kI 1 cf1,⟨[],0,0⟩,⟨[],0,0⟩,false,false⟩ R)):CT 29 #[.agg #[I6 cf0.w,I6 cf0.st,I6 cf0.it,I6 cf0.sb,I6 cf0.si,I6 cf0.sg,I6 cf0.ev,I6 cf0.wa,I6 cf0.sl],.agg #[I6 cf1.w,I6 cf1.st,I6 cf1.it,I6 cf1.sb,I6 cf1.si,I6 cf1.sg,I6 cf1.ev,I6 cf1.wa,I6 cf1.sl]] R K:=by
 have hK:∀d x0 x1 p0 p1 a0 a1,K (.tuple #[PO d,I6 0]) (kS d ⟨x0,x1,p0,p1,a0,a1⟩ ⟨kI 0 cf0,kI 1 cf1,⟨[],0,0⟩,⟨[],0,0⟩,false,false⟩ R):=fun d x0 x1 p0 p1 a0 a1=>hK d ⟨x0,x1,p0,p1,a0,a1⟩
 dsimp only[kS] at hK
 refine aH Tryz.func29 ?_
 repeat' (first|refine v81 ?_|refine dw mG ?_|refine dw lY ?_|refine w5 ?_ ?_|((refine bh fun h=>?_) <;> try exact w6 h)|(refine aE fun hA=>?_;subst hA)|intro _)
 rename_i x
 refine fZ (fun kk a C'=>∃j:Nat,j+kk=2∧cJ a [(6,PO x),(14,.agg #[I6 cf0.w,I6 cf0.st,I6 cf0.it,I6 cf0.sb,I6 cf0.si,I6 cf0.sg,I6 cf0.ev,I6 cf0.wa,I6 cf0.sl,I6 cf1.w,I6 cf1.st,I6 cf1.it,I6 cf1.sb,I6 cf1.si,I6 cf1.sg,I6 cf1.ev,I6 cf1.wa,I6 cf1.sl]),(15,I6 (j:Int))]∧((j=0∧C'=pt x [.pointer none,.pointer none,.pointer none,.pointer none,.bool false,.bool false] 196::R)∨(j=1∧∃(c0 l0:Nat) (a0:Ca),C'=pt x [PO c0,.pointer none,PO l0,.pointer none,.bool false,.bool false] 196::kZ l0 ⟨[],0,0⟩::mU c0 a0 (kI 0 cf0)::R)∨(j=2∧∃(c0 l0 c1 l1:Nat) (a0 a1:Ca),C'=pt x [PO c0,PO c1,PO l0,PO l1,.bool false,.bool false] 196::kZ l0 ⟨[],0,0⟩::kZ l1 ⟨[],0,0⟩::mU c0 a0 (kI 0 cf0)::mU c1 a1 (kI 1 cf1)::R))) 2 (bV 2 ⟨0,by omega,⟨rfl,rfl,rfl,trivial⟩,.inl ⟨rfl,rfl⟩⟩ (by omega)) ?_
 rintro kk a C' ⟨j,hj,ha,hc⟩
 rcases hc with⟨rfl,rfl⟩|⟨rfl,c0,l0,a0,rfl⟩|⟨rfl,c0,l0,c1,l1,a0,a1,rfl⟩
 ·refine fP _ ha ?_
  simp only[eP]
  repeat' (first|refine v81 ?_|refine dw mG ?_|refine dw lY ?_|refine w5 ?_ ?_|((refine bh fun h=>?_) <;> try exact w6 h)|(refine aE fun hA=>?_;subst hA)|intro _|(show aA _ 9 _ _ _;refine CA (h:=K5 (.inl rfl) h0 (fun _ _=>?_)))|(show aA _ 122 _ _ _;refine CA (h:=QU (fun _=>?_)))|(show aN _ _ _ _ _ _ _;refine yK ?_))
  all_goals(show aT _ _ _ _;exact bV (kk - 1) ⟨1,by omega,⟨rfl,rfl,rfl,trivial⟩,.inr (.inl ⟨rfl,_,_,_,rfl⟩)⟩)
 ·refine fP _ ha ?_
  simp only[eP]
  repeat' (first|refine v81 ?_|refine dw mG ?_|refine dw lY ?_|refine w5 ?_ ?_|((refine bh fun h=>?_) <;> try exact w6 h)|(refine aE fun hA=>?_;subst hA)|intro _|(show aA _ 9 _ _ _;refine CA (h:=K5 (.inr rfl) h1 (fun _ _=>?_)))|(show aA _ 122 _ _ _;refine CA (h:=QU (fun _=>?_)))|(show aN _ _ _ _ _ _ _;refine yK ?_))
  all_goals(show aT _ _ _ _;exact bV (kk - 1) ⟨2,by omega,⟨rfl,rfl,rfl,trivial⟩,.inr (.inr ⟨rfl,_,_,_,_,_,_,rfl⟩)⟩)
 ·refine fP _ ha ?_
  simp only[eP]
  repeat' (first|refine v81 ?_|refine dw mG ?_|refine dw lY ?_|refine w5 ?_ ?_|((refine bh fun h=>?_) <;> try exact w6 h)|(refine aE fun hA=>?_;subst hA)|intro _|(show aN _ _ _ _ _ _ _;refine yK ?_))
  all_goals(refine aC ?_;exact aB (hK _ _ _ _ _ _ _))
theorem i3 (hs:sd=0∨sd=1) (hK:K (.pointer (some ⟨if sd=0 then A.x0 else A.x1,0,none⟩)) (kS d A z R)):CT 34 #[PO d,I6 sd] (kS d A z R) K:=by
 dsimp only[kS] at hK ⊢
 rcases hs with rfl|rfl
 all_goals
  simp only[Int.reduceEq,if_true,if_false] at hK
  refine aH Tryz.func34 ?_
  repeat' (first|refine v41 ?_|refine w5 ?_ ?_|((refine bh fun h=>?_) <;> try exact w6 h)|(refine aE fun hA=>?_;subst hA)|intro _|(show aA _ 125 _ _ _;refine CA (h:=i6 ?_)))
  all_goals(refine aC ?_;exact aB (hK))
end
section
variable {R C:List HP} {K:KP} {x p x0 x1:Nat} {ad:Ca} {c:Cn} {B P id n kind sg on w side:Int} {xx:Bool} {d:ByteArray} {t:eJ} {cf:Cf} {M:Option Addr} {mc:Nat}
theorem GR (hP:zU cf P c) (hK:∀A d,K (.slice A (c.l.map Sm.id).length d) (bQ A d 3 jI (c.l.map Sm.id)::mU x ad c::R)):CT 18 #[PO x] (mU x ad c::R) K:=by
 obtain⟨B,hG,_⟩:=hP
 exact o5 fun M mc=>aA.entK (Ada hG.I fun A d=>⟨_,aG.cons nC,hK A d⟩)
structure A6 where
 sd:Int
 kd:Int
 id:Int
 n:Int
 s:ByteArray
 on:Int
 ww:Int
 xx:Bool
 xw:Int
 xs:Int
 xi:Int
variable {a:A6}
end
section
variable {R C:List HP} {K:KP} {x b mc i:Nat} {ad:Ca} {c:Cn} {m:Sm} {P id:Int} {cf:Cf} {M:Option Addr} {l:List Sm}
def Ajv (x:Nat) (a:Ca) (s:Cn) (i b:Nat):HP:=eV fun M=>eV fun mc=>star (OY x a s M mc i b [])
theorem yM (hP:zU cf P c) (hm:bY id c.l=some m) (hK:∀b,K (PO b) (mS b m::Ajv x ad c (b7 id c.l) b::R)):CT 104 #[PO x,I6 id] (mU x ad c::R) K:=by
 obtain⟨B,hG,_⟩:=hP
 exact o5 fun M mc=>aA.entK (NS hG.I hm fun b=>⟨_,aG.cons (aG.ex M (aG.ex mc (aG.mkstar (l:=OY x ad c M mc (b7 id c.l) b [])))),hK b⟩)
theorem BG (hm:bY id c.l=some m):aG (mS b m::Ajv x ad c (b7 id c.l) b::R) (mU x ad c::R):=fun H hs=>by
 have hs:=hs.swap
 obtain⟨M,hs⟩:=hs.ex
 obtain⟨mc,hs⟩:=hs.ex
 have h2:bX (OY x ad c M mc (b7 id c.l) b (mS b m::R)) H:=bX.star hs
 have e1:OY x ad c M mc (b7 id c.l) b (mS b m::R)=OY x ad c M mc (b7 id c.l) b []++mS b m::R:=rfl
 rw[e1] at h2
 have h3:bX (mS b m::OY x ad c M mc (b7 id c.l) b R) H:=h2.perm List.perm_middle
 exact nC H (d8 (bA hm).1 H h3)
def Ji (m:Sm):Nat:=if bB m.x=2 then(qK m.x+gF m.y) * 256 else qK m.x+gF m.y
def UA (l:List Sm):Nat:=(l.map Ji).sum
theorem Akg (hK:qK m.x≤4096→K (I6 (qK m.x:Nat)) (mS b m::R)):CT 137 #[PO b] (mS b m::R) K:=by
 refine aH Tryz.func137 ?_
 repeat' (first|refine v0 ?_|refine w5 ?_ ?_|((refine bh fun h=>?_) <;> try exact w6 h)|(refine aE fun hA=>?_;subst hA)|intro _|(show aA _ 86 _ _ _;refine CA (h:=s5 (fun _=>?_)))|(show aA _ 87 _ _ _;refine CA (h:=Aa ?_))|(show aA _ 88 _ _ _;refine CA (h:=AG (z:=m.x) (fun hx=>?_))))
 all_goals(refine aC ?_;exact aK (aG.trans (by exact aZ) ((pO (m:=m) (z:=m.x) rfl))) (hK hx))
theorem Ai5 (hK:qK m.x≤4096∧gF m.y≤4096→K (I6 (Ji m:Nat)) (mS b m::R)):CT 135 #[PO b] (mS b m::R) K:=by
 by_cases h2:bB m.x=2
 ·have e:((Ji m:Nat):Int)=((qK m.x:Nat)+(gF m.y:Nat):Int) * 256:=by unfold Ji;rw[if_pos h2];omega
  rw[e] at hK
  refine aH Tryz.func135 ?_
  repeat' (first|refine v12 ?_|refine w5 ?_ ?_|((refine bh fun h=>?_) <;> try exact w6 h)|(refine aE fun hA=>?_;subst hA)|intro _|(show aA _ 86 _ _ _;refine CA (h:=s5 (fun _=>?_)))|(show aA _ 87 _ _ _;refine CA (h:=Aa ?_))|(show aA _ 88 _ _ _;refine CA (h:=AG (z:=m.x) (fun hx=>?_)))|(show aA _ 89 _ _ _;refine CA (h:=aA.ent (pO (m:=m) (z:=m.x) rfl) (l5 (m:=m) (fun _=>?_))))|(show aA _ 90 _ _ _;refine CA (h:=BE (y:=m.y) (fun hy=>?_)))|(show aA _ 107 _ _ _;refine CA (h:=aA.ent (jU (m:=m) (y:=m.y) rfl) (gM (m:=m) ?_))))
  all_goals(refine aC ?_;exact aB (hK ⟨hx,hy⟩))
 ·have e:((Ji m:Nat):Int)=((qK m.x:Nat)+(gF m.y:Nat):Int):=by unfold Ji;rw[if_neg h2];omega
  rw[e] at hK
  refine aH Tryz.func135 ?_
  repeat' (first|refine v12 ?_|refine w5 ?_ ?_|((refine bh fun h=>?_) <;> try exact w6 h)|(refine aE fun hA=>?_;subst hA)|intro _|(show aA _ 86 _ _ _;refine CA (h:=s5 (fun _=>?_)))|(show aA _ 87 _ _ _;refine CA (h:=Aa ?_))|(show aA _ 88 _ _ _;refine CA (h:=AG (z:=m.x) (fun hx=>?_)))|(show aA _ 89 _ _ _;refine CA (h:=aA.ent (pO (m:=m) (z:=m.x) rfl) (l5 (m:=m) (fun _=>?_))))|(show aA _ 90 _ _ _;refine CA (h:=BE (y:=m.y) (fun hy=>?_)))|(show aA _ 107 _ _ _;refine CA (h:=aA.ent (jU (m:=m) (y:=m.y) rfl) (gM (m:=m) ?_))))
  all_goals(refine aC ?_;exact aB (hK ⟨hx,hy⟩))
def E7 (g:Sm→Nat) (l:List Sm):Nat:=(l.map g).sum
theorem Hv {g:Sm→Nat} {j:Nat} (h:l[j]?=some m):E7 g (l.take (j+1))=E7 g (l.take j)+g m:=by
 unfold E7
 rw[List.take_add_one,h]
 simp
theorem Uk {fo:FuncId} {g:Sm→Nat} (hP:zU cf P c) (hg:∀ {b:Nat} {m:Sm} {R:List HP} {K:KP},(g m≤2097152→K (I6 (g m:Nat)) (mS b m::R))→CT fo #[PO b] (mS b m::R) K) (hK:K (I6 (E7 g c.l:Nat)) (mU x ad c::R)):CT 136 #[PO x,.func (.func fo) #[] #[]] (mU x ad c::R) K:=by
 obtain⟨B,hG,_⟩:=id hP
 have h64:=hG.I.sm.1
 have hln:(c.l.map Sm.id).length=c.l.length:=List.length_map ..
 refine aH Tryz.func136 ?_
 repeat' (first|refine v55 ?_|refine w5 ?_ ?_|((refine bh fun h=>?_) <;> try exact w6 h)|(refine aE fun hA=>?_;subst hA)|intro _|(show aA _ 18 _ _ _;refine CA (h:=GR hP (fun rowA rowC=>?_))))
 refine fZ (fun n a' C'=>∃j:Nat,j+n=c.l.length∧E7 g (c.l.take j)≤2097152 * j∧cJ a' [(0,PO x),(1,.func (.func fo) #[] #[]),(5,I6 (E7 g (c.l.take j):Nat)),(9,.slice rowA (c.l.map Sm.id).length rowC),(10,I6 c.l.length),(11,I6 j)]∧C'=bQ rowA rowC 3 jI (c.l.map Sm.id)::mU x ad c::R) c.l.length (bV c.l.length ⟨0,by omega,by simp[E7],⟨rfl,rfl,rfl,rfl,by rw[hln];rfl,rfl,trivial⟩,rfl⟩ (by omega)) ?_
 rintro n a' C' ⟨j,hj,hle,ha,rfl⟩
 refine fP _ ha ?_
 simp only[eP]
 by_cases hlt:j<c.l.length
 ·obtain⟨m,hm⟩:∃m,c.l[j]?=some m:=⟨_,List.getElem?_eq_getElem hlt⟩
  have hat:=TP hG.I.sm (List.mem_of_getElem? hm)
  have hid:(c.l.map Sm.id)[j]?=some m.id:=by rw[List.getElem?_map,hm];rfl
  have ht:=Hv (g:=g) hm
  have ht2:((E7 g (c.l.take j):Nat):Int)+((g m:Nat):Int)=(E7 g (c.l.take (j+1)):Nat):=by omega
  repeat' (first|refine v55 ?_|refine w5 ?_ ?_|((refine bh fun h=>?_) <;> try exact w6 h)|(refine aE fun hA=>?_;subst hA)|intro _|(show aA _ 104 _ _ _;refine CA (h:=yM hP hat (fun strB=>?_)))|(show aA _ fo _ _ _;refine CA (h:=hg (m:=m) (fun hgm=>?_))))
  all_goals rw[ht2]
  all_goals(show aT _ _ _ _;exact pE (m:=n - 1) (C':=bQ _ _ 3 jI (c.l.map Sm.id)::mU x ad c::R) (by omega) (aG.trans (by exact aZ) (aG.cons (A:=bQ _ _ 3 jI (c.l.map Sm.id)) (BG (x:=x) (ad:=ad) hat))) ⟨j+1,by omega,by omega,⟨rfl,rfl,rfl,rfl,rfl,rfl,trivial⟩,rfl⟩)
 ·obtain rfl:j=c.l.length:=by omega
  rw[List.take_length] at *
  repeat' (first|refine v55 ?_|refine w5 ?_ ?_|((refine bh fun h=>?_) <;> try exact w6 h)|(refine aE fun hA=>?_;subst hA)|intro _)
  all_goals(refine aC ?_;exact aB (hK))
theorem xD (hP:zU cf P c) (hK:K (I6 (YG c.l:Nat)) (mU x ad c::R)):CT 39 #[PO x] (mU x ad c::R) K:=by
 refine aH Tryz.func39 ?_
 repeat' (first|refine v3 ?_|refine w5 ?_ ?_|((refine bh fun h=>?_) <;> try exact w6 h)|(refine aE fun hA=>?_;subst hA)|intro _|(show aA _ 136 _ _ _;refine CA (h:=Uk (g:=fun m=>qK m.x) hP (fun h=>Akg fun h2=>h (by omega)) ?_)))
 all_goals(refine aC ?_;exact aB (hK))
theorem Ac5 (hK:K (PO ad.ou) (mU x ad c::R)):CT 19 #[PO x] (mU x ad c::R) K:=o5 fun M mc=>aA.entK (SB ⟨_,nC,hK⟩)
theorem Abq (hK:K (PO ad.sh) (mU x ad c::R)):CT 41 #[PO x] (mU x ad c::R) K:=o5 fun M mc=>aA.entK (SA ⟨_,nC,hK⟩)
theorem U4 (x:Nat) (c:Cn) (hK:K (I6 (c.out.length:Nat)) (mU x ad c::R)):CT 94 #[PO ad.ou] (mU x ad c::R) K:=o5 fun M mc=>by
 dsimp only[b5,nW]
 exact aA.entK (CA (h:=Ih (q:=ad.ou) (out:=c.out) ⟨_,aG.trans (by exact aZ) (nC (x:=x) (a:=ad) (s:=c) (M:=M) (mc:=mc)),hK⟩))
theorem Og (x:Nat) (c:Cn) (hK:K (.agg #[I6 c.sh.g.w,I6 c.sh.g.st,I6 c.sh.g.it]) (mU x ad c::R)):CT 42 #[PO ad.sh] (mU x ad c::R) K:=o5 fun M mc=>by
 dsimp only[b5,nW]
 exact aA.entK (CA (h:=Wb (p:=ad.sh) (s:=c.sh) ⟨_,aG.trans (by exact aZ) (nC (x:=x) (a:=ad) (s:=c) (M:=M) (mc:=mc)),hK⟩))
theorem FC (hP:zU cf P c) (hb:UA c.l≤1000000000) (hK:K (I6 ((UA c.l:Nat)+265 * (c.out.length:Nat))) (mU x ad c::R)):CT 38 #[PO x] (mU x ad c::R) K:=by
 obtain⟨B,hG,_⟩:=id hP
 have hou:=hG.I.ou.1
 have hsm:E7 Ji c.l=UA c.l:=rfl
 refine aH Tryz.func38 ?_
 repeat' (first|refine v12 ?_|refine w5 ?_ ?_|((refine bh fun h=>?_) <;> try exact w6 h)|(refine aE fun hA=>?_;subst hA)|intro _|(show aA _ 136 _ _ _;refine CA (h:=Uk (g:=Ji) hP (fun h=>Ai5 fun h2=>h (by unfold Ji;split <;> omega)) ?_);rw[hsm])|(show aA _ 19 _ _ _;refine CA (h:=Ac5 ?_))|(show aA _ 94 _ _ _;refine CA (h:=U4 x c ?_)))
 all_goals(refine aC ?_;exact aB (hK))
def Pe (sb si w st it:Int):Int:=(32+max st 0) * (max sb (si * 256)+max w (it * 256))+16960
theorem Mk {w st it sb si sg ev wa sl w' st' it':Int} (h1:0≤sb∧sb≤4096) (h2:0≤si∧si≤64) (h3:0≤w'∧w'≤4096) (h4:st'≤1000) (h5:0≤it'∧it'≤64) (hK:K (I6 (Pe sb si w' st' it')) R):CT 40 #[.agg #[I6 w,I6 st,I6 it,I6 sb,I6 si,I6 sg,I6 ev,I6 wa,I6 sl],.agg #[I6 w',I6 st',I6 it']] R K:=by
 have z1:0≤max sb (si * 256)+max w' (it' * 256)∧max sb (si * 256)+max w' (it' * 256)≤40960:=by omega
 have z2:0≤32+max st' 0∧32+max st' 0≤1032:=by omega
 have z3:0≤(32+max st' 0) * (max sb (si * 256)+max w' (it' * 256)):=Int.mul_nonneg z2.1 z1.1
 have z4:(32+max st' 0) * (max sb (si * 256)+max w' (it' * 256))≤1032 * 40960:=Int.mul_le_mul z2.2 z1.2 z1.1 (by decide)
 have z5:-9223372036854775808≤(32+max st' 0) * (max sb (si * 256)+max w' (it' * 256)):=by omega
 have z6:(32+max st' 0) * (max sb (si * 256)+max w' (it' * 256))≤9223372036854775807:=by omega
 have z7:-9223372036854775808≤(32+max st' 0) * (max sb (si * 256)+max w' (it' * 256))+16960:=by omega
 have z8:(32+max st' 0) * (max sb (si * 256)+max w' (it' * 256))+16960≤9223372036854775807:=by omega
 unfold Pe at hK
 refine aH Tryz.func40 ?_
 repeat' (first|refine v43 ?_|refine w5 ?_ ?_|((refine bh fun h=>?_) <;> try exact w6 h)|(refine aE fun hA=>?_;subst hA)|intro _)
 all_goals(refine aC ?_;exact aB (hK))
theorem Wa (hP:zU cf P c) (hb:UA c.l≤1000000000) (hK:K (.tuple #[I6 ((UA c.l:Nat)+265 * (c.out.length:Nat)),I6 (YG c.l:Nat)]) (mU x ad c::R)):CT 37 #[PO x] (mU x ad c::R) K:=by
 obtain⟨B,hG,_⟩:=id hP
 have hou:=hG.I.ou.1
 have h64:=hG.I.sm.1
 have hln:(c.l.map Sm.id).length=c.l.length:=List.length_map ..
 have hz0:((E7 Ji (c.l.take 0):Nat):Int)+265 * (c.out.length:Nat)=265 * (c.out.length:Nat):=by simp[E7]
 refine aH Tryz.func37 ?_
 repeat' (first|refine v52 ?_|refine w5 ?_ ?_|((refine bh fun h=>?_) <;> try exact w6 h)|(refine aE fun hA=>?_;subst hA)|intro _|(show aA _ 18 _ _ _;refine CA (h:=GR hP (fun rowA rowC=>?_)))|(show aA _ 19 _ _ _;refine CA (h:=Ac5 ?_))|(show aA _ 94 _ _ _;refine CA (h:=U4 x c ?_)))
 refine fZ (fun n a' C'=>∃j:Nat,j+n=c.l.length∧E7 Ji (c.l.take j)≤2097152 * j∧E7 (fun m=>qK m.x) (c.l.take j)≤4096 * j∧cJ a' [(0,PO x),(4,I6 ((E7 Ji (c.l.take j):Nat)+265 * (c.out.length:Nat))),(5,I6 (E7 (fun m=>qK m.x) (c.l.take j):Nat)),(6,.slice rowA (c.l.map Sm.id).length rowC),(7,I6 j)]∧C'=bQ rowA rowC 3 jI (c.l.map Sm.id)::mU x ad c::R) c.l.length (bV c.l.length ⟨0,by omega,by simp[E7],by simp[E7],⟨rfl,by rw[hz0];rfl,rfl,rfl,rfl,trivial⟩,rfl⟩ (by omega)) ?_
 rintro n a' C' ⟨j,hj,hle,hle2,ha,rfl⟩
 refine fP _ ha ?_
 simp only[eP]
 by_cases hlt:j<c.l.length
 ·obtain⟨m,hm⟩:∃m,c.l[j]?=some m:=⟨_,List.getElem?_eq_getElem hlt⟩
  have hat:=TP hG.I.sm (List.mem_of_getElem? hm)
  have hid:(c.l.map Sm.id)[j]?=some m.id:=by rw[List.getElem?_map,hm];rfl
  have ht:=Hv (g:=Ji) hm
  have hw:=Hv (g:=fun m=>qK m.x) hm
  have hw2:((E7 (fun m=>qK m.x) (c.l.take j):Nat):Int)+((qK m.x:Nat):Int)=(E7 (fun m=>qK m.x) (c.l.take (j+1)):Nat):=by omega
  by_cases h2:bB m.x=2
  ·have hd:Ji m=(qK m.x+gF m.y) * 256:=if_pos h2
   have ht2:((E7 Ji (c.l.take j):Nat):Int)+265 * (c.out.length:Nat)+256 * (((qK m.x:Nat):Int)+(gF m.y:Nat))=(E7 Ji (c.l.take (j+1)):Nat)+265 * (c.out.length:Nat):=by omega
   repeat' (first|refine v52 ?_|refine w5 ?_ ?_|((refine bh fun h=>?_) <;> try exact w6 h)|(refine aE fun hA=>?_;subst hA)|intro _|(show aA _ 104 _ _ _;refine CA (h:=yM hP hat (fun strB=>?_)))|(show aA _ 107 _ _ _;refine CA (h:=gM (m:=m) ?_))|(show aA _ 86 _ _ _;first|refine CA (h:=s5 (m:=m) (fun _=>?_))|refine CA (h:=aA.ent (jU (m:=m) (y:=m.y) rfl) (s5 (m:=m) (fun _=>?_))))|(show aA _ 87 _ _ _;refine CA (h:=Aa ?_))|(show aA _ 88 _ _ _;refine CA (h:=AG (z:=m.x) (fun hx=>?_)))|(show aA _ 89 _ _ _;refine CA (h:=aA.ent (pO (m:=m) (z:=m.x) rfl) (l5 (m:=m) (fun _=>?_))))|(show aA _ 90 _ _ _;refine CA (h:=BE (y:=m.y) (fun hy=>?_))))
   all_goals rw[ht2,hw2]
   all_goals(show aT _ _ _ _;exact pE (m:=n - 1) (C':=bQ _ _ 3 jI (c.l.map Sm.id)::mU x ad c::R) (by omega) (aG.trans (by exact aZ) (aG.trans (aG.cons (A:=bQ _ _ 3 jI (c.l.map Sm.id)) (pO (m:=m) (z:=m.x) rfl)) (aG.cons (BG (x:=x) (ad:=ad) hat)))) ⟨j+1,by omega,by omega,by omega,⟨rfl,rfl,rfl,rfl,rfl,trivial⟩,rfl⟩)
  ·have hd:Ji m=qK m.x+gF m.y:=if_neg h2
   have ht2:((E7 Ji (c.l.take j):Nat):Int)+265 * (c.out.length:Nat)+1 * (((qK m.x:Nat):Int)+(gF m.y:Nat))=(E7 Ji (c.l.take (j+1)):Nat)+265 * (c.out.length:Nat):=by omega
   repeat' (first|refine v52 ?_|refine w5 ?_ ?_|((refine bh fun h=>?_) <;> try exact w6 h)|(refine aE fun hA=>?_;subst hA)|intro _|(show aA _ 104 _ _ _;refine CA (h:=yM hP hat (fun strB=>?_)))|(show aA _ 107 _ _ _;refine CA (h:=gM (m:=m) ?_))|(show aA _ 86 _ _ _;first|refine CA (h:=s5 (m:=m) (fun _=>?_))|refine CA (h:=aA.ent (jU (m:=m) (y:=m.y) rfl) (s5 (m:=m) (fun _=>?_))))|(show aA _ 87 _ _ _;refine CA (h:=Aa ?_))|(show aA _ 88 _ _ _;refine CA (h:=AG (z:=m.x) (fun hx=>?_)))|(show aA _ 89 _ _ _;refine CA (h:=aA.ent (pO (m:=m) (z:=m.x) rfl) (l5 (m:=m) (fun _=>?_))))|(show aA _ 90 _ _ _;refine CA (h:=BE (y:=m.y) (fun hy=>?_))))
   all_goals rw[ht2,hw2]
   all_goals(show aT _ _ _ _;exact pE (m:=n - 1) (C':=bQ _ _ 3 jI (c.l.map Sm.id)::mU x ad c::R) (by omega) (aG.trans (by exact aZ) (aG.trans (aG.cons (A:=bQ _ _ 3 jI (c.l.map Sm.id)) (pO (m:=m) (z:=m.x) rfl)) (aG.cons (BG (x:=x) (ad:=ad) hat)))) ⟨j+1,by omega,by omega,by omega,⟨rfl,rfl,rfl,rfl,rfl,trivial⟩,rfl⟩)
 ·obtain rfl:j=c.l.length:=by omega
  rw[List.take_length]
  repeat' (first|refine v52 ?_|refine w5 ?_ ?_|((refine bh fun h=>?_) <;> try exact w6 h)|(refine aE fun hA=>?_;subst hA)|intro _)
  all_goals(refine aC ?_;exact aB (hK))
end
end Go.Proofs.YtifgibijcmppmaaGreat
