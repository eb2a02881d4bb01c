/- A part of the proof: lemmas; each with the conditions that it states. -/
import Derived.Test.YtffnpejdkkohcaaGreatBbj
set_option linter.unusedVariables false
set_option linter.unusedSimpArgs false
set_option maxRecDepth 100000
set_option maxHeartbeats 40000000
namespace Go.Proofs.YtffnpejdkkohcaaGreat
open Go Go.Proofs Go.Sl
attribute [local irreducible] aM eY cU bQ aL aW aA dS dT aZ dR pt ro fN star sep bH
attribute [local irreducible] mp FV
variable {R C:List HP} {K:KP} {mc m0 m1 x y pl po p:Nat} {c c':Cn} {l o:Lk} {M M0 M1:Option Addr} {B P k side id n kind sg on w:Int} {cf cf0 cf1:Cf} {ad:Ca} {xx:Bool} {t:dI}
section
structure Du where
 c0:Cn
 c1:Cn
 l0:Lk
 l1:Lk
 b0:Bool
 b1:Bool
structure Dd where
 x0:Nat
 x1:Nat
 p0:Nat
 p1:Nat
 a0:Ca
 a1:Ca
def duT (a:AC) (z:Du):Td:=
 if a.kd<1\/14<a.kd then td0 2
 else if a.kd=13 then⟨0,z.c0.now+1,⟨#[]⟩,false,false⟩
 else if a.sd=0 then Alx a z.c0 z.l0 z.l1
 else if a.sd=1 then Alx a z.c1 z.l1 z.l0
 else td0 3
def duS (a:AC) (z:Du):Du:=
 if a.kd<1\/14<a.kd then z
 else if a.kd=13 then { z with c0:=XW z.c0,c1:=XW z.c1,b0:=false,b1:=false }
 else if a.sd=0 then { c0:=Ag4 a z.c0 z.l0,c1:=z.c1,l0:=Al8 a z.l0,l1:=Al0 a z.c0 z.l1,b0:=bz 0 0 a.kd,b1:=bz 0 1 a.kd }
 else if a.sd=1 then { c0:=z.c0,c1:=Ag4 a z.c1 z.l1,l0:=Al0 a z.c1 z.l0,l1:=Al8 a z.l1,b0:=bz 1 0 a.kd,b1:=bz 1 1 a.kd }
 else { z with b0:=false,b1:=false }
variable {d:Nat} {A:Dd} {z:Du} {a:AC} {b0 b1:Bool}
def LkJ (k:Int) (l:Lk):Prop:=l.b.length<=1048576/\0<=l.we/\(l.b.length:Int)+l.we=l.ca/\l.ca<=40000 * k
theorem LkJ.i (h:LkJ k l) (hk:0<=k/\k<=140):LkI l:=by
 obtain⟨h1,h2,h3,h4⟩:=h
 exact⟨h1,by omega,by omega,by omega,by omega⟩
theorem LkJ.mono {k':Int} (h:LkJ k l) (hk:k<=k'):LkJ k' l:=by
 obtain⟨h1,h2,h3,h4⟩:=h
 exact⟨h1,h2,h3,by omega⟩
theorem Gv.mono {P':Int} (h:Gv cf P c) (hP:P<=P'):Gv cf P' c:=by
 obtain⟨B,h1,h2⟩:=h
 exact⟨B,h1,by omega⟩
theorem Sz (hI:bR B c) (hk:fM cf c) (hF:∀m∈c.l,smF m) (hB:B+1301<=250000000) (ho:c.dr.ov=false) (ho1:(bI (aD c)).dr.ov=false):(∀f∈vP c,bV f)/\(vP c).length<=134:=by
 have hbb:=hI.bb
 have hIb:=bK hI
 have hkb:=cI hk
 have hI1:=IB hIb (by omega)
 have hk1:=Dh hIb hkb (by omega)
 have hou:=J9 ho1
 have hti:=YC ho1
 have hI2:=HY hI1
 have hk2:=IU hk1
 have hI3:=Qs hI2
 have hk3:=Sn hk2
 have hF2:∀m∈({ bI (aD c) with out:= [] }:Cn).l,smF m:=fun m hm=>hF m (by have hm:m∈(bI (aD c)).l:=hm;rw[hti] at hm;exact hm)
 have hgr:=P7 hI2 hF2
 have hbr:=AH (k:=4) hI3 hk3 (by omega)
 have hfo:=hk1.fo
 refine⟨fun f hf=>?_,?_⟩
 ·unfold vP at hf
  rcases List.mem_append.1 hf with hf|hf
  ·rcases List.mem_append.1 hf with hf|hf
   ·rcases List.mem_append.1 hf with hf|hf
    ·exact(yL f hf).1
    ·exact(lT f).1 (hfo f hf).1
   ·exact(hgr f hf).1
  ·exact(hbr f hf).1
 ·have hl0:=KO (s:=aD c)
  have hgl:(uU { bI (aD c) with out:= [] }).length<=65:=by
   have h1:=flat_len (l:=(bI (aD c)).l)
   have h2:=hI1.sm.1
   have h3:=Gt (t:=10) (st:=0) (n:=vE (bI (aD c)).rv)
   show(K2 10 0 (vE (bI (aD c)).rv)++(bI (aD c)).l.flatMap rY).length<=65
   rw[List.length_append];omega
  have hol:=hI1.ou.1
  have hbl:=KR (k:=4) (s:=BV { bI (aD c) with out:= [] })
  show(fT (aD c)++(bI (aD c)).out++uU { bI (aD c) with out:= [] }++(fU 4 (BV { bI (aD c) with out:= [] })).1).length<=134
  revert hbl hgl
  generalize ({ bI (aD c) with out:= [] }:Cn)=z2
  intro hbl hgl
  rw[List.length_append,List.length_append,List.length_append]
  omega
theorem Ach (hG:CnG cf B c) (hF:∀m∈c.l,smF m) (hB:B+1301<=250000000):(eN c).1.length<=40000:=by
 have hIb:=bK hG.I
 have hkb:=cI hG.K
 have hk1:=Dh hIb hkb (by omega)
 have hls:=hG.K.ls
 have hls1:=hk1.ls
 cases ho:c.dr.ov
 ·cases ho1:(bI (aD c)).dr.ov
  ·obtain⟨h1,h2⟩:=Sz hG.I hG.K hF hB ho ho1
   rw[Uc ho ho1 h1]
   have:=LO h1
   show(sO (vP c)).length<=40000
   omega
  ·have e:eN c=((bI (aD c)).last.data.toList,{ bI (aD c) with last:=⟨#[]⟩ }):=by unfold eN;rw[if_neg (by rw[ho];decide),if_pos ho1]
   rw[e]
   have e2:(bI (aD c)).last.data.toList.length=(bI (aD c)).last.size:=Array.length_toList
   show(bI (aD c)).last.data.toList.length<=40000
   omega
 ·have e:eN c=(c.last.data.toList,{ aD c with last:=⟨#[]⟩ }):=by unfold eN;rw[if_pos ho]
  rw[e]
  have e2:c.last.data.toList.length=c.last.size:=Array.length_toList
  show c.last.data.toList.length<=40000
  omega
end
section
variable {d:Nat} {A:Dd} {z:Du} {a:AC} {b0 b1:Bool}
theorem Aj4:oV (caS a c)=oV c:=by
 unfold caS
 split
 ·unfold pT;split <;> rfl
 ·split
  ·unfold nH;split
   ·rfl
   ·split <;> rfl
  ·split
   ·unfold FE;split
    ·rfl
    ·split <;> rfl
   ·split
    ·unfold pU;split
     ·rfl
     ·split
      ·split
       ·rfl
       ·exact AW
      ·rfl
    ·split
     ·unfold zK;split
      ·rfl
      ·split
       ·split
        ·rfl
        ·exact AW
       ·rfl
     ·split
      ·unfold Fv;split
       ·rfl
       ·split <;> rfl
      ·split
       ·unfold Ad;split <;> rfl
       ·unfold vM;split
        ·rfl
        ·split <;> rfl
theorem UD:oV (bI c)=oV c:=by
 unfold bI
 split
 ·exact j7
 ·split
  ·exact j7
  ·rfl
theorem Agg:oV (qN c).2=oV c:=by
 unfold qN
 split
 ·rfl
 ·split
  ·rfl
  ·split
   ·rfl
   ·exact AW
theorem Om:∀ {k:Nat} {c:Cn},oV (fU k c).2=oV c
 |0,_=>rfl
 |k+1,c=>by
  have h:=Agg (c:=c)
  rw[C4]
  split
  ·rename_i z hz
   rw[hz] at h;exact h
  ·rename_i f z hz
   rw[hz] at h
   exact(Om (k:=k) (c:=z)).trans h
theorem TL:oV (eN c).2=oV c:=by
 unfold eN
 split
 ·rfl
 ·split
  ·exact(show oV (bI (aD c))=oV c from UD)
  ·exact(Om (k:=4) (c:=BV { bI (aD c) with out:= [] })).trans (show oV (bI (aD c))=oV c from UD)
theorem ZB (h:CZ c):CZ (eN c).2:=Mx h TL fun ho=>by
 unfold eN
 rw[if_pos ho];exact ho
theorem Aic (h:oV c'=oV c):c'.inb=c.inb:=congrArg Prod.snd h
theorem IR {D:Int} (h:Gv cf P c) (hP:P<=240000000) (hD:D<=2000) (hi:oV c'=oV c) (hg:∀B,B+2000<=250000000->CnG cf B c->CnG cf (B+D) c'):Gv cf (P+2000) c':=by
 obtain⟨B,h1,h2⟩:=h
 exact⟨B+D,hg B (by omega) h1,by rw[Aic hi];omega⟩
theorem Yl (h:Gv cf P c) (hP:P<=200000000) (hd:a.s.size<=599) (hk:a.kd≠12):Gv cf (P+2000) (Ag4 a c l):=by
 unfold Ag4
 split
 ·exact IR (D:=0) h (by omega) (by decide) (by unfold Of;split <;> rfl) fun B hB hG=>⟨by rw[Int.add_zero];exact Ajp hG.I,Ajf hG.K,Ajq hG.E⟩
 ·split
  ·exact IR (D:=0) h (by omega) (by decide) (by unfold FP;split <;> rfl) fun B hB hG=>⟨by rw[Int.add_zero];exact Abh hG.I,Yx hG.K,Yh hG.E⟩
  ·split
   ·exact IR (D:=1301) h (by omega) (by decide) TL fun B hB hG=>⟨(ZG hG.I hG.K (by omega)).1,(ZG hG.I hG.K (by omega)).2,ZB hG.E⟩
   ·split
    ·exact IR (D:=0) h (by omega) (by decide) rfl fun B hB hG=>by rw[Int.add_zero];exact hG
    ·exact IR (D:=600) h (by omega) (by decide) Aj4 fun B hB hG=>⟨caI hG.I hd (by omega),caK hG.I hG.K,caE hG.E⟩
end
section
variable {d:Nat} {A:Dd} {z:Du} {a:AC} {b0 b1:Bool}
def I4 (x:Nat) (a:Ca) (s:Cn):HP:=fN fun M=>fN fun mc=>star (cY x a s M mc [])
theorem uL {f:FuncId} {args:Array Value} {a:Ca} {s:Cn} (h:∀M mc,CT f args (cY x a s M mc R) K):CT f args (I4 x a s::R) K:=aA.ex fun M=>aA.ex fun mc=>aA.star (h M mc)
theorem o6 {a:Ca} {s:Cn}:aG (cY x a s M mc R) (I4 x a s::R):=aG.ex M (aG.ex mc (aG.mkstar (l:=cY x a s M mc [])))
end
section
variable {d:Nat} {A:Dd} {z:Du} {sd:Int} {a:AC} {b0 b1:Bool}
theorem Ip (hs:sd=0\/sd=1) (h:Nu cf):CnG cf 0 (mT sd cf):=by
 obtain⟨h1,h2,h3,h4,h5,h6,h7⟩:=h
 have hc:qF ⟨cf.w,cf.st,cf.it⟩:=h1
 have hf:qF nV:=by show pP 64 8 4=true;decide
 have hm:qF (M6 nV ⟨cf.w,cf.st,cf.it⟩):=by
  unfold qF pP M6 nV at *
  simp only[Bool.and_eq_true,decide_eq_true_eq] at *
  omega
 have e0:∀id,dZ id (mT sd cf).tr.1=false:=fun id=>rfl
 have hI:bR 0 (mT sd cf):= {
  bb:=by omega
  cf:=⟨h2,h3,h4⟩
  sd:=hs
  nx:=by show 1<=sd+1/\sd+1<=2147483649/\((sd+1) % 2=1↔sd=0);omega
  la:=by show 0<=(0:Int)/\(0:Int)<=2147483647;omega
  sm:=⟨Nat.zero_le _,List.Pairwise.nil⟩
  st:=fun m hm=>by cases hm
  ids:=fun m hm=>by cases hm
  own:=fun b=>Nat.zero_le _
  tr:= {
   kok:=⟨List.nodup_nil,fun e he=>by cases he⟩
   nd:=List.nodup_nil
   len:=Nat.zero_le _
   w:=fun id h=>by cases h
   ky:=fun id h=>by cases h
   cl:=fun id h=>by cases h
   rk:=⟨fun _=>0,fun id h=>by cases h⟩ }
  pk:=fun e he=>by cases he
  ld:=⟨Nat.zero_le _,List.Pairwise.nil,(fun e he=>by cases he),by show -2147483647<=(512:Int)/\(512:Int)<=2147483647;omega,Int.le_refl _,Int.le_refl _⟩
  rv:=⟨rfl,by show(0:Int)<=0/\(0:Int)<=0/\(0:Int)<=512/\(512:Int)<=0+512/\(0:Int)<=0;omega⟩
  sh:=⟨by show 1<=4;omega,hf,hm,fun t ht=>by obtain rfl:t=_:=List.mem_singleton.1 ht;exact hc⟩
  pe:=by show x9 64/\x9 8/\x9 4;unfold x9;omega
  bt:=by show(0<=(0:Int)/\(0:Int)<=0)/\(0<=(0:Int)/\(0:Int)<=0)/\(0<=(0:Int)/\(0:Int)<=0)/\0<=(0:Int)/\(0:Int)<=0;omega
  sl:=by show(0<=(0:Int)/\(0:Int)<=0)/\0<=(0:Int)/\(0:Int)<=0;omega
  ou:=Fj Mc
  inb:=Int.le_refl _
  now:=⟨Int.le_refl _,Int.le_refl _⟩
  mv:=Int.le_refl _ }
 have hK:fM cf (mT sd cf):= {
  cfe:=rfl
  tn:=fun id h=>by cases h
  fo:=TP (f:=B4 (Ix nV ⟨cf.w,cf.st,cf.it⟩)) (fun f hf=>by cases hf) ⟨rfl,(by show(5:Int)≠10;decide),(by show(5:Int)≠11;decide)⟩
  cl:=fun _=>rfl
  mo:=fun m hm=>by cases hm
  hg:=by
   have e1:Nf nV (M6 nV ⟨cf.w,cf.st,cf.it⟩):=by unfold Nf M6;dsimp only;omega
   have e2:Nf ⟨cf.w,cf.st,cf.it⟩ (M6 nV ⟨cf.w,cf.st,cf.it⟩):=by unfold Nf M6;dsimp only;omega
   exact⟨e1,fun t ht=>by obtain rfl:t=_:=List.mem_singleton.1 ht;exact e2⟩
  nf:=by
   have:=hm
   unfold qF pP M6 nV at this
   simp only[Bool.and_eq_true,decide_eq_true_eq] at this
   show(0:Int)<=max 8 cf.st
   omega
  kp:=by show(0:Int)+(xA []:Nat)<=0;decide
  ls:=Nat.zero_le _
  lk:=fun j=>⟨(fun h=>by cases h),(fun⟨m,h,_⟩=>by cases h)⟩ }
 exact⟨hI,hK,.inr rfl,Nat.zero_le _⟩
theorem U5 (hs:sd=0\/sd=1) (h:Nu cf) (hK:∀x a,K (.tuple #[PO x,I6 0]) (I4 x a (mT sd cf)::R)):CT 6 #[I6 sd,.agg #[I6 cf.w,I6 cf.st,I6 cf.it,I6 cf.sb,I6 cf.si,I6 cf.sg,I6 cf.ev,I6 cf.wa,I6 cf.sl]] R K:=
 aA.entK (ZR hs h fun x a=>⟨_,o6,hK x a⟩)
theorem ZF (hG:Gv cf P c) (hK:K (LL c) (I4 x ad c::R)):CT 13 #[PO x] (I4 x ad c::R) K:=by
 obtain⟨B,h,_⟩:=hG
 exact uL fun M mc=>aA.entK (Xc h.I ⟨_,o6,hK⟩)
end
section
variable {x0 x1:Nat} {d:ByteArray}
theorem Ahx (hP:Gv cf P c) (hK:K (.tuple #[I6 (if j2 kind sg on w xx c=0 then c.nx else 0),I6 (j2 kind sg on w xx c)]) (I4 x ad (pT kind sg on w xx c)::R)):CT 20 #[PO x,I6 kind,I6 sg,.agg #[I6 on,I6 w,.bool xx]] (I4 x ad c::R) K:=by
 obtain⟨B,⟨hI,_,_⟩,_⟩:=hP
 refine uL fun M mc=>?_
 by_cases hE:j2 kind sg on w xx c=0
 ·rw[if_pos hE,hE] at hK
  exact aA.entK (Rt hI hE (by rw[show c.nx+2 - 2=c.nx by omega];exact⟨_,o6,hK⟩))
 ·rw[if_neg hE] at hK
  have eo:pT kind sg on w xx c=aD c:=by unfold pT;rw[if_pos hE]
  rw[eo] at hK
  exact aA.entK (Rp hI hE ⟨_,o6,hK⟩)
theorem Aja (hP:Gv cf P c) (hd:d.size<=100000000) (hK:K (.tuple #[I6 (pN id d c).1,I6 (pN id d c).2]) (I4 x ad (nH id d c)::R)):CT 21 #[PO x,I6 id,.string d] (I4 x ad c::R) K:=by
 obtain⟨B,hG,_⟩:=hP
 exact uL fun M mc=>aA.entK (Sw hG.I hd ⟨_,o6,hK⟩)
theorem Ai3 (hP:Gv cf P c) (hK:K (.tuple #[.string (lF id n c).1,.bool (lF id n c).2.1,I6 (lF id n c).2.2]) (I4 x ad (pU id n c)::R)):CT 22 #[PO x,I6 id,I6 n] (I4 x ad c::R) K:=by
 obtain⟨B,hG,_⟩:=hP
 exact uL fun M mc=>aA.entK (WU hG.I fun _ _=>⟨_,o6,hK⟩)
theorem Ajg (hP:Gv cf P c) (hB:P<=200000000) (hK:(eN c).1.length<=40000->K (.string ⟨(eN c).1.toArray⟩) (I4 x ad (eN c).2::R)):CT 18 #[PO x] (I4 x ad c::R) K:=by
 obtain⟨B,hG,hBP⟩:=hP
 exact uL fun M mc=>Y1 fun hF=>aA.entK (WS hG.I hG.K hF (by omega) fun _ _=>⟨_,o6,hK (Ach hG hF (by omega))⟩)
theorem Ajj (hP:Gv cf P c) (hd:d.size<=1048576) (hB:P+35 * d.size<=200000000) (hK:K (I6 (vL c)) (I4 x ad (kC d.data.toList c)::R)):CT 11 #[PO x,.string d] (I4 x ad c::R) K:=by
 obtain⟨B,hG,hBP⟩:=hP
 have hIb:=hG.E.2
 have e2:d.data.toList.length=d.size:=Array.length_toList
 have h9:=Ud (c.inb++d.data.toList).length (c.inb++d.data.toList) (Nat.le_refl _)
 rw[List.length_append] at h9
 exact uL fun M mc=>aA.entK (Wz hG.I hG.E.1 (by omega) (by omega) fun _ _=>⟨_,o6,hK⟩)
theorem Ake {u:List UInt8} (hP:Gv cf P c) (hd:u.length<=1048576) (hB:P+35 * u.length<=200000000) (hK:K (I6 (vL c)) (I4 x ad (kC u c)::R)):CT 11 #[PO x,.string ⟨u.toArray⟩] (I4 x ad c::R) K:=Ajj hP (by simpa[ByteArray.size] using hd) (by simpa[ByteArray.size] using hB) hK
theorem Amg (hP:Gv cf P c) (hK:∀A d,K (.slice A (c.l.map Sm.id).length d) (bU A d 3 mI (c.l.map Sm.id)::I4 x ad c::R)):CT 15 #[PO x] (I4 x ad c::R) K:=by
 obtain⟨B,hG,_⟩:=hP
 exact uL fun M mc=>aA.entK (Aax hG.I fun A d=>⟨_,aG.cons o6,hK A d⟩)
structure A6 where
 sd:Int
 kd:Int
 id:Int
 n:Int
 s:ByteArray
 on:Int
 ww:Int
 xx:Bool
 xw:Int
 xs:Int
 xi:Int
variable {a:A6}
end
def Io:Cf:=⟨64,8,4,100,5,0,0,0,0⟩
theorem Gw:Nu Io:=⟨by decide,by decide,by decide,by decide,by decide,by decide,by decide⟩
def dz0:Du:=⟨mT 0 Io,mT 1 Io,⟨[],0,0⟩,⟨[],0,0⟩,false,false⟩
def da1:AC:=⟨1,0,0,1,0,⟨#[]⟩,0,1,false,0,0,0⟩
def da2:AC:=⟨2,0,1,0,0,"abc".toUTF8,0,0,false,0,0,0⟩
def da3:AC:=⟨11,0,0,0,0,⟨#[]⟩,0,0,false,0,0,0⟩
def da4:AC:=⟨12,1,0,1000,0,⟨#[]⟩,0,0,false,0,0,0⟩
def da5:AC:=⟨4,1,1,9,0,⟨#[]⟩,0,0,false,0,0,0⟩
def dz1:=duS da1 dz0
def dz2:=duS da2 dz1
def dz3:=duS da3 dz2
def dz4:=duS da4 dz3
theorem y1:(duT da1 dz0).n=1/\(duT da1 dz0).e=0:=by decide +kernel
theorem y2:(duT da2 dz1).n=3:=by decide +kernel
theorem y3:(duT da3 dz2).n=(duT da4 dz3).n/\0<(duT da3 dz2).n:=by decide +kernel
theorem y5:(duT da5 dz4).s= "abc".toUTF8/\(duT da5 dz4).e=0:=by decide +kernel
theorem y6:(((if(0:Int)=0 then(duS da5 dz4).l0 else(duS da5 dz4).l1).b.length:Nat):Int)=0:=by decide +kernel
end Go.Proofs.YtffnpejdkkohcaaGreat
namespace Go.Proofs.YtffnpejdkkohcaaGreat
open Go Go.Proofs Go.Sl
attribute [local irreducible] aM eY cU bQ aL aW aA dS dT aZ dR pt ro fN star sep bH
variable {W:World} {R C:List HP} {K:KP} {w st it sb si sg ev wa stl:Int} {a:AC} {cs:List Value} {n:Nat}
def cfL (w it sb si sg ev wa stl:Int):Cf:=⟨w % 18446744073709551616 % 100,8,it % 18446744073709551616 % 20,sb % 18446744073709551616 % 200,si % 18446744073709551616 % 20,sg % 18446744073709551616 % 3,ev % 18446744073709551616 % 30,wa % 18446744073709551616 % 30,stl % 18446744073709551616 % 30⟩
theorem ZV {v0 v1 v2 v3 v4 v5 v6 v7 v8:Value} (hl:cs.length=9) (h0:(cs.drop 0).take 1= [v0]) (h1:(cs.drop 1).take 1= [v1]) (h2:(cs.drop 2).take 1= [v2]) (h3:(cs.drop 3).take 1= [v3]) (h4:(cs.drop 4).take 1= [v4]) (h5:(cs.drop 5).take 1= [v5]) (h6:(cs.drop 6).take 1= [v6]) (h7:(cs.drop 7).take 1= [v7]) (h8:(cs.drop 8).take 1= [v8]):cs= [v0,v1,v2,v3,v4,v5,v6,v7,v8]:=by
 match cs,hl with
 | [a0,a1,a2,a3,a4,a5,a6,a7,a8],_=>simp_all
theorem Afw {o m j:Nat} (h:j+n<=m):(((cs.drop o).take m).drop j).take n=(cs.drop (o+j)).take n:=by
 rw[List.drop_take,List.take_take,List.drop_drop]
 congr 1
 omega
theorem Aho (hg:Go.Sl.Good Tryz.prog W n 32 cs):∃w st it sb si stg ev wa stl:Int,cs= [I6 w,I6 st,I6 it,I6 sb,I6 si,I6 stg,I6 ev,I6 wa,I6 stl]:=by
 have hz:Tryz.prog.cellsOf 32=9:=by kernel_rfl
 have hz2:Tryz.prog.cellsOf 23=3:=by kernel_rfl
 obtain⟨m2,k3,k4⟩:=rT Tryz.underlying32 hg
 obtain⟨m3,j3,j4⟩:=rT Tryz.underlying23 (k4 0 _ rfl)
 obtain⟨w,r0,_⟩:=fX Tryz.underlying3 (j4 0 _ rfl)
 obtain⟨st,r1,_⟩:=fX Tryz.underlying3 (j4 1 _ rfl)
 obtain⟨it,r2,_⟩:=fX Tryz.underlying3 (j4 2 _ rfl)
 obtain⟨sb,r3,_⟩:=fX Tryz.underlying3 (k4 1 _ rfl)
 obtain⟨si,r4,_⟩:=fX Tryz.underlying3 (k4 2 _ rfl)
 obtain⟨stg,r5,_⟩:=fX Tryz.underlying3 (k4 3 _ rfl)
 obtain⟨ev,r6,_⟩:=fX Tryz.underlying3 (k4 4 _ rfl)
 obtain⟨wa,r7,_⟩:=fX Tryz.underlying3 (k4 5 _ rfl)
 obtain⟨stl,r8,_⟩:=fX Tryz.underlying3 (k4 6 _ rfl)
 have go:∀(j:Nat) (v:Value),j+1<=3->List.take 1 (List.drop j (List.take (Tryz.prog.cellsOf 23) (List.drop 0 cs)))= [v]->(cs.drop (0+j)).take 1= [v]:=fun j v hj h=>by
  rw[hz2,Afw hj] at h;exact h
 exact⟨w,st,it,sb,si,stg,ev,wa,stl,ZV (k3.trans hz) (go 0 _ (by omega) r0) (go 1 _ (by omega) r1) (go 2 _ (by omega) r2) r3 r4 r5 r6 r7 r8⟩
end Go.Proofs.YtffnpejdkkohcaaGreat
namespace Go.Proofs.YtffnpejdkkohcaaGreat
open Go Go.Proofs Go.Sl
attribute [local irreducible] aM eY cU bQ aL aW aA dS dT aZ dR pt ro fN star sep bH
attribute [local irreducible] mp FV
variable {R C:List HP} {K:KP} {cf0 cf1:Cf}
theorem JP {sd:Int} {cf:Cf} (hs:sd=0\/sd=1) (h:Nu cf) (hK:∀x a,K (.tuple #[PO x,I6 0]) (I4 x a (mT sd cf)::R)):CT 6 #[I6 sd,.agg #[I6 cf.w,I6 cf.st,I6 cf.it,I6 cf.sb,I6 cf.si,I6 cf.sg,I6 cf.ev,I6 cf.wa,I6 cf.sl]] R K:=U5 hs h hK
theorem Acn (h0:Nu cf0) (h1:Nu cf1) (hK:∀p x0 x1 a0 a1,K (PO p) (pt p [PO x0,PO x1,.string ⟨#[]⟩,.string ⟨#[]⟩] 67::I4 x0 a0 (mT 0 cf0)::I4 x1 a1 (mT 1 cf1)::R)):CT 19 #[.agg #[I6 cf0.w,I6 cf0.st,I6 cf0.it,I6 cf0.sb,I6 cf0.si,I6 cf0.sg,I6 cf0.ev,I6 cf0.wa,I6 cf0.sl],.agg #[I6 cf1.w,I6 cf1.st,I6 cf1.it,I6 cf1.sb,I6 cf1.si,I6 cf1.sg,I6 cf1.ev,I6 cf1.wa,I6 cf1.sl]] R K:=by
 refine aJ Tryz.func19 ?_
 repeat' (first|refine zB ?_|refine w5 ?_ ?_|((refine bh fun h=>?_) <;> try exact w6 h)|(refine aF fun hA=>?_;subst hA)|intro _|(show aA _ 6 _ _ _;first|refine CA (h:=JP (.inl rfl) h0 (fun x0 a0=>?_))|refine CA (h:=JP (.inr rfl) h1 (fun x1 a1=>?_))))
 all_goals(refine aC ?_;exact aB (hK _ _ _ _ _))
def ez0:Cn:=mT 0 Io
def ez1:=pT 1 0 0 16 false ez0
def ez2:=nH 1 "abc".toUTF8 ez1
def ew0:Cn:=mT 1 Io
def ew1:=kC (eN ez2).1 ew0
theorem Akp:(if j2 1 0 0 16 false ez0=0 then ez0.nx else 0)=1/\j2 1 0 0 16 false ez0=0:=by decide +kernel
theorem Al7:(pN 1 "abc".toUTF8 ez1).1=3/\(pN 1 "abc".toUTF8 ez1).2=0:=by decide +kernel
theorem Ala:vL ew0=0:=by decide +kernel
theorem Al9:(lF 1 9 ew1).1= "abc".toUTF8/\(lF 1 9 ew1).2.1=false/\(lF 1 9 ew1).2.2=0:=by decide +kernel
theorem Akw:(pU 1 9 ew1).l.length=1:=by decide +kernel
theorem Ahl (hK:K (.bool true) R):CT 5 #[] R K:=by
 have hG0:Gv Io 0 ez0:=⟨0,Ip (.inl rfl) Gw,by decide⟩
 have hG1:Gv Io 0 ew0:=⟨0,Ip (.inr rfl) Gw,by decide⟩
 have hG2:Gv Io 2000 ez1:=Yl (a:=⟨1,0,0,1,0,⟨#[]⟩,0,16,false,0,0,0⟩) (l:=⟨[],0,0⟩) hG0 (by decide) (by decide) (by decide)
 have hG3:Gv Io 4000 ez2:=Yl (a:=⟨2,0,1,0,0,"abc".toUTF8,0,0,false,0,0,0⟩) (l:=⟨[],0,0⟩) hG2 (by decide) (by decide) (by decide)
 have hG4:(eN ez2).1.length<=40000->Gv Io 1400000 ew1:=fun h=>(Abo hG1 (by omega)).mono (by omega)
 have hG5:(eN ez2).1.length<=40000->Gv Io 1402000 (pU 1 9 ew1):=fun h=>Yl (a:=⟨4,0,1,9,0,⟨#[]⟩,0,0,false,0,0,0⟩) (l:=⟨[],0,0⟩) (hG4 h) (by decide) (by decide) (by decide)
 obtain⟨e11,e12⟩:=Akp
 obtain⟨e21,e22⟩:=Al7
 have e4:=Ala
 obtain⟨e51,e52,e53⟩:=Al9
 have e6:=Akw
 refine aJ Tryz.func5 ?_
 repeat' (first|(show aM _ _ _ _ _ _ _;refine iQ ?_)|refine Xv ?_|refine w5 ?_ ?_|((refine bh fun h=>?_) <;> try exact w6 h)|(refine aF fun hA=>?_;subst hA)|intro _|(show aA _ 19 _ _ _;refine CA (h:=Acn Gw Gw (fun p x0 x1 a0 a1=>?_)))|(show aA _ 20 _ _ _;refine CA (h:=Ahx (c:=ez0) hG0 ?_);rw[e11,e12])|(show aA _ 21 _ _ _;refine CA (h:=Aja (c:=ez1) (d:= "abc".toUTF8) hG2 (by decide) ?_);rw[e21,e22])|(show aA _ 18 _ _ _;refine CA (h:=Ajg (c:=ez2) hG3 (by decide) (fun hsl=>?_)))|(show aA _ 11 _ _ _;refine CA (h:=Ake (c:=ew0) hG1 (by omega) (by omega) ?_);rw[e4])|(show aA _ 22 _ _ _;refine CA (h:=Ai3 (c:=ew1) (hG4 hsl) ?_);rw[e51,e52,e53])|(show aA _ 13 _ _ _;refine CA (h:=ZF (c:=pU 1 9 ew1) (hG5 hsl) ?_);unfold LL;rw[e6]))
 all_goals(refine aC ?_;exact aB (hK))
end Go.Proofs.YtffnpejdkkohcaaGreat
namespace Go.Proofs.YtffnpejdkkohcaaGreat
open Go Go.Proofs Go.Sl
attribute [local irreducible] aM eY cU bQ aL aW aA dS dT aZ dR pt ro fN star sep bH
section
variable {W:World}
structure Pu where
 raw:Bool
 a:A6
 s:ByteArray
 fa:Option Addr
 fn:Nat
 fc:Nat
 fs:List Fm
variable {C:List HP} {l:List Pu} {q:Pu} {y:Fm}
end
end Go.Proofs.YtffnpejdkkohcaaGreat
