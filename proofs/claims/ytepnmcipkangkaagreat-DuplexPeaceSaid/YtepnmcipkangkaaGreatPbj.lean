/- A part of the proof: lemmas; each with the conditions that it states. -/
import Derived.Test.YtepnmcipkangkaaGreatPbi
set_option linter.unusedVariables false
set_option linter.unusedSimpArgs false
set_option maxRecDepth 100000
set_option maxHeartbeats 40000000
namespace Go.Proofs.YtepnmcipkangkaaGreat
open Go Go.Proofs Go.Sl
attribute [local irreducible] ByteArray.extract rK
variable {f:Fm} {n:Int} {a b:ByteArray}
theorem oB {t:ByteArray} {i j:Nat} {a b c:List UInt8} (h:t.data.toList=a++(b++c)) (ha:a.length=i) (hb:i+b.length=j):rK t i j=rC b:=by
 rw[yN,h,List.drop_left' ha,List.take_left' (by omega)]
theorem An1 (h:0<=n/\n<=255):rC (wB n 1)=n:=zG (by decide) h.1 (by show n<(256:Int) ^ 1;omega)
theorem Aqa (h:0<=n/\n<=65535):rC (wB n 2)=n:=zG (by decide) h.1 (by show n<(256:Int) ^ 2;omega)
theorem X0 (h:0<=n/\n<=2147483647):rC (wB n 4)=n:=zG (by decide) h.1 (by show n<(256:Int) ^ 4;omega)
theorem l1 (n:Int):(wB n 1).length=1:=kR n 1
theorem l2 (n:Int):(wB n 2).length=2:=kR n 2
theorem l4 (n:Int):(wB n 4).length=4:=kR n 4
theorem VH:∀ {ps:List Pr} {p:ByteArray} {a c:List UInt8} {k:Nat},KY ps=true->p.data.toList=a++(SG ps++c)->a.length=6 * k->(List.range' k ps.length).map (Ajf p)=ps
 | [],_,_,_,_,_,_,_=>rfl
 |q::ps,p,a,c,k,hp,h,ha=>by
  have hq:(0<=q.i/\q.i<=65535)/\0<=q.v/\q.v<=2147483647:=by
   unfold KY Hu at hp
   simp only[List.all_cons,Bool.and_eq_true,decide_eq_true_eq] at hp
   exact⟨hp.1.1,hp.1.2⟩
  have hp2:KY ps=true:=by
   unfold KY at hp ⊢
   simp only[List.all_cons,Bool.and_eq_true] at hp
   exact hp.2
  have e:SG (q::ps)=wB q.i 2++(wB q.v 4++SG ps):=by unfold SG;simp
  rw[e] at h
  have h1:rK p (6 * k) (6 * k+2)=q.i:=by
   rw[oB (a:=a) (b:=wB q.i 2) (c:=wB q.v 4++SG ps++c) (by rw[h];simp) ha (by rw[l2]),Aqa hq.1]
  have h2:rK p (6 * k+2) (6 * k+2+4)=q.v:=by
   rw[oB (a:=a++wB q.i 2) (b:=wB q.v 4) (c:=SG ps++c) (by rw[h];simp) (by rw[List.length_append,l2,ha]) (by rw[l4]),X0 hq.2]
  have ih:=VH (ps:=ps) (p:=p) (a:=a++(wB q.i 2++wB q.v 4)) (c:=c) (k:=k+1) hp2 (by rw[h];simp) (by simp only[List.length_append,l2,l4,ha];omega)
  rw[List.length_cons,List.range'_succ,List.map_cons,ih]
  unfold Ajf
  rw[h1,h2]
def AI (f:Fm):Prop:=f.pa=none/\f.pc=0/\f.ps.length=f.pn
theorem z7 (h:AI f):jH f=f:=by
 obtain⟨t,st,e,d,k,on,w,x,c,la,n,pa,pn,pc,ps⟩:=f
 obtain⟨h1,h2,h3⟩:=h
 cases h1;cases h2
 rfl
def mH (f:Fm):ByteArray:=⟨(nD f.t f.d f.k f.on f.w f.x f.c f.la f.n f.ps).toArray⟩
theorem J1:xP f=jK ((mH f).size:Nat) f.t (tH f.e) f.st++mH f:=rfl
theorem LS:(mH f).data.toList=nD f.t f.d f.k f.on f.w f.x f.c f.la f.n f.ps:=by unfold mH;simp
theorem Ae4 (h:bR f):gD f.t (mH f)=f.d/\gK f.t (mH f)=f.k/\gO f.t (mH f)=f.on/\gW f.t (mH f)=f.w/\gX f.t (mH f)=f.x/\gC f.t (mH f)=f.c/\gL f.t (mH f)=f.la/\gN f.t (mH f)=f.n/\gP f.t (mH f)=f.ps:=by
 have hp:=LS (f:=f)
 obtain⟨t,st,e,d,k,on,w,x,c,la,n,pa,pn,pc,ps⟩:=f
 generalize hq:mH ⟨t,st,e,d,k,on,w,x,c,la,n,pa,pn,pc,ps⟩=p at hp ⊢
 clear hq
 dsimp only at hp ⊢
 obtain⟨r1,r2,r3,r4,r5,r6,r7,r8,r9,r10,r11,r12,r13,r14,r15,r16,r17,r18,r19,r20,r21⟩:=h
 dsimp only at r1 r2 r3 r4 r5 r6 r7 r8 r9 r10 r11 r12 r13 r14 r15 r16 r17 r18 r19 r20 r21
 rw[oV] at r18 r19 r20
 have hno:¬(t=2\/t=3)->on=0/\w=0/\x=false:=fun h=>by
  cases hb:C9 on w x
  ·exact absurd (r11 hb) h
  ·exact(Ph on w x).1 hb
 have hd0:¬(t<=1\/t=7\/t=8)->d=⟨#[]⟩:=fun h=>Amb.2 (by
  cases Nat.eq_zero_or_pos d.size with
  |inl h0=>exact h0
  |inr h0=>exact absurd (r12 h0) h)
 have hps:t≠5->ps= []:=fun h=>by
  cases ps with
  |nil=>rfl
  |cons q l=>exact absurd (r10 (Nat.succ_pos _)) h
 have hk0:t≠2->k=0:=fun h=>by by_cases hk:k=0;exact hk;exact absurd (r6 hk) h
 have hc0:¬(t=4\/t=9)->c=0:=fun h=>by by_cases hk:c=0;exact hk;exact absurd (r7 hk) h
 have hl0:t≠9->la=0:=fun h=>by by_cases hk:la=0;exact hk;exact absurd (r8 hk) h
 have hn0:¬10<=t->n=0:=fun h=>by by_cases hk:n=0;exact hk;exact absurd (r9 hk) h
 unfold gD gK gO gW gX gC gL gN gP
 by_cases h23:t=2\/t=3
 ·have hdep:=r16 h23
  unfold OH at hdep
  simp only[Bool.and_eq_true,decide_eq_true_eq] at hdep
  obtain⟨hon,hw⟩:=hdep
  rw[oV] at hon
  have hk:0<=k/\k<=255:=by
   by_cases h2:t=2
   ·have:=r15 h2;omega
   ·have:=hk0 h2;omega
  have hb:=Fe x
  unfold nD at hp
  rw[if_pos h23] at hp
  rw[if_neg (by omega),if_pos h23,if_pos h23,if_pos h23,if_pos h23,if_neg (by omega),if_neg (by omega),if_neg (by omega),if_neg (by omega),if_neg (by omega)]
  have q1:rK p 0 1=k:=by rw[oB (i:=0) (a:= []) (b:=wB k 1) (by rw[hp];rfl) rfl (by rw[l1]),An1 hk]
  have q2:rK p 1 2=tH x:=by rw[oB (a:=wB k 1) (b:=wB (tH x) 1) (by rw[hp]) (l1 _) (by rw[l1]),An1 (by omega)]
  have q3:rK p 2 3=w - 1:=by rw[oB (a:=wB k 1++wB (tH x) 1) (b:=wB (w - 1) 1) (by rw[hp];simp only[List.append_assoc];rfl) (by simp only[List.length_append,l1]) (by rw[l1]),An1 (by omega)]
  have q4:rK p 4 8=on:=by rw[oB (a:=wB k 1++wB (tH x) 1++wB (w - 1) 1++wB 0 1) (b:=wB on 4) (c:= []) (by rw[hp];simp only[List.append_assoc,List.append_nil]) (by simp only[List.length_append,l1]) (by rw[l4]),X0 hon]
  rw[q1,q2,q3,q4]
  refine⟨(hd0 (by omega)).symm,rfl,rfl,by omega,?_,(hc0 (by omega)).symm,(hl0 (by omega)).symm,(hn0 (by omega)).symm,(hps (by omega)).symm⟩
  cases x <;> rfl
 ·obtain⟨z1,z2,z3⟩:=hno h23
  subst z1 z2 z3
  rw[if_neg h23,if_neg h23,if_neg h23,if_neg h23]
  unfold nD at hp
  rw[if_neg h23] at hp
  have hk:=hk0 (by omega)
  subst hk
  by_cases h4:t=4
  ·rw[if_pos h4] at hp
   rw[if_neg (by omega),if_pos h4,if_neg (by omega),if_neg (by omega),if_neg (by omega)]
   have q1:rK p 0 4=c:=by rw[oB (i:=0) (a:= []) (b:=wB c 4) (c:= []) (by rw[hp];simp) rfl (by rw[l4]),X0 r18]
   exact⟨(hd0 (by omega)).symm,rfl,rfl,rfl,rfl,q1,(hl0 (by omega)).symm,(hn0 (by omega)).symm,(hps (by omega)).symm⟩
  ·rw[if_neg h4] at hp
   by_cases h9:t=9
   ·rw[if_pos h9] at hp
    rw[if_neg (by omega),if_neg h4,if_pos h9,if_pos h9,if_neg (by omega),if_neg (by omega)]
    have q1:rK p 0 4=la:=by rw[oB (i:=0) (a:= []) (b:=wB la 4) (c:=wB c 4) (by rw[hp];rfl) rfl (by rw[l4]),X0 r19]
    have q2:rK p 4 8=c:=by rw[oB (a:=wB la 4) (b:=wB c 4) (c:= []) (by rw[hp];simp) (l4 _) (by rw[l4]),X0 r18]
    exact⟨(hd0 (by omega)).symm,rfl,rfl,rfl,rfl,q2,q1,(hn0 (by omega)).symm,(hps (by omega)).symm⟩
   ·rw[if_neg h9] at hp
    have hc:=hc0 (by omega)
    have hla:=hl0 h9
    subst hc hla
    by_cases h10:t=10\/t=11
    ·rw[if_pos h10] at hp
     rw[if_neg (by omega),if_neg h4,if_neg h9,if_neg h9,if_pos h10,if_neg (by omega)]
     have q1:rK p 0 4=n:=by rw[oB (i:=0) (a:= []) (b:=wB n 4) (c:= []) (by rw[hp];simp) rfl (by rw[l4]),X0 r20]
     exact⟨(hd0 (by omega)).symm,rfl,rfl,rfl,rfl,rfl,rfl,q1,(hps (by omega)).symm⟩
    ·rw[if_neg h10] at hp
     have hn:=hn0 (by omega)
     subst hn
     rw[if_neg h4,if_neg h9,if_neg h9,if_neg h10]
     by_cases h5:t=5
     ·have hd:=hd0 (by omega)
      subst hd
      rw[if_neg (by omega),if_pos h5]
      have hp:p.data.toList= []++(SG ps++ []):=by rw[hp];simp
      have hsz:p.size=6 * ps.length:=by
       have:p.data.toList.length=p.size:=Array.length_toList
       rw[<- this,hp];simp[Cy]
      refine⟨rfl,rfl,rfl,rfl,rfl,rfl,rfl,rfl,?_⟩
      unfold Om
      rw[hsz,Nat.mul_div_cancel_left _ (by decide),List.range_eq_range']
      exact VH r17 hp rfl
     ·have hz:=hps h5
      subst hz
      have hp:p.data.toList=d.data.toList:=by rw[hp];simp[SG]
      have hpd:p=d:=ByteArray.ext (Array.toList_inj.1 hp)
      subst hpd
      rw[if_neg h5]
      refine⟨?_,rfl,rfl,rfl,rfl,rfl,rfl,rfl,rfl⟩
      by_cases h78:t=0\/t=1\/t=7\/t=8
      ·rw[if_pos h78]
      ·rw[if_neg h78];exact(hd0 (by omega)).symm
theorem Q7 (h:bR f):((mH f).size<=256)/\(f.t=5->(mH f).size=6 * f.ps.length)/\(f.t=2\/f.t=3\/f.t=7\/f.t=8\/f.t=9->(mH f).size=8)/\(f.t=4\/f.t=10\/f.t=11->(mH f).size=4)/\(f.t=6->(mH f).size=0):=by
 have h0:=(Fp h).2
 have hs:(mH f).size=(nD f.t f.d f.k f.on f.w f.x f.c f.la f.n f.ps).length:=by rw[<- LS];exact Array.length_toList.symm
 rw[hs]
 obtain⟨r1,r2,r3,r4,r5,r6,r7,r8,r9,r10,r11,r12,r13,r14,r15,r16,r17,r18,r19,r20,r21⟩:=h
 have hd:f.d.data.toList.length=f.d.size:=Array.length_toList
 refine⟨h0,fun h5=>?_,fun h8=>?_,fun h4=>?_,fun h6=>?_⟩
 ·unfold nD
  rw[if_neg (by omega),if_neg (by omega),if_neg (by omega),if_neg (by omega),List.length_append,Cy,hd]
  have:=r12
  omega
 ·unfold nD
  by_cases h23:f.t=2\/f.t=3
  ·rw[if_pos h23];simp only[List.length_append,l1,l4]
  ·rw[if_neg h23,if_neg (by omega)]
   by_cases h9:f.t=9
   ·rw[if_pos h9];simp only[List.length_append,l4]
   ·rw[if_neg h9,if_neg (by omega),List.length_append,Cy,hd]
    have:=r14 (by omega)
    have:=r10
    omega
 ·unfold nD
  rw[if_neg (by omega)]
  by_cases h44:f.t=4
  ·rw[if_pos h44,l4]
  ·rw[if_neg h44,if_neg (by omega),if_pos (by omega),l4]
 ·unfold nD
  rw[if_neg (by omega),if_neg (by omega),if_neg (by omega),if_neg (by omega),List.length_append,Cy,hd]
  have:=r12
  have:=r10
  omega
theorem Aer {n:Nat} (h:a.size=n):(a++b).extract 0 n=a:=by
 apply ByteArray.ext
 apply Array.toList_inj.1
 have e:a.data.toList.length=a.size:=Array.length_toList
 simp only[ByteArray.data_extract,ByteArray.data_append,Array.toList_extract,Array.toList_append,List.extract,List.drop_zero,Nat.sub_zero]
 exact List.take_left' (by omega)
theorem Zu {n m:Nat} (h:a.size=n) (h2:b.size=m):(a++b).extract n (n+m)=b:=by
 apply ByteArray.ext
 apply Array.toList_inj.1
 have e:a.data.toList.length=a.size:=Array.length_toList
 have e2:b.data.toList.length=b.size:=Array.length_toList
 simp only[ByteArray.data_extract,ByteArray.data_append,Array.toList_extract,Array.toList_append,List.extract]
 rw[List.drop_left' (by omega),List.take_of_length_le (by omega)]
theorem Aep (h:bR f) (hc:AI f):uV (xP f)=none/\sL (xP f)=((mH f).size:Nat)/\G8 (xP f)=f:=by
 have hk:W2 ((mH f).size:Nat) f.t (tH f.e) f.st=true:=vH h
 have h9:=yW hk
 have hb:=Apx (b:=⟨#[]⟩) hk
 obtain⟨b1,b2,b3,b4,b5,b6,b7,b8,b9⟩:=Ae4 h
 obtain⟨p1,p2,p3,p4,p5⟩:=Q7 h
 have hchk:=(iX f).2 h
 have hz:(xP f).size=9+(mH f).size:=by rw[J1,ByteArray.size_append];show(jK _ _ _ _).size+_=_;rw[h9]
 have e1:(xP f).extract 0 9=jK ((mH f).size:Nat) f.t (tH f.e) f.st:=by rw[J1];exact Aer h9
 have e2:jK ((mH f).size:Nat) f.t (tH f.e) f.st++(⟨#[]⟩:ByteArray)=jK ((mH f).size:Nat) f.t (tH f.e) f.st:=by
  apply ByteArray.ext;simp[ByteArray.data_append]
 have hb:KB ((xP f).extract 0 9)=0/\HO ((xP f).extract 0 9) 0 3=((mH f).size:Nat)/\HO ((xP f).extract 0 9) 3 4=f.t/\HO ((xP f).extract 0 9) 4 5=tH f.e/\HO ((xP f).extract 0 9) 5 9=f.st:=by
  rw[e1,<- e2];exact hb
 obtain⟨c1,c2,c3,c4,c5⟩:=hb
 have sLe:sL (xP f)=((mH f).size:Nat):=c2
 have sTe:sT (xP f)=f.t:=c3
 have sFe:sF (xP f)=tH f.e:=c4
 have sSe:sS (xP f)=f.st:=c5
 have sQe:sQ (xP f)=mH f:=by
  unfold sQ
  rw[sLe,Int.toNat_natCast,J1]
  exact Zu h9 rfl
 have he:(tH f.e == 1)=f.e:=by cases f.e <;> rfl
 have hbr:=Fe f.e
 obtain⟨r1,r2,r3,r4,r5,r6,r7,r8,r9,r10,r11,r12,r13,r14,r15,r16,r17,r18,r19,r20,r21⟩:=h
 have hbe:tH f.e≠0->f.t<=1:=fun hq=>r5 (by
  cases hh:f.e with
  |true=>rfl
  |false=>rw[hh] at hq;exact absurd rfl hq)
 have hfit:mW ((mH f).size:Nat) f.t (tH f.e) f.st=0:=by
  unfold mW EH
  rw[if_neg (by omega),if_neg (by omega),if_neg (by omega),if_neg (by omega),if_neg (by omega)]
  rw[if_neg]
  intro hq
  (repeat' split at hq) <;> omega
 have hgE0:gE ((mH f).size:Nat) f.t (tH f.e) f.st (mH f)=0:=by
  unfold gE
  rw[if_pos hfit,if_pos rfl,if_pos]
  unfold gOk gB gY
  rw[he,b1,b2,b3,b4,b5,b6,b7,b8,b9]
  simp only[Bool.and_eq_true,decide_eq_true_eq]
  exact⟨hchk,rfl⟩
 refine⟨Al9 (by omega) c1 (by rw[sLe,sTe,sFe,sSe];exact hfit) (by rw[sLe];omega) (by rw[sLe,sTe,sFe,sSe,sQe];exact hgE0),sLe,?_⟩
 unfold G8 frA jH
 dsimp only
 rw[sTe,sSe,sFe,sQe,he,b1,b2,b3,b4,b5,b6,b7,b8,b9]
 obtain⟨k1,k2,k3⟩:=hc
 obtain⟨t,st,e,d,k,on,w,x,c,la,n,pa,pn,pc,ps⟩:=f
 cases k1;cases k2
 dsimp only at k3 ⊢
 rw[k3]
theorem Ao2 (p:ByteArray):hZ p.data.toList=p:=by unfold hZ;simp
theorem Ang {p:ByteArray} (h:uV p=none):9+sL p<=p.size:=by
 unfold uV at h
 split at h
 ·cases h
 ·split at h
  ·split at h
   ·split at h
    ·cases h
    ·omega
   ·cases h
  ·cases h
theorem Aju:pF []=([],[],0):=uR (by unfold uV;rw[if_pos (by rw[i8];decide)])
theorem Mr (f:Fm) (T:List Fm):kC (f::T)=(xP f).data.toList++kC T:=by unfold kC;simp
theorem Acm:∀ {T:List Fm} {a b:List UInt8},(∀f∈T,bR f/\AI f)->kC T=a++b->∃T1 T2 r,T=T1++T2/\(pF a).1.map G8=T1/\(pF a).2=(r,0)/\kC T2=r++b
 | [],a,b,_,h=>by
  have h:a++b= []:=h.symm
  obtain⟨ha,hb⟩:=List.append_eq_nil_iff.1 h
  subst ha hb
  rw[Aju]
  exact⟨[],[],[],rfl,rfl,rfl,rfl⟩
 |f::T,a,b,hT,h=>by
  obtain⟨hR,hC⟩:=hT f (List.mem_cons_self ..)
  have hT2:∀g∈T,bR g/\AI g:=fun g hg=>hT g (List.mem_cons_of_mem _ hg)
  obtain⟨s1,s2,s3⟩:=Aep hR hC
  have hk:W2 ((mH f).size:Nat) f.t (tH f.e) f.st=true:=vH hR
  have hz:(xP f).size=9+(mH f).size:=by rw[J1,ByteArray.size_append,yW hk]
  have hfl:(xP f).data.toList.length=(xP f).size:=Array.length_toList
  rw[Mr] at h
  generalize hfb:(xP f).data.toList=fb at h hfl
  have hbs:hZ fb=xP f:=by rw[<- hfb,Ao2]
  by_cases hlt:a.length<fb.length
  ·have e1:a=fb.take a.length:=by
    have:=congrArg (List.take a.length) h
    rw[List.take_append_of_le_length (by omega),List.take_left] at this
    exact this.symm
   have e2:fb=a++fb.drop a.length:=by
    conv=>lhs;rw[<- List.take_append_drop a.length fb]
    rw[<- e1]
   cases hs:uV (hZ a) with
   |none=>
    exfalso
    have hkp:=(VM (b:=fb.drop a.length) hs).2.1
    rw[<- e2,hbs,s2] at hkp
    have:=Ang hs
    rw[i8,<- hkp] at this
    omega
   |some e=>
    by_cases he:e=0
    ·subst he
     rw[uR hs]
     exact⟨[],f::T,a,rfl,rfl,rfl,by rw[Mr,hfb];exact h⟩
    ·exfalso
     have:=Akj (b:=fb.drop a.length) hs he
     rw[<- e2,hbs,s1] at this
     cases this
  ·have e1:fb=a.take fb.length:=by
    have:=congrArg (List.take fb.length) h
    rw[List.take_left,List.take_append_of_le_length (by omega)] at this
    exact this
   have e2:a=fb++a.drop fb.length:=by
    conv=>lhs;rw[<- List.take_append_drop fb.length a]
    rw[<- e1]
   generalize a.drop fb.length=a' at e2
   subst e2
   rw[List.append_assoc] at h
   have h2:kC T=a'++b:=List.append_cancel_left h
   obtain⟨T1,T2,r,q1,q2,q3,q4⟩:=Acm (T:=T) (a:=a') (b:=b) hT2 h2
   have hn:uV (hZ fb)=none:=by rw[hbs];exact s1
   obtain⟨k1,k2,k3⟩:=VM (b:=a') hn
   rw[hbs,s2] at k2
   rw[hbs,s3] at k3
   have hdr:(fb++a').drop (9+sL (hZ (fb++a'))).toNat=a':=by
    rw[k2]
    exact List.drop_left' (by omega)
   rw[EI k1,hdr]
   refine⟨f::T1,T2,r,by rw[q1];rfl,?_,q3,q4⟩
   rw[List.map_cons,k3,q2]
end Go.Proofs.YtepnmcipkangkaaGreat
namespace Go.Proofs.YtepnmcipkangkaaGreat
open Go Go.Proofs Go.Sl
variable {s s' s2 b b' a a':Cn} {id k code w o st nx' n B L Q sa na:Int} {gone:Bool} {m:Sm} {f g:Fm} {xs T S gl Ta Tb T2:List Fm} {z:Ld} {t:dZ} {d:ByteArray} {q:Cn->List Fm->Prop}
structure Jn where
 sd:Int
 nx:Int
 la:Int
 got:Int
 gr:Int
 sp:Int
 n0:Int
 pe:dZ
 sh:Gm
 out:List Fm
 dr:Dr
 last:ByteArray
 ev:Int
 li:Int
def jn (s:Cn):Jn:=⟨s.sd,s.nx,s.la,s.rv.got,s.rv.gr,s.ld.sp,s.ld.n0,s.pe,s.sh,s.out,s.dr,s.last,s.bt.ev,s.sl.li⟩
structure Sb (s s':Cn):Prop where
 j:jn s'=jn s
 l:∀e∈s'.ld.l,e∈s.ld.l
theorem Sb.rfl':Sb s s:=⟨rfl,fun _ h=>h⟩
theorem Sb.trans (h:Sb s s') (h2:Sb s' s2):Sb s s2:=⟨h2.j.trans h.j,fun e he=>h.l e (h2.l e he)⟩
theorem U1:(kJ id z).sp=z.sp/\(kJ id z).n0=z.n0/\∀e∈(kJ id z).l,e∈z.l:=by
 unfold kJ
 split
 ·exact⟨rfl,rfl,fun e he=>List.mem_of_mem_eraseIdx he⟩
 ·exact⟨rfl,rfl,fun _ h=>h⟩
theorem OM:Sb s (lI id code gone s):=by
 obtain⟨h1,h2,h3⟩:=U1 (id:=id) (z:=s.ld)
 refine⟨?_,h3⟩
 unfold jn lI
 dsimp only
 rw[h1,h2]
theorem JC:∀ {l:List Int} {s:Cn},Sb s (qK code l s)
 | [],_=>Sb.rfl'
 |id::l,s=>(OM (s:=s)).trans (JC (l:=l))
theorem HG:Sb s (kW m s):=by
 unfold kW
 split
 ·exact OM
 ·exact Sb.rfl'
theorem Adx {y:Yp}:(fL y k).got=y.got/\(fL y k).gr=y.gr:=by
 unfold fL
 split <;> exact⟨rfl,rfl⟩
theorem Nr:Sb s { s with rv:=fL s.rv k }:=by
 obtain⟨h1,h2⟩:=Adx (y:=s.rv) (k:=k)
 refine⟨?_,fun _ h=>h⟩
 unfold jn
 dsimp only
 rw[h1,h2]
theorem HV:Sb s (qI m code s):=Nr.trans OM
theorem Xa:∀ {l:List Int} {s:Cn},Sb s (mS l s)
 | [],_=>Sb.rfl'
 |id::l,s=>by
  show Sb s (mS l (match bY id s.l with
   |some m=>if m.own=true/\IB s.dr id=true then qI m 7 s else s
   |none=>s))
  refine Sb.trans ?_ (Xa (l:=l))
  split
  ·split
   ·exact HV
   ·exact Sb.rfl'
  ·exact Sb.rfl'
theorem Ab9:(uS s).dr=s.dr:=congrArg Jn.dr (JC (s:=s) (code:=s.dr.co) (l:=s.l.map Sm.id)).j
def Fl (s0 s:Cn):Prop:=(s.dr.ov=true/\s.dr.co=11)/\s.rv.gr=s0.rv.gr
theorem Fl.of {s0:Cn} (h:Fl s s') (he:s.rv.gr=s0.rv.gr):Fl s0 s':=⟨h.1,h.2.trans he⟩
theorem Alk (h:s.dr.ov=false):Fl s (iA 18 0 s):=by
 refine⟨?_,congrArg Jn.gr (JC (s:= { s with dr:=wJ s.dr (iY 18 0),last:=xP (zM s.la (iY 18 0)) }) (code:=(wJ s.dr (iY 18 0)).co) (l:=s.l.map Sm.id)).j⟩
 have e:(iA 18 0 s).dr=wJ s.dr (iY 18 0):=by
  unfold iA
  exact Ab9
 have e2:iY 18 0=11:=by decide
 rw[e,e2]
 unfold wJ Eo pH
 rw[h]
 exact⟨rfl,rfl⟩
theorem DK (h:f.t≠10/\f.t≠11) (hE:zB f xs=0):wK f xs=xs++ [jH f]:=by
 have hl:∀x:Fm,qS f x=false:=fun x=>by
  unfold qS
  simp[h.1,h.2]
 have hx:∀l:List Fm,tU f l=l.length:=fun l=>by
  induction l with
  |nil=>rfl
  |cons x l ih=>
   unfold tU at ih ⊢
   rw[List.takeWhile_cons_of_pos (by rw[hl];rfl),List.length_cons,List.length_cons,ih]
 unfold wK
 rw[if_neg (by rw[hE];decide),hx,List.getElem?_eq_none (Nat.le_refl _)]
structure Pu1 (s s':Cn) (g:Fm):Prop where
 r:bR g
 j:jn s'= { jn s with out:=s.out++ [g] }
 l:∀e∈s'.ld.l,e∈s.ld.l
theorem MF (h:f.t≠10/\f.t≠11) (hc:AI f) (ho:s.dr.ov=false):Pu1 s (mQ f s) f\/Fl s (mQ f s):=by
 unfold mQ
 by_cases hE:zB f s.out=0
 ·rw[if_pos hE]
  left
  have hr:bR f:=(iX f).1 (by
   cases hq:lM f
   ·exact absurd hE (by unfold zB;rw[if_pos hq];decide)
   ·rfl)
  refine⟨hr,?_,fun _ h=>h⟩
  unfold jn
  dsimp only
  rw[DK h hE,z7 hc]
 ·rw[if_neg hE];exact .inr (Alk ho)
theorem Sb.ov (h:Sb s s'):s'.dr.ov=s.dr.ov:=congrArg (fun j=>j.dr.ov) h.j
theorem Pu1.of (h:Sb s s') (h2:Pu1 s' s2 g):Pu1 s s2 g:=⟨h2.r,by rw[h2.j,h.j,show s'.out=s.out from congrArg Jn.out h.j],fun e he=>h.l e (h2.l e he)⟩
theorem Ij {c:Int}:AI (fK st c):=⟨rfl,rfl,rfl⟩
theorem Ac2 (hw:K0 w=false) (ho:s.dr.ov=false):Pu1 s (i3 w st s) (fK st (iY w 0))\/Fl s (i3 w st s):=by
 unfold i3
 rw[if_neg (by rw[hw];decide)]
 have key:∀z,Sb s z->Pu1 s (mQ (fK st (iY w 0)) z) (fK st (iY w 0))\/Fl s (mQ (fK st (iY w 0)) z):=fun z hs=>by
  rcases MF (f:=fK st (iY w 0)) (s:=z) ⟨by show(4:Int)≠10;decide,by show(4:Int)≠11;decide⟩ Ij (by rw[hs.ov];exact ho) with h|h
  ·exact .inl (h.of hs)
  ·exact .inr (h.of (congrArg Jn.gr hs.j))
 cases bY st s.l with
 |none=>exact key s Sb.rfl'
 |some m=>exact key _ HV
section
variable {sd nx la:Int}
def AJ (la:Int) (f:Fm):Int:=if f.t=2 then f.st else la
def w9 (la:Int) (l:List Fm):Int:=l.foldl AJ la
def psI (ps:List Pr):Prop:=∀p∈ps,0<=p.v/\p.v<=4096
structure FO (sd nx la:Int) (f:Fm):Prop where
 r:bR f
 c:AI f
 op:f.t=2->nF sd la f.st=0/\f.on≠f.st
 pr:f.t=3->f.on≠f.st
 se:f.t=5->psI f.ps
 go:f.t=9->f.c=0
 wh:f.t=10->1<=f.n
 pa:f.st≠0->f.t≠2->gF sd nx la f.st=true
def YX (sd nx:Int):Int->List Fm->Prop
 |_,[]=>True
 |la,f::r=>FO sd nx la f/\YX sd nx (AJ la f) r
theorem uI:∀ {S:List Fm} {la:Int},YX sd nx la (S++T)↔YX sd nx la S/\YX sd nx (w9 la S) T
 | [],la=>⟨fun h=>⟨trivial,h⟩,fun h=>h.2⟩
 |f::S,la=>by
  show FO sd nx la f/\YX sd nx (AJ la f) (S++T)↔(FO sd nx la f/\YX sd nx (AJ la f) S)/\YX sd nx (w9 (AJ la f) S) T
  rw[uI (S:=S),and_assoc]
theorem Gc:w9 la (S++T)=w9 (w9 la S) T:=by unfold w9;rw[List.foldl_append]
theorem Z6 (h:gF sd nx la st=true) (hn:nx<=nx'):gF sd nx' la st=true:=by
 unfold gF at *
 simp only[Bool.and_eq_true,decide_eq_true_eq] at *
 refine⟨h.1,?_⟩
 have h2:=h.2
 split at h2
 ·rename_i hq;rw[if_pos hq];simp only[decide_eq_true_eq] at *;omega
 ·rename_i hq;rw[if_neg hq];exact h2
theorem FO.mono (h:FO sd nx la f) (hn:nx<=nx'):FO sd nx' la f:= { h with pa:=fun h1 h2=>Z6 (h.pa h1 h2) hn }
theorem Qq (hn:nx<=nx'):∀ {S:List Fm} {la:Int},YX sd nx la S->YX sd nx' la S
 | [],_,_=>trivial
 |f::S,la,h=>⟨h.1.mono hn,Qq hn h.2⟩
def dS (T:List Fm):Int:=(T.map fun f=>if f.t=0 then(f.d.size:Int) else 0).sum
def gS (id:Int) (T:List Fm):Int:=(T.map fun f=>if f.t=10/\f.st=id then f.n else 0).sum
def nT (t:Int) (T:List Fm):Nat:=(T.filter fun f=>f.t == t).length
theorem M5:dS (f::T)=(if f.t=0 then(f.d.size:Int) else 0)+dS T:=by simp[dS]
theorem wU:gS id (f::T)=(if f.t=10/\f.st=id then f.n else 0)+gS id T:=by simp[gS]
theorem NL:dS (S++T)=dS S+dS T:=by simp[dS]
theorem t6:gS id (S++T)=gS id S+gS id T:=by simp[gS]
theorem Jt:nT n (S++T)=nT n S+nT n T:=by simp[nT]
theorem HH:nT n (f::T)=(if f.t=n then 1 else 0)+nT n T:=by
 unfold nT
 by_cases h:f.t=n
 ·rw[if_pos h,List.filter_cons_of_pos (by simpa using h),List.length_cons];omega
 ·rw[if_neg h,List.filter_cons_of_neg (by simpa using h)];omega
theorem Ap4:0<=dS T:=by
 induction T with
 |nil=>exact Int.le_refl _
 |cons f T ih=>rw[M5];split <;> omega
theorem vL (h:bR f):0<=f.n/\f.n<=2147483647:=by
 obtain⟨r1,r2,r3,r4,r5,r6,r7,r8,r9,r10,r11,r12,r13,r14,r15,r16,r17,r18,r19,r20,r21⟩:=h
 exact(oV _).1 r20
theorem Qd:∀ {T:List Fm} {la:Int},YX sd nx la T->0<=gS id T
 | [],_,_=>Int.le_refl _
 |f::T,la,h=>by
  have:=Qd h.2
  have:=vL h.1.r
  rw[wU];split <;> omega
structure An (b:Cn) (la:Int) (f g:Fm):Prop where
 r:bR g
 c:AI g
 t:g.t=4/\gF b.sd b.nx la g.st=true\/(g.t=6/\f.t=5\/g.t=8)/\g.st=0
def pww:Int->List Pr->Int
 |w,[]=>w
 |w,p::r=>pww (if p.i=1 then p.v else w) r
structure Ef (b b':Cn) (f:Fm) (gl:List Fm):Prop where
 sd:b'.sd=b.sd
 nx:b'.nx=b.nx
 la:b'.la=AJ b.la f
 got:b'.rv.got=b.rv.got+dS [f]
 gr:b'.rv.gr=b.rv.gr
 sp:b'.ld.sp=b.ld.sp
 n0:b'.ld.n0=b.ld.n0+gS 0 [f]
 out:b'.out=b.out++gl
 ov:b'.dr.ov=false
 co:b'.dr.co=b.dr.co
 last:b'.last=b.last
 ti:b'.bt.ev=b.bt.ev/\b'.sl.li=b.sl.li
 sh:b'.sh.l.length+nT 6 [f]=b.sh.l.length
 pe:0<=b'.pe.w/\b'.pe.w<=4096
 pwn:b'.pe.w=if f.t=5 then pww b.pe.w f.ps else b.pe.w
 ln:∀e'∈b'.ld.l,(∃e∈b.ld.l,e'.id=e.id/\e'.n - b'.pe.w<=e.n - b.pe.w+gS e.id [f]/\b'.pe.w - 4096<=e'.n)\/e'.n=b'.pe.w/\e'.id=f.st/\f.t=2
 gl:∀g∈gl,An b (AJ b.la f) f g
structure Hb (b:Cn) (f:Fm):Prop where
 ov:b.dr.ov=false
 fo:FO b.sd b.nx b.la f
 got:b.rv.got+dS [f]<=b.rv.gr
 ak:nT 6 [f]<=b.sh.l.length
 n0:b.ld.n0+gS 0 [f]<=2147483647/\0<=b.ld.n0
 pe:0<=b.pe.w/\b.pe.w<=4096
 ln:∀e∈b.ld.l,b.pe.w - 4096<=e.n/\e.n - b.pe.w<=1000000000
 la:0<=b.la
 sd:b.sd=0\/b.sd=1
theorem vA:dS [f]=(if f.t=0 then(f.d.size:Int) else 0):=by simp[dS]
theorem iN:gS id [f]=(if f.t=10/\f.st=id then f.n else 0):=by simp[gS]
theorem fT:nT n [f]=(if f.t=n then 1 else 0):=by rw[HH];simp[nT]
theorem zS (h:Hb b f) (hj:jn b'= { jn b with dr:=b'.dr }) (hov:b'.dr.ov=false/\b'.dr.co=b.dr.co) (hl:∀e∈b'.ld.l,e∈b.ld.l) (h2:f.t≠2) (h0:f.t≠0) (h10:f.t=10->f.st≠0) (h6:f.t≠6) (h5:f.t≠5):Ef b b' f []:=by
 have e1:dS [f]=0:=by rw[vA,if_neg h0]
 have e2:gS 0 [f]=0:=by rw[iN,if_neg (fun hq=>h10 hq.1 hq.2)]
 have e3:nT 6 [f]=0:=by rw[fT,if_neg h6]
 have hw:b'.pe=b.pe:=congrArg Jn.pe hj
 exact {
  sd:=congrArg Jn.sd hj
  nx:=congrArg Jn.nx hj
  la:=by unfold AJ;rw[if_neg h2];exact congrArg Jn.la hj
  got:=by rw[e1,Int.add_zero];exact congrArg Jn.got hj
  gr:=congrArg Jn.gr hj
  sp:=congrArg Jn.sp hj
  n0:=by rw[e2,Int.add_zero];exact congrArg Jn.n0 hj
  out:=by rw[List.append_nil];exact congrArg Jn.out hj
  ov:=hov.1
  co:=hov.2
  last:=congrArg Jn.last hj
  ti:=⟨congrArg Jn.ev hj,congrArg Jn.li hj⟩
  sh:=by rw[e3];exact congrArg (fun j=>j.sh.l.length) hj
  pe:=by rw[hw];exact h.pe
  pwn:=by rw[hw,if_neg h5]
  ln:=fun e' he=>.inl ⟨e',hl e' he,rfl,by
   have:=vL h.fo.r
   rw[hw,iN]
   split <;> omega,by rw[hw];exact(h.ln e' (hl e' he)).1⟩
  gl:=fun g hg=>by cases hg }
theorem Ag5 (h:Ef b s f gl) (hs:Sb s s'):Ef b s' f gl:=
 { sd:=(congrArg Jn.sd hs.j).trans h.sd
   nx:=(congrArg Jn.nx hs.j).trans h.nx
   la:=(congrArg Jn.la hs.j).trans h.la
   got:=(congrArg Jn.got hs.j).trans h.got
   gr:=(congrArg Jn.gr hs.j).trans h.gr
   sp:=(congrArg Jn.sp hs.j).trans h.sp
   n0:=(congrArg Jn.n0 hs.j).trans h.n0
   out:=(congrArg Jn.out hs.j).trans h.out
   ov:=hs.ov.trans h.ov
   co:=(congrArg (fun j=>j.dr.co) hs.j).trans h.co
   last:=(congrArg Jn.last hs.j).trans h.last
   ti:=⟨(congrArg Jn.ev hs.j).trans h.ti.1,(congrArg Jn.li hs.j).trans h.ti.2⟩
   sh:=by rw[<- h.sh];exact congrArg (fun j=>j.sh.l.length+nT 6 [f]) hs.j
   pe:=by rw[show s'.pe=s.pe from congrArg Jn.pe hs.j];exact h.pe
   pwn:=by rw[show s'.pe=s.pe from congrArg Jn.pe hs.j];exact h.pwn
   ln:=fun e he=>by
    rw[show s'.pe=s.pe from congrArg Jn.pe hs.j]
    exact h.ln e (hs.l e he)
   gl:=h.gl }
theorem Ag8 (h:Ef b s f []) (hs:Pu1 s s' g) (hg:An b (AJ b.la f) f g):Ef b s' f [g]:=
 { sd:=(congrArg Jn.sd hs.j).trans h.sd
   nx:=(congrArg Jn.nx hs.j).trans h.nx
   la:=(congrArg Jn.la hs.j).trans h.la
   got:=(congrArg Jn.got hs.j).trans h.got
   gr:=(congrArg Jn.gr hs.j).trans h.gr
   sp:=(congrArg Jn.sp hs.j).trans h.sp
   n0:=(congrArg Jn.n0 hs.j).trans h.n0
   out:=(congrArg Jn.out hs.j).trans (by show s.out++ [g]=_;rw[h.out,List.append_nil])
   ov:=(congrArg (fun j=>j.dr.ov) hs.j).trans h.ov
   co:=(congrArg (fun j=>j.dr.co) hs.j).trans h.co
   last:=(congrArg Jn.last hs.j).trans h.last
   ti:=⟨(congrArg Jn.ev hs.j).trans h.ti.1,(congrArg Jn.li hs.j).trans h.ti.2⟩
   sh:=by rw[<- h.sh];exact congrArg (fun j=>j.sh.l.length+nT 6 [f]) hs.j
   pe:=by rw[show s'.pe=s.pe from congrArg Jn.pe hs.j];exact h.pe
   pwn:=by rw[show s'.pe=s.pe from congrArg Jn.pe hs.j];exact h.pwn
   ln:=fun e he=>by
    rw[show s'.pe=s.pe from congrArg Jn.pe hs.j]
    exact h.ln e (hs.l e he)
   gl:=fun z hz=>by rw[List.mem_singleton.1 hz];exact hg }
def Wh (b b':Cn) (f:Fm):Prop:=(∃gl,Ef b b' f gl/\nT 6 gl=nT 5 [f])\/Fl b b'
end
section
variable {sd nx la:Int} {c:Cf}
theorem Wt:∀ {ps:List Pr} {s:dZ},psI ps->(0<=s.w/\s.w<=4096)->∃t,WG s ps=some t/\(0<=t.w/\t.w<=4096)/\t.w=pww s.w ps
 | [],s,_,h=>⟨s,rfl,h,rfl⟩
 |p::ps,s,hp,h=>by
  have h1:=hp p (List.mem_cons_self ..)
  show ∃t,(if 0<=p.v/\p.v<=2147483647 then WG (Nu s p) ps else none)=some t/\_
  rw[if_pos (by omega)]
  have ew:(Nu s p).w=if p.i=1 then p.v else s.w:=by
   unfold Nu
   split
   ·rfl
   ·split
    ·rfl
    ·split <;> rfl
  have:=Wt (s:=Nu s p) (fun q hq=>hp q (List.mem_cons_of_mem _ hq)) (by rw[ew];split <;> omega)
  rw[ew] at this
  exact this
theorem TZ {tt:Int} {e:Bool}:eS m tt d e=0\/eS m tt d e=6\/eS m tt d e=7\/eS m tt d e=8\/eS m tt d e=10:=by
 unfold eS
 split
 ·exact .inr (.inl rfl)
 ·split
  ·exact .inr (.inr (.inl rfl))
  ·unfold xU
   cases m.y with
   |b y=>dsimp only;repeat' split
         all_goals simp
   |i y=>dsimp only;repeat' split
         all_goals simp
theorem Akr (h:w=3\/w=4\/w=6\/w=7\/w=8\/w=10\/w=11\/w=13):K0 w=false:=by
 rcases h with rfl|rfl|rfl|rfl|rfl|rfl|rfl|rfl <;> decide
theorem Hb.at (h:Hb b f) (hj:jn b'=jn b) (hl:b'.ld=b.ld):Hb b' f:=by
 have e1:b'.sd=b.sd:=congrArg Jn.sd hj
 have e2:b'.nx=b.nx:=congrArg Jn.nx hj
 have e3:b'.la=b.la:=congrArg Jn.la hj
 have e4:b'.pe=b.pe:=congrArg Jn.pe hj
 have e5:b'.rv.got=b.rv.got:=congrArg Jn.got hj
 have e6:b'.rv.gr=b.rv.gr:=congrArg Jn.gr hj
 have e7:b'.sh=b.sh:=congrArg Jn.sh hj
 have e8:b'.dr=b.dr:=congrArg Jn.dr hj
 exact⟨by rw[e8];exact h.ov,by rw[e1,e2,e3];exact h.fo,by rw[e5,e6];exact h.got,by rw[e7];exact h.ak,by rw[hl];exact h.n0,by rw[e4];exact h.pe,by rw[hl,e4];exact h.ln,by rw[e3];exact h.la,by rw[e1];exact h.sd⟩
theorem rZ (he:Ef b s f []) (hw:K0 w=false) (hp:gF b.sd b.nx (AJ b.la f) f.st=true) (h5:f.t≠5):Wh b (i3 w f.st s) f:=by
 rcases Ac2 (w:=w) (st:=f.st) (s:=s) hw he.ov with h|h
 ·exact .inl ⟨_,Ag8 he h ⟨h.r,Ij,.inl ⟨rfl,hp⟩⟩,by rw[fT,fT,if_neg (by show ¬(4:Int)=6;decide),if_neg h5]⟩
 ·exact .inr (h.of he.gr)
theorem OE (he:Ef b s f []) (hs:Sb s s') (h5:f.t≠5):Wh b s' f:=.inl ⟨[],Ag5 he hs,by rw[fT,if_neg h5];rfl⟩
theorem Abo (h:Hb b f) (ht:f.t=0\/f.t=1) (hst:f.st≠0):Wh b (rS f b) f:=by
 have hp:=h.fo.pa hst (by omega)
 have h5:f.t≠5:=by omega
 have hl1:AJ b.la f=b.la:=if_neg (by omega)
 have hd:dS [f]=(if f.t=0 then((f.d.size:Nat):Int) else 0):=vA
 have hg:=h.got
 have hE:kL b.rv (if f.t=0 then((f.d.size:Nat):Int) else 0)=0:=by
  unfold kL
  rw[<- hd,if_neg (by omega)]
 have hrv:f7 b.rv (if f.t=0 then((f.d.size:Nat):Int) else 0)= { b.rv with got:=b.rv.got+dS [f] }:=by
  unfold f7
  rw[if_pos hE,hd]
 have he:Ef b { b with rv:= { b.rv with got:=b.rv.got+dS [f] } } f []:= {
  sd:=rfl
  nx:=rfl
  la:=hl1.symm
  got:=rfl
  gr:=rfl
  sp:=rfl
  n0:=by show b.ld.n0=b.ld.n0+_;rw[iN,if_neg (by omega),Int.add_zero]
  out:=(List.append_nil _).symm
  ov:=h.ov
  co:=rfl
  last:=rfl
  ti:=⟨rfl,rfl⟩
  sh:=by show b.sh.l.length+_=_;rw[fT,if_neg (by omega)];rfl
  pe:=h.pe
  pwn:=(if_neg (by omega)).symm
  ln:=fun e' he=>.inl ⟨e',he,rfl,by
   have:=vL h.fo.r
   rw[iN]
   dsimp only
   split <;> omega,(h.ln e' he).1⟩
  gl:=fun g hg=>by cases hg }
 unfold rS
 rw[if_neg (by rw[hE];decide),hrv]
 cases bY f.st b.l with
 |none=>exact OE he Nr h5
 |some m=>
  dsimp only
  by_cases hw:eS m f.t f.d f.e=0
  ·rw[if_neg (by rw[hw];decide)]
   refine OE (Ag5 he ?_) HG h5
   exact⟨rfl,fun _ h=>h⟩
  ·rw[if_pos hw]
   refine rZ (Ag5 he Nr) (Akr ?_) (by rw[hl1];exact hp) h5
   have:=TZ (m:=m) (tt:=f.t) (d:=f.d) (e:=f.e)
   omega
theorem Ic:(gG id n z).sp=z.sp/\(gG id n z).n0=z.n0/\∀e∈(gG id n z).l,e∈z.l\/e=⟨id,n,0⟩:=by
 unfold gG
 split
 ·exact⟨rfl,rfl,fun e he=>.inl he⟩
 ·refine⟨rfl,rfl,fun e he=>?_⟩
  rcases List.mem_append.1 he with he|he
  ·exact .inl (List.mem_of_mem_take he)
  ·rcases List.mem_cons.1 he with he|he
   ·exact .inr he
   ·exact .inl (List.mem_of_mem_drop he)
theorem Ac5 (h:Hb b f) (ht:f.t=2):Wh b (mN f b) f:=by
 obtain⟨hv,hon⟩:=h.fo.op ht
 have h5:f.t≠5:=by omega
 have hl1:AJ b.la f=f.st:=if_pos ht
 have hov:=h.ov
 have hsd:PI (1 - b.sd) f.st=true/\b.la<f.st:=by
  unfold nF at hv
  split at hv
  ·rename_i hq;exact hq
  ·cases hv
 have hps:gF b.sd b.nx f.st f.st=true:=by
  have h1:=hsd.1
  unfold PI at h1
  unfold gF PI
  simp only[Bool.and_eq_true,decide_eq_true_eq,beq_iff_eq] at h1 ⊢
  obtain⟨⟨a1,a2⟩,a3⟩:=h1
  refine⟨⟨a1,a2⟩,?_⟩
  rw[if_neg]
  ·exact decide_eq_true (Int.le_refl _)
  ·rintro⟨_,hq⟩
   have e1:(decide (1 - b.sd=0):Bool)=decide (b.sd=0):=by rw[<- a3,hq]
   have hsd2:=h.sd
   rcases hsd2 with hz|hz <;> rw[hz] at e1 <;> exact absurd e1 (by decide)
 have he:Ef b { b with la:=f.st } f []:= {
  sd:=rfl
  nx:=rfl
  la:=hl1.symm
  got:=by show b.rv.got=b.rv.got+_;rw[vA,if_neg (by omega),Int.add_zero]
  gr:=rfl
  sp:=rfl
  n0:=by show b.ld.n0=b.ld.n0+_;rw[iN,if_neg (by omega),Int.add_zero]
  out:=(List.append_nil _).symm
  ov:=h.ov
  co:=rfl
  last:=rfl
  ti:=⟨rfl,rfl⟩
  sh:=by show b.sh.l.length+_=_;rw[fT,if_neg (by omega)];rfl
  pe:=h.pe
  pwn:=(if_neg (by omega)).symm
  ln:=fun e' he=>.inl ⟨e',he,rfl,by rw[iN,if_neg (by omega)];dsimp only;omega,(h.ln e' he).1⟩
  gl:=fun g hg=>by cases hg }
 unfold mN
 rw[if_neg (by rw[hv];decide),if_neg hon]
 split
 ·exact rZ he (by decide) (by rw[hl1];exact hps) h5
 ·split
  ·exact rZ he (by decide) (by rw[hl1];exact hps) h5
  ·refine .inl ⟨[],?_,by rw[fT,if_neg h5];rfl⟩
   obtain⟨o1,o2,o3⟩:=Ic (id:=f.st) (z:=b.ld) (n:=b.pe.w)
   exact {
    sd:=rfl
    nx:=rfl
    la:=hl1.symm
    got:=by show b.rv.got=b.rv.got+_;rw[vA,if_neg (by omega),Int.add_zero]
    gr:=rfl
    sp:=by
     show(if f.k=1 then gG f.st b.pe.w b.ld else b.ld).sp=b.ld.sp
     split
     ·exact o1
     ·rfl
    n0:=by
     show(if f.k=1 then gG f.st b.pe.w b.ld else b.ld).n0=b.ld.n0+_
     rw[iN,if_neg (show ¬(f.t=10/\f.st=0) by omega),Int.add_zero]
     split
     ·exact o2
     ·rfl
    out:=(List.append_nil _).symm
    ov:=h.ov
    co:=rfl
    last:=rfl
    ti:=⟨rfl,rfl⟩
    sh:=by show b.sh.l.length+_=_;rw[fT,if_neg (by omega)];rfl
    pe:=h.pe
    pwn:=(if_neg (by omega)).symm
    ln:=fun e' he=>by
     have he:e'∈(if f.k=1 then gG f.st b.pe.w b.ld else b.ld).l:=he
     have hold:e'∈b.ld.l->(∃e∈b.ld.l,e'.id=e.id/\e'.n - b.pe.w<=e.n - b.pe.w+gS e.id [f]/\b.pe.w - 4096<=e'.n)\/e'.n=b.pe.w/\e'.id=f.st/\f.t=2:=fun hm=>.inl ⟨e',hm,rfl,by rw[iN,if_neg (by omega)];omega,(h.ln e' hm).1⟩
     split at he
     ·rcases o3 e' he with hm|hm
      ·exact hold hm
      ·exact .inr ⟨by rw[hm];rfl,by rw[hm],ht⟩
     ·exact hold he
    gl:=fun g hg=>by cases hg }
end
section
variable {sd nx la:Int} {c:Cf}
theorem Qt {a e:Int} (ha:0<=a/\a<=4096) (he:0<=e/\e<=4096) (h:-2147483647<=n+(e - a)/\n+(e - a)<=2147483647):j7 n a e=0/\uD n a e=n+(e - a):=by
 have h1:lZ a=true/\lZ e=true:=by unfold lZ;simp only[Bool.and_eq_true,decide_eq_true_eq];omega
 have h2:vW (n+(e - a))=true:=by unfold vW;simp only[Bool.and_eq_true,decide_eq_true_eq];exact h
 unfold j7 uD xM AA
 rw[if_pos h1,if_pos h1,if_pos h2,if_pos h2]
 exact⟨rfl,rfl⟩
theorem Qx {a e:Int}:∀ {l:List gQ},(∀x∈l,j7 x.n a e=0)->w7 a e l=0
 | [],_=>rfl
 |x::l,h=>by
  unfold w7
  rw[if_neg (by rw[h x (List.mem_cons_self ..)];decide)]
  exact Qx fun y hy=>h y (List.mem_cons_of_mem _ hy)
theorem Adn (h:Hb b f) (ht:f.t=5):Wh b (vV f b) f:=by
 obtain⟨t,e1,e2,e3⟩:=Wt (h.fo.se ht) h.pe
 have hpe:=h.pe
 have hz:∀x∈b.ld.l,j7 x.n b.pe.w t.w=0/\uD x.n b.pe.w t.w=x.n+(t.w - b.pe.w):=fun x hx=>by
  have:=h.ln x hx
  exact Qt hpe e2 (by omega)
 have hE:Bd b.pe.w t.w b.ld=0:=by
  unfold Bd
  rw[if_neg (fun hq=>hq.1 (Qt hpe e2 (by omega)).1)]
  exact Qx fun x hx=>(hz x hx).1
 unfold vV
 rw[e1]
 dsimp only
 rw[if_neg (by rw[hE];decide)]
 have he:Ef b { b with ld:=mA b.pe.w t.w b.ld,pe:=t } f []:= {
  sd:=rfl
  nx:=rfl
  la:=(if_neg (by omega):AJ b.la f=b.la).symm
  got:=by show b.rv.got=b.rv.got+_;rw[vA,if_neg (by omega),Int.add_zero]
  gr:=rfl
  sp:=by show(mA b.pe.w t.w b.ld).sp=_;unfold mA;split <;> rfl
  n0:=by
   show(mA b.pe.w t.w b.ld).n0=b.ld.n0+_
   rw[iN,if_neg (by omega),Int.add_zero]
   unfold mA;split <;> rfl
  out:=(List.append_nil _).symm
  ov:=h.ov
  co:=rfl
  last:=rfl
  ti:=⟨rfl,rfl⟩
  sh:=by show b.sh.l.length+_=_;rw[fT,if_neg (by omega)];rfl
  pe:=e2
  pwn:=by rw[if_pos ht];exact e3
  ln:=fun e' he=>by
   have he:e'∈(mA b.pe.w t.w b.ld).l:=he
   unfold mA at he
   rw[if_neg (by rw[hE];decide)] at he
   obtain⟨x,hx,rfl⟩:=List.mem_map.1 he
   have:=h.ln x hx
   refine .inl ⟨x,hx,rfl,?_,?_⟩
   ·show uD x.n b.pe.w t.w - t.w<=_
    rw[(hz x hx).2,iN,if_neg (by omega)];omega
   ·show t.w - 4096<=uD x.n b.pe.w t.w
    rw[(hz x hx).2];omega
  gl:=fun g hg=>by cases hg }
 rcases MF (f:=fr0 6 0) (s:= { b with ld:=mA b.pe.w t.w b.ld,pe:=t }) ⟨by show(6:Int)≠10;decide,by show(6:Int)≠11;decide⟩ ⟨rfl,rfl,rfl⟩ h.ov with hp|hp
 ·exact .inl ⟨_,Ag8 he hp ⟨hp.r,⟨rfl,rfl,rfl⟩,.inr ⟨.inl ⟨rfl,ht⟩,rfl⟩⟩,by rw[fT,fT,if_pos (show(fr0 6 0).t=6 from rfl),if_pos ht]⟩
 ·exact .inr (hp.of rfl)
theorem Ajr (h:Hb b f) (ht:f.t=6):Wh b (qM b) f:=by
 have hk:=h.ak
 rw[fT,if_pos ht] at hk
 have hne:b.sh.l≠ []:=fun e=>by rw[e] at hk;exact absurd hk (by decide)
 unfold qM
 rw[if_neg (by unfold Ak;rw[if_neg hne];decide)]
 refine .inl ⟨[],?_,by rw[fT,if_neg (by omega)];rfl⟩
 exact {
  sd:=rfl
  nx:=rfl
  la:=(if_neg (by omega):AJ b.la f=b.la).symm
  got:=by show b.rv.got=b.rv.got+_;rw[vA,if_neg (by omega),Int.add_zero]
  gr:=rfl
  sp:=rfl
  n0:=by show b.ld.n0=b.ld.n0+_;rw[iN,if_neg (by omega),Int.add_zero]
  out:=(List.append_nil _).symm
  ov:=h.ov
  co:=rfl
  last:=rfl
  ti:=⟨rfl,rfl⟩
  sh:=by
   show(dG b.sh).l.length+_=_
   rw[fT,if_pos ht]
   unfold dG
   cases hq:b.sh.l with
   |nil=>exact absurd hq hne
   |cons x r=>rfl
  pe:=h.pe
  pwn:=(if_neg (by omega)).symm
  ln:=fun e' he=>.inl ⟨e',he,rfl,by rw[iN,if_neg (by omega)];dsimp only;omega,(h.ln e' he).1⟩
  gl:=fun g hg=>by cases hg }
theorem Afk (h:Hb b f) (ht:f.t=7):Wh b (mQ (tQ 8 0 f.d false) b) f:=by
 have he:Ef b b f []:=zS h rfl ⟨h.ov,rfl⟩ (fun _ h=>h) (by omega) (by omega) (by omega) (by omega) (by omega)
 rcases MF (f:=tQ 8 0 f.d false) (s:=b) ⟨by show(8:Int)≠10;decide,by show(8:Int)≠11;decide⟩ ⟨rfl,rfl,rfl⟩ h.ov with hp|hp
 ·exact .inl ⟨_,Ag8 he hp ⟨hp.r,⟨rfl,rfl,rfl⟩,.inr ⟨.inr rfl,rfl⟩⟩,by rw[fT,fT,if_neg (by show ¬(8:Int)=6;decide),if_neg (by omega)]⟩
 ·exact .inr hp
theorem Aap (h:Hb b f) (ht:f.t=8):Wh b { b with bt:=kA b.bt b.now d } f:=by
 refine .inl ⟨[],zS h ?_ ⟨h.ov,rfl⟩ (fun _ h=>h) (by omega) (by omega) (by omega) (by omega) (by omega),by rw[fT,if_neg (by omega)];rfl⟩
 have:(kA b.bt b.now d).ev=b.bt.ev:=by unfold kA;split <;> rfl
 unfold jn
 dsimp only
 rw[this]
theorem Ad4 (h:Hb b f) (ht:f.t=9):Wh b (vP f b) f:=by
 have hov:=h.ov
 have hc:=h.fo.go ht
 have hd:(mC b.dr f.la f.c).ov=false:=by
  unfold mC
  split
  ·exact hov
  ·rw[if_neg (by omega)];exact hov
 have hd2:(mC b.dr f.la f.c).co=b.dr.co:=by
  unfold mC
  split
  ·rfl
  ·rw[if_neg (by omega)]
 unfold vP
 rw[if_neg (by rw[hd];decide)]
 have he:Ef b { b with dr:=mC b.dr f.la f.c } f []:=zS h rfl ⟨hd,hd2⟩ (fun _ h=>h) (by omega) (by omega) (by omega) (by omega) (by omega)
 exact OE he Xa (by omega)
theorem ZQ (h:Hb b f) (ht:f.t=10) (hs:f.st=0):Wh b (qQ f b) f:=by
 have hw:=h.fo.wh ht
 have hr:=vL h.fo.r
 have hn:=h.n0
 rw[iN,if_pos ⟨ht,hs⟩] at hn
 have hf:vW (b.ld.n0+f.n)=true:=by unfold vW;simp only[Bool.and_eq_true,decide_eq_true_eq];omega
 have hE:l9 0 f.n b.ld=0:=by
  unfold l9
  rw[if_pos rfl]
  unfold m9 xM
  rw[if_pos (by omega),if_pos hf]
 have hG:j0 0 f.n b.ld= { b.ld with n0:=b.ld.n0+f.n }:=by
  unfold j0
  rw[if_pos rfl]
  unfold j8 AA
  rw[if_pos (by omega),if_pos hf]
 unfold qQ
 rw[if_neg (by omega),if_neg (by rw[hE];decide),hG]
 have hli:(f5 b.sl b.now).li=b.sl.li:=by unfold f5;split <;> rfl
 refine .inl ⟨[],?_,by rw[fT,if_neg (by omega)];rfl⟩
 exact {
  sd:=rfl
  nx:=rfl
  la:=(if_neg (by omega):AJ b.la f=b.la).symm
  got:=by show b.rv.got=b.rv.got+_;rw[vA,if_neg (by omega),Int.add_zero]
  gr:=rfl
  sp:=rfl
  n0:=by show b.ld.n0+f.n=b.ld.n0+_;rw[iN,if_pos ⟨ht,hs⟩]
  out:=(List.append_nil _).symm
  ov:=h.ov
  co:=rfl
  last:=rfl
  ti:=⟨rfl,hli⟩
  sh:=by show b.sh.l.length+_=_;rw[fT,if_neg (by omega)];rfl
  pe:=h.pe
  pwn:=(if_neg (by omega)).symm
  ln:=fun e' he=>.inl ⟨e',he,rfl,by rw[iN];dsimp only;split <;> omega,(h.ln e' he).1⟩
  gl:=fun g hg=>by cases hg }
theorem TD (h0:id≠0) (hE:l9 id n z=0):(j0 id n z).sp=z.sp/\(j0 id n z).n0=z.n0/\∀e'∈(j0 id n z).l,e'∈z.l\/∃e∈z.l,e.id=id/\e'.id=id/\e'.n=e.n+n:=by
 unfold j0
 unfold l9 at hE
 rw[if_neg h0] at hE ⊢
 cases hq:pL id z.l with
 |none=>rw[hq] at hE;cases hE
 |some e=>
  rw[hq] at hE
  obtain⟨q1,q2⟩:=nV hq
  have hg:j8 e.n n=e.n+n:=by
   have hE:m9 e.n n=0:=hE
   unfold m9 xM at hE
   unfold j8 AA
   split at hE
   ·rename_i h1
    rw[if_pos h1]
    split at hE
    ·rename_i h2;rw[if_pos h2]
    ·cases hE
   ·cases hE
  refine⟨rfl,rfl,fun e' he=>?_⟩
  have he:e'∈z.l.set (nI id z.l) ⟨e.id,j8 e.n n,e.sp⟩:=he
  rcases List.mem_or_eq_of_mem_set he with hm|hm
  ·exact .inl hm
  ·refine .inr ⟨e,List.mem_of_getElem? q1,q2,by rw[hm];exact q2,by rw[hm];exact hg⟩
theorem Sc (h:Hb b f) (ht:f.t=10\/f.t=11) (hs:f.st≠0):Wh b (kT f m b) f:=by
 have hp:=h.fo.pa hs (by omega)
 have hl1:AJ b.la f=b.la:=if_neg (by omega)
 have Ex:gF b.sd b.nx (AJ b.la f) f.st=true:=by rw[hl1];exact hp
 have he:Ef b b f []:=zS h rfl ⟨h.ov,rfl⟩ (fun _ h=>h) (by omega) (by omega) (fun _=>hs) (by omega) (by omega)
 have h5:f.t≠5:=by omega
 have hli:(f5 b.sl b.now).li=b.sl.li:=by unfold f5;split <;> rfl
 unfold kT
 split
 ·exact rZ he (by decide) Ex h5
 ·split
  ·exact rZ he (by decide) Ex h5
  ·split
   ·rename_i hq1 hq2 hk
    split
    ·exact rZ he (by decide) Ex h5
    ·rename_i hE
     have hE:l9 f.st f.n b.ld=0:=by simpa using hE
     obtain⟨o1,o2,o3⟩:=TD hs hE
     have h10:f.t=10:=by
      by_cases hq:f.t=10
      ·exact hq
      ·exact absurd (by simp[hk,hq]) hq1
     refine .inl ⟨[],?_,by rw[fT,if_neg h5];rfl⟩
     exact {
      sd:=rfl
      nx:=rfl
      la:=hl1.symm
      got:=by show b.rv.got=b.rv.got+_;rw[vA,if_neg (by omega),Int.add_zero]
      gr:=rfl
      sp:=o1
      n0:=by
       show(j0 f.st f.n b.ld).n0=b.ld.n0+_
       rw[o2,iN,if_neg (fun hq=>hs hq.2),Int.add_zero]
      out:=(List.append_nil _).symm
      ov:=h.ov
      co:=rfl
      last:=rfl
      ti:=⟨rfl,hli⟩
      sh:=by show b.sh.l.length+_=_;rw[fT,if_neg (by omega)];rfl
      pe:=h.pe
      pwn:=(if_neg (by omega)).symm
      ln:=fun e' he=>by
       have hr:=vL h.fo.r
       rcases o3 e' he with hm|⟨e,hm,q1,q2,q3⟩
       ·exact .inl ⟨e',hm,rfl,by rw[iN];dsimp only;split <;> omega,(h.ln e' hm).1⟩
       ·refine .inl ⟨e,hm,by rw[q1,q2],?_,?_⟩
        ·show e'.n - b.pe.w<=_
         rw[iN,if_pos ⟨h10,q1.symm⟩];omega
        ·show b.pe.w - 4096<=_
         have:=(h.ln e hm).1;omega
      gl:=fun g hg=>by cases hg }
   ·split
    ·exact rZ he (by decide) Ex h5
    ·refine .inl ⟨[],zS h ?_ ⟨h.ov,rfl⟩ (fun _ h=>h) (by omega) (by omega) (fun _=>hs) (by omega) (by omega),by rw[fT,if_neg h5];rfl⟩
     unfold jn wV
     dsimp only
     rw[hli]
theorem Za (h:Hb b f) (ht:f.t=3\/f.t=4\/f.t=10\/f.t=11) (hs:f.st≠0):Wh b (jU f b) f:=by
 have he:Ef b b f []:=zS h rfl ⟨h.ov,rfl⟩ (fun _ h=>h) (by omega) (by omega) (fun _=>hs) (by omega) (by omega)
 have h5:f.t≠5:=by omega
 unfold jU
 rw[if_neg (fun hq=>h.fo.pr hq.1 hq.2)]
 cases bY f.st b.l with
 |none=>exact .inl ⟨[],he,by rw[fT,if_neg h5];rfl⟩
 |some m=>
  dsimp only
  split
  ·exact .inl ⟨[],zS h rfl ⟨h.ov,rfl⟩ (fun _ h=>h) (by omega) (by omega) (fun _=>hs) (by omega) (by omega),by rw[fT,if_neg h5];rfl⟩
  ·split
   ·exact OE he HV h5
   ·exact Sc h (by omega) hs
theorem O7 (h:Hb b f):Wh b (fG f b) f:=by
 obtain⟨r1,r2,r3,r4,_⟩:=h.fo.r
 unfold fG
 split
 ·exact Adn h (by assumption)
 ·split
  ·exact Ajr h (by assumption)
  ·split
   ·exact Afk h (by assumption)
   ·split
    ·exact Aap h (by assumption)
    ·split
     ·exact Ad4 h (by assumption)
     ·split
      ·exact Ac5 h (by assumption)
      ·split
       ·exact ZQ h (by omega) (by assumption)
       ·rename_i hst
        split
        ·rename_i hp
         have:=h.fo.pa hst (by omega)
         unfold vU at hp
         rw[this] at hp
         cases hp
        ·split
         ·exact Abo h (by assumption) hst
         ·exact Za h (by omega) hst
theorem UL (h:Hb b f):Wh b (bD f b) f:=by
 have h0:Hb { b with bt:=bQ b.bt b.now } f:=h.at rfl rfl
 rcases O7 h0 with⟨gl,he,hg⟩|hf
 ·refine .inl ⟨gl,?_,hg⟩
  exact⟨he.sd,he.nx,he.la,he.got,he.gr,he.sp,he.n0,he.out,he.ov,he.co,he.last,he.ti,he.sh,he.pe,he.pwn,he.ln,fun g hg=>⟨(he.gl g hg).r,(he.gl g hg).c,(he.gl g hg).t⟩⟩
 ·exact .inr hf
end
section
variable {la nx:Int}
structure HX (k:Int) (a b:Cn) (Ta Tb:List Fm):Prop where
 sq:b.dr.ov=false->YX b.sd b.nx b.la (Tb++a.out)
 hi:b.dr.ov=false->∀f∈Tb++a.out,f.t=2->f.st<a.nx
 nx:b.dr.ov=false->a.nx<=w9 b.la (Tb++a.out)+2
 dt:b.dr.ov=false->b.rv.got+dS Tb=a.ld.sp
 ak:b.dr.ov=false->nT 6 (Tb++a.out)+(if a.dr.ov=true then 0 else nT 5 (Ta++b.out))<=b.sh.l.length
 la:a.la<b.nx
 gr:a.ld.sp+a.ld.n0+(if a.dr.ov=true then 0 else gS 0 Ta)<=b.rv.gr
 n0:0<=a.ld.n0
 gs:a.dr.ov=false->∀id,gS id Ta<=4096 * k
 ln:a.dr.ov=false->∀e∈a.ld.l,a.pe.w - 4096<=e.n/\e.n - a.pe.w+gS e.id Ta<=4096 * k
 pe:0<=a.pe.w/\a.pe.w<=4096
 co:a.dr.co=0
 lst:a.last=⟨#[]⟩
 ti:a.bt.ev=0/\a.sl.li=0
 oo:a.dr.ov=true->a.out= []
 sd:a.sd=1 - b.sd
 ot:∀f∈a.out,2<=f.t/\f.t<=9
theorem MW:∀ {gl:List Fm} {sd nx la:Int},(∀g∈gl,g.t≠2/\FO sd nx la g)->YX sd nx la gl
 | [],_,_,_,_=>trivial
 |g::gl,sd,nx,la,h=>by
  obtain⟨h1,h2⟩:=h g (List.mem_cons_self ..)
  refine⟨h2,?_⟩
  rw[show AJ la g=la from if_neg h1]
  exact MW fun z hz=>h z (List.mem_cons_of_mem _ hz)
theorem DD:∀ {gl:List Fm} {la:Int},(∀g∈gl,g.t≠2)->w9 la gl=la
 | [],_,_=>rfl
 |g::gl,la,h=>by
  show w9 (AJ la g) gl=la
  rw[show AJ la g=la from if_neg (h g (List.mem_cons_self ..))]
  exact DD fun z hz=>h z (List.mem_cons_of_mem _ hz)
theorem MJ (h:∀g∈gl,g.t≠n):nT n gl=0:=by
 unfold nT
 rw[List.filter_eq_nil_iff.2 fun g hg=>by simpa using h g hg]
 rfl
theorem Gb {sb nb:Int} (h:gF sb nb la st=true) (hla:la<na) (hn:nb<=L+2) (hs:sb=1 - sa) (h01:sb=0\/sb=1) (hp:nb % 2=1↔sb=0):gF sa na L st=true:=by
 unfold gF PI at h ⊢
 simp only[Bool.and_eq_true,decide_eq_true_eq,beq_iff_eq] at h ⊢
 obtain⟨⟨q1,q2⟩,q3⟩:=h
 refine⟨⟨q1,q2⟩,?_⟩
 have key:∀z:Int,(decide (st % 2=1):Bool)=decide (z=0)↔(st % 2=1↔z=0):=fun z=>by
  constructor
  ·intro h;constructor
   ·intro h1;rw[decide_eq_true h1] at h;exact of_decide_eq_true h.symm
   ·intro h1;rw[decide_eq_true h1] at h;exact of_decide_eq_true h
  ·intro h;exact decide_eq_decide.2 h
 split at q3
 ·rename_i hq
  have hq:=(key sb).1 hq.2
  rw[if_neg (fun hz=>by have hz:=(key sa).1 hz.2;omega)]
  simp only[decide_eq_true_eq] at q3 ⊢
  omega
 ·rename_i hq
  have hq2:¬(st % 2=1↔sb=0):=fun hz=>hq ⟨⟨q1,q2⟩,(key sb).2 hz⟩
  rw[if_pos ⟨⟨q1,q2⟩,(key sa).2 (by omega)⟩]
  simp only[decide_eq_true_eq] at q3 ⊢
  omega
theorem An.fo (h:An b la f g) (hla:la<na) (hn:b.nx<=L+2) (hs:b.sd=1 - sa) (h01:b.sd=0\/b.sd=1) (hp:b.nx % 2=1↔b.sd=0):g.t≠2/\g.t≠5/\FO sa na L g:=by
 have ht:g.t=4\/g.t=6\/g.t=8:=by
  rcases h.t with⟨h1,_⟩|⟨⟨h1,_⟩|h1,_⟩ <;> omega
 refine⟨by omega,by omega,h.r,h.c,by omega,by omega,by omega,by omega,by omega,fun h0 _=>?_⟩
 rcases h.t with⟨_,h2⟩|⟨_,h2⟩
 ·exact Gb h2 hla hn hs h01 hp
 ·exact absurd h2 h0
theorem Ao4 (h:bO Q b):b.rv.gr<=Q+512:=by
 obtain⟨h1,h2,h3,h4,h5,h6⟩:=h.rv
 omega
theorem XS (hk:0<=k/\k<=1000) (ha:bO B a) (hb:bO Q b) (ho:b.dr.ov=false) (h1:HX k a b Ta (f::T2)) (h2:HX k b a (f::T2) Ta):(HX k a (bD f b) Ta T2/\HX k (bD f b) a T2 Ta/\(bD f b).dr.ov=false/\∃gl,Ef b (bD f b) f gl/\nT 6 gl=nT 5 [f])\/Fl b (bD f b):=by
 have hsq:=h1.sq ho
 have hf:FO b.sd b.nx b.la f:=hsq.1
 have hn:=vL hf.r
 have hdt:=h1.dt ho
 have hgr:=h1.gr
 have hgr2:=h2.gr
 have hn0:=h1.n0
 have hn02:=h2.n0
 have hak:=h1.ak ho
 have hbb:=ha.bb
 have hra:=Ao4 ha
 have hld:=hb.ld.2.2.2.2.1
 have hd2:=Ap4 (T:=T2)
 rw[ho,if_neg Bool.false_ne_true,wU] at hgr2
 have hgT2:∀id,0<=gS id T2:=fun id=>Qd (uI.1 hsq.2).1
 have hg0:0<=(if a.dr.ov=true then 0 else gS 0 Ta):=by
  cases hoa:a.dr.ov
  ·rw[if_neg Bool.false_ne_true];exact Qd (uI.1 (h2.sq hoa)).1
  ·rw[if_pos rfl];exact Int.le_refl _
 have hfn:∀id,0<=(if f.t=10/\f.st=id then f.n else 0):=fun id=>by split <;> omega
 have e1:dS (f::T2)=dS [f]+dS T2:=by rw[M5,vA]
 rw[e1] at hdt
 have hg2:=hgT2 0
 have hf0:=hfn 0
 have HB:Hb b f:= {
  ov:=ho
  fo:=hf
  got:=by omega
  ak:=by
   have:nT 6 ((f::T2)++a.out)=nT 6 [f]+nT 6 (T2++a.out):=by rw[List.cons_append,HH,fT]
   omega
  n0:=by rw[iN];omega
  pe:=h2.pe
  ln:=fun e he=>by
   have:=h2.ln ho e he
   rw[wU] at this
   have:=hgT2 e.id
   have:=hfn e.id
   omega
  la:=hb.la.1
  sd:=hb.sd }
 rcases UL HB with⟨gl,he,hg⟩|hF
 ·left
  generalize bD f b=b' at he
  have hpar:=hb.nx.2.2
  have hAn:∀g∈gl,g.t≠2/\g.t≠5:=fun g hg=>by
   rcases(he.gl g hg).t with⟨h1,_⟩|⟨⟨h1,_⟩|h1,_⟩ <;> omega
  have hla':AJ b.la f<a.nx:=by
   unfold AJ
   split
   ·rename_i hq;exact h1.hi ho f (List.mem_cons_self ..) hq
   ·exact h2.la
  refine⟨?_,?_,he.ov,gl,he,hg⟩
  ·exact {
    sq:=fun _=>by rw[he.sd,he.nx,he.la];exact hsq.2
    hi:=fun _ z hz=>h1.hi ho z (List.mem_cons_of_mem _ hz)
    nx:=fun _=>by rw[he.la];exact h1.nx ho
    dt:=fun _=>by rw[he.got];omega
    ak:=fun _=>by
     have e2:=he.sh
     have e3:nT 6 ((f::T2)++a.out)=nT 6 [f]+nT 6 (T2++a.out):=by rw[List.cons_append,HH,fT]
     have e4:nT 5 (Ta++b'.out)=nT 5 (Ta++b.out):=by
      rw[he.out,<- List.append_assoc,Jt,MJ fun g hg=>(hAn g hg).2];rfl
     rw[e4]
     omega
    la:=by rw[he.nx];exact h1.la
    gr:=by rw[he.gr];exact h1.gr
    n0:=h1.n0
    gs:=h1.gs
    ln:=h1.ln
    pe:=h1.pe
    co:=h1.co
    lst:=h1.lst
    ti:=h1.ti
    oo:=h1.oo
    sd:=by rw[he.sd];exact h1.sd
    ot:=h1.ot }
  ·have hfo:a.dr.ov=false->∀g∈gl,g.t≠2/\g.t≠5/\FO a.sd a.nx (w9 a.la (Ta++b.out)) g:=fun hoa g hg=>An.fo (he.gl g hg) hla' (h2.nx hoa) h2.sd hb.sd hpar
   exact {
    sq:=fun hoa=>by
     rw[he.out,<- List.append_assoc]
     exact uI.2 ⟨h2.sq hoa,MW fun g hg=>⟨(hfo hoa g hg).1,(hfo hoa g hg).2.2⟩⟩
    hi:=fun hoa z hz hz2=>by
     rw[he.nx]
     rw[he.out,<- List.append_assoc] at hz
     rcases List.mem_append.1 hz with hz|hz
     ·exact h2.hi hoa z hz hz2
     ·exact absurd hz2 (hAn z hz).1
    nx:=fun hoa=>by
     rw[he.nx,he.out,<- List.append_assoc,Gc,DD fun g hg=>(hAn g hg).1]
     exact h2.nx hoa
    dt:=fun hoa=>by rw[he.sp];exact h2.dt hoa
    ak:=fun hoa=>by
     have e2:=h2.ak hoa
     rw[ho,if_neg Bool.false_ne_true] at e2
     rw[he.ov,if_neg Bool.false_ne_true,he.out,<- List.append_assoc,Jt,hg]
     have e3:nT 5 ((f::T2)++a.out)=nT 5 [f]+nT 5 (T2++a.out):=by rw[List.cons_append,HH,fT]
     omega
    la:=by rw[he.la];exact hla'
    gr:=by
     rw[he.sp,he.n0,he.ov,if_neg Bool.false_ne_true,iN]
     omega
    n0:=by rw[he.n0,iN];omega
    gs:=fun _ id=>by
     have:=h2.gs ho id
     rw[wU] at this
     have:=hfn id
     omega
    ln:=fun _ e' he'=>by
     rcases he.ln e' he' with⟨e,hm,q1,q2,q3⟩|hq
     ·refine⟨q3,?_⟩
      have:=(h2.ln ho e hm).2
      rw[wU] at this
      rw[iN] at q2
      rw[q1]
      omega
     ·have hq:=hq.1
      have:=h2.gs ho e'.id
      rw[wU] at this
      have:=hfn e'.id
      have:=he.pe
      omega
    pe:=he.pe
    co:=he.co.trans h2.co
    lst:=he.last.trans h2.lst
    ti:=⟨he.ti.1.trans h2.ti.1,he.ti.2.trans h2.ti.2⟩
    oo:=fun hq=>by rw[he.ov] at hq;cases hq
    sd:=by rw[he.sd];exact h2.sd
    ot:=fun z hz=>by
     rw[he.out] at hz
     rcases List.mem_append.1 hz with hz|hz
     ·exact h2.ot z hz
     ·rcases(he.gl z hz).t with⟨h1,_⟩|⟨⟨h1,_⟩|h1,_⟩ <;> omega }
 ·exact .inr hF
end
section
variable {la nx:Int}
theorem HX.left (h:HX k a b Ta Tb) (hj:jn a'=jn a) (hl:∀e∈a'.ld.l,e∈a.ld.l):HX k a' b Ta Tb:=by
 have e1:a'.sd=a.sd:=congrArg Jn.sd hj
 have e2:a'.nx=a.nx:=congrArg Jn.nx hj
 have e3:a'.la=a.la:=congrArg Jn.la hj
 have e4:a'.ld.sp=a.ld.sp:=congrArg Jn.sp hj
 have e5:a'.ld.n0=a.ld.n0:=congrArg Jn.n0 hj
 have e6:a'.pe=a.pe:=congrArg Jn.pe hj
 have e7:a'.out=a.out:=congrArg Jn.out hj
 have e8:a'.dr=a.dr:=congrArg Jn.dr hj
 have e9:a'.last=a.last:=congrArg Jn.last hj
 have e10:a'.bt.ev=a.bt.ev:=congrArg Jn.ev hj
 have e11:a'.sl.li=a.sl.li:=congrArg Jn.li hj
 exact {
  sq:=by rw[e7];exact h.sq
  hi:=by rw[e7,e2];exact h.hi
  nx:=by rw[e7,e2];exact h.nx
  dt:=by rw[e4];exact h.dt
  ak:=by rw[e7,e8];exact h.ak
  la:=by rw[e3];exact h.la
  gr:=by rw[e4,e5,e8];exact h.gr
  n0:=by rw[e5];exact h.n0
  gs:=by rw[e8];exact h.gs
  ln:=by rw[e8,e6];exact fun ho e he=>h.ln ho e (hl e he)
  pe:=by rw[e6];exact h.pe
  co:=by rw[e8];exact h.co
  lst:=by rw[e9];exact h.lst
  ti:=by rw[e10,e11];exact h.ti
  oo:=by rw[e8,e7];exact h.oo
  sd:=by rw[e1];exact h.sd
  ot:=by rw[e7];exact h.ot }
theorem HX.right (h:HX k a b Ta Tb) (hj:jn b'=jn b):HX k a b' Ta Tb:=by
 have e1:b'.sd=b.sd:=congrArg Jn.sd hj
 have e2:b'.nx=b.nx:=congrArg Jn.nx hj
 have e3:b'.la=b.la:=congrArg Jn.la hj
 have e4:b'.rv.got=b.rv.got:=congrArg Jn.got hj
 have e5:b'.rv.gr=b.rv.gr:=congrArg Jn.gr hj
 have e6:b'.sh=b.sh:=congrArg Jn.sh hj
 have e7:b'.out=b.out:=congrArg Jn.out hj
 have e8:b'.dr=b.dr:=congrArg Jn.dr hj
 exact {
  sq:=by rw[e8,e1,e2,e3];exact h.sq
  hi:=by rw[e8];exact h.hi
  nx:=by rw[e8,e3];exact h.nx
  dt:=by rw[e8,e4];exact h.dt
  ak:=by rw[e8,e7,e6];exact h.ak
  la:=by rw[e2];exact h.la
  gr:=by rw[e5];exact h.gr
  n0:=h.n0
  gs:=h.gs
  ln:=h.ln
  pe:=h.pe
  co:=h.co
  lst:=h.lst
  ti:=h.ti
  oo:=h.oo
  sd:=by rw[e1];exact h.sd
  ot:=h.ot }
theorem Aen {sd nx:Int}:∀{la:Int},YX sd nx la T->∀f∈T,bR f/\AI f:=by
 induction T with
 |nil=>intro la _ f hf;cases hf
 |cons f T ih=>
  intro la h g hg
  rcases List.mem_cons.1 hg with rfl|hg
  ·exact⟨h.1.r,h.1.c⟩
  ·exact ih h.2 g hg
theorem TE (hq:∀ {b:Cn} {f:Fm} {T gl:List Fm} {Q:Int},bO Q b->b.dr.ov=false->HX k a b Ta (f::T)->q b (f::T)->Ef b (bD f b) f gl->nT 6 gl=nT 5 [f]->q (bD f b) T) (hk:0<=k/\k<=1000) (ha:bO B a) {T1:List Fm}:∀ {b:Cn} {Q:Int},bO Q b->Q+300 * T1.length<=250000000->b.dr.ov=false->HX k a b Ta (T1++T2)->HX k b a (T1++T2) Ta->q b (T1++T2)->(HX k a (cA T1 b) Ta T2/\HX k (cA T1 b) a T2 Ta/\(cA T1 b).dr.ov=false/\q (cA T1 b) T2)\/Fl b (cA T1 b):=by
 induction T1 with
 |nil=>exact fun {b Q} _ _ ho h1 h2 h3=>.inl ⟨h1,h2,ho,h3⟩
 |cons f T1 ih=>
  intro b Q hb hQ ho h1 h2 h3
  rw[List.length_cons] at hQ
  rw[List.cons_append] at h1 h2 h3
  have hr:bR f:=(h1.sq ho).1.r
  have key:=XS hk ha hb ho h1 h2
  have hI2:=Aa hb (by omega) hr
  have e:cA (f::T1) b=if(bD f b).dr.ov=true then bD f b else cA T1 (bD f b):=rfl
  rw[e]
  have hq2:∀gl,Ef b (bD f b) f gl->nT 6 gl=nT 5 [f]->q (bD f b) (T1++T2):=fun gl q4 q5=>hq hb ho h1 h3 q4 q5
  clear e
  generalize hz:bD f b=z at key hI2 hq2
  rcases key with⟨q1,q2,q3,gl,q4,q5⟩|hF
  ·rw[if_neg (by rw[q3];decide)]
   rcases ih hI2 (by omega) q3 q1 q2 (hq2 gl q4 q5) with hz|hz
   ·exact .inl hz
   ·exact .inr (hz.of q4.gr)
  ·rw[if_pos hF.1.1]
   exact .inr hF
theorem Ai9 (hq:∀ {b:Cn} {f:Fm} {T gl:List Fm} {Q:Int},bO Q b->b.dr.ov=false->HX k a b Ta (f::T)->q b (f::T)->Ef b (bD f b) f gl->nT 6 gl=nT 5 [f]->q (bD f b) T) {u w:List UInt8} (hk:0<=k/\k<=1000) (ha:bO B a) (hb:bO Q b) (hQ:Q+u.length+300 * (pF (b.inb++u)).1.length<=250000000) (ho:b.dr.ov=false) (h1:HX k a b Ta Tb) (h2:HX k b a Tb Ta) (hT:kC Tb=b.inb++(u++w)) (h3:q (eC u (aD b)).2 Tb):
  (∃T2,HX k a (fS u b) Ta T2/\HX k (fS u b) a T2 Ta/\(fS u b).dr.ov=false/\kC T2=(fS u b).inb++w/\q (fS u b) T2)\/Fl b (fS u b):=by
 have hall:=Aen (uI.1 (h1.sq ho)).1
 rw[<- List.append_assoc] at hT
 obtain⟨T1,T2,r,e1,e2,e3,e4⟩:=Acm hall hT
 have Ex:(pF (b.inb++u)).2.2=0:=congrArg Prod.snd e3
 have hp2:(pF (b.inb++u)).2.1=r:=congrArg Prod.fst e3
 have hln:T1.length=(pF (b.inb++u)).1.length:=by rw[<- e2,List.length_map]
 have hf1:(eC u (aD b)).1=T1:=e2
 have hI:=EF (u:=u) hb (by omega)
 have hbb:=hb.bb
 subst e1
 have g1:HX k a (eC u (aD b)).2 Ta (T1++T2):=h1.right rfl
 have g2:HX k (eC u (aD b)).2 a (T1++T2) Ta:=h2.left rfl fun _ h=>h
 have hin:nN (cA (eC u (aD b)).1 (eC u (aD b)).2)=nN (eC u (aD b)).2:=zH
 have hin2:(cA (eC u (aD b)).1 (eC u (aD b)).2).inb=r:=by
  have:=congrArg Prod.snd hin
  have h3:(cA (eC u (aD b)).1 (eC u (aD b)).2).inb=(eC u (aD b)).2.inb:=this
  rw[h3]
  show(if(pF (b.inb++u)).2.2=0 then(pF (b.inb++u)).2.1 else [])=r
  rw[if_pos Ex,hp2]
 have key:=TE (q:=q) hq hk ha (T1:=T1) (T2:=T2) (Ta:=Ta) hI (by rw[hln];omega) ho g1 g2 h3
 have er:fS u b=cA (eC u (aD b)).1 (eC u (aD b)).2:=by
  unfold fS
  rw[if_neg (by rw[ho];decide),if_pos (.inr Ex)]
 rw[er]
 rw[<- hf1] at key
 rcases key with⟨q1,q2,q3,q4⟩|hF
 ·exact .inl ⟨T2,q1,q2,q3,by rw[hin2];exact e4,q4⟩
 ·exact .inr (hF.of rfl)
end
end Go.Proofs.YtepnmcipkangkaaGreat
