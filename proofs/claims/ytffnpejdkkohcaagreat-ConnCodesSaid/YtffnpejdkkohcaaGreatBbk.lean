/- A part of the proof: lemmas; each with the conditions that it states. -/
import Derived.Test.YtffnpejdkkohcaaGreatBbj
set_option linter.unusedVariables false
set_option linter.unusedSimpArgs false
set_option maxRecDepth 100000
set_option maxHeartbeats 40000000
namespace Go.Proofs.YtffnpejdkkohcaaGreat
open Go Go.Proofs Go.Sl
attribute [local irreducible] ByteArray.extract qL
variable {f:Fm} {n:Int} {a b:ByteArray}
theorem mV {t:ByteArray} {i j:Nat} {a b c:List UInt8} (h:t.data.toList=a++(b++c)) (ha:a.length=i) (hb:i+b.length=j):qL t i j=o7 b:=by
 rw[wG,h,List.drop_left' ha,List.take_left' (by omega)]
theorem Aj7 (h:0<=n/\n<=255):o7 (wB n 1)=n:=x8 (by decide) h.1 (by show n<(256:Int) ^ 1;omega)
theorem Amj (h:0<=n/\n<=65535):o7 (wB n 2)=n:=x8 (by decide) h.1 (by show n<(256:Int) ^ 2;omega)
theorem W1 (h:0<=n/\n<=2147483647):o7 (wB n 4)=n:=x8 (by decide) h.1 (by show n<(256:Int) ^ 4;omega)
theorem l1 (n:Int):(wB n 1).length=1:=iT n 1
theorem l2 (n:Int):(wB n 2).length=2:=iT n 2
theorem l4 (n:Int):(wB n 4).length=4:=iT n 4
theorem S4:∀ {ps:List Pr} {p:ByteArray} {a c:List UInt8} {k:Nat},BF ps=true->p.data.toList=a++(Jg ps++c)->a.length=6 * k->(List.range' k ps.length).map (Ag9 p)=ps
 | [],_,_,_,_,_,_,_=>rfl
 |q::ps,p,a,c,k,hp,h,ha=>by
  have hq:(0<=q.i/\q.i<=65535)/\0<=q.v/\q.v<=2147483647:=by
   unfold BF y8 at hp
   simp only[List.all_cons,Bool.and_eq_true,decide_eq_true_eq] at hp
   exact⟨hp.1.1,hp.1.2⟩
  have hp2:BF ps=true:=by
   unfold BF at hp ⊢
   simp only[List.all_cons,Bool.and_eq_true] at hp
   exact hp.2
  have e:Jg (q::ps)=wB q.i 2++(wB q.v 4++Jg ps):=by unfold Jg;simp
  rw[e] at h
  have h1:qL p (6 * k) (6 * k+2)=q.i:=by
   rw[mV (a:=a) (b:=wB q.i 2) (c:=wB q.v 4++Jg ps++c) (by rw[h];simp) ha (by rw[l2]),Amj hq.1]
  have h2:qL p (6 * k+2) (6 * k+2+4)=q.v:=by
   rw[mV (a:=a++wB q.i 2) (b:=wB q.v 4) (c:=Jg ps++c) (by rw[h];simp) (by rw[List.length_append,l2,ha]) (by rw[l4]),W1 hq.2]
  have ih:=S4 (ps:=ps) (p:=p) (a:=a++(wB q.i 2++wB q.v 4)) (c:=c) (k:=k+1) hp2 (by rw[h];simp) (by simp only[List.length_append,l2,l4,ha];omega)
  rw[List.length_cons,List.range'_succ,List.map_cons,ih]
  unfold Ag9
  rw[h1,h2]
def Afa (f:Fm):Prop:=f.pa=none/\f.pc=0/\f.ps.length=f.pn
def l9 (f:Fm):ByteArray:=⟨(kE f.t f.d f.k f.on f.w f.x f.c f.la f.n f.ps).toArray⟩
theorem Lw:oU f=i9 ((l9 f).size:Nat) f.t (qX f.e) f.st++l9 f:=rfl
theorem KM:(l9 f).data.toList=kE f.t f.d f.k f.on f.w f.x f.c f.la f.n f.ps:=by unfold l9;simp
theorem Zw (h:bV f):gD f.t (l9 f)=f.d/\gK f.t (l9 f)=f.k/\gO f.t (l9 f)=f.on/\gW f.t (l9 f)=f.w/\gX f.t (l9 f)=f.x/\gC f.t (l9 f)=f.c/\gL f.t (l9 f)=f.la/\gN f.t (l9 f)=f.n/\gP f.t (l9 f)=f.ps:=by
 have hp:=KM (f:=f)
 obtain⟨t,st,e,d,k,on,w,x,c,la,n,pa,pn,pc,ps⟩:=f
 generalize hq:l9 ⟨t,st,e,d,k,on,w,x,c,la,n,pa,pn,pc,ps⟩=p at hp ⊢
 clear hq
 dsimp only at hp ⊢
 obtain⟨r1,r2,r3,r4,r5,r6,r7,r8,r9,r10,r11,r12,r13,r14,r15,r16,r17,r18,r19,r20,r21⟩:=h
 dsimp only at r1 r2 r3 r4 r5 r6 r7 r8 r9 r10 r11 r12 r13 r14 r15 r16 r17 r18 r19 r20 r21
 rw[gI] at r18 r19 r20
 have hno:¬(t=2\/t=3)->on=0/\w=0/\x=false:=fun h=>by
  cases hb:u5 on w x
  ·exact absurd (r11 hb) h
  ·exact(Qb on w x).1 hb
 have hd0:¬(t<=1\/t=7\/t=8)->d=⟨#[]⟩:=fun h=>Ue.2 (by
  cases Nat.eq_zero_or_pos d.size with
  |inl h0=>exact h0
  |inr h0=>exact absurd (r12 h0) h)
 have hps:t≠5->ps= []:=fun h=>by
  cases ps with
  |nil=>rfl
  |cons q l=>exact absurd (r10 (Nat.succ_pos _)) h
 have hk0:t≠2->k=0:=fun h=>by by_cases hk:k=0;exact hk;exact absurd (r6 hk) h
 have hc0:¬(t=4\/t=9)->c=0:=fun h=>by by_cases hk:c=0;exact hk;exact absurd (r7 hk) h
 have hl0:t≠9->la=0:=fun h=>by by_cases hk:la=0;exact hk;exact absurd (r8 hk) h
 have hn0:¬10<=t->n=0:=fun h=>by by_cases hk:n=0;exact hk;exact absurd (r9 hk) h
 unfold gD gK gO gW gX gC gL gN gP
 by_cases h23:t=2\/t=3
 ·have hdep:=r16 h23
  unfold Gb at hdep
  simp only[Bool.and_eq_true,decide_eq_true_eq] at hdep
  obtain⟨hon,hw⟩:=hdep
  rw[gI] at hon
  have hk:0<=k/\k<=255:=by
   by_cases h2:t=2
   ·have:=r15 h2;omega
   ·have:=hk0 h2;omega
  have hb:=Dt x
  unfold kE at hp
  rw[if_pos h23] at hp
  rw[if_neg (by omega),if_pos h23,if_pos h23,if_pos h23,if_pos h23,if_neg (by omega),if_neg (by omega),if_neg (by omega),if_neg (by omega),if_neg (by omega)]
  have q1:qL p 0 1=k:=by rw[mV (i:=0) (a:= []) (b:=wB k 1) (by rw[hp];rfl) rfl (by rw[l1]),Aj7 hk]
  have q2:qL p 1 2=qX x:=by rw[mV (a:=wB k 1) (b:=wB (qX x) 1) (by rw[hp]) (l1 _) (by rw[l1]),Aj7 (by omega)]
  have q3:qL p 2 3=w - 1:=by rw[mV (a:=wB k 1++wB (qX x) 1) (b:=wB (w - 1) 1) (by rw[hp];simp only[List.append_assoc];rfl) (by simp only[List.length_append,l1]) (by rw[l1]),Aj7 (by omega)]
  have q4:qL p 4 8=on:=by rw[mV (a:=wB k 1++wB (qX x) 1++wB (w - 1) 1++wB 0 1) (b:=wB on 4) (c:= []) (by rw[hp];simp only[List.append_assoc,List.append_nil]) (by simp only[List.length_append,l1]) (by rw[l4]),W1 hon]
  rw[q1,q2,q3,q4]
  refine⟨(hd0 (by omega)).symm,rfl,rfl,by omega,?_,(hc0 (by omega)).symm,(hl0 (by omega)).symm,(hn0 (by omega)).symm,(hps (by omega)).symm⟩
  cases x <;> rfl
 ·obtain⟨z1,z2,z3⟩:=hno h23
  subst z1 z2 z3
  rw[if_neg h23,if_neg h23,if_neg h23,if_neg h23]
  unfold kE at hp
  rw[if_neg h23] at hp
  have hk:=hk0 (by omega)
  subst hk
  by_cases h4:t=4
  ·rw[if_pos h4] at hp
   rw[if_neg (by omega),if_pos h4,if_neg (by omega),if_neg (by omega),if_neg (by omega)]
   have q1:qL p 0 4=c:=by rw[mV (i:=0) (a:= []) (b:=wB c 4) (c:= []) (by rw[hp];simp) rfl (by rw[l4]),W1 r18]
   exact⟨(hd0 (by omega)).symm,rfl,rfl,rfl,rfl,q1,(hl0 (by omega)).symm,(hn0 (by omega)).symm,(hps (by omega)).symm⟩
  ·rw[if_neg h4] at hp
   by_cases h9:t=9
   ·rw[if_pos h9] at hp
    rw[if_neg (by omega),if_neg h4,if_pos h9,if_pos h9,if_neg (by omega),if_neg (by omega)]
    have q1:qL p 0 4=la:=by rw[mV (i:=0) (a:= []) (b:=wB la 4) (c:=wB c 4) (by rw[hp];rfl) rfl (by rw[l4]),W1 r19]
    have q2:qL p 4 8=c:=by rw[mV (a:=wB la 4) (b:=wB c 4) (c:= []) (by rw[hp];simp) (l4 _) (by rw[l4]),W1 r18]
    exact⟨(hd0 (by omega)).symm,rfl,rfl,rfl,rfl,q2,q1,(hn0 (by omega)).symm,(hps (by omega)).symm⟩
   ·rw[if_neg h9] at hp
    have hc:=hc0 (by omega)
    have hla:=hl0 h9
    subst hc hla
    by_cases h10:t=10\/t=11
    ·rw[if_pos h10] at hp
     rw[if_neg (by omega),if_neg h4,if_neg h9,if_neg h9,if_pos h10,if_neg (by omega)]
     have q1:qL p 0 4=n:=by rw[mV (i:=0) (a:= []) (b:=wB n 4) (c:= []) (by rw[hp];simp) rfl (by rw[l4]),W1 r20]
     exact⟨(hd0 (by omega)).symm,rfl,rfl,rfl,rfl,rfl,rfl,q1,(hps (by omega)).symm⟩
    ·rw[if_neg h10] at hp
     have hn:=hn0 (by omega)
     subst hn
     rw[if_neg h4,if_neg h9,if_neg h9,if_neg h10]
     by_cases h5:t=5
     ·have hd:=hd0 (by omega)
      subst hd
      rw[if_neg (by omega),if_pos h5]
      have hp:p.data.toList= []++(Jg ps++ []):=by rw[hp];simp
      have hsz:p.size=6 * ps.length:=by
       have:p.data.toList.length=p.size:=Array.length_toList
       rw[<- this,hp];simp[vQ]
      refine⟨rfl,rfl,rfl,rfl,rfl,rfl,rfl,rfl,?_⟩
      unfold Le
      rw[hsz,Nat.mul_div_cancel_left _ (by decide),List.range_eq_range']
      exact S4 r17 hp rfl
     ·have hz:=hps h5
      subst hz
      have hp:p.data.toList=d.data.toList:=by rw[hp];simp[Jg]
      have hpd:p=d:=ByteArray.ext (Array.toList_inj.1 hp)
      subst hpd
      rw[if_neg h5]
      refine⟨?_,rfl,rfl,rfl,rfl,rfl,rfl,rfl,rfl⟩
      by_cases h78:t=0\/t=1\/t=7\/t=8
      ·rw[if_pos h78]
      ·rw[if_neg h78];exact(hd0 (by omega)).symm
theorem Yc (h:bV f):((l9 f).size<=256)/\(f.t=5->(l9 f).size=6 * f.ps.length)/\(f.t=2\/f.t=3\/f.t=7\/f.t=8\/f.t=9->(l9 f).size=8)/\(f.t=4\/f.t=10\/f.t=11->(l9 f).size=4)/\(f.t=6->(l9 f).size=0):=by
 have h0:=(BB h).2
 have hs:(l9 f).size=(kE f.t f.d f.k f.on f.w f.x f.c f.la f.n f.ps).length:=by rw[<- KM];exact Array.length_toList.symm
 rw[hs]
 obtain⟨r1,r2,r3,r4,r5,r6,r7,r8,r9,r10,r11,r12,r13,r14,r15,r16,r17,r18,r19,r20,r21⟩:=h
 have hd:f.d.data.toList.length=f.d.size:=Array.length_toList
 refine⟨h0,fun h5=>?_,fun h8=>?_,fun h4=>?_,fun h6=>?_⟩
 ·unfold kE
  rw[if_neg (by omega),if_neg (by omega),if_neg (by omega),if_neg (by omega),List.length_append,vQ,hd]
  have:=r12
  omega
 ·unfold kE
  by_cases h23:f.t=2\/f.t=3
  ·rw[if_pos h23];simp only[List.length_append,l1,l4]
  ·rw[if_neg h23,if_neg (by omega)]
   by_cases h9:f.t=9
   ·rw[if_pos h9];simp only[List.length_append,l4]
   ·rw[if_neg h9,if_neg (by omega),List.length_append,vQ,hd]
    have:=r14 (by omega)
    have:=r10
    omega
 ·unfold kE
  rw[if_neg (by omega)]
  by_cases h44:f.t=4
  ·rw[if_pos h44,l4]
  ·rw[if_neg h44,if_neg (by omega),if_pos (by omega),l4]
 ·unfold kE
  rw[if_neg (by omega),if_neg (by omega),if_neg (by omega),if_neg (by omega),List.length_append,vQ,hd]
  have:=r12
  have:=r10
  omega
theorem YX {n:Nat} (h:a.size=n):(a++b).extract 0 n=a:=by
 apply ByteArray.ext
 apply Array.toList_inj.1
 have e:a.data.toList.length=a.size:=Array.length_toList
 simp only[ByteArray.data_extract,ByteArray.data_append,Array.toList_extract,Array.toList_append,List.extract,List.drop_zero,Nat.sub_zero]
 exact List.take_left' (by omega)
theorem U2 {n m:Nat} (h:a.size=n) (h2:b.size=m):(a++b).extract n (n+m)=b:=by
 apply ByteArray.ext
 apply Array.toList_inj.1
 have e:a.data.toList.length=a.size:=Array.length_toList
 have e2:b.data.toList.length=b.size:=Array.length_toList
 simp only[ByteArray.data_extract,ByteArray.data_append,Array.toList_extract,Array.toList_append,List.extract]
 rw[List.drop_left' (by omega),List.take_of_length_le (by omega)]
theorem YL (h:bV f) (hc:Afa f):Bn (oU f)=none/\sL (oU f)=((l9 f).size:Nat)/\F5 (oU f)=f:=by
 have hk:NN ((l9 f).size:Nat) f.t (qX f.e) f.st=true:=uG h
 have h9:=wA hk
 have hb:=Ak0 (b:=⟨#[]⟩) hk
 obtain⟨b1,b2,b3,b4,b5,b6,b7,b8,b9⟩:=Zw h
 obtain⟨p1,p2,p3,p4,p5⟩:=Yc h
 have hchk:=(lT f).2 h
 have hz:(oU f).size=9+(l9 f).size:=by rw[Lw,ByteArray.size_append];show(i9 _ _ _ _).size+_=_;rw[h9]
 have e1:(oU f).extract 0 9=i9 ((l9 f).size:Nat) f.t (qX f.e) f.st:=by rw[Lw];exact YX h9
 have e2:i9 ((l9 f).size:Nat) f.t (qX f.e) f.st++(⟨#[]⟩:ByteArray)=i9 ((l9 f).size:Nat) f.t (qX f.e) f.st:=by
  apply ByteArray.ext;simp[ByteArray.data_append]
 have hb:Xq ((oU f).extract 0 9)=0/\Gy ((oU f).extract 0 9) 0 3=((l9 f).size:Nat)/\Gy ((oU f).extract 0 9) 3 4=f.t/\Gy ((oU f).extract 0 9) 4 5=qX f.e/\Gy ((oU f).extract 0 9) 5 9=f.st:=by
  rw[e1,<- e2];exact hb
 obtain⟨c1,c2,c3,c4,c5⟩:=hb
 have sLe:sL (oU f)=((l9 f).size:Nat):=c2
 have sTe:sT (oU f)=f.t:=c3
 have sFe:sF (oU f)=qX f.e:=c4
 have sSe:sS (oU f)=f.st:=c5
 have sQe:sQ (oU f)=l9 f:=by
  unfold sQ
  rw[sLe,Int.toNat_natCast,Lw]
  exact U2 h9 rfl
 have he:(qX f.e == 1)=f.e:=by cases f.e <;> rfl
 have hbr:=Dt f.e
 obtain⟨r1,r2,r3,r4,r5,r6,r7,r8,r9,r10,r11,r12,r13,r14,r15,r16,r17,r18,r19,r20,r21⟩:=h
 have hbe:qX f.e≠0->f.t<=1:=fun hq=>r5 (by
  cases hh:f.e with
  |true=>rfl
  |false=>rw[hh] at hq;exact absurd rfl hq)
 have hfit:sU ((l9 f).size:Nat) f.t (qX f.e) f.st=0:=by
  unfold sU DD
  rw[if_neg (by omega),if_neg (by omega),if_neg (by omega),if_neg (by omega),if_neg (by omega)]
  rw[if_neg]
  intro hq
  (repeat' split at hq) <;> omega
 have hgE0:gE ((l9 f).size:Nat) f.t (qX f.e) f.st (l9 f)=0:=by
  unfold gE
  rw[if_pos hfit,if_pos rfl,if_pos]
  unfold gOk gB gY
  rw[he,b1,b2,b3,b4,b5,b6,b7,b8,b9]
  simp only[Bool.and_eq_true,decide_eq_true_eq]
  exact⟨hchk,rfl⟩
 refine⟨Alv (by omega) c1 (by rw[sLe,sTe,sFe,sSe];exact hfit) (by rw[sLe];omega) (by rw[sLe,sTe,sFe,sSe,sQe];exact hgE0),sLe,?_⟩
 unfold F5 frA iN
 dsimp only
 rw[sTe,sSe,sFe,sQe,he,b1,b2,b3,b4,b5,b6,b7,b8,b9]
 obtain⟨k1,k2,k3⟩:=hc
 obtain⟨t,st,e,d,k,on,w,x,c,la,n,pa,pn,pc,ps⟩:=f
 cases k1;cases k2
 dsimp only at k3 ⊢
 rw[k3]
theorem Ak1 (p:ByteArray):kO p.data.toList=p:=by unfold kO;simp
theorem Ago:pF []=([],[],0):=u7 (by unfold Bn;rw[if_pos (by rw[m7];decide)])
end Go.Proofs.YtffnpejdkkohcaaGreat
namespace Go.Proofs.YtffnpejdkkohcaaGreat
open Go Go.Proofs Go.Sl
variable {s2 c c' s0:Cn} {code st B:Int} {gone:Bool} {m m':Sm} {f g:Fm} {xs:List Fm} {z:Ld} {L L':List fD} {cf:Cf} {i:Nat} {e:fD}
section
structure Jn where
 sd:Int
 nx:Int
 la:Int
 got:Int
 gr:Int
 sp:Int
 n0:Int
 pe:dI
 sh:EC
 out:List Fm
 dr:Dr
 last:ByteArray
 ev:Int
 li:Int
def jn (s:Cn):Jn:=⟨s.sd,s.nx,s.la,s.rv.got,s.rv.gr,s.ld.sp,s.ld.n0,s.pe,s.sh,s.out,s.dr,s.last,s.bt.ev,s.sl.li⟩
structure Sb (s s':Cn):Prop where
 j:jn s'=jn s
 l:∀e∈s'.ld.l,e∈s.ld.l
variable {s s':Cn} {id k w o:Int}
theorem Sb.rfl':Sb s s:=⟨rfl,fun _ h=>h⟩
theorem Sb.trans (h:Sb s s') (h2:Sb s' s2):Sb s s2:=⟨h2.j.trans h.j,fun e he=>h.l e (h2.l e he)⟩
theorem GO:(iK id z).sp=z.sp/\(iK id z).n0=z.n0/\∀e∈(iK id z).l,e∈z.l:=by
 unfold iK
 split
 ·exact⟨rfl,rfl,fun e he=>List.mem_of_mem_eraseIdx he⟩
 ·exact⟨rfl,rfl,fun _ h=>h⟩
theorem Aev:Sb s (kA id code gone s):=by
 obtain⟨h1,h2,h3⟩:=GO (id:=id) (z:=s.ld)
 refine⟨?_,h3⟩
 unfold jn kA
 dsimp only
 rw[h1,h2]
theorem En:∀ {l:List Int} {s:Cn},Sb s (pO code l s)
 | [],_=>Sb.rfl'
 |id::l,s=>(Aev (s:=s)).trans (En (l:=l))
theorem Acj {y:Yp}:(d8 y k).got=y.got/\(d8 y k).gr=y.gr:=by
 unfold d8
 split <;> exact⟨rfl,rfl⟩
theorem P2:(o4 s).dr=s.dr:=congrArg Jn.dr (En (s:=s) (code:=s.dr.co) (l:=s.l.map Sm.id)).j
theorem YD (h:f.t≠10/\f.t≠11) (hE:CN f xs=0):z8 f xs=xs++ [iN f]:=by
 have hl:∀x:Fm,m6 f x=false:=fun x=>by
  unfold m6
  simp[h.1,h.2]
 have hx:∀l:List Fm,qZ f l=l.length:=fun l=>by
  induction l with
  |nil=>rfl
  |cons x l ih=>
   unfold qZ at ih ⊢
   rw[List.takeWhile_cons_of_pos (by rw[hl];rfl),List.length_cons,List.length_cons,ih]
 unfold z8
 rw[if_neg (by rw[hE];decide),hx,List.getElem?_eq_none (Nat.le_refl _)]
theorem Sb.ov (h:Sb s s'):s'.dr.ov=s.dr.ov:=congrArg (fun j=>j.dr.ov) h.j
end
section
structure Rs where
 id:Int
 k:Int
 cap:Int
 most:Int
 gr:Int
 got:Int
 us:Int
 en:Bool
 n:Int
 p:Nat
structure Rc where
 l:List Rs
 cap:Int
 most:Int
 gr:Int
 got:Int
 us:Int
 sd:Int
 h:dI
 pe:dI
 w:List dI
 la:Int
 o:List Int
 cl:Bool
 co:Int
def rK (co:Int) (x:Rc):Rc:= { x with l:= [],o:= [],cl:=true,co:=co }
def AN (k:Int) (x:Rc):Rc:=if 64<=x.o.length then rK 11 x else { x with o:=x.o++ [k] }
def zR (id:Int):List Rs->Option Rs
 | []=>none
 |s::r=>if s.id=id then some s else zR id r
def Ale (id:Int) (x:Rc):Rc:= { x with l:=x.l.filter fun s=>decide (s.id≠id) }
def CH (id:Int) (x:Rc):Rc:=match zR id x.l with
 |none=>x
 |some s=>Ale id (if s.k=1 then { x with us:=x.us+s.got } else x)
def tA (id:Int) (x:Rc):Rc:=AN 4 (CH id x)
def Ahr (s:Rs) (x:Rc):Rc:= { x with l:=x.l.map fun z=>if z.id=s.id then s else z }
def dN (f:Fm):Int:=if f.t=0 then(f.d.size:Nat) else 0
def Kx (s:Rs) (f:Fm):Prop:=s.k≠f.t+1\/s.en=true\/f.t=0/\0<dN f/\s.gr - s.got<dN f\/f.t=1/\(f.d≠⟨#[]⟩\/f.e=false)
instance (s:Rs) (f:Fm):Decidable (Kx s f):=by unfold Kx;infer_instance
def Ru (f:Fm) (x:Rc):Rc:=
 if 0<dN f/\x.gr - x.got<dN f then rK 3 x
 else match zR f.st x.l with
  |none=> { x with got:=x.got+dN f,us:=x.us+dN f }
  |some s=>if Kx s f then tA f.st { x with got:=x.got+dN f,us:=x.us+dN f } else Ahr { s with got:=s.got+dN f,en:=f.e } { x with got:=x.got+dN f }
def QJ (f:Fm) (p:Nat) (x:Rc):Rc:=
 if f.st % 2≠1\/f.st<=x.la then rK 1 x
 else if f.on=f.st then rK 1 { x with la:=f.st }
 else if x.h.st<=(x.l.length:Nat) then AN 4 { x with la:=f.st }
 else { x with la:=f.st,l:=x.l++ [⟨f.st,f.k,x.h.w,x.h.w,x.h.w,0,0,false,x.pe.w,p⟩] }
def wW (a b:Int) (s:Rs):Rs:=if s.k=1 then { s with n:=vR s.n a b } else s
def Ri (f:Fm) (x:Rc):Rc:=match Qg x.pe f.ps with
 |none=>x
 |some t=>if(∃s∈x.l,s.k=1/\gR s.n x.pe.w t.w≠0) then rK 3 x else AN 6 { x with l:=x.l.map (wW x.pe.w t.w),pe:=t }
def DV (w:Int) (s:Rs):Rs:=if s.k=1 then { s with cap:=w,most:=max s.most w,gr:=s.gr+w - s.cap } else s
def Abm (x:Rc):Rc:=match x.w with
 | []=>rK 1 x
 |t::r=> { x with h:=t,w:=r,l:=x.l.map (DV t.w) }
def LE (f:Fm) (s:Rs) (x:Rc):Rc:=
 if f.n=0\/(s.k=1)≠(f.t=10) then tA f.st x
 else if s.k=2 then x
 else if j5 s.n f.n≠0 then tA f.st x
 else Ahr { s with n:=gA s.n f.n } x
def LX (f:Fm) (x:Rc):Rc:=if f.n=0 then rK 1 x else if j5 x.sd f.n≠0 then rK 3 { x with sd:=gA x.sd f.n } else { x with sd:=gA x.sd f.n }
def QQ (f:Fm) (x:Rc):Rc:=
 if f.t=3/\f.on=f.st then rK 1 x
 else match zR f.st x.l with
  |none=>x
  |some s=>if f.t=3 then x else if f.t=4 then CH f.st x else LE f s x
def SE (f:Fm) (p:Nat) (x:Rc):Rc:=
 if f.t=2 then QJ f p x else if f.t=5 then Ri f x else if f.t=6 then Abm x else if f.t=7 then AN 8 x
 else if f.t=8 then x else if f.t=9 then(if f.c≠0 then rK f.c x else x)
 else if f.st=0 then LX f x else if f.st % 2≠1\/x.la<f.st then rK 1 x
 else if f.t<2 then Ru f x else QQ f x
def Alg (s:dI):Rc:=⟨[],512,512,512,0,0,512,nV,nV,[s],0,[5],false,0⟩
variable {x x':Rc} {s s':Rs} {id k w o:Int} {l:List Sm} {r:List Rs}
structure RS (L:List fD) (m:Sm) (s:Rs):Prop where
 id:m.id=s.id
 own:m.own=false
 k:bA m.x=s.k
 ok:bA m.x=jH m.y
 sta:m.sta=if s.en=true then 3 else 1
 yb:∀y,m.y=.b y->y.cap=s.cap/\y.most=s.most/\y.gr=s.gr/\y.got=s.got/\y.us=0/\(y.bs.length:Int)=y.got/\y.en=s.en
 yi:∀y,m.y=.i y->y.op=0/\y.l= []/\y.en=s.en
 n:s.k=1->∃e∈L,e.id=s.id/\e.n=s.n
 nb:s.k≠1->0<=s.n/\s.n<=2147483647
def RL (L:List fD):List Sm->List Rs->Prop
 | [],[]=>True
 |m::l,s::r=>RS L m s/\RL L l r
 | [],_::_=>False
 |_::_,[]=>False
theorem RL.len:∀ {l:List Sm} {r:List Rs},RL L l r->l.length=r.length
 | [],[],_=>rfl
 |m::l,s::r,h=>by rw[List.length_cons,List.length_cons,RL.len h.2]
 | [],_::_,h=>h.elim
 |_::_,[],h=>h.elim
theorem RL.ids:∀ {l:List Sm} {r:List Rs},RL L l r->l.map Sm.id=r.map Rs.id
 | [],[],_=>rfl
 |m::l,s::r,h=>by rw[List.map_cons,List.map_cons,h.1.id,RL.ids h.2]
 | [],_::_,h=>h.elim
 |_::_,[],h=>h.elim
theorem RL.map {p:Sm->Sm} {q:Rs->Rs}:∀ {l:List Sm} {r:List Rs},(∀m∈l,∀s∈r,RS L m s->RS L' (p m) (q s))->RL L l r->RL L' (l.map p) (r.map q)
 | [],[],_,_=>trivial
 |m::l,s::r,h,h1=>⟨h m (List.mem_cons_self ..) s (List.mem_cons_self ..) h1.1,RL.map (fun z hz y hy=>h z (List.mem_cons_of_mem _ hz) y (List.mem_cons_of_mem _ hy)) h1.2⟩
 | [],_::_,_,h=>h.elim
 |_::_,[],_,h=>h.elim
theorem RL.app:∀ {l:List Sm} {r:List Rs},RL L l r->RS L m s->RL L (l++ [m]) (r++ [s])
 | [],[],_,h=>⟨h,trivial⟩
 |_::l,_::r,h,h2=>⟨h.1,RL.app h.2 h2⟩
 | [],_::_,h,_=>h.elim
 |_::_,[],h,_=>h.elim
theorem RL.lines (h:∀e∈L,e∈L'):∀ {l:List Sm} {r:List Rs},RL L l r->RL L' l r
 | [],[],_=>trivial
 |m::l,s::r,h1=>⟨{ h1.1 with n:=fun hk=>by obtain⟨e,q1,q2⟩:=h1.1.n hk;exact⟨e,h e q1,q2⟩ },RL.lines h h1.2⟩
 | [],_::_,h=>h.elim
 |_::_,[],h=>h.elim
theorem RL.del (h:∀e∈L,e.id≠id->e∈L'):∀ {l:List Sm} {r:List Rs},RL L l r->RL L' (l.filter fun m=>decide (m.id≠id)) (r.filter fun s=>decide (s.id≠id))
 | [],[],_=>trivial
 |m::l,s::r,h1=>by
  have hi:=h1.1.id
  by_cases hd:s.id=id
  ·rw[List.filter_cons_of_neg (by simp[hi,hd]),List.filter_cons_of_neg (by simp[hd])]
   exact RL.del h h1.2
  ·rw[List.filter_cons_of_pos (by simp[hi,hd]),List.filter_cons_of_pos (by simp[hd])]
   exact⟨{ h1.1 with n:=fun hk=>by obtain⟨e,q1,q2,q3⟩:=h1.1.n hk;exact⟨e,h e q1 (by rw[q2];exact hd),q2,q3⟩ },RL.del h h1.2⟩
 | [],_::_,h=>h.elim
 |_::_,[],h=>h.elim
theorem RL.at:∀ {l:List Sm} {r:List Rs},RL L l r->(∀s,zR id r=some s->∃m∈l,RS L m s/\m.id=id/\s∈r)/\(zR id r=none->∀m∈l,m.id≠id)
 | [],[],_=>⟨fun s h=>(by cases h),fun _ m hm=>(by cases hm)⟩
 |m::l,s::r,h1=>by
  have hi:=h1.1.id
  obtain⟨i1,i2⟩:=RL.at h1.2
  have e:zR id (s::r)=if s.id=id then some s else zR id r:=rfl
  rw[e]
  by_cases hd:s.id=id
  ·rw[if_pos hd]
   exact⟨fun z hz=>by cases hz;exact⟨m,List.mem_cons_self ..,h1.1,hi.trans hd,List.mem_cons_self ..⟩,fun h=>(by cases h)⟩
  ·rw[if_neg hd]
   refine⟨fun z hz=>?_,fun hz m' hm=>?_⟩
   ·obtain⟨m',q1,q2,q3,q4⟩:=i1 z hz
    exact⟨m',List.mem_cons_of_mem _ q1,q2,q3,List.mem_cons_of_mem _ q4⟩
   ·rcases List.mem_cons.1 hm with rfl|hm
    ·rw[hi];exact hd
    ·exact i2 hz m' hm
 | [],_::_,h=>h.elim
 |_::_,[],h=>h.elim
end
section
variable {x x':Rc} {s s':Rs} {id k w o co:Int} {l:List Sm} {r:List Rs}
theorem Di:∀ {l:List Sm} {i:Nat},(l.Pairwise fun a b=>a.id<b.id)->l[i]?=some m->l.eraseIdx i=l.filter fun z=>decide (z.id≠m.id)
 |y::l,0,h,hi=>by
  obtain⟨p1,p2⟩:=List.pairwise_cons.1 h
  have e:y=m:=by simpa using hi
  subst e
  rw[List.filter_cons_of_neg (by simp)]
  show l=_
  exact(List.filter_eq_self.2 fun z hz=>by have:=p1 z hz;simp;omega).symm
 |y::l,i+1,h,hi=>by
  obtain⟨p1,p2⟩:=List.pairwise_cons.1 h
  have hi:l[i]?=some m:=by simpa using hi
  have:=p1 m (List.mem_of_getElem? hi)
  rw[List.filter_cons_of_pos (by simp;omega),List.eraseIdx_cons_succ,Di p2 hi]
theorem S5:∀ {l:List Sm} {i:Nat},(l.Pairwise fun a b=>a.id<b.id)->l[i]?=some m->l.set i m'=l.map fun z=>if z.id=m.id then m' else z
 |y::l,0,h,hi=>by
  obtain⟨p1,p2⟩:=List.pairwise_cons.1 h
  have e:y=m:=by simpa using hi
  subst e
  rw[List.map_cons,if_pos rfl,List.set_cons_zero]
  congr 1
  exact(List.map_id' l).symm.trans (List.map_congr_left fun z hz=>by have:=p1 z hz;rw[if_neg (by omega)])
 |y::l,i+1,h,hi=>by
  obtain⟨p1,p2⟩:=List.pairwise_cons.1 h
  have hi:l[i]?=some m:=by simpa using hi
  have:=p1 m (List.mem_of_getElem? hi)
  rw[List.map_cons,if_neg (by omega),List.set_cons_succ,S5 p2 hi]
theorem XT (h:∀z∈l,z.id<m.id):jT m l=l++ [m]:=by
 have e:cB m.id l=l.length:=by
  unfold cB
  induction l with
  |nil=>rfl
  |cons y l ih=>
   rw[List.takeWhile_cons_of_pos (by simpa using h y (List.mem_cons_self ..)),List.length_cons,List.length_cons,ih fun z hz=>h z (List.mem_cons_of_mem _ hz)]
 unfold jT
 rw[e,List.take_length,List.drop_length]
theorem UW (he:e∈z.l) (hi:e.id≠id):e∈(iK id z).l:=by
 unfold iK
 split
 ·rename_i hs
  obtain⟨j,hj⟩:=List.getElem?_of_mem he
  refine List.mem_eraseIdx_iff_getElem?.2 ⟨j,fun e2=>?_,hj⟩
  cases ha:lS id z.l with
  |none=>rw[ha] at hs;cases hs
  |some y=>
   obtain⟨g1,g2⟩:=mW (s:=z) ha
   rw[e2,g1] at hj
   exact hi (by rw[<- Option.some.inj hj];exact g2)
 ·exact he
structure CR (c:Cn) (x:Rc):Prop where
 ov:c.dr.ov=false
 dr:c.dr.se=false/\c.dr.co=0
 cl:x.cl=false/\x.co=0
 l:RL c.ld.l c.l x.l
 rv:c.rv.gr=x.gr/\c.rv.got=x.got/\c.rv.us=x.us
 n0:c.ld.n0=x.sd
 h:c.sh.h=x.h
 pe:c.pe=x.pe
 w:c.sh.l=x.w
 la:c.la=x.la
 o:c.out.map Fm.t=x.o
 sd:c.sd=1/\c.nx=2
 lst:c.last=⟨#[]⟩
structure CC (c:Cn) (x:Rc):Prop where
 ov:c.dr.ov=true
 cl:x.cl=true
 co:c.dr.co=x.co
 l:c.l= []/\x.l= []
 o:c.out= []/\x.o= []
 lst:c.last=⟨#[]⟩\/c.last=oU (Ci x.la x.co)
theorem rS (hI:bR B c) (ho:c.dr.ov=false) (hw:hQ w o=co) (hc:1<=co/\co<=2147483647) (hla:c.la=x.la):CC (iD w o c) (rK co x):=by
 unfold iD
 rw[hw]
 have hdr:p9 c.dr co=⟨c.dr.se,c.dr.go,true,c.dr.la,c.dr.th,co⟩:=by
  unfold p9
  rw[if_pos]
  unfold DN lM
  rw[if_neg (by rw[ho];decide),if_neg]
  rw[decide_eq_true hc.1,decide_eq_true hc.2];decide
 have hI2:bR B { c with dr:=p9 c.dr co,last:=oU (Ci c.la co) }:= { hI with }
 have hd:(o4 { c with dr:=p9 c.dr co,last:=oU (Ci c.la co) }).dr=p9 c.dr co:=P2
 refine⟨by rw[hd,hdr],rfl,by rw[hd,hdr];rfl,⟨K8 hI2,rfl⟩,⟨rfl,rfl⟩,.inr ?_⟩
 have:=congrArg Jn.last (En (s:= { c with dr:=p9 c.dr co,last:=oU (Ci c.la co) }) (code:=(p9 c.dr co).co) (l:=c.l.map Sm.id)).j
 exact this.trans (by rw[hla];rfl)
theorem Gl (hI:bR B c) (h:CR c x) (hc:l7 f=true) (ht:2<=f.t/\f.t≠10/\f.t≠11):CR (pA f c) (AN f.t x)\/CC (pA f c) (AN f.t x):=by
 have hl:c.out.length=x.o.length:=by rw[<- h.o,List.length_map]
 have hE:CN f c.out=if 64<=c.out.length then 9 else 0:=by
  have hx:∀l:List Fm,qZ f l=l.length:=fun l=>by
   induction l with
   |nil=>rfl
   |cons y l ih=>
    have hl:m6 f y=false:=by
     unfold m6
     simp[ht.2.1,ht.2.2]
    unfold qZ at ih ⊢
    rw[List.takeWhile_cons_of_pos (by rw[hl];rfl),List.length_cons,List.length_cons,ih]
  unfold CN
  rw[if_neg (by rw[hc];decide),if_neg (by omega),hx,if_neg (Nat.lt_irrefl _)]
 unfold pA AN
 by_cases h64:64<=c.out.length
 ·rw[if_neg (by rw[hE,if_pos h64];decide),if_pos (by omega)]
  exact .inr (rS hI h.ov (by decide) (by decide) h.la)
 ·have h0:CN f c.out=0:=by rw[hE,if_neg h64]
  rw[if_pos h0,if_neg (by omega),YD ht.2 h0]
  left
  exact { h with
   o:=by
    show(c.out++ [iN f]).map Fm.t=x.o++ [f.t]
    rw[List.map_append,h.o];rfl }
theorem T3 (hI:bR B c) (hk:fM cf c) (h:CR c x) (hm:bX id c.l=some m):CR (lY m co c) (CH id x):=by
 obtain⟨hi,hmid⟩:=aX hm
 have hmm:=List.mem_of_getElem? hi
 obtain⟨r1,r2⟩:=RL.at (id:=id) h.l
 unfold CH
 cases hr:zR id x.l with
 |none=>exact absurd hmid (r2 hr m hmm)
 |some s=>
  obtain⟨m2,q1,q2,q3,q4⟩:=r1 s hr
  have e:m2=m:=by
   have h1:=EO hI.sm q1
   rw[q3,hm] at h1
   exact(Option.some.inj h1).symm
  subst e
  dsimp only
  obtain⟨c1,c2,c3⟩:=GO (id:=id) (z:=c.ld)
  have hkb:=Fc hi
  have hkp:=hk.kp
  have hl:RL (iK id c.ld).l (c.l.eraseIdx (cB id c.l)) (x.l.filter fun s=>decide (s.id≠id)):=by
   rw[Di hI.sm.2 hi,hmid]
   exact RL.del (fun e he hne=>UW he hne) h.l
  obtain⟨v1,v2,v3⟩:=h.rv
  have hrv:(d8 c.rv (if bA m2.x=1 then(gH m2.y:Nat) else 0)).us=x.us+(if s.k=1 then s.got else 0):=by
   rw[q2.k]
   by_cases hx:s.k=1
   ·rw[if_pos hx,if_pos hx]
    have hxk:bA m2.x=1:=by rw[q2.k];exact hx
    obtain⟨y,hy⟩:∃y,m2.y=.b y:=by
     cases hyy:m2.y with
     |b y=>exact⟨y,rfl⟩
     |i y=>have:=q2.ok;rw[hxk,hyy] at this;cases this
    obtain⟨y1,y2,y3,y4,y5,y6,y7⟩:=q2.yb y hy
    have e1:gH m2.y=y.bs.length:=by rw[hy];rfl
    have e2:kb m2=y.bs.length:=by unfold kb;rw[if_pos hxk,e1]
    unfold d8
    rw[e1,if_pos (by omega)]
    show c.rv.us+_=_
    omega
   ·rw[if_neg hx,if_neg hx]
    unfold d8
    split
    ·show c.rv.us+0=_;omega
    ·omega
  obtain⟨u1,u2⟩:=Acj (y:=c.rv) (k:=if bA m2.x=1 then(gH m2.y:Nat) else 0)
  have e:lY m2 co c=kA id co false { c with rv:=d8 c.rv (if bA m2.x=1 then(gH m2.y:Nat) else 0) }:=by unfold lY;rw[hmid]
  have hX:(if s.k=1 then { x with us:=x.us+s.got } else x)= { x with us:=x.us+(if s.k=1 then s.got else 0) }:=by
   by_cases hx:s.k=1
   ·rw[if_pos hx,if_pos hx]
   ·rw[if_neg hx,if_neg hx,Int.add_zero]
  rw[e,hX]
  exact {
   ov:=h.ov
   dr:=h.dr
   cl:=h.cl
   l:=hl
   rv:=⟨u2.trans v1,u1.trans v2,hrv⟩
   n0:=c2.trans h.n0
   h:=h.h
   pe:=h.pe
   w:=h.w
   la:=h.la
   o:=h.o
   sd:=h.sd
   lst:=h.lst }
theorem IQ (hI:bR B c) (hk:fM cf c) (h:CR c x) (hw:Js w=false) (hst:1<=id/\id<=2147483647) (hc:0<=hQ w 0/\hQ w 0<=2147483647):CR (iM w id c) (tA id x)\/CC (iM w id c) (tA id x):=by
 have hf:l7 (nJ id (hQ w 0))=true:=by
  refine(lT _).2 ?_
  have h2:=(gI (hQ w 0)).2 hc
  have h3:y8 0=true:=by decide
  have h4:BF []=true:=Rb rfl
  have h5:(⟨#[]⟩:ByteArray)=ByteArray.empty:=rfl
  unfold bV jB nJ
  simp[h2,h3,h4,h5,u5]
  omega
 unfold iM tA
 rw[if_neg (by rw[hw];decide)]
 cases hm:bX id c.l with
 |none=>
  have e:CH id x=x:=by
   unfold CH
   cases hr:zR id x.l with
   |none=>rfl
   |some s=>
    obtain⟨m2,q1,q2,q3,q4⟩:=(RL.at (id:=id) h.l).1 s hr
    have h1:=EO hI.sm q1
    rw[q3,hm] at h1;cases h1
  rw[e]
  exact Gl (f:=nJ id (hQ w 0)) hI h hf (by show(2:Int)<=4/\(4:Int)≠10/\(4:Int)≠11;decide)
 |some m=>exact Gl (f:=nJ id (hQ w 0)) (o5 hI hm) (T3 hI hk h hm) hf (by show(2:Int)<=4/\(4:Int)≠10/\(4:Int)≠11;decide)
end
section
variable {x x':Rc} {s s':Rs} {id k w o co:Int} {l:List Sm} {r:List Rs}
def SM (c:Cn) (x:Rc):Prop:=CR c x\/CC c x
theorem RL.m1:∀ {l:List Sm} {r:List Rs},RL L l r->(∀m∈l,∃s∈r,RS L m s)/\∀s∈r,∃m∈l,RS L m s
 | [],[],_=>⟨fun m h=>(by cases h),fun m h=>(by cases h)⟩
 |m::l,s::r,h=>by
  obtain⟨i1,i2⟩:=RL.m1 h.2
  refine⟨fun y hy=>?_,fun y hy=>?_⟩
  ·rcases List.mem_cons.1 hy with rfl|hy
   ·exact⟨s,List.mem_cons_self ..,h.1⟩
   ·obtain⟨z,q1,q2⟩:=i1 y hy
    exact⟨z,List.mem_cons_of_mem _ q1,q2⟩
  ·rcases List.mem_cons.1 hy with rfl|hy
   ·exact⟨m,List.mem_cons_self ..,h.1⟩
   ·obtain⟨z,q1,q2⟩:=i2 y hy
    exact⟨z,List.mem_cons_of_mem _ q1,q2⟩
 | [],_::_,h=>h.elim
 |_::_,[],h=>h.elim
theorem RL.own (h:RL L l r):∀m∈l,m.own=false:=fun m hm=>by
 obtain⟨s,_,q⟩:=h.m1.1 m hm
 exact q.own
theorem Aac:∀ {ps:List Pr} {s:dI},BF ps=true->(0<=s.w/\s.w<=2147483647)->∃t,Qg s ps=some t/\0<=t.w/\t.w<=2147483647
 | [],s,_,h=>⟨s,rfl,h⟩
 |p::ps,s,hp,h=>by
  have h1:0<=p.v/\p.v<=2147483647:=by
   unfold BF y8 at hp
   simp only[List.all_cons,Bool.and_eq_true,decide_eq_true_eq] at hp
   exact hp.1.2
  have h2:BF ps=true:=by
   unfold BF at hp ⊢
   simp only[List.all_cons,Bool.and_eq_true] at hp
   exact hp.2
  show ∃t,(if 0<=p.v/\p.v<=2147483647 then Qg (Nb s p) ps else none)=some t/\_
  rw[if_pos h1]
  refine Aac h2 ?_
  have ew:(Nb s p).w=if p.i=1 then p.v else s.w:=by
   unfold Nb
   split
   ·rfl
   ·split
    ·rfl
    ·split <;> rfl
  rw[ew];split <;> omega
theorem XO {a b:Int}:∀ {l:List fD},uZ a b l≠0↔∃e∈l,gR e.n a b≠0
 | []=>⟨fun h=>absurd rfl h,fun⟨e,h,_⟩=>(by cases h)⟩
 |e::l=>by
  show(if gR e.n a b≠0 then gR e.n a b else uZ a b l)≠0↔_
  by_cases h:gR e.n a b≠0
  ·rw[if_pos h]
   exact⟨fun _=>⟨e,List.mem_cons_self ..,h⟩,fun _=>h⟩
  ·rw[if_neg h,XO]
   constructor
   ·rintro⟨y,q1,q2⟩;exact⟨y,List.mem_cons_of_mem _ q1,q2⟩
   ·rintro⟨y,q1,q2⟩
    rcases List.mem_cons.1 q1 with rfl|q1
    ·exact absurd q2 h
    ·exact⟨y,q1,q2⟩
theorem Ul {l:List fD} (hp:l.Pairwise fun a b=>a.id<b.id) {e':fD} (h1:e∈l) (h2:e'∈l) (h:e.id=e'.id):e=e':=by
 obtain⟨i,hi⟩:=List.getElem?_of_mem h1
 obtain⟨j,hj⟩:=List.getElem?_of_mem h2
 obtain⟨i1,rfl⟩:=List.getElem?_eq_some_iff.1 hi
 obtain⟨j1,rfl⟩:=List.getElem?_eq_some_iff.1 hj
 have hq:=List.pairwise_iff_getElem.1 hp
 rcases Nat.lt_trichotomy i j with q|q|q
 ·have:=hq i j i1 j1 q;omega
 ·subst q;rfl
 ·have:=hq j i j1 i1 q;omega
theorem ZH (hI:bR B c) (hk:fM cf c) (h:CR c x) (hr:bV f):SM (uH f c) (Ri f x):=by
 have hps:BF f.ps=true:=hr.2.2.2.2.2.2.2.2.2.2.2.2.2.2.2.2.1
 obtain⟨t,e1,e2⟩:=Aac (s:=c.pe) hps hI.pe.1
 have e3:Qg x.pe f.ps=some t:=by rw[<- h.pe];exact e1
 unfold uH Ri
 rw[e1,e3]
 dsimp only
 have hw0:¬(gR 0 c.pe.w t.w≠0/\gR 0 c.pe.w t.w≠10):=by
  have hp:=hI.pe.1
  unfold x9 at hp
  unfold gR lL zU
  rw[if_pos (by simp only[Bool.and_eq_true,decide_eq_true_eq];omega)]
  split <;> simp
 have hE:yD c.pe.w t.w c.ld≠0↔∃s∈x.l,s.k=1/\gR s.n x.pe.w t.w≠0:=by
  unfold yD
  rw[if_neg hw0,XO,<- h.pe]
  constructor
  ·rintro⟨e,q1,q2⟩
   obtain⟨m,m1,m2,m3⟩:=(hk.lk e.id).1 (List.mem_map_of_mem q1)
   obtain⟨s,s1,s2⟩:=h.l.m1.1 m m1
   have hk1:s.k=1:=by rw[<- s2.k];exact m3
   obtain⟨e',p1,p2,p3⟩:=s2.n hk1
   have:=Ul hI.ld.2.1 q1 p1 (by rw[p2,<- s2.id,m2])
   subst this
   exact⟨s,s1,hk1,by rw[<- p3];exact q2⟩
  ·rintro⟨s,s1,hk1,q2⟩
   obtain⟨m,m1,s2⟩:=h.l.m1.2 s s1
   obtain⟨e',p1,p2,p3⟩:=s2.n hk1
   exact⟨e',p1,by rw[p3];exact q2⟩
 by_cases hq:yD c.pe.w t.w c.ld≠0
 ·rw[if_pos hq,if_pos (hE.1 hq)]
  exact .inr (rS hI h.ov (by decide) (by decide) h.la)
 ·rw[if_neg hq,if_neg (fun z=>hq (hE.2 z))]
  have hc:CR { c with ld:=mG c.pe.w t.w c.ld,pe:=t } { x with l:=x.l.map (wW x.pe.w t.w),pe:=t }:=by
   have hl:(mG c.pe.w t.w c.ld)= { c.ld with l:=c.ld.l.map fun e=>⟨e.id,vR e.n c.pe.w t.w,e.sp⟩ }:=by unfold mG;rw[if_neg hq]
   exact { h with
    l:=by
     show RL (mG c.pe.w t.w c.ld).l c.l _
     rw[hl]
     have:=RL.map (L':=c.ld.l.map fun e=>⟨e.id,vR e.n c.pe.w t.w,e.sp⟩) (p:=fun m=>m) (q:=wW x.pe.w t.w) (fun m hm s hs hR=>?_) h.l
     ·rwa[List.map_id'] at this
     ·have hid:(wW x.pe.w t.w s).id=s.id/\(wW x.pe.w t.w s).k=s.k/\(wW x.pe.w t.w s).en=s.en/\(wW x.pe.w t.w s).cap=s.cap/\(wW x.pe.w t.w s).most=s.most/\(wW x.pe.w t.w s).gr=s.gr/\(wW x.pe.w t.w s).got=s.got:=by
       unfold wW;split <;> exact⟨rfl,rfl,rfl,rfl,rfl,rfl,rfl⟩
      obtain⟨i1,i2,i3,i4,i5,i6,i7⟩:=hid
      exact {
       id:=by rw[i1];exact hR.id
       own:=hR.own
       k:=by rw[i2];exact hR.k
       ok:=hR.ok
       sta:=by rw[i3];exact hR.sta
       yb:=by rw[i3,i4,i5,i6,i7];exact hR.yb
       yi:=by rw[i3];exact hR.yi
       n:=fun hk1=>by
        rw[i2] at hk1
        obtain⟨e,p1,p2,p3⟩:=hR.n hk1
        refine⟨_,List.mem_map_of_mem p1,by rw[i1];exact p2,?_⟩
        unfold wW
        rw[if_pos hk1,<- p3,<- h.pe]
       nb:=fun hk1=>by
        rw[i2] at hk1
        unfold wW
        rw[if_neg hk1]
        exact hR.nb hk1 }
    n0:=by
     show(mG c.pe.w t.w c.ld).n0=x.sd
     rw[hl];exact h.n0
    pe:=rfl }
  have hI2:bR B { c with ld:=mG c.pe.w t.w c.ld,pe:=t }:=Gq hI (Hd hI.pe e1) (Gs hI.ld)
  exact Gl (f:=fr0 6 0) hI2 hc (by decide) (by show(2:Int)<=6/\(6:Int)≠10/\(6:Int)≠11;decide)
theorem Agy (hI:bR B c) (h:CR c x):SM (pK c) (Abm x):=by
 unfold pK Abm
 have hw:=h.w
 cases hx:x.w with
 |nil=>
  rw[hx] at hw
  rw[if_pos (by unfold vU;rw[if_pos hw];decide)]
  exact .inr (rS hI h.ov (by decide) (by decide) h.la)
 |cons t r=>
  rw[hx] at hw
  rw[if_neg (by unfold vU;rw[if_neg (by rw[hw];exact fun q=>by cases q)];decide)]
  have e:dC c.sh=⟨t,c.sh.g,r⟩:=by unfold dC;rw[hw]
  left
  rw[e]
  exact { h with
   l:=by
    refine RL.map (fun m hm s hs hR=>?_) h.l
    have hid:(DV t.w s).id=s.id/\(DV t.w s).k=s.k/\(DV t.w s).en=s.en/\(DV t.w s).got=s.got/\(DV t.w s).n=s.n:=by
     unfold DV;split <;> exact⟨rfl,rfl,rfl,rfl,rfl⟩
    obtain⟨i1,i2,i3,i4,i5⟩:=hid
    exact {
     id:=by rw[i1];exact hR.id
     own:=hR.own
     k:=by rw[i2];exact hR.k
     ok:=by
      rw[hR.ok]
      show jH m.y=jH (tY m.y t)
      cases m.y <;> rfl
     sta:=by rw[i3];exact hR.sta
     yb:=fun y hy=>by
      cases hm2:m.y with
      |i y'=>rw[show({ m with y:=tY m.y t }:Sm).y=tY m.y t from rfl,hm2] at hy;cases hy
      |b y'=>
       rw[show({ m with y:=tY m.y t }:Sm).y=tY m.y t from rfl,hm2] at hy
       obtain⟨b1,b2,b3,b4,b5,b6,b7⟩:=hR.yb y' hm2
       have ey:y= { y' with cap:=t.w,most:=max y'.most t.w,gr:=y'.gr+(t.w - y'.cap) }:=(Ys.b.inj hy).symm
       have hk1:s.k=1:=by
        have h1:=hR.ok
        rw[hR.k,hm2] at h1
        exact h1
       have er:DV t.w s= { s with cap:=t.w,most:=max s.most t.w,gr:=s.gr+t.w - s.cap }:=by unfold DV;rw[if_pos hk1]
       rw[ey,er]
       exact⟨rfl,by rw[b2],by dsimp only;omega,b4,b5,b6,b7⟩
     yi:=fun y hy=>by
      cases hm2:m.y with
      |b y'=>rw[show({ m with y:=tY m.y t }:Sm).y=tY m.y t from rfl,hm2] at hy;cases hy
      |i y'=>
       rw[show({ m with y:=tY m.y t }:Sm).y=tY m.y t from rfl,hm2] at hy
       obtain⟨b1,b2,b3⟩:=hR.yi y' hm2
       have ey:y= { y' with mr:=max y'.mr t.it,room:=t.it }:=(Ys.i.inj hy).symm
       rw[ey,i3]
       exact⟨b1,b2,b3⟩
     n:=fun hk1=>by rw[i2] at hk1;rw[i1,i5];exact hR.n hk1
     nb:=fun hk1=>by rw[i2] at hk1;rw[i5];exact hR.nb hk1 }
   h:=rfl
   w:=rfl }
theorem Oj:∀ {l:List Int} {c:Cn},(∀m∈c.l,m.own=false)->lU l c=c
 | [],_,_=>rfl
 |id::l,c,h=>by
  have e:(match bX id c.l with
   |some m=>if m.own=true/\Fz c.dr id=true then lY m 7 c else c
   |none=>c)=c:=by
   split
   ·rename_i m hm
    rw[if_neg (fun q=>by have:=h m (List.mem_of_getElem? (aX hm).1);rw[this] at q;cases q.1)]
   ·rfl
  show lU l (match bX id c.l with
   |some m=>if m.own=true/\Fz c.dr id=true then lY m 7 c else c
   |none=>c)=c
  rw[e]
  exact Oj h
theorem Abw (hI:bR B c) (h:CR c x) (hr:bV f):SM (uE f c) (if f.c≠0 then rK f.c x else x):=by
 have hn1:=(gI f.c).1 hr.2.2.2.2.2.2.2.2.2.2.2.2.2.2.2.2.2.1
 have hn2:=(gI f.la).1 hr.2.2.2.2.2.2.2.2.2.2.2.2.2.2.2.2.2.2.1
 have hb:¬(lM f.la 0=false\/lM f.c 0=false):=by
  unfold lM
  rw[decide_eq_true hn1.1,decide_eq_true hn1.2,decide_eq_true hn2.1,decide_eq_true hn2.2];decide
 unfold uE
 by_cases hc:f.c≠0
 ·have e:iP c.dr f.la f.c=⟨c.dr.se,c.dr.go,true,c.dr.la,c.dr.th,f.c⟩:=by
   unfold iP
   rw[if_neg,if_pos hc]
   unfold Iw
   rw[if_neg (by rw[h.ov];decide),if_neg hb,if_pos hc];decide
  rw[if_pos hc,if_pos (by rw[e])]
  right
  have hI2:bR B { c with dr:=iP c.dr f.la f.c }:= { hI with }
  have hd:(o4 { c with dr:=iP c.dr f.la f.c }).dr=iP c.dr f.la f.c:=P2
  have hl:=congrArg Jn.last (En (s:= { c with dr:=iP c.dr f.la f.c }) (code:=(iP c.dr f.la f.c).co) (l:=c.l.map Sm.id)).j
  exact⟨by rw[hd,e],rfl,by rw[hd,e];rfl,⟨K8 hI2,rfl⟩,⟨rfl,rfl⟩,.inl (hl.trans h.lst)⟩
 ·have hd:(iP c.dr f.la f.c).ov=false/\(iP c.dr f.la f.c).se=false/\(iP c.dr f.la f.c).co=0:=by
   unfold iP
   split
   ·exact⟨h.ov,h.dr⟩
   ·exact⟨h.ov,h.dr⟩
  rw[if_neg hc,if_neg (by rw[hd.1];decide),Oj (c:= { c with dr:=iP c.dr f.la f.c }) h.l.own]
  left
  exact { h with ov:=hd.1,dr:=hd.2 }
theorem UR (hI:bR B c) (h:CR c x):SM (pW f c) (LX f x):=by
 unfold pW LX
 by_cases hn:f.n=0
 ·rw[if_pos hn,if_pos hn]
  exact .inr (rS hI h.ov (by decide) (by decide) h.la)
 ·rw[if_neg hn,if_neg hn]
  have e:l6 0 f.n c.ld=j5 x.sd f.n:=by unfold l6;rw[if_pos rfl,h.n0]
  rw[e]
  by_cases hE:j5 x.sd f.n≠0
  ·rw[if_pos hE,if_pos hE]
   exact .inr (rS (x:= { x with sd:=gA x.sd f.n }) hI h.ov (by decide) (by decide) h.la)
  ·rw[if_neg hE,if_neg hE]
   left
   have e2:j8 0 f.n c.ld= { c.ld with n0:=gA c.ld.n0 f.n }:=by unfold j8;rw[if_pos rfl]
   rw[e2]
   exact { h with n0:=by show gA c.ld.n0 f.n=_;rw[h.n0] }
end
section
variable {x x':Rc} {s s':Rs} {id k w o co:Int} {l:List Sm} {r:List Rs}
theorem Acl {la:Int}:jV 1 2 la st=true↔1<=st/\st<=2147483647/\st % 2=1/\st<=la:=by
 unfold jV
 by_cases hb:Qm 1 st=true
 ·rw[if_pos hb]
  unfold Qm at hb
  simp only[Bool.and_eq_true,decide_eq_true_eq,beq_iff_eq] at hb ⊢
  obtain⟨⟨h1,h2⟩,h3⟩:=hb
  have h4:¬st % 2=1:=by
   intro hq
   rw[decide_eq_true hq] at h3
   exact absurd h3 (by decide)
  omega
 ·rw[if_neg hb]
  simp only[Bool.and_eq_true,decide_eq_true_eq]
  constructor
  ·rintro⟨⟨h1,h2⟩,h3⟩
   refine⟨h1,h2,?_,h3⟩
   apply Classical.byContradiction
   intro hq
   apply hb
   unfold Qm
   rw[decide_eq_true h1,decide_eq_true h2,decide_eq_false hq];rfl
  ·rintro⟨h1,h2,h3,h4⟩;exact⟨⟨h1,h2⟩,h4⟩
theorem Akj {la:Int} (h:1<=st/\st<=2147483647):lH 1 la st=0↔¬(st % 2≠1\/st<=la):=by
 unfold lH Qm
 rw[decide_eq_true h.1,decide_eq_true h.2]
 by_cases hq:st % 2=1
 ·rw[decide_eq_true hq]
  by_cases hl:la<st
  ·rw[if_pos ⟨by decide,hl⟩]
   exact⟨fun _=>by omega,fun _=>rfl⟩
  ·rw[if_neg (fun z=>hl z.2)]
   exact⟨fun z=>absurd z (by decide),fun z=>by omega⟩
 ·rw[decide_eq_false hq,if_neg (fun z=>absurd z.1 (by decide))]
  exact⟨fun z=>absurd z (by decide),fun z=>by omega⟩
theorem CR.none (hI:bR B c) (h:CR c x) (hm:bX id c.l=none):zR id x.l=none:=by
 cases hr:zR id x.l with
 |none=>rfl
 |some s=>
  obtain⟨m2,q1,q2,q3,q4⟩:=(RL.at (id:=id) h.l).1 s hr
  have h1:=EO hI.sm q1
  rw[q3,hm] at h1;cases h1
theorem CR.some (hI:bR B c) (h:CR c x) (hm:bX id c.l=some m):∃s,zR id x.l=some s/\RS c.ld.l m s/\s∈x.l/\s.id=id:=by
 obtain⟨hi,hmid⟩:=aX hm
 obtain⟨r1,r2⟩:=RL.at (id:=id) h.l
 cases hr:zR id x.l with
 |none=>exact absurd hmid (r2 hr m (List.mem_of_getElem? hi))
 |some s=>
  obtain⟨m2,q1,q2,q3,q4⟩:=r1 s hr
  have h1:=EO hI.sm q1
  rw[q3,hm] at h1
  have e:=Option.some.inj h1
  rw[<- e] at q2 q3
  exact⟨s,rfl,q2,q4,q2.id.symm.trans q3⟩
theorem Zc (hI:bR B c) (hk:fM cf c) (h:CR c x) (hr:bV f) (ht:f.t=2):SM (kY f c) (QJ f i x):=by
 obtain⟨r1,r2,r3,r4,r5,r6,r7,r8,r9,r10,r11,r12,r13,r14,r15,r16,r17,r18,r19,r20,r21⟩:=hr
 have hst:1<=f.st/\f.st<=2147483647:=by omega
 have I8:lH c.sd c.la f.st=0↔¬(f.st % 2≠1\/f.st<=x.la):=by rw[h.sd.1,h.la];exact Akj hst
 unfold kY QJ
 by_cases hp:lH c.sd c.la f.st=0
 rotate_left
 ·rw[if_pos hp,if_pos (Classical.byContradiction fun q=>hp (I8.2 q))]
  exact .inr (rS hI h.ov (by decide) (by decide) h.la)
 rw[if_neg (fun q=>q hp),if_neg (I8.1 hp)]
 have hI2:=Ee hI hp
 have hk2:fM cf { c with la:=f.st }:= { hk with }
 have h2:CR { c with la:=f.st } { x with la:=f.st }:= { h with la:=rfl }
 by_cases hon:f.on=f.st
 ·rw[if_pos hon,if_pos hon]
  exact .inr (rS (x:= { x with la:=f.st }) hI2 h.ov (by decide) (by decide) rfl)
 rw[if_neg hon,if_neg hon]
 have hdt:x4 c.dr f.st=true:=by unfold x4;rw[h.ov,h.dr.1];rfl
 rw[if_neg (by rw[hdt];decide)]
 have hown:(fJ c false:Nat)=x.l.length:=by
  unfold fJ
  rw[List.filter_eq_self.2 fun m hm=>by rw[h.l.own m hm];rfl,h.l.len]
 have hnone:=Bi hI hp
 rw[hown,h.h]
 by_cases hf:x.h.st<=(x.l.length:Nat)
 ·rw[if_pos hf,if_pos hf]
  have:=IQ (w:=3) hI2 hk2 h2 (by decide) hst (by decide)
  have e:tA f.st { x with la:=f.st }=AN 4 { x with la:=f.st }:=by
   unfold tA CH
   have:zR f.st ({ x with la:=f.st }:Rc).l=none:=(show zR f.st x.l=none from CR.none hI h hnone)
   rw[this]
  rw[e] at this
  exact this
 ·rw[if_neg hf,if_neg hf]
  left
  have hid:∀z∈c.l,z.id<(fQ c.cf c.sh.h f.st f.k c.cf.sg false).id:=fun z hz=>by
   have hp2:=hI.ids z hz
   rw[h.sd.1,h.sd.2] at hp2
   have:=Acl.1 hp2
   have hl:=(nQ hI.sd hp).2.1
   rw[K9];omega
  have hln:∀e∈c.ld.l,e∈(if f.k=1 then iB f.st c.pe.w c.ld else c.ld).l:=fun e he=>by
   split
   ·unfold iB
    split
    ·exact he
    ·rw[<- List.take_append_drop (lE f.st c.ld.l) c.ld.l] at he
     rcases List.mem_append.1 he with q|q
     ·exact List.mem_append_left _ q
     ·exact List.mem_append_right _ (List.mem_cons_of_mem _ q)
   ·exact he
  have hn0:(if f.k=1 then iB f.st c.pe.w c.ld else c.ld).n0=c.ld.n0:=by
   split
   ·unfold iB;split <;> rfl
   ·rfl
  exact { h with
   l:=by
    show RL (if f.k=1 then iB f.st c.pe.w c.ld else c.ld).l (jT (fQ c.cf c.sh.h f.st f.k c.cf.sg false) c.l) _
    rw[XT hid]
    refine RL.app (RL.lines hln h.l) ?_
    rcases r15 ht with hk1|hk1
    ·have e:fQ c.cf c.sh.h f.st f.k c.cf.sg false=⟨f.st,false,1,.b ⟨c.cf.sb.toNat,[],false,false,0,0,0⟩,.b ⟨c.sh.h.w,c.sh.h.w,c.sh.h.w,0,0,[],false⟩⟩:=by unfold fQ;rw[if_pos hk1]
     rw[e]
     exact {
      id:=rfl
      own:=rfl
      k:=hk1.symm
      ok:=rfl
      sta:=rfl
      yb:=fun y hy=>by cases hy;rw[h.h];exact⟨rfl,rfl,rfl,rfl,rfl,rfl,rfl⟩
      yi:=fun y hy=>by cases hy
      nb:=fun q=>absurd hk1 q
      n:=fun _=>by
       refine⟨⟨f.st,c.pe.w,0⟩,?_,rfl,by rw[h.pe]⟩
       rw[if_pos hk1]
       unfold iB
       have hla:lS f.st c.ld.l=none:=by
        cases ha:lS f.st c.ld.l with
        |none=>rfl
        |some e0=>
         have h1:=(IY hI.ld).1 (show(lS f.st c.ld.l).isSome=true by rw[ha];rfl)
         obtain⟨m,m1,m2,_⟩:=(hk.lk f.st).1 h1
         have:=EO hI.sm m1
         rw[m2,hnone] at this;cases this
       have hlen:¬64<=c.ld.l.length:=by
        have h1:=UJ hI hk
        have h2:c.l.length=x.l.length:=h.l.len
        have h3:qF c.sh.h:=hI.sh.2.1
        unfold qF pP at h3
        rw[decide_eq_true_eq,h.h] at h3
        omega
       have hwi:lL c.pe.w=true:=TD hI.pe.1
       rw[if_neg]
       ·exact List.mem_append_right _ (List.mem_cons_self ..)
       ·rintro(q|q|q|q|q)
        ·omega
        ·omega
        ·rw[hwi] at q;cases q
        ·rw[hla] at q;cases q
        ·exact hlen q }
    ·have e:fQ c.cf c.sh.h f.st f.k c.cf.sg false=⟨f.st,false,1,.i ⟨c.cf.si.toNat,c.cf.sg,[],0,false,false,0,0,0⟩,.i ⟨c.sh.h.it,c.sh.h.it,0,0,[],0,0,0,false⟩⟩:=by unfold fQ;rw[if_neg (by omega)]
     rw[e]
     exact {
      id:=rfl
      own:=rfl
      k:=hk1.symm
      ok:=rfl
      sta:=rfl
      yb:=fun y hy=>by cases hy
      yi:=fun y hy=>by cases hy;exact⟨rfl,rfl,rfl⟩
      n:=fun q=>by have q:f.k=1:=q;omega
      nb:=fun _=>by
       have h1:=hI.pe.1
       rw[h.pe] at h1
       exact h1 }
   n0:=by
    show(if f.k=1 then iB f.st c.pe.w c.ld else c.ld).n0=_
    rw[hn0];exact h.n0
   la:=rfl }
theorem Rf (hI:bR B c) (hm:bX id c.l=some m) (hl:RL L c.l x.l) (h2:RS L' m' s') (hi:m'.id=id) (hn:∀e∈L,e.id≠id->e∈L'):RL L' (c.l.set (cB id c.l) m') (x.l.map fun z=>if z.id=s'.id then s' else z):=by
 obtain⟨hix,hmid⟩:=aX hm
 rw[S5 hI.sm.2 hix]
 refine RL.map (fun y hy t ht hR=>?_) hl
 have e1:s'.id=id:=h2.id.symm.trans hi
 rw[hmid,e1]
 by_cases hq:y.id=id
 ·rw[if_pos hq,if_pos (hR.id.symm.trans hq)];exact h2
 ·rw[if_neg hq,if_neg (fun z=>hq (hR.id.trans z))]
  have hn2:t.k=1->∃e∈L',e.id=t.id/\e.n=t.n:=fun hk=>by
   obtain⟨e,p1,p2,p3⟩:=hR.n hk
   exact⟨e,hn e p1 (by rw[p2,<- hR.id];exact hq),p2,p3⟩
  exact { hR with n:=hn2 }
theorem Abk {tt:Int} {d:ByteArray} {e:Bool}:dO m tt d e=0\/dO m tt d e=6\/dO m tt d e=7\/dO m tt d e=8\/dO m tt d e=10:=by
 unfold dO
 split
 ·exact .inr (.inl rfl)
 ·split
  ·exact .inr (.inr (.inl rfl))
  ·unfold u4
   cases m.y with
   |b y=>dsimp only;repeat' split
         all_goals simp
   |i y=>dsimp only;repeat' split
         all_goals simp
theorem Zl (hI:bR B c) (hB:B+300<=250000000) (hk:fM cf c) (h:CR c x) (hr:bV f) (ht:f.t=0\/f.t=1):SM (qM f c) (Ru f x):=by
 obtain⟨r1,r2,r3,r4,r5,r6,r7,r8,r9,r10,r11,r12,r13,r14,r15,r16,r17,r18,r19,r20,r21⟩:=hr
 have hst:1<=f.st/\f.st<=2147483647:=by omega
 have hd:(if f.t=0 then((f.d.size:Nat):Int) else 0)=dN f:=rfl
 have hd0:0<=dN f/\dN f<=300:=by unfold dN;split <;> omega
 obtain⟨v1,v2,v3⟩:=h.rv
 obtain⟨w1,w2,w3,w4,w5,w6⟩:=hI.rv
 unfold qM Ru
 rw[hd]
 have hE:jD c.rv (dN f)≠0↔0<dN f/\x.gr - x.got<dN f:=by
  unfold jD
  split
  ·exact⟨fun _=>by omega,fun _=>by decide⟩
  ·exact⟨fun q=>absurd rfl q,fun q=>by omega⟩
 by_cases hq:jD c.rv (dN f)≠0
 ·rw[if_pos hq,if_pos (hE.1 hq)]
  exact .inr (rS hI h.ov (by decide) (by decide) h.la)
 rw[if_neg hq,if_neg (fun z=>hq (hE.2 z))]
 have hq0:jD c.rv (dN f)=0:=Classical.byContradiction hq
 have hrg:fG c.rv (dN f)= { c.rv with got:=c.rv.got+dN f }:=by unfold fG;rw[if_pos hq0]
 have hru:d8 (fG c.rv (dN f)) (dN f)= { c.rv with got:=c.rv.got+dN f,us:=c.rv.us+dN f }:=by
  rw[hrg]
  have hc:0<=dN f/\dN f<=c.rv.got+dN f - c.rv.us:=⟨hd0.1,by omega⟩
  exact if_pos hc
 have hI2:bR (B+300) { c with rv:=d8 (fG c.rv (dN f)) (dN f) }:=nE (yJ hI hd0 hB)
 have h2:CR { c with rv:=d8 (fG c.rv (dN f)) (dN f) } { x with got:=x.got+dN f,us:=x.us+dN f }:=by
  rw[hru]
  exact { h with rv:=⟨v1,by dsimp only;omega,by dsimp only;omega⟩ }
 have hk2:fM cf { c with rv:=d8 (fG c.rv (dN f)) (dN f) }:=by
  rw[hru]
  have:=hk.kp
  exact { hk with kp:=by show c.rv.us+dN f+((xA c.l:Nat):Int)<=c.rv.got+dN f;omega }
 cases hm:bX f.st c.l with
 |none=>
  rw[CR.none hI h hm]
  exact .inl h2
 |some m=>
  obtain⟨s,s1,s2,s3,s4⟩:=CR.some hI h hm
  rw[s1]
  dsimp only
  have hmid:=(aX hm).2
  have hsr:SY m=!s.en:=by
   unfold SY
   rw[s2.sta]
   cases s.en <;> rfl
  have hbad:dO m f.t f.d f.e≠0↔Kx s f:=by
   unfold dO Kx
   rw[hsr,s2.k]
   by_cases hkk:s.k=f.t+1
   ·rw[if_neg (by omega)]
    cases hen:s.en with
    |true=>rw[if_pos (show(!true)=false from rfl)];exact⟨fun _=>.inr (.inl rfl),fun _=>by decide⟩
    |false=>
     rw[if_neg (by decide)]
     have hok:=s2.ok
     rw[s2.k] at hok
     unfold u4
     cases hy:m.y with
     |b y=>
      obtain⟨b1,b2,b3,b4,b5,b6,b7⟩:=s2.yb y hy
      rw[hy] at hok
      have hok:s.k=1:=hok
      have h0:f.t=0:=by omega
      have e:dN f=(f.d.size:Nat):=if_pos h0
      dsimp only
      rw[b7,hen,if_neg (by decide)]
      split
      ·exact⟨fun _=>.inr (.inr (.inl ⟨h0,by omega,by omega⟩)),fun _=>by decide⟩
      ·refine⟨fun q=>absurd rfl q,fun q=>?_⟩
       rcases q with q|q|q|q
       ·exact absurd hkk q
       ·cases q
       ·omega
       ·omega
     |i y=>
      obtain⟨b1,b2,b3⟩:=s2.yi y hy
      rw[hy] at hok
      have hok:s.k=2:=hok
      have h1:f.t=1:=by omega
      dsimp only
      rw[b3,hen,if_neg (by decide)]
      by_cases hde:f.d≠⟨#[]⟩\/f.e=false
      ·rw[if_pos ⟨hde,by omega⟩]
       exact⟨fun _=>.inr (.inr (.inr ⟨h1,hde⟩)),fun _=>by decide⟩
      ·rw[if_neg (fun q=>hde q.1)]
       refine⟨fun q=>absurd rfl q,fun q=>?_⟩
       rcases q with q|q|q|q
       ·exact absurd hkk q
       ·cases q
       ·omega
       ·exact absurd q.2 hde
   ·rw[if_pos (by omega)]
    exact⟨fun _=>.inl hkk,fun _=>by decide⟩
  by_cases hb:dO m f.t f.d f.e≠0
  ·rw[if_pos hb,if_pos (hbad.1 hb)]
   have hc:=Abk (m:=m) (tt:=f.t) (d:=f.d) (e:=f.e)
   have hw:Js (dO m f.t f.d f.e)=false/\0<=hQ (dO m f.t f.d f.e) 0/\hQ (dO m f.t f.d f.e) 0<=2147483647:=by
    rcases hc with q|q|q|q|q
    ·exact absurd q hb
    all_goals rw[q];decide
   exact IQ hI2 hk2 h2 hw.1 hst hw.2
  ·rw[if_neg hb,if_neg (fun q=>hb (hbad.2 q))]
   have hnb:¬Kx s f:=fun q=>hb (hbad.2 q)
   have hkk:s.k=f.t+1:=Classical.byContradiction fun q=>hnb (.inl q)
   have hen:s.en=false:=by
    cases he:s.en
    ·rfl
    ·exact absurd (.inr (.inl he)) hnb
   have hta:m.sta=1:=by rw[s2.sta,hen];rfl
   have hgone:DF (eB m f.d f.e)=false:=by
    unfold DF eB lW
    rw[hta]
    cases f.e <;> rfl
   unfold kT
   rw[if_neg (by rw[hgone];decide),hrg]
   left
   have hRS:RS c.ld.l (eB m f.d f.e) { s with got:=s.got+dN f,en:=f.e }:= {
    id:=s2.id
    own:=s2.own
    k:=s2.k
    ok:=by
     have:=s2.ok
     show bA m.x=jH (xH m.y f.d f.e)
     rw[this]
     cases m.y <;> rfl
    sta:=by
     show lW m.sta f.e=if f.e=true then 3 else 1
     unfold lW
     rw[hta];rfl
    yb:=fun y hy=>by
     cases hm2:m.y with
     |i y'=>
      have hy:xH m.y f.d f.e=.b y:=hy
      rw[hm2] at hy;cases hy
     |b y'=>
      have hy:xH m.y f.d f.e=.b y:=hy
      rw[hm2] at hy
      obtain⟨b1,b2,b3,b4,b5,b6,b7⟩:=s2.yb y' hm2
      have ey:y= { y' with got:=y'.got+f.d.size,bs:=y'.bs++f.d.data.toList,en:=f.e }:=(Ys.b.inj hy).symm
      have hok:=s2.ok
      rw[s2.k,hm2] at hok
      have hok:s.k=1:=hok
      have e:dN f=(f.d.size:Nat):=if_pos (by omega)
      have el:f.d.data.toList.length=f.d.size:=Array.length_toList
      rw[ey]
      refine⟨b1,b2,b3,?_,b5,?_,rfl⟩
      ·dsimp only;omega
      ·dsimp only;rw[List.length_append];omega
    yi:=fun y hy=>by
     cases hm2:m.y with
     |b y'=>
      have hy:xH m.y f.d f.e=.i y:=hy
      rw[hm2] at hy;cases hy
     |i y'=>
      have hy:xH m.y f.d f.e=.i y:=hy
      rw[hm2] at hy
      obtain⟨b1,b2,b3⟩:=s2.yi y' hm2
      have hok:=s2.ok
      rw[s2.k,hm2] at hok
      have hok:s.k=2:=hok
      have hde:¬(f.d≠⟨#[]⟩\/f.e=false):=fun q=>hnb (.inr (.inr (.inr ⟨by omega,q⟩)))
      have hee:f.e=true:=by
       cases he:f.e
       ·exact absurd (.inr he) hde
       ·rfl
      have ey:y= { y' with en:=true }:=by
       have:=(Ys.i.inj hy).symm
       rw[if_neg hde] at this
       exact this
      rw[ey]
      exact⟨b1,b2,hee.symm⟩
    n:=s2.n
    nb:=s2.nb }
   exact { h with
    l:=by
     have hii:(eB m f.d f.e).id=f.st:=hmid
     have:=Rf (L:=c.ld.l) hI hm h.l hRS hii (fun e he _=>he)
     show RL c.ld.l (c.l.set (cB (eB m f.d f.e).id c.l) (eB m f.d f.e)) _
     rw[hii]
     exact this
    rv:=⟨v1,by show c.rv.got+dN f=x.got+dN f;omega,v3⟩ }
end
end Go.Proofs.YtffnpejdkkohcaaGreat
