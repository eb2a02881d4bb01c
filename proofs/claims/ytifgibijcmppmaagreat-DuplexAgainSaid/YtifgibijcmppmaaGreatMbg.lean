/- A part of the proof: lemmas; each with the conditions that it states. -/
import Derived.Test.YtifgibijcmppmaaGreatMbf
set_option linter.unusedVariables false
set_option linter.unusedSimpArgs false
namespace Go.Proofs.YtifgibijcmppmaaGreat
open Go Go.Proofs Go.Sl
set_option maxRecDepth 100000
set_option maxHeartbeats 40000000
attribute [local irreducible] aM fG cV bP aN aW aA dP dX aV dO pt ro eW star sep bH
attribute [local irreducible] mp Ec
section
variable {R C:List HP} {K:Value→List HP→Prop} {x mc i b p r:Nat} {a:Ca} {s:Cn} {M:Option Addr} {B id n st t:Int} {m:Sm} {l:List Sm} {fs:List Fm} {c:Cf}
def W3 (r:Nat) (fs:List Fm):HP:=eW fun F=>eW fun c=>sep (pt r [.slice F fs.length c] 24) (bU F c 45 uM fs)
theorem Ahz:aG (pt r [.slice none 0 0] 24::R) (W3 r []::R):=aG.ex none (aG.ex 0 (aG.sep (aG.cons (aG.nilrow _ _ _))))
theorem UD {F:Option Addr} {k k2:Nat} (h:fs.length=k2):aG (pt r [.slice F k2 k] 24::bU F k 45 uM fs::R) (W3 r fs::R):=by
 subst h
 exact aG.ex F (aG.ex k (aG.sep (aG.refl _)))
theorem zK (hl:fs.length≤1000) (hK:K (.tuple #[]) (W3 r (fs++Kx t st n)::R)):aA Tryz.prog 186 #[.int .i64 t,.int .i64 st,.int .i64 n,.pointer (some ⟨r,0,none⟩)] (W3 r fs::R) K:=by
 refine aA.ex fun F=>aA.ex fun k=>aA.sep ?_
 unfold Kx at hK
 by_cases h:0<n
 ·rw[if_pos h] at hK
  refine aH Tryz.func186 ?_
  repeat' (first|(show aM _ _ _ _ _ _ _;(refine nX (E:=uM) (xs:=fs) (ys:= [CR t st n]) ?_;intro _ _))|refine v36 ?_|refine wr ?_|refine w5 ?_ ?_|((refine bh fun h=>?_) <;> try exact w6 h)|(refine aE fun hA=>?_;subst hA)|intro _)
  all_goals(refine aC ?_;exact aK (aG.trans (by exact aY) ((UD (fs:=fs++ [CR t st n]) rfl))) (hK))
 ·rw[if_neg h,List.append_nil] at hK
  refine aH Tryz.func186 ?_
  repeat' (first|refine v36 ?_|refine wr ?_|refine w5 ?_ ?_|((refine bh fun h=>?_) <;> try exact w6 h)|(refine aE fun hA=>?_;subst hA)|intro _)
  all_goals(refine aC ?_;exact aK (aG.trans (by exact aY) ((UD (fs:=fs) rfl))) (hK))
theorem Ahi {y:Ys}:kG (yGr y)=kG y:=by cases y <;> rfl
theorem Dz:(lZ m).id=m.id:=by unfold lZ;split <;> rfl
theorem Om:(lZ m).own=m.own:=by unfold lZ;split <;> rfl
theorem Ai3 (h:ED B m):ED B (lZ m):=by
 obtain⟨h1,h2,h3,h4⟩:=h
 unfold lZ
 split
 ·refine⟨h1,h2,?_,?_⟩
  ·cases hy:m.y <;> (rw[hy] at h3;exact h3)
  ·cases hy:m.y <;> (rw[hy] at h4;exact h4)
 ·exact⟨h1,h2,h3,h4⟩
theorem Ail {z:Yp} (h:I3 B z):I3 B (RY z):=by
 obtain⟨h1,h2,h3,h4,h5,h6⟩:=h
 have:z.gr≤z.gr+uT z∧z.gr+uT z≤z.us+512:=by
  unfold uT uE
  split <;> omega
 exact⟨h1,h2,h3,by show z.got≤z.gr+uT z;omega,this.2,h6⟩
theorem Ra (h:bS B s):bS B (Bp s):=
 { h with
   rv:=Ail h.rv
   sm:=TL h.sm fun m=>Dz
   st:=fun q hq=>by
    obtain⟨m,hm,rfl⟩:=List.mem_map.1 hq
    exact Ai3 (h.st m hm)
   ids:=fun q hq=>by
    obtain⟨m,hm,rfl⟩:=List.mem_map.1 hq
    rw[Dz];exact h.ids m hm
   own:=fun b=>by
    have h1:=h.own b
    unfold fH at h1
    show((s.l.map lZ).filter fun m=>m.own == b).length≤32
    rw[m7,List.map_map]
    rw[m7] at h1
    have e:(Sm.own ∘ lZ)=Sm.own:=funext fun m=>Om
    rw[e];exact h1
   mv:=by
    have:=h.mv
    show(s.mv.length:Int)+((s.l.map lZ).length:Int)≤B
    rw[List.length_map];exact this }
theorem Akg:kb (lZ m)=kb m:=by
 unfold lZ
 split
 ·unfold kb
  cases hy:m.y <;> rfl
 ·rfl
theorem Q2 (h:fR c s):fR c (Bp s):=
 { h with
   tn:=fun j hj=>by
    obtain⟨z,hz,hzi⟩:=h.tn j hj
    exact⟨_,List.mem_map_of_mem hz,by rw[Dz];exact hzi⟩
   cl:=fun ho=>by
    show s.l.map _= []
    rw[h.cl ho];rfl
   mo:=fun z hz=>by
    obtain⟨m,hm,rfl⟩:=List.mem_map.1 hz
    have h1:=h.mo m hm
    unfold lZ
    split
    ·refine Tm h1 ?_ Ahi
     have:=h1.y
     cases hy:m.y <;> (rw[hy] at this;exact this)
    ·exact h1
   nf:=by
    have h1:=h.nf
    unfold fH at h1
    show(((s.l.map lZ).filter fun m=>m.own == false).length:Int)≤s.sh.g.st
    rw[m7,List.map_map]
    rw[m7] at h1
    have e:(Sm.own ∘ lZ)=Sm.own:=funext fun m=>Om
    rw[e];exact h1
   kp:=by
    have h1:=h.kp
    show s.rv.us+xI (s.l.map lZ)≤s.rv.got
    rw[TM fun m=>Akg];exact h1
   lk:=fun j=>(h.lk j).trans (Kw (q:=lZ) (fun _=>Dz) fun m=>by unfold lZ;split <;> rfl) }
theorem Akr (h:xA m):xA { m with y:=yGr m.y }:=⟨h.1.trans Ahi.symm,h.2⟩
theorem Xb {j:Nat} (h:l[j]?=some m):(l.take (j+1)).flatMap qS=(l.take j).flatMap qS++qS m:=by
 rw[List.take_add_one,h]
 simp
theorem Gu:(Kx t st n).length≤1:=by unfold Kx;split <;> simp
theorem Vo:(qS m).length≤1:=by
 unfold qS
 split
 ·exact Gu
 ·simp
theorem flat_len:∀ {l:List Sm},(l.flatMap qS).length≤l.length
 | []=>by simp
 |m::l=>by
  have h1:=Vo (m:=m)
  have h2:=flat_len (l:=l)
  rw[List.flatMap_cons,List.length_append,List.length_cons]
  omega
theorem P1 (hI:bS B s) (hK:∀A c,K (.slice A (uG s).length c) (bU A c 45 uM (uG s)::bY x a (Bp s) M mc R)):aA Tryz.prog 96 #[.pointer (some ⟨x,0,none⟩)] (bY x a s M mc R) K:=by
 have hbb:=hI.bb
 have hrv:=hI.rv
 unfold I3 at hrv
 have h64:=hI.sm.1
 dsimp only[bY,pM]
 refine aH Tryz.func96 ?_
 repeat' (first|refine Yq ?_|refine wr ?_|refine w5 ?_ ?_|((refine bh fun h=>?_) <;> try exact w6 h)|(refine aE fun hA=>?_;subst hA)|intro _|(show aA _ 187 _ _ _;refine CA (h:=GZ (cap:=s.rv.cap) (gr:=s.rv.gr) (us:=s.rv.us) (by omega) (by omega) ?_))|(show aA _ 186 _ _ _;refine CA (h:=aA.ent Ahz (zK (fs:= []) (by decide) ?_)))|(show aA _ 83 _ _ _;refine CA (h:=x8 (l:=s.l) ?_)))
 rename_i r3
 refine iL (fun n a' C'=>∃(j:Nat) (L:List Fm),j+n=s.l.length∧L=Kx 10 0 (uT s.rv)++(s.l.take j).flatMap qS∧dC a' [(0,.pointer (some ⟨x,0,none⟩)),(3,.pointer (some ⟨r3,0,none⟩)),(4,.func (.func 186) #[] #[.pointer (some ⟨r3,0,none⟩)]),(22,.int .i64 s.l.length),(23,.int .i64 j)]∧C'=W3 r3 L::bY x a { s with rv:=RY s.rv,l:=(s.l.take j).map lZ++s.l.drop j } M mc R) s.l.length (cC s.l.length ⟨0,[]++Kx 10 0 (uT s.rv),by omega,by simp,⟨rfl,rfl,rfl,rfl,rfl,trivial⟩,rfl⟩ (by omega)) ?_
 rintro n a' C' ⟨j,L,hj,hL,ha,rfl⟩
 refine gV _ ha ?_
 simp only[fN]
 have hLl:=congrArg List.length hL
 rw[List.length_append] at hLl
 have hl1:=Gu (t:=10) (st:=0) (n:=uT s.rv)
 have hl2:=flat_len (l:=s.l.take j)
 rw[List.length_take] at hl2
 by_cases hlt:j<s.l.length
 ·obtain⟨m,hm⟩:∃m,s.l[j]?=some m:=⟨_,List.getElem?_eq_getElem hlt⟩
  have hat:=Uy (g:=lZ) hm
  have hset:=OQ (g:=lZ) hm
  have hS:=Ty hI.sm (No (g:=lZ) (l:=s.l) (j:=j) fun _=>Dz)
  have hft:=Xb hm
  have hkk:bB m.x=1∨bB m.x=2:=by cases m.x;exact .inl rfl;exact .inr rfl
  dsimp only[bY,pM]
  cases hr:XE m
  ·have hr2:decide (m.sta=1∨m.sta=2)=false:=hr
   have e1:lZ m=m:=by unfold lZ;rw[hr];rfl
   have e2:qS m= []:=by unfold qS;rw[hr];rfl
   rw[e2,List.append_nil] at hft
   rcases hkk with hk|hk
   ·repeat' (first|refine Yq ?_|refine wr ?_|refine w5 ?_ ?_|((refine bh fun h=>?_) <;> try exact w6 h)|(refine aE fun hA=>?_;subst hA)|intro _|(show aA _ 85 _ _ _;refine CA (h:=Bh (l:=(s.l.take j).map lZ++s.l.drop j) hS hat (fun bq li t r hok=>?_)))|(show aA _ 107 _ _ _;refine CA (h:=qC (x:=m.x) ?_);rw[hk])|(show aA _ 188 _ _ _;refine CA (h:=eC (s:=m.sta) ?_);rw[hr2]))
    all_goals(show aV _ _ _ _;exact sO (m:=n - 1) (by omega) (aG.trans (by exact aY) (aG.trans (aG.cons (A:=W3 r3 L) (cK (m:=m) hok)) (aG.cons (A:=W3 r3 L) (lP (x:=x) (a:=a) (s:= { s with rv:=RY s.rv,l:=(s.l.take j).map lZ++s.l.drop j }) (M:=M) (mc:=mc) (R:=R) (m':=m) hat rfl)))) ⟨j+1,L,by omega,by rw[hL,hft],⟨rfl,rfl,rfl,rfl,rfl,trivial⟩,by rw[← hset,e1]⟩)
   ·repeat' (first|refine Yq ?_|refine wr ?_|refine w5 ?_ ?_|((refine bh fun h=>?_) <;> try exact w6 h)|(refine aE fun hA=>?_;subst hA)|intro _|(show aA _ 85 _ _ _;refine CA (h:=Bh (l:=(s.l.take j).map lZ++s.l.drop j) hS hat (fun bq li t r hok=>?_)))|(show aA _ 107 _ _ _;refine CA (h:=qC (x:=m.x) ?_);rw[hk])|(show aA _ 188 _ _ _;refine CA (h:=eC (s:=m.sta) ?_);rw[hr2]))
    all_goals(show aV _ _ _ _;exact sO (m:=n - 1) (by omega) (aG.trans (by exact aY) (aG.trans (aG.cons (A:=W3 r3 L) (cK (m:=m) hok)) (aG.cons (A:=W3 r3 L) (lP (x:=x) (a:=a) (s:= { s with rv:=RY s.rv,l:=(s.l.take j).map lZ++s.l.drop j }) (M:=M) (mc:=mc) (R:=R) (m':=m) hat rfl)))) ⟨j+1,L,by omega,by rw[hL,hft],⟨rfl,rfl,rfl,rfl,rfl,trivial⟩,by rw[← hset,e1]⟩)
  ·have hr2:decide (m.sta=1∨m.sta=2)=true:=hr
   have e1:lZ m= { m with y:=yGr m.y }:=by unfold lZ;rw[hr];rfl
   rcases hkk with hk|hk
   ·have e2:qS m=Kx 10 m.id (Iy m.y):=by unfold qS;rw[hr,hk];rfl
    rw[e2] at hft
    repeat' (first|refine Yq ?_|refine wr ?_|refine w5 ?_ ?_|((refine bh fun h=>?_) <;> try exact w6 h)|(refine aE fun hA=>?_;subst hA)|intro _|(show aA _ 85 _ _ _;refine CA (h:=Bh (l:=(s.l.take j).map lZ++s.l.drop j) hS hat (fun bq li t r hok=>?_)))|(show aA _ 107 _ _ _;refine CA (h:=qC (x:=m.x) ?_);rw[hk])|(show aA _ 188 _ _ _;refine CA (h:=eC (s:=m.sta) ?_);rw[hr2])|(show aA _ 89 _ _ _;refine CA (h:=YF ?_))|(show aA _ 189 _ _ _;refine CA (h:=KZ (y:=m.y) ?_))|(show aA _ 186 _ _ _;refine CA (h:=zK (fs:=L) (by omega) ?_)))
    all_goals(show aV _ _ _ _;exact sO (m:=n - 1) (by omega) (aG.trans (by exact aY) (aG.trans (aG.cons (A:=W3 r3 (L++Kx 10 m.id (Iy m.y))) (cK (m:= { m with y:=yGr m.y }) (Akr hok))) (aG.cons (A:=W3 r3 (L++Kx 10 m.id (Iy m.y))) (lP (x:=x) (a:=a) (s:= { s with rv:=RY s.rv,l:=(s.l.take j).map lZ++s.l.drop j }) (M:=M) (mc:=mc) (R:=R) (m':= { m with y:=yGr m.y }) hat rfl)))) ⟨j+1,L++Kx 10 m.id (Iy m.y),by omega,by rw[hL,hft,List.append_assoc],⟨rfl,rfl,rfl,rfl,rfl,trivial⟩,by rw[← hset,e1]⟩)
   ·have e2:qS m=Kx 11 m.id (Iy m.y):=by unfold qS;rw[hr,hk];rfl
    rw[e2] at hft
    repeat' (first|refine Yq ?_|refine wr ?_|refine w5 ?_ ?_|((refine bh fun h=>?_) <;> try exact w6 h)|(refine aE fun hA=>?_;subst hA)|intro _|(show aA _ 85 _ _ _;refine CA (h:=Bh (l:=(s.l.take j).map lZ++s.l.drop j) hS hat (fun bq li t r hok=>?_)))|(show aA _ 107 _ _ _;refine CA (h:=qC (x:=m.x) ?_);rw[hk])|(show aA _ 188 _ _ _;refine CA (h:=eC (s:=m.sta) ?_);rw[hr2])|(show aA _ 89 _ _ _;refine CA (h:=YF ?_))|(show aA _ 189 _ _ _;refine CA (h:=KZ (y:=m.y) ?_))|(show aA _ 186 _ _ _;refine CA (h:=zK (fs:=L) (by omega) ?_)))
    all_goals(show aV _ _ _ _;exact sO (m:=n - 1) (by omega) (aG.trans (by exact aY) (aG.trans (aG.cons (A:=W3 r3 (L++Kx 11 m.id (Iy m.y))) (cK (m:= { m with y:=yGr m.y }) (Akr hok))) (aG.cons (A:=W3 r3 (L++Kx 11 m.id (Iy m.y))) (lP (x:=x) (a:=a) (s:= { s with rv:=RY s.rv,l:=(s.l.take j).map lZ++s.l.drop j }) (M:=M) (mc:=mc) (R:=R) (m':= { m with y:=yGr m.y }) hat rfl)))) ⟨j+1,L++Kx 11 m.id (Iy m.y),by omega,by rw[hL,hft,List.append_assoc],⟨rfl,rfl,rfl,rfl,rfl,trivial⟩,by rw[← hset,e1]⟩)
 ·obtain rfl:j=s.l.length:=by omega
  rw[List.take_length] at hL
  have hL:L=uG s:=hL
  subst hL
  rw[List.take_length,List.drop_length,List.append_nil]
  refine vV fun F=>vV fun k=>F6 ?_
  repeat' (first|refine Yq ?_|refine wr ?_|refine w5 ?_ ?_|((refine bh fun h=>?_) <;> try exact w6 h)|(refine aE fun hA=>?_;subst hA)|intro _)
  all_goals(refine aC ?_;exact aB (hK _ _))
end
section
variable {R C:List HP} {K:Value→List HP→Prop} {x mc i b p r:Nat} {a:Ca} {s:Cn} {M:Option Addr} {B id n st t:Int} {m:Sm} {l:List Sm} {fs:List Fm} {c:Cf}
theorem Ud (hI:bS B s) (hk:fR c s) {j:Nat} (h:(d6 s.tr)[j]?=some id):∃m,b7 id s.l=some m∧m.id=id:=by
 have h1:=Ku hI.tr (n:=s.tr.1.length+1) (lv:=bZ 0 s.tr.1) (fun y hy=>(kF hI.tr.nd hy).1) id (List.mem_of_getElem? h)
 obtain⟨m,hm,rfl⟩:=hk.tn id h1
 exact⟨m,Aiz hI.sm hm,rfl⟩
theorem Tg {z:eJ} (h:Lu z):∀ {n:Nat} {lv:List Int},lv.Nodup→(∀y∈lv,eN z y)→(yN z n lv).length≤64 * n
 |0,_,_,_=>Nat.zero_le _
 |n+1,lv,hn,hl=>by
  have h64:=h.len
  have h1:=G9 (s:=z) hn hl
  have h2:=Tg h (n:=n) (Ag7 h.nd hn) (fun q hq=>by
   unfold Jt at hq
   exact(zD h.nd q (Av.1 hq)).1)
  unfold yN
  split
  ·simp
  ·rw[List.length_append];omega
theorem Es (hI:bS B s):(d6 s.tr).length≤10000:=by
 have h1:=hI.tr.len
 have h2:=Tg hI.tr (n:=s.tr.1.length+1) (lv:=bZ 0 s.tr.1) (AG hI.tr.nd) fun y hy=>(kF hI.tr.nd hy).1
 unfold d6
 omega
theorem map_take {j:Nat} {α β:Type} {f:α→β} {l:List α} {z:α} (h:l[j]?=some z):(l.take (j+1)).map f=(l.take j).map f++ [f z]:=by
 rw[List.take_add_one,h]
 simp
def jK:List Nat:= [0,0,0,4,12,28,0,124,0,256,768,1792,4092,8188,16380,32764,16380,81916,212988,475132,16380,2097148,4194300,8388604,16777214,33554430,67108863,134217727]
def jG:List Nat:= [134217727,67108863,33554430,16777214,8388604,4194300,2097148,16380,475132,212988,81916,16380,32764,16380,8188,4092,1792,768,256,0,124,0,28,12,4,0,0,0]
def jE:List (Nat×Nat):= [(2,0),(3,0),(4,0),(5,0),(6,0),(7,1),(8,1),(9,1),(10,1),(11,1),(12,1),(13,0),(14,0),(15,1),(16,1),(17,1),(18,1),(19,1),(20,1),(21,1),(22,1),(1,5),(23,0),(24,0),(25,1),(0,6),(26,1),(27,0)]
theorem tP (hI:bS B s) (hk:fR c s) (hK:∀A c,K (.slice A (eG s).length c) (bU A c 333 MK (eG s)::bY x a s M mc R)):aA Tryz.prog 191 #[.pointer (some ⟨x,0,none⟩)] (bY x a s M mc R) K:=by
 have hbb:=hI.bb
 have hld:=hI.ld.ok (by omega)
 have htl:=hI.tr.len
 obtain⟨rk,hrk⟩:=hI.tr.rk
 have hll:=Es hI
 unfold eG at hK
 dsimp only[bY,pM]
 refine aH Tryz.func191 ?_
 repeat' (first|refine XD ?_|refine PX jK jG jE ?_|refine wr ?_|refine w5 ?_ ?_|((refine bh fun h=>?_) <;> try exact w6 h)|(refine aE fun hA=>?_;subst hA)|intro _|(show aA _ 288 _ _ _;refine CA (h:=SV (s:=s.tr) (r:=rk) hI.tr.kok (by omega) hI.tr.nd hrk (fun Bq dq=>?_))))
 refine iL (fun n a' C'=>∃(j:Nat) (A:Option Addr) (k:Nat),j+n=(d6 s.tr).length∧dC a' [(0,.pointer (some ⟨x,0,none⟩)),(3,.slice A (((d6 s.tr).take j).map (nM s)).length k),(12,.slice Bq (d6 s.tr).length dq),(13,.int .i64 (d6 s.tr).length),(14,.int .i64 j)]∧C'=bU A k 333 MK (((d6 s.tr).take j).map (nM s))::bU Bq dq 3 nI (d6 s.tr)::bY x a s M mc R) (d6 s.tr).length (cC (d6 s.tr).length ⟨0,none,0,by omega,⟨rfl,rfl,rfl,rfl,rfl,trivial⟩,rfl⟩) ?_
 rintro n a' C' ⟨j,A,k,hj,ha,rfl⟩
 refine gV _ ha ?_
 simp only[fN]
 have hlt0:(((d6 s.tr).take j).map (nM s)).length=min j (d6 s.tr).length:=by rw[List.length_map,List.length_take]
 by_cases hlt:j<(d6 s.tr).length
 ·obtain⟨id,hid⟩:∃id,(d6 s.tr)[j]?=some id:=⟨_,List.getElem?_eq_getElem hlt⟩
  obtain⟨m,hm,hmid⟩:=Ud hI hk hid
  have hi:=(aZ hm).1
  have hmt:=map_take (f:=nM s) hid
  have hv:(d6 s.tr)[((j:Nat):Int).toNat]?=some id:=by rw[Int.toNat_natCast];exact hid
  have hlj:(((d6 s.tr).take j).map (nM s)).length=j:=by omega
  dsimp only[bY,pM]
  cases hg:SH m
  ·have hg2:decide (m.sta=1∨m.sta=3)=false:=hg
   have e:nM s id=⟨id,if dR id s.tr.1=true then(cZ id s.tr).w else 0,false⟩:=by unfold nM;rw[hm];dsimp only;rw[hg];rfl
   repeat' (first|(show aM _ _ _ _ _ _ _;(refine nX (E:=MK) (xs:=((d6 s.tr).take j).map (nM s)) (ys:= [⟨id,if dR id s.tr.1=true then(cZ id s.tr).w else 0,false⟩]) ?_;intro A2 k2))|refine XD ?_|refine PX jK jG jE ?_|refine wr ?_|refine w5 ?_ ?_|((refine bh fun h=>?_) <;> try exact w6 h)|(refine aE fun hA=>?_;subst hA)|intro _|(show aA _ 192 _ _ _;refine CA (h:=OI (l:=s.l) hI.sm hm (fun bq li t r hok=>?_)))|(show aA _ 289 _ _ _;refine CA (h:=FR (s:=s.tr) ?_))|(show aA _ 182 _ _ _;refine CA (h:=nU (s:=m.sta) ?_);rw[hg2]))
   all_goals rw[← e,← hmt]
   all_goals(show aV _ _ _ _;exact sO (m:=n - 1) (by omega) (aG.trans (by exact aY) (aG.cons (A:=bU A2 k2 333 MK (((d6 s.tr).take (j+1)).map (nM s))) (aG.cons (A:=bU _ dq 3 nI (d6 s.tr)) (aG.trans (cK (m:=m) hok) (dY (x:=x) (a:=a) (s:=s) (M:=M) (mc:=mc) (R:=R) hi))))) ⟨j+1,A2,k2,by omega,⟨rfl,rfl,rfl,rfl,rfl,trivial⟩,rfl⟩)
  ·have hg2:decide (m.sta=1∨m.sta=3)=true:=hg
   have e:nM s id=⟨id,if dR id s.tr.1=true then(cZ id s.tr).w else 0,Nw m.x (bC id s.ld)⟩:=by unfold nM;rw[hm];dsimp only;rw[hg];rfl
   repeat' (first|(show aM _ _ _ _ _ _ _;(refine nX (E:=MK) (xs:=((d6 s.tr).take j).map (nM s)) (ys:= [⟨id,if dR id s.tr.1=true then(cZ id s.tr).w else 0,Nw m.x (bC id s.ld)⟩]) ?_;intro A2 k2))|refine XD ?_|refine PX jK jG jE ?_|refine wr ?_|refine w5 ?_ ?_|((refine bh fun h=>?_) <;> try exact w6 h)|(refine aE fun hA=>?_;subst hA)|intro _|(show aA _ 192 _ _ _;refine CA (h:=OI (l:=s.l) hI.sm hm (fun bq li t r hok=>?_)))|(show aA _ 289 _ _ _;refine CA (h:=FR (s:=s.tr) ?_))|(show aA _ 182 _ _ _;refine CA (h:=nU (s:=m.sta) ?_);rw[hg2])|(show aA _ 86 _ _ _;refine CA (h:=L9 ?_))|(show aA _ 184 _ _ _;refine CA (h:=tD (s:=s.ld) hld ?_))|(show aA _ 274 _ _ _;refine CA (h:=Adz (x:=m.x) ?_)))
   all_goals rw[← e,← hmt]
   all_goals(show aV _ _ _ _;exact sO (m:=n - 1) (by omega) (aG.trans (by exact aY) (aG.cons (A:=bU A2 k2 333 MK (((d6 s.tr).take (j+1)).map (nM s))) (aG.cons (A:=bU _ dq 3 nI (d6 s.tr)) (aG.trans (cK (m:=m) hok) (dY (x:=x) (a:=a) (s:=s) (M:=M) (mc:=mc) (R:=R) hi))))) ⟨j+1,A2,k2,by omega,⟨rfl,rfl,rfl,rfl,rfl,trivial⟩,rfl⟩)
 ·obtain rfl:j=(d6 s.tr).length:=by omega
  rw[List.take_length]
  repeat' (first|refine XD ?_|refine PX jK jG jE ?_|refine wr ?_|refine w5 ?_ ?_|((refine bh fun h=>?_) <;> try exact w6 h)|(refine aE fun hA=>?_;subst hA)|intro _)
  all_goals(refine aC ?_;exact aB (hK _ _))
end
section
variable {R C:List HP} {K:Value→List HP→Prop} {x mc i b p r:Nat} {a:Ca} {s:Cn} {M:Option Addr} {B id n st t:Int} {m:Sm} {l:List Sm} {fs:List Fm} {c:Cf} {q:wU} {g:eE}
def Yf (q:wU) (s:Cn):Cn:= { s with pk:=q.1,pc:=q.2 }
def TO (id:Int) (m:Sm) (s:Cn):Fm:=vW (bB m.x - 1) id (iC m.x (bC id s.ld)) (BF m.x (bC id s.ld))
def Ea (id:Int) (m:Sm) (s:Cn):Int:=if bB m.x=1 then((iC m.x (bC id s.ld)).size:Nat) else if iC m.x (bC id s.ld)=⟨#[]⟩∧BF m.x (bC id s.ld)=true then 0 else 1
def u9 (id:Int) (m:Sm) (q:wU) (s:Cn):Cn:= { s with ld:=(if bB m.x=1 then lO id ((iC m.x (bC id s.ld)).size:Nat) s.ld else s.ld),pk:=(jC id (p7 id q.1 - fF ((iC m.x (bC id s.ld)).size:Nat)) q).1,pc:=(jC id (p7 id q.1 - fF ((iC m.x (bC id s.ld)).size:Nat)) q).2 }
def zL (id:Int) (m:Sm) (q:wU) (s:Cn):Cn:=kP (CQ m (bC id s.ld)) (sY ⟨1,id,Ea id m s,iC m.x (bC id s.ld),BF m.x (bC id s.ld)⟩ (Aj (CQ m (bC id s.ld)) (u9 id m q s)))
theorem Lq (h:zC (s.pk,s.pc) (eG s)=(none,q)):p8 s=(none,Yf q s):=by
 unfold p8;rw[h];rfl
theorem Hu (h:zC (s.pk,s.pc) (eG s)=(some id,q)) (hm:b7 id s.l=some m) (hr:HC m (bC id s.ld)=true):p8 s=(some (TO id m s),zL id m q s):=by
 unfold p8;rw[h];dsimp only;rw[hm];dsimp only;rw[if_neg (by rw[hr];decide)];rfl
theorem UQ {pk:List (KE Int)}:∀ {l:List Tu},rQ pk l=some id→∃y∈l,y.id=id
 | [],h=>by cases h
 |x::r,h=>by
  unfold rQ at h
  split at h
  ·cases h;exact⟨x,List.mem_cons_self ..,rfl⟩
  ·obtain⟨y,hy,e⟩:=UQ h
   exact⟨y,List.mem_cons_of_mem _ hy,e⟩
theorem MS:∀ {l:List Tu} {seen:List (KE Bool)} {ck:Nat},∀y∈pO seen ck l,y∈l∧y.rd=true
 | [],_,_,_,hy=>by cases hy
 |x::r,seen,ck,y,hy=>by
  unfold pO at hy
  split at hy
  ·rename_i hc
   rcases List.mem_cons.1 hy with rfl|hy
   ·exact⟨List.mem_cons_self ..,hc.2⟩
   ·obtain⟨h1,h2⟩:=MS y hy
    exact⟨List.mem_cons_of_mem _ h1,h2⟩
  ·obtain⟨h1,h2⟩:=MS y hy
   exact⟨List.mem_cons_of_mem _ h1,h2⟩
theorem Ah5 {z:wU} {l:List Tu} (h:zC z l=(some id,q)):∃y∈l,y.id=id∧y.rd=true:=by
 unfold zC at h
 cases hw:pO [] 0 l with
 |nil=>rw[hw] at h;cases h
 |cons x r=>
  rw[hw] at h
  dsimp only at h
  have key:∀ {pk:List (KE Int)},rQ pk (x::r)=some id→∃y∈l,y.id=id∧y.rd=true:=fun hf=>by
   obtain⟨y,hy,e⟩:=UQ hf
   rw[← hw] at hy
   obtain⟨h1,h2⟩:=MS y hy
   exact⟨y,h1,e,h2⟩
  cases hf:rQ z.1 (x::r) with
  |some k=>
   rw[hf] at h
   cases h
   exact key hf
  |none=>
   rw[hf] at h
   exact key (congrArg Prod.fst h)
theorem EY (hI:bS B s) (hk:fR c s) (h:zC (s.pk,s.pc) (eG s)=(some id,q)):∃m,b7 id s.l=some m∧HC m (bC id s.ld)=true:=by
 obtain⟨y,hy,hid,hrd⟩:=Ah5 h
 obtain⟨k,hk2,rfl⟩:=List.mem_map.1 hy
 have hid:k=id:=hid
 subst hid
 obtain⟨j,hj⟩:=List.getElem?_of_mem hk2
 obtain⟨m,hm,_⟩:=Ud hI hk hj
 refine⟨m,hm,?_⟩
 unfold nM at hrd
 rw[hm] at hrd
 exact hrd
theorem U6 {z:Ld}:0≤bC id z:=by
 unfold bC
 split
 ·omega
 ·exact Int.le_refl 0
theorem Mn {x:Xs} (h:xSz x):(iC x n).size≤256:=by
 cases x with
 |b z=>
  have e:(iC (.b z) n).size=min (BU z.bs n) z.bs.length:=by
   show((z.bs.take (BU z.bs n)).toArray).size=_
   simp
  rw[e];unfold BU;omega
 |i z=>
  cases hl:z.l with
  |nil=>
   have e:iC (.i z) n=⟨#[]⟩:=by simp only[iC,hl]
   rw[e];decide
  |cons d r=>
   have e:iC (.i z) n=d:=by simp only[iC,hl]
   rw[e]
   exact h d (by rw[hl];exact List.mem_cons_self ..)
theorem Aka {x:Xs} (hk:bB x=1) (hn:0≤n):((iC x n).size:Int)≤n:=by
 cases x with
 |b z=>
  have e:(iC (.b z) n).size=min (BU z.bs n) z.bs.length:=by
   show((z.bs.take (BU z.bs n)).toArray).size=_
   simp
  rw[e];unfold BU;omega
 |i z=>cases hk
theorem Aeb (hI:bS B s) (hk:fR c s) (hm:b7 id s.l=some m) (hx:bB m.x=1):rH id ((iC m.x (bC id s.ld)).size:Nat) s.ld=0:=by
 obtain⟨hi,hmid⟩:=aZ hm
 have h1:=(S6 hI.ld).2 ((hk.lk id).2 ⟨m,List.mem_of_getElem? hi,hmid,hx⟩)
 have h2:=Aka hx (U6 (id:=id) (z:=s.ld))
 unfold rH
 rw[if_neg (by rw[h1];decide),if_neg (by omega),if_neg (by omega)]
theorem Ab9 {k:Nat} (h:k≤256):1≤fF k∧fF k≤1024:=by
 unfold fF
 split <;> omega
theorem vP:(CQ m n).id=m.id:=by unfold CQ;split <;> rfl
theorem UE:(CQ m n).own=m.own:=by unfold CQ;split <;> rfl
theorem Yh:bB (CQ m n).x=bB m.x:=by
 unfold CQ
 split
 ·exact DN
 ·rfl
theorem Ai8 (h:ED B m):ED B (CQ m n):=by
 obtain⟨h1,h2,h3,h4⟩:=h
 unfold CQ
 split
 ·refine⟨h1,?_,h3,h4⟩
  show JK (xTk m.x n)≤B
  cases hx:m.x with
  |b z=>rw[hx] at h2;exact h2
  |i z=>
   rw[hx] at h2
   unfold xTk
   dsimp only
   split <;> exact h2
 ·exact⟨h1,h2,h3,h4⟩
theorem Aie (h:P8 c g m):P8 c g (CQ m n):=by
 obtain⟨h1,h2,h3,h4⟩:=h
 unfold CQ
 split
 ·refine⟨h1,?_,DN.trans h3,?_⟩
  ·show ZN c (xTk m.x n)
   cases hx:m.x with
   |b z=>rw[hx] at h2;exact h2
   |i z=>
    rw[hx] at h2
    unfold xTk
    dsimp only
    split <;> exact h2
  ·show xSz (xTk m.x n)
   cases hx:m.x with
   |b z=>trivial
   |i z=>
    rw[hx] at h4
    unfold xTk
    dsimp only
    split
    ·exact h4
    ·rename_i d r hl
     exact fun y hy=>h4 y (by rw[hl];exact List.mem_cons_of_mem _ hy)
 ·exact⟨h1,h2,h3,h4⟩
theorem Ajz:kb (CQ m n)=kb m:=by
 unfold kb
 rw[Yh]
 have:hO (CQ m n).y=hO m.y:=by unfold CQ;split <;> rfl
 rw[this]
theorem Ahu (h:bS B s) (hq:KO q):bS B (Yf q s):= { h with pk:=hq }
theorem Xh (h:bS B s) (hk:fR c s) (hm:b7 id s.l=some m) (hq:KO q) (hB:B+300≤250000000):bS (B+300) (u9 id m q s):=by
 have hs:=Mn (n:=bC id s.ld) (hk.mo m (List.mem_of_getElem? (aZ hm).1)).sz
 exact { h.mono (B':=B+300) (by omega) hB with
  pk:=Mk hq
  ld:=by
   show F1 (B+300) (if bB m.x=1 then lO id ((iC m.x (bC id s.ld)).size:Nat) s.ld else s.ld)
   split
   ·exact Vm h.ld (by omega) (by omega)
   ·exact h.ld.mono (by omega) }
theorem Eo (hm:b7 id s.l=some m):Aj (CQ m (bC id s.ld)) (u9 id m q s)= { u9 id m q s with l:=s.l.set (cB id s.l) (CQ m (bC id s.ld)) }:=eB (s:=u9 id m q s) (id:=id) (vP.trans (aZ hm).2)
theorem E4 {mv:Mv} (h:bS B s) (hk:fR c s) (hm:b7 id s.l=some m) (hq:KO q) (hB:B+300≤250000000):bS (B+300) { sY mv (u9 id m q s) with l:=s.l.set (cB id s.l) (CQ m (bC id s.ld)) }:=by
 obtain⟨hi,hmid⟩:=aZ hm
 have h1:=Xh h hk hm hq hB
 refine kZ (s:=sY mv (u9 id m q s)) (m:=m) ?_ hi vP UE (Ai8 (h1.st m (List.mem_of_getElem? hi)))
 exact { h1 with
  mv:=by
   have:=h.mv
   show((s.mv++ [mv]).length:Int)+s.l.length≤B+300
   rw[List.length_append,List.length_singleton];omega }
theorem Xz {mv:Mv} (hk:fR c s) (hm:b7 id s.l=some m):fR c { sY mv (u9 id m q s) with l:=s.l.set (cB id s.l) (CQ m (bC id s.ld)) }:=by
 obtain⟨hi,hmid⟩:=aZ hm
 have h1:fR c (sY mv (u9 id m q s)):= { hk with
  lk:=fun j=>by
   show j∈(if bB m.x=1 then lO id ((iC m.x (bC id s.ld)).size:Nat) s.ld else s.ld).l.map gI.id↔_
   split
   ·rw[Vx];exact hk.lk j
   ·exact hk.lk j }
 exact xJ (s:=sY mv (u9 id m q s)) h1 hi vP UE (Aie (hk.mo m (List.mem_of_getElem? hi))) (by rw[Ajz];exact Nat.le_refl _) Yh
theorem OB (h:bS B s) (hk:fR c s) (hm:b7 id s.l=some m) (hq:KO q) (hB:B+300≤250000000):bS (B+300) (zL id m q s):=by
 unfold zL
 rw[Eo hm]
 exact D4 (E4 h hk hm hq hB) (lN (m':=CQ m (bC id s.ld)) hm vP)
theorem OJ (h:bS B s) (hk:fR c s) (hm:b7 id s.l=some m) (hq:KO q) (hB:B+300≤250000000):fR c (zL id m q s):=by
 unfold zL
 rw[Eo hm]
 exact D7 (E4 h hk hm hq hB) (Xz hk hm) (lN (m':=CQ m (bC id s.ld)) hm vP)
theorem Aif {d:ByteArray} (h:d≠⟨#[]⟩):(d.toList == (ByteArray.mk #[]).toList)=false:=by
 rw[beq_eq_false_iff_ne]
 intro e
 apply h
 rw[ByteArray.toList_eq,ByteArray.toList_eq] at e
 exact ByteArray.ext (Array.toList_inj.1 e)
def iI:List (Nat×Nat):= [(4,0),(5,1),(0,1),(1,1),(2,1),(3,1),(6,1),(7,0),(8,0),(9,0),(10,0),(11,0)]
def g9:List (Nat×Nat):= [(5,0),(6,0),(7,0),(8,1),(0,1),(1,1),(2,1),(3,1),(4,1),(9,1)]
theorem SX (hI:bS B s) (hk:fR c s) (h:zC (s.pk,s.pc) (eG s)=(none,q)) (hK:K (.tuple #[.agg #[.int .i64 0,.int .i64 0,.bool false,.string ⟨#[]⟩,.int .i64 0,.int .i64 0,.int .i64 0,.bool false,.int .i64 0,.int .i64 0,.int .i64 0,.slice none 0 0],.bool false]) (bY x a (Yf q s) M mc R)):aA Tryz.prog 97 #[.pointer (some ⟨x,0,none⟩)] (bY x a s M mc R) K:=by
 have hV:KT (s.pk,s.pc) (eG s)=.tuple #[.int .i64 0,.bool false]:=by unfold KT;rw[h]
 have hln:(eG s).length≤10000:=by unfold eG;rw[List.length_map];exact Es hI
 refine aH Tryz.func97 ?_
 repeat' (first|refine v88 ?_|refine dw iI ?_|refine dw g9 ?_|refine wr ?_|refine w5 ?_ ?_|((refine bh fun h=>?_) <;> try exact w6 h)|(refine aE fun hA=>?_;subst hA)|intro _|(show aA _ 191 _ _ _;refine CA (h:=tP (x:=x) (a:=a) (s:=s) (M:=M) (mc:=mc) hI hk (fun _ _=>?_)))|(show aA _ 190 _ _ _;refine CA (h:=wH (s:=(s.pk,s.pc)) (l:=eG s) hln hI.pk ?_);rw[hV,h]))
 all_goals(refine aC ?_;exact aB (hK))
theorem QD (hI:bS B s) (hk:fR c s) (hB:B+300≤250000000) (h:zC (s.pk,s.pc) (eG s)=(some id,q)) (hm:b7 id s.l=some m) (hr:HC m (bC id s.ld)=true) (hK:∀M mc,K (.tuple #[.agg #[.int .i64 (bB m.x - 1),.int .i64 id,.bool (BF m.x (bC id s.ld)),.string (iC m.x (bC id s.ld)),.int .i64 0,.int .i64 0,.int .i64 0,.bool false,.int .i64 0,.int .i64 0,.int .i64 0,.slice none 0 0],.bool true]) (bY x a (zL id m q s) M mc R)):aA Tryz.prog 97 #[.pointer (some ⟨x,0,none⟩)] (bY x a s M mc R) K:=by
 have hV:KT (s.pk,s.pc) (eG s)=.tuple #[.int .i64 id,.bool true]:=by unfold KT;rw[h]
 have hln:(eG s).length≤10000:=by unfold eG;rw[List.length_map];exact Es hI
 have hbb:=hI.bb
 have hmv:=hI.mv
 have hld:=hI.ld.ok (by omega)
 obtain⟨hi,hmid⟩:=aZ hm
 have hq:KO q:=by
  have:=Lx (s:=(s.pk,s.pc)) (l:=eG s) hI.pk
  rw[h] at this;exact this
 have hql:=E3 hq id
 have hsz:=Mn (n:=bC id s.ld) (hk.mo m (List.mem_of_getElem? hi)).sz
 have hco:=Ab9 hsz
 have hI2:=E4 (mv:=⟨1,id,Ea id m s,iC m.x (bC id s.ld),BF m.x (bC id s.ld)⟩) hI hk hm hq hB
 have hat:=lN (m':=CQ m (bC id s.ld)) hm vP
 unfold zL at hK
 rw[Eo hm] at hK
 have hkk:bB m.x=1∨bB m.x=2:=by cases m.x;exact .inl rfl;exact .inr rfl
 rcases hkk with hx|hx
 ·have hsp:=Aeb hI hk hm hx
  have hx1:bB m.x - 1=0:=by omega
  have hN:Ea id m s=((iC m.x (bC id s.ld)).size:Nat):=if_pos hx
  rw[hN] at hK hI2
  rw[hx1] at hK
  have e1:u9 id m q s= { s with ld:=lO id ((iC m.x (bC id s.ld)).size:Nat) s.ld,pk:=(jC id (p7 id q.1 - fF ((iC m.x (bC id s.ld)).size:Nat)) q).1,pc:=(jC id (p7 id q.1 - fF ((iC m.x (bC id s.ld)).size:Nat)) q).2 }:=by unfold u9;rw[if_pos hx]
  rw[e1] at hK hI2
  refine aH Tryz.func97 ?_
  repeat' (first|refine v88 ?_|refine dw iI ?_|refine dw g9 ?_|refine wr ?_|refine w5 ?_ ?_|((refine bh fun h=>?_) <;> try exact w6 h)|(refine aE fun hA=>?_;subst hA)|intro _|(show aA _ 191 _ _ _;refine CA (h:=tP (x:=x) (a:=a) (s:=s) (M:=M) (mc:=mc) hI hk (fun _ _=>?_)))|(show aA _ 190 _ _ _;refine CA (h:=wH (s:=(s.pk,s.pc)) (l:=eG s) hln hI.pk ?_);rw[hV,h])|(show aA _ 192 _ _ _;refine CA (h:=f7 (l:=s.l) hI.sm hm (fun bq=>?_)))|(show aA _ 184 _ _ _;refine CA (h:=tD (s:=s.ld) hld ?_))|(show aA _ 193 _ _ _;refine CA (h:=AO (m:=m) hr ?_);rw[hx1,hmid])|(show aA _ 194 _ _ _;refine CA (h:=R2 (s:=s.ld) hld ?_ hsp))|(show aA _ 196 _ _ _;refine CA (h:=A6 (by omega) ?_))|(show aA _ 195 _ _ _;refine CA (h:=vM (l:=q.1) (ck:=q.2) hco (by omega) ?_))|(show aA _ 197 _ _ _;refine CA (h:=j1 (x:=x) (a:=a) (s:= { s with ld:=lO id ((iC m.x (bC id s.ld)).size:Nat) s.ld,pk:=(jC id (p7 id q.1 - fF ((iC m.x (bC id s.ld)).size:Nat)) q).1,pc:=(jC id (p7 id q.1 - fF ((iC m.x (bC id s.ld)).size:Nat)) q).2 }) (M:=M) (mc:=mc) (T:=Nh a.l s.l (cB id s.l) bq) (by show s.mv.length≤1000000000;omega) (fun _ _=>?_)))|(show aA _ 120 _ _ _;refine CA (h:=kL (x:=x) (a:=a) (s:=sY ⟨1,id,((iC m.x (bC id s.ld)).size:Nat),(iC m.x (bC id s.ld)),(BF m.x (bC id s.ld))⟩ ({ s with ld:=lO id ((iC m.x (bC id s.ld)).size:Nat) s.ld,pk:=(jC id (p7 id q.1 - fF ((iC m.x (bC id s.ld)).size:Nat)) q).1,pc:=(jC id (p7 id q.1 - fF ((iC m.x (bC id s.ld)).size:Nat)) q).2 })) (i:=cB id s.l) (m:=m) (m':=CQ m (bC id s.ld)) hi vP hI2 hat (fun _ _=>?_))))
  all_goals(refine aC ?_;exact aB (hK _ _))
 ·have hx1:bB m.x - 1=1:=by omega
  have hx2:¬bB m.x=1:=by omega
  rw[hx1] at hK
  have e1:u9 id m q s= { s with pk:=(jC id (p7 id q.1 - fF ((iC m.x (bC id s.ld)).size:Nat)) q).1,pc:=(jC id (p7 id q.1 - fF ((iC m.x (bC id s.ld)).size:Nat)) q).2 }:=by unfold u9;rw[if_neg hx2]
  rw[e1] at hK hI2
  by_cases hd:(iC m.x (bC id s.ld))=⟨#[]⟩
  ·cases he:(BF m.x (bC id s.ld))
   ·have hN:Ea id m s=1:=by unfold Ea;rw[if_neg hx2,if_neg (by rw[he];simp)]
    rw[hN] at hK hI2
    rw[hd] at hK hI2 hsz hco
    rw[he] at hK hI2
    refine aH Tryz.func97 ?_
    repeat' (first|refine v88 ?_|refine dw iI ?_|refine dw g9 ?_|refine wr ?_|refine w5 ?_ ?_|((refine bh fun h=>?_) <;> try exact w6 h)|(refine aE fun hA=>?_;subst hA)|intro _|(show aA _ 191 _ _ _;refine CA (h:=tP (x:=x) (a:=a) (s:=s) (M:=M) (mc:=mc) hI hk (fun _ _=>?_)))|(show aA _ 190 _ _ _;refine CA (h:=wH (s:=(s.pk,s.pc)) (l:=eG s) hln hI.pk ?_);rw[hV,h])|(show aA _ 192 _ _ _;refine CA (h:=f7 (l:=s.l) hI.sm hm (fun bq=>?_)))|(show aA _ 184 _ _ _;refine CA (h:=tD (s:=s.ld) hld ?_))|(show aA _ 193 _ _ _;refine CA (h:=AO (m:=m) hr ?_);rw[hx1,hmid,hd,he])|(show aA _ 196 _ _ _;refine CA (h:=A6 (by omega) ?_))|(show aA _ 195 _ _ _;refine CA (h:=vM (l:=q.1) (ck:=q.2) hco (by omega) ?_))|(show aA _ 197 _ _ _;refine CA (h:=j1 (x:=x) (a:=a) (s:= { s with pk:=(jC id (p7 id q.1 - fF ((⟨#[]⟩:ByteArray).size:Nat)) q).1,pc:=(jC id (p7 id q.1 - fF ((⟨#[]⟩:ByteArray).size:Nat)) q).2 }) (M:=M) (mc:=mc) (T:=Nh a.l s.l (cB id s.l) bq) (by show s.mv.length≤1000000000;omega) (fun _ _=>?_)))|(show aA _ 120 _ _ _;refine CA (h:=kL (x:=x) (a:=a) (s:=sY ⟨1,id,1,⟨#[]⟩,false⟩ ({ s with pk:=(jC id (p7 id q.1 - fF ((⟨#[]⟩:ByteArray).size:Nat)) q).1,pc:=(jC id (p7 id q.1 - fF ((⟨#[]⟩:ByteArray).size:Nat)) q).2 })) (i:=cB id s.l) (m:=m) (m':=CQ m (bC id s.ld)) hi vP hI2 hat (fun _ _=>?_))))
    all_goals(refine aC ?_;exact aB (hK _ _))
   ·have hN:Ea id m s=0:=by unfold Ea;rw[if_neg hx2,if_pos ⟨hd,he⟩]
    rw[hN] at hK hI2
    rw[hd] at hK hI2 hsz hco
    rw[he] at hK hI2
    refine aH Tryz.func97 ?_
    repeat' (first|refine v88 ?_|refine dw iI ?_|refine dw g9 ?_|refine wr ?_|refine w5 ?_ ?_|((refine bh fun h=>?_) <;> try exact w6 h)|(refine aE fun hA=>?_;subst hA)|intro _|(show aA _ 191 _ _ _;refine CA (h:=tP (x:=x) (a:=a) (s:=s) (M:=M) (mc:=mc) hI hk (fun _ _=>?_)))|(show aA _ 190 _ _ _;refine CA (h:=wH (s:=(s.pk,s.pc)) (l:=eG s) hln hI.pk ?_);rw[hV,h])|(show aA _ 192 _ _ _;refine CA (h:=f7 (l:=s.l) hI.sm hm (fun bq=>?_)))|(show aA _ 184 _ _ _;refine CA (h:=tD (s:=s.ld) hld ?_))|(show aA _ 193 _ _ _;refine CA (h:=AO (m:=m) hr ?_);rw[hx1,hmid,hd,he])|(show aA _ 196 _ _ _;refine CA (h:=A6 (by omega) ?_))|(show aA _ 195 _ _ _;refine CA (h:=vM (l:=q.1) (ck:=q.2) hco (by omega) ?_))|(show aA _ 197 _ _ _;refine CA (h:=j1 (x:=x) (a:=a) (s:= { s with pk:=(jC id (p7 id q.1 - fF ((⟨#[]⟩:ByteArray).size:Nat)) q).1,pc:=(jC id (p7 id q.1 - fF ((⟨#[]⟩:ByteArray).size:Nat)) q).2 }) (M:=M) (mc:=mc) (T:=Nh a.l s.l (cB id s.l) bq) (by show s.mv.length≤1000000000;omega) (fun _ _=>?_)))|(show aA _ 120 _ _ _;refine CA (h:=kL (x:=x) (a:=a) (s:=sY ⟨1,id,0,⟨#[]⟩,true⟩ ({ s with pk:=(jC id (p7 id q.1 - fF ((⟨#[]⟩:ByteArray).size:Nat)) q).1,pc:=(jC id (p7 id q.1 - fF ((⟨#[]⟩:ByteArray).size:Nat)) q).2 })) (i:=cB id s.l) (m:=m) (m':=CQ m (bC id s.ld)) hi vP hI2 hat (fun _ _=>?_))))
    all_goals(refine aC ?_;exact aB (hK _ _))
  ·have hN:Ea id m s=1:=by unfold Ea;rw[if_neg hx2,if_neg (fun q=>hd q.1)]
   rw[hN] at hK hI2
   have hbq:=Aif hd
   refine aH Tryz.func97 ?_
   repeat' (first|(show cV _ _ _;rw[hbq])|refine v88 ?_|refine dw iI ?_|refine dw g9 ?_|refine wr ?_|refine w5 ?_ ?_|((refine bh fun h=>?_) <;> try exact w6 h)|(refine aE fun hA=>?_;subst hA)|intro _|(show aA _ 191 _ _ _;refine CA (h:=tP (x:=x) (a:=a) (s:=s) (M:=M) (mc:=mc) hI hk (fun _ _=>?_)))|(show aA _ 190 _ _ _;refine CA (h:=wH (s:=(s.pk,s.pc)) (l:=eG s) hln hI.pk ?_);rw[hV,h])|(show aA _ 192 _ _ _;refine CA (h:=f7 (l:=s.l) hI.sm hm (fun bq=>?_)))|(show aA _ 184 _ _ _;refine CA (h:=tD (s:=s.ld) hld ?_))|(show aA _ 193 _ _ _;refine CA (h:=AO (m:=m) hr ?_);rw[hx1,hmid])|(show aA _ 196 _ _ _;refine CA (h:=A6 (by omega) ?_))|(show aA _ 195 _ _ _;refine CA (h:=vM (l:=q.1) (ck:=q.2) hco (by omega) ?_))|(show aA _ 197 _ _ _;refine CA (h:=j1 (x:=x) (a:=a) (s:= { s with pk:=(jC id (p7 id q.1 - fF ((iC m.x (bC id s.ld)).size:Nat)) q).1,pc:=(jC id (p7 id q.1 - fF ((iC m.x (bC id s.ld)).size:Nat)) q).2 }) (M:=M) (mc:=mc) (T:=Nh a.l s.l (cB id s.l) bq) (by show s.mv.length≤1000000000;omega) (fun _ _=>?_)))|(show aA _ 120 _ _ _;refine CA (h:=kL (x:=x) (a:=a) (s:=sY ⟨1,id,1,(iC m.x (bC id s.ld)),(BF m.x (bC id s.ld))⟩ ({ s with pk:=(jC id (p7 id q.1 - fF ((iC m.x (bC id s.ld)).size:Nat)) q).1,pc:=(jC id (p7 id q.1 - fF ((iC m.x (bC id s.ld)).size:Nat)) q).2 })) (i:=cB id s.l) (m:=m) (m':=CQ m (bC id s.ld)) hi vP hI2 hat (fun _ _=>?_))))
   all_goals(refine aC ?_;exact aB (hK _ _))
end
end Go.Proofs.YtifgibijcmppmaaGreat
