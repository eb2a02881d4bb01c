/- A part of the proof: lemmas; each with the conditions that it states. -/
import Derived.Test.YtifgibijcmppmaaGreatNau
import Derived.Test.YtifgibijcmppmaaGreatNay
import Derived.Test.YtifgibijcmppmaaGreatNaj
set_option linter.unusedVariables false
set_option linter.unusedSimpArgs false
namespace Go.Proofs.YtifgibijcmppmaaGreat
open Go Go.Proofs Go.Sl
set_option maxRecDepth 100000
set_option maxHeartbeats 40000000
attribute [local irreducible] aN fB cJ bO aM aY aA dM dQ aW dK pt ro fF star sep bI
section
variable {R C:List HP} {K:Value→List HP→Prop}
structure TA where
 k:Int
 n:Int
 s:ByteArray
end
section
variable {R C:List HP} {K:Value→List HP→Prop}
section
variable {t x cap:Nat} {st:Int} {bs:List UInt8} {en ou:Bool} {ac se dr w:Int} {k n:Int} {s:ByteArray} {l:List ByteArray}
end
section
variable {A:Option Addr} {n c:Nat} {ls:List TA} {kd st:Int}
end
end
end Go.Proofs.YtifgibijcmppmaaGreat
namespace Go.Proofs.YtifgibijcmppmaaGreat
open Go Go.Proofs Go.Sl
set_option maxRecDepth 100000
set_option maxHeartbeats 40000000
attribute [local irreducible] aN fB cJ bO aM aY aA dM dQ aW dK pt ro fF star sep bI
attribute [local irreducible] mp El
section
variable {R C:List HP} {K:Value→List HP→Prop}
section
theorem Aa0 {α:Type} {xs:List α} {i:Nat} (hi:i<xs.length):xs.take i++(xs.drop (i+1)++xs.drop (i+(xs.drop (i+1)).length))=xs.eraseIdx i++xs.drop (i+(xs.drop (i+1)).length):=by
 rw[List.eraseIdx_eq_take_drop_succ,List.append_assoc]
variable {A:Option Addr} {r c n i:Nat}
def qM:List (Nat×Nat):= [(0,0),(1,0),(2,0),(3,0),(4,0),(5,0),(6,1),(7,0)]
theorem Add {xs:List iK} (hn:xs.length=n) (hi:i<n) (hs:n≤1000) (hK:∀A' c',K (.slice A' (n - 1) c') (bT A' c' 329 wN (xs.eraseIdx i)::R)):aA Tryz.prog 372 #[.slice A n c,.int .i64 i,.int .i64 ((i:Int)+1)] (bT A c 329 wN xs::R) K:=by
 refine iS aV.here fun hc=>?_
 subst hn
 refine pO aV.here (by omega) fun B off hA=>?_
 subst hA
 have hdl:(xs.drop (i+1)).length=xs.length - (i+1):=List.length_drop ..
 have hel:(xs.eraseIdx i).length=xs.length - 1:=by rw[List.length_eraseIdx,if_pos hi]
 refine aH Tryz.func372 ?_
 repeat' (first|(show aN _ _ _ _ _ _ _;first|refine eA (sz:=3) ?_|(refine nH (sz:=3) ?_;intro A1 hA1))|refine v9 ?_|refine dw qM ?_|refine wr ?_|refine w5 ?_ ?_|((refine bh fun h=>?_) <;> try exact w6 h)|(refine aE fun hA=>?_;subst hA)|intro _)
 refine J5 (sz:=3) (j:=i) (N:=xs.length - 1) (vs:=xs.drop (i+1)) ?_ (hsrc:=Uq d9 hA1 rfl (by omega) (by omega) (by omega) (by omega))
 repeat' (first|(show aN _ _ _ _ _ _ _;refine eA (sz:=3) ?_)|refine v9 ?_|refine dw qM ?_|refine wr ?_|refine w5 ?_ ?_|((refine bh fun h=>?_) <;> try exact w6 h)|(refine aE fun hA=>?_;subst hA)|intro _)
 refine Oy (sz:=3) (xs:=xs.eraseIdx i) ?_ (Aa0 hi) (hA:=vH (by rw[hel];omega)) (hk0:=by rw[List.length_drop,hdl];omega)
 repeat' (first|refine v9 ?_|refine dw qM ?_|refine wr ?_|refine w5 ?_ ?_|((refine bh fun h=>?_) <;> try exact w6 h)|(refine aE fun hA=>?_;subst hA)|intro _)
 all_goals(refine aC ?_;exact aB (hK _ _))
def q6:List (Nat×Nat):= [(0,0),(1,0),(2,0),(3,0),(4,0),(5,0),(6,1),(7,0)]
theorem Afx {xs:List jR} (hn:xs.length=n) (hi:i<n) (hs:n≤1000) (hK:∀A' c',K (.slice A' (n - 1) c') (bT A' c' 255 fI (xs.eraseIdx i)::R)):aA Tryz.prog 370 #[.slice A n c,.int .i64 i,.int .i64 ((i:Int)+1)] (bT A c 255 fI xs::R) K:=by
 refine iS aV.here fun hc=>?_
 subst hn
 refine pO aV.here (by omega) fun B off hA=>?_
 subst hA
 have hdl:(xs.drop (i+1)).length=xs.length - (i+1):=List.length_drop ..
 have hel:(xs.eraseIdx i).length=xs.length - 1:=by rw[List.length_eraseIdx,if_pos hi]
 refine aH Tryz.func370 ?_
 repeat' (first|(show aN _ _ _ _ _ _ _;first|refine eA (sz:=2) ?_|(refine nH (sz:=2) ?_;intro A1 hA1))|refine v9 ?_|refine dw q6 ?_|refine wr ?_|refine w5 ?_ ?_|((refine bh fun h=>?_) <;> try exact w6 h)|(refine aE fun hA=>?_;subst hA)|intro _)
 refine J5 (sz:=2) (j:=i) (N:=xs.length - 1) (vs:=xs.drop (i+1)) ?_ (hsrc:=Uq d9 hA1 rfl (by omega) (by omega) (by omega) (by omega))
 repeat' (first|(show aN _ _ _ _ _ _ _;refine eA (sz:=2) ?_)|refine v9 ?_|refine dw q6 ?_|refine wr ?_|refine w5 ?_ ?_|((refine bh fun h=>?_) <;> try exact w6 h)|(refine aE fun hA=>?_;subst hA)|intro _)
 refine Oy (sz:=2) (xs:=xs.eraseIdx i) ?_ (Aa0 hi) (hA:=vH (by rw[hel];omega)) (hk0:=by rw[List.length_drop,hdl];omega)
 repeat' (first|refine v9 ?_|refine dw q6 ?_|refine wr ?_|refine w5 ?_ ?_|((refine bh fun h=>?_) <;> try exact w6 h)|(refine aE fun hA=>?_;subst hA)|intro _)
 all_goals(refine aC ?_;exact aB (hK _ _))
end
end
section
variable {R C:List HP} {K:Value→List HP→Prop}
def Jt (s:eT) (lv:List Int):List Int:=LM (lv.flatMap fun k=>cA k s.1)
def yX (s:eT):Nat→List Int→List Int
 |0,_=> []
 |n+1,lv=>if lv= [] then [] else lv++yX s n (Jt s lv)
def eE (s:eT):List Int:=yX s (s.1.length+1) (cA 0 s.1)
theorem tN {s:eT} (h:Ni s):∀ {lv:List Int},lv.Nodup→(lv.flatMap fun k=>cA k s.1).Nodup
 | [],_=>List.nodup_nil
 |k::r,hn=>by
  obtain⟨h1,h2⟩:=List.nodup_cons.1 hn
  rw[List.flatMap_cons]
  refine List.nodup_append.2 ⟨AH h,tN h h2,?_⟩
  intro a ha b hb e
  subst e
  obtain⟨z,hz,hzb⟩:=List.mem_flatMap.1 hb
  have e1:=(lC h ha).2
  have e2:=(lC h hzb).2
  exact h1 (by rw[← e1,e2];exact hz)
theorem Agq {s:eT} {l:List Int} (h:∀k∈l,d4 k s.1=true):∀k∈l,k∈s.1.map KE.k:=fun k hk=>wI (h k hk)
theorem Ho {s:eT} {l:List Int} (hn:l.Nodup) (h:∀k∈l,d4 k s.1=true):l.length≤s.1.length:=by
 have:=List.Nodup.length_le_of_subset hn (Agq h)
 rwa[List.length_map] at this
theorem zV {s:eT} {lv:List Int} (h:Ni s):∀y∈lv.flatMap fun k=>cA k s.1,d4 y s.1=true∧(dF y s).on∈lv:=fun y hy=>by
 obtain⟨k,hk,hy⟩:=List.mem_flatMap.1 hy
 obtain⟨h1,h2⟩:=lC h hy
 exact⟨h1,by rw[h2];exact hk⟩
def ZU (s:eT) (r:Int→Nat) (n:Nat) (lv:List Int):Prop:=∀x∈lv,d4 x s.1=true∧∃c:List Int,c.Nodup∧c.length=n∧∀z∈c,d4 z s.1=true∧r z<r x
theorem Alp {s:eT} {r:Int→Nat} {n:Nat} {lv:List Int} (hr:Sg r s) (hk:Ni s) (h:ZU s r n lv):ZU s r (n+1) (Jt s lv):=fun y hy=>by
 unfold Jt at hy
 rw[zE] at hy
 obtain⟨h1,h2⟩:=zV hk y hy
 obtain⟨h3,c,h4,h5,h6⟩:=h _ h2
 have h7:=hr y h1 h3
 refine⟨h1,(dF y s).on::c,List.nodup_cons.2 ⟨fun q=>by have:=(h6 _ q).2;omega,h4⟩,by rw[List.length_cons,h5],fun z hz=>?_⟩
 rcases List.mem_cons.1 hz with rfl|hz
 ·exact⟨h3,h7⟩
 ·exact⟨(h6 z hz).1,Nat.lt_trans (h6 z hz).2 h7⟩
theorem Ak4 {s:eT} {r:Int→Nat} {n:Nat} {lv:List Int} (h:ZU s r n lv) (hn:lv≠ []):n<s.1.length:=by
 obtain⟨x,hx⟩:=List.exists_mem_of_ne_nil lv hn
 obtain⟨h1,c,h2,h3,h4⟩:=h x hx
 have:=Ho (s:=s) (l:=x::c) (List.nodup_cons.2 ⟨fun q=>by have:=(h4 _ q).2;omega,h2⟩) (fun z hz=>by
  rcases List.mem_cons.1 hz with rfl|hz
  ·exact h1
  ·exact(h4 z hz).1)
 rw[List.length_cons,h3] at this
 exact this
theorem Ahq {s:eT} {lv:List Int} (hk:Ni s) (h:lv.Nodup):(Jt s lv).Nodup:=U2 (tN hk h)
section
variable {p q:Nat} {most:Int} {s:eT} {r:Int→Nat}
theorem Q0 (hok:QA s.1 s.2) (hl:s.1.length≤1000) (hn:Ni s) (hr:Sg r s) (hK:∀B d,K (.slice B (eE s).length d) (bT B d 3 kH (eE s)::pt p [.int .i64 most,.map (some q)] 229::mp q (kM qK s.1) s.2::R)):aA Tryz.prog 288 #[.pointer (some ⟨p,0,none⟩)] (pt p [.int .i64 most,.map (some q)] 229::mp q (kM qK s.1) s.2::R) K:=by
 have hc0:ZU s r 0 (cA 0 s.1):=fun x hx=>⟨(lC hn hx).1,[],List.nodup_nil,rfl,fun z hz=>by cases hz⟩
 refine aH Tryz.func288 ?_
 repeat' (first|refine v45 ?_|refine wr ?_|refine w5 ?_ ?_|((refine bh fun h=>?_) <;> try exact w6 h)|(refine aE fun hA=>?_;subst hA)|intro _|(show aA _ 355 _ _ _;refine CA (h:=AI hok (by omega) (fun A c=>?_))))
 refine nR (aG.nilrow 3 kH _) ?_
 refine iF (fun kk a C'=>∃(n:Nat) (acc lv:List Int) (A:Option Addr) (c:Nat) (B:Option Addr) (d:Nat),n+kk=s.1.length∧acc++yX s (kk+1) lv=eE s∧acc.length≤1000 * n∧lv.Nodup∧ZU s r n lv∧cN a [(0,.pointer (some ⟨p,0,none⟩)),(3,.slice B acc.length d),(4,.slice A lv.length c)]∧C'=bT B d 3 kH acc::bT A c 3 kH lv::pt p [.int .i64 most,.map (some q)] 229::mp q (kM qK s.1) s.2::R) s.1.length (b9 s.1.length ⟨0,[],_,A,c,none,0,by omega,rfl,by simp,AH hn,hc0,⟨rfl,rfl,rfl,trivial⟩,rfl⟩ (by omega)) ?_
 rintro kk a C' ⟨n,acc,lv,A,c,B,d,hk,hac,hal,hnd,hch,ha,rfl⟩
 refine gF _ ha ?_
 simp only[eQ]
 by_cases h0:lv= []
 ·subst h0
  have e:yX s (kk+1) []= []:=by unfold yX;rw[if_pos rfl]
  rw[e,List.append_nil] at hac
  subst hac
  repeat' (first|refine v45 ?_|refine wr ?_|refine w5 ?_ ?_|((refine bh fun h=>?_) <;> try exact w6 h)|(refine aE fun hA=>?_;subst hA)|intro _)
  all_goals(refine aC ?_;exact aB (hK _ _))
 ·have hlt:=Ak4 hch h0
  have e:yX s (kk+1) lv=lv++yX s kk (Jt s lv):=by
   conv=>lhs;unfold yX
   rw[if_neg h0]
  rw[e,← List.append_assoc] at hac
  have hll:lv.length≤s.1.length:=Ho hnd fun k hk=>(hch k hk).1
  have hl0:0<lv.length:=List.length_pos_iff.2 h0
  have hn1:1000 * n≤1000 * 1000:=Nat.mul_le_mul_left _ (by omega)
  repeat' (first|(show aN _ _ _ _ _ _ _;(refine cY (E:=kH) (xs:=acc) (ys:=lv) ?_;intro B2 d2))|refine v45 ?_|refine wr ?_|refine w5 ?_ ?_|((refine bh fun h=>?_) <;> try exact w6 h)|(refine aE fun hA=>?_;subst hA)|intro _)
  refine nR (aG.nilrow 3 kH _) ?_
  refine iF (fun k2 a C'=>∃(j:Nat) (N:Option Addr) (e:Nat),j+k2=lv.length∧cN a [(0,.pointer (some ⟨p,0,none⟩)),(3,.slice B2 (acc++lv).length d2),(5,.slice N ((lv.take j).flatMap fun k=>cA k s.1).length e),(16,.slice A lv.length c),(17,.int .i64 lv.length),(18,.int .i64 j)]∧C'=bT N e 3 kH ((lv.take j).flatMap fun k=>cA k s.1)::bT B2 d2 3 kH (acc++lv)::bT A c 3 kH lv::pt p [.int .i64 most,.map (some q)] 229::mp q (kM qK s.1) s.2::R) lv.length (b9 lv.length ⟨0,none,0,by omega,⟨rfl,rfl,rfl,rfl,rfl,rfl,trivial⟩,rfl⟩ (by omega)) ?_
  rintro k2 a2 C' ⟨j,N,e2,hj,ha,rfl⟩
  refine gF _ ha ?_
  simp only[eQ]
  by_cases hlt2:j<lv.length
  ·obtain⟨k,hkj⟩:∃k,lv[j]?=some k:=⟨_,List.getElem?_eq_getElem hlt2⟩
   have hk':lv[((j:Nat):Int).toNat]?=some k:=by rw[Int.toNat_natCast];exact hkj
   have hfl:((lv.take j).flatMap fun k=>cA k s.1).length≤1000:=Nat.le_trans (Ho (tN hn (List.Nodup.sublist (List.take_sublist ..) hnd)) fun y hy=>(zV hn y hy).1) hl
   have hkl:(cA k s.1).length≤1000:=by
    unfold cA
    rw[Ac,List.length_map]
    exact Nat.le_trans (List.length_filter_le _ _) hl
   have hnx:((lv.take j).flatMap fun k=>cA k s.1)++cA k s.1=(lv.take (j+1)).flatMap fun k=>cA k s.1:=by rw[List.take_add_one,hkj];simp
   repeat' (first|(show aN _ _ _ _ _ _ _;(refine cY (E:=kH) (xs:=(lv.take j).flatMap fun k=>cA k s.1) (ys:=cA k s.1) ?_;intro N2 e3))|refine v45 ?_|refine wr ?_|refine w5 ?_ ?_|((refine bh fun h=>?_) <;> try exact w6 h)|(refine aE fun hA=>?_;subst hA)|intro _|(show aA _ 355 _ _ _;refine CA (h:=AI hok (by omega) (fun A3 c3=>?_))))
   all_goals rw[hnx]
   all_goals(show aW _ _ _ _;exact b9 (k2 - 1) ⟨j+1,_,_,by omega,⟨rfl,rfl,rfl,rfl,rfl,rfl,trivial⟩,rfl⟩)
  ·have hjl:lv.take j=lv:=List.take_of_length_le (by omega)
   rw[hjl]
   have hfl:(lv.flatMap fun k=>cA k s.1).length≤1000:=Nat.le_trans (Ho (tN hn hnd) fun y hy=>(zV hn y hy).1) hl
   have hsl:(Jt s lv).length=(lv.flatMap fun k=>cA k s.1).length:=Ac _
   repeat' (first|refine v45 ?_|refine wr ?_|refine w5 ?_ ?_|((refine bh fun h=>?_) <;> try exact w6 h)|(refine aE fun hA=>?_;subst hA)|intro _|(show aA _ 356 _ _ _;refine CA (h:=PW (xs:=lv.flatMap fun k=>cA k s.1) rfl (by omega) ?_)))
   all_goals rw[← hsl]
   all_goals(show aW _ _ _ _;exact b9 (kk - 1) ⟨n+1,acc++lv,Jt s lv,N,e2,B2,d2,by omega,by rw[show kk - 1+1=kk by omega];exact hac,by rw[List.length_append];omega,Ahq hn hnd,Alp hr hn hch,⟨rfl,rfl,rfl,trivial⟩,rfl⟩)
end
end
end Go.Proofs.YtifgibijcmppmaaGreat
namespace Go.Proofs.YtifgibijcmppmaaGreat
open Go Go.Proofs Go.Sl
set_option maxHeartbeats 40000000
attribute [local irreducible] pF BU
theorem Uh:∀(k:Nat) (a:List UInt8),a.length≤k→Dh (lH (pF a).2.1)=some (pF a).2.2∧(pF a).2.1.length≤a.length:=fun k=>by
 induction k with
 |zero=>
  intro a h
  obtain rfl:a= []:=List.length_eq_zero_iff.1 (by omega)
  have hs:Dh (lH [])=some 0:=by unfold Dh;rw[if_pos (by rw[pI];decide)]
  rw[yL hs]
  exact⟨hs,Nat.le_refl _⟩
 |succ k ih=>
  intro a h
  cases hs:Dh (lH a) with
  |some e=>rw[yL hs];exact⟨hs,Nat.le_refl _⟩
  |none=>
   have hd:=wP hs
   obtain⟨i1,i2⟩:=ih (a.drop (9+sL (lH a)).toNat) (by omega)
   rw[Gq hs]
   exact⟨i1,by show(pF (a.drop (9+sL (lH a)).toNat)).2.1.length≤a.length;omega⟩
end Go.Proofs.YtifgibijcmppmaaGreat
namespace Go.Proofs.YtifgibijcmppmaaGreat
open Go Go.Proofs Go.Sl
def bq (l:List UInt8):ByteArray:=⟨l.toArray⟩
structure AC where
 kd:Int
 sd:Int
 id:Int
 n:Int
 cd:Int
 s:ByteArray
 on:Int
 ww:Int
 xx:Bool
 xw:Int
 xs:Int
 xi:Int
def isL (c:UInt8):Prop:=c=115∨c=105∨c=110∨c=99∨c=116∨c=111∨c=119∨c=120∨c=112∨c=113∨c=114
instance (c:UInt8):Decidable (isL c):=by unfold isL;infer_instance
end Go.Proofs.YtifgibijcmppmaaGreat
