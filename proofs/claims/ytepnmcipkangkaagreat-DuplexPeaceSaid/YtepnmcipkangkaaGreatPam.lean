/- A part of the proof: lemmas; each with the conditions that it states. -/
import Derived.Test.YtepnmcipkangkaaGreatPav
import Derived.Test.YtepnmcipkangkaaGreatPak
set_option linter.unusedVariables false
set_option linter.unusedSimpArgs false
set_option maxRecDepth 100000
set_option maxHeartbeats 40000000
namespace Go.Proofs.YtepnmcipkangkaaGreat
open Go Go.Proofs Go.Sl
attribute [local irreducible] aN fJ cY bN aM aS aA dM dN aV dL pt ro fB star sep bF
variable {R C:List HP} {K:KP} {t x cap c:Nat} {st ac se dr w kd:Int} {bs:List UInt8} {en ou:Bool} {l:List ByteArray} {A:Option Addr}
structure TA where
 k:Int
 n:Int
 s:ByteArray
section
variable {k n:Int} {s:ByteArray}
end
section
variable {n:Nat} {ls:List TA}
end
end Go.Proofs.YtepnmcipkangkaaGreat
namespace Go.Proofs.YtepnmcipkangkaaGreat
open Go Go.Proofs Go.Sl
attribute [local irreducible] aN fJ cY bN aM aS aA dM dN aV dL pt ro fB star sep bF
attribute [local irreducible] mp CV
variable {R C:List HP} {K:KP} {s:eW} {l lv:List Int} {r:Int->Nat} {n p q:Nat} {most:Int}
def KG (s:eW) (lv:List Int):List Int:=Oq (lv.flatMap fun k=>cC k s.1)
def Av (s:eW):Nat->List Int->List Int
 |0,_=> []
 |n+1,lv=>if lv= [] then [] else lv++Av s n (KG s lv)
def eJ (s:eW):List Int:=Av s (s.1.length+1) (cC 0 s.1)
theorem uP {s:eW} (h:O2 s):∀ {lv:List Int},lv.Nodup->(lv.flatMap fun k=>cC k s.1).Nodup
 | [],_=>List.nodup_nil
 |k::r,hn=>by
  obtain⟨h1,h2⟩:=List.nodup_cons.1 hn
  rw[List.flatMap_cons]
  refine List.nodup_append.2 ⟨B9 h,uP h h2,?_⟩
  intro a ha b hb e
  subst e
  obtain⟨z,hz,hzb⟩:=List.mem_flatMap.1 hb
  have e1:=(lV h ha).2
  have e2:=(lV h hzb).2
  exact h1 (by rw[<- e1,e2];exact hz)
theorem Aj8 (h:∀k∈l,eA k s.1=true):∀k∈l,k∈s.1.map KE.k:=fun k hk=>xX (h k hk)
theorem Jf (hn:l.Nodup) (h:∀k∈l,eA k s.1=true):l.length<=s.1.length:=by
 have:=List.Nodup.length_le_of_subset hn (Aj8 h)
 rwa[List.length_map] at this
theorem AV (h:O2 s):∀y∈lv.flatMap fun k=>cC k s.1,eA y s.1=true/\(dH y s).on∈lv:=fun y hy=>by
 obtain⟨k,hk,hy⟩:=List.mem_flatMap.1 hy
 obtain⟨h1,h2⟩:=lV h hy
 exact⟨h1,by rw[h2];exact hk⟩
def Afr (s:eW) (r:Int->Nat) (n:Nat) (lv:List Int):Prop:=∀x∈lv,eA x s.1=true/\∃c:List Int,c.Nodup/\c.length=n/\∀z∈c,eA z s.1=true/\r z<r x
theorem Aoz (hr:SY r s) (hk:O2 s) (h:Afr s r n lv):Afr s r (n+1) (KG s lv):=fun y hy=>by
 unfold KG at hy
 rw[BJ] at hy
 obtain⟨h1,h2⟩:=AV hk y hy
 obtain⟨h3,c,h4,h5,h6⟩:=h _ h2
 have h7:=hr y h1 h3
 refine⟨h1,(dH y s).on::c,List.nodup_cons.2 ⟨fun q=>by have:=(h6 _ q).2;omega,h4⟩,by rw[List.length_cons,h5],fun z hz=>?_⟩
 rcases List.mem_cons.1 hz with rfl|hz
 ·exact⟨h3,h7⟩
 ·exact⟨(h6 z hz).1,Nat.lt_trans (h6 z hz).2 h7⟩
theorem Ap7 (h:Afr s r n lv) (hn:lv≠ []):n<s.1.length:=by
 obtain⟨x,hx⟩:=List.exists_mem_of_ne_nil lv hn
 obtain⟨h1,c,h2,h3,h4⟩:=h x hx
 have:=Jf (s:=s) (l:=x::c) (List.nodup_cons.2 ⟨fun q=>by have:=(h4 _ q).2;omega,h2⟩) (fun z hz=>by
  rcases List.mem_cons.1 hz with rfl|hz
  ·exact h1
  ·exact(h4 z hz).1)
 rw[List.length_cons,h3] at this
 exact this
theorem Amj (hk:O2 s) (h:lv.Nodup):(KG s lv).Nodup:=Xg (uP hk h)
theorem Vd (hok:SJ s.1 s.2) (hl:s.1.length<=1000) (hn:O2 s) (hr:SY r s) (hK:∀B d,K (.slice B (eJ s).length d) (bV B d 3 pM (eJ s)::pt p [I6 most,.map (some q)] 287::mp q (kM sG s.1) s.2::R)):CT 280 #[PO p] (pt p [I6 most,.map (some q)] 287::mp q (kM sG s.1) s.2::R) K:=by
 have hc0:Afr s r 0 (cC 0 s.1):=fun x hx=>⟨(lV hn hx).1,[],List.nodup_nil,rfl,fun z hz=>by cases hz⟩
 refine aH Tryz.func280 ?_
 repeat' (first|refine v45 ?_|refine w5 ?_ ?_|((refine bh fun h=>?_) <;> try exact w6 h)|(refine aE fun hA=>?_;subst hA)|intro _|(show aA _ 373 _ _ _;refine CA (h:=Cw hok (by omega) (fun A c=>?_))))
 refine oR (aG.nilrow 3 pM _) ?_
 refine jG (fun kk a C'=>∃(n:Nat) (acc lv:List Int) (A:Option Addr) (c:Nat) (B:Option Addr) (d:Nat),n+kk=s.1.length/\acc++Av s (kk+1) lv=eJ s/\acc.length<=1000 * n/\lv.Nodup/\Afr s r n lv/\dP a [(0,PO p),(3,.slice B acc.length d),(4,.slice A lv.length c)]/\C'=bV B d 3 pM acc::bV A c 3 pM lv::pt p [I6 most,.map (some q)] 287::mp q (kM sG s.1) s.2::R) s.1.length (cN s.1.length ⟨0,[],_,A,c,none,0,by omega,rfl,by simp,B9 hn,hc0,⟨rfl,rfl,rfl,trivial⟩,rfl⟩ (by omega)) ?_
 rintro kk a C' ⟨n,acc,lv,A,c,B,d,hk,hac,hal,hnd,hch,ha,rfl⟩
 refine iT _ ha ?_
 simp only[gH]
 by_cases h0:lv= []
 ·subst h0
  have e:Av s (kk+1) []= []:=by unfold Av;rw[if_pos rfl]
  rw[e,List.append_nil] at hac
  subst hac
  repeat' (first|refine v45 ?_|refine w5 ?_ ?_|((refine bh fun h=>?_) <;> try exact w6 h)|(refine aE fun hA=>?_;subst hA)|intro _)
  all_goals(refine aC ?_;exact aB (hK _ _))
 ·have hlt:=Ap7 hch h0
  have e:Av s (kk+1) lv=lv++Av s kk (KG s lv):=by
   conv=>lhs;unfold Av
   rw[if_neg h0]
  rw[e,<- List.append_assoc] at hac
  have hll:lv.length<=s.1.length:=Jf hnd fun k hk=>(hch k hk).1
  have hl0:0<lv.length:=List.length_pos_iff.2 h0
  have hn1:1000 * n<=1000 * 1000:=Nat.mul_le_mul_left _ (by omega)
  repeat' (first|(show aN _ _ _ _ _ _ _;(refine dD (E:=pM) (xs:=acc) (ys:=lv) ?_;intro B2 d2))|refine v45 ?_|refine w5 ?_ ?_|((refine bh fun h=>?_) <;> try exact w6 h)|(refine aE fun hA=>?_;subst hA)|intro _)
  refine oR (aG.nilrow 3 pM _) ?_
  refine jG (fun k2 a C'=>∃(j:Nat) (N:Option Addr) (e:Nat),j+k2=lv.length/\dP a [(0,PO p),(3,.slice B2 (acc++lv).length d2),(5,.slice N ((lv.take j).flatMap fun k=>cC k s.1).length e),(16,.slice A lv.length c),(17,I6 lv.length),(18,I6 j)]/\C'=bV N e 3 pM ((lv.take j).flatMap fun k=>cC k s.1)::bV B2 d2 3 pM (acc++lv)::bV A c 3 pM lv::pt p [I6 most,.map (some q)] 287::mp q (kM sG s.1) s.2::R) lv.length (cN lv.length ⟨0,none,0,by omega,⟨rfl,rfl,rfl,rfl,rfl,rfl,trivial⟩,rfl⟩ (by omega)) ?_
  rintro k2 a2 C' ⟨j,N,e2,hj,ha,rfl⟩
  refine iT _ ha ?_
  simp only[gH]
  by_cases hlt2:j<lv.length
  ·obtain⟨k,hkj⟩:∃k,lv[j]?=some k:=⟨_,List.getElem?_eq_getElem hlt2⟩
   have hk':lv[((j:Nat):Int).toNat]?=some k:=by rw[Int.toNat_natCast];exact hkj
   have hfl:((lv.take j).flatMap fun k=>cC k s.1).length<=1000:=Nat.le_trans (Jf (uP hn (List.Nodup.sublist (List.take_sublist ..) hnd)) fun y hy=>(AV hn y hy).1) hl
   have hkl:(cC k s.1).length<=1000:=by
    unfold cC
    rw[Bc,List.length_map]
    exact Nat.le_trans (List.length_filter_le _ _) hl
   have hnx:((lv.take j).flatMap fun k=>cC k s.1)++cC k s.1=(lv.take (j+1)).flatMap fun k=>cC k s.1:=by rw[List.take_add_one,hkj];simp
   repeat' (first|(show aN _ _ _ _ _ _ _;(refine dD (E:=pM) (xs:=(lv.take j).flatMap fun k=>cC k s.1) (ys:=cC k s.1) ?_;intro N2 e3))|refine v45 ?_|refine w5 ?_ ?_|((refine bh fun h=>?_) <;> try exact w6 h)|(refine aE fun hA=>?_;subst hA)|intro _|(show aA _ 373 _ _ _;refine CA (h:=Cw hok (by omega) (fun A3 c3=>?_))))
   all_goals rw[hnx]
   all_goals(show aV _ _ _ _;exact cN (k2 - 1) ⟨j+1,_,_,by omega,⟨rfl,rfl,rfl,rfl,rfl,rfl,trivial⟩,rfl⟩)
  ·have hjl:lv.take j=lv:=List.take_of_length_le (by omega)
   rw[hjl]
   have hfl:(lv.flatMap fun k=>cC k s.1).length<=1000:=Nat.le_trans (Jf (uP hn hnd) fun y hy=>(AV hn y hy).1) hl
   have hsl:(KG s lv).length=(lv.flatMap fun k=>cC k s.1).length:=Bc _
   repeat' (first|refine v45 ?_|refine w5 ?_ ?_|((refine bh fun h=>?_) <;> try exact w6 h)|(refine aE fun hA=>?_;subst hA)|intro _|(show aA _ 124 _ _ _;refine CA (h:=Q4 (xs:=lv.flatMap fun k=>cC k s.1) rfl (by omega) ?_)))
   all_goals rw[<- hsl]
   all_goals(show aV _ _ _ _;exact cN (kk - 1) ⟨n+1,acc++lv,KG s lv,N,e2,B2,d2,by omega,by rw[show kk - 1+1=kk by omega];exact hac,by rw[List.length_append];omega,Amj hn hnd,Aoz hr hn hch,⟨rfl,rfl,rfl,trivial⟩,rfl⟩)
end Go.Proofs.YtepnmcipkangkaaGreat
namespace Go.Proofs.YtepnmcipkangkaaGreat
open Go Go.Proofs Go.Sl
attribute [local irreducible] aN fJ cY bN aM aS aA dM dN aV dL pt ro fB star sep bF
attribute [local irreducible] ByteArray.extract rK eU
variable {R C:List HP} {K:KP}
theorem Alu {p:ByteArray} {e:Int} (h:uV p=some e):(p.size<9/\e=0)\/(9<=p.size/\KB (p.extract 0 9)≠0/\e=1)\/(9<=p.size/\KB (p.extract 0 9)=0/\mW (sL p) (sT p) (sF p) (sS p)≠0/\e=mW (sL p) (sT p) (sF p) (sS p))\/(9<=p.size/\KB (p.extract 0 9)=0/\mW (sL p) (sT p) (sF p) (sS p)=0/\(p.size:Int)<9+sL p/\e=0)\/(9<=p.size/\KB (p.extract 0 9)=0/\mW (sL p) (sT p) (sF p) (sS p)=0/\9+sL p<=p.size/\gE (sL p) (sT p) (sF p) (sS p) (sQ p)≠0/\e=gE (sL p) (sT p) (sF p) (sS p) (sQ p)):=by
 unfold uV at h
 split at h
 ·cases h;exact .inl ⟨by assumption,rfl⟩
 ·split at h
  ·split at h
   ·split at h
    ·cases h;exact .inr (.inr (.inr (.inl ⟨by omega,by assumption,by assumption,by assumption,rfl⟩)))
    ·split at h
     ·cases h
     ·cases h;exact .inr (.inr (.inr (.inr ⟨by omega,by assumption,by assumption,by omega,by assumption,rfl⟩)))
   ·cases h;exact .inr (.inr (.inl ⟨by omega,by assumption,by assumption,rfl⟩))
  ·cases h;exact .inr (.inl ⟨by omega,by assumption,rfl⟩)
end Go.Proofs.YtepnmcipkangkaaGreat
namespace Go.Proofs.YtepnmcipkangkaaGreat
open Go Go.Proofs Go.Sl
attribute [local irreducible] pF C7
variable {a b:List UInt8} {p:ByteArray}
theorem Vz (a b:List UInt8) (i j:Nat) (h:j<=a.length):(hZ (a++b)).extract i j=(hZ a).extract i j:=by
 rw[<- Cm,<- Cm]
 congr 1
 by_cases hi:i<=a.length
 ·rw[List.drop_append_of_le_length hi,List.take_append_of_le_length (by rw[List.length_drop];omega)]
 ·rw[show j - i=0 by omega];simp
theorem Bp (h:9<=a.length):sL (hZ (a++b))=sL (hZ a)/\sT (hZ (a++b))=sT (hZ a)/\sF (hZ (a++b))=sF (hZ a)/\sS (hZ (a++b))=sS (hZ a)/\KB ((hZ (a++b)).extract 0 9)=KB ((hZ a).extract 0 9):=by
 have e:=Vz a b 0 9 h
 unfold sL sT sF sS
 rw[e]
 exact⟨rfl,rfl,rfl,rfl,rfl⟩
theorem Qh (h:9<=a.length) (h2:9+(sL (hZ a)).toNat<=a.length):sQ (hZ (a++b))=sQ (hZ a):=by
 unfold sQ
 rw[(Bp h).1]
 exact Vz a b _ _ h2
theorem Aam (h1:9<=p.size) (h2:KB (p.extract 0 9)≠0):uV p=some 1:=by
 unfold uV;rw[if_neg (by omega),if_neg h2]
theorem Aff (h1:9<=p.size) (h2:KB (p.extract 0 9)=0) (h3:mW (sL p) (sT p) (sF p) (sS p)≠0):uV p=some (mW (sL p) (sT p) (sF p) (sS p)):=by
 unfold uV;rw[if_neg (by omega),if_pos h2,if_neg h3]
theorem Acy (h1:9<=p.size) (h2:KB (p.extract 0 9)=0) (h3:mW (sL p) (sT p) (sF p) (sS p)=0) (h4:9+sL p<=p.size) (h5:gE (sL p) (sT p) (sF p) (sS p) (sQ p)≠0):uV p=some (gE (sL p) (sT p) (sF p) (sS p) (sQ p)):=by
 unfold uV;rw[if_neg (by omega),if_pos h2,if_pos h3,if_neg (by omega),if_neg h5]
theorem Al9 (h1:9<=p.size) (h2:KB (p.extract 0 9)=0) (h3:mW (sL p) (sT p) (sF p) (sS p)=0) (h4:9+sL p<=p.size) (h5:gE (sL p) (sT p) (sF p) (sS p) (sQ p)=0):uV p=none:=by
 unfold uV;rw[if_neg (by omega),if_pos h2,if_pos h3,if_neg (by omega),if_pos h5]
theorem Akj {e:Int} (h:uV (hZ a)=some e) (he:e≠0):uV (hZ (a++b))=some e:=by
 have hs:=i8 a
 have hs2:(hZ (a++b)).size=a.length+b.length:=by rw[i8,List.length_append]
 rcases Alu h with⟨q1,rfl⟩|⟨q1,q2,rfl⟩|⟨q1,q2,q3,rfl⟩|⟨q1,q2,q3,q4,rfl⟩|⟨q1,q2,q3,q4,q5,rfl⟩
 ·exact absurd rfl he
 ·obtain⟨e1,e2,e3,e4,e5⟩:=Bp (b:=b) (by omega:9<=a.length)
  exact Aam (by omega) (by rw[e5];exact q2)
 ·obtain⟨e1,e2,e3,e4,e5⟩:=Bp (b:=b) (by omega:9<=a.length)
  rw[<- e1,<- e2,<- e3,<- e4] at q3 ⊢
  exact Aff (by omega) (by rw[e5];exact q2) q3
 ·exact absurd rfl he
 ·obtain⟨e1,e2,e3,e4,e5⟩:=Bp (b:=b) (by omega:9<=a.length)
  have hl:=I1 q3
  have e6:=Qh (b:=b) (by omega:9<=a.length) (by omega)
  rw[<- e1,<- e2,<- e3,<- e4,<- e6] at q5 ⊢
  rw[<- e1,<- e2,<- e3,<- e4] at q3
  rw[<- e1] at q4
  exact Acy (by omega) (by rw[e5];exact q2) q3 (by omega) q5
theorem VM (h:uV (hZ a)=none):uV (hZ (a++b))=none/\sL (hZ (a++b))=sL (hZ a)/\G8 (hZ (a++b))=G8 (hZ a):=by
 have hs:=i8 a
 have hs2:(hZ (a++b)).size=a.length+b.length:=by rw[i8,List.length_append]
 obtain⟨g1,g2,g3,g4,g5,g6,g7⟩:=Fw h
 obtain⟨e1,e2,e3,e4,e5⟩:=Bp (b:=b) (by omega:9<=a.length)
 have e6:=Qh (b:=b) (by omega:9<=a.length) (by omega)
 refine⟨Al9 (by omega) (by rw[e5];exact g2) (by rw[e1,e2,e3,e4];exact g3) (by rw[e1];omega) (by rw[e1,e2,e3,e4,e6];exact g5),e1,?_⟩
 unfold G8 frA
 rw[e2,e3,e4,e6]
theorem Xe:∀(k:Nat) (a:List UInt8),a.length<=k->uV (hZ (pF a).2.1)=some (pF a).2.2/\(pF a).2.1.length<=a.length:=fun k=>by
 induction k with
 |zero=>
  intro a h
  obtain rfl:a= []:=List.length_eq_zero_iff.1 (by omega)
  have hs:uV (hZ [])=some 0:=by unfold uV;rw[if_pos (by rw[i8];decide)]
  rw[uR hs]
  exact⟨hs,Nat.le_refl _⟩
 |succ k ih=>
  intro a h
  cases hs:uV (hZ a) with
  |some e=>rw[uR hs];exact⟨hs,Nat.le_refl _⟩
  |none=>
   have hd:=yC hs
   obtain⟨i1,i2⟩:=ih (a.drop (9+sL (hZ a)).toNat) (by omega)
   rw[EI hs]
   exact⟨i1,by show(pF (a.drop (9+sL (hZ a)).toNat)).2.1.length<=a.length;omega⟩
end Go.Proofs.YtepnmcipkangkaaGreat
