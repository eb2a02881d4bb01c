/- A part of the proof: lemmas; each with the conditions that it states. -/
import Derived.Test.YtffnpejdkkohcaaGreatBat
import Derived.Test.YtffnpejdkkohcaaGreatBba
import Derived.Test.YtffnpejdkkohcaaGreatBam
set_option linter.unusedVariables false
set_option linter.unusedSimpArgs false
set_option maxRecDepth 100000
set_option maxHeartbeats 40000000
namespace Go.Proofs.YtffnpejdkkohcaaGreat
open Go Go.Proofs Go.Sl
attribute [local irreducible] aM eY cU bQ aL aW aA dS dT aZ dR pt ro fN star sep bH
variable {R C:List HP} {K:KP} {t x cap c:Nat} {st ac se dr w kd:Int} {bs:List UInt8} {en ou:Bool} {l:List ByteArray} {A:Option Addr}
structure TA where
 k:Int
 n:Int
 s:ByteArray
section
variable {k n:Int} {s:ByteArray}
end
section
variable {n:Nat} {ls:List TA}
end
def inD:List Value->Option Int
 | [.int .i64 i]=>some i
 |_=>none
theorem Ajx (cs:List Value) (y:Int) (h:inD cs=some y): [I6 y]=cs:=by
 unfold inD at h
 split at h
 ·cases h;rfl
 ·cases h
def inC:tP Int:= { enc:=fun b=> [I6 b],sz:=1,dec:=inD,len:=fun _=>rfl,one:=fun _=>rfl,ok:=Ajx }
theorem Vh {q:Nat} {xs:List Fm} (hl:xs.length<=1000) (hK:∀A c,K (.slice A xs.length c) (bU A c 3 inC (xs.map (·.t))::tG q xs::R)):CT 17 #[PO q] (tG q xs::R) K:=by
 refine sH fun A c=>?_
 refine aJ Tryz.func17 ?_
 repeat' (first|refine v70 ?_|refine w5 ?_ ?_|((refine bh fun h=>?_) <;> try exact w6 h)|(refine aF fun hA=>?_;subst hA)|intro _)
 refine iH (fun m a C'=>∃(i:Nat) (B:Option Addr) (kk:Nat),i+m=xs.length/\C'=bU B kk 3 inC ((xs.take i).map (·.t))::pt q [.slice A xs.length c] 139::bU A c 45 tC xs::kS xP xs::R/\cW a [(0,PO q),(3,.slice B i kk),(12,.slice A xs.length c),(13,I6 xs.length),(14,I6 i)]) xs.length (cG xs.length ⟨0,none,0,by omega,rfl,rfl,rfl,rfl,rfl,rfl,trivial⟩) ?_
 rintro n1 a C' ⟨i,B,kk,hi,rfl,ha⟩
 refine gJ _ ha ?_
 simp only[fF]
 have hlen:((xs.take i).map (·.t)).length=i:=by rw[List.length_map,List.length_take];omega
 by_cases hlt:i<xs.length
 ·obtain⟨z,hz,hd⟩:=i0 (l:=xs) (j:=i) (by omega)
  have ht:(xs.take (i+1)).map (·.t)=(xs.take i).map (·.t)++ [z.t]:=by rw[List.take_add_one,hz];simp
  repeat' (first|refine v70 ?_|refine w5 ?_ ?_|((refine bh fun h=>?_) <;> try exact w6 h)|(refine aF fun hA=>?_;subst hA)|intro _)
  all_goals exact cG (n1 - 1) ⟨i+1,_,_,by omega,by rw[ht],rfl,by rw[List.length_append,hlen];rfl,rfl,rfl,rfl,trivial⟩
 ·obtain rfl:i=xs.length:=by omega
  rw[List.take_of_length_le (Nat.le_refl _)]
  repeat' (first|refine v70 ?_|refine w5 ?_ ?_|((refine bh fun h=>?_) <;> try exact w6 h)|(refine aF fun hA=>?_;subst hA)|intro _)
  refine aC ?_
  exact aQ (aG.trans (by exact bE) (aG.cons pZ)) (hK _ _)
end Go.Proofs.YtffnpejdkkohcaaGreat
namespace Go.Proofs.YtffnpejdkkohcaaGreat
open Go Go.Proofs Go.Sl
attribute [local irreducible] aM eY cU bQ aL aW aA dS dT aZ dR pt ro fN star sep bH
attribute [local irreducible] mp FV
variable {R C:List HP} {K:KP} {q:Nat} {out:List Fm} {f:Fm}
def qZ (f:Fm) (xs:List Fm):Nat:=(xs.takeWhile fun x=>!m6 f x).length
def CN (f:Fm) (xs:List Fm):Int:=if l7 f=false then 2 else if f.t<2 then 13 else if qZ f xs<xs.length then 0 else if 64<=xs.length then 9 else 0
def z8 (f:Fm) (xs:List Fm):List Fm:=if CN f xs≠0 then xs else match xs[qZ f xs]? with
 |some y=>xs.set (qZ f xs) (Vf y f.n)
 |none=>xs++ [iN f]
def Ni (q:Nat) (out:List Fm):HP:=fN fun xs:List Fm=>sep (tG q xs) (bH (xs.map iN=out))
def MD (out:List Fm):Prop:=out.length<=64/\∀y∈out,0<=y.n
theorem Kf {f:Fm}:∀xs:List Fm,qZ f (xs.map iN)=qZ f xs
 | []=>rfl
 |x::r=>by
  have ih:=Kf (f:=f) r
  unfold qZ at ih ⊢
  rw[List.map_cons,List.takeWhile_cons,List.takeWhile_cons]
  show(if(!m6 f x)=true then _ else _:List Fm).length=_
  split
  ·rw[List.length_cons,List.length_cons,ih]
  ·rfl
theorem LI {f:Fm}:∀ {xs:List Fm},qZ f xs<xs.length->∃y,xs[qZ f xs]?=some y/\m6 f y=true
 | [],h=>by cases h
 |x::r,h=>by
  unfold qZ at h ⊢
  rw[List.takeWhile_cons] at h ⊢
  by_cases hx:(!m6 f x)=true
  ·rw[if_pos hx] at h ⊢
   obtain⟨y,hy,hl⟩:=LI (f:=f) (xs:=r) (by simpa[qZ] using h)
   exact⟨y,by simpa[qZ] using hy,hl⟩
  ·rw[if_neg hx]
   exact⟨x,rfl,by simpa using hx⟩
theorem II {f:Fm}:∀ {xs:List Fm} {i:Nat} {z:Fm},i<qZ f xs->xs[i]?=some z->m6 f z=false
 | [],_,_,_,h=>by cases h
 |x::r,i,z,h,hz=>by
  unfold qZ at h
  rw[List.takeWhile_cons] at h
  by_cases hx:(!m6 f x)=true
  ·rw[if_pos hx] at h
   cases i with
   |zero=>cases hz;simpa using hx
   |succ i=>exact II (xs:=r) (i:=i) (by simpa[qZ] using h) (by simpa using hz)
  ·rw[if_neg hx] at h;cases h
theorem o9 {xs:List Fm} (h:xs.map iN=out):aG (tG q xs::R) (Ni q out::R):=aG.ex xs (aG.sep (aG.pick aS.here (aG.pure h (aG.refl _))))
theorem Bm {f:FuncId} {args:Array Value} (h:∀xs:List Fm,xs.map iN=out->CT f args (tG q xs::R) K):CT f args (Ni q out::R) K:=
 aA.ex fun xs=>aA.ent (aG.trans aG.unsep (fun _ hs=>bZ.swap hs)) (aA.pure fun hI=>h xs hI)
theorem Xy (hK:∀q,K (PO q) (Ni q []::R)):CT 27 #[] R K:=
 aA.entK (Adi fun q=>⟨_,o9 (xs:= []) rfl,hK q⟩)
theorem On (hK:K (I6 (out.length:Nat)) (Ni q out::R)):CT 72 #[PO q] (Ni q out::R) K:=by
 refine Bm fun xs h=>?_
 have hl:out.length=xs.length:=by rw[<- h,List.length_map]
 rw[hl] at hK
 exact aA.entK (Agi ⟨_,o9 h,hK⟩)
theorem Kt (ho:MD out) (hK:K (I6 (64 - (out.length:Nat))) (Ni q out::R)):CT 81 #[PO q] (Ni q out::R) K:=by
 refine Bm fun xs h=>?_
 have hl:out.length=xs.length:=by rw[<- h,List.length_map]
 have h1:=ho.1
 rw[hl] at hK
 exact aA.entK (Zs (by omega) ⟨_,o9 h,hK⟩)
theorem Rx (hK:∀v,K v (Ni q []::R)):CT 208 #[PO q] (Ni q out::R) K:=by
 refine Bm fun xs h=>?_
 exact aA.entK (VU ⟨_,o9 (xs:= []) rfl,hK _⟩)
theorem Xp {r:List Fm} (ho:MD (f::r)) (hK:∀y:Fm,iN y=f->K (.tuple #[.agg #[I6 y.t,I6 y.st,.bool y.e,.string y.d,I6 y.k,I6 y.on,I6 y.w,.bool y.x,I6 y.c,I6 y.la,I6 y.n,.slice y.pa y.pn y.pc],.bool true]) (Ni q r::xP y::R)):CT 73 #[PO q] (Ni q (f::r)::R) K:=by
 refine Bm fun xs h=>?_
 cases xs with
 |nil=>cases h
 |cons y xs=>
  have h1:iN y=f:=(List.cons.inj h).1
  have h2:xs.map iN=r:=(List.cons.inj h).2
  have hl:xs.length≤1000:=by have:=ho.1;have e:r.length=xs.length:=by rw[← h2,List.length_map]
                             rw[List.length_cons] at this;omega
  exact aA.entK (VC hl ⟨_,o9 h2,hK y h1⟩)
theorem Aip (ho:MD out) (hK:∀A c,K (.slice A out.length c) (bU A c 3 inC (out.map (·.t))::Ni q out::R)):CT 17 #[PO q] (Ni q out::R) K:=by
 refine Bm fun xs h=>?_
 have hl:out.length=xs.length:=by rw[<- h,List.length_map]
 have ht:out.map (·.t)=xs.map (·.t):=by rw[<- h,List.map_map];rfl
 have h1:=ho.1
 rw[hl,ht] at hK
 exact aA.entK (Vh (by omega) fun A c=>⟨_,aG.cons (o9 h),hK A c⟩)
theorem Bw (ho:MD out) (hv:dE R f.pa oG f.ps) (hvn:f.ps.length=f.pn) (hn2:f.pn<1000000000000000) (hK:K (I6 (CN f out)) (Ni q (z8 f out)::R)):CT 38 #[PO q,.agg #[I6 f.t,I6 f.st,.bool f.e,.string f.d,I6 f.k,I6 f.on,I6 f.w,.bool f.x,I6 f.c,I6 f.la,I6 f.n,.slice f.pa f.pn f.pc]] (Ni q out::R) K:=by
 refine Bm fun xs h=>?_
 have hl:out.length=xs.length:=by rw[<- h,List.length_map]
 have hix:qZ f out=qZ f xs:=by rw[<- h,Kf]
 obtain⟨h64,hnn⟩:=ho
 refine aA.entK ?_
 cases hc:l7 f
 ·have e:CN f out=2:=by unfold CN;rw[if_pos hc]
  have e2:z8 f out=out:=by unfold z8;rw[if_pos (by rw[e];decide)]
  rw[e,e2] at hK
  exact Vx (by simp) hc ⟨bF hv,hvn⟩ hn2 ⟨_,o9 h,hK⟩
 ·have ht0:0<=f.t:=((lT f).1 hc).1.1
  by_cases ht:f.t<2
  ·have e:CN f out=13:=by unfold CN;rw[if_neg (by rw[hc];decide),if_pos ht]
   have e2:z8 f out=out:=by unfold z8;rw[if_pos (by rw[e];decide)]
   rw[e,e2] at hK
   exact Wm (by simp) hc (by omega) ⟨bF hv,hvn⟩ hn2 ⟨_,o9 h,hK⟩
  ·by_cases hlt:qZ f xs<xs.length
   ·have e:CN f out=0:=by unfold CN;rw[if_neg (by rw[hc];decide),if_neg ht,if_pos (by omega)]
    obtain⟨y,hy,hly⟩:=LI hlt
    have hoy:out[qZ f xs]?=some (iN y):=by rw[<- h,List.getElem?_map,hy];rfl
    have e2:z8 f out=out.set (qZ f xs) (Vf (iN y) f.n):=by
     unfold z8
     rw[if_neg (by rw[e];decide),hix,hoy]
    rw[e,e2] at hK
    have hyn:0<=y.n:=hnn (iN y) (List.mem_of_getElem? hoy)
    exact Wa hc (by omega) hy hly (fun i z hi hz=>II hi hz) hyn (by omega) hv hvn hn2 ⟨_,o9 (xs:=xs.set (qZ f xs) (Vf y f.n)) (by rw[List.map_set,h];rfl),hK⟩
   ·have hb:∀z∈xs,m6 f z=false:=fun z hz=>by
     obtain⟨i,hi⟩:=List.getElem?_of_mem hz
     exact II (xs:=xs) (i:=i) (by have:=(List.getElem?_eq_some_iff.1 hi).1;omega) hi
    by_cases hf:64<=xs.length
    ·have e:CN f out=9:=by unfold CN;rw[if_neg (by rw[hc];decide),if_neg ht,if_neg (by omega),if_pos (by omega)]
     have e2:z8 f out=out:=by unfold z8;rw[if_pos (by rw[e];decide)]
     rw[e,e2] at hK
     exact V4 hc (by omega) hb (by omega) hf hv hvn hn2 ⟨_,o9 h,hK⟩
    ·have e:CN f out=0:=by unfold CN;rw[if_neg (by rw[hc];decide),if_neg ht,if_neg (by omega),if_neg (by omega)]
     have e2:z8 f out=out++ [iN f]:=by
      unfold z8
      rw[if_neg (by rw[e];decide),List.getElem?_eq_none (by omega)]
     rw[e,e2] at hK
     exact VJ hc (by omega) hb (by omega) hv hvn fun A' c'=>⟨_,o9 (by rw[List.map_append,h];simp[iN,hvn]),hK⟩
end Go.Proofs.YtffnpejdkkohcaaGreat
namespace Go.Proofs.YtffnpejdkkohcaaGreat
open Go Go.Proofs Go.Sl
attribute [local irreducible] aM eY cU bQ aL aW aA dS dT aZ dR pt ro fN star sep bH
variable {id j on w low xw all:Int} {s:eS} {x:Bool} {r:Int->Nat} {n:Nd}
abbrev eX (s:eS) (j:Int):Prop:=dZ j s.1=true
abbrev qI (s:eS) (j:Int):Int:=(dD j s).on
theorem Ajb (hr:Sf r s) (h:Ql (eX s) (qI s) id low):∀(kk:Nat) (seen:List Int),seen.length+kk=s.1.length->seen.Nodup->(∀z∈seen,z∈s.1.map KE.k/\r low<r z)->sI id s (kk+1) low=true:=by
 induction h with
 |base h1 h2=>
  intro kk seen _ _ _
  unfold sI
  rw[if_pos h1,if_pos h2]
 |step h1 h2 ih=>
  rename_i lw
  intro kk seen hk hnd hse
  unfold sI
  rw[if_pos h1]
  split
  ·rfl
  ·have hns:lw ∉ seen:=fun hm=>by have:=(hse lw hm).2;omega
   have hlen:(lw::seen).length<=(s.1.map KE.k).length:=List.Nodup.length_le_of_subset (List.nodup_cons.2 ⟨hns,hnd⟩) (fun z hz=>by
    rcases List.mem_cons.1 hz with rfl|hz
    ·exact wE h1
    ·exact(hse z hz).1)
   rw[List.length_map,List.length_cons] at hlen
   obtain⟨k1,rfl⟩:∃k1,kk=k1+1:=⟨kk - 1,by omega⟩
   have h3:=hr lw h1 (xT h2)
   refine ih k1 (lw::seen) (by rw[List.length_cons];omega) (List.nodup_cons.2 ⟨hns,hnd⟩) fun z hz=>?_
   rcases List.mem_cons.1 hz with rfl|hz
   ·exact⟨wE h1,h3⟩
   ·exact⟨(hse z hz).1,Nat.lt_trans h3 (hse z hz).2⟩
theorem Sy:∀ {n:Nat} {low:Int},sI id s n low=true->Ql (eX s) (qI s) id low
 |0,_,h=>by cases h
 |n+1,low,h=>by
  unfold sI at h
  split at h
  ·rename_i hh
   split at h
   ·rename_i ho;exact .base hh ho
   ·exact .step hh (Sy h)
  ·cases h
theorem Al6 (hr:Sf r s) (h:sI id s (s.1.length+1) low=false):¬Ql (eX s) (qI s) id low:=fun hu=>by
 rw[Ajb hr hu s.1.length [] (by simp) List.nodup_nil (fun z hz=>by cases hz)] at h
 cases h
theorem dU:eX (fK id n s) j↔j=id\/eX s j:=by
 unfold eX;rw[Ae2];simp
theorem uM:qI (fK id n s) j=if j=id then n.on else qI s j:=by
 unfold qI;rw[Hz];split <;> rfl
theorem O8:(dD j (fK id n s)).w=if j=id then n.w else(dD j s).w:=by
 rw[Hz];split <;> rfl
theorem DX:∀ {ks:List Int} {s:eS},(∀k∈ks,eX s k)->Qe s.1 s.2->Nh s->(∀j,eX (iI id ks s) j↔eX s j)/\(∀j,qI (iI id ks s) j=if j∈ks/\j≠id then id else qI s j)/\(∀j,(dD j (iI id ks s)).w=(dD j s).w)/\Qe (iI id ks s).1 (iI id ks s).2/\Nh (iI id ks s)/\(iI id ks s).1.length=s.1.length
 | [],s,_,h1,h2=>⟨fun j=>Iff.rfl,fun j=>by rw[if_neg (by simp)];rfl,fun j=>rfl,h1,h2,rfl⟩
 |k::ks,s,hk,h1,h2=>by
  unfold iI
  by_cases hki:k=id
  ·rw[if_pos hki]
   obtain⟨a1,a2,a3,a4,a5,a6⟩:=DX (ks:=ks) (s:=s) (fun z hz=>hk z (List.mem_cons_of_mem _ hz)) h1 h2
   refine⟨a1,fun j=>?_,a3,a4,a5,a6⟩
   rw[a2 j]
   by_cases hj:j∈ks/\j≠id
   ·rw[if_pos hj,if_pos ⟨List.mem_cons_of_mem _ hj.1,hj.2⟩]
   ·rw[if_neg hj,if_neg (fun h=>hj ⟨(List.mem_cons.1 h.1).resolve_left (fun e=>h.2 (e.trans hki)),h.2⟩)]
  ·rw[if_neg hki]
   have hkk:=hk k (List.mem_cons_self ..)
   obtain⟨a1,a2,a3,a4,a5,a6⟩:=DX (ks:=ks) (s:=iX k id s) (fun z hz=>dU.2 (.inr (hk z (List.mem_cons_of_mem _ hz)))) (DZ h1) (G3 h2)
   refine⟨fun j=>(a1 j).trans (dU.trans ⟨fun h=>h.elim (fun e=>by rw[e];exact hkk) (fun h=>h),.inr⟩),fun j=>?_,fun j=>?_,a4,a5,a6.trans (La hkk)⟩
   ·rw[a2 j]
    unfold iX
    rw[uM]
    by_cases hj:j∈ks/\j≠id
    ·rw[if_pos hj,if_pos ⟨List.mem_cons_of_mem _ hj.1,hj.2⟩]
    ·rw[if_neg hj]
     by_cases hjk:j=k
     ·rw[if_pos hjk,if_pos ⟨by rw[hjk];exact List.mem_cons_self ..,by rw[hjk];exact hki⟩]
     ·rw[if_neg hjk,if_neg (fun h=>hj ⟨(List.mem_cons.1 h.1).resolve_left hjk,h.2⟩)]
   ·rw[a3 j]
    unfold iX
    rw[O8]
    split
    ·rename_i e;rw[e]
    ·rfl
theorem wN (h:Nh s) {k:Int}:k∈cC id s.1↔eX s k/\qI s k=id:=by
 refine⟨fun hk=>kZ h hk,fun hk=>?_⟩
 obtain⟨h1,h2⟩:=hk
 unfold cC
 rw[Au]
 have hm:=wE h1
 obtain⟨e,he,hek⟩:=List.mem_map.1 hm
 refine List.mem_map.2 ⟨e,List.mem_filter.2 ⟨he,?_⟩,hek⟩
 have hg:=LZ h he
 rw[hek] at hg
 unfold qI dD at h2
 rw[hg] at h2
 exact decide_eq_true h2
theorem AS (h:Mt s) (hi:1<=id/\id<=2147483647) (hon:on=0\/eX s on) (hne:on≠id) (hu:¬Ql (eX s) (qI s) id on) (hw:1<=w/\w<=256) (hl:eX s id\/s.1.length<64):Mt (qB id on w x s):=by
 obtain⟨r,hr⟩:=h.rk
 have hz:∀j,eX s j->j≠0:=fun j hj=>by have:=(h.ky j hj).1;omega
 obtain⟨r1,hr1⟩:∃r':Int->Nat,∀j,eX (fK id ⟨on,w⟩ s) j->eX (fK id ⟨on,w⟩ s) (qI (fK id ⟨on,w⟩ s) j)->r' (qI (fK id ⟨on,w⟩ s) j)<r' j:=by
  refine Y8 (k:=id) (p:=on) hr hne hu (fun j hj=>dU.1 hj) (by rw[uM,if_pos rfl]) (fun j hj=>by rw[uM,if_neg hj]) fun j hj h1 h2=>?_
  have h1:=(dU.1 h1).resolve_left hj
  rcases dU.1 h2 with e|e
  ·rcases h.cl j h1 with e'|e'
   ·exact absurd (e.symm.trans e') (by omega)
   ·exact e'
  ·exact e
 have hcl:∀j,eX (fK id ⟨on,w⟩ s) j->qI (fK id ⟨on,w⟩ s) j=0\/eX (fK id ⟨on,w⟩ s) (qI (fK id ⟨on,w⟩ s) j):=fun j hj=>by
  rw[uM]
  by_cases hji:j=id
  ·rw[if_pos hji]
   exact hon.imp (fun e=>e) fun e=>dU.2 (.inr e)
  ·rw[if_neg hji]
   exact(h.cl j ((dU.1 hj).resolve_left hji)).imp (fun e=>e) fun e=>dU.2 (.inr e)
 have hlen:∀(t:eS),t.1.length=s.1.length->(∀j,eX t j↔eX s j)->(fK id ⟨on,w⟩ t).1.length<=64:=fun t ht hh=>by
  rcases hl with e|e
  ·rw[La ((hh id).2 e),ht];exact h.len
  ·have:=GQ (id:=id) (n:=⟨on,w⟩) (ck:=t.2) t.1
   show(s9 id ⟨on,w⟩ t.2 t.1).length<=64
   omega
 have hky:∀j,j=id\/eX s j->1<=j/\j<=2147483647:=fun j hj=>hj.elim (fun e=>by rw[e];exact hi) (h.ky j)
 cases x with
 |false=>
  show Mt (fK id ⟨on,w⟩ s)
  refine⟨DZ h.kok,G3 h.nd,hlen s rfl fun j=>Iff.rfl,fun j hj=>?_,fun j hj=>hky j (dU.1 hj),hcl,r1,hr1⟩
  rw[O8]
  split
  ·exact hw
  ·rename_i hji;exact h.w j ((dU.1 hj).resolve_left hji)
 |true=>
  show Mt (fK id ⟨on,w⟩ (iI id (cC on s.1) s))
  obtain⟨a1,a2,a3,a4,a5,a6⟩:=DX (id:=id) (ks:=cC on s.1) (s:=s) (fun k hk=>((wN h.nd).1 hk).1) h.kok h.nd
  have b1:∀j,eX (fK id ⟨on,w⟩ (iI id (cC on s.1) s)) j↔eX (fK id ⟨on,w⟩ s) j:=fun j=>dU.trans ((or_congr Iff.rfl (a1 j)).trans dU.symm)
  have b2:∀j,eX (fK id ⟨on,w⟩ s) j->j≠id->qI (fK id ⟨on,w⟩ s) j=on->qI (fK id ⟨on,w⟩ (iI id (cC on s.1) s)) j=id:=fun j hj hji ho=>by
   rw[uM,if_neg hji] at ho ⊢
   rw[a2,if_pos ⟨(wN h.nd).2 ⟨(dU.1 hj).resolve_left hji,ho⟩,hji⟩]
  have b3:∀j,eX (fK id ⟨on,w⟩ s) j->(j=id\/qI (fK id ⟨on,w⟩ s) j≠on)->qI (fK id ⟨on,w⟩ (iI id (cC on s.1) s)) j=qI (fK id ⟨on,w⟩ s) j:=fun j hj ho=>by
   rw[uM,uM] at *
   by_cases hji:j=id
   ·rw[if_pos hji,if_pos hji]
   ·rw[if_neg hji] at ho ⊢
    rw[if_neg hji,a2,if_neg (fun hk=>((ho.resolve_left hji) ((wN h.nd).1 hk.1).2))]
  refine⟨DZ a4,G3 a5,hlen _ a6 a1,fun j hj=>?_,fun j hj=>hky j (dU.1 ((b1 j).1 hj)),fun j hj=>?_,?_⟩
  ·rw[O8]
   split
   ·exact hw
   ·rename_i hji
    rw[a3]
    exact h.w j ((dU.1 ((b1 j).1 hj)).resolve_left hji)
  ·have hj':=(b1 j).1 hj
   show qI _ j=0\/eX _ (qI _ j)
   by_cases hjo:j=id\/qI (fK id ⟨on,w⟩ s) j≠on
   ·rw[b3 j hj' hjo]
    exact(hcl j hj').imp (fun e=>e) fun e=>(b1 _).2 e
   ·rw[b2 j hj' (fun e=>hjo (.inl e)) (Classical.byContradiction fun e=>hjo (.inr e))]
    exact .inr (dU.2 (.inl rfl))
  ·refine VK (id:=id) (q:=on) hr1 (by rw[uM,if_pos rfl]) ?_ hne (fun j hj=>(b1 j).1 hj) b2 b3
   rcases hon with e|e
   ·exact .inr fun j hj=>by
     have:=(hky j (dU.1 hj)).1
     omega
   ·exact .inl (dU.2 (.inr e))
theorem Afh (h:Mt s) (hu:Ql (eX s) (qI s) id low):id=0\/eX s id:=by
 induction hu with
 |base h1 h2=>rw[<- h2];exact h.cl _ h1
 |step _ _ ih=>exact ih
theorem Agb (h:Mt s):Mt (nB id on w x 64 s):=by
 unfold nB
 split
 ·exact h
 ·rename_i he
  have he:mP id on w 64 s=0:=Classical.byContradiction he
  unfold mP at he
  split at he
  ·cases he
  ·rename_i h1
   split at he
   ·cases he
   ·rename_i h2
    split at he
    ·cases he
    ·rename_i h3
     split at he
     ·cases he
     ·rename_i h4
      have hmay:yW on w=true:=by simpa using fun hf=>h1 (.inr (.inr hf))
      unfold yW at hmay
      simp only[Bool.and_eq_true,decide_eq_true_eq] at hmay
      have hid:1<=id/\id<=2147483647:=by omega
      have hnu:∀low,¬Ql (eX s) (qI s) id low:=fun low hu=>(Afh h hu).elim (fun e=>by omega) h3
      split
      ·exact AS h hid (.inl rfl) (by omega) (hnu 0) ⟨hmay.1.2,hmay.2⟩ (.inr (by omega))
      ·rename_i h5
       refine AS h hid ?_ h2 (hnu on) ⟨hmay.1.2,hmay.2⟩ (.inr (by omega))
       unfold Ai at h5
       by_cases h0:on=0
       ·exact .inl h0
       ·right
        cases hh:dZ on s.1
        ·exact absurd (by rw[hh];simp[h0]) h5
        ·exact hh
theorem Aeo (h:Mt s):Mt (k8 id on w x s):=by
 unfold k8
 split
 ·exact h
 ·rename_i he
  have he:qA id on w s=0:=Classical.byContradiction he
  unfold qA at he
  split at he
  ·cases he
  ·rename_i h1
   split at he
   ·cases he
   ·rename_i h2
    split at he
    ·cases he
    ·rename_i h3
     have hh:eX s id:=by cases hq:dZ id s.1 <;> first|exact absurd hq h1|exact hq
     have hmay:yW on w=true:=by cases hq:yW on w <;> first|exact absurd hq h2|rfl
     unfold yW at hmay
     simp only[Bool.and_eq_true,decide_eq_true_eq] at hmay
     have hid:=h.ky id hh
     obtain⟨r,hr⟩:=h.rk
     have n0:¬eX s 0:=fun e=>by have:=(h.ky 0 e).1;omega
     have hn0:¬Ql (eX s) (qI s) id 0:=fun e=>n0 (xT e)
     have hab0:sI id s (s.1.length+1) 0=false:=by
      cases hq:sI id s (s.1.length+1) 0
      ·rfl
      ·exact absurd (Sy hq) hn0
     split
     ·rw[hab0,if_neg Bool.false_ne_true]
      exact AS h hid (.inl rfl) (by omega) hn0 ⟨hmay.1.2,hmay.2⟩ (.inl hh)
     ·rename_i h5
      have hon:on=0\/eX s on:=by
       unfold Ai at h5
       by_cases h0:on=0
       ·exact .inl h0
       ·right
        cases hq:dZ on s.1
        ·exact absurd (by rw[hq];simp[h0]) h5
        ·exact hq
      cases hq:sI id s (s.1.length+1) on
      ·rw[if_neg Bool.false_ne_true]
       exact AS h hid hon h3 (Al6 hr hq) ⟨hmay.1.2,hmay.2⟩ (.inl hh)
      ·rw[if_pos rfl]
       have hu:=Sy hq
       have ho:=xT hu
       have hlt:=MZ hr hh hu
       have hko:=h.ky on ho
       have g:Mt (iX on (qI s id) s):=by
        refine AS (x:=false) h hko (h.cl id hh) (fun e=>?_) (fun e=>?_) (h.w on ho) (.inl ho)
        ·have:=hr id hh (by show eX s (qI s id);rw[e];exact ho)
         have e':(dD id s).on=on:=e
         rw[e'] at this
         omega
        ·have h6:=MZ hr ho e
         have h7:=hr id hh (xT e)
         have e':qI s id=(dD id s).on:=rfl
         rw[e'] at h6
         omega
       have hid':qI (iX on (qI s id) s) id=qI s id:=by
        unfold iX
        rw[uM,if_neg (fun e=>h3 e.symm)]
       have hon':qI (iX on (qI s id) s) on=qI s id:=by
        unfold iX
        rw[uM,if_pos rfl]
       have hh':eX (iX on (qI s id) s) id:=dU.2 (.inr hh)
       refine AS g hid (.inr (dU.2 (.inl rfl))) h3 (fun e=>?_) ⟨hmay.1.2,hmay.2⟩ (.inl hh')
       obtain⟨r',hr'⟩:=g.rk
       cases e with
       |base d1 d2=>
        rw[hon'] at d2
        have:=hr id hh (by show eX s (qI s id);rw[d2];exact hh)
        have e':(dD id s).on=id:=d2
        rw[e'] at this
        omega
       |step d1 d2=>
        rw[hon'] at d2
        have h6:=MZ hr' hh' d2
        have h7:r' (qI (iX on (qI s id) s) id)<r' id:=hr' id hh' (by show eX _ (qI _ id);rw[hid'];exact xT d2)
        rw[hid'] at h7
        omega
theorem Akz (hw:1<=w/\w<=all) (hx:1<=xw/\xw<=256):1<=Er w xw all/\Er w xw all<=256:=by
 have h:w * xw / all<=xw:=Int.ediv_le_of_le_mul (by omega) (by rw[Int.mul_comm w xw];exact Int.mul_le_mul_of_nonneg_left hw.2 (by omega))
 unfold Er
 omega
theorem Mw (h:TrW s):∀ {ks:List Int},(∀k∈ks,eX s k)->∀k∈ks,(dD k s).w<=p7 s ks
 | [],_,k,hk=>by cases hk
 |z::ks,hh,k,hk=>by
  have h1:=hh z (List.mem_cons_self ..)
  have h2:=H6 h (l:=ks) fun y hy=>hh y (List.mem_cons_of_mem _ hy)
  unfold p7
  rcases List.mem_cons.1 hk with rfl|hk
  ·omega
  ·have h3:=Mw h (fun y hy=>hh y (List.mem_cons_of_mem _ hy)) k hk
   have h4:=h z h1
   omega
theorem RQ (hx:1<=xw/\xw<=256):∀ {ks:List Int} {s:eS},(∀k∈ks,eX s k)->ks.Nodup->(∀k∈ks,1<=(dD k s).w/\(dD k s).w<=all)->Qe s.1 s.2->Nh s->TrW s->(∀j,eX (oY on xw all ks s) j↔eX s j)/\(∀j,qI (oY on xw all ks s) j=if j∈ks then on else qI s j)/\TrW (oY on xw all ks s)/\Qe (oY on xw all ks s).1 (oY on xw all ks s).2/\Nh (oY on xw all ks s)/\(oY on xw all ks s).1.length=s.1.length
 | [],s,_,_,_,h1,h2,h3=>⟨fun j=>Iff.rfl,fun j=>by rw[if_neg (by simp)];rfl,h3,h1,h2,rfl⟩
 |k::ks,s,hk,hn,hw,h1,h2,h3=>by
  unfold oY
  have hkk:=hk k (List.mem_cons_self ..)
  obtain⟨n1,n2⟩:=List.nodup_cons.1 hn
  have hsh:=Akz (hw k (List.mem_cons_self ..)) hx
  have hne:∀z∈ks,z≠k:=fun z hz e=>n1 (by rw[<- e];exact hz)
  obtain⟨a1,a2,a3,a4,a5,a6⟩:=RQ hx (ks:=ks) (s:=fK k ⟨on,Er (dD k s).w xw all⟩ s) (fun z hz=>dU.2 (.inr (hk z (List.mem_cons_of_mem _ hz)))) n2 (fun z hz=>by rw[O8,if_neg (hne z hz)];exact hw z (List.mem_cons_of_mem _ hz)) (DZ h1) (G3 h2) (fun j hj=>by
   rw[O8]
   split
   ·exact hsh
   ·rename_i hjk;exact h3 j ((dU.1 hj).resolve_left hjk))
  refine⟨fun j=>(a1 j).trans (dU.trans ⟨fun h=>h.elim (fun e=>by rw[e];exact hkk) (fun h=>h),.inr⟩),fun j=>?_,a3,a4,a5,a6.trans (La hkk)⟩
  rw[a2 j,uM]
  by_cases hj:j∈ks
  ·rw[if_pos hj,if_pos (List.mem_cons_of_mem _ hj)]
  ·rw[if_neg hj]
   by_cases hjk:j=k
   ·rw[if_pos hjk,if_pos (by rw[hjk];exact List.mem_cons_self ..)]
   ·rw[if_neg hjk,if_neg (fun h=>(List.mem_cons.1 h).elim hjk hj)]
theorem Ad0 (h:Mt s):Mt (yO id s):=by
 unfold yO
 split
 ·rename_i hh
  obtain⟨r,hr⟩:=h.rk
  have hks:∀k∈cC id s.1,eX s k:=fun k hk=>((wN h.nd).1 hk).1
  obtain⟨a1,a2,a3,a4,a5,a6⟩:=RQ (on:=(dD id s).on) (all:=p7 s (cC id s.1)) (h.w id hh) hks (Bp h.nd) (fun k hk=>⟨(h.w k (hks k hk)).1,Mw h.w hks k hk⟩) h.kok h.nd h.w
  generalize oY (dD id s).on (dD id s).w (p7 s (cC id s.1)) (cC id s.1) s=t at a1 a2 a3 a4 a5 a6 ⊢
  have b1:∀j,eX (mO id t.1,t.2) j↔j≠id/\eX s j:=fun j=>by
   rw[<- a1 j]
   unfold eX dZ
   show(gM j (mO id t.1)).isSome=true↔_
   rw[C3 a5]
   by_cases hj:j=id
   ·rw[if_pos hj];simp[hj]
   ·rw[if_neg hj];simp[hj]
  have b2:∀j,j≠id->dD j (mO id t.1,t.2)=dD j t:=fun j hj=>by
   unfold dD
   show(gM j (mO id t.1)).getD _=_
   rw[C3 a5,if_neg hj]
  have b3:∀j,eX (mO id t.1,t.2) j->qI (mO id t.1,t.2) j=if qI s j=id then qI s id else qI s j:=fun j hj=>by
   have hj':=(b1 j).1 hj
   unfold qI
   rw[b2 j hj'.1]
   have:=a2 j
   unfold qI at this
   rw[this]
   by_cases hk:(dD j s).on=id
   ·rw[if_pos hk,if_pos ((wN h.nd).2 ⟨hj'.2,hk⟩)]
   ·rw[if_neg hk,if_neg (fun e=>hk ((wN h.nd).1 e).2)]
  have hne:qI s id≠id:=fun e=>by
   have e':(dD id s).on=id:=e
   have:=hr id hh (by rw[e'];exact hh)
   rw[e'] at this
   omega
  refine⟨⟨List.Nodup.sublist Ab0 a4.1,fun e he=>a4.2 e (Kw he)⟩,List.Nodup.sublist EY a5,?_,fun j hj=>?_,fun j hj=>h.ky j ((b1 j).1 hj).2,fun j hj=>?_,r,fun j hj hp=>?_⟩
  ·have:=YM (id:=id) (l:=t.1)
   have:=h.len
   show(mO id t.1).length<=64
   omega
  ·have hj':=(b1 j).1 hj
   rw[b2 j hj'.1]
   exact a3 j ((a1 j).2 hj'.2)
  ·have hj':=(b1 j).1 hj
   show qI _ j=0\/eX _ (qI _ j)
   rw[b3 j hj]
   by_cases hk:qI s j=id
   ·rw[if_pos hk]
    exact(h.cl id hh).imp (fun e=>e) fun e=>(b1 _).2 ⟨hne,e⟩
   ·rw[if_neg hk]
    exact(h.cl j hj'.2).imp (fun e=>e) fun e=>(b1 _).2 ⟨hk,e⟩
  ·have hj':=(b1 j).1 hj
   change r (qI (mO id t.1,t.2) j)<r j
   have hp:eX (mO id t.1,t.2) (qI (mO id t.1,t.2) j):=hp
   rw[b3 j hj] at hp ⊢
   by_cases hk:qI s j=id
   ·rw[if_pos hk] at hp ⊢
    have h1:=hr j hj'.2 (by show eX s (qI s j);rw[hk];exact hh)
    have h2:=hr id hh ((b1 _).1 hp).2
    have e':(dD j s).on=id:=hk
    rw[e'] at h1
    exact Nat.lt_trans h2 h1
   ·rw[if_neg hk] at hp ⊢
    exact hr j hj'.2 ((b1 _).1 hp).2
 ·exact h
end Go.Proofs.YtffnpejdkkohcaaGreat
namespace Go.Proofs.YtffnpejdkkohcaaGreat
open Go Go.Proofs Go.Sl
attribute [local irreducible] pF B7
theorem Alv {p:ByteArray} (h1:9<=p.size) (h2:Xq (p.extract 0 9)=0) (h3:sU (sL p) (sT p) (sF p) (sS p)=0) (h4:9+sL p<=p.size) (h5:gE (sL p) (sT p) (sF p) (sS p) (sQ p)=0):Bn p=none:=by
 unfold Bn;rw[if_neg (by omega),if_pos h2,if_pos h3,if_neg (by omega),if_pos h5]
theorem Ux:∀(k:Nat) (a:List UInt8),a.length<=k->Bn (kO (pF a).2.1)=some (pF a).2.2/\(pF a).2.1.length<=a.length:=fun k=>by
 induction k with
 |zero=>
  intro a h
  obtain rfl:a= []:=List.length_eq_zero_iff.1 (by omega)
  have hs:Bn (kO [])=some 0:=by unfold Bn;rw[if_pos (by rw[m7];decide)]
  rw[u7 hs]
  exact⟨hs,Nat.le_refl _⟩
 |succ k ih=>
  intro a h
  cases hs:Bn (kO a) with
  |some e=>rw[u7 hs];exact⟨hs,Nat.le_refl _⟩
  |none=>
   have hd:=wS hs
   obtain⟨i1,i2⟩:=ih (a.drop (9+sL (kO a)).toNat) (by omega)
   rw[Dk hs]
   exact⟨i1,by show(pF (a.drop (9+sL (kO a)).toNat)).2.1.length<=a.length;omega⟩
end Go.Proofs.YtffnpejdkkohcaaGreat
