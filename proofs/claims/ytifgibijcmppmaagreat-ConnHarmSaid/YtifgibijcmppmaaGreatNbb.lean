/- A part of the proof: lemmas; each with the conditions that it states. -/
import Derived.Test.YtifgibijcmppmaaGreatNal
set_option linter.unusedVariables false
set_option linter.unusedSimpArgs false
namespace Go.Proofs.YtifgibijcmppmaaGreat
open Go Go.Proofs Go.Sl
set_option maxRecDepth 100000
set_option maxHeartbeats 40000000
attribute [local irreducible] aN fB cJ bO aM aY aA dM dQ aW dK pt ro fF star sep bI
attribute [local irreducible] mp El
section
variable {R C:List HP} {K:Value→List HP→Prop}
structure hZ where
 id:Int
 n:Int
 sp:Int
structure Ld where
 n0:Int
 sp:Int
 l:List hZ
def Jz (e:iK×Int):hZ:=⟨e.1.id,e.2,e.1.sp⟩
def BC (e:iK×Int):HP:=tC e.1.w e.2
def Qt (p:Nat) (s:Ld):HP:=fF fun w0=>fF fun A=>fF fun c=>fF fun q:List (iK×Int)=>sep (pt p [.pointer (some ⟨w0,0,none⟩),.int .i64 s.sp,.slice A (q.map Prod.fst).length c] 235) (sep (tC w0 s.n0) (sep (bT A c 329 wN (q.map Prod.fst)) (sep (eC BC q) (bI (q.map Jz=s.l)))))
def Ss (s:Ld):Prop:=s.l.length≤64∧(s.l.Pairwise fun a b=>a.id<b.id)∧(∀e∈s.l,(-2147483648≤e.n∧e.n≤2147483648)∧0≤e.sp∧e.sp≤1000000000000)∧(-2147483648≤s.n0∧s.n0≤2147483648)∧0≤s.sp∧s.sp≤1000000000000
def oR (t:Int) (l:List hZ):Nat:=(l.takeWhile fun e=>decide (e.id<t)).length
def pH (t:Int) (l:List hZ):Option hZ:=match l[oR t l]? with
 |some e=>if e.id=t then some e else none
 |none=>none
def bE (t:Int) (s:Ld):Int:=match pH t s.l with
 |some e=>min (max e.n 0) (max s.n0 0)
 |none=>0
def lN (t n:Int) (s:Ld):Ld:=if t<1∨2147483647<t∨mM n=false∨(pH t s.l).isSome=true∨64≤s.l.length then s else { s with l:=s.l.take (oR t s.l)++⟨t,n,0⟩::s.l.drop (oR t s.l) }
def nU (t:Int) (s:Ld):Ld:=if(pH t s.l).isSome=true then { s with l:=s.l.eraseIdx (oR t s.l) } else s
def sD (t k:Int) (s:Ld):Int:=if(pH t s.l).isSome=false then 7 else if k<0 then 2 else if bE t s<k then 9 else 0
def mR (t k:Int) (s:Ld):Ld:=if sD t k s≠0 then s else match pH t s.l with
 |some e=> { n0:=s.n0 - k,sp:=s.sp+k,l:=s.l.set (oR t s.l) ⟨e.id,e.n - k,e.sp+k⟩ }
 |none=>s
def tU (t b:Int) (s:Ld):Int:=if t=0 then rH s.n0 b else match pH t s.l with
 |some e=>rH e.n b
 |none=>7
def qC (t b:Int) (s:Ld):Ld:=if t=0 then { s with n0:=mH s.n0 b } else match pH t s.l with
 |some e=> { s with l:=s.l.set (oR t s.l) ⟨e.id,mH e.n b,e.sp⟩ }
 |none=>s
def yV (a b:Int):List hZ→Int
 | []=>0
 |e::r=>if mC e.n a b≠0 then mC e.n a b else yV a b r
def E2 (a b:Int) (s:Ld):Int:=if mC 0 a b≠0∧mC 0 a b≠10 then mC 0 a b else yV a b s.l
def tH (a b:Int) (s:Ld):Ld:=if E2 a b s≠0 then s else { s with l:=s.l.map fun e=>⟨e.id,Aa e.n a b,e.sp⟩ }
theorem xV {t:Int}:∀q:List (iK×Int),oR t (q.map Jz)=AD t (q.map Prod.fst)
 | []=>rfl
 |e::r=>by
  have ih:=xV (t:=t) r
  unfold oR AD at ih ⊢
  rw[List.map_cons,List.map_cons,List.takeWhile_cons,List.takeWhile_cons]
  show(if decide (e.1.id<t)=true then _ else _:List hZ).length=_
  split
  ·rw[List.length_cons,List.length_cons,ih]
  ·rfl
theorem wL {t:Int} {q:List (iK×Int)} {e:hZ} (h:pH t (q.map Jz)=some e):∃z,q[AD t (q.map Prod.fst)]?=some z∧Jz z=e∧z.1.id=t∧Lo t (q.map Prod.fst)=true:=by
 unfold pH at h
 rw[xV,List.getElem?_map] at h
 cases hz:q[AD t (q.map Prod.fst)]? with
 |none=>rw[hz] at h;cases h
 |some z=>
  rw[hz] at h
  simp only[Option.map_some] at h
  split at h
  ·rename_i he
   cases h
   refine⟨z,rfl,rfl,he,?_⟩
   unfold Lo
   rw[List.getElem?_map,hz]
   exact decide_eq_true he
  ·cases h
theorem Bv {t:Int} {q:List (iK×Int)} (h:pH t (q.map Jz)=none):Lo t (q.map Prod.fst)=false:=by
 unfold pH at h
 unfold Lo
 rw[xV,List.getElem?_map] at h
 rw[List.getElem?_map]
 cases hz:q[AD t (q.map Prod.fst)]? with
 |none=>rfl
 |some z=>
  rw[hz] at h
  simp only[Option.map_some] at h ⊢
  split at h
  ·cases h
  ·rename_i he
   exact decide_eq_false he
theorem jO {p w0 c n:Nat} {A:Option Addr} {n0 sp:Int} {q:List (iK×Int)} {ws:List iK} {l:List hZ} (h:q.map Jz=l) (hw:ws=q.map Prod.fst) (hn:n=ws.length):aG (pt p [.pointer (some ⟨w0,0,none⟩),.int .i64 sp,.slice A n c] 235::tC w0 n0::bT A c 329 wN ws::eC BC q::R) (Qt p ⟨n0,sp,l⟩::R):=by
 subst hn hw
 exact aG.ex w0 (aG.ex A (aG.ex c (aG.ex q (Kt h))))
theorem Bd {f:FuncId} {args:Array Value} {p:Nat} {s:Ld} (h:∀w0 A c (q:List (iK×Int)),q.map Jz=s.l→aA Tryz.prog f args (pt p [.pointer (some ⟨w0,0,none⟩),.int .i64 s.sp,.slice A (q.map Prod.fst).length c] 235::tC w0 s.n0::bT A c 329 wN (q.map Prod.fst)::eC BC q::R) K):aA Tryz.prog f args (Qt p s::R) K:=
 aA.ex fun w0=>aA.ex fun A=>aA.ex fun c=>aA.ex fun q=>aA.ent sA (aA.pure fun hI=>h w0 A c q hI)
theorem Fq {q:List (iK×Int)} {l:List hZ} (h:q.map Jz=l):(q.map Prod.fst).length=l.length:=by rw[← h];simp
theorem G6 {q:List (iK×Int)} {l:List hZ} (h:q.map Jz=l) (hp:l.Pairwise fun a b=>a.id<b.id):(q.map Prod.fst).Pairwise fun a b=>a.id<b.id:=by
 rw[← h] at hp
 rw[List.pairwise_map] at hp ⊢
 exact hp
theorem Lx {q:List (iK×Int)} {l:List hZ} {z:iK×Int} {j:Nat} (h:q.map Jz=l) (hz:q[j]?=some z):Jz z∈l:=by
 rw[← h]
 exact List.mem_map_of_mem (List.mem_of_getElem? hz)
theorem MS {X Y Z:HP} {q:List (iK×Int)} {z:iK×Int} {j:Nat} (hz:q[j]?=some z):aG (X::Y::Z::eC BC q::R) (X::Z::Y::tC z.1.w z.2::eC BC (q.eraseIdx j)::R):=
 aG.cons (aG.trans (fun _ h=>bY.swap h) (aG.cons (aG.cons (t7 (f:=BC) hz))))
theorem Lu {X Y Z:HP} {q:List (iK×Int)} {z:iK×Int} {j w:Nat} {n:Int} {z':iK} (hz:q[j]?=some z) (hw:z'.w=w):aG (X::Z::Y::tC w n::eC BC (q.eraseIdx j)::R) (X::Y::Z::eC BC (q.set j (z',n))::R):=by
 subst hw
 exact aG.cons (aG.trans (aG.cons (aG.cons (C5 (f:=BC) (b':=(z',n)) hz))) (fun _ h=>bY.swap h))
section
variable {p:Nat} {s:Ld} {t n k b:Int}
theorem uA (hok:Ss s) (hK:K (.int .i64 (bE t s)) (Qt p s::R)):aA Tryz.prog 184 #[.pointer (some ⟨p,0,none⟩),.int .i64 t] (Qt p s::R) K:=by
 refine Bd fun w0 A c q hq=>?_
 obtain⟨h1,h2,h3,h4,h5⟩:=hok
 have hl:=Fq hq
 have hp:=G6 hq h2
 refine aA.entK ?_
 cases ha:pH t s.l with
 |none=>
  simp only[bE,ha] at hK
  rw[← hq] at ha
  exact CA (h:=Xv (l:=q.map Prod.fst) (by omega) hp (Bv ha) ⟨_,aG.trans (by exact bA) (jO hq rfl rfl),hK⟩)
 |some e=>
  simp only[bE,ha] at hK
  rw[← hq] at ha
  obtain⟨z,hz,rfl,hid,hf⟩:=wL ha
  refine aA.ent (MS hz) (JH (l:=q.map Prod.fst) (e:=z.1) (m:=z.2) (by omega) hp hf (by rw[List.getElem?_map,hz];rfl) ⟨_,aG.trans (Lu (z':=z.1) hz rfl) (jO (q:=q.set _ (z.1,z.2)) ?_ ?_ rfl),hK⟩)
  ·rw[List.map_set]
   have e:(q.map Jz).set (AD t (q.map Prod.fst)) (Jz z)=q.map Jz:=kE _ (by rw[List.getElem?_map,hz];rfl)
   exact e.trans hq
  ·rw[List.map_set]
   exact(kE _ (by rw[List.getElem?_map,hz];rfl)).symm
theorem AU (hok:Ss s) (hK:K (.int .i64 (tU t b s)) (Qt p (qC t b s)::R)):aA Tryz.prog 258 #[.pointer (some ⟨p,0,none⟩),.int .i64 t,.int .i64 b] (Qt p s::R) K:=by
 refine Bd fun w0 A c q hq=>?_
 obtain⟨h1,h2,h3,h4,h5⟩:=hok
 have hl:=Fq hq
 have hp:=G6 hq h2
 refine aA.entK ?_
 by_cases h0:t=0
 ·simp only[tU,qC,if_pos h0] at hK
  subst h0
  exact CA (h:=WR (by omega) ⟨_,aG.trans (by exact bA) (jO hq rfl rfl),hK⟩)
 ·simp only[tU,qC,if_neg h0] at hK
  cases ha:pH t s.l with
  |none=>
   simp only[ha] at hK
   rw[← hq] at ha
   exact CA (h:=Wz (l:=q.map Prod.fst) (by omega) hp h0 (Bv ha) ⟨_,aG.trans (by exact bA) (jO hq rfl rfl),hK⟩)
  |some e=>
   simp only[ha] at hK
   rw[← hq] at ha
   obtain⟨z,hz,rfl,hid,hf⟩:=wL ha
   have hzm:=h3 _ (Lx hq hz)
   refine aA.ent (MS hz) (CA (h:=WB (l:=q.map Prod.fst) (e:=z.1) (m:=z.2) (by omega) hp h0 hf (by rw[List.getElem?_map,hz];rfl) (by have:=hzm.1;simp only[Jz] at this;omega) ⟨_,aG.trans (by exact bA) (aG.trans (Lu (z':=z.1) (n:=mH z.2 b) hz rfl) (jO (q:=q.set (AD t (q.map Prod.fst)) (z.1,mH z.2 b)) (l:=s.l.set (oR t s.l) ⟨z.1.id,mH z.2 b,z.1.sp⟩) ?_ ?_ rfl)),hK⟩))
   ·rw[List.map_set,← hq,xV];rfl
   ·rw[List.map_set]
    exact(kE _ (by rw[List.getElem?_map,hz];rfl)).symm
theorem Rx (hok:Ss s) (hK:K (.int .i64 (sD t k s)) (Qt p (mR t k s)::R)) (hk:sD t k s=0):aA Tryz.prog 194 #[.pointer (some ⟨p,0,none⟩),.int .i64 t,.int .i64 k] (Qt p s::R) K:=by
 refine Bd fun w0 A c q hq=>?_
 obtain⟨h1,h2,h3,h4,h5⟩:=hok
 have hl:=Fq hq
 have hp:=G6 hq h2
 refine aA.entK ?_
 rw[hk] at hK
 simp only[mR,hk,ne_eq,not_true_eq_false,if_false] at hK
 unfold sD bE at hk
 cases ha:pH t s.l with
 |none=>rw[ha] at hk;simp at hk
 |some e=>
  simp only[ha] at hK hk
  rw[← hq] at ha
  obtain⟨z,hz,rfl,hid,hf⟩:=wL ha
  have hzm:=h3 _ (Lx hq hz)
  simp only[Jz] at hzm hk
  have hkk:0≤k∧k≤min (max z.2 0) (max s.n0 0):=by
   by_cases h6:k<0
   ·simp[h6] at hk
   ·by_cases h7:min (max z.2 0) (max s.n0 0)<k
    ·simp[h6,h7] at hk
    ·omega
  refine aA.ent (MS hz) (CA (h:=Wq (l:=q.map Prod.fst) (e:=z.1) (m:=z.2) (by omega) hp hf (by rw[List.getElem?_map,hz];rfl) hkk.1 hkk.2 (by omega) (by omega) (by omega) (by omega) ⟨_,aG.trans (by exact bA) (aG.trans (Lu (z':=⟨z.1.id,z.1.w,z.1.sp+k⟩) (n:=z.2 - k) hz rfl) (jO (q:=q.set (AD t (q.map Prod.fst)) (⟨z.1.id,z.1.w,z.1.sp+k⟩,z.2 - k)) (l:=s.l.set (oR t s.l) ⟨z.1.id,z.2 - k,z.1.sp+k⟩) ?_ ?_ ?_)),hK⟩))
  ·rw[List.map_set,← hq,xV];rfl
  ·rw[List.map_set]
  ·simp
theorem Aa3 (h:0≤n∧n≤2147483647) (hK:∀p,K (.tuple #[.pointer (some ⟨p,0,none⟩),.int .i64 0]) (Qt p ⟨n,0,[]⟩::R)):aA Tryz.prog 57 #[.int .i64 n] R K:=by
 refine aH Tryz.func57 ?_
 repeat' (first|refine v21 ?_|refine wr ?_|refine w5 ?_ ?_|((refine bh fun h=>?_) <;> try exact w6 h)|(refine aE fun hA=>?_;subst hA)|intro _|(show aA _ 141 _ _ _;refine CA (h:=Ai (by unfold mM;simp;omega) (fun w0=>?_))))
 rename_i r
 all_goals(refine aC ?_;exact aL (aG.trans (by exact bA) ((aG.trans (aG.trans (aG.nilrow 329 wN _) (aG.trans (K3 (f:=BC)) (by exact bA))) (jO (q:= []) (A:=none) (c:=0) (w0:=w0) (p:=r) (sp:=0) (n0:=n) (R:=R) rfl rfl rfl)))) ((hK r)))
end
end
section
variable {R C:List HP} {K:Value→List HP→Prop}
theorem Ah4 {X Y Z:HP} {q:List (iK×Int)} {i w:Nat} {n:Int} {z:iK} (hw:z.w=w):aG (tC w n::X::Y::Z::eC BC q::R) (X::Y::Z::eC BC (q.take i++(z,n)::q.drop i)::R):=by
 subst hw
 have h1:aG (tC z.w n::eC BC q::R) (eC BC (q.take i++(z,n)::q.drop i)::R):=KY (f:=BC) (b:=(z,n))
 exact aG.trans (fun _ h=>h.perm (List.perm_middle (l₁:= [X,Y,Z]) (a:=tC z.w n) (l₂:=eC BC q::R)).symm) (aG.cons (aG.cons (aG.cons h1)))
theorem Ajg {X Y Z:HP} {q:List (iK×Int)} {i:Nat} {z:iK×Int} (hz:q[i]?=some z):aG (X::Y::Z::eC BC q::R) (X::Y::Z::eC BC (q.eraseIdx i)::R):=
 aG.cons (aG.cons (aG.cons (aG.trans (t7 (f:=BC) hz) (aG.drop (aG.refl _)))))
section
variable {p:Nat} {s:Ld} {t n k a b:Int}
theorem V6 (hok:Ss s) (hK:∀v,K v (Qt p (lN t n s)::R)):aA Tryz.prog 217 #[.pointer (some ⟨p,0,none⟩),.int .i64 t,.int .i64 n] (Qt p s::R) K:=by
 refine Bd fun w0 A c q hq=>?_
 obtain⟨h1,h2,h3,h4,h5⟩:=hok
 have hl:=Fq hq
 have hp:=G6 hq h2
 by_cases g1:t<1∨2147483647<t
 ·have e:lN t n s=s:=by unfold lN;rw[if_pos (by omega)]
  rw[e] at hK
  refine aH Tryz.func217 ?_
  repeat' (first|refine v90 ?_|refine wr ?_|refine w5 ?_ ?_|((refine bh fun h=>?_) <;> try exact w6 h)|(refine aE fun hA=>?_;subst hA)|intro _)
  all_goals(refine aC ?_;exact aL (aG.trans (by exact bA) ((jO hq rfl rfl))) ((hK _)))
 ·cases g2:mM n
  ·have e:lN t n s=s:=by unfold lN;rw[if_pos (.inr (.inr (.inl g2)))]
   rw[e] at hK
   refine aH Tryz.func217 ?_
   repeat' (first|refine v90 ?_|refine wr ?_|refine w5 ?_ ?_|((refine bh fun h=>?_) <;> try exact w6 h)|(refine aE fun hA=>?_;subst hA)|intro _|(show aA _ 141 _ _ _;refine CA (h:=V0 g2 ?_)))
   all_goals(refine aC ?_;exact aL (aG.trans (by exact bA) ((jO hq rfl rfl))) ((hK _)))
  ·cases g3:pH t s.l with
   |some z=>
    have e:lN t n s=s:=by unfold lN;rw[if_pos (.inr (.inr (.inr (.inl (by rw[g3];rfl)))))]
    rw[e] at hK
    have g3':=g3
    rw[← hq] at g3'
    obtain⟨_,_,_,_,hf⟩:=wL g3'
    refine aH Tryz.func217 ?_
    repeat' (first|refine v90 ?_|refine wr ?_|refine w5 ?_ ?_|((refine bh fun h=>?_) <;> try exact w6 h)|(refine aE fun hA=>?_;subst hA)|intro _|(show aA _ 141 _ _ _;refine CA (h:=Ai g2 (fun w1=>?_)))|(show aA _ 307 _ _ _;refine CA (h:=uV (l:=q.map Prod.fst) (by omega) hp ?_);rw[hf]))
    all_goals(refine aC ?_;exact aL (aG.trans (by exact bA) ((jO hq rfl rfl))) ((hK _)))
   |none=>
    have g3':=g3
    rw[← hq] at g3'
    have hf:=Bv g3'
    by_cases g4:64≤s.l.length
    ·have e:lN t n s=s:=by unfold lN;rw[if_pos (.inr (.inr (.inr (.inr g4))))]
     rw[e] at hK
     refine aH Tryz.func217 ?_
     repeat' (first|refine v90 ?_|refine wr ?_|refine w5 ?_ ?_|((refine bh fun h=>?_) <;> try exact w6 h)|(refine aE fun hA=>?_;subst hA)|intro _|(show aA _ 141 _ _ _;refine CA (h:=Ai g2 (fun w1=>?_)))|(show aA _ 307 _ _ _;refine CA (h:=uV (l:=q.map Prod.fst) (by omega) hp ?_);rw[hf]))
     all_goals(refine aC ?_;exact aL (aG.trans (by exact bA) ((jO hq rfl rfl))) ((hK _)))
    ·have e:lN t n s= { s with l:=s.l.take (oR t s.l)++⟨t,n,0⟩::s.l.drop (oR t s.l) }:=by
      unfold lN
      rw[if_neg]
      rintro(h|h|h|h|h)
      ·omega
      ·omega
      ·rw[g2] at h;cases h
      ·rw[g3] at h;cases h
      ·exact g4 h
     rw[e] at hK
     have hix:AD t (q.map Prod.fst)=oR t s.l:=by rw[← hq,xV]
     have hle:=RU t (q.map Prod.fst)
     refine aH Tryz.func217 ?_
     repeat' (first|refine v90 ?_|refine wr ?_|refine w5 ?_ ?_|((refine bh fun h=>?_) <;> try exact w6 h)|(refine aE fun hA=>?_;subst hA)|intro _|(show aA _ 141 _ _ _;refine CA (h:=Ai g2 (fun w1=>?_)))|(show aA _ 307 _ _ _;refine CA (h:=uV (l:=q.map Prod.fst) (by omega) hp ?_);rw[hf])|(show aA _ 308 _ _ _;refine CA (h:=Ad2 (xs:=q.map Prod.fst) (y:=⟨t,w1,0⟩) rfl hle (by omega) (fun A' c'=>?_))))
     all_goals(refine aC ?_;exact aL (aG.trans (by exact bA) ((aG.trans (Ah4 (i:=oR t s.l) (z:=⟨t,w1,0⟩) rfl) (jO (q:=q.take (oR t s.l)++(⟨t,w1,0⟩,n)::q.drop (oR t s.l)) (l:=s.l.take (oR t s.l)++⟨t,n,0⟩::s.l.drop (oR t s.l)) (by rw[← hq];simp[Jz]) (by rw[hix];simp) (by simp only[List.length_append,List.length_cons,List.length_take,List.length_drop];omega))))) ((hK _)))
theorem SK (hok:Ss s) (hK:∀v,K v (Qt p (nU t s)::R)):aA Tryz.prog 316 #[.pointer (some ⟨p,0,none⟩),.int .i64 t] (Qt p s::R) K:=by
 refine Bd fun w0 A c q hq=>?_
 obtain⟨h1,h2,h3,h4,h5⟩:=hok
 have hl:=Fq hq
 have hp:=G6 hq h2
 cases g3:pH t s.l with
 |none=>
  have e:nU t s=s:=by unfold nU;rw[g3];rfl
  rw[e] at hK
  rw[← hq] at g3
  have hf:=Bv g3
  refine aH Tryz.func316 ?_
  repeat' (first|refine v68 ?_|refine wr ?_|refine w5 ?_ ?_|((refine bh fun h=>?_) <;> try exact w6 h)|(refine aE fun hA=>?_;subst hA)|intro _|(show aA _ 307 _ _ _;refine CA (h:=uV (l:=q.map Prod.fst) (by omega) hp ?_);rw[hf]))
  all_goals(refine aC ?_;exact aL (aG.trans (by exact bA) ((jO hq rfl rfl))) ((hK _)))
 |some z=>
  have e:nU t s= { s with l:=s.l.eraseIdx (oR t s.l) }:=by unfold nU;rw[g3];rfl
  rw[e] at hK
  rw[← hq] at g3
  obtain⟨z,hz,rfl,hid,hf⟩:=wL g3
  have hlt:AD t (q.map Prod.fst)<(q.map Prod.fst).length:=by rw[List.length_map];exact(List.getElem?_eq_some_iff.1 hz).1
  have hix:AD t (q.map Prod.fst)=oR t s.l:=by rw[← hq,xV]
  refine aH Tryz.func316 ?_
  repeat' (first|refine v68 ?_|refine wr ?_|refine w5 ?_ ?_|((refine bh fun h=>?_) <;> try exact w6 h)|(refine aE fun hA=>?_;subst hA)|intro _|(show aA _ 307 _ _ _;refine CA (h:=uV (l:=q.map Prod.fst) (by omega) hp ?_);rw[hf])|(show aA _ 372 _ _ _;refine CA (h:=Add (xs:=q.map Prod.fst) rfl hlt (by omega) (fun A' c'=>?_))))
  all_goals(refine aC ?_;exact aL (aG.trans (by exact bA) ((aG.trans (Ajg hz) (jO (q:=q.eraseIdx (AD t (q.map Prod.fst))) (l:=s.l.eraseIdx (oR t s.l)) (by rw[← nG,hq,hix]) (nG ..) (by rw[List.length_eraseIdx,if_pos hlt]))))) ((hK _)))
theorem OB {l:List hZ} {j:Nat} {e:hZ} (h:l[j]?=some e):yV a b (l.drop j)=if mC e.n a b≠0 then mC e.n a b else yV a b (l.drop (j+1)):=by
 have hj:=(List.getElem?_eq_some_iff.1 h).1
 rw[List.drop_eq_getElem_cons hj,(List.getElem?_eq_some_iff.1 h).2]
 rfl
theorem Adx {l:List hZ} {j:Nat} {e:hZ} {n:Int} (h:l[j]?=some e) (hn:e.n=n) (h0:mC n a b=0):yV a b (l.drop (j+1))=yV a b (l.drop j):=by
 subst hn
 rw[OB h,if_neg (by simpa using h0)]
theorem Adv {l:List hZ} {j:Nat} {e:hZ} {n:Int} (h:l[j]?=some e) (hn:e.n=n) (h0:mC n a b≠0):mC n a b=yV a b (l.drop j):=by
 subst hn
 rw[OB h,if_pos h0]
def yQ (a b:Int) (e:iK×Int):iK×Int:=(e.1,Aa e.2 a b)
def Dw:List (Nat×Nat):= [(0,0),(1,0),(2,1),(3,1),(4,1),(5,1),(6,0)]
theorem Yt {r4 r5 w:Nat} {m i sp:Int} (hm:-4294967296≤m∧m≤4294967296) (hK:∀w',K (.int .i64 (mC m a b)) (tC w' (Aa m a b)::pt r4 [.int .i64 a] 3::pt r5 [.int .i64 b] 3::tC w m::R)):aA Tryz.prog 332 #[.agg #[.int .i64 i,.pointer (some ⟨w,0,none⟩),.int .i64 sp],.pointer (some ⟨r4,0,none⟩),.pointer (some ⟨r5,0,none⟩)] (pt r4 [.int .i64 a] 3::pt r5 [.int .i64 b] 3::tC w m::R) K:=by
 refine aH Tryz.func332 ?_
 repeat' (first|refine v19 ?_|refine dw Dw ?_|refine wr ?_|refine w5 ?_ ?_|((refine bh fun h=>?_) <;> try exact w6 h)|(refine aE fun hA=>?_;subst hA)|intro _|(show aA _ 333 _ _ _;refine CA (h:=W8 (fun q=>?_)))|(show aA _ 331 _ _ _;refine CA (h:=IP (p:=q) hm ?_)))
 all_goals(refine aC ?_;exact aB (hK _))
theorem Ah5 (h:mM a=true∧mM b=true):mC 0 a b=0:=by
 have h2:=h
 unfold mM at h2
 simp only[Bool.and_eq_true,decide_eq_true_eq] at h2
 unfold mC Cw CO
 rw[if_pos h,if_pos]
 simp only[Bool.and_eq_true,decide_eq_true_eq]
 omega
theorem P9 (hok:Ss s) (hab:mM a=true∧mM b=true) (hK:K (.int .i64 (E2 a b s)) (Qt p (tH a b s)::R)):aA Tryz.prog 248 #[.pointer (some ⟨p,0,none⟩),.int .i64 a,.int .i64 b] (Qt p s::R) K:=by
 have hv:=Ah5 hab
 have hE:E2 a b s=yV a b s.l:=by unfold E2;rw[hv];rfl
 refine Bd fun w0 A c q hq=>?_
 obtain⟨h1,h2,h3,h4,h5⟩:=hok
 have hl:=Fq hq
 have hql:(q.map Prod.fst).length=q.length:=List.length_map ..
 refine aH Tryz.func248 ?_
 repeat' (first|refine I5 ?_|refine wr ?_|refine w5 ?_ ?_|((refine bh fun h=>?_) <;> try exact w6 h)|(refine aE fun hA=>?_;subst hA)|intro _|(show aA _ 141 _ _ _;refine CA (h:=Ai (n:=0) (by decide) (fun w1=>?_)))|(show aA _ 331 _ _ _;refine CA (h:=IP (p:=w1) (n:=0) (by omega) ?_);rw[hv]))
 rename_i r4 r5
 refine iF (fun kk f C'=>∃(j:Nat) (er:Int),j+kk=q.length∧((er=0∧yV a b (s.l.drop j)=yV a b s.l)∨(er≠0∧er=yV a b s.l))∧cN f [(0,.pointer (some ⟨p,0,none⟩)),(4,.pointer (some ⟨r4,0,none⟩)),(5,.pointer (some ⟨r5,0,none⟩)),(9,.int .i64 er),(10,.func (.func 332) #[] #[.pointer (some ⟨r4,0,none⟩),.pointer (some ⟨r5,0,none⟩)]),(31,.slice A (q.map Prod.fst).length c),(32,.int .i64 (q.map Prod.fst).length),(33,.int .i64 j)]∧C'=pt r4 [.int .i64 a] 3::pt r5 [.int .i64 b] 3::pt p [.pointer (some ⟨w0,0,none⟩),.int .i64 s.sp,.slice A (q.map Prod.fst).length c] 235::tC w0 s.n0::bT A c 329 wN (q.map Prod.fst)::eC BC q::R) q.length (b9 q.length ⟨0,0,by omega,.inl ⟨rfl,rfl⟩,⟨rfl,rfl,rfl,rfl,rfl,rfl,rfl,rfl,trivial⟩,rfl⟩ (by omega)) ?_
 rintro kk f C' ⟨j,er,hj,her,ha,rfl⟩
 refine gF _ ha ?_
 simp only[eQ]
 by_cases hlt:j<q.length
 ·obtain⟨z,hz⟩:∃z,q[j]?=some z:=⟨_,List.getElem?_eq_getElem hlt⟩
  have hz1:(q.map Prod.fst)[j]?=some z.1:=by rw[List.getElem?_map,hz];rfl
  have hz':(q.map Prod.fst)[((j:Nat):Int).toNat]?=some z.1:=by rw[Int.toNat_natCast];exact hz1
  have hlj:s.l[j]?=some (Jz z):=by rw[← hq,List.getElem?_map,hz];rfl
  rcases her with⟨rfl,he⟩|⟨hne,he⟩
  ·have hzm:=h3 _ (Lx hq hz)
   simp only[Jz] at hzm
   have hout:aG (eC BC q::R) (tC z.1.w z.2::eC BC (q.eraseIdx j)::R):=t7 (f:=BC) hz
   have hin:aG (tC z.1.w z.2::eC BC (q.eraseIdx j)::R) (eC BC q::R):=by
    have h:=C5 (f:=BC) (b':=z) (R:=R) hz
    rw[kE j hz] at h
    exact h
   refine nR (aG.cons (aG.cons (aG.cons (aG.cons (aG.cons hout))))) ?_
   repeat' (first|refine I5 ?_|refine wr ?_|refine w5 ?_ ?_|((refine bh fun h=>?_) <;> try exact w6 h)|(refine aE fun hA=>?_;subst hA)|intro _|(show aA _ 332 _ _ _;refine CA (h:=Yt (w:=z.1.w) (m:=z.2) (by omega) (fun w'=>?_))))
   all_goals(show aW _ _ _ _;refine b9 (kk - 1) ⟨j+1,mC z.2 a b,by omega,?_,⟨rfl,rfl,rfl,rfl,rfl,rfl,rfl,rfl,trivial⟩,rfl⟩ (by omega) (aG.trans (by exact bA) (aG.cons (aG.cons (aG.cons (aG.cons (aG.cons hin)))))))
   by_cases hz0:mC z.2 a b=0
   ·exact .inl ⟨hz0,(Adx hlj rfl hz0).trans he⟩
   ·exact .inr ⟨hz0,(Adv hlj rfl hz0).trans he⟩
  ·have hR:tH a b s=s:=by unfold tH;rw[if_pos (by rw[hE,← he];exact hne)]
   rw[hR,hE,← he] at hK
   repeat' (first|refine I5 ?_|refine wr ?_|refine w5 ?_ ?_|((refine bh fun h=>?_) <;> try exact w6 h)|(refine aE fun hA=>?_;subst hA)|intro _)
   all_goals(refine aC ?_;exact aL (aG.trans (by exact bA) ((jO hq rfl rfl))) (hK))
 ·have hjl:j=q.length:=by omega
  subst hjl
  rcases her with⟨rfl,he⟩|⟨hne,he⟩
  ·have hd:s.l.drop q.length= []:=List.drop_eq_nil_of_le (by omega)
   rw[hd] at he
   have he:yV a b s.l=0:=he.symm
   have hR:tH a b s= { s with l:=s.l.map fun e=>⟨e.id,Aa e.n a b,e.sp⟩ }:=by unfold tH;rw[if_neg (by rw[hE,he];decide)]
   rw[hR,hE,he] at hK
   repeat' (first|refine I5 ?_|refine wr ?_|refine w5 ?_ ?_|((refine bh fun h=>?_) <;> try exact w6 h)|(refine aE fun hA=>?_;subst hA)|intro _)
   refine iF (fun kk f C'=>∃j:Nat,j+kk=q.length∧cN f [(4,.pointer (some ⟨r4,0,none⟩)),(5,.pointer (some ⟨r5,0,none⟩)),(49,.slice A (q.map Prod.fst).length c),(50,.int .i64 (q.map Prod.fst).length),(51,.int .i64 j)]∧C'=pt r4 [.int .i64 a] 3::pt r5 [.int .i64 b] 3::pt p [.pointer (some ⟨w0,0,none⟩),.int .i64 s.sp,.slice A (q.map Prod.fst).length c] 235::tC w0 s.n0::bT A c 329 wN (q.map Prod.fst)::eC BC ((q.take j).map (yQ a b)++q.drop j)::R) q.length (b9 q.length ⟨0,by omega,⟨rfl,rfl,rfl,rfl,rfl,trivial⟩,rfl⟩ (by omega)) ?_
   rintro kk f C' ⟨j,hj,ha,rfl⟩
   refine gF _ ha ?_
   simp only[eQ]
   by_cases hlt:j<q.length
   ·obtain⟨z,hz⟩:∃z,q[j]?=some z:=⟨_,List.getElem?_eq_getElem hlt⟩
    have hz1:(q.map Prod.fst)[j]?=some z.1:=by rw[List.getElem?_map,hz];rfl
    have hz':(q.map Prod.fst)[((j:Nat):Int).toNat]?=some z.1:=by rw[Int.toNat_natCast];exact hz1
    have hzm:=h3 _ (Lx hq hz)
    simp only[Jz] at hzm
    have htl:((q.take j).map (yQ a b)).length=j:=by rw[List.length_map,List.length_take];omega
    have hzq:((q.take j).map (yQ a b)++q.drop j)[j]?=some z:=by rw[List.getElem?_append_right (by omega),htl,Nat.sub_self,List.getElem?_drop,Nat.add_zero];exact hz
    have hset:((q.take j).map (yQ a b)++q.drop j).set j (yQ a b z)=(q.take (j+1)).map (yQ a b)++q.drop (j+1):=by
     rw[List.set_append_right _ _ (by omega),htl,Nat.sub_self,List.drop_eq_getElem_cons hlt,List.set_cons_zero,List.take_add_one,hz]
     simp
    have hout:aG (eC BC ((q.take j).map (yQ a b)++q.drop j)::R) (tC z.1.w z.2::eC BC (((q.take j).map (yQ a b)++q.drop j).eraseIdx j)::R):=t7 (f:=BC) hzq
    have hin:aG (tC z.1.w (Aa z.2 a b)::eC BC (((q.take j).map (yQ a b)++q.drop j).eraseIdx j)::R) (eC BC ((q.take (j+1)).map (yQ a b)++q.drop (j+1))::R):=by
     have h:=C5 (f:=BC) (b':=yQ a b z) (R:=R) hzq
     rw[hset] at h
     exact h
    refine nR (aG.cons (aG.cons (aG.cons (aG.cons (aG.cons hout))))) ?_
    repeat' (first|refine I5 ?_|refine wr ?_|refine w5 ?_ ?_|((refine bh fun h=>?_) <;> try exact w6 h)|(refine aE fun hA=>?_;subst hA)|intro _|(show aA _ 331 _ _ _;refine CA (h:=IP (p:=z.1.w) (n:=z.2) (by omega) ?_)))
    all_goals(show aW _ _ _ _;refine b9 (kk - 1) ⟨j+1,by omega,⟨rfl,rfl,rfl,rfl,rfl,trivial⟩,rfl⟩ (by omega) (aG.trans (by exact bA) (aG.cons (aG.cons (aG.cons (aG.cons (aG.cons hin)))))))
   ·have hjl:j=q.length:=by omega
    subst hjl
    rw[List.take_length,List.drop_length,List.append_nil]
    repeat' (first|refine I5 ?_|refine wr ?_|refine w5 ?_ ?_|((refine bh fun h=>?_) <;> try exact w6 h)|(refine aE fun hA=>?_;subst hA)|intro _)
    all_goals(refine aC ?_;exact aL (aG.trans (by exact bA) ((jO (q:=q.map (yQ a b)) (l:=s.l.map fun e=>⟨e.id,Aa e.n a b,e.sp⟩) (by rw[← hq,List.map_map,List.map_map];rfl) (by rw[List.map_map];rfl) rfl))) (hK))
  ·have hR:tH a b s=s:=by unfold tH;rw[if_pos (by rw[hE,← he];exact hne)]
   rw[hR,hE,← he] at hK
   repeat' (first|refine I5 ?_|refine wr ?_|refine w5 ?_ ?_|((refine bh fun h=>?_) <;> try exact w6 h)|(refine aE fun hA=>?_;subst hA)|intro _)
   all_goals(refine aC ?_;exact aL (aG.trans (by exact bA) ((jO hq rfl rfl))) (hK))
end
end
end Go.Proofs.YtifgibijcmppmaaGreat
