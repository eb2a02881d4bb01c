/- A part of the proof: lemmas; each with the conditions that it states. -/
import Derived.Test.YtifgibijcmppmaaGreatMav
set_option linter.unusedVariables false
set_option linter.unusedSimpArgs false
namespace Go.Proofs.YtifgibijcmppmaaGreat
open Go Go.Proofs Go.Sl
set_option maxRecDepth 100000
set_option maxHeartbeats 40000000
attribute [local irreducible] aM fG cV bP aN aW aA dP dX aV dO pt ro eW star sep bH
attribute [local irreducible] mp Ec
section
variable {R C:List HP} {K:Value→List HP→Prop}
structure gI where
 id:Int
 n:Int
 sp:Int
structure Ld where
 n0:Int
 sp:Int
 l:List gI
def JR (e:gU×Int):gI:=⟨e.1.id,e.2,e.1.sp⟩
def BE (e:gU×Int):HP:=sM e.1.w e.2
def Qy (p:Nat) (s:Ld):HP:=eW fun w0=>eW fun A=>eW fun c=>eW fun q:List (gU×Int)=>sep (pt p [.pointer (some ⟨w0,0,none⟩),.int .i64 s.sp,.slice A (q.map Prod.fst).length c] 235) (sep (sM w0 s.n0) (sep (bU A c 329 vX (q.map Prod.fst)) (sep (d5 BE q) (bH (q.map JR=s.l)))))
def Se (s:Ld):Prop:=s.l.length≤64∧(s.l.Pairwise fun a b=>a.id<b.id)∧(∀e∈s.l,(-2147483648≤e.n∧e.n≤2147483648)∧0≤e.sp∧e.sp≤1000000000000)∧(-2147483648≤s.n0∧s.n0≤2147483648)∧0≤s.sp∧s.sp≤1000000000000
def nB (t:Int) (l:List gI):Nat:=(l.takeWhile fun e=>decide (e.id<t)).length
def o9 (t:Int) (l:List gI):Option gI:=match l[nB t l]? with
 |some e=>if e.id=t then some e else none
 |none=>none
def bC (t:Int) (s:Ld):Int:=match o9 t s.l with
 |some e=>min (max e.n 0) (max s.n0 0)
 |none=>0
def kQ (t n:Int) (s:Ld):Ld:=if t<1∨2147483647<t∨lQ n=false∨(o9 t s.l).isSome=true∨64≤s.l.length then s else { s with l:=s.l.take (nB t s.l)++⟨t,n,0⟩::s.l.drop (nB t s.l) }
def mV (t:Int) (s:Ld):Ld:=if(o9 t s.l).isSome=true then { s with l:=s.l.eraseIdx (nB t s.l) } else s
def rH (t k:Int) (s:Ld):Int:=if(o9 t s.l).isSome=false then 7 else if k<0 then 2 else if bC t s<k then 9 else 0
def lO (t k:Int) (s:Ld):Ld:=if rH t k s≠0 then s else match o9 t s.l with
 |some e=> { n0:=s.n0 - k,sp:=s.sp+k,l:=s.l.set (nB t s.l) ⟨e.id,e.n - k,e.sp+k⟩ }
 |none=>s
def s5 (t b:Int) (s:Ld):Int:=if t=0 then qO s.n0 b else match o9 t s.l with
 |some e=>qO e.n b
 |none=>7
def pB (t b:Int) (s:Ld):Ld:=if t=0 then { s with n0:=lI s.n0 b } else match o9 t s.l with
 |some e=> { s with l:=s.l.set (nB t s.l) ⟨e.id,lI e.n b,e.sp⟩ }
 |none=>s
def yK (a b:Int):List gI→Int
 | []=>0
 |e::r=>if lC e.n a b≠0 then lC e.n a b else yK a b r
def Ey (a b:Int) (s:Ld):Int:=if lC 0 a b≠0∧lC 0 a b≠10 then lC 0 a b else yK a b s.l
def sG (a b:Int) (s:Ld):Ld:=if Ey a b s≠0 then s else { s with l:=s.l.map fun e=>⟨e.id,z1 e.n a b,e.sp⟩ }
theorem x7 {t:Int}:∀q:List (gU×Int),nB t (q.map JR)=zB t (q.map Prod.fst)
 | []=>rfl
 |e::r=>by
  have ih:=x7 (t:=t) r
  unfold nB zB at ih ⊢
  rw[List.map_cons,List.map_cons,List.takeWhile_cons,List.takeWhile_cons]
  show(if decide (e.1.id<t)=true then _ else _:List gI).length=_
  split
  ·rw[List.length_cons,List.length_cons,ih]
  ·rfl
theorem wD {t:Int} {q:List (gU×Int)} {e:gI} (h:o9 t (q.map JR)=some e):∃z,q[zB t (q.map Prod.fst)]?=some z∧JR z=e∧z.1.id=t∧Ms t (q.map Prod.fst)=true:=by
 unfold o9 at h
 rw[x7,List.getElem?_map] at h
 cases hz:q[zB t (q.map Prod.fst)]? with
 |none=>rw[hz] at h;cases h
 |some z=>
  rw[hz] at h
  simp only[Option.map_some] at h
  split at h
  ·rename_i he
   cases h
   refine⟨z,rfl,rfl,he,?_⟩
   unfold Ms
   rw[List.getElem?_map,hz]
   exact decide_eq_true he
  ·cases h
theorem Bm {t:Int} {q:List (gU×Int)} (h:o9 t (q.map JR)=none):Ms t (q.map Prod.fst)=false:=by
 unfold o9 at h
 unfold Ms
 rw[x7,List.getElem?_map] at h
 rw[List.getElem?_map]
 cases hz:q[zB t (q.map Prod.fst)]? with
 |none=>rfl
 |some z=>
  rw[hz] at h
  simp only[Option.map_some] at h ⊢
  split at h
  ·cases h
  ·rename_i he
   exact decide_eq_false he
theorem iZ {p w0 c n:Nat} {A:Option Addr} {n0 sp:Int} {q:List (gU×Int)} {ws:List gU} {l:List gI} (h:q.map JR=l) (hw:ws=q.map Prod.fst) (hn:n=ws.length):aG (pt p [.pointer (some ⟨w0,0,none⟩),.int .i64 sp,.slice A n c] 235::sM w0 n0::bU A c 329 vX ws::d5 BE q::R) (Qy p ⟨n0,sp,l⟩::R):=by
 subst hn hw
 exact aG.ex w0 (aG.ex A (aG.ex c (aG.ex q (Kt h))))
theorem AH {f:FuncId} {args:Array Value} {p:Nat} {s:Ld} (h:∀w0 A c (q:List (gU×Int)),q.map JR=s.l→aA Tryz.prog f args (pt p [.pointer (some ⟨w0,0,none⟩),.int .i64 s.sp,.slice A (q.map Prod.fst).length c] 235::sM w0 s.n0::bU A c 329 vX (q.map Prod.fst)::d5 BE q::R) K):aA Tryz.prog f args (Qy p s::R) K:=
 aA.ex fun w0=>aA.ex fun A=>aA.ex fun c=>aA.ex fun q=>aA.ent rR (aA.pure fun hI=>h w0 A c q hI)
theorem Fa {q:List (gU×Int)} {l:List gI} (h:q.map JR=l):(q.map Prod.fst).length=l.length:=by rw[← h];simp
theorem GX {q:List (gU×Int)} {l:List gI} (h:q.map JR=l) (hp:l.Pairwise fun a b=>a.id<b.id):(q.map Prod.fst).Pairwise fun a b=>a.id<b.id:=by
 rw[← h] at hp
 rw[List.pairwise_map] at hp ⊢
 exact hp
theorem LA {q:List (gU×Int)} {l:List gI} {z:gU×Int} {j:Nat} (h:q.map JR=l) (hz:q[j]?=some z):JR z∈l:=by
 rw[← h]
 exact List.mem_map_of_mem (List.mem_of_getElem? hz)
theorem LK {X Y Z:HP} {q:List (gU×Int)} {z:gU×Int} {j:Nat} (hz:q[j]?=some z):aG (X::Y::Z::d5 BE q::R) (X::Z::Y::sM z.1.w z.2::d5 BE (q.eraseIdx j)::R):=
 aG.cons (aG.trans (fun _ h=>bV.swap h) (aG.cons (aG.cons (tH (f:=BE) hz))))
theorem Le {X Y Z:HP} {q:List (gU×Int)} {z:gU×Int} {j w:Nat} {n:Int} {z':gU} (hz:q[j]?=some z) (hw:z'.w=w):aG (X::Z::Y::sM w n::d5 BE (q.eraseIdx j)::R) (X::Y::Z::d5 BE (q.set j (z',n))::R):=by
 subst hw
 exact aG.cons (aG.trans (aG.cons (aG.cons (C6 (f:=BE) (b':=(z',n)) hz))) (fun _ h=>bV.swap h))
section
variable {p:Nat} {s:Ld} {t n k b:Int}
theorem tD (hok:Se s) (hK:K (.int .i64 (bC t s)) (Qy p s::R)):aA Tryz.prog 184 #[.pointer (some ⟨p,0,none⟩),.int .i64 t] (Qy p s::R) K:=by
 refine AH fun w0 A c q hq=>?_
 obtain⟨h1,h2,h3,h4,h5⟩:=hok
 have hl:=Fa hq
 have hp:=GX hq h2
 refine aA.entK ?_
 cases ha:o9 t s.l with
 |none=>
  simp only[bC,ha] at hK
  rw[← hq] at ha
  exact CA (h:=VG (l:=q.map Prod.fst) (by omega) hp (Bm ha) ⟨_,aG.trans (by exact aY) (iZ hq rfl rfl),hK⟩)
 |some e=>
  simp only[bC,ha] at hK
  rw[← hq] at ha
  obtain⟨z,hz,rfl,hid,hf⟩:=wD ha
  refine aA.ent (LK hz) (J4 (l:=q.map Prod.fst) (e:=z.1) (m:=z.2) (by omega) hp hf (by rw[List.getElem?_map,hz];rfl) ⟨_,aG.trans (Le (z':=z.1) hz rfl) (iZ (q:=q.set _ (z.1,z.2)) ?_ ?_ rfl),hK⟩)
  ·rw[List.map_set]
   have e:(q.map JR).set (zB t (q.map Prod.fst)) (JR z)=q.map JR:=jT _ (by rw[List.getElem?_map,hz];rfl)
   exact e.trans hq
  ·rw[List.map_set]
   exact(jT _ (by rw[List.getElem?_map,hz];rfl)).symm
theorem Ba (hok:Se s) (hK:K (.int .i64 (s5 t b s)) (Qy p (pB t b s)::R)):aA Tryz.prog 258 #[.pointer (some ⟨p,0,none⟩),.int .i64 t,.int .i64 b] (Qy p s::R) K:=by
 refine AH fun w0 A c q hq=>?_
 obtain⟨h1,h2,h3,h4,h5⟩:=hok
 have hl:=Fa hq
 have hp:=GX hq h2
 refine aA.entK ?_
 by_cases h0:t=0
 ·simp only[s5,pB,if_pos h0] at hK
  subst h0
  exact CA (h:=Wa (by omega) ⟨_,aG.trans (by exact aY) (iZ hq rfl rfl),hK⟩)
 ·simp only[s5,pB,if_neg h0] at hK
  cases ha:o9 t s.l with
  |none=>
   simp only[ha] at hK
   rw[← hq] at ha
   exact CA (h:=Vl (l:=q.map Prod.fst) (by omega) hp h0 (Bm ha) ⟨_,aG.trans (by exact aY) (iZ hq rfl rfl),hK⟩)
  |some e=>
   simp only[ha] at hK
   rw[← hq] at ha
   obtain⟨z,hz,rfl,hid,hf⟩:=wD ha
   have hzm:=h3 _ (LA hq hz)
   refine aA.ent (LK hz) (CA (h:=Wq (l:=q.map Prod.fst) (e:=z.1) (m:=z.2) (by omega) hp h0 hf (by rw[List.getElem?_map,hz];rfl) (by have:=hzm.1;simp only[JR] at this;omega) ⟨_,aG.trans (by exact aY) (aG.trans (Le (z':=z.1) (n:=lI z.2 b) hz rfl) (iZ (q:=q.set (zB t (q.map Prod.fst)) (z.1,lI z.2 b)) (l:=s.l.set (nB t s.l) ⟨z.1.id,lI z.2 b,z.1.sp⟩) ?_ ?_ rfl)),hK⟩))
   ·rw[List.map_set,← hq,x7];rfl
   ·rw[List.map_set]
    exact(jT _ (by rw[List.getElem?_map,hz];rfl)).symm
theorem R2 (hok:Se s) (hK:K (.int .i64 (rH t k s)) (Qy p (lO t k s)::R)) (hk:rH t k s=0):aA Tryz.prog 194 #[.pointer (some ⟨p,0,none⟩),.int .i64 t,.int .i64 k] (Qy p s::R) K:=by
 refine AH fun w0 A c q hq=>?_
 obtain⟨h1,h2,h3,h4,h5⟩:=hok
 have hl:=Fa hq
 have hp:=GX hq h2
 refine aA.entK ?_
 rw[hk] at hK
 simp only[lO,hk,ne_eq,not_true_eq_false,if_false] at hK
 unfold rH bC at hk
 cases ha:o9 t s.l with
 |none=>rw[ha] at hk;simp at hk
 |some e=>
  simp only[ha] at hK hk
  rw[← hq] at ha
  obtain⟨z,hz,rfl,hid,hf⟩:=wD ha
  have hzm:=h3 _ (LA hq hz)
  simp only[JR] at hzm hk
  have hkk:0≤k∧k≤min (max z.2 0) (max s.n0 0):=by
   by_cases h6:k<0
   ·simp[h6] at hk
   ·by_cases h7:min (max z.2 0) (max s.n0 0)<k
    ·simp[h6,h7] at hk
    ·omega
  refine aA.ent (LK hz) (CA (h:=W8 (l:=q.map Prod.fst) (e:=z.1) (m:=z.2) (by omega) hp hf (by rw[List.getElem?_map,hz];rfl) hkk.1 hkk.2 (by omega) (by omega) (by omega) (by omega) ⟨_,aG.trans (by exact aY) (aG.trans (Le (z':=⟨z.1.id,z.1.w,z.1.sp+k⟩) (n:=z.2 - k) hz rfl) (iZ (q:=q.set (zB t (q.map Prod.fst)) (⟨z.1.id,z.1.w,z.1.sp+k⟩,z.2 - k)) (l:=s.l.set (nB t s.l) ⟨z.1.id,z.2 - k,z.1.sp+k⟩) ?_ ?_ ?_)),hK⟩))
  ·rw[List.map_set,← hq,x7];rfl
  ·rw[List.map_set]
  ·simp
theorem ZI (h:0≤n∧n≤2147483647) (hK:∀p,K (.tuple #[.pointer (some ⟨p,0,none⟩),.int .i64 0]) (Qy p ⟨n,0,[]⟩::R)):aA Tryz.prog 57 #[.int .i64 n] R K:=by
 refine aH Tryz.func57 ?_
 repeat' (first|refine v21 ?_|refine wr ?_|refine w5 ?_ ?_|((refine bh fun h=>?_) <;> try exact w6 h)|(refine aE fun hA=>?_;subst hA)|intro _|(show aA _ 141 _ _ _;refine CA (h:=Aa (by unfold lQ;simp;omega) (fun w0=>?_))))
 rename_i r
 all_goals(refine aC ?_;exact aK (aG.trans (by exact aY) ((aG.trans (aG.trans (aG.nilrow 329 vX _) (aG.trans (J5 (f:=BE)) (by exact aY))) (iZ (q:= []) (A:=none) (c:=0) (w0:=w0) (p:=r) (sp:=0) (n0:=n) (R:=R) rfl rfl rfl)))) ((hK r)))
end
end
section
variable {R C:List HP} {K:Value→List HP→Prop}
theorem Aiy {X Y Z:HP} {q:List (gU×Int)} {i w:Nat} {n:Int} {z:gU} (hw:z.w=w):aG (sM w n::X::Y::Z::d5 BE q::R) (X::Y::Z::d5 BE (q.take i++(z,n)::q.drop i)::R):=by
 subst hw
 have h1:aG (sM z.w n::d5 BE q::R) (d5 BE (q.take i++(z,n)::q.drop i)::R):=KQ (f:=BE) (b:=(z,n))
 exact aG.trans (fun _ h=>h.perm (List.perm_middle (l₁:= [X,Y,Z]) (a:=sM z.w n) (l₂:=d5 BE q::R)).symm) (aG.cons (aG.cons (aG.cons h1)))
theorem Ahx {X Y Z:HP} {q:List (gU×Int)} {i:Nat} {z:gU×Int} (hz:q[i]?=some z):aG (X::Y::Z::d5 BE q::R) (X::Y::Z::d5 BE (q.eraseIdx i)::R):=
 aG.cons (aG.cons (aG.cons (aG.trans (tH (f:=BE) hz) (aG.drop (aG.refl _)))))
section
variable {p:Nat} {s:Ld} {t n k a b:Int}
theorem Wo (hok:Se s) (hK:∀v,K v (Qy p (kQ t n s)::R)):aA Tryz.prog 217 #[.pointer (some ⟨p,0,none⟩),.int .i64 t,.int .i64 n] (Qy p s::R) K:=by
 refine AH fun w0 A c q hq=>?_
 obtain⟨h1,h2,h3,h4,h5⟩:=hok
 have hl:=Fa hq
 have hp:=GX hq h2
 by_cases g1:t<1∨2147483647<t
 ·have e:kQ t n s=s:=by unfold kQ;rw[if_pos (by omega)]
  rw[e] at hK
  refine aH Tryz.func217 ?_
  repeat' (first|refine v90 ?_|refine wr ?_|refine w5 ?_ ?_|((refine bh fun h=>?_) <;> try exact w6 h)|(refine aE fun hA=>?_;subst hA)|intro _)
  all_goals(refine aC ?_;exact aK (aG.trans (by exact aY) ((iZ hq rfl rfl))) ((hK _)))
 ·cases g2:lQ n
  ·have e:kQ t n s=s:=by unfold kQ;rw[if_pos (.inr (.inr (.inl g2)))]
   rw[e] at hK
   refine aH Tryz.func217 ?_
   repeat' (first|refine v90 ?_|refine wr ?_|refine w5 ?_ ?_|((refine bh fun h=>?_) <;> try exact w6 h)|(refine aE fun hA=>?_;subst hA)|intro _|(show aA _ 141 _ _ _;refine CA (h:=Xi g2 ?_)))
   all_goals(refine aC ?_;exact aK (aG.trans (by exact aY) ((iZ hq rfl rfl))) ((hK _)))
  ·cases g3:o9 t s.l with
   |some z=>
    have e:kQ t n s=s:=by unfold kQ;rw[if_pos (.inr (.inr (.inr (.inl (by rw[g3];rfl)))))]
    rw[e] at hK
    have g3':=g3
    rw[← hq] at g3'
    obtain⟨_,_,_,_,hf⟩:=wD g3'
    refine aH Tryz.func217 ?_
    repeat' (first|refine v90 ?_|refine wr ?_|refine w5 ?_ ?_|((refine bh fun h=>?_) <;> try exact w6 h)|(refine aE fun hA=>?_;subst hA)|intro _|(show aA _ 141 _ _ _;refine CA (h:=Aa g2 (fun w1=>?_)))|(show aA _ 307 _ _ _;refine CA (h:=tL (l:=q.map Prod.fst) (by omega) hp ?_);rw[hf]))
    all_goals(refine aC ?_;exact aK (aG.trans (by exact aY) ((iZ hq rfl rfl))) ((hK _)))
   |none=>
    have g3':=g3
    rw[← hq] at g3'
    have hf:=Bm g3'
    by_cases g4:64≤s.l.length
    ·have e:kQ t n s=s:=by unfold kQ;rw[if_pos (.inr (.inr (.inr (.inr g4))))]
     rw[e] at hK
     refine aH Tryz.func217 ?_
     repeat' (first|refine v90 ?_|refine wr ?_|refine w5 ?_ ?_|((refine bh fun h=>?_) <;> try exact w6 h)|(refine aE fun hA=>?_;subst hA)|intro _|(show aA _ 141 _ _ _;refine CA (h:=Aa g2 (fun w1=>?_)))|(show aA _ 307 _ _ _;refine CA (h:=tL (l:=q.map Prod.fst) (by omega) hp ?_);rw[hf]))
     all_goals(refine aC ?_;exact aK (aG.trans (by exact aY) ((iZ hq rfl rfl))) ((hK _)))
    ·have e:kQ t n s= { s with l:=s.l.take (nB t s.l)++⟨t,n,0⟩::s.l.drop (nB t s.l) }:=by
      unfold kQ
      rw[if_neg]
      rintro(h|h|h|h|h)
      ·omega
      ·omega
      ·rw[g2] at h;cases h
      ·rw[g3] at h;cases h
      ·exact g4 h
     rw[e] at hK
     have hix:zB t (q.map Prod.fst)=nB t s.l:=by rw[← hq,x7]
     have hle:=SL t (q.map Prod.fst)
     refine aH Tryz.func217 ?_
     repeat' (first|refine v90 ?_|refine wr ?_|refine w5 ?_ ?_|((refine bh fun h=>?_) <;> try exact w6 h)|(refine aE fun hA=>?_;subst hA)|intro _|(show aA _ 141 _ _ _;refine CA (h:=Aa g2 (fun w1=>?_)))|(show aA _ 307 _ _ _;refine CA (h:=tL (l:=q.map Prod.fst) (by omega) hp ?_);rw[hf])|(show aA _ 308 _ _ _;refine CA (h:=Ac1 (xs:=q.map Prod.fst) (y:=⟨t,w1,0⟩) rfl hle (by omega) (fun A' c'=>?_))))
     all_goals(refine aC ?_;exact aK (aG.trans (by exact aY) ((aG.trans (Aiy (i:=nB t s.l) (z:=⟨t,w1,0⟩) rfl) (iZ (q:=q.take (nB t s.l)++(⟨t,w1,0⟩,n)::q.drop (nB t s.l)) (l:=s.l.take (nB t s.l)++⟨t,n,0⟩::s.l.drop (nB t s.l)) (by rw[← hq];simp[JR]) (by rw[hix];simp) (by simp only[List.length_append,List.length_cons,List.length_take,List.length_drop];omega))))) ((hK _)))
theorem SB (hok:Se s) (hK:∀v,K v (Qy p (mV t s)::R)):aA Tryz.prog 316 #[.pointer (some ⟨p,0,none⟩),.int .i64 t] (Qy p s::R) K:=by
 refine AH fun w0 A c q hq=>?_
 obtain⟨h1,h2,h3,h4,h5⟩:=hok
 have hl:=Fa hq
 have hp:=GX hq h2
 cases g3:o9 t s.l with
 |none=>
  have e:mV t s=s:=by unfold mV;rw[g3];rfl
  rw[e] at hK
  rw[← hq] at g3
  have hf:=Bm g3
  refine aH Tryz.func316 ?_
  repeat' (first|refine v68 ?_|refine wr ?_|refine w5 ?_ ?_|((refine bh fun h=>?_) <;> try exact w6 h)|(refine aE fun hA=>?_;subst hA)|intro _|(show aA _ 307 _ _ _;refine CA (h:=tL (l:=q.map Prod.fst) (by omega) hp ?_);rw[hf]))
  all_goals(refine aC ?_;exact aK (aG.trans (by exact aY) ((iZ hq rfl rfl))) ((hK _)))
 |some z=>
  have e:mV t s= { s with l:=s.l.eraseIdx (nB t s.l) }:=by unfold mV;rw[g3];rfl
  rw[e] at hK
  rw[← hq] at g3
  obtain⟨z,hz,rfl,hid,hf⟩:=wD g3
  have hlt:zB t (q.map Prod.fst)<(q.map Prod.fst).length:=by rw[List.length_map];exact(List.getElem?_eq_some_iff.1 hz).1
  have hix:zB t (q.map Prod.fst)=nB t s.l:=by rw[← hq,x7]
  refine aH Tryz.func316 ?_
  repeat' (first|refine v68 ?_|refine wr ?_|refine w5 ?_ ?_|((refine bh fun h=>?_) <;> try exact w6 h)|(refine aE fun hA=>?_;subst hA)|intro _|(show aA _ 307 _ _ _;refine CA (h:=tL (l:=q.map Prod.fst) (by omega) hp ?_);rw[hf])|(show aA _ 372 _ _ _;refine CA (h:=Ad4 (xs:=q.map Prod.fst) rfl hlt (by omega) (fun A' c'=>?_))))
  all_goals(refine aC ?_;exact aK (aG.trans (by exact aY) ((aG.trans (Ahx hz) (iZ (q:=q.eraseIdx (zB t (q.map Prod.fst))) (l:=s.l.eraseIdx (nB t s.l)) (by rw[← mG,hq,hix]) (mG ..) (by rw[List.length_eraseIdx,if_pos hlt]))))) ((hK _)))
theorem Oy {l:List gI} {j:Nat} {e:gI} (h:l[j]?=some e):yK a b (l.drop j)=if lC e.n a b≠0 then lC e.n a b else yK a b (l.drop (j+1)):=by
 have hj:=(List.getElem?_eq_some_iff.1 h).1
 rw[List.drop_eq_getElem_cons hj,(List.getElem?_eq_some_iff.1 h).2]
 rfl
theorem Afz {l:List gI} {j:Nat} {e:gI} {n:Int} (h:l[j]?=some e) (hn:e.n=n) (h0:lC n a b=0):yK a b (l.drop (j+1))=yK a b (l.drop j):=by
 subst hn
 rw[Oy h,if_neg (by simpa using h0)]
theorem Afa {l:List gI} {j:Nat} {e:gI} {n:Int} (h:l[j]?=some e) (hn:e.n=n) (h0:lC n a b≠0):lC n a b=yK a b (l.drop j):=by
 subst hn
 rw[Oy h,if_pos h0]
def yO (a b:Int) (e:gU×Int):gU×Int:=(e.1,z1 e.2 a b)
def Dy:List (Nat×Nat):= [(0,0),(1,0),(2,1),(3,1),(4,1),(5,1),(6,0)]
theorem ZJ {r4 r5 w:Nat} {m i sp:Int} (hm:-4294967296≤m∧m≤4294967296) (hK:∀w',K (.int .i64 (lC m a b)) (sM w' (z1 m a b)::pt r4 [.int .i64 a] 3::pt r5 [.int .i64 b] 3::sM w m::R)):aA Tryz.prog 332 #[.agg #[.int .i64 i,.pointer (some ⟨w,0,none⟩),.int .i64 sp],.pointer (some ⟨r4,0,none⟩),.pointer (some ⟨r5,0,none⟩)] (pt r4 [.int .i64 a] 3::pt r5 [.int .i64 b] 3::sM w m::R) K:=by
 refine aH Tryz.func332 ?_
 repeat' (first|refine v19 ?_|refine dw Dy ?_|refine wr ?_|refine w5 ?_ ?_|((refine bh fun h=>?_) <;> try exact w6 h)|(refine aE fun hA=>?_;subst hA)|intro _|(show aA _ 333 _ _ _;refine CA (h:=WL (fun q=>?_)))|(show aA _ 331 _ _ _;refine CA (h:=HN (p:=q) hm ?_)))
 all_goals(refine aC ?_;exact aB (hK _))
theorem Ahp (h:lQ a=true∧lQ b=true):lC 0 a b=0:=by
 have h2:=h
 unfold lQ at h2
 simp only[Bool.and_eq_true,decide_eq_true_eq] at h2
 unfold lC Ce Cg
 rw[if_pos h,if_pos]
 simp only[Bool.and_eq_true,decide_eq_true_eq]
 omega
theorem P3 (hok:Se s) (hab:lQ a=true∧lQ b=true) (hK:K (.int .i64 (Ey a b s)) (Qy p (sG a b s)::R)):aA Tryz.prog 248 #[.pointer (some ⟨p,0,none⟩),.int .i64 a,.int .i64 b] (Qy p s::R) K:=by
 have hv:=Ahp hab
 have hE:Ey a b s=yK a b s.l:=by unfold Ey;rw[hv];rfl
 refine AH fun w0 A c q hq=>?_
 obtain⟨h1,h2,h3,h4,h5⟩:=hok
 have hl:=Fa hq
 have hql:(q.map Prod.fst).length=q.length:=List.length_map ..
 refine aH Tryz.func248 ?_
 repeat' (first|refine I4 ?_|refine wr ?_|refine w5 ?_ ?_|((refine bh fun h=>?_) <;> try exact w6 h)|(refine aE fun hA=>?_;subst hA)|intro _|(show aA _ 141 _ _ _;refine CA (h:=Aa (n:=0) (by decide) (fun w1=>?_)))|(show aA _ 331 _ _ _;refine CA (h:=HN (p:=w1) (n:=0) (by omega) ?_);rw[hv]))
 rename_i r4 r5
 refine iL (fun kk f C'=>∃(j:Nat) (er:Int),j+kk=q.length∧((er=0∧yK a b (s.l.drop j)=yK a b s.l)∨(er≠0∧er=yK a b s.l))∧dC f [(0,.pointer (some ⟨p,0,none⟩)),(4,.pointer (some ⟨r4,0,none⟩)),(5,.pointer (some ⟨r5,0,none⟩)),(9,.int .i64 er),(10,.func (.func 332) #[] #[.pointer (some ⟨r4,0,none⟩),.pointer (some ⟨r5,0,none⟩)]),(31,.slice A (q.map Prod.fst).length c),(32,.int .i64 (q.map Prod.fst).length),(33,.int .i64 j)]∧C'=pt r4 [.int .i64 a] 3::pt r5 [.int .i64 b] 3::pt p [.pointer (some ⟨w0,0,none⟩),.int .i64 s.sp,.slice A (q.map Prod.fst).length c] 235::sM w0 s.n0::bU A c 329 vX (q.map Prod.fst)::d5 BE q::R) q.length (cC q.length ⟨0,0,by omega,.inl ⟨rfl,rfl⟩,⟨rfl,rfl,rfl,rfl,rfl,rfl,rfl,rfl,trivial⟩,rfl⟩ (by omega)) ?_
 rintro kk f C' ⟨j,er,hj,her,ha,rfl⟩
 refine gV _ ha ?_
 simp only[fN]
 by_cases hlt:j<q.length
 ·obtain⟨z,hz⟩:∃z,q[j]?=some z:=⟨_,List.getElem?_eq_getElem hlt⟩
  have hz1:(q.map Prod.fst)[j]?=some z.1:=by rw[List.getElem?_map,hz];rfl
  have hz':(q.map Prod.fst)[((j:Nat):Int).toNat]?=some z.1:=by rw[Int.toNat_natCast];exact hz1
  have hlj:s.l[j]?=some (JR z):=by rw[← hq,List.getElem?_map,hz];rfl
  rcases her with⟨rfl,he⟩|⟨hne,he⟩
  ·have hzm:=h3 _ (LA hq hz)
   simp only[JR] at hzm
   have hout:aG (d5 BE q::R) (sM z.1.w z.2::d5 BE (q.eraseIdx j)::R):=tH (f:=BE) hz
   have hin:aG (sM z.1.w z.2::d5 BE (q.eraseIdx j)::R) (d5 BE q::R):=by
    have h:=C6 (f:=BE) (b':=z) (R:=R) hz
    rw[jT j hz] at h
    exact h
   refine lW (aG.cons (aG.cons (aG.cons (aG.cons (aG.cons hout))))) ?_
   repeat' (first|refine I4 ?_|refine wr ?_|refine w5 ?_ ?_|((refine bh fun h=>?_) <;> try exact w6 h)|(refine aE fun hA=>?_;subst hA)|intro _|(show aA _ 332 _ _ _;refine CA (h:=ZJ (w:=z.1.w) (m:=z.2) (by omega) (fun w'=>?_))))
   all_goals(show aV _ _ _ _;refine cC (kk - 1) ⟨j+1,lC z.2 a b,by omega,?_,⟨rfl,rfl,rfl,rfl,rfl,rfl,rfl,rfl,trivial⟩,rfl⟩ (by omega) (aG.trans (by exact aY) (aG.cons (aG.cons (aG.cons (aG.cons (aG.cons hin)))))))
   by_cases hz0:lC z.2 a b=0
   ·exact .inl ⟨hz0,(Afz hlj rfl hz0).trans he⟩
   ·exact .inr ⟨hz0,(Afa hlj rfl hz0).trans he⟩
  ·have hR:sG a b s=s:=by unfold sG;rw[if_pos (by rw[hE,← he];exact hne)]
   rw[hR,hE,← he] at hK
   repeat' (first|refine I4 ?_|refine wr ?_|refine w5 ?_ ?_|((refine bh fun h=>?_) <;> try exact w6 h)|(refine aE fun hA=>?_;subst hA)|intro _)
   all_goals(refine aC ?_;exact aK (aG.trans (by exact aY) ((iZ hq rfl rfl))) (hK))
 ·have hjl:j=q.length:=by omega
  subst hjl
  rcases her with⟨rfl,he⟩|⟨hne,he⟩
  ·have hd:s.l.drop q.length= []:=List.drop_eq_nil_of_le (by omega)
   rw[hd] at he
   have he:yK a b s.l=0:=he.symm
   have hR:sG a b s= { s with l:=s.l.map fun e=>⟨e.id,z1 e.n a b,e.sp⟩ }:=by unfold sG;rw[if_neg (by rw[hE,he];decide)]
   rw[hR,hE,he] at hK
   repeat' (first|refine I4 ?_|refine wr ?_|refine w5 ?_ ?_|((refine bh fun h=>?_) <;> try exact w6 h)|(refine aE fun hA=>?_;subst hA)|intro _)
   refine iL (fun kk f C'=>∃j:Nat,j+kk=q.length∧dC f [(4,.pointer (some ⟨r4,0,none⟩)),(5,.pointer (some ⟨r5,0,none⟩)),(49,.slice A (q.map Prod.fst).length c),(50,.int .i64 (q.map Prod.fst).length),(51,.int .i64 j)]∧C'=pt r4 [.int .i64 a] 3::pt r5 [.int .i64 b] 3::pt p [.pointer (some ⟨w0,0,none⟩),.int .i64 s.sp,.slice A (q.map Prod.fst).length c] 235::sM w0 s.n0::bU A c 329 vX (q.map Prod.fst)::d5 BE ((q.take j).map (yO a b)++q.drop j)::R) q.length (cC q.length ⟨0,by omega,⟨rfl,rfl,rfl,rfl,rfl,trivial⟩,rfl⟩ (by omega)) ?_
   rintro kk f C' ⟨j,hj,ha,rfl⟩
   refine gV _ ha ?_
   simp only[fN]
   by_cases hlt:j<q.length
   ·obtain⟨z,hz⟩:∃z,q[j]?=some z:=⟨_,List.getElem?_eq_getElem hlt⟩
    have hz1:(q.map Prod.fst)[j]?=some z.1:=by rw[List.getElem?_map,hz];rfl
    have hz':(q.map Prod.fst)[((j:Nat):Int).toNat]?=some z.1:=by rw[Int.toNat_natCast];exact hz1
    have hzm:=h3 _ (LA hq hz)
    simp only[JR] at hzm
    have htl:((q.take j).map (yO a b)).length=j:=by rw[List.length_map,List.length_take];omega
    have hzq:((q.take j).map (yO a b)++q.drop j)[j]?=some z:=by rw[List.getElem?_append_right (by omega),htl,Nat.sub_self,List.getElem?_drop,Nat.add_zero];exact hz
    have hset:((q.take j).map (yO a b)++q.drop j).set j (yO a b z)=(q.take (j+1)).map (yO a b)++q.drop (j+1):=by
     rw[List.set_append_right _ _ (by omega),htl,Nat.sub_self,List.drop_eq_getElem_cons hlt,List.set_cons_zero,List.take_add_one,hz]
     simp
    have hout:aG (d5 BE ((q.take j).map (yO a b)++q.drop j)::R) (sM z.1.w z.2::d5 BE (((q.take j).map (yO a b)++q.drop j).eraseIdx j)::R):=tH (f:=BE) hzq
    have hin:aG (sM z.1.w (z1 z.2 a b)::d5 BE (((q.take j).map (yO a b)++q.drop j).eraseIdx j)::R) (d5 BE ((q.take (j+1)).map (yO a b)++q.drop (j+1))::R):=by
     have h:=C6 (f:=BE) (b':=yO a b z) (R:=R) hzq
     rw[hset] at h
     exact h
    refine lW (aG.cons (aG.cons (aG.cons (aG.cons (aG.cons hout))))) ?_
    repeat' (first|refine I4 ?_|refine wr ?_|refine w5 ?_ ?_|((refine bh fun h=>?_) <;> try exact w6 h)|(refine aE fun hA=>?_;subst hA)|intro _|(show aA _ 331 _ _ _;refine CA (h:=HN (p:=z.1.w) (n:=z.2) (by omega) ?_)))
    all_goals(show aV _ _ _ _;refine cC (kk - 1) ⟨j+1,by omega,⟨rfl,rfl,rfl,rfl,rfl,trivial⟩,rfl⟩ (by omega) (aG.trans (by exact aY) (aG.cons (aG.cons (aG.cons (aG.cons (aG.cons hin)))))))
   ·have hjl:j=q.length:=by omega
    subst hjl
    rw[List.take_length,List.drop_length,List.append_nil]
    repeat' (first|refine I4 ?_|refine wr ?_|refine w5 ?_ ?_|((refine bh fun h=>?_) <;> try exact w6 h)|(refine aE fun hA=>?_;subst hA)|intro _)
    all_goals(refine aC ?_;exact aK (aG.trans (by exact aY) ((iZ (q:=q.map (yO a b)) (l:=s.l.map fun e=>⟨e.id,z1 e.n a b,e.sp⟩) (by rw[← hq,List.map_map,List.map_map];rfl) (by rw[List.map_map];rfl) rfl))) (hK))
  ·have hR:sG a b s=s:=by unfold sG;rw[if_pos (by rw[hE,← he];exact hne)]
   rw[hR,hE,← he] at hK
   repeat' (first|refine I4 ?_|refine wr ?_|refine w5 ?_ ?_|((refine bh fun h=>?_) <;> try exact w6 h)|(refine aE fun hA=>?_;subst hA)|intro _)
   all_goals(refine aC ?_;exact aK (aG.trans (by exact aY) ((iZ hq rfl rfl))) (hK))
end
end
end Go.Proofs.YtifgibijcmppmaaGreat
