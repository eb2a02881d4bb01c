/- A part of the proof: lemmas; each with the conditions that it states. -/
import Derived.Test.YtepnmcipkangkaaGreatPat
set_option linter.unusedVariables false
set_option linter.unusedSimpArgs false
set_option maxRecDepth 100000
set_option maxHeartbeats 40000000
namespace Go.Proofs.YtepnmcipkangkaaGreat
open Go Go.Proofs Go.Sl
attribute [local irreducible] aN fJ cY bN aM aS aA dM dN aV dL pt ro fB star sep bF
attribute [local irreducible] mp CV
variable {R C:List HP} {K:KP} {p w0 c j:Nat} {t m k b:Int} {A:Option Addr} {e:iO} {q:List (iO×Int)} {z:iO×Int} {X Y Z:HP}
section
variable {n:Nat} {sp n0:Int} {l:List iO}
theorem wC (hs:l.length<=100000) (hp:l.Pairwise fun a b=>a.id<b.id) (hK:K (.tuple #[I6 (Bn t l),.bool (Nh t l)]) (pt p [PO w0,I6 sp,.slice A l.length c] 131::bV A c 136 yI l::R)):CT 159 #[PO p,I6 t] (pt p [PO w0,I6 sp,.slice A l.length c] 131::bV A c 136 yI l::R) K:=by
 refine aH Tryz.func159 ?_
 repeat' (first|refine v10 ?_|refine w5 ?_ ?_|((refine bh fun h=>?_) <;> try exact w6 h)|(refine aE fun hA=>?_;subst hA)|intro _|(show aA _ 251 _ _ _;refine CA (h:=OT (l:=l) (by exact lF) rfl hs hp ?_)))
 all_goals(refine aC ?_;exact aB (hK))
theorem LU (hs:l.length<=100000) (hp:l.Pairwise fun a b=>a.id<b.id) (hf:Nh t l=false) (hK:K (.tuple #[.pointer none,I6 7]) (pt p [PO w0,I6 sp,.slice A l.length c] 131::bV A c 136 yI l::R)):CT 65 #[PO p,I6 t] (pt p [PO w0,I6 sp,.slice A l.length c] 131::bV A c 136 yI l::R) K:=by
 refine aH Tryz.func65 ?_
 repeat' (first|refine v41 ?_|refine w5 ?_ ?_|((refine bh fun h=>?_) <;> try exact w6 h)|(refine aE fun hA=>?_;subst hA)|intro _|(show aA _ 159 _ _ _;refine CA (h:=wC hs hp ?_);rw[hf]))
 all_goals(refine aC ?_;exact aB (hK))
theorem Anv (h:Nh t l=true):∃e,l[Bn t l]?=some e/\e.id=t/\Bn t l<l.length:=by
 unfold Nh at h
 cases he:l[Bn t l]? with
 |none=>rw[he] at h;cases h
 |some e=>
  rw[he] at h
  exact⟨e,rfl,by simpa using h,(List.getElem?_eq_some_iff.1 he).1⟩
theorem Gy (hs:l.length<=100000) (hp:l.Pairwise fun a b=>a.id<b.id) (hf:Nh t l=true) (hK:∀B off,A=some ⟨B,off,none⟩->K (.tuple #[.pointer (some ⟨B,off+Bn t l * 3,none⟩),I6 0]) (pt p [PO w0,I6 sp,.slice A l.length c] 131::bV A c 136 yI l::R)):CT 65 #[PO p,I6 t] (pt p [PO w0,I6 sp,.slice A l.length c] 131::bV A c 136 yI l::R) K:=by
 obtain⟨e,he,_,hlt⟩:=Anv hf
 refine qN (aU.there aU.here) (by omega) fun B off hA=>?_
 subst hA
 refine aH Tryz.func65 ?_
 repeat' (first|refine v41 ?_|refine w5 ?_ ?_|((refine bh fun h=>?_) <;> try exact w6 h)|(refine aE fun hA=>?_;subst hA)|intro _|(show aA _ 159 _ _ _;refine CA (h:=wC hs hp ?_);rw[hf]))
 all_goals(refine aC ?_;exact aB (hK _ _ rfl))
def o9:List (Nat×Nat):= [(0,0),(1,0),(2,0),(3,0),(4,1),(5,1),(6,1),(7,1),(8,1),(9,1),(10,0),(11,0)]
theorem XT (hs:l.length<=100000) (hp:l.Pairwise fun a b=>a.id<b.id) (hf:Nh t l=false) (hK:K (I6 0) (pt p [PO w0,I6 sp,.slice A l.length c] 131::bV A c 136 yI l::R)):CT 182 #[PO p,I6 t] (pt p [PO w0,I6 sp,.slice A l.length c] 131::bV A c 136 yI l::R) K:=by
 refine aH Tryz.func182 ?_
 repeat' (first|refine v35 ?_|refine dw o9 ?_|refine w5 ?_ ?_|((refine bh fun h=>?_) <;> try exact w6 h)|(refine aE fun hA=>?_;subst hA)|intro _|(show aA _ 65 _ _ _;refine CA (h:=LU hs hp hf ?_)))
 all_goals(refine aC ?_;exact aB (hK))
theorem LK (hs:l.length<=100000) (hp:l.Pairwise fun a b=>a.id<b.id) (hf:Nh t l=true) (he:l[Bn t l]?=some e) (hK:K (I6 (min (max m 0) (max n0 0))) (pt p [PO w0,I6 sp,.slice A l.length c] 131::bV A c 136 yI l::uC w0 n0::uC e.w m::R)):CT 182 #[PO p,I6 t] (pt p [PO w0,I6 sp,.slice A l.length c] 131::bV A c 136 yI l::uC w0 n0::uC e.w m::R) K:=by
 refine qN (aU.there aU.here) (by have:=(List.getElem?_eq_some_iff.1 he).1;omega) fun B off hA=>?_
 subst hA
 refine aH Tryz.func182 ?_
 repeat' (first|refine v35 ?_|refine dw o9 ?_|refine w5 ?_ ?_|((refine bh fun h=>?_) <;> try exact w6 h)|(refine aE fun hA=>?_;subst hA)|intro _|(show aA _ 65 _ _ _;refine CA (h:=Gy hs hp hf (fun B' off' hA'=>?_))))
 cases hA'
 repeat' (first|refine v35 ?_|refine dw o9 ?_|refine w5 ?_ ?_|((refine bh fun h=>?_) <;> try exact w6 h)|(refine aE fun hA=>?_;subst hA)|intro _|(show aA _ 268 _ _ _;first|refine CA (h:=yU (p:=e.w) ?_)|refine CA (h:=yU ?_)))
 all_goals(refine aC ?_;exact aB (hK))
end
section
variable {n:Nat} {sp n0:Int} {l:List iO}
theorem X6 (hs:l.length<=100000) (hp:l.Pairwise fun a b=>a.id<b.id) (hf:Nh t l=true) (he:l[Bn t l]?=some e) (hk:0<=k) (hkf:k<=min (max m 0) (max n0 0)) (hm:-4294967296<=m/\m<=4294967296) (hn:-4294967296<=n0/\n0<=4294967296) (hsp:0<=sp/\sp<=1000000000000) (hes:0<=e.sp/\e.sp<=1000000000000)
  (hK:K (I6 0) (pt p [PO w0,I6 (sp+k),.slice A l.length c] 131::bV A c 136 yI (l.set (Bn t l) ⟨e.id,e.w,e.sp+k⟩)::uC w0 (n0 - k)::uC e.w (m - k)::R)):CT 191 #[PO p,I6 t,I6 k] (pt p [PO w0,I6 sp,.slice A l.length c] 131::bV A c 136 yI l::uC w0 n0::uC e.w m::R) K:=by
 have e1:qA m k=0:=by unfold qA;rw[if_neg (by omega),if_neg (by omega)]
 have e2:qA n0 k=0:=by unfold qA;rw[if_neg (by omega),if_neg (by omega)]
 have f1:wW m k=m - k:=by unfold wW;rw[if_pos e1]
 have f2:wW n0 k=n0 - k:=by unfold wW;rw[if_pos e2]
 refine qN (aU.there aU.here) (by have:=(List.getElem?_eq_some_iff.1 he).1;omega) fun B off hA=>?_
 subst hA
 refine aH Tryz.func191 ?_
 repeat' (first|refine v49 ?_|refine w5 ?_ ?_|((refine bh fun h=>?_) <;> try exact w6 h)|(refine aE fun hA=>?_;subst hA)|intro _|(show aA _ 65 _ _ _;refine CA (h:=Gy hs hp hf (fun B' off' hA'=>?_))))
 cases hA'
 repeat' (first|refine v49 ?_|refine w5 ?_ ?_|((refine bh fun h=>?_) <;> try exact w6 h)|(refine aE fun hA=>?_;subst hA)|intro _|(show aA _ 182 _ _ _;refine CA (h:=LK hs hp hf he ?_))|(show aA _ 285 _ _ _;first|(refine CA (h:=IM (p:=e.w) (n:=m) hm (by omega) ?_);rw[f1])|(refine CA (h:=IM (p:=w0) (n:=n0) hn (by omega) ?_);rw[f2]))|(show aN _ _ _ _ _ _ _;first|refine JM ?_|refine uY ?_))
 all_goals(refine aC ?_;exact aB (hK))
theorem Xz (hn:-4294967296<=n0/\n0<=4294967296) (hK:K (I6 (m9 n0 b)) (pt p [PO w0,I6 sp,.slice A n c] 131::uC w0 (j8 n0 b)::R)):CT 303 #[PO p,I6 0,I6 b] (pt p [PO w0,I6 sp,.slice A n c] 131::uC w0 n0::R) K:=by
 refine aH Tryz.func303 ?_
 repeat' (first|refine v58 ?_|refine w5 ?_ ?_|((refine bh fun h=>?_) <;> try exact w6 h)|(refine aE fun hA=>?_;subst hA)|intro _|(show aA _ 388 _ _ _;refine CA (h:=LV hn ?_)))
 all_goals(refine aC ?_;exact aB (hK))
theorem Xl (hs:l.length<=100000) (hp:l.Pairwise fun a b=>a.id<b.id) (ht:t≠0) (hf:Nh t l=false) (hK:K (I6 7) (pt p [PO w0,I6 sp,.slice A l.length c] 131::bV A c 136 yI l::R)):CT 303 #[PO p,I6 t,I6 b] (pt p [PO w0,I6 sp,.slice A l.length c] 131::bV A c 136 yI l::R) K:=by
 refine aH Tryz.func303 ?_
 repeat' (first|refine v58 ?_|refine w5 ?_ ?_|((refine bh fun h=>?_) <;> try exact w6 h)|(refine aE fun hA=>?_;subst hA)|intro _|(show aA _ 65 _ _ _;refine CA (h:=LU hs hp hf ?_)))
 all_goals(refine aC ?_;exact aB (hK))
theorem XE (hs:l.length<=100000) (hp:l.Pairwise fun a b=>a.id<b.id) (ht:t≠0) (hf:Nh t l=true) (he:l[Bn t l]?=some e) (hm:-4294967296<=m/\m<=4294967296) (hK:K (I6 (m9 m b)) (pt p [PO w0,I6 sp,.slice A l.length c] 131::bV A c 136 yI l::uC e.w (j8 m b)::R)):CT 303 #[PO p,I6 t,I6 b] (pt p [PO w0,I6 sp,.slice A l.length c] 131::bV A c 136 yI l::uC e.w m::R) K:=by
 refine qN (aU.there aU.here) (by have:=(List.getElem?_eq_some_iff.1 he).1;omega) fun B off hA=>?_
 subst hA
 refine aH Tryz.func303 ?_
 repeat' (first|refine v58 ?_|refine w5 ?_ ?_|((refine bh fun h=>?_) <;> try exact w6 h)|(refine aE fun hA=>?_;subst hA)|intro _|(show aA _ 65 _ _ _;refine CA (h:=Gy hs hp hf (fun B' off' hA'=>?_))))
 cases hA'
 repeat' (first|refine v58 ?_|refine w5 ?_ ?_|((refine bh fun h=>?_) <;> try exact w6 h)|(refine aE fun hA=>?_;subst hA)|intro _|(show aA _ 388 _ _ _;refine CA (h:=LV hm ?_)))
 all_goals(refine aC ?_;exact aB (hK))
end
structure gQ where
 id:Int
 n:Int
 sp:Int
structure Ld where
 n0:Int
 sp:Int
 l:List gQ
def L1 (e:iO×Int):gQ:=⟨e.1.id,e.2,e.1.sp⟩
def CZ (e:iO×Int):HP:=uC e.1.w e.2
def SI (p:Nat) (s:Ld):HP:=fB fun w0=>fB fun A=>fB fun c=>fB fun q:List (iO×Int)=>sep (pt p [PO w0,I6 s.sp,.slice A (q.map Prod.fst).length c] 131) (sep (uC w0 s.n0) (sep (bV A c 136 yI (q.map Prod.fst)) (sep (eG CZ q) (bF (q.map L1=s.l)))))
def Ud (s:Ld):Prop:=s.l.length<=64/\(s.l.Pairwise fun a b=>a.id<b.id)/\(∀e∈s.l,(-2147483648<=e.n/\e.n<=2147483648)/\0<=e.sp/\e.sp<=1000000000000)/\(-2147483648<=s.n0/\s.n0<=2147483648)/\0<=s.sp/\s.sp<=1000000000000
def nI (t:Int) (l:List gQ):Nat:=(l.takeWhile fun e=>decide (e.id<t)).length
def pL (t:Int) (l:List gQ):Option gQ:=match l[nI t l]? with
 |some e=>if e.id=t then some e else none
 |none=>none
def bB (t:Int) (s:Ld):Int:=match pL t s.l with
 |some e=>min (max e.n 0) (max s.n0 0)
 |none=>0
def gG (t n:Int) (s:Ld):Ld:=if t<1\/2147483647<t\/lZ n=false\/(pL t s.l).isSome=true\/64<=s.l.length then s else { s with l:=s.l.take (nI t s.l)++⟨t,n,0⟩::s.l.drop (nI t s.l) }
def kJ (t:Int) (s:Ld):Ld:=if(pL t s.l).isSome=true then { s with l:=s.l.eraseIdx (nI t s.l) } else s
def nS (t k:Int) (s:Ld):Int:=if(pL t s.l).isSome=false then 7 else if k<0 then 2 else if bB t s<k then 9 else 0
def jI (t k:Int) (s:Ld):Ld:=if nS t k s≠0 then s else match pL t s.l with
 |some e=> { n0:=s.n0 - k,sp:=s.sp+k,l:=s.l.set (nI t s.l) ⟨e.id,e.n - k,e.sp+k⟩ }
 |none=>s
def l9 (t b:Int) (s:Ld):Int:=if t=0 then m9 s.n0 b else match pL t s.l with
 |some e=>m9 e.n b
 |none=>7
def j0 (t b:Int) (s:Ld):Ld:=if t=0 then { s with n0:=j8 s.n0 b } else match pL t s.l with
 |some e=> { s with l:=s.l.set (nI t s.l) ⟨e.id,j8 e.n b,e.sp⟩ }
 |none=>s
def w7 (a b:Int):List gQ->Int
 | []=>0
 |e::r=>if j7 e.n a b≠0 then j7 e.n a b else w7 a b r
def Bd (a b:Int) (s:Ld):Int:=if j7 0 a b≠0/\j7 0 a b≠10 then j7 0 a b else w7 a b s.l
def mA (a b:Int) (s:Ld):Ld:=if Bd a b s≠0 then s else { s with l:=s.l.map fun e=>⟨e.id,uD e.n a b,e.sp⟩ }
theorem zC {t:Int}:∀q:List (iO×Int),nI t (q.map L1)=Bn t (q.map Prod.fst)
 | []=>rfl
 |e::r=>by
  have ih:=zC (t:=t) r
  unfold nI Bn at ih ⊢
  rw[List.map_cons,List.map_cons,List.takeWhile_cons,List.takeWhile_cons]
  show(if decide (e.1.id<t)=true then _ else _:List gQ).length=_
  split
  ·rw[List.length_cons,List.length_cons,ih]
  ·rfl
theorem yA {e:gQ} (h:pL t (q.map L1)=some e):∃z,q[Bn t (q.map Prod.fst)]?=some z/\L1 z=e/\z.1.id=t/\Nh t (q.map Prod.fst)=true:=by
 unfold pL at h
 rw[zC,List.getElem?_map] at h
 cases hz:q[Bn t (q.map Prod.fst)]? with
 |none=>rw[hz] at h;cases h
 |some z=>
  rw[hz] at h
  simp only[Option.map_some] at h
  split at h
  ·rename_i he
   cases h
   refine⟨z,rfl,rfl,he,?_⟩
   unfold Nh
   rw[List.getElem?_map,hz]
   exact decide_eq_true he
  ·cases h
theorem CG (h:pL t (q.map L1)=none):Nh t (q.map Prod.fst)=false:=by
 unfold pL at h
 unfold Nh
 rw[zC,List.getElem?_map] at h
 rw[List.getElem?_map]
 cases hz:q[Bn t (q.map Prod.fst)]? with
 |none=>rfl
 |some z=>
  rw[hz] at h
  simp only[Option.map_some] at h ⊢
  split at h
  ·cases h
  ·rename_i he
   exact decide_eq_false he
theorem jX {n:Nat} {n0 sp:Int} {ws:List iO} {l:List gQ} (h:q.map L1=l) (hw:ws=q.map Prod.fst) (hn:n=ws.length):aG (pt p [PO w0,I6 sp,.slice A n c] 131::uC w0 n0::bV A c 136 yI ws::eG CZ q::R) (SI p ⟨n0,sp,l⟩::R):=by
 subst hn hw
 exact aG.ex w0 (aG.ex A (aG.ex c (aG.ex q (Mq h))))
theorem Cq {f:FuncId} {args:Array Value} {s:Ld} (h:∀w0 A c (q:List (iO×Int)),q.map L1=s.l->CT f args (pt p [PO w0,I6 s.sp,.slice A (q.map Prod.fst).length c] 131::uC w0 s.n0::bV A c 136 yI (q.map Prod.fst)::eG CZ q::R) K):CT f args (SI p s::R) K:=
 aA.ex fun w0=>aA.ex fun A=>aA.ex fun c=>aA.ex fun q=>aA.ent s6 (aA.pure fun hI=>h w0 A c q hI)
theorem FM {l:List gQ} (h:q.map L1=l):(q.map Prod.fst).length=l.length:=by rw[<- h];simp
theorem I7 {l:List gQ} (h:q.map L1=l) (hp:l.Pairwise fun a b=>a.id<b.id):(q.map Prod.fst).Pairwise fun a b=>a.id<b.id:=by
 rw[<- h] at hp
 rw[List.pairwise_map] at hp ⊢
 exact hp
theorem MS {l:List gQ} (h:q.map L1=l) (hz:q[j]?=some z):L1 z∈l:=by
 rw[<- h]
 exact List.mem_map_of_mem (List.mem_of_getElem? hz)
theorem Ns (hz:q[j]?=some z):aG (X::Y::Z::eG CZ q::R) (X::Z::Y::uC z.1.w z.2::eG CZ (q.eraseIdx j)::R):=
 aG.cons (aG.trans (fun _ h=>bW.swap h) (aG.cons (aG.cons (u4 (f:=CZ) hz))))
theorem NP {w:Nat} {n:Int} {z':iO} (hz:q[j]?=some z) (hw:z'.w=w):aG (X::Z::Y::uC w n::eG CZ (q.eraseIdx j)::R) (X::Y::Z::eG CZ (q.set j (z',n))::R):=by
 subst hw
 exact aG.cons (aG.trans (aG.cons (aG.cons (Fq (f:=CZ) (b':=(z',n)) hz))) (fun _ h=>bW.swap h))
section
variable {s:Ld} {n:Int}
theorem uZ (hok:Ud s) (hK:K (I6 (bB t s)) (SI p s::R)):CT 182 #[PO p,I6 t] (SI p s::R) K:=by
 refine Cq fun w0 A c q hq=>?_
 obtain⟨h1,h2,h3,h4,h5⟩:=hok
 have hl:=FM hq
 have hp:=I7 hq h2
 refine aA.entK ?_
 cases ha:pL t s.l with
 |none=>
  simp only[bB,ha] at hK
  rw[<- hq] at ha
  exact CA (h:=XT (l:=q.map Prod.fst) (by omega) hp (CG ha) ⟨_,aG.trans (by exact aZ) (jX hq rfl rfl),hK⟩)
 |some e=>
  simp only[bB,ha] at hK
  rw[<- hq] at ha
  obtain⟨z,hz,rfl,hid,hf⟩:=yA ha
  refine aA.ent (Ns hz) (LK (l:=q.map Prod.fst) (e:=z.1) (m:=z.2) (by omega) hp hf (by rw[List.getElem?_map,hz];rfl) ⟨_,aG.trans (NP (z':=z.1) hz rfl) (jX (q:=q.set _ (z.1,z.2)) ?_ ?_ rfl),hK⟩)
  ·rw[List.map_set]
   have e:(q.map L1).set (Bn t (q.map Prod.fst)) (L1 z)=q.map L1:=k6 _ (by rw[List.getElem?_map,hz];rfl)
   exact e.trans hq
  ·rw[List.map_set]
   exact(k6 _ (by rw[List.getElem?_map,hz];rfl)).symm
theorem Cr (hok:Ud s) (hK:K (I6 (l9 t b s)) (SI p (j0 t b s)::R)):CT 303 #[PO p,I6 t,I6 b] (SI p s::R) K:=by
 refine Cq fun w0 A c q hq=>?_
 obtain⟨h1,h2,h3,h4,h5⟩:=hok
 have hl:=FM hq
 have hp:=I7 hq h2
 refine aA.entK ?_
 by_cases h0:t=0
 ·simp only[l9,j0,if_pos h0] at hK
  subst h0
  exact CA (h:=Xz (by omega) ⟨_,aG.trans (by exact aZ) (jX hq rfl rfl),hK⟩)
 ·simp only[l9,j0,if_neg h0] at hK
  cases ha:pL t s.l with
  |none=>
   simp only[ha] at hK
   rw[<- hq] at ha
   exact CA (h:=Xl (l:=q.map Prod.fst) (by omega) hp h0 (CG ha) ⟨_,aG.trans (by exact aZ) (jX hq rfl rfl),hK⟩)
  |some e=>
   simp only[ha] at hK
   rw[<- hq] at ha
   obtain⟨z,hz,rfl,hid,hf⟩:=yA ha
   have hzm:=h3 _ (MS hq hz)
   refine aA.ent (Ns hz) (CA (h:=XE (l:=q.map Prod.fst) (e:=z.1) (m:=z.2) (by omega) hp h0 hf (by rw[List.getElem?_map,hz];rfl) (by have:=hzm.1;simp only[L1] at this;omega) ⟨_,aG.trans (by exact aZ) (aG.trans (NP (z':=z.1) (n:=j8 z.2 b) hz rfl) (jX (q:=q.set (Bn t (q.map Prod.fst)) (z.1,j8 z.2 b)) (l:=s.l.set (nI t s.l) ⟨z.1.id,j8 z.2 b,z.1.sp⟩) ?_ ?_ rfl)),hK⟩))
   ·rw[List.map_set,<- hq,zC];rfl
   ·rw[List.map_set]
    exact(k6 _ (by rw[List.getElem?_map,hz];rfl)).symm
theorem Us (hok:Ud s) (hK:K (I6 (nS t k s)) (SI p (jI t k s)::R)) (hk:nS t k s=0):CT 191 #[PO p,I6 t,I6 k] (SI p s::R) K:=by
 refine Cq fun w0 A c q hq=>?_
 obtain⟨h1,h2,h3,h4,h5⟩:=hok
 have hl:=FM hq
 have hp:=I7 hq h2
 refine aA.entK ?_
 rw[hk] at hK
 simp only[jI,hk,ne_eq,not_true_eq_false,if_false] at hK
 unfold nS bB at hk
 cases ha:pL t s.l with
 |none=>rw[ha] at hk;simp at hk
 |some e=>
  simp only[ha] at hK hk
  rw[<- hq] at ha
  obtain⟨z,hz,rfl,hid,hf⟩:=yA ha
  have hzm:=h3 _ (MS hq hz)
  simp only[L1] at hzm hk
  have hkk:0<=k/\k<=min (max z.2 0) (max s.n0 0):=by
   by_cases h6:k<0
   ·simp[h6] at hk
   ·by_cases h7:min (max z.2 0) (max s.n0 0)<k
    ·simp[h6,h7] at hk
    ·omega
  refine aA.ent (Ns hz) (CA (h:=X6 (l:=q.map Prod.fst) (e:=z.1) (m:=z.2) (by omega) hp hf (by rw[List.getElem?_map,hz];rfl) hkk.1 hkk.2 (by omega) (by omega) (by omega) (by omega) ⟨_,aG.trans (by exact aZ) (aG.trans (NP (z':=⟨z.1.id,z.1.w,z.1.sp+k⟩) (n:=z.2 - k) hz rfl) (jX (q:=q.set (Bn t (q.map Prod.fst)) (⟨z.1.id,z.1.w,z.1.sp+k⟩,z.2 - k)) (l:=s.l.set (nI t s.l) ⟨z.1.id,z.2 - k,z.1.sp+k⟩) ?_ ?_ ?_)),hK⟩))
  ·rw[List.map_set,<- hq,zC];rfl
  ·rw[List.map_set]
  ·simp
theorem Ad9 (h:0<=n/\n<=2147483647) (hK:∀p,K (.tuple #[PO p,I6 0]) (SI p ⟨n,0,[]⟩::R)):CT 97 #[I6 n] R K:=by
 refine aH Tryz.func97 ?_
 repeat' (first|refine v21 ?_|refine w5 ?_ ?_|((refine bh fun h=>?_) <;> try exact w6 h)|(refine aE fun hA=>?_;subst hA)|intro _|(show aA _ 168 _ _ _;refine CA (h:=BQ (by unfold lZ;simp;omega) (fun w0=>?_))))
 rename_i r
 all_goals(refine aC ?_;exact aK (aG.trans (by exact aZ) ((aG.trans (aG.trans (aG.nilrow 136 yI _) (aG.trans (Mx (f:=CZ)) (by exact aZ))) (jX (q:= []) (A:=none) (c:=0) (w0:=w0) (p:=r) (sp:=0) (n0:=n) (R:=R) rfl rfl rfl)))) ((hK r)))
end
end Go.Proofs.YtepnmcipkangkaaGreat
