/- A part of the proof: lemmas; each with the conditions that it states. -/
import Derived.Test.YtifgibijcmppmaaGreatNav
import Derived.Test.YtifgibijcmppmaaGreatNbb
import Derived.Test.YtifgibijcmppmaaGreatNam
set_option linter.unusedVariables false
set_option linter.unusedSimpArgs false
namespace Go.Proofs.YtifgibijcmppmaaGreat
open Go Go.Proofs Go.Sl
set_option maxRecDepth 100000
set_option maxHeartbeats 40000000
attribute [local irreducible] aN fB cJ bO aM aY aA dM dQ aW dK pt ro fF star sep bI
attribute [local irreducible] mp El
section
variable {R C:List HP} {K:Value→List HP→Prop}
def cE (t:Int) (l:List Sm):Nat:=(l.takeWhile fun e=>decide (e.id<t)).length
def cB (t:Int) (l:List Sm):Option Sm:=match l[cE t l]? with
 |some e=>if e.id=t then some e else none
 |none=>none
def kS (x:Sm) (l:List Sm):List Sm:=l.take (cE x.id l)++x::l.drop (cE x.id l)
theorem aU {t:Int} {l:List Sm} {m:Sm} (h:cB t l=some m):l[cE t l]?=some m∧m.id=t:=by
 unfold cB at h
 cases hz:l[cE t l]? with
 |none=>rw[hz] at h;cases h
 |some z=>
  rw[hz] at h
  simp only at h
  split at h
  ·rename_i he;cases h;exact⟨rfl,he⟩
  ·cases h
def F4 (l:List Sm):Prop:=l.length≤64∧l.Pairwise fun a b=>a.id<b.id
def Qv (e:jR×Sm):HP:=rR e.1.a e.2
def tbI (q:List (jR×Sm)) (l:List Sm):Prop:=q.map Prod.snd=l∧∀e∈q,e.1.id=e.2.id
def IN (p:Nat) (l:List Sm):HP:=fF fun A=>fF fun c=>fF fun q:List (jR×Sm)=>sep (pt p [.int .i64 64,.slice A (q.map Prod.fst).length c] 226) (sep (bT A c 255 fI (q.map Prod.fst)) (sep (eC Qv q) (bI (tbI q l))))
def Nh (p:Nat) (l:List Sm) (i a:Nat):HP:=fF fun A=>fF fun c=>fF fun q:List (jR×Sm)=>sep (pt p [.int .i64 64,.slice A (q.map Prod.fst).length c] 226) (sep (bT A c 255 fI (q.map Prod.fst)) (sep (eC Qv (q.eraseIdx i)) (bI (tbI q l∧(q.map fun e=>e.1.a)[i]?=some a))))
section
variable {p a i c n:Nat} {t:Int} {l:List Sm} {m m':Sm} {A:Option Addr} {q:List (jR×Sm)}
theorem yB {ws:List jR} (h:tbI q l) (hw:ws=q.map Prod.fst) (hn:n=ws.length):aG (pt p [.int .i64 64,.slice A n c] 226::bT A c 255 fI ws::eC Qv q::R) (IN p l::R):=by
 subst hn hw
 exact aG.ex A (aG.ex c (aG.ex q (qN h)))
theorem sC {A B D:HP} {p:Prop}:aG (Go.Sl.sep A (Go.Sl.sep B (Go.Sl.sep D (bI p)))::R) (bI p::A::B::D::R):=
 aG.trans (aG.unsep) (aG.trans (aG.cons aG.unsep) (aG.trans (aG.cons (aG.cons aG.unsep)) (fun _ hs=>hs.perm (List.perm_middle (l₁:= [A,B,D])))))
theorem yN {f:FuncId} {args:Array Value} (h:∀A c (q:List (jR×Sm)),tbI q l→aA Tryz.prog f args (pt p [.int .i64 64,.slice A (q.map Prod.fst).length c] 226::bT A c 255 fI (q.map Prod.fst)::eC Qv q::R) K):aA Tryz.prog f args (IN p l::R) K:=
 aA.ex fun A=>aA.ex fun c=>aA.ex fun q=>aA.ent sC (aA.pure fun hI=>h A c q hI)
theorem Ch (h:tbI q l):(q.map Prod.fst).length=l.length:=by rw[← h.1];simp
theorem Ma (h:tbI q l) (hp:l.Pairwise fun a b=>a.id<b.id):(q.map Prod.fst).Pairwise fun a b=>a.id<b.id:=by
 rw[← h.1,List.pairwise_map] at hp
 rw[List.pairwise_map]
 exact hp.imp_of_mem fun ha hb hab=>by rw[h.2 _ ha,h.2 _ hb];exact hab
theorem NY (h:tbI q l) (hi:l[i]?=some m):∃a,q[i]?=some (⟨m.id,a⟩,m):=by
 rw[← h.1,List.getElem?_map] at hi
 cases hq:q[i]? with
 |none=>rw[hq] at hi;cases hi
 |some e=>
  rw[hq] at hi
  obtain⟨⟨id,a⟩,m'⟩:=e
  cases hi
  have:=h.2 _ (List.mem_of_getElem? hq)
  simp only at this
  subst this
  exact⟨a,rfl⟩
theorem O3 (h:tbI q l):lb t (q.map Prod.fst)=cE t l:=by
 obtain⟨h1,h2⟩:=h
 subst h1
 induction q with
 |nil=>rfl
 |cons e r ih=>
  have he:=h2 e (List.mem_cons_self ..)
  have ih:=ih fun z hz=>h2 z (List.mem_cons_of_mem _ hz)
  unfold lb cE at ih ⊢
  rw[List.map_cons,List.map_cons,List.takeWhile_cons,List.takeWhile_cons,he]
  split
  ·rw[List.length_cons,List.length_cons,ih]
  ·rfl
theorem Zi (h:tbI q l) (hm:cB t l=some m):XE t (q.map Prod.fst)=true:=by
 obtain⟨h1,h2⟩:=aU hm
 obtain⟨a,ha⟩:=NY h h1
 unfold XE
 rw[O3 h,List.getElem?_map,ha]
 exact decide_eq_true h2
theorem Uf (h:tbI q l) (hm:cB t l=none):XE t (q.map Prod.fst)=false:=by
 unfold XE
 rw[O3 h]
 cases hq:(q.map Prod.fst)[cE t l]? with
 |none=>rfl
 |some e=>
  rw[List.getElem?_map] at hq
  cases hz:q[cE t l]? with
  |none=>rw[hz] at hq;cases hq
  |some z=>
   rw[hz] at hq
   cases hq
   have h1:l[cE t l]?=some z.2:=by
    have e:(q.map Prod.snd)[cE t l]?=some z.2:=by rw[List.getElem?_map,hz];rfl
    rwa[h.1] at e
   have h2:=h.2 _ (List.mem_of_getElem? hz)
   unfold cB at hm
   rw[h1] at hm
   simp only at hm
   split at hm
   ·cases hm
   ·rename_i hne
    exact decide_eq_false (by rw[h2];exact hne)
theorem Nr (h:tbI q l) (hi:q[i]?=some (⟨m.id,a⟩,m)):aG (pt p [.int .i64 64,.slice A (q.map Prod.fst).length c] 226::bT A c 255 fI (q.map Prod.fst)::eC Qv q::R) (rR a m::Nh p l i a::R):=by
 refine aG.trans (aG.cons (aG.cons (t7 (f:=Qv) hi))) ?_
 refine aG.trans (fun _ hs=>hs.perm (List.perm_middle (l₁:= [pt p [.int .i64 64,.slice A (q.map Prod.fst).length c] 226,bT A c 255 fI (q.map Prod.fst)]) (a:=Qv (⟨m.id,a⟩,m)))) ?_
 exact aG.cons (aG.ex A (aG.ex c (aG.ex q (qN ⟨h,by rw[List.getElem?_map,hi];rfl⟩))))
theorem U6 (hi:l[i]?=some m) (hid:m'.id=m.id):aG (rR a m'::Nh p l i a::R) (IN p (l.set i m')::R):=fun H hs=>by
 have hs:=bY.swap hs
 obtain⟨A,hs⟩:=hs.ex
 obtain⟨c,hs⟩:=hs.ex
 obtain⟨q,hs⟩:=hs.ex
 obtain⟨⟨hI,hA⟩,hs⟩:=(sC H hs).pure
 obtain⟨a',ha⟩:=NY hI hi
 rw[List.getElem?_map,ha] at hA
 obtain rfl:a=a':=(Option.some.inj hA).symm
 have h1:aG (rR a m'::eC Qv (q.eraseIdx i)::R) (eC Qv (q.set i (⟨m.id,a⟩,m'))::R):=C5 (f:=Qv) (b':=(⟨m.id,a⟩,m')) ha
 have h2:=(hs.perm (List.Perm.cons _ (List.Perm.cons _ (List.Perm.swap _ _ _))))
 have h3:=(aG.cons (aG.cons h1)) H h2
 refine yB (q:=q.set i (⟨m.id,a⟩,m')) ⟨?_,?_⟩ ?_ rfl H h3
 ·rw[List.map_set,hI.1]
 ·intro e he
  rcases List.mem_or_eq_of_mem_set he with h|h
  ·exact hI.2 e h
  ·rw[h];exact hid.symm
 ·rw[List.map_set]
  exact(kE _ (by rw[List.getElem?_map,ha];rfl)).symm
theorem Ahi (hi:l[i]?=some m):aG (rR a m::Nh p l i a::R) (IN p l::R):=by
 have h:=U6 (p:=p) (a:=a) (R:=R) (m':=m) hi rfl
 rwa[kE i hi] at h
end
end
section
variable {R C:List HP} {K:Value→List HP→Prop}
section
variable {p a i c n:Nat} {t:Int} {l:List Sm} {m m':Sm} {A:Option Addr} {q:List (jR×Sm)}
theorem x4 (hK:K (.int .i64 (l.length:Nat)) (IN p l::R)):aA Tryz.prog 83 #[.pointer (some ⟨p,0,none⟩)] (IN p l::R) K:=by
 refine yN fun A c q hI=>?_
 have hl:=Ch hI
 rw[← hl] at hK
 exact aA.entK (CA (h:=wR ⟨_,aG.trans (by exact bA) (yB hI rfl rfl),hK⟩))
theorem nF (hs:F4 l) (hm:cB t l=none) (hK:K (.tuple #[.pointer none,.bool false]) (IN p l::R)):aA Tryz.prog 192 #[.pointer (some ⟨p,0,none⟩),.int .i64 t] (IN p l::R) K:=by
 refine yN fun A c q hI=>?_
 have hl:=Ch hI
 obtain⟨h1,h2⟩:=hs
 exact aA.entK (CA (h:=Xk (by omega) (Ma hI h2) (Uf hI hm) ⟨_,aG.trans (by exact bA) (yB hI rfl rfl),hK⟩))
theorem gG (hs:F4 l) (hm:cB t l=some m) (hK:∀a,K (.tuple #[.pointer (some ⟨a,0,none⟩),.bool true]) (rR a m::Nh p l (cE t l) a::R)):aA Tryz.prog 192 #[.pointer (some ⟨p,0,none⟩),.int .i64 t] (IN p l::R) K:=by
 refine yN fun A c q hI=>?_
 have hl:=Ch hI
 obtain⟨h1,h2⟩:=hs
 obtain⟨a,ha⟩:=NY hI (aU hm).1
 exact aA.entK (CA (h:=KX (e:=⟨m.id,a⟩) (by omega) (Ma hI h2) (Zi hI hm) (by rw[O3 hI,List.getElem?_map,ha];rfl) ⟨_,aG.trans (by exact bA) (Nr hI ha),hK a⟩))
theorem EA (hs:F4 l) (hm:l[i]?=some m) (hK:∀a,K (.tuple #[.int .i64 m.id,.pointer (some ⟨a,0,none⟩),.bool true]) (rR a m::Nh p l i a::R)):aA Tryz.prog 85 #[.pointer (some ⟨p,0,none⟩),.int .i64 i] (IN p l::R) K:=by
 refine yN fun A c q hI=>?_
 have hl:=Ch hI
 obtain⟨h1,h2⟩:=hs
 obtain⟨a,ha⟩:=NY hI hm
 exact aA.entK (CA (h:=Aeg (e:=⟨m.id,a⟩) (by omega) (by rw[List.getElem?_map,ha];rfl) ⟨_,aG.trans (by exact bA) (Nr hI ha),hK a⟩))
theorem MV (hs:F4 l) (hK:∀B d,K (.slice B (l.map Sm.id).length d) (bT B d 3 kH (l.map Sm.id)::IN p l::R)):aA Tryz.prog 91 #[.pointer (some ⟨p,0,none⟩)] (IN p l::R) K:=by
 refine yN fun A c q hI=>?_
 have hl:=Ch hI
 have he:(q.map Prod.fst).map jR.id=l.map Sm.id:=by
  rw[← hI.1,List.map_map,List.map_map]
  exact List.map_congr_left fun e he=>hI.2 e he
 have hlen:(l.map Sm.id).length=(q.map Prod.fst).length:=by rw[hl,List.length_map]
 rw[hlen] at hK
 refine aA.entK (CA (h:=Aai (l:=q.map Prod.fst) (by have:=hs.1;omega) (fun B d=>?_)))
 rw[he]
 exact⟨_,aG.cons (aG.trans (by exact bA) (yB hI rfl rfl)),hK B d⟩
theorem Aga (hs:F4 l) (hm:cB m.id l=none) (h64:l.length<64) (hK:K (.int .i64 0) (IN p (kS m l)::R)):aA Tryz.prog 215 #[.pointer (some ⟨p,0,none⟩),.int .i64 m.id,.pointer (some ⟨a,0,none⟩)] (rR a m::IN p l::R) K:=by
 refine aA.ent (fun _ h=>bY.swap h) ?_
 refine yN fun A c q hI=>?_
 have hl:=Ch hI
 obtain⟨h1,h2⟩:=hs
 have hix:=O3 (t:=m.id) hI
 have hins:aG (rR a m::eC Qv q::R) (eC Qv (q.take (cE m.id l)++(⟨m.id,a⟩,m)::q.drop (cE m.id l))::R):=KY (f:=Qv) (b:=(⟨m.id,a⟩,m))
 refine aA.entK (CA (h:=Zb (a:=a) (by omega) (Ma hI h2) (Uf hI hm) (by omega) (fun A' c'=>⟨_,aG.trans (by exact bA) (aG.trans (aG.cons (aG.cons hins)) (yB (q:=q.take (cE m.id l)++(⟨m.id,a⟩,m)::q.drop (cE m.id l)) ⟨?_,?_⟩ ?_ ?_)),hK⟩)))
 ·rw[List.map_append,List.map_cons,List.map_take,List.map_drop,hI.1];rfl
 ·intro e he
  rcases List.mem_append.1 he with he|he
  ·exact hI.2 e (List.mem_of_mem_take he)
  ·rcases List.mem_cons.1 he with rfl|he
   ·rfl
   ·exact hI.2 e (List.mem_of_mem_drop he)
 ·unfold Zg
  rw[hix,List.map_append,List.map_cons,List.map_take,List.map_drop]
 ·unfold Zg
  have:=TY m.id (q.map Prod.fst)
  simp only[List.length_append,List.length_cons,List.length_take,List.length_drop]
  omega
theorem Ad3 (hs:F4 l) (hm:cB t l=some m) (hK:∀v,K v (IN p (l.eraseIdx (cE t l))::R)):aA Tryz.prog 313 #[.pointer (some ⟨p,0,none⟩),.int .i64 t] (IN p l::R) K:=by
 refine yN fun A c q hI=>?_
 have hl:=Ch hI
 obtain⟨h1,h2⟩:=hs
 obtain⟨a,ha⟩:=NY hI (aU hm).1
 have hix:=O3 (t:=t) hI
 have hlt:=(List.getElem?_eq_some_iff.1 ha).1
 refine aA.entK (CA (h:=V1 (e:=⟨m.id,a⟩) (by omega) (Ma hI h2) (Zi hI hm) (by rw[hix,List.getElem?_map,ha];rfl) (fun A' c'=>⟨_,aG.trans (by exact bA) (aG.trans (aG.cons (aG.cons (aG.trans (t7 (f:=Qv) ha) (aG.drop (aG.refl _))))) (yB (q:=q.eraseIdx (cE t l)) ⟨?_,?_⟩ ?_ ?_)),hK _⟩)))
 ·rw[← nG,hI.1]
 ·exact fun e he=>hI.2 e (List.mem_of_mem_eraseIdx he)
 ·rw[hix,nG]
 ·rw[List.length_eraseIdx,if_pos (by rw[hix,List.length_map];exact hlt)]
end
end
end Go.Proofs.YtifgibijcmppmaaGreat
namespace Go.Proofs.YtifgibijcmppmaaGreat
open Go Go.Proofs Go.Sl
set_option maxRecDepth 100000
set_option maxHeartbeats 40000000
attribute [local irreducible] aN fB cJ bO aM aY aA dM dQ aW dK pt ro fF star sep bI
section
section
variable {α:Type} {f:α→Int}
theorem XW {t:Int}:∀ {l:List α},∀z∈l.take (l.takeWhile fun e=>decide (f e<t)).length,f z<t
 | [],z,h=>by simp at h
 |e::r,z,h=>by
  rw[List.takeWhile_cons] at h
  by_cases he:f e<t
  ·rw[if_pos (decide_eq_true he),List.length_cons,List.take_succ_cons] at h
   rcases List.mem_cons.1 h with rfl|h
   ·exact he
   ·exact XW z h
  ·rw[if_neg (by simpa using he)] at h
   simp at h
theorem Nq {t:Int}:∀ {l:List α},l.Pairwise (fun a b=>f a<f b)→∀z∈l.drop (l.takeWhile fun e=>decide (f e<t)).length,t≤f z
 | [],_,z,h=>by simp at h
 |e::r,hp,z,h=>by
  obtain⟨h1,h2⟩:=List.pairwise_cons.1 hp
  rw[List.takeWhile_cons] at h
  by_cases he:f e<t
  ·rw[if_pos (decide_eq_true he),List.length_cons,List.drop_succ_cons] at h
   exact Nq h2 z h
  ·rw[if_neg (by simpa using he)] at h
   rcases List.mem_cons.1 (by simpa using h) with rfl|h
   ·omega
   ·have:=h1 z h;omega
theorem Tv {l:List α} {x:α} (hp:l.Pairwise fun a b=>f a<f b) (hx:∀z∈l,f z≠f x):(l.take (l.takeWhile fun e=>decide (f e<f x)).length++x::l.drop (l.takeWhile fun e=>decide (f e<f x)).length).Pairwise fun a b=>f a<f b:=by
 rw[List.pairwise_append]
 refine⟨hp.sublist (List.take_sublist ..),List.pairwise_cons.2 ⟨fun b hb=>?_,hp.sublist (List.drop_sublist ..)⟩,fun a ha b hb=>?_⟩
 ·have h1:=Nq hp b hb
  have h2:=hx b (List.mem_of_mem_drop hb)
  omega
 ·have h1:=XW a ha
  rcases List.mem_cons.1 hb with rfl|hb
  ·exact h1
  ·have h2:=Nq hp b hb
   omega
theorem UT {l:List α} {x:α} {i:Nat} {y:α} (hp:l.Pairwise fun a b=>f a<f b) (hy:l[i]?=some y) (he:f x=f y):(l.set i x).Pairwise fun a b=>f a<f b:=by
 have hm:(l.set i x).map f=l.map f:=by
  rw[List.map_set,he]
  refine kE i ?_
  rw[List.getElem?_map,hy];rfl
 have h1:(l.map f).Pairwise (·<·):=List.pairwise_map.2 hp
 rw[← hm] at h1
 exact List.pairwise_map.1 h1
theorem Sk {l:List α} {t:Int} (hp:l.Pairwise fun a b=>f a<f b) (h:∀e,l[(l.takeWhile fun e=>decide (f e<t)).length]?=some e→f e≠t):∀z∈l,f z≠t:=fun z hz e=>by
 rw[← List.take_append_drop (l.takeWhile fun e=>decide (f e<t)).length l] at hz
 rcases List.mem_append.1 hz with hz|hz
 ·have:=XW z hz;omega
 ·have h1:=Nq hp z hz
  cases hd:l.drop (l.takeWhile fun e=>decide (f e<t)).length with
  |nil=>rw[hd] at hz;cases hz
  |cons y r=>
   have hy:l[(l.takeWhile fun e=>decide (f e<t)).length]?=some y:=by
    rw[← List.head?_drop,hd];rfl
   rw[hd] at hz
   rcases List.mem_cons.1 hz with rfl|hz
   ·exact h z hy e
   ·have h2:=Nq hp y (by rw[hd];exact List.mem_cons_self ..)
    have h3:=hp.sublist (List.drop_sublist (l.takeWhile fun e=>decide (f e<t)).length l)
    rw[hd] at h3
    have:=(List.pairwise_cons.1 h3).1 z hz
    omega
end
section
variable {l:List Sm} {m m':Sm} {t:Int} {i:Nat}
theorem Na (h:F4 l) (hm:cB t l=none):∀z∈l,z.id≠t:=Sk (f:=Sm.id) h.2 fun e he hid=>by
 unfold cB cE at hm
 rw[he] at hm
 simp only[hid,if_true] at hm
 cases hm
theorem Af8 (h:F4 l) (hm:cB m.id l=none) (hl:l.length<64):F4 (kS m l):=by
 refine⟨?_,Tv (f:=Sm.id) h.2 (Na h hm)⟩
 unfold kS
 rw[List.length_append,List.length_cons,List.length_take,List.length_drop]
 omega
theorem WP (h:F4 l):F4 (l.eraseIdx i):=⟨Nat.le_trans (List.length_eraseIdx_le ..) h.1,h.2.sublist (List.eraseIdx_sublist ..)⟩
theorem Ad8 (h:F4 l) (hm:l[i]?=some m) (he:m'.id=m.id):F4 (l.set i m'):=⟨by rw[List.length_set];exact h.1,UT (f:=Sm.id) h.2 hm he⟩
theorem UE {g:Sm→Sm} (h:F4 l) (hg:∀m,(g m).id=m.id):F4 (l.map g):=by
 refine⟨by rw[List.length_map];exact h.1,List.pairwise_map.2 (h.2.imp fun hab=>?_)⟩
 rw[hg,hg];exact hab
theorem AO {z:Sm} (h:z∈kS m l):z=m∨z∈l:=by
 unfold kS at h
 rcases List.mem_append.1 h with h|h
 ·exact .inr (List.mem_of_mem_take h)
 ·rcases List.mem_cons.1 h with h|h
  ·exact .inl h
  ·exact .inr (List.mem_of_mem_drop h)
end
def FY (B:Int) (s:Ld):Prop:=s.l.length≤64∧(s.l.Pairwise fun a b=>a.id<b.id)∧(∀e∈s.l,(-2147483647≤e.n∧e.n≤2147483647)∧0≤e.sp∧e.sp≤B)∧(-2147483647≤s.n0∧s.n0≤2147483647)∧0≤s.sp∧s.sp≤B
section
variable {B B' t n k a b:Int} {s:Ld}
theorem FY.ok (h:FY B s) (hB:B≤1000000000000):Ss s:=by
 obtain⟨h1,h2,h3,h4,h5⟩:=h
 exact⟨h1,h2,fun e he=>by have:=h3 e he;omega,by omega,by omega⟩
theorem FY.mono (h:FY B s) (hB:B≤B'):FY B' s:=by
 obtain⟨h1,h2,h3,h4,h5⟩:=h
 exact⟨h1,h2,fun e he=>by have:=h3 e he;omega,h4,by omega⟩
theorem Vv (h:FY B s):FY B (nU t s):=by
 unfold nU
 split
 ·exact⟨Nat.le_trans (List.length_eraseIdx_le ..) h.1,h.2.1.sublist (List.eraseIdx_sublist ..),fun e he=>h.2.2.1 e (List.mem_of_mem_eraseIdx he),h.2.2.2⟩
 ·exact h
theorem Zo (h:FY B s):FY B (lN t n s):=by
 obtain⟨h1,h2,h3,h4,h5⟩:=h
 unfold lN
 split
 ·exact⟨h1,h2,h3,h4,h5⟩
 ·rename_i hc
  have hw:mM n=true:=by cases hq:mM n <;> first|rfl|exact absurd (.inr (.inr (.inl hq))) hc
  unfold mM at hw
  simp only[Bool.and_eq_true,decide_eq_true_eq] at hw
  have hno:∀z∈s.l,z.id≠t:=Sk (f:=hZ.id) h2 fun e he hid=>hc (.inr (.inr (.inr (.inl (by
   unfold pH oR
   rw[he]
   simp[hid])))))
  refine⟨?_,Tv (f:=hZ.id) (x:=⟨t,n,0⟩) h2 hno,fun e he=>?_,h4,h5⟩
  ·show(s.l.take _++_::s.l.drop _).length≤64
   rw[List.length_append,List.length_cons,List.length_take,List.length_drop]
   omega
  ·rcases List.mem_append.1 he with he|he
   ·exact h3 e (List.mem_of_mem_take he)
   ·rcases List.mem_cons.1 he with rfl|he
    ·exact⟨by show -2147483647≤n∧n≤2147483647;omega,Int.le_refl 0,by show(0:Int)≤B;omega⟩
    ·exact h3 e (List.mem_of_mem_drop he)
theorem rW {e:hZ} (h:pH t s.l=some e):s.l[oR t s.l]?=some e∧e.id=t:=by
 unfold pH at h
 cases hz:s.l[oR t s.l]? with
 |none=>rw[hz] at h;cases h
 |some z=>
  rw[hz] at h
  simp only at h
  split at h
  ·rename_i he;cases h;exact⟨rfl,he⟩
  ·cases h
theorem T0 (h:FY B s) {e e':hZ} (he:pH t s.l=some e) (hi:e'.id=e.id) (hn:(-2147483647≤e'.n∧e'.n≤2147483647)∧0≤e'.sp∧e'.sp≤B) {n0 sp:Int} (h0:-2147483647≤n0∧n0≤2147483647) (hs:0≤sp∧sp≤B):FY B { n0:=n0,sp:=sp,l:=s.l.set (oR t s.l) e' }:=by
 obtain⟨h1,h2,h3,h4,h5⟩:=h
 refine⟨by rw[List.length_set];exact h1,UT (f:=hZ.id) h2 (rW he).1 hi,fun z hz=>?_,h0,hs⟩
 rcases List.mem_or_eq_of_mem_set hz with hz|rfl
 ·exact h3 z hz
 ·exact hn
theorem WL (h:FY B s) (hk:k≤B' - B) (h0:B≤B'):FY B' (mR t k s):=by
 unfold mR
 split
 ·exact h.mono h0
 ·rename_i hc
  have hc:sD t k s=0:=Classical.byContradiction hc
  cases he:pH t s.l with
  |none=>exact h.mono h0
  |some e=>
   unfold sD bE at hc
   rw[he] at hc
   simp only[Option.isSome_some,Bool.true_eq_false,if_false] at hc
   have hm:=List.mem_of_getElem? (rW he).1
   obtain⟨h1,h2,h3,h4,h5⟩:=h
   have h6:=h3 e hm
   have hkk:0≤k∧k≤max e.n 0∧k≤max s.n0 0:=by
    split at hc
    ·cases hc
    ·split at hc
     ·cases hc
     ·omega
   exact T0 (B:=B') ⟨h1,h2,fun e he=>by have:=h3 e he;omega,h4,by omega⟩ he (e':=⟨e.id,e.n - k,e.sp+k⟩) rfl (by show(_≤e.n - k∧e.n - k≤_)∧0≤e.sp+k∧e.sp+k≤B';omega) (by omega) (by omega)
theorem Ud (h:-2147483647≤n∧n≤2147483647):-2147483647≤Eh n b∧Eh n b≤2147483647:=by
 unfold Eh
 split
 ·rename_i hf
  unfold CO at hf
  simp only[Bool.and_eq_true,decide_eq_true_eq] at hf
  exact hf
 ·exact h
theorem NR (h:-2147483647≤n∧n≤2147483647):-2147483647≤mH n b∧mH n b≤2147483647:=by
 unfold mH
 split
 ·exact Ud h
 ·exact h
theorem Afg (h:-2147483647≤n∧n≤2147483647):-2147483647≤Aa n a b∧Aa n a b≤2147483647:=by
 unfold Aa
 split
 ·exact Ud h
 ·exact h
theorem Qi (h:FY B s):FY B (qC t b s):=by
 have h':=h
 obtain⟨h1,h2,h3,h4,h5⟩:=h'
 unfold qC
 split
 ·exact⟨h1,h2,h3,NR h4,h5⟩
 ·cases he:pH t s.l with
  |none=>exact h
  |some e=>
   have h6:=h3 e (List.mem_of_getElem? (rW he).1)
   exact T0 h he (e':=⟨e.id,mH e.n b,e.sp⟩) rfl ⟨NR h6.1,h6.2⟩ h4 h5
theorem M5 (h:FY B s):FY B (tH a b s):=by
 obtain⟨h1,h2,h3,h4,h5⟩:=h
 unfold tH
 split
 ·exact⟨h1,h2,h3,h4,h5⟩
 ·refine⟨by rw[List.length_map];exact h1,List.pairwise_map.2 h2,fun e he=>?_,h4,h5⟩
  obtain⟨z,hz,rfl⟩:=List.mem_map.1 he
  exact⟨Afg (h3 z hz).1,(h3 z hz).2⟩
end
end
end Go.Proofs.YtifgibijcmppmaaGreat
