/- A part of the proof: lemmas; each with the conditions that it states. -/
import Derived.Test.YtifgibijcmppmaaGreatUav
import Derived.Test.YtifgibijcmppmaaGreatUan
set_option linter.unusedVariables false
set_option linter.unusedSimpArgs false
set_option maxRecDepth 100000
set_option maxHeartbeats 40000000
namespace Go.Proofs.YtifgibijcmppmaaGreat
open Go Go.Proofs Go.Sl
attribute [local irreducible] aN fN cX bP aM aX aA dS dV aT dU pt ro eV star sep bH
section
variable {R C:List HP} {K:KP}
section
variable {s li t r:Nat} {m:Sm} {n:Int} {d:ByteArray} {e own:Bool} {id sta:Int} {x:Xs} {y:Ys}
def B1:List (Nat×Nat):= [(0,0),(1,1),(2,1),(3,1),(4,1),(5,1),(6,1),(7,1),(8,0),(9,1)]
theorem Ir {r2 r3 r4:Nat} (hK:K (.agg #[I6 (bB x - 1),I6 id,.bool e,.string d,I6 0,I6 0,I6 0,.bool false,I6 0,I6 0,I6 0,.slice none 0 0]) (pt r2 [PO s] 134::pt r3 [.string d] 9::pt r4 [.bool e] 4::pt s [PO li,PO t,PO r,I6 id,.bool own] 258::BH t x::R)):CT 292 #[PO r2,PO r3,PO r4] (pt r2 [PO s] 134::pt r3 [.string d] 9::pt r4 [.bool e] 4::pt s [PO li,PO t,PO r,I6 id,.bool own] 258::BH t x::R) K:=by
 refine aH Tryz.func292 ?_
 repeat' (first|refine KV ?_|refine dw B1 ?_|refine w5 ?_ ?_|((refine bh fun h=>?_) <;> try exact w6 h)|(refine aE fun hA=>?_;subst hA)|intro _|(show aA _ 293 _ _ _;refine CA (h:=Rt ?_)))
 (refine aC ?_;exact aB (hK))
theorem Dz:bB (xTk x n)=bB x:=by
 cases x with
 |b x=>rfl
 |i x=>
  obtain⟨cap,st,l,w,en,ou,ac,se,dr⟩:=x
  cases l <;> rfl
theorem BK (hr:Hb m n=true) (hK:K (.tuple #[.agg #[I6 (bB m.x - 1),I6 m.id,.bool (BY m.x n),.string (iL m.x n),I6 0,I6 0,I6 0,.bool false,I6 0,I6 0,I6 0,.slice none 0 0],.bool true]) (mS s (C9 m n)::R)):CT 193 #[PO s,I6 n] (mS s m::R) K:=by
 simp only[C9,if_pos hr] at hK
 obtain⟨id,own,sta,x,y⟩:=m
 have hr':=hr
 simp only[Hb,SQ,Bool.and_eq_true,decide_eq_true_eq] at hr'
 obtain⟨hg,hx⟩:=hr'
 refine mH fun li t r h=>?_
 have hso:∀b,JN sta b=1∨JN sta b=2∨JN sta b=3∨JN sta b=4:=fun b=>by
  unfold JN
  rcases hg with rfl|rfl <;> cases b <;> simp
 have hok:wX ⟨id,own,JN sta (BY x n),xTk x n,y⟩:=⟨Dz.trans h.1,hso _⟩
 have hkd:=Dz (x:=x) (n:=n)
 simp only at hK
 cases he:BY x n
 ·rw[he] at hK hok
  have e0:JN sta false=sta:=rfl
  rw[e0] at hK hok
  refine aH Tryz.func193 ?_
  repeat' (first|refine NJ ?_|refine w5 ?_ ?_|((refine bh fun h=>?_) <;> try exact w6 h)|(refine aE fun hA=>?_;subst hA)|intro _|(show aA _ 232 _ _ _;refine CA (h:=tM (if_pos hg) ?_))|(show aA _ 291 _ _ _;refine CA (h:=QJ hx ?_);rw[he])|(show aA _ 292 _ _ _;refine CA (h:=Ir ?_);rw[hkd]))
  (refine aC ?_;exact aK (aG.trans (by exact aZ) ((cN hok))) (hK))
 ·rw[he] at hK hok
  have hl:wS sta 2=JN sta true:=by rcases hg with rfl|rfl <;> rfl
  have hl1:JN sta true≠-1:=by rcases hg with rfl|rfl <;> decide
  refine aH Tryz.func193 ?_
  repeat' (first|refine NJ ?_|refine w5 ?_ ?_|((refine bh fun h=>?_) <;> try exact w6 h)|(refine aE fun hA=>?_;subst hA)|intro _|(show aA _ 232 _ _ _;refine CA (h:=tM (if_pos hg) ?_))|(show aA _ 291 _ _ _;refine CA (h:=QJ hx ?_);rw[he])|(show aA _ 237 _ _ _;refine CA (h:=kY (by omega) (by omega) hl hl1 ?_))|(show aA _ 292 _ _ _;refine CA (h:=Ir ?_);rw[hkd]))
  (refine aC ?_;exact aK (aG.trans (by exact aZ) ((cN hok))) (hK))
section
variable {tt st kk on w c la nn:Int} {xx:Bool} {pa:Option Addr} {pn pc:Nat}
theorem GZ (hw:gI m tt d e≠0) (hK:K (.tuple #[I6 (gI m tt d e),.bool false]) (mS s m::R)):CT 261 #[PO s,.agg #[I6 tt,I6 st,.bool e,.string d,I6 kk,I6 on,I6 w,.bool xx,I6 c,I6 la,I6 nn,.slice pa pn pc]] (mS s m::R) K:=by
 obtain⟨id,own,sta,x,y⟩:=m
 refine mH fun li t r h=>?_
 refine aA.entK ?_
 cases x with
 |b x=>
  cases y with
  |i y=>cases h.1
  |b y=>
   by_cases h1:tt=0
   ·subst h1
    by_cases h2:sta=1∨sta=2
    ·have h2':Yu ⟨id,own,sta,.b x,.b y⟩=true:=decide_eq_true h2
     simp only[gI,bB,h2'] at hK hw
     cases h3:y.en
     ·by_cases h4:max (y.gr - y.got) 0<d.size
      ·simp[y5,h3,h4] at hK
       exact CA (h:=TM h2 h3 h4 ⟨_,aG.trans (by exact aZ) (cN (m:=⟨id,own,sta,.b x,.b y⟩) h),hK⟩)
      ·exact absurd (by simp[y5,h3,h4]) hw
     ·simp[y5,h3] at hK
      exact CA (h:=SP h2 h3 ⟨_,aG.trans (by exact aZ) (cN (m:=⟨id,own,sta,.b x,.b y⟩) h),hK⟩)
    ·have h2':Yu ⟨id,own,sta,.b x,.b y⟩=false:=decide_eq_false h2
     simp[gI,bB,h2'] at hK
     exact CA (h:=RZ h2 ⟨_,aG.trans (by exact aZ) (cN (m:=⟨id,own,sta,.b x,.b y⟩) h),hK⟩)
   ·have h1':tt≠bB (.b x) - 1:=h1
    simp only[gI,if_pos h1'] at hK
    exact CA (h:=Sp h1 ⟨_,aG.trans (by exact aZ) (cN (m:=⟨id,own,sta,.b x,.b y⟩) h),hK⟩)
 |i x=>
  cases y with
  |b y=>cases h.1
  |i y=>
   by_cases h1:tt=1
   ·subst h1
    by_cases h2:sta=1∨sta=2
    ·have h2':Yu ⟨id,own,sta,.i x,.i y⟩=true:=decide_eq_true h2
     simp only[gI,bB,h2'] at hK hw
     cases h3:y.en
     ·by_cases h4:(d≠⟨#[]⟩∨e=false)∧y.op<1
      ·simp only[y5,h3,h4] at hK
       exact CA (h:=RU h2 h3 h4.1 h4.2 ⟨_,aG.trans (by exact aZ) (cN (m:=⟨id,own,sta,.i x,.i y⟩) h),by simpa using hK⟩)
      ·exact absurd (by simp only[y5,h3,h4];simp) hw
     ·simp[y5,h3] at hK
      exact CA (h:=S9 h2 h3 ⟨_,aG.trans (by exact aZ) (cN (m:=⟨id,own,sta,.i x,.i y⟩) h),hK⟩)
    ·have h2':Yu ⟨id,own,sta,.i x,.i y⟩=false:=decide_eq_false h2
     simp[gI,bB,h2'] at hK
     exact CA (h:=TX h2 ⟨_,aG.trans (by exact aZ) (cN (m:=⟨id,own,sta,.i x,.i y⟩) h),hK⟩)
   ·have h1':tt≠bB (.i x) - 1:=h1
    simp only[gI,if_pos h1'] at hK
    exact CA (h:=TU h1 ⟨_,aG.trans (by exact aZ) (cN (m:=⟨id,own,sta,.i x,.i y⟩) h),hK⟩)
def J2:Ys→Int
 |.b y=>y.got
 |.i y=>y.ac
theorem G4 (h:sta=1∨sta=2):oB sta e=1∨oB sta e=2∨oB sta e=3∨oB sta e=4:=by
 unfold oB
 rcases h with rfl|rfl <;> cases e <;> simp
theorem BF (hw:gI m tt d e=0) (hb:J2 m.y+d.size≤300000000) (hb2:J2 m.y≤290000000) (hK:K (.tuple #[I6 0,.bool true]) (mS s (fM m d e)::R)):CT 261 #[PO s,.agg #[I6 tt,I6 st,.bool e,.string d,I6 kk,I6 on,I6 w,.bool xx,I6 c,I6 la,I6 nn,.slice pa pn pc]] (mS s m::R) K:=by
 obtain⟨id,own,sta,x,y⟩:=m
 refine mH fun li t r h=>?_
 refine aA.entK ?_
 cases x with
 |b x=>
  cases y with
  |i y=>cases h.1
  |b y=>
   have h1:tt=0:=by
    by_cases h1:tt=0
    ·exact h1
    ·have h1':tt≠bB (.b x) - 1:=h1
     simp only[gI,if_pos h1'] at hw
     cases hw
   subst h1
   have h2:sta=1∨sta=2:=by
    by_cases h2:sta=1∨sta=2
    ·exact h2
    ·have h2':Yu ⟨id,own,sta,.b x,.b y⟩=false:=decide_eq_false h2
     simp[gI,bB,h2'] at hw
   have h2':Yu ⟨id,own,sta,.b x,.b y⟩=true:=decide_eq_true h2
   have h3:y.en=false:=by
    cases h3:y.en
    ·rfl
    ·simp[gI,bB,h2',y5,h3] at hw
   have h4:¬max (y.gr - y.got) 0<d.size:=fun h4=>by
    simp[gI,bB,h2',y5,h3,h4] at hw
   exact CA (h:=VM h2 h3 (by omega) (by simp only[J2] at hb;omega) ⟨_,aG.trans (by exact aZ) (cN (m:=⟨id,own,oB sta e,.b x,Cr (.b y) d e⟩) ⟨rfl,G4 h2⟩),hK⟩)
 |i x=>
  cases y with
  |b y=>cases h.1
  |i y=>
   obtain⟨mr,room,op,ask,l,ac,tk,dr,en⟩:=y
   have h1:tt=1:=by
    by_cases h1:tt=1
    ·exact h1
    ·have h1':tt≠bB (.i x) - 1:=h1
     simp only[gI,if_pos h1'] at hw
     cases hw
   subst h1
   have h2:sta=1∨sta=2:=by
    by_cases h2:sta=1∨sta=2
    ·exact h2
    ·have h2':Yu ⟨id,own,sta,.i x,.i ⟨mr,room,op,ask,l,ac,tk,dr,en⟩⟩=false:=decide_eq_false h2
     simp[gI,bB,h2'] at hw
   have h2':Yu ⟨id,own,sta,.i x,.i ⟨mr,room,op,ask,l,ac,tk,dr,en⟩⟩=true:=decide_eq_true h2
   have h3:en=false:=by
    cases en
    ·rfl
    ·simp[gI,bB,h2',y5] at hw
   subst h3
   by_cases h5:d≠⟨#[]⟩∨e=false
   ·have h4:¬op<1:=fun h4=>by
     have h6:(d≠⟨#[]⟩∨e=false)∧op<1:=⟨h5,h4⟩
     simp only[gI,bB,h2',y5,h6] at hw
     simp at hw
    simp only[fM,Cr,if_pos h5] at hK
    exact CA (h:=XF (open_:=op) (a1:=ac) h2 rfl h5 (by omega) (by simp only[J2] at hb2;omega) ⟨_,aG.trans (by exact aZ) (cN (m:=⟨id,own,oB sta e,.i x,.i ⟨mr,room,op - 1,ask,l++ [d],ac+1,tk,dr,e⟩⟩) ⟨rfl,G4 h2⟩),hK⟩)
   ·simp only[fM,Cr,if_neg h5] at hK
    have hd:d=⟨#[]⟩:=Classical.byContradiction fun q=>h5 (.inl q)
    have he:e=true:=by cases e <;> simp_all
    subst hd he
    exact CA (h:=Sq h2 rfl ⟨_,aG.trans (by exact aZ) (cN (m:=⟨id,own,oB sta true,.i x,.i ⟨mr,room,op,ask,l,ac,tk,dr,true⟩⟩) ⟨rfl,G4 (e:=true) h2⟩),hK⟩)
end
end
end
end Go.Proofs.YtifgibijcmppmaaGreat
namespace Go.Proofs.YtifgibijcmppmaaGreat
open Go Go.Proofs Go.Sl
attribute [local irreducible] aN fN cX bP aM aX aA dS dV aT dU pt ro eV star sep bH
attribute [local irreducible] mp ED
section
variable {R C:List HP} {K:KP}
def b7 (t:Int) (l:List Sm):Nat:=(l.takeWhile fun e=>decide (e.id<t)).length
def bY (t:Int) (l:List Sm):Option Sm:=match l[b7 t l]? with
 |some e=>if e.id=t then some e else none
 |none=>none
def kG (x:Sm) (l:List Sm):List Sm:=l.take (b7 x.id l)++x::l.drop (b7 x.id l)
theorem bA {t:Int} {l:List Sm} {m:Sm} (h:bY t l=some m):l[b7 t l]?=some m∧m.id=t:=by
 unfold bY at h
 cases hz:l[b7 t l]? with
 |none=>rw[hz] at h;cases h
 |some z=>
  rw[hz] at h
  simp only at h
  split at h
  ·rename_i he;cases h;exact⟨rfl,he⟩
  ·cases h
def Gl (l:List Sm):Prop:=l.length≤64∧l.Pairwise fun a b=>a.id<b.id
def Q8 (e:jF×Sm):HP:=mS e.1.a e.2
def tbI (q:List (jF×Sm)) (l:List Sm):Prop:=q.map Prod.snd=l∧∀e∈q,e.1.id=e.2.id
def Iz (p:Nat) (l:List Sm):HP:=eV fun A=>eV fun c=>eV fun q:List (jF×Sm)=>sep (pt p [I6 64,.slice A (q.map Prod.fst).length c] 226) (sep (bQ A c 255 fD (q.map Prod.fst)) (sep (eA Q8 q) (bH (tbI q l))))
def NN (p:Nat) (l:List Sm) (i a:Nat):HP:=eV fun A=>eV fun c=>eV fun q:List (jF×Sm)=>sep (pt p [I6 64,.slice A (q.map Prod.fst).length c] 226) (sep (bQ A c 255 fD (q.map Prod.fst)) (sep (eA Q8 (q.eraseIdx i)) (bH (tbI q l∧(q.map fun e=>e.1.a)[i]?=some a))))
section
variable {p a i c n:Nat} {t:Int} {l:List Sm} {m m':Sm} {A:Option Addr} {q:List (jF×Sm)}
theorem yJ {ws:List jF} (h:tbI q l) (hw:ws=q.map Prod.fst) (hn:n=ws.length):aG (pt p [I6 64,.slice A n c] 226::bQ A c 255 fD ws::eA Q8 q::R) (Iz p l::R):=by
 subst hn hw
 exact aG.ex A (aG.ex c (aG.ex q (qS h)))
theorem rP {A B D:HP} {p:Prop}:aG (Go.Sl.sep A (Go.Sl.sep B (Go.Sl.sep D (bH p)))::R) (bH p::A::B::D::R):=
 aG.trans (aG.unsep) (aG.trans (aG.cons aG.unsep) (aG.trans (aG.cons (aG.cons aG.unsep)) (fun _ hs=>hs.perm (List.perm_middle (l₁:= [A,B,D])))))
theorem xW {f:FuncId} {args:Array Value} (h:∀A c (q:List (jF×Sm)),tbI q l→CT f args (pt p [I6 64,.slice A (q.map Prod.fst).length c] 226::bQ A c 255 fD (q.map Prod.fst)::eA Q8 q::R) K):CT f args (Iz p l::R) K:=
 aA.ex fun A=>aA.ex fun c=>aA.ex fun q=>aA.ent rP (aA.pure fun hI=>h A c q hI)
theorem C1 (h:tbI q l):(q.map Prod.fst).length=l.length:=by rw[← h.1];simp
theorem Nt (h:tbI q l) (hp:l.Pairwise fun a b=>a.id<b.id):(q.map Prod.fst).Pairwise fun a b=>a.id<b.id:=by
 rw[← h.1,List.pairwise_map] at hp
 rw[List.pairwise_map]
 exact hp.imp_of_mem fun ha hb hab=>by rw[h.2 _ ha,h.2 _ hb];exact hab
theorem Qu (h:tbI q l) (hi:l[i]?=some m):∃a,q[i]?=some (⟨m.id,a⟩,m):=by
 rw[← h.1,List.getElem?_map] at hi
 cases hq:q[i]? with
 |none=>rw[hq] at hi;cases hi
 |some e=>
  rw[hq] at hi
  obtain⟨⟨id,a⟩,m'⟩:=e
  cases hi
  have:=h.2 _ (List.mem_of_getElem? hq)
  simp only at this
  subst this
  exact⟨a,rfl⟩
theorem N3 (h:tbI q l):lb t (q.map Prod.fst)=b7 t l:=by
 obtain⟨h1,h2⟩:=h
 subst h1
 induction q with
 |nil=>rfl
 |cons e r ih=>
  have he:=h2 e (List.mem_cons_self ..)
  have ih:=ih fun z hz=>h2 z (List.mem_cons_of_mem _ hz)
  unfold lb b7 at ih ⊢
  rw[List.map_cons,List.map_cons,List.takeWhile_cons,List.takeWhile_cons,he]
  split
  ·rw[List.length_cons,List.length_cons,ih]
  ·rfl
theorem Aau (h:tbI q l) (hm:bY t l=some m):Ym t (q.map Prod.fst)=true:=by
 obtain⟨h1,h2⟩:=bA hm
 obtain⟨a,ha⟩:=Qu h h1
 unfold Ym
 rw[N3 h,List.getElem?_map,ha]
 exact decide_eq_true h2
theorem T1 (h:tbI q l) (hm:bY t l=none):Ym t (q.map Prod.fst)=false:=by
 unfold Ym
 rw[N3 h]
 cases hq:(q.map Prod.fst)[b7 t l]? with
 |none=>rfl
 |some e=>
  rw[List.getElem?_map] at hq
  cases hz:q[b7 t l]? with
  |none=>rw[hz] at hq;cases hq
  |some z=>
   rw[hz] at hq
   cases hq
   have h1:l[b7 t l]?=some z.2:=by
    have e:(q.map Prod.snd)[b7 t l]?=some z.2:=by rw[List.getElem?_map,hz];rfl
    rwa[h.1] at e
   have h2:=h.2 _ (List.mem_of_getElem? hz)
   unfold bY at hm
   rw[h1] at hm
   simp only at hm
   split at hm
   ·cases hm
   ·rename_i hne
    exact decide_eq_false (by rw[h2];exact hne)
theorem Ql (h:tbI q l) (hi:q[i]?=some (⟨m.id,a⟩,m)):aG (pt p [I6 64,.slice A (q.map Prod.fst).length c] 226::bQ A c 255 fD (q.map Prod.fst)::eA Q8 q::R) (mS a m::NN p l i a::R):=by
 refine aG.trans (aG.cons (aG.cons (tN (f:=Q8) hi))) ?_
 refine aG.trans (fun _ hs=>hs.perm (List.perm_middle (l₁:= [pt p [I6 64,.slice A (q.map Prod.fst).length c] 226,bQ A c 255 fD (q.map Prod.fst)]) (a:=Q8 (⟨m.id,a⟩,m)))) ?_
 exact aG.cons (aG.ex A (aG.ex c (aG.ex q (qS ⟨h,by rw[List.getElem?_map,hi];rfl⟩))))
theorem Uz (hi:l[i]?=some m) (hid:m'.id=m.id):aG (mS a m'::NN p l i a::R) (Iz p (l.set i m')::R):=fun H hs=>by
 have hs:=bX.swap hs
 obtain⟨A,hs⟩:=hs.ex
 obtain⟨c,hs⟩:=hs.ex
 obtain⟨q,hs⟩:=hs.ex
 obtain⟨⟨hI,hA⟩,hs⟩:=(rP H hs).pure
 obtain⟨a',ha⟩:=Qu hI hi
 rw[List.getElem?_map,ha] at hA
 obtain rfl:a=a':=(Option.some.inj hA).symm
 have h1:aG (mS a m'::eA Q8 (q.eraseIdx i)::R) (eA Q8 (q.set i (⟨m.id,a⟩,m'))::R):=Eh (f:=Q8) (b':=(⟨m.id,a⟩,m')) ha
 have h2:=(hs.perm (List.Perm.cons _ (List.Perm.cons _ (List.Perm.swap _ _ _))))
 have h3:=(aG.cons (aG.cons h1)) H h2
 refine yJ (q:=q.set i (⟨m.id,a⟩,m')) ⟨?_,?_⟩ ?_ rfl H h3
 ·rw[List.map_set,hI.1]
 ·intro e he
  rcases List.mem_or_eq_of_mem_set he with h|h
  ·exact hI.2 e h
  ·rw[h];exact hid.symm
 ·rw[List.map_set]
  exact(j9 _ (by rw[List.getElem?_map,ha];rfl)).symm
theorem Ag5 (hi:l[i]?=some m):aG (mS a m::NN p l i a::R) (Iz p l::R):=by
 have h:=Uz (p:=p) (a:=a) (R:=R) (m':=m) hi rfl
 rwa[j9 i hi] at h
end
end
section
variable {R C:List HP} {K:KP}
section
variable {p a i c n:Nat} {t:Int} {l:List Sm} {m m':Sm} {A:Option Addr} {q:List (jF×Sm)}
theorem BJ (hK:K (I6 (l.length:Nat)) (Iz p l::R)):CT 83 #[PO p] (Iz p l::R) K:=by
 refine xW fun A c q hI=>?_
 have hl:=C1 hI
 rw[← hl] at hK
 exact aA.entK (CA (h:=w7 ⟨_,aG.trans (by exact aZ) (yJ hI rfl rfl),hK⟩))
theorem mW (hs:Gl l) (hm:bY t l=none) (hK:K (.tuple #[.pointer none,.bool false]) (Iz p l::R)):CT 192 #[PO p,I6 t] (Iz p l::R) K:=by
 refine xW fun A c q hI=>?_
 have hl:=C1 hI
 obtain⟨h1,h2⟩:=hs
 exact aA.entK (CA (h:=Yb (by omega) (Nt hI h2) (T1 hI hm) ⟨_,aG.trans (by exact aZ) (yJ hI rfl rfl),hK⟩))
theorem f5 (hs:Gl l) (hm:bY t l=some m) (hK:∀a,K (.tuple #[PO a,.bool true]) (mS a m::NN p l (b7 t l) a::R)):CT 192 #[PO p,I6 t] (Iz p l::R) K:=by
 refine xW fun A c q hI=>?_
 have hl:=C1 hI
 obtain⟨h1,h2⟩:=hs
 obtain⟨a,ha⟩:=Qu hI (bA hm).1
 exact aA.entK (CA (h:=KR (e:=⟨m.id,a⟩) (by omega) (Nt hI h2) (Aau hI hm) (by rw[N3 hI,List.getElem?_map,ha];rfl) ⟨_,aG.trans (by exact aZ) (Ql hI ha),hK a⟩))
theorem Ie (hs:Gl l) (hm:l[i]?=some m) (hK:∀a,K (.tuple #[I6 m.id,PO a,.bool true]) (mS a m::NN p l i a::R)):CT 85 #[PO p,I6 i] (Iz p l::R) K:=by
 refine xW fun A c q hI=>?_
 have hl:=C1 hI
 obtain⟨h1,h2⟩:=hs
 obtain⟨a,ha⟩:=Qu hI hm
 exact aA.entK (CA (h:=Af6 (e:=⟨m.id,a⟩) (by omega) (by rw[List.getElem?_map,ha];rfl) ⟨_,aG.trans (by exact aZ) (Ql hI ha),hK a⟩))
theorem Mj (hs:Gl l) (hK:∀B d,K (.slice B (l.map Sm.id).length d) (bQ B d 3 jI (l.map Sm.id)::Iz p l::R)):CT 91 #[PO p] (Iz p l::R) K:=by
 refine xW fun A c q hI=>?_
 have hl:=C1 hI
 have he:(q.map Prod.fst).map jF.id=l.map Sm.id:=by
  rw[← hI.1,List.map_map,List.map_map]
  exact List.map_congr_left fun e he=>hI.2 e he
 have hlen:(l.map Sm.id).length=(q.map Prod.fst).length:=by rw[hl,List.length_map]
 rw[hlen] at hK
 refine aA.entK (CA (h:=Ad5 (l:=q.map Prod.fst) (by have:=hs.1;omega) (fun B d=>?_)))
 rw[he]
 exact⟨_,aG.cons (aG.trans (by exact aZ) (yJ hI rfl rfl)),hK B d⟩
theorem Afc (hs:Gl l) (hm:bY m.id l=none) (h64:l.length<64) (hK:K (I6 0) (Iz p (kG m l)::R)):CT 215 #[PO p,I6 m.id,PO a] (mS a m::Iz p l::R) K:=by
 refine aA.ent (fun _ h=>bX.swap h) ?_
 refine xW fun A c q hI=>?_
 have hl:=C1 hI
 obtain⟨h1,h2⟩:=hs
 have hix:=N3 (t:=m.id) hI
 have hins:aG (mS a m::eA Q8 q::R) (eA Q8 (q.take (b7 m.id l)++(⟨m.id,a⟩,m)::q.drop (b7 m.id l))::R):=Kv (f:=Q8) (b:=(⟨m.id,a⟩,m))
 refine aA.entK (CA (h:=YM (a:=a) (by omega) (Nt hI h2) (T1 hI hm) (by omega) (fun A' c'=>⟨_,aG.trans (by exact aZ) (aG.trans (aG.cons (aG.cons hins)) (yJ (q:=q.take (b7 m.id l)++(⟨m.id,a⟩,m)::q.drop (b7 m.id l)) ⟨?_,?_⟩ ?_ ?_)),hK⟩)))
 ·rw[List.map_append,List.map_cons,List.map_take,List.map_drop,hI.1];rfl
 ·intro e he
  rcases List.mem_append.1 he with he|he
  ·exact hI.2 e (List.mem_of_mem_take he)
  ·rcases List.mem_cons.1 he with rfl|he
   ·rfl
   ·exact hI.2 e (List.mem_of_mem_drop he)
 ·unfold Z6
  rw[hix,List.map_append,List.map_cons,List.map_take,List.map_drop]
 ·unfold Z6
  have:=UM m.id (q.map Prod.fst)
  simp only[List.length_append,List.length_cons,List.length_take,List.length_drop]
  omega
theorem Ahe (hs:Gl l) (hm:bY t l=some m) (hK:∀v,K v (Iz p (l.eraseIdx (b7 t l))::R)):CT 313 #[PO p,I6 t] (Iz p l::R) K:=by
 refine xW fun A c q hI=>?_
 have hl:=C1 hI
 obtain⟨h1,h2⟩:=hs
 obtain⟨a,ha⟩:=Qu hI (bA hm).1
 have hix:=N3 (t:=t) hI
 have hlt:=(List.getElem?_eq_some_iff.1 ha).1
 refine aA.entK (CA (h:=Xg (e:=⟨m.id,a⟩) (by omega) (Nt hI h2) (Aau hI hm) (by rw[hix,List.getElem?_map,ha];rfl) (fun A' c'=>⟨_,aG.trans (by exact aZ) (aG.trans (aG.cons (aG.cons (aG.trans (tN (f:=Q8) ha) (aG.drop (aG.refl _))))) (yJ (q:=q.eraseIdx (b7 t l)) ⟨?_,?_⟩ ?_ ?_)),hK _⟩)))
 ·rw[← mX,hI.1]
 ·exact fun e he=>hI.2 e (List.mem_of_mem_eraseIdx he)
 ·rw[hix,mX]
 ·rw[List.length_eraseIdx,if_pos (by rw[hix,List.length_map];exact hlt)]
end
end
end Go.Proofs.YtifgibijcmppmaaGreat
