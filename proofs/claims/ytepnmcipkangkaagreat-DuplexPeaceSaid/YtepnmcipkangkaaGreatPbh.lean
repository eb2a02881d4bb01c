/- A part of the proof: lemmas; each with the conditions that it states. -/
import Derived.Test.YtepnmcipkangkaaGreatPbg
import Derived.Test.YtepnmcipkangkaaGreatPbf
set_option linter.unusedVariables false
set_option linter.unusedSimpArgs false
set_option maxRecDepth 100000
set_option maxHeartbeats 40000000
namespace Go.Proofs.YtepnmcipkangkaaGreat
open Go Go.Proofs Go.Sl
attribute [local irreducible] aN fJ cY bN aM aS aA dM dN aV dL pt ro fB star sep bF
attribute [local irreducible] mp CV
variable {R C:List HP} {K:KP} {x mc i b p r k j:Nat} {a:Ca} {s:Cn} {M:Option Addr} {B id n st t:Int} {m:Sm} {l:List Sm} {fs:List Fm} {c:Cf} {q:xN} {g:dZ} {mv:Mv}
def YP (r:Nat) (fs:List Fm):HP:=fB fun F=>fB fun c=>sep (pt r [.slice F fs.length c] 189) (bV F c 178 u7 fs)
theorem Anx:aG (pt r [.slice none 0 0] 189::R) (YP r []::R):=aG.ex none (aG.ex 0 (aG.sep (aG.cons (aG.nilrow _ _ _))))
theorem Wp {F:Option Addr} {k2:Nat} (h:fs.length=k2):aG (pt r [.slice F k2 k] 189::bV F k 178 u7 fs::R) (YP r fs::R):=by
 subst h
 exact aG.ex F (aG.ex k (aG.sep (aG.refl _)))
theorem BF (hl:fs.length<=1000) (hK:K (.tuple #[]) (YP r (fs++Eg t st n)::R)):CT 184 #[I6 t,I6 st,I6 n,PO r] (YP r fs::R) K:=by
 refine aA.ex fun F=>aA.ex fun k=>aA.sep ?_
 unfold Eg at hK
 by_cases h:0<n
 ·rw[if_pos h] at hK
  refine aH Tryz.func184 ?_
  repeat' (first|(show aN _ _ _ _ _ _ _;(refine pV (E:=u7) (xs:=fs) (ys:= [zD t st n]) ?_;intro _ _))|refine v36 ?_|refine w5 ?_ ?_|((refine bh fun h=>?_) <;> try exact w6 h)|(refine aE fun hA=>?_;subst hA)|intro _)
  all_goals(refine aC ?_;exact aK (aG.trans (by exact aZ) ((Wp (fs:=fs++ [zD t st n]) rfl))) (hK))
 ·rw[if_neg h,List.append_nil] at hK
  refine aH Tryz.func184 ?_
  repeat' (first|refine v36 ?_|refine w5 ?_ ?_|((refine bh fun h=>?_) <;> try exact w6 h)|(refine aE fun hA=>?_;subst hA)|intro _)
  all_goals(refine aC ?_;exact aK (aG.trans (by exact aZ) ((Wp (fs:=fs) rfl))) (hK))
theorem Amg {y:Ys}:lO (yGr y)=lO y:=by cases y <;> rfl
theorem Ez:(m6 m).id=m.id:=by unfold m6;split <;> rfl
theorem P7:(m6 m).own=m.own:=by unfold m6;split <;> rfl
theorem Am8 (h:GH B m):GH B (m6 m):=by
 obtain⟨h1,h2,h3,h4⟩:=h
 unfold m6
 split
 ·refine⟨h1,h2,?_,?_⟩
  ·cases hy:m.y <;> (rw[hy] at h3;exact h3)
  ·cases hy:m.y <;> (rw[hy] at h4;exact h4)
 ·exact⟨h1,h2,h3,h4⟩
theorem Am3 {z:Yp} (h:JV B z):JV B (S4 z):=by
 obtain⟨h1,h2,h3,h4,h5,h6⟩:=h
 have:z.gr<=z.gr+nH z/\z.gr+nH z<=z.us+512:=by
  unfold nH rJ
  split <;> omega
 exact⟨h1,h2,h3,by show z.got<=z.gr+nH z;omega,this.2,h6⟩
theorem M6 (h:bO B s):bO B (zY s):=
 { h with
   rv:=Am3 h.rv
   sm:=W6 h.sm fun m=>Ez
   st:=fun q hq=>by
    obtain⟨m,hm,rfl⟩:=List.mem_map.1 hq
    exact Am8 (h.st m hm)
   ids:=fun q hq=>by
    obtain⟨m,hm,rfl⟩:=List.mem_map.1 hq
    rw[Ez];exact h.ids m hm
   own:=fun b=>by
    have h1:=h.own b
    unfold fW at h1
    show((s.l.map m6).filter fun m=>m.own == b).length<=32
    rw[oZ,List.map_map]
    rw[oZ] at h1
    have e:(Sm.own ∘ m6)=Sm.own:=funext fun m=>P7
    rw[e];exact h1
   mv:=by
    have:=h.mv
    show(s.mv.length:Int)+((s.l.map m6).length:Int)<=B
    rw[List.length_map];exact this }
theorem Apv:kb (m6 m)=kb m:=by
 unfold m6
 split
 ·unfold kb
  cases hy:m.y <;> rfl
 ·rfl
theorem Oe (h:fY c s):fY c (zY s):=
 { h with
   tn:=fun j hj=>by
    obtain⟨z,hz,hzi⟩:=h.tn j hj
    exact⟨_,List.mem_map_of_mem hz,by rw[Ez];exact hzi⟩
   cl:=fun ho=>by
    show s.l.map _= []
    rw[h.cl ho];rfl
   mo:=fun z hz=>by
    obtain⟨m,hm,rfl⟩:=List.mem_map.1 hz
    have h1:=h.mo m hm
    unfold m6
    split
    ·refine V7 h1 ?_ Amg
     have:=h1.y
     cases hy:m.y <;> (rw[hy] at this;exact this)
    ·exact h1
   nf:=by
    have h1:=h.nf
    unfold fW at h1
    show(((s.l.map m6).filter fun m=>m.own == false).length:Int)<=s.sh.g.st
    rw[oZ,List.map_map]
    rw[oZ] at h1
    have e:(Sm.own ∘ m6)=Sm.own:=funext fun m=>P7
    rw[e];exact h1
   kp:=by
    have h1:=h.kp
    show s.rv.us+zA (s.l.map m6)<=s.rv.got
    rw[Vo fun m=>Apv];exact h1
   lk:=fun j=>(h.lk j).trans (Lh (q:=m6) (fun _=>Ez) fun m=>by unfold m6;split <;> rfl) }
theorem Apz (h:x9 m):x9 { m with y:=yGr m.y }:=⟨h.1.trans Amg.symm,h.2⟩
theorem ZN (h:l[j]?=some m):(l.take (j+1)).flatMap mD=(l.take j).flatMap mD++mD m:=by
 rw[List.take_add_one,h]
 simp
theorem En:(Eg t st n).length<=1:=by unfold Eg;split <;> simp
theorem XR:(mD m).length<=1:=by
 unfold mD
 split
 ·exact En
 ·simp
theorem flat_len:∀ {l:List Sm},(l.flatMap mD).length<=l.length
 | []=>by simp
 |m::l=>by
  have h1:=XR (m:=m)
  have h2:=flat_len (l:=l)
  rw[List.flatMap_cons,List.length_append,List.length_cons]
  omega
theorem O6 (hI:bO B s) (hK:∀A c,K (.slice A (iR s).length c) (bV A c 178 u7 (iR s)::cB x a (zY s) M mc R)):CT 109 #[PO x] (cB x a s M mc R) K:=by
 have hbb:=hI.bb
 have hrv:=hI.rv
 unfold JV at hrv
 have h64:=hI.sm.1
 dsimp only[cB,rI]
 refine aH Tryz.func109 ?_
 repeat' (first|refine v79 ?_|refine w5 ?_ ?_|((refine bh fun h=>?_) <;> try exact w6 h)|(refine aE fun hA=>?_;subst hA)|intro _|(show aA _ 185 _ _ _;refine CA (h:=Ko (cap:=s.rv.cap) (gr:=s.rv.gr) (us:=s.rv.us) (by omega) (by omega) ?_))|(show aA _ 184 _ _ _;refine CA (h:=aA.ent Anx (BF (fs:= []) (by decide) ?_)))|(show aA _ 60 _ _ _;refine CA (h:=Ae (l:=s.l) ?_)))
 rename_i r3
 refine jG (fun n a' C'=>∃(j:Nat) (L:List Fm),j+n=s.l.length/\L=Eg 10 0 (nH s.rv)++(s.l.take j).flatMap mD/\dP a' [(0,PO x),(3,PO r3),(4,.func (.func 184) #[] #[PO r3]),(22,I6 s.l.length),(23,I6 j)]/\C'=YP r3 L::cB x a { s with rv:=S4 s.rv,l:=(s.l.take j).map m6++s.l.drop j } M mc R) s.l.length (cN s.l.length ⟨0,[]++Eg 10 0 (nH s.rv),by omega,by simp,⟨rfl,rfl,rfl,rfl,rfl,trivial⟩,rfl⟩ (by omega)) ?_
 rintro n a' C' ⟨j,L,hj,hL,ha,rfl⟩
 refine iT _ ha ?_
 simp only[gH]
 have hLl:=congrArg List.length hL
 rw[List.length_append] at hLl
 have hl1:=En (t:=10) (st:=0) (n:=nH s.rv)
 have hl2:=flat_len (l:=s.l.take j)
 rw[List.length_take] at hl2
 by_cases hlt:j<s.l.length
 ·obtain⟨m,hm⟩:∃m,s.l[j]?=some m:=⟨_,List.getElem?_eq_getElem hlt⟩
  have hat:=WS (g:=m6) hm
  have hset:=Qu (g:=m6) hm
  have hS:=WN hI.sm (R9 (g:=m6) (l:=s.l) (j:=j) fun _=>Ez)
  have hft:=ZN hm
  have hkk:bA m.x=1\/bA m.x=2:=by cases m.x;exact .inl rfl;exact .inr rfl
  dsimp only[cB,rI]
  cases hr:XZ m
  ·have hr2:decide (m.sta=1\/m.sta=2)=false:=hr
   have e1:m6 m=m:=by unfold m6;rw[hr];rfl
   have e2:mD m= []:=by unfold mD;rw[hr];rfl
   rw[e2,List.append_nil] at hft
   rcases hkk with hk|hk
   ·repeat' (first|refine v79 ?_|refine w5 ?_ ?_|((refine bh fun h=>?_) <;> try exact w6 h)|(refine aE fun hA=>?_;subst hA)|intro _|(show aA _ 62 _ _ _;refine CA (h:=CB (l:=(s.l.take j).map m6++s.l.drop j) hS hat (fun bq li t r hok=>?_)))|(show aA _ 70 _ _ _;refine CA (h:=sM (x:=m.x) ?_);rw[hk])|(show aA _ 186 _ _ _;refine CA (h:=eQ (s:=m.sta) ?_);rw[hr2]))
    all_goals(show aV _ _ _ _;exact uF (m:=n - 1) (by omega) (aG.trans (by exact aZ) (aG.trans (aG.cons (A:=YP r3 L) (cU (m:=m) hok)) (aG.cons (A:=YP r3 L) (nA (x:=x) (a:=a) (s:= { s with rv:=S4 s.rv,l:=(s.l.take j).map m6++s.l.drop j }) (M:=M) (mc:=mc) (R:=R) (m':=m) hat rfl)))) ⟨j+1,L,by omega,by rw[hL,hft],⟨rfl,rfl,rfl,rfl,rfl,trivial⟩,by rw[<- hset,e1]⟩)
   ·repeat' (first|refine v79 ?_|refine w5 ?_ ?_|((refine bh fun h=>?_) <;> try exact w6 h)|(refine aE fun hA=>?_;subst hA)|intro _|(show aA _ 62 _ _ _;refine CA (h:=CB (l:=(s.l.take j).map m6++s.l.drop j) hS hat (fun bq li t r hok=>?_)))|(show aA _ 70 _ _ _;refine CA (h:=sM (x:=m.x) ?_);rw[hk])|(show aA _ 186 _ _ _;refine CA (h:=eQ (s:=m.sta) ?_);rw[hr2]))
    all_goals(show aV _ _ _ _;exact uF (m:=n - 1) (by omega) (aG.trans (by exact aZ) (aG.trans (aG.cons (A:=YP r3 L) (cU (m:=m) hok)) (aG.cons (A:=YP r3 L) (nA (x:=x) (a:=a) (s:= { s with rv:=S4 s.rv,l:=(s.l.take j).map m6++s.l.drop j }) (M:=M) (mc:=mc) (R:=R) (m':=m) hat rfl)))) ⟨j+1,L,by omega,by rw[hL,hft],⟨rfl,rfl,rfl,rfl,rfl,trivial⟩,by rw[<- hset,e1]⟩)
  ·have hr2:decide (m.sta=1\/m.sta=2)=true:=hr
   have e1:m6 m= { m with y:=yGr m.y }:=by unfold m6;rw[hr];rfl
   rcases hkk with hk|hk
   ·have e2:mD m=Eg 10 m.id (Hz m.y):=by unfold mD;rw[hr,hk];rfl
    rw[e2] at hft
    repeat' (first|refine v79 ?_|refine w5 ?_ ?_|((refine bh fun h=>?_) <;> try exact w6 h)|(refine aE fun hA=>?_;subst hA)|intro _|(show aA _ 62 _ _ _;refine CA (h:=CB (l:=(s.l.take j).map m6++s.l.drop j) hS hat (fun bq li t r hok=>?_)))|(show aA _ 70 _ _ _;refine CA (h:=sM (x:=m.x) ?_);rw[hk])|(show aA _ 186 _ _ _;refine CA (h:=eQ (s:=m.sta) ?_);rw[hr2])|(show aA _ 63 _ _ _;refine CA (h:=Aev ?_))|(show aA _ 187 _ _ _;refine CA (h:=Mi (y:=m.y) ?_))|(show aA _ 184 _ _ _;refine CA (h:=BF (fs:=L) (by omega) ?_)))
    all_goals(show aV _ _ _ _;exact uF (m:=n - 1) (by omega) (aG.trans (by exact aZ) (aG.trans (aG.cons (A:=YP r3 (L++Eg 10 m.id (Hz m.y))) (cU (m:= { m with y:=yGr m.y }) (Apz hok))) (aG.cons (A:=YP r3 (L++Eg 10 m.id (Hz m.y))) (nA (x:=x) (a:=a) (s:= { s with rv:=S4 s.rv,l:=(s.l.take j).map m6++s.l.drop j }) (M:=M) (mc:=mc) (R:=R) (m':= { m with y:=yGr m.y }) hat rfl)))) ⟨j+1,L++Eg 10 m.id (Hz m.y),by omega,by rw[hL,hft,List.append_assoc],⟨rfl,rfl,rfl,rfl,rfl,trivial⟩,by rw[<- hset,e1]⟩)
   ·have e2:mD m=Eg 11 m.id (Hz m.y):=by unfold mD;rw[hr,hk];rfl
    rw[e2] at hft
    repeat' (first|refine v79 ?_|refine w5 ?_ ?_|((refine bh fun h=>?_) <;> try exact w6 h)|(refine aE fun hA=>?_;subst hA)|intro _|(show aA _ 62 _ _ _;refine CA (h:=CB (l:=(s.l.take j).map m6++s.l.drop j) hS hat (fun bq li t r hok=>?_)))|(show aA _ 70 _ _ _;refine CA (h:=sM (x:=m.x) ?_);rw[hk])|(show aA _ 186 _ _ _;refine CA (h:=eQ (s:=m.sta) ?_);rw[hr2])|(show aA _ 63 _ _ _;refine CA (h:=Aev ?_))|(show aA _ 187 _ _ _;refine CA (h:=Mi (y:=m.y) ?_))|(show aA _ 184 _ _ _;refine CA (h:=BF (fs:=L) (by omega) ?_)))
    all_goals(show aV _ _ _ _;exact uF (m:=n - 1) (by omega) (aG.trans (by exact aZ) (aG.trans (aG.cons (A:=YP r3 (L++Eg 11 m.id (Hz m.y))) (cU (m:= { m with y:=yGr m.y }) (Apz hok))) (aG.cons (A:=YP r3 (L++Eg 11 m.id (Hz m.y))) (nA (x:=x) (a:=a) (s:= { s with rv:=S4 s.rv,l:=(s.l.take j).map m6++s.l.drop j }) (M:=M) (mc:=mc) (R:=R) (m':= { m with y:=yGr m.y }) hat rfl)))) ⟨j+1,L++Eg 11 m.id (Hz m.y),by omega,by rw[hL,hft,List.append_assoc],⟨rfl,rfl,rfl,rfl,rfl,trivial⟩,by rw[<- hset,e1]⟩)
 ·obtain rfl:j=s.l.length:=by omega
  rw[List.take_length] at hL
  have hL:L=iR s:=hL
  subst hL
  rw[List.take_length,List.drop_length,List.append_nil]
  refine xQ fun F=>xQ fun k=>HJ ?_
  repeat' (first|refine v79 ?_|refine w5 ?_ ?_|((refine bh fun h=>?_) <;> try exact w6 h)|(refine aE fun hA=>?_;subst hA)|intro _)
  all_goals(refine aC ?_;exact aB (hK _ _))
theorem WT (hI:bO B s) (hk:fY c s) (h:(eJ s.tr)[j]?=some id):∃m,bY id s.l=some m/\m.id=id:=by
 have h1:=Lg hI.tr (n:=s.tr.1.length+1) (lv:=cC 0 s.tr.1) (fun y hy=>(lV hI.tr.nd hy).1) id (List.mem_of_getElem? h)
 obtain⟨m,hm,rfl⟩:=hk.tn id h1
 exact⟨m,Am9 hI.sm hm,rfl⟩
theorem Ww {z:eW} (h:N3 z):∀ {n:Nat} {lv:List Int},lv.Nodup->(∀y∈lv,fC z y)->(Av z n lv).length<=64 * n
 |0,_,_,_=>Nat.zero_le _
 |n+1,lv,hn,hl=>by
  have h64:=h.len
  have h1:=Jf (s:=z) hn hl
  have h2:=Ww h (n:=n) (Amj h.nd hn) (fun q hq=>by
   unfold KG at hq
   exact(AV h.nd q (BJ.1 hq)).1)
  unfold Av
  split
  ·simp
  ·rw[List.length_append];omega
theorem Gk (hI:bO B s):(eJ s.tr).length<=10000:=by
 have h1:=hI.tr.len
 have h2:=Ww hI.tr (n:=s.tr.1.length+1) (lv:=cC 0 s.tr.1) (B9 hI.tr.nd) fun y hy=>(lV hI.tr.nd hy).1
 unfold eJ
 omega
theorem map_take {α β:Type} {f:α->β} {l:List α} {z:α} (h:l[j]?=some z):(l.take (j+1)).map f=(l.take j).map f++ [f z]:=by
 rw[List.take_add_one,h]
 simp
def kK:List Nat:= [0,0,0,4,12,28,0,124,0,256,768,1792,4092,8188,16380,32764,16380,81916,212988,475132,16380,2097148,4194300,8388604,16777214,33554430,67108863,134217727]
def kH:List Nat:= [134217727,67108863,33554430,16777214,8388604,4194300,2097148,16380,475132,212988,81916,16380,32764,16380,8188,4092,1792,768,256,0,124,0,28,12,4,0,0,0]
def kI:List (Nat×Nat):= [(2,0),(3,0),(4,0),(5,0),(6,0),(7,1),(8,1),(9,1),(10,1),(11,1),(12,1),(13,0),(14,0),(15,1),(16,1),(17,1),(18,1),(19,1),(20,1),(21,1),(22,1),(1,5),(23,0),(24,0),(25,1),(0,6),(26,1),(27,0)]
theorem wA (hI:bO B s) (hk:fY c s) (hK:∀A c,K (.slice A (eI s).length c) (bV A c 354 OS (eI s)::cB x a s M mc R)):CT 189 #[PO x] (cB x a s M mc R) K:=by
 have hbb:=hI.bb
 have hld:=hI.ld.ok (by omega)
 have htl:=hI.tr.len
 obtain⟨rk,hrk⟩:=hI.tr.rk
 have hll:=Gk hI
 unfold eI at hK
 dsimp only[cB,rI]
 refine aH Tryz.func189 ?_
 repeat' (first|refine v72 ?_|refine R6 kK kH kI ?_|refine w5 ?_ ?_|((refine bh fun h=>?_) <;> try exact w6 h)|(refine aE fun hA=>?_;subst hA)|intro _|(show aA _ 280 _ _ _;refine CA (h:=Vd (s:=s.tr) (r:=rk) hI.tr.kok (by omega) hI.tr.nd hrk (fun Bq dq=>?_))))
 refine jG (fun n a' C'=>∃(j:Nat) (A:Option Addr) (k:Nat),j+n=(eJ s.tr).length/\dP a' [(0,PO x),(3,.slice A (((eJ s.tr).take j).map (pP s)).length k),(12,.slice Bq (eJ s.tr).length dq),(13,I6 (eJ s.tr).length),(14,I6 j)]/\C'=bV A k 354 OS (((eJ s.tr).take j).map (pP s))::bV Bq dq 3 pM (eJ s.tr)::cB x a s M mc R) (eJ s.tr).length (cN (eJ s.tr).length ⟨0,none,0,by omega,⟨rfl,rfl,rfl,rfl,rfl,trivial⟩,rfl⟩) ?_
 rintro n a' C' ⟨j,A,k,hj,ha,rfl⟩
 refine iT _ ha ?_
 simp only[gH]
 have hlt0:(((eJ s.tr).take j).map (pP s)).length=min j (eJ s.tr).length:=by rw[List.length_map,List.length_take]
 by_cases hlt:j<(eJ s.tr).length
 ·obtain⟨id,hid⟩:∃id,(eJ s.tr)[j]?=some id:=⟨_,List.getElem?_eq_getElem hlt⟩
  obtain⟨m,hm,hmid⟩:=WT hI hk hid
  have hi:=(aX hm).1
  have hmt:=map_take (f:=pP s) hid
  have hv:(eJ s.tr)[((j:Nat):Int).toNat]?=some id:=by rw[Int.toNat_natCast];exact hid
  have hlj:(((eJ s.tr).take j).map (pP s)).length=j:=by omega
  dsimp only[cB,rI]
  cases hg:UD m
  ·have hg2:decide (m.sta=1\/m.sta=3)=false:=hg
   have e:pP s id=⟨id,if eA id s.tr.1=true then(dH id s.tr).w else 0,false⟩:=by unfold pP;rw[hm];dsimp only;rw[hg];rfl
   repeat' (first|(show aN _ _ _ _ _ _ _;(refine pV (E:=OS) (xs:=((eJ s.tr).take j).map (pP s)) (ys:= [⟨id,if eA id s.tr.1=true then(dH id s.tr).w else 0,false⟩]) ?_;intro A2 k2))|refine v72 ?_|refine R6 kK kH kI ?_|refine w5 ?_ ?_|((refine bh fun h=>?_) <;> try exact w6 h)|(refine aE fun hA=>?_;subst hA)|intro _|(show aA _ 126 _ _ _;refine CA (h:=Q9 (l:=s.l) hI.sm hm (fun bq li t r hok=>?_)))|(show aA _ 281 _ _ _;refine CA (h:=Ho (s:=s.tr) ?_))|(show aA _ 180 _ _ _;refine CA (h:=pS (s:=m.sta) ?_);rw[hg2]))
   all_goals rw[<- e,<- hmt]
   all_goals(show aV _ _ _ _;exact uF (m:=n - 1) (by omega) (aG.trans (by exact aZ) (aG.cons (A:=bV A2 k2 354 OS (((eJ s.tr).take (j+1)).map (pP s))) (aG.cons (A:=bV _ dq 3 pM (eJ s.tr)) (aG.trans (cU (m:=m) hok) (eD (x:=x) (a:=a) (s:=s) (M:=M) (mc:=mc) (R:=R) hi))))) ⟨j+1,A2,k2,by omega,⟨rfl,rfl,rfl,rfl,rfl,trivial⟩,rfl⟩)
  ·have hg2:decide (m.sta=1\/m.sta=3)=true:=hg
   have e:pP s id=⟨id,if eA id s.tr.1=true then(dH id s.tr).w else 0,Rp m.x (bB id s.ld)⟩:=by unfold pP;rw[hm];dsimp only;rw[hg];rfl
   repeat' (first|(show aN _ _ _ _ _ _ _;(refine pV (E:=OS) (xs:=((eJ s.tr).take j).map (pP s)) (ys:= [⟨id,if eA id s.tr.1=true then(dH id s.tr).w else 0,Rp m.x (bB id s.ld)⟩]) ?_;intro A2 k2))|refine v72 ?_|refine R6 kK kH kI ?_|refine w5 ?_ ?_|((refine bh fun h=>?_) <;> try exact w6 h)|(refine aE fun hA=>?_;subst hA)|intro _|(show aA _ 126 _ _ _;refine CA (h:=Q9 (l:=s.l) hI.sm hm (fun bq li t r hok=>?_)))|(show aA _ 281 _ _ _;refine CA (h:=Ho (s:=s.tr) ?_))|(show aA _ 180 _ _ _;refine CA (h:=pS (s:=m.sta) ?_);rw[hg2])|(show aA _ 42 _ _ _;refine CA (h:=N8 ?_))|(show aA _ 182 _ _ _;refine CA (h:=uZ (s:=s.ld) hld ?_))|(show aA _ 267 _ _ _;refine CA (h:=Alj (x:=m.x) ?_)))
   all_goals rw[<- e,<- hmt]
   all_goals(show aV _ _ _ _;exact uF (m:=n - 1) (by omega) (aG.trans (by exact aZ) (aG.cons (A:=bV A2 k2 354 OS (((eJ s.tr).take (j+1)).map (pP s))) (aG.cons (A:=bV _ dq 3 pM (eJ s.tr)) (aG.trans (cU (m:=m) hok) (eD (x:=x) (a:=a) (s:=s) (M:=M) (mc:=mc) (R:=R) hi))))) ⟨j+1,A2,k2,by omega,⟨rfl,rfl,rfl,rfl,rfl,trivial⟩,rfl⟩)
 ·obtain rfl:j=(eJ s.tr).length:=by omega
  rw[List.take_length]
  repeat' (first|refine v72 ?_|refine R6 kK kH kI ?_|refine w5 ?_ ?_|((refine bh fun h=>?_) <;> try exact w6 h)|(refine aE fun hA=>?_;subst hA)|intro _)
  all_goals(refine aC ?_;exact aB (hK _ _))
def Ace (q:xN) (s:Cn):Cn:= { s with pk:=q.1,pc:=q.2 }
def Am (id:Int) (m:Sm) (s:Cn):Fm:=tQ (bA m.x - 1) id (iJ m.x (bB id s.ld)) (By m.x (bB id s.ld))
def C6 (id:Int) (m:Sm) (s:Cn):Int:=if bA m.x=1 then((iJ m.x (bB id s.ld)).size:Nat) else if iJ m.x (bB id s.ld)=⟨#[]⟩/\By m.x (bB id s.ld)=true then 0 else 1
def qB (id:Int) (m:Sm) (q:xN) (s:Cn):Cn:= { s with ld:=(if bA m.x=1 then jI id ((iJ m.x (bB id s.ld)).size:Nat) s.ld else s.ld),pk:=(kB id (sP id q.1 - fU ((iJ m.x (bB id s.ld)).size:Nat)) q).1,pc:=(kB id (sP id q.1 - fU ((iJ m.x (bB id s.ld)).size:Nat)) q).2 }
def vR (id:Int) (m:Sm) (q:xN) (s:Cn):Cn:=kW (D7 m (bB id s.ld)) (tY ⟨1,id,C6 id m s,iJ m.x (bB id s.ld),By m.x (bB id s.ld)⟩ (wV (D7 m (bB id s.ld)) (qB id m q s)))
theorem HT (h:AD (s.pk,s.pc) (eI s)=(none,q)):rV s=(none,Ace q s):=by
 unfold rV;rw[h];rfl
theorem Ep (h:AD (s.pk,s.pc) (eI s)=(some id,q)) (hm:bY id s.l=some m) (hr:IK m (bB id s.ld)=true):rV s=(some (Am id m s),vR id m q s):=by
 unfold rV;rw[h];dsimp only;rw[hm];dsimp only;rw[if_neg (by rw[hr];decide)];rfl
theorem Xd {pk:List (KE Int)}:∀ {l:List Tu},tL pk l=some id->∃y∈l,y.id=id
 | [],h=>by cases h
 |x::r,h=>by
  unfold tL at h
  split at h
  ·cases h;exact⟨x,List.mem_cons_self ..,rfl⟩
  ·obtain⟨y,hy,e⟩:=Xd h
   exact⟨y,List.mem_cons_of_mem _ hy,e⟩
theorem Ov:∀ {l:List Tu} {seen:List (KE Bool)} {ck:Nat},∀y∈rN seen ck l,y∈l/\y.rd=true
 | [],_,_,_,hy=>by cases hy
 |x::r,seen,ck,y,hy=>by
  unfold rN at hy
  split at hy
  ·rename_i hc
   rcases List.mem_cons.1 hy with rfl|hy
   ·exact⟨List.mem_cons_self ..,hc.2⟩
   ·obtain⟨h1,h2⟩:=Ov y hy
    exact⟨List.mem_cons_of_mem _ h1,h2⟩
  ·obtain⟨h1,h2⟩:=Ov y hy
   exact⟨List.mem_cons_of_mem _ h1,h2⟩
theorem Amx {z:xN} {l:List Tu} (h:AD z l=(some id,q)):∃y∈l,y.id=id/\y.rd=true:=by
 unfold AD at h
 cases hw:rN [] 0 l with
 |nil=>rw[hw] at h;cases h
 |cons x r=>
  rw[hw] at h
  dsimp only at h
  have key:∀ {pk:List (KE Int)},tL pk (x::r)=some id->∃y∈l,y.id=id/\y.rd=true:=fun hf=>by
   obtain⟨y,hy,e⟩:=Xd hf
   rw[<- hw] at hy
   obtain⟨h1,h2⟩:=Ov y hy
   exact⟨y,h1,e,h2⟩
  cases hf:tL z.1 (x::r) with
  |some k=>
   rw[hf] at h
   cases h
   exact key hf
  |none=>
   rw[hf] at h
   exact key (congrArg Prod.fst h)
theorem CC (hI:bO B s) (hk:fY c s) (h:AD (s.pk,s.pc) (eI s)=(some id,q)):∃m,bY id s.l=some m/\IK m (bB id s.ld)=true:=by
 obtain⟨y,hy,hid,hrd⟩:=Amx h
 obtain⟨k,hk2,rfl⟩:=List.mem_map.1 hy
 have hid:k=id:=hid
 subst hid
 obtain⟨j,hj⟩:=List.getElem?_of_mem hk2
 obtain⟨m,hm,_⟩:=WT hI hk hj
 refine⟨m,hm,?_⟩
 unfold pP at hrd
 rw[hm] at hrd
 exact hrd
theorem Zr {z:Ld}:0<=bB id z:=by
 unfold bB
 split
 ·omega
 ·exact Int.le_refl 0
theorem E5 {x:Xs} (h:xSz x):(iJ x n).size<=256:=by
 cases x with
 |b z=>
  have e:(iJ (.b z) n).size=min (C4 z.bs n) z.bs.length:=by
   show((z.bs.take (C4 z.bs n)).toArray).size=_
   simp
  rw[e];unfold C4;omega
 |i z=>
  cases hl:z.l with
  |nil=>
   have e:iJ (.i z) n=⟨#[]⟩:=by simp only[iJ,hl]
   rw[e];decide
  |cons d r=>
   have e:iJ (.i z) n=d:=by simp only[iJ,hl]
   rw[e]
   exact h d (by rw[hl];exact List.mem_cons_self ..)
theorem App {x:Xs} (hk:bA x=1) (hn:0<=n):((iJ x n).size:Int)<=n:=by
 cases x with
 |b z=>
  have e:(iJ (.b z) n).size=min (C4 z.bs n) z.bs.length:=by
   show((z.bs.take (C4 z.bs n)).toArray).size=_
   simp
  rw[e];unfold C4;omega
 |i z=>cases hk
theorem VQ (hI:bO B s) (hk:fY c s) (hm:bY id s.l=some m) (hx:bA m.x=1):nS id ((iJ m.x (bB id s.ld)).size:Nat) s.ld=0:=by
 obtain⟨hi,hmid⟩:=aX hm
 have h1:=(Uf hI.ld).2 ((hk.lk id).2 ⟨m,List.mem_of_getElem? hi,hmid,hx⟩)
 have h2:=App hx (Zr (id:=id) (z:=s.ld))
 unfold nS
 rw[if_neg (by rw[h1];decide),if_neg (by omega),if_neg (by omega)]
theorem Ac7 (h:k<=256):1<=fU k/\fU k<=1024:=by
 unfold fU
 split <;> omega
theorem xL:(D7 m n).id=m.id:=by unfold D7;split <;> rfl
theorem VU:(D7 m n).own=m.own:=by unfold D7;split <;> rfl
theorem Aaq:bA (D7 m n).x=bA m.x:=by
 unfold D7
 split
 ·exact Ff
 ·rfl
theorem Ank (h:GH B m):GH B (D7 m n):=by
 obtain⟨h1,h2,h3,h4⟩:=h
 unfold D7
 split
 ·refine⟨h1,?_,h3,h4⟩
  show Mo (xTk m.x n)<=B
  cases hx:m.x with
  |b z=>rw[hx] at h2;exact h2
  |i z=>
   rw[hx] at h2
   unfold xTk
   dsimp only
   split <;> exact h2
 ·exact⟨h1,h2,h3,h4⟩
theorem Am4 (h:RZ c g m):RZ c g (D7 m n):=by
 obtain⟨h1,h2,h3,h4⟩:=h
 unfold D7
 split
 ·refine⟨h1,?_,Ff.trans h3,?_⟩
  ·show Adv c (xTk m.x n)
   cases hx:m.x with
   |b z=>rw[hx] at h2;exact h2
   |i z=>
    rw[hx] at h2
    unfold xTk
    dsimp only
    split <;> exact h2
  ·show xSz (xTk m.x n)
   cases hx:m.x with
   |b z=>trivial
   |i z=>
    rw[hx] at h4
    unfold xTk
    dsimp only
    split
    ·exact h4
    ·rename_i d r hl
     exact fun y hy=>h4 y (by rw[hl];exact List.mem_cons_of_mem _ hy)
 ·exact⟨h1,h2,h3,h4⟩
theorem Ap9:kb (D7 m n)=kb m:=by
 unfold kb
 rw[Aaq]
 have:iQ (D7 m n).y=iQ m.y:=by unfold D7;split <;> rfl
 rw[this]
theorem Anf (h:bO B s) (hq:Lu q):bO B (Ace q s):= { h with pk:=hq }
theorem Xp (h:bO B s) (hk:fY c s) (hm:bY id s.l=some m) (hq:Lu q) (hB:B+300<=250000000):bO (B+300) (qB id m q s):=by
 have hs:=E5 (n:=bB id s.ld) (hk.mo m (List.mem_of_getElem? (aX hm).1)).sz
 exact { h.mono (B':=B+300) (by omega) hB with
  pk:=N5 hq
  ld:=by
   show G7 (B+300) (if bA m.x=1 then jI id ((iJ m.x (bB id s.ld)).size:Nat) s.ld else s.ld)
   split
   ·exact Y8 h.ld (by omega) (by omega)
   ·exact h.ld.mono (by omega) }
theorem Gl (hm:bY id s.l=some m):wV (D7 m (bB id s.ld)) (qB id m q s)= { qB id m q s with l:=s.l.set (cI id s.l) (D7 m (bB id s.ld)) }:=eO (s:=qB id m q s) (id:=id) (xL.trans (aX hm).2)
theorem FW (h:bO B s) (hk:fY c s) (hm:bY id s.l=some m) (hq:Lu q) (hB:B+300<=250000000):bO (B+300) { tY mv (qB id m q s) with l:=s.l.set (cI id s.l) (D7 m (bB id s.ld)) }:=by
 obtain⟨hi,hmid⟩:=aX hm
 have h1:=Xp h hk hm hq hB
 refine l7 (s:=tY mv (qB id m q s)) (m:=m) ?_ hi xL VU (Ank (h1.st m (List.mem_of_getElem? hi)))
 exact { h1 with
  mv:=by
   have:=h.mv
   show((s.mv++ [mv]).length:Int)+s.l.length<=B+300
   rw[List.length_append,List.length_singleton];omega }
theorem Yc (hk:fY c s) (hm:bY id s.l=some m):fY c { tY mv (qB id m q s) with l:=s.l.set (cI id s.l) (D7 m (bB id s.ld)) }:=by
 obtain⟨hi,hmid⟩:=aX hm
 have h1:fY c (tY mv (qB id m q s)):= { hk with
  lk:=fun j=>by
   show j∈(if bA m.x=1 then jI id ((iJ m.x (bB id s.ld)).size:Nat) s.ld else s.ld).l.map gQ.id↔_
   split
   ·rw[Yy];exact hk.lk j
   ·exact hk.lk j }
 exact zF (s:=tY mv (qB id m q s)) h1 hi xL VU (Am4 (hk.mo m (List.mem_of_getElem? hi))) (by rw[Ap9];exact Nat.le_refl _) Aaq
theorem PT (h:bO B s) (hk:fY c s) (hm:bY id s.l=some m) (hq:Lu q) (hB:B+300<=250000000):bO (B+300) (vR id m q s):=by
 unfold vR
 rw[Gl hm]
 exact Ej (FW h hk hm hq hB) (mO (m':=D7 m (bB id s.ld)) hm xL)
theorem RD (h:bO B s) (hk:fY c s) (hm:bY id s.l=some m) (hq:Lu q) (hB:B+300<=250000000):fY c (vR id m q s):=by
 unfold vR
 rw[Gl hm]
 exact ED (FW h hk hm hq hB) (Yc hk hm) (mO (m':=D7 m (bB id s.ld)) hm xL)
theorem Anj {d:ByteArray} (h:d≠⟨#[]⟩):(d.toList == (ByteArray.mk #[]).toList)=false:=by
 rw[beq_eq_false_iff_ne]
 intro e
 apply h
 rw[ByteArray.toList_eq,ByteArray.toList_eq] at e
 exact ByteArray.ext (Array.toList_inj.1 e)
def iW:List (Nat×Nat):= [(4,0),(5,1),(0,1),(1,1),(2,1),(3,1),(6,1),(7,0),(8,0),(9,0),(10,0),(11,0)]
def iI:List (Nat×Nat):= [(5,0),(6,0),(7,0),(8,1),(0,1),(1,1),(2,1),(3,1),(4,1),(9,1)]
theorem T4 (hI:bO B s) (hk:fY c s) (h:AD (s.pk,s.pc) (eI s)=(none,q)) (hK:K (.tuple #[.agg #[I6 0,I6 0,.bool false,.string ⟨#[]⟩,I6 0,I6 0,I6 0,.bool false,I6 0,I6 0,I6 0,.slice none 0 0],.bool false]) (cB x a (Ace q s) M mc R)):CT 110 #[PO x] (cB x a s M mc R) K:=by
 have hV:MD (s.pk,s.pc) (eI s)=.tuple #[I6 0,.bool false]:=by unfold MD;rw[h]
 have hln:(eI s).length<=10000:=by unfold eI;rw[List.length_map];exact Gk hI
 refine aH Tryz.func110 ?_
 repeat' (first|refine v88 ?_|refine dw iW ?_|refine dw iI ?_|refine w5 ?_ ?_|((refine bh fun h=>?_) <;> try exact w6 h)|(refine aE fun hA=>?_;subst hA)|intro _|(show aA _ 189 _ _ _;refine CA (h:=wA (x:=x) (a:=a) (s:=s) (M:=M) (mc:=mc) hI hk (fun _ _=>?_)))|(show aA _ 188 _ _ _;refine CA (h:=yG (s:=(s.pk,s.pc)) (l:=eI s) hln hI.pk ?_);rw[hV,h]))
 all_goals(refine aC ?_;exact aB (hK))
theorem TW (hI:bO B s) (hk:fY c s) (hB:B+300<=250000000) (h:AD (s.pk,s.pc) (eI s)=(some id,q)) (hm:bY id s.l=some m) (hr:IK m (bB id s.ld)=true) (hK:∀M mc,K (.tuple #[.agg #[I6 (bA m.x - 1),I6 id,.bool (By m.x (bB id s.ld)),.string (iJ m.x (bB id s.ld)),I6 0,I6 0,I6 0,.bool false,I6 0,I6 0,I6 0,.slice none 0 0],.bool true]) (cB x a (vR id m q s) M mc R)):CT 110 #[PO x] (cB x a s M mc R) K:=by
 have hV:MD (s.pk,s.pc) (eI s)=.tuple #[I6 id,.bool true]:=by unfold MD;rw[h]
 have hln:(eI s).length<=10000:=by unfold eI;rw[List.length_map];exact Gk hI
 have hbb:=hI.bb
 have hmv:=hI.mv
 have hld:=hI.ld.ok (by omega)
 obtain⟨hi,hmid⟩:=aX hm
 have hq:Lu q:=by
  have:=OC (s:=(s.pk,s.pc)) (l:=eI s) hI.pk
  rw[h] at this;exact this
 have hql:=F9 hq id
 have hsz:=E5 (n:=bB id s.ld) (hk.mo m (List.mem_of_getElem? hi)).sz
 have hco:=Ac7 hsz
 have hI2:=FW (mv:=⟨1,id,C6 id m s,iJ m.x (bB id s.ld),By m.x (bB id s.ld)⟩) hI hk hm hq hB
 have hat:=mO (m':=D7 m (bB id s.ld)) hm xL
 unfold vR at hK
 rw[Gl hm] at hK
 have hkk:bA m.x=1\/bA m.x=2:=by cases m.x;exact .inl rfl;exact .inr rfl
 rcases hkk with hx|hx
 ·have hsp:=VQ hI hk hm hx
  have hx1:bA m.x - 1=0:=by omega
  have hN:C6 id m s=((iJ m.x (bB id s.ld)).size:Nat):=if_pos hx
  rw[hN] at hK hI2
  rw[hx1] at hK
  have e1:qB id m q s= { s with ld:=jI id ((iJ m.x (bB id s.ld)).size:Nat) s.ld,pk:=(kB id (sP id q.1 - fU ((iJ m.x (bB id s.ld)).size:Nat)) q).1,pc:=(kB id (sP id q.1 - fU ((iJ m.x (bB id s.ld)).size:Nat)) q).2 }:=by unfold qB;rw[if_pos hx]
  rw[e1] at hK hI2
  refine aH Tryz.func110 ?_
  repeat' (first|refine v88 ?_|refine dw iW ?_|refine dw iI ?_|refine w5 ?_ ?_|((refine bh fun h=>?_) <;> try exact w6 h)|(refine aE fun hA=>?_;subst hA)|intro _|(show aA _ 189 _ _ _;refine CA (h:=wA (x:=x) (a:=a) (s:=s) (M:=M) (mc:=mc) hI hk (fun _ _=>?_)))|(show aA _ 188 _ _ _;refine CA (h:=yG (s:=(s.pk,s.pc)) (l:=eI s) hln hI.pk ?_);rw[hV,h])|(show aA _ 126 _ _ _;refine CA (h:=g9 (l:=s.l) hI.sm hm (fun bq=>?_)))|(show aA _ 182 _ _ _;refine CA (h:=uZ (s:=s.ld) hld ?_))|(show aA _ 190 _ _ _;refine CA (h:=B4 (m:=m) hr ?_);rw[hx1,hmid])|(show aA _ 191 _ _ _;refine CA (h:=Us (s:=s.ld) hld ?_ hsp))|(show aA _ 193 _ _ _;refine CA (h:=Ci (by omega) ?_))|(show aA _ 192 _ _ _;refine CA (h:=wZ (l:=q.1) (ck:=q.2) hco (by omega) ?_))|(show aA _ 194 _ _ _;refine CA (h:=lE (x:=x) (a:=a) (s:= { s with ld:=jI id ((iJ m.x (bB id s.ld)).size:Nat) s.ld,pk:=(kB id (sP id q.1 - fU ((iJ m.x (bB id s.ld)).size:Nat)) q).1,pc:=(kB id (sP id q.1 - fU ((iJ m.x (bB id s.ld)).size:Nat)) q).2 }) (M:=M) (mc:=mc) (T:=O4 a.l s.l (cI id s.l) bq) (by show s.mv.length<=1000000000;omega) (fun _ _=>?_)))|(show aA _ 146 _ _ _;refine CA (h:=lX (x:=x) (a:=a) (s:=tY ⟨1,id,((iJ m.x (bB id s.ld)).size:Nat),(iJ m.x (bB id s.ld)),(By m.x (bB id s.ld))⟩ ({ s with ld:=jI id ((iJ m.x (bB id s.ld)).size:Nat) s.ld,pk:=(kB id (sP id q.1 - fU ((iJ m.x (bB id s.ld)).size:Nat)) q).1,pc:=(kB id (sP id q.1 - fU ((iJ m.x (bB id s.ld)).size:Nat)) q).2 })) (i:=cI id s.l) (m:=m) (m':=D7 m (bB id s.ld)) hi xL hI2 hat (fun _ _=>?_))))
  all_goals(refine aC ?_;exact aB (hK _ _))
 ·have hx1:bA m.x - 1=1:=by omega
  have hx2:¬bA m.x=1:=by omega
  rw[hx1] at hK
  have e1:qB id m q s= { s with pk:=(kB id (sP id q.1 - fU ((iJ m.x (bB id s.ld)).size:Nat)) q).1,pc:=(kB id (sP id q.1 - fU ((iJ m.x (bB id s.ld)).size:Nat)) q).2 }:=by unfold qB;rw[if_neg hx2]
  rw[e1] at hK hI2
  by_cases hd:(iJ m.x (bB id s.ld))=⟨#[]⟩
  ·cases he:(By m.x (bB id s.ld))
   ·have hN:C6 id m s=1:=by unfold C6;rw[if_neg hx2,if_neg (by rw[he];simp)]
    rw[hN] at hK hI2
    rw[hd] at hK hI2 hsz hco
    rw[he] at hK hI2
    refine aH Tryz.func110 ?_
    repeat' (first|refine v88 ?_|refine dw iW ?_|refine dw iI ?_|refine w5 ?_ ?_|((refine bh fun h=>?_) <;> try exact w6 h)|(refine aE fun hA=>?_;subst hA)|intro _|(show aA _ 189 _ _ _;refine CA (h:=wA (x:=x) (a:=a) (s:=s) (M:=M) (mc:=mc) hI hk (fun _ _=>?_)))|(show aA _ 188 _ _ _;refine CA (h:=yG (s:=(s.pk,s.pc)) (l:=eI s) hln hI.pk ?_);rw[hV,h])|(show aA _ 126 _ _ _;refine CA (h:=g9 (l:=s.l) hI.sm hm (fun bq=>?_)))|(show aA _ 182 _ _ _;refine CA (h:=uZ (s:=s.ld) hld ?_))|(show aA _ 190 _ _ _;refine CA (h:=B4 (m:=m) hr ?_);rw[hx1,hmid,hd,he])|(show aA _ 193 _ _ _;refine CA (h:=Ci (by omega) ?_))|(show aA _ 192 _ _ _;refine CA (h:=wZ (l:=q.1) (ck:=q.2) hco (by omega) ?_))|(show aA _ 194 _ _ _;refine CA (h:=lE (x:=x) (a:=a) (s:= { s with pk:=(kB id (sP id q.1 - fU ((⟨#[]⟩:ByteArray).size:Nat)) q).1,pc:=(kB id (sP id q.1 - fU ((⟨#[]⟩:ByteArray).size:Nat)) q).2 }) (M:=M) (mc:=mc) (T:=O4 a.l s.l (cI id s.l) bq) (by show s.mv.length<=1000000000;omega) (fun _ _=>?_)))|(show aA _ 146 _ _ _;refine CA (h:=lX (x:=x) (a:=a) (s:=tY ⟨1,id,1,⟨#[]⟩,false⟩ ({ s with pk:=(kB id (sP id q.1 - fU ((⟨#[]⟩:ByteArray).size:Nat)) q).1,pc:=(kB id (sP id q.1 - fU ((⟨#[]⟩:ByteArray).size:Nat)) q).2 })) (i:=cI id s.l) (m:=m) (m':=D7 m (bB id s.ld)) hi xL hI2 hat (fun _ _=>?_))))
    all_goals(refine aC ?_;exact aB (hK _ _))
   ·have hN:C6 id m s=0:=by unfold C6;rw[if_neg hx2,if_pos ⟨hd,he⟩]
    rw[hN] at hK hI2
    rw[hd] at hK hI2 hsz hco
    rw[he] at hK hI2
    refine aH Tryz.func110 ?_
    repeat' (first|refine v88 ?_|refine dw iW ?_|refine dw iI ?_|refine w5 ?_ ?_|((refine bh fun h=>?_) <;> try exact w6 h)|(refine aE fun hA=>?_;subst hA)|intro _|(show aA _ 189 _ _ _;refine CA (h:=wA (x:=x) (a:=a) (s:=s) (M:=M) (mc:=mc) hI hk (fun _ _=>?_)))|(show aA _ 188 _ _ _;refine CA (h:=yG (s:=(s.pk,s.pc)) (l:=eI s) hln hI.pk ?_);rw[hV,h])|(show aA _ 126 _ _ _;refine CA (h:=g9 (l:=s.l) hI.sm hm (fun bq=>?_)))|(show aA _ 182 _ _ _;refine CA (h:=uZ (s:=s.ld) hld ?_))|(show aA _ 190 _ _ _;refine CA (h:=B4 (m:=m) hr ?_);rw[hx1,hmid,hd,he])|(show aA _ 193 _ _ _;refine CA (h:=Ci (by omega) ?_))|(show aA _ 192 _ _ _;refine CA (h:=wZ (l:=q.1) (ck:=q.2) hco (by omega) ?_))|(show aA _ 194 _ _ _;refine CA (h:=lE (x:=x) (a:=a) (s:= { s with pk:=(kB id (sP id q.1 - fU ((⟨#[]⟩:ByteArray).size:Nat)) q).1,pc:=(kB id (sP id q.1 - fU ((⟨#[]⟩:ByteArray).size:Nat)) q).2 }) (M:=M) (mc:=mc) (T:=O4 a.l s.l (cI id s.l) bq) (by show s.mv.length<=1000000000;omega) (fun _ _=>?_)))|(show aA _ 146 _ _ _;refine CA (h:=lX (x:=x) (a:=a) (s:=tY ⟨1,id,0,⟨#[]⟩,true⟩ ({ s with pk:=(kB id (sP id q.1 - fU ((⟨#[]⟩:ByteArray).size:Nat)) q).1,pc:=(kB id (sP id q.1 - fU ((⟨#[]⟩:ByteArray).size:Nat)) q).2 })) (i:=cI id s.l) (m:=m) (m':=D7 m (bB id s.ld)) hi xL hI2 hat (fun _ _=>?_))))
    all_goals(refine aC ?_;exact aB (hK _ _))
  ·have hN:C6 id m s=1:=by unfold C6;rw[if_neg hx2,if_neg (fun q=>hd q.1)]
   rw[hN] at hK hI2
   have hbq:=Anj hd
   refine aH Tryz.func110 ?_
   repeat' (first|(show cY _ _ _;rw[hbq])|refine v88 ?_|refine dw iW ?_|refine dw iI ?_|refine w5 ?_ ?_|((refine bh fun h=>?_) <;> try exact w6 h)|(refine aE fun hA=>?_;subst hA)|intro _|(show aA _ 189 _ _ _;refine CA (h:=wA (x:=x) (a:=a) (s:=s) (M:=M) (mc:=mc) hI hk (fun _ _=>?_)))|(show aA _ 188 _ _ _;refine CA (h:=yG (s:=(s.pk,s.pc)) (l:=eI s) hln hI.pk ?_);rw[hV,h])|(show aA _ 126 _ _ _;refine CA (h:=g9 (l:=s.l) hI.sm hm (fun bq=>?_)))|(show aA _ 182 _ _ _;refine CA (h:=uZ (s:=s.ld) hld ?_))|(show aA _ 190 _ _ _;refine CA (h:=B4 (m:=m) hr ?_);rw[hx1,hmid])|(show aA _ 193 _ _ _;refine CA (h:=Ci (by omega) ?_))|(show aA _ 192 _ _ _;refine CA (h:=wZ (l:=q.1) (ck:=q.2) hco (by omega) ?_))|(show aA _ 194 _ _ _;refine CA (h:=lE (x:=x) (a:=a) (s:= { s with pk:=(kB id (sP id q.1 - fU ((iJ m.x (bB id s.ld)).size:Nat)) q).1,pc:=(kB id (sP id q.1 - fU ((iJ m.x (bB id s.ld)).size:Nat)) q).2 }) (M:=M) (mc:=mc) (T:=O4 a.l s.l (cI id s.l) bq) (by show s.mv.length<=1000000000;omega) (fun _ _=>?_)))|(show aA _ 146 _ _ _;refine CA (h:=lX (x:=x) (a:=a) (s:=tY ⟨1,id,1,(iJ m.x (bB id s.ld)),(By m.x (bB id s.ld))⟩ ({ s with pk:=(kB id (sP id q.1 - fU ((iJ m.x (bB id s.ld)).size:Nat)) q).1,pc:=(kB id (sP id q.1 - fU ((iJ m.x (bB id s.ld)).size:Nat)) q).2 })) (i:=cI id s.l) (m:=m) (m':=D7 m (bB id s.ld)) hi xL hI2 hat (fun _ _=>?_))))
   all_goals(refine aC ?_;exact aB (hK _ _))
end Go.Proofs.YtepnmcipkangkaaGreat
