/- A part of the proof: lemmas; each with the conditions that it states. -/
import Derived.Test.YtepnmcipkangkaaGreatCbh
set_option linter.unusedVariables false
set_option linter.unusedSimpArgs false
set_option maxRecDepth 100000
set_option maxHeartbeats 40000000
namespace Go.Proofs.YtepnmcipkangkaaGreat
open Go Go.Proofs Go.Sl
attribute [local irreducible] aN fL cL bM aL aR aA dJ dK aU dI pt ro fC star sep bF
attribute [local irreducible] mp DG
variable {R C:List HP} {K:KP} {x mc i b p r k j:Nat} {a:Ca} {s:Cn} {M:Option Addr} {B id n st t:Int} {m:Sm} {l:List Sm} {fs:List Fm} {c:Cf} {q:xP} {g:dR} {mv:Mv}
def Zt (r:Nat) (fs:List Fm):HP:=fC fun F=>fC fun c=>sep (pt r [.slice F fs.length c] 189) (bT F c 178 wD fs)
theorem An2:aG (pt r [.slice none 0 0] 189::R) (Zt r []::R):=aG.ex none (aG.ex 0 (aG.sep (aG.cons (aG.nilrow _ _ _))))
theorem Vn {F:Option Addr} {k2:Nat} (h:fs.length=k2):aG (pt r [.slice F k2 k] 189::bT F k 178 wD fs::R) (Zt r fs::R):=by
 subst h
 exact aG.ex F (aG.ex k (aG.sep (aG.refl _)))
theorem AW (hl:fs.length<=1000) (hK:K (.tuple #[]) (Zt r (fs++DX t st n)::R)):CT 184 #[I6 t,I6 st,I6 n,PO r] (Zt r fs::R) K:=by
 refine aA.ex fun F=>aA.ex fun k=>aA.sep ?_
 unfold DX at hK
 by_cases h:0<n
 ·rw[if_pos h] at hK
  refine aH Tryz.func184 ?_
  repeat' (first|(show aN _ _ _ _ _ _ _;(refine pX (E:=wD) (xs:=fs) (ys:= [Ab t st n]) ?_;intro _ _))|refine v36 ?_|refine w5 ?_ ?_|((refine bh fun h=>?_) <;> try exact w6 h)|(refine aE fun hA=>?_;subst hA)|intro _)
  all_goals(refine aC ?_;exact aM (aG.trans (by exact aY) ((Vn (fs:=fs++ [Ab t st n]) rfl))) (hK))
 ·rw[if_neg h,List.append_nil] at hK
  refine aH Tryz.func184 ?_
  repeat' (first|refine v36 ?_|refine w5 ?_ ?_|((refine bh fun h=>?_) <;> try exact w6 h)|(refine aE fun hA=>?_;subst hA)|intro _)
  all_goals(refine aC ?_;exact aM (aG.trans (by exact aY) ((Vn (fs:=fs) rfl))) (hK))
theorem Alz {y:Ys}:jZ (yGr y)=jZ y:=by cases y <;> rfl
theorem Eu:(nK m).id=m.id:=by unfold nK;split <;> rfl
theorem PL:(nK m).own=m.own:=by unfold nK;split <;> rfl
theorem Aon (h:FI B m):FI B (nK m):=by
 obtain⟨h1,h2,h3,h4⟩:=h
 unfold nK
 split
 ·refine⟨h1,h2,?_,?_⟩
  ·cases hy:m.y <;> (rw[hy] at h3;exact h3)
  ·cases hy:m.y <;> (rw[hy] at h4;exact h4)
 ·exact⟨h1,h2,h3,h4⟩
theorem Aoc {z:Yp} (h:JN B z):JN B (SF z):=by
 obtain⟨h1,h2,h3,h4,h5,h6⟩:=h
 have:z.gr<=z.gr+nP z/\z.gr+nP z<=z.us+512:=by
  unfold nP rQ
  split <;> omega
 exact⟨h1,h2,h3,by show z.got<=z.gr+nP z;omega,this.2,h6⟩
theorem Ma (h:bO B s):bO B (Ag s):=
 { h with
   rv:=Aoc h.rv
   sm:=U8 h.sm fun m=>Eu
   st:=fun q hq=>by
    obtain⟨m,hm,rfl⟩:=List.mem_map.1 hq
    exact Aon (h.st m hm)
   ids:=fun q hq=>by
    obtain⟨m,hm,rfl⟩:=List.mem_map.1 hq
    rw[Eu];exact h.ids m hm
   own:=fun b=>by
    have h1:=h.own b
    unfold fQ at h1
    show((s.l.map nK).filter fun m=>m.own == b).length<=32
    rw[pA,List.map_map]
    rw[pA] at h1
    have e:(Sm.own ∘ nK)=Sm.own:=funext fun m=>PL
    rw[e];exact h1
   mv:=by
    have:=h.mv
    show(s.mv.length:Int)+((s.l.map nK).length:Int)<=B
    rw[List.length_map];exact this }
theorem Apq:kb (nK m)=kb m:=by
 unfold nK
 split
 ·unfold kb
  cases hy:m.y <;> rfl
 ·rfl
theorem My (h:f4 c s):f4 c (Ag s):=
 { h with
   tn:=fun j hj=>by
    obtain⟨z,hz,hzi⟩:=h.tn j hj
    exact⟨_,List.mem_map_of_mem hz,by rw[Eu];exact hzi⟩
   cl:=fun ho=>by
    show s.l.map _= []
    rw[h.cl ho];rfl
   mo:=fun z hz=>by
    obtain⟨m,hm,rfl⟩:=List.mem_map.1 hz
    have h1:=h.mo m hm
    unfold nK
    split
    ·refine U9 h1 ?_ Alz
     have:=h1.y
     cases hy:m.y <;> (rw[hy] at this;exact this)
    ·exact h1
   nf:=by
    have h1:=h.nf
    unfold fQ at h1
    show(((s.l.map nK).filter fun m=>m.own == false).length:Int)<=s.sh.g.st
    rw[pA,List.map_map]
    rw[pA] at h1
    have e:(Sm.own ∘ nK)=Sm.own:=funext fun m=>PL
    rw[e];exact h1
   kp:=by
    have h1:=h.kp
    show s.rv.us+uJ (s.l.map nK)<=s.rv.got
    rw[Vz fun m=>Apq];exact h1
   lk:=fun j=>(h.lk j).trans (La (q:=nK) (fun _=>Eu) fun m=>by unfold nK;split <;> rfl) }
theorem Ap0 (h:xV m):xV { m with y:=yGr m.y }:=⟨h.1.trans Alz.symm,h.2⟩
theorem YX (h:l[j]?=some m):(l.take (j+1)).flatMap mL=(l.take j).flatMap mL++mL m:=by
 rw[List.take_add_one,h]
 simp
theorem D4:(DX t st n).length<=1:=by unfold DX;split <;> simp
theorem W5:(mL m).length<=1:=by
 unfold mL
 split
 ·exact D4
 ·simp
theorem flat_len:∀ {l:List Sm},(l.flatMap mL).length<=l.length
 | []=>by simp
 |m::l=>by
  have h1:=W5 (m:=m)
  have h2:=flat_len (l:=l)
  rw[List.flatMap_cons,List.length_append,List.length_cons]
  omega
theorem Pi (hI:bO B s) (hK:∀A c,K (.slice A (iZ s).length c) (bT A c 178 wD (iZ s)::cA x a (Ag s) M mc R)):CT 109 #[PO x] (cA x a s M mc R) K:=by
 have hbb:=hI.bb
 have hrv:=hI.rv
 unfold JN at hrv
 have h64:=hI.sm.1
 dsimp only[cA,nF]
 refine aH Tryz.func109 ?_
 repeat' (first|refine v79 ?_|refine w5 ?_ ?_|((refine bh fun h=>?_) <;> try exact w6 h)|(refine aE fun hA=>?_;subst hA)|intro _|(show aA _ 185 _ _ _;refine CA (h:=HJ (cap:=s.rv.cap) (gr:=s.rv.gr) (us:=s.rv.us) (by omega) (by omega) ?_))|(show aA _ 184 _ _ _;refine CA (h:=aA.ent An2 (AW (fs:= []) (by decide) ?_)))|(show aA _ 60 _ _ _;refine CA (h:=Ad (l:=s.l) ?_)))
 rename_i r3
 refine jA (fun n a' C'=>∃(j:Nat) (L:List Fm),j+n=s.l.length/\L=DX 10 0 (nP s.rv)++(s.l.take j).flatMap mL/\dH a' [(0,PO x),(3,PO r3),(4,.func (.func 184) #[] #[PO r3]),(22,I6 s.l.length),(23,I6 j)]/\C'=Zt r3 L::cA x a { s with rv:=SF s.rv,l:=(s.l.take j).map nK++s.l.drop j } M mc R) s.l.length (cJ s.l.length ⟨0,[]++DX 10 0 (nP s.rv),by omega,by simp,⟨rfl,rfl,rfl,rfl,rfl,trivial⟩,rfl⟩ (by omega)) ?_
 rintro n a' C' ⟨j,L,hj,hL,ha,rfl⟩
 refine i6 _ ha ?_
 simp only[gJ]
 have hLl:=congrArg List.length hL
 rw[List.length_append] at hLl
 have hl1:=D4 (t:=10) (st:=0) (n:=nP s.rv)
 have hl2:=flat_len (l:=s.l.take j)
 rw[List.length_take] at hl2
 by_cases hlt:j<s.l.length
 ·obtain⟨m,hm⟩:∃m,s.l[j]?=some m:=⟨_,List.getElem?_eq_getElem hlt⟩
  have hat:=V3 (g:=nK) hm
  have hset:=QQ (g:=nK) hm
  have hS:=WJ hI.sm (OR (g:=nK) (l:=s.l) (j:=j) fun _=>Eu)
  have hft:=YX hm
  have hkk:bA m.x=1\/bA m.x=2:=by cases m.x;exact .inl rfl;exact .inr rfl
  dsimp only[cA,nF]
  cases hr:YG m
  ·have hr2:decide (m.sta=1\/m.sta=2)=false:=hr
   have e1:nK m=m:=by unfold nK;rw[hr];rfl
   have e2:mL m= []:=by unfold mL;rw[hr];rfl
   rw[e2,List.append_nil] at hft
   rcases hkk with hk|hk
   ·repeat' (first|refine v79 ?_|refine w5 ?_ ?_|((refine bh fun h=>?_) <;> try exact w6 h)|(refine aE fun hA=>?_;subst hA)|intro _|(show aA _ 62 _ _ _;refine CA (h:=Cw (l:=(s.l.take j).map nK++s.l.drop j) hS hat (fun bq li t r hok=>?_)))|(show aA _ 70 _ _ _;refine CA (h:=rX (x:=m.x) ?_);rw[hk])|(show aA _ 186 _ _ _;refine CA (h:=eR (s:=m.sta) ?_);rw[hr2]))
    all_goals(show aU _ _ _ _;exact qK (m:=n - 1) (by omega) (aG.trans (by exact aY) (aG.trans (aG.cons (A:=Zt r3 L) (cS (m:=m) hok)) (aG.cons (A:=Zt r3 L) (nL (x:=x) (a:=a) (s:= { s with rv:=SF s.rv,l:=(s.l.take j).map nK++s.l.drop j }) (M:=M) (mc:=mc) (R:=R) (m':=m) hat rfl)))) ⟨j+1,L,by omega,by rw[hL,hft],⟨rfl,rfl,rfl,rfl,rfl,trivial⟩,by rw[<- hset,e1]⟩)
   ·repeat' (first|refine v79 ?_|refine w5 ?_ ?_|((refine bh fun h=>?_) <;> try exact w6 h)|(refine aE fun hA=>?_;subst hA)|intro _|(show aA _ 62 _ _ _;refine CA (h:=Cw (l:=(s.l.take j).map nK++s.l.drop j) hS hat (fun bq li t r hok=>?_)))|(show aA _ 70 _ _ _;refine CA (h:=rX (x:=m.x) ?_);rw[hk])|(show aA _ 186 _ _ _;refine CA (h:=eR (s:=m.sta) ?_);rw[hr2]))
    all_goals(show aU _ _ _ _;exact qK (m:=n - 1) (by omega) (aG.trans (by exact aY) (aG.trans (aG.cons (A:=Zt r3 L) (cS (m:=m) hok)) (aG.cons (A:=Zt r3 L) (nL (x:=x) (a:=a) (s:= { s with rv:=SF s.rv,l:=(s.l.take j).map nK++s.l.drop j }) (M:=M) (mc:=mc) (R:=R) (m':=m) hat rfl)))) ⟨j+1,L,by omega,by rw[hL,hft],⟨rfl,rfl,rfl,rfl,rfl,trivial⟩,by rw[<- hset,e1]⟩)
  ·have hr2:decide (m.sta=1\/m.sta=2)=true:=hr
   have e1:nK m= { m with y:=yGr m.y }:=by unfold nK;rw[hr];rfl
   rcases hkk with hk|hk
   ·have e2:mL m=DX 10 m.id (G3 m.y):=by unfold mL;rw[hr,hk];rfl
    rw[e2] at hft
    repeat' (first|refine v79 ?_|refine w5 ?_ ?_|((refine bh fun h=>?_) <;> try exact w6 h)|(refine aE fun hA=>?_;subst hA)|intro _|(show aA _ 62 _ _ _;refine CA (h:=Cw (l:=(s.l.take j).map nK++s.l.drop j) hS hat (fun bq li t r hok=>?_)))|(show aA _ 70 _ _ _;refine CA (h:=rX (x:=m.x) ?_);rw[hk])|(show aA _ 186 _ _ _;refine CA (h:=eR (s:=m.sta) ?_);rw[hr2])|(show aA _ 63 _ _ _;refine CA (h:=Adu ?_))|(show aA _ 187 _ _ _;refine CA (h:=LU (y:=m.y) ?_))|(show aA _ 184 _ _ _;refine CA (h:=AW (fs:=L) (by omega) ?_)))
    all_goals(show aU _ _ _ _;exact qK (m:=n - 1) (by omega) (aG.trans (by exact aY) (aG.trans (aG.cons (A:=Zt r3 (L++DX 10 m.id (G3 m.y))) (cS (m:= { m with y:=yGr m.y }) (Ap0 hok))) (aG.cons (A:=Zt r3 (L++DX 10 m.id (G3 m.y))) (nL (x:=x) (a:=a) (s:= { s with rv:=SF s.rv,l:=(s.l.take j).map nK++s.l.drop j }) (M:=M) (mc:=mc) (R:=R) (m':= { m with y:=yGr m.y }) hat rfl)))) ⟨j+1,L++DX 10 m.id (G3 m.y),by omega,by rw[hL,hft,List.append_assoc],⟨rfl,rfl,rfl,rfl,rfl,trivial⟩,by rw[<- hset,e1]⟩)
   ·have e2:mL m=DX 11 m.id (G3 m.y):=by unfold mL;rw[hr,hk];rfl
    rw[e2] at hft
    repeat' (first|refine v79 ?_|refine w5 ?_ ?_|((refine bh fun h=>?_) <;> try exact w6 h)|(refine aE fun hA=>?_;subst hA)|intro _|(show aA _ 62 _ _ _;refine CA (h:=Cw (l:=(s.l.take j).map nK++s.l.drop j) hS hat (fun bq li t r hok=>?_)))|(show aA _ 70 _ _ _;refine CA (h:=rX (x:=m.x) ?_);rw[hk])|(show aA _ 186 _ _ _;refine CA (h:=eR (s:=m.sta) ?_);rw[hr2])|(show aA _ 63 _ _ _;refine CA (h:=Adu ?_))|(show aA _ 187 _ _ _;refine CA (h:=LU (y:=m.y) ?_))|(show aA _ 184 _ _ _;refine CA (h:=AW (fs:=L) (by omega) ?_)))
    all_goals(show aU _ _ _ _;exact qK (m:=n - 1) (by omega) (aG.trans (by exact aY) (aG.trans (aG.cons (A:=Zt r3 (L++DX 11 m.id (G3 m.y))) (cS (m:= { m with y:=yGr m.y }) (Ap0 hok))) (aG.cons (A:=Zt r3 (L++DX 11 m.id (G3 m.y))) (nL (x:=x) (a:=a) (s:= { s with rv:=SF s.rv,l:=(s.l.take j).map nK++s.l.drop j }) (M:=M) (mc:=mc) (R:=R) (m':= { m with y:=yGr m.y }) hat rfl)))) ⟨j+1,L++DX 11 m.id (G3 m.y),by omega,by rw[hL,hft,List.append_assoc],⟨rfl,rfl,rfl,rfl,rfl,trivial⟩,by rw[<- hset,e1]⟩)
 ·obtain rfl:j=s.l.length:=by omega
  rw[List.take_length] at hL
  have hL:L=iZ s:=hL
  subst hL
  rw[List.take_length,List.drop_length,List.append_nil]
  refine xL fun F=>xL fun k=>HA ?_
  repeat' (first|refine v79 ?_|refine w5 ?_ ?_|((refine bh fun h=>?_) <;> try exact w6 h)|(refine aE fun hA=>?_;subst hA)|intro _)
  all_goals(refine aC ?_;exact aB (hK _ _))
theorem WQ (hI:bO B s) (hk:f4 c s) (h:(eI s.tr)[j]?=some id):∃m,bX id s.l=some m/\m.id=id:=by
 have h1:=Lc hI.tr (n:=s.tr.1.length+1) (lv:=cD 0 s.tr.1) (fun y hy=>(lW hI.tr.nd hy).1) id (List.mem_of_getElem? h)
 obtain⟨m,hm,rfl⟩:=hk.tn id h1
 exact⟨m,S8 hI.sm hm,rfl⟩
theorem VT {z:eX} (h:NJ z):∀ {n:Nat} {lv:List Int},lv.Nodup->(∀y∈lv,fE z y)->(Av z n lv).length<=64 * n
 |0,_,_,_=>Nat.zero_le _
 |n+1,lv,hn,hl=>by
  have h64:=h.len
  have h1:=IQ (s:=z) hn hl
  have h2:=VT h (n:=n) (Al3 h.nd hn) (fun q hq=>by
   unfold Kn at hq
   exact(BN h.nd q (Bz.1 hq)).1)
  unfold Av
  split
  ·simp
  ·rw[List.length_append];omega
theorem F1 (hI:bO B s):(eI s.tr).length<=10000:=by
 have h1:=hI.tr.len
 have h2:=VT hI.tr (n:=s.tr.1.length+1) (lv:=cD 0 s.tr.1) (Cd hI.tr.nd) fun y hy=>(lW hI.tr.nd hy).1
 unfold eI
 omega
theorem map_take {α β:Type} {f:α->β} {l:List α} {z:α} (h:l[j]?=some z):(l.take (j+1)).map f=(l.take j).map f++ [f z]:=by
 rw[List.take_add_one,h]
 simp
def kX:List Nat:= [0,0,0,4,12,28,0,124,0,256,768,1792,4092,8188,16380,32764,16380,81916,212988,475132,16380,2097148,4194300,8388604,16777214,33554430,67108863,134217727]
def kT:List Nat:= [134217727,67108863,33554430,16777214,8388604,4194300,2097148,16380,475132,212988,81916,16380,32764,16380,8188,4092,1792,768,256,0,124,0,28,12,4,0,0,0]
def kS:List (Nat×Nat):= [(2,0),(3,0),(4,0),(5,0),(6,0),(7,1),(8,1),(9,1),(10,1),(11,1),(12,1),(13,0),(14,0),(15,1),(16,1),(17,1),(18,1),(19,1),(20,1),(21,1),(22,1),(1,5),(23,0),(24,0),(25,1),(0,6),(26,1),(27,0)]
theorem vG (hI:bO B s) (hk:f4 c s) (hK:∀A c,K (.slice A (eK s).length c) (bT A c 354 NR (eK s)::cA x a s M mc R)):CT 189 #[PO x] (cA x a s M mc R) K:=by
 have hbb:=hI.bb
 have hld:=hI.ld.ok (by omega)
 have htl:=hI.tr.len
 obtain⟨rk,hrk⟩:=hI.tr.rk
 have hll:=F1 hI
 unfold eK at hK
 dsimp only[cA,nF]
 refine aH Tryz.func189 ?_
 repeat' (first|refine ZS ?_|refine Jv kX kT kS ?_|refine w5 ?_ ?_|((refine bh fun h=>?_) <;> try exact w6 h)|(refine aE fun hA=>?_;subst hA)|intro _|(show aA _ 280 _ _ _;refine CA (h:=SV (s:=s.tr) (r:=rk) hI.tr.kok (by omega) hI.tr.nd hrk (fun Bq dq=>?_))))
 refine jA (fun n a' C'=>∃(j:Nat) (A:Option Addr) (k:Nat),j+n=(eI s.tr).length/\dH a' [(0,PO x),(3,.slice A (((eI s.tr).take j).map (pG s)).length k),(12,.slice Bq (eI s.tr).length dq),(13,I6 (eI s.tr).length),(14,I6 j)]/\C'=bT A k 354 NR (((eI s.tr).take j).map (pG s))::bT Bq dq 3 k8 (eI s.tr)::cA x a s M mc R) (eI s.tr).length (cJ (eI s.tr).length ⟨0,none,0,by omega,⟨rfl,rfl,rfl,rfl,rfl,trivial⟩,rfl⟩) ?_
 rintro n a' C' ⟨j,A,k,hj,ha,rfl⟩
 refine i6 _ ha ?_
 simp only[gJ]
 have hlt0:(((eI s.tr).take j).map (pG s)).length=min j (eI s.tr).length:=by rw[List.length_map,List.length_take]
 by_cases hlt:j<(eI s.tr).length
 ·obtain⟨id,hid⟩:∃id,(eI s.tr)[j]?=some id:=⟨_,List.getElem?_eq_getElem hlt⟩
  obtain⟨m,hm,hmid⟩:=WQ hI hk hid
  have hi:=(aS hm).1
  have hmt:=map_take (f:=pG s) hid
  have hv:(eI s.tr)[((j:Nat):Int).toNat]?=some id:=by rw[Int.toNat_natCast];exact hid
  have hlj:(((eI s.tr).take j).map (pG s)).length=j:=by omega
  dsimp only[cA,nF]
  cases hg:Sw m
  ·have hg2:decide (m.sta=1\/m.sta=3)=false:=hg
   have e:pG s id=⟨id,if d6 id s.tr.1=true then(dG id s.tr).w else 0,false⟩:=by unfold pG;rw[hm];dsimp only;rw[hg];rfl
   repeat' (first|(show aN _ _ _ _ _ _ _;(refine pX (E:=NR) (xs:=((eI s.tr).take j).map (pG s)) (ys:= [⟨id,if d6 id s.tr.1=true then(dG id s.tr).w else 0,false⟩]) ?_;intro A2 k2))|refine ZS ?_|refine Jv kX kT kS ?_|refine w5 ?_ ?_|((refine bh fun h=>?_) <;> try exact w6 h)|(refine aE fun hA=>?_;subst hA)|intro _|(show aA _ 126 _ _ _;refine CA (h:=RP (l:=s.l) hI.sm hm (fun bq li t r hok=>?_)))|(show aA _ 281 _ _ _;refine CA (h:=Gx (s:=s.tr) ?_))|(show aA _ 180 _ _ _;refine CA (h:=p6 (s:=m.sta) ?_);rw[hg2]))
   all_goals rw[<- e,<- hmt]
   all_goals(show aU _ _ _ _;exact qK (m:=n - 1) (by omega) (aG.trans (by exact aY) (aG.cons (A:=bT A2 k2 354 NR (((eI s.tr).take (j+1)).map (pG s))) (aG.cons (A:=bT _ dq 3 k8 (eI s.tr)) (aG.trans (cS (m:=m) hok) (dF (x:=x) (a:=a) (s:=s) (M:=M) (mc:=mc) (R:=R) hi))))) ⟨j+1,A2,k2,by omega,⟨rfl,rfl,rfl,rfl,rfl,trivial⟩,rfl⟩)
  ·have hg2:decide (m.sta=1\/m.sta=3)=true:=hg
   have e:pG s id=⟨id,if d6 id s.tr.1=true then(dG id s.tr).w else 0,Pt m.x (bB id s.ld)⟩:=by unfold pG;rw[hm];dsimp only;rw[hg];rfl
   repeat' (first|(show aN _ _ _ _ _ _ _;(refine pX (E:=NR) (xs:=((eI s.tr).take j).map (pG s)) (ys:= [⟨id,if d6 id s.tr.1=true then(dG id s.tr).w else 0,Pt m.x (bB id s.ld)⟩]) ?_;intro A2 k2))|refine ZS ?_|refine Jv kX kT kS ?_|refine w5 ?_ ?_|((refine bh fun h=>?_) <;> try exact w6 h)|(refine aE fun hA=>?_;subst hA)|intro _|(show aA _ 126 _ _ _;refine CA (h:=RP (l:=s.l) hI.sm hm (fun bq li t r hok=>?_)))|(show aA _ 281 _ _ _;refine CA (h:=Gx (s:=s.tr) ?_))|(show aA _ 180 _ _ _;refine CA (h:=p6 (s:=m.sta) ?_);rw[hg2])|(show aA _ 42 _ _ _;refine CA (h:=Oj ?_))|(show aA _ 182 _ _ _;refine CA (h:=u9 (s:=s.ld) hld ?_))|(show aA _ 267 _ _ _;refine CA (h:=Ahi (x:=m.x) ?_)))
   all_goals rw[<- e,<- hmt]
   all_goals(show aU _ _ _ _;exact qK (m:=n - 1) (by omega) (aG.trans (by exact aY) (aG.cons (A:=bT A2 k2 354 NR (((eI s.tr).take (j+1)).map (pG s))) (aG.cons (A:=bT _ dq 3 k8 (eI s.tr)) (aG.trans (cS (m:=m) hok) (dF (x:=x) (a:=a) (s:=s) (M:=M) (mc:=mc) (R:=R) hi))))) ⟨j+1,A2,k2,by omega,⟨rfl,rfl,rfl,rfl,rfl,trivial⟩,rfl⟩)
 ·obtain rfl:j=(eI s.tr).length:=by omega
  rw[List.take_length]
  repeat' (first|refine ZS ?_|refine Jv kX kT kS ?_|refine w5 ?_ ?_|((refine bh fun h=>?_) <;> try exact w6 h)|(refine aE fun hA=>?_;subst hA)|intro _)
  all_goals(refine aC ?_;exact aB (hK _ _))
def ZZ (q:xP) (s:Cn):Cn:= { s with pk:=q.1,pc:=q.2 }
def Ak (id:Int) (m:Sm) (s:Cn):Fm:=uD (bA m.x - 1) id (iP m.x (bB id s.ld)) (Be m.x (bB id s.ld))
def CP (id:Int) (m:Sm) (s:Cn):Int:=if bA m.x=1 then((iP m.x (bB id s.ld)).size:Nat) else if iP m.x (bB id s.ld)=⟨#[]⟩/\Be m.x (bB id s.ld)=true then 0 else 1
def rH (id:Int) (m:Sm) (q:xP) (s:Cn):Cn:= { s with ld:=(if bA m.x=1 then jQ id ((iP m.x (bB id s.ld)).size:Nat) s.ld else s.ld),pk:=(kO id (sY id q.1 - fY ((iP m.x (bB id s.ld)).size:Nat)) q).1,pc:=(kO id (sY id q.1 - fY ((iP m.x (bB id s.ld)).size:Nat)) q).2 }
def wI (id:Int) (m:Sm) (q:xP) (s:Cn):Cn:=lJ (DL m (bB id s.ld)) (t7 ⟨1,id,CP id m s,iP m.x (bB id s.ld),Be m.x (bB id s.ld)⟩ (w4 (DL m (bB id s.ld)) (rH id m q s)))
theorem Ha (h:Ax (s.pk,s.pc) (eK s)=(none,q)):sU s=(none,ZZ q s):=by
 unfold sU;rw[h];rfl
theorem ED (h:Ax (s.pk,s.pc) (eK s)=(some id,q)) (hm:bX id s.l=some m) (hr:IP m (bB id s.ld)=true):sU s=(some (Ak id m s),wI id m q s):=by
 unfold sU;rw[h];dsimp only;rw[hm];dsimp only;rw[if_neg (by rw[hr];decide)];rfl
theorem WI {pk:List (KE Int)}:∀ {l:List Tu},tP pk l=some id->∃y∈l,y.id=id
 | [],h=>by cases h
 |x::r,h=>by
  unfold tP at h
  split at h
  ·cases h;exact⟨x,List.mem_cons_self ..,rfl⟩
  ·obtain⟨y,hy,e⟩:=WI h
   exact⟨y,List.mem_cons_of_mem _ hy,e⟩
theorem Mn:∀ {l:List Tu} {seen:List (KE Bool)} {ck:Nat},∀y∈rS seen ck l,y∈l/\y.rd=true
 | [],_,_,_,hy=>by cases hy
 |x::r,seen,ck,y,hy=>by
  unfold rS at hy
  split at hy
  ·rename_i hc
   rcases List.mem_cons.1 hy with rfl|hy
   ·exact⟨List.mem_cons_self ..,hc.2⟩
   ·obtain⟨h1,h2⟩:=Mn y hy
    exact⟨List.mem_cons_of_mem _ h1,h2⟩
  ·obtain⟨h1,h2⟩:=Mn y hy
   exact⟨List.mem_cons_of_mem _ h1,h2⟩
theorem Amo {z:xP} {l:List Tu} (h:Ax z l=(some id,q)):∃y∈l,y.id=id/\y.rd=true:=by
 unfold Ax at h
 cases hw:rS [] 0 l with
 |nil=>rw[hw] at h;cases h
 |cons x r=>
  rw[hw] at h
  dsimp only at h
  have key:∀ {pk:List (KE Int)},tP pk (x::r)=some id->∃y∈l,y.id=id/\y.rd=true:=fun hf=>by
   obtain⟨y,hy,e⟩:=WI hf
   rw[<- hw] at hy
   obtain⟨h1,h2⟩:=Mn y hy
   exact⟨y,h1,e,h2⟩
  cases hf:tP z.1 (x::r) with
  |some k=>
   rw[hf] at h
   cases h
   exact key hf
  |none=>
   rw[hf] at h
   exact key (congrArg Prod.fst h)
theorem BR (hI:bO B s) (hk:f4 c s) (h:Ax (s.pk,s.pc) (eK s)=(some id,q)):∃m,bX id s.l=some m/\IP m (bB id s.ld)=true:=by
 obtain⟨y,hy,hid,hrd⟩:=Amo h
 obtain⟨k,hk2,rfl⟩:=List.mem_map.1 hy
 have hid:k=id:=hid
 subst hid
 obtain⟨j,hj⟩:=List.getElem?_of_mem hk2
 obtain⟨m,hm,_⟩:=WQ hI hk hj
 refine⟨m,hm,?_⟩
 unfold pG at hrd
 rw[hm] at hrd
 exact hrd
theorem Zl {z:Ld}:0<=bB id z:=by
 unfold bB
 split
 ·omega
 ·exact Int.le_refl 0
theorem EC {x:Xs} (h:xSz x):(iP x n).size<=256:=by
 cases x with
 |b z=>
  have e:(iP (.b z) n).size=min (CS z.bs n) z.bs.length:=by
   show((z.bs.take (CS z.bs n)).toArray).size=_
   simp
  rw[e];unfold CS;omega
 |i z=>
  cases hl:z.l with
  |nil=>
   have e:iP (.i z) n=⟨#[]⟩:=by simp only[iP,hl]
   rw[e];decide
  |cons d r=>
   have e:iP (.i z) n=d:=by simp only[iP,hl]
   rw[e]
   exact h d (by rw[hl];exact List.mem_cons_self ..)
theorem Ao3 {x:Xs} (hk:bA x=1) (hn:0<=n):((iP x n).size:Int)<=n:=by
 cases x with
 |b z=>
  have e:(iP (.b z) n).size=min (CS z.bs n) z.bs.length:=by
   show((z.bs.take (CS z.bs n)).toArray).size=_
   simp
  rw[e];unfold CS;omega
 |i z=>cases hk
theorem Vh (hI:bO B s) (hk:f4 c s) (hm:bX id s.l=some m) (hx:bA m.x=1):oR id ((iP m.x (bB id s.ld)).size:Nat) s.ld=0:=by
 obtain⟨hi,hmid⟩:=aS hm
 have h1:=(SR hI.ld).2 ((hk.lk id).2 ⟨m,List.mem_of_getElem? hi,hmid,hx⟩)
 have h2:=Ao3 hx (Zl (id:=id) (z:=s.ld))
 unfold oR
 rw[if_neg (by rw[h1];decide),if_neg (by omega),if_neg (by omega)]
theorem Ab9 (h:k<=256):1<=fY k/\fY k<=1024:=by
 unfold fY
 split <;> omega
theorem xJ:(DL m n).id=m.id:=by unfold DL;split <;> rfl
theorem VA:(DL m n).own=m.own:=by unfold DL;split <;> rfl
theorem Afv:bA (DL m n).x=bA m.x:=by
 unfold DL
 split
 ·exact EQ
 ·rfl
theorem Am2 (h:FI B m):FI B (DL m n):=by
 obtain⟨h1,h2,h3,h4⟩:=h
 unfold DL
 split
 ·refine⟨h1,?_,h3,h4⟩
  show L3 (xTk m.x n)<=B
  cases hx:m.x with
  |b z=>rw[hx] at h2;exact h2
  |i z=>
   rw[hx] at h2
   unfold xTk
   dsimp only
   split <;> exact h2
 ·exact⟨h1,h2,h3,h4⟩
theorem Am0 (h:Rq c g m):Rq c g (DL m n):=by
 obtain⟨h1,h2,h3,h4⟩:=h
 unfold DL
 split
 ·refine⟨h1,?_,EQ.trans h3,?_⟩
  ·show Age c (xTk m.x n)
   cases hx:m.x with
   |b z=>rw[hx] at h2;exact h2
   |i z=>
    rw[hx] at h2
    unfold xTk
    dsimp only
    split <;> exact h2
  ·show xSz (xTk m.x n)
   cases hx:m.x with
   |b z=>trivial
   |i z=>
    rw[hx] at h4
    unfold xTk
    dsimp only
    split
    ·exact h4
    ·rename_i d r hl
     exact fun y hy=>h4 y (by rw[hl];exact List.mem_cons_of_mem _ hy)
 ·exact⟨h1,h2,h3,h4⟩
theorem Apg:kb (DL m n)=kb m:=by
 unfold kb
 rw[Afv]
 have:iD (DL m n).y=iD m.y:=by unfold DL;split <;> rfl
 rw[this]
theorem Anf (h:bO B s) (hq:K4 q):bO B (ZZ q s):= { h with pk:=hq }
theorem XZ (h:bO B s) (hk:f4 c s) (hm:bX id s.l=some m) (hq:K4 q) (hB:B+300<=250000000):bO (B+300) (rH id m q s):=by
 have hs:=EC (n:=bB id s.ld) (hk.mo m (List.mem_of_getElem? (aS hm).1)).sz
 exact { h.mono (B':=B+300) (by omega) hB with
  pk:=NB hq
  ld:=by
   show GH (B+300) (if bA m.x=1 then jQ id ((iP m.x (bB id s.ld)).size:Nat) s.ld else s.ld)
   split
   ·exact XR h.ld (by omega) (by omega)
   ·exact h.ld.mono (by omega) }
theorem Gn (hm:bX id s.l=some m):w4 (DL m (bB id s.ld)) (rH id m q s)= { rH id m q s with l:=s.l.set (cI id s.l) (DL m (bB id s.ld)) }:=eN (s:=rH id m q s) (id:=id) (xJ.trans (aS hm).2)
theorem Fp (h:bO B s) (hk:f4 c s) (hm:bX id s.l=some m) (hq:K4 q) (hB:B+300<=250000000):bO (B+300) { t7 mv (rH id m q s) with l:=s.l.set (cI id s.l) (DL m (bB id s.ld)) }:=by
 obtain⟨hi,hmid⟩:=aS hm
 have h1:=XZ h hk hm hq hB
 refine mN (s:=t7 mv (rH id m q s)) (m:=m) ?_ hi xJ VA (Am2 (h1.st m (List.mem_of_getElem? hi)))
 exact { h1 with
  mv:=by
   have:=h.mv
   show((s.mv++ [mv]).length:Int)+s.l.length<=B+300
   rw[List.length_append,List.length_singleton];omega }
theorem Xu (hk:f4 c s) (hm:bX id s.l=some m):f4 c { t7 mv (rH id m q s) with l:=s.l.set (cI id s.l) (DL m (bB id s.ld)) }:=by
 obtain⟨hi,hmid⟩:=aS hm
 have h1:f4 c (t7 mv (rH id m q s)):= { hk with
  lk:=fun j=>by
   show j∈(if bA m.x=1 then jQ id ((iP m.x (bB id s.ld)).size:Nat) s.ld else s.ld).l.map gZ.id↔_
   split
   ·rw[YY];exact hk.lk j
   ·exact hk.lk j }
 exact zM (s:=t7 mv (rH id m q s)) h1 hi xJ VA (Am0 (hk.mo m (List.mem_of_getElem? hi))) (by rw[Apg];exact Nat.le_refl _) Afv
theorem P4 (h:bO B s) (hk:f4 c s) (hm:bX id s.l=some m) (hq:K4 q) (hB:B+300<=250000000):bO (B+300) (wI id m q s):=by
 unfold wI
 rw[Gn hm]
 exact Ei (Fp h hk hm hq hB) (m7 (m':=DL m (bB id s.ld)) hm xJ)
theorem RV (h:bO B s) (hk:f4 c s) (hm:bX id s.l=some m) (hq:K4 q) (hB:B+300<=250000000):f4 c (wI id m q s):=by
 unfold wI
 rw[Gn hm]
 exact Ep (Fp h hk hm hq hB) (Xu hk hm) (m7 (m':=DL m (bB id s.ld)) hm xJ)
theorem Anz {d:ByteArray} (h:d≠⟨#[]⟩):(d.toList == (ByteArray.mk #[]).toList)=false:=by
 rw[beq_eq_false_iff_ne]
 intro e
 apply h
 rw[ByteArray.toList_eq,ByteArray.toList_eq] at e
 exact ByteArray.ext (Array.toList_inj.1 e)
def iY:List (Nat×Nat):= [(4,0),(5,1),(0,1),(1,1),(2,1),(3,1),(6,1),(7,0),(8,0),(9,0),(10,0),(11,0)]
def iN:List (Nat×Nat):= [(5,0),(6,0),(7,0),(8,1),(0,1),(1,1),(2,1),(3,1),(4,1),(9,1)]
theorem Us (hI:bO B s) (hk:f4 c s) (h:Ax (s.pk,s.pc) (eK s)=(none,q)) (hK:K (.tuple #[.agg #[I6 0,I6 0,.bool false,.string ⟨#[]⟩,I6 0,I6 0,I6 0,.bool false,I6 0,I6 0,I6 0,.slice none 0 0],.bool false]) (cA x a (ZZ q s) M mc R)):CT 110 #[PO x] (cA x a s M mc R) K:=by
 have hV:Lb (s.pk,s.pc) (eK s)=.tuple #[I6 0,.bool false]:=by unfold Lb;rw[h]
 have hln:(eK s).length<=10000:=by unfold eK;rw[List.length_map];exact F1 hI
 refine aH Tryz.func110 ?_
 repeat' (first|refine ZQ ?_|refine dw iY ?_|refine dw iN ?_|refine w5 ?_ ?_|((refine bh fun h=>?_) <;> try exact w6 h)|(refine aE fun hA=>?_;subst hA)|intro _|(show aA _ 189 _ _ _;refine CA (h:=vG (x:=x) (a:=a) (s:=s) (M:=M) (mc:=mc) hI hk (fun _ _=>?_)))|(show aA _ 188 _ _ _;refine CA (h:=x7 (s:=(s.pk,s.pc)) (l:=eK s) hln hI.pk ?_);rw[hV,h]))
 all_goals(refine aC ?_;exact aB (hK))
theorem UD (hI:bO B s) (hk:f4 c s) (hB:B+300<=250000000) (h:Ax (s.pk,s.pc) (eK s)=(some id,q)) (hm:bX id s.l=some m) (hr:IP m (bB id s.ld)=true) (hK:∀M mc,K (.tuple #[.agg #[I6 (bA m.x - 1),I6 id,.bool (Be m.x (bB id s.ld)),.string (iP m.x (bB id s.ld)),I6 0,I6 0,I6 0,.bool false,I6 0,I6 0,I6 0,.slice none 0 0],.bool true]) (cA x a (wI id m q s) M mc R)):CT 110 #[PO x] (cA x a s M mc R) K:=by
 have hV:Lb (s.pk,s.pc) (eK s)=.tuple #[I6 id,.bool true]:=by unfold Lb;rw[h]
 have hln:(eK s).length<=10000:=by unfold eK;rw[List.length_map];exact F1 hI
 have hbb:=hI.bb
 have hmv:=hI.mv
 have hld:=hI.ld.ok (by omega)
 obtain⟨hi,hmid⟩:=aS hm
 have hq:K4 q:=by
  have:=NN (s:=(s.pk,s.pc)) (l:=eK s) hI.pk
  rw[h] at this;exact this
 have hql:=F7 hq id
 have hsz:=EC (n:=bB id s.ld) (hk.mo m (List.mem_of_getElem? hi)).sz
 have hco:=Ab9 hsz
 have hI2:=Fp (mv:=⟨1,id,CP id m s,iP m.x (bB id s.ld),Be m.x (bB id s.ld)⟩) hI hk hm hq hB
 have hat:=m7 (m':=DL m (bB id s.ld)) hm xJ
 unfold wI at hK
 rw[Gn hm] at hK
 have hkk:bA m.x=1\/bA m.x=2:=by cases m.x;exact .inl rfl;exact .inr rfl
 rcases hkk with hx|hx
 ·have hsp:=Vh hI hk hm hx
  have hx1:bA m.x - 1=0:=by omega
  have hN:CP id m s=((iP m.x (bB id s.ld)).size:Nat):=if_pos hx
  rw[hN] at hK hI2
  rw[hx1] at hK
  have e1:rH id m q s= { s with ld:=jQ id ((iP m.x (bB id s.ld)).size:Nat) s.ld,pk:=(kO id (sY id q.1 - fY ((iP m.x (bB id s.ld)).size:Nat)) q).1,pc:=(kO id (sY id q.1 - fY ((iP m.x (bB id s.ld)).size:Nat)) q).2 }:=by unfold rH;rw[if_pos hx]
  rw[e1] at hK hI2
  refine aH Tryz.func110 ?_
  repeat' (first|refine ZQ ?_|refine dw iY ?_|refine dw iN ?_|refine w5 ?_ ?_|((refine bh fun h=>?_) <;> try exact w6 h)|(refine aE fun hA=>?_;subst hA)|intro _|(show aA _ 189 _ _ _;refine CA (h:=vG (x:=x) (a:=a) (s:=s) (M:=M) (mc:=mc) hI hk (fun _ _=>?_)))|(show aA _ 188 _ _ _;refine CA (h:=x7 (s:=(s.pk,s.pc)) (l:=eK s) hln hI.pk ?_);rw[hV,h])|(show aA _ 126 _ _ _;refine CA (h:=gR (l:=s.l) hI.sm hm (fun bq=>?_)))|(show aA _ 182 _ _ _;refine CA (h:=u9 (s:=s.ld) hld ?_))|(show aA _ 190 _ _ _;refine CA (h:=BU (m:=m) hr ?_);rw[hx1,hmid])|(show aA _ 191 _ _ _;refine CA (h:=Tm (s:=s.ld) hld ?_ hsp))|(show aA _ 193 _ _ _;refine CA (h:=Co (by omega) ?_))|(show aA _ 192 _ _ _;refine CA (h:=w9 (l:=q.1) (ck:=q.2) hco (by omega) ?_))|(show aA _ 194 _ _ _;refine CA (h:=lP (x:=x) (a:=a) (s:= { s with ld:=jQ id ((iP m.x (bB id s.ld)).size:Nat) s.ld,pk:=(kO id (sY id q.1 - fY ((iP m.x (bB id s.ld)).size:Nat)) q).1,pc:=(kO id (sY id q.1 - fY ((iP m.x (bB id s.ld)).size:Nat)) q).2 }) (M:=M) (mc:=mc) (T:=OM a.l s.l (cI id s.l) bq) (by show s.mv.length<=1000000000;omega) (fun _ _=>?_)))|(show aA _ 146 _ _ _;refine CA (h:=mD (x:=x) (a:=a) (s:=t7 ⟨1,id,((iP m.x (bB id s.ld)).size:Nat),(iP m.x (bB id s.ld)),(Be m.x (bB id s.ld))⟩ ({ s with ld:=jQ id ((iP m.x (bB id s.ld)).size:Nat) s.ld,pk:=(kO id (sY id q.1 - fY ((iP m.x (bB id s.ld)).size:Nat)) q).1,pc:=(kO id (sY id q.1 - fY ((iP m.x (bB id s.ld)).size:Nat)) q).2 })) (i:=cI id s.l) (m:=m) (m':=DL m (bB id s.ld)) hi xJ hI2 hat (fun _ _=>?_))))
  all_goals(refine aC ?_;exact aB (hK _ _))
 ·have hx1:bA m.x - 1=1:=by omega
  have hx2:¬bA m.x=1:=by omega
  rw[hx1] at hK
  have e1:rH id m q s= { s with pk:=(kO id (sY id q.1 - fY ((iP m.x (bB id s.ld)).size:Nat)) q).1,pc:=(kO id (sY id q.1 - fY ((iP m.x (bB id s.ld)).size:Nat)) q).2 }:=by unfold rH;rw[if_neg hx2]
  rw[e1] at hK hI2
  by_cases hd:(iP m.x (bB id s.ld))=⟨#[]⟩
  ·cases he:(Be m.x (bB id s.ld))
   ·have hN:CP id m s=1:=by unfold CP;rw[if_neg hx2,if_neg (by rw[he];simp)]
    rw[hN] at hK hI2
    rw[hd] at hK hI2 hsz hco
    rw[he] at hK hI2
    refine aH Tryz.func110 ?_
    repeat' (first|refine ZQ ?_|refine dw iY ?_|refine dw iN ?_|refine w5 ?_ ?_|((refine bh fun h=>?_) <;> try exact w6 h)|(refine aE fun hA=>?_;subst hA)|intro _|(show aA _ 189 _ _ _;refine CA (h:=vG (x:=x) (a:=a) (s:=s) (M:=M) (mc:=mc) hI hk (fun _ _=>?_)))|(show aA _ 188 _ _ _;refine CA (h:=x7 (s:=(s.pk,s.pc)) (l:=eK s) hln hI.pk ?_);rw[hV,h])|(show aA _ 126 _ _ _;refine CA (h:=gR (l:=s.l) hI.sm hm (fun bq=>?_)))|(show aA _ 182 _ _ _;refine CA (h:=u9 (s:=s.ld) hld ?_))|(show aA _ 190 _ _ _;refine CA (h:=BU (m:=m) hr ?_);rw[hx1,hmid,hd,he])|(show aA _ 193 _ _ _;refine CA (h:=Co (by omega) ?_))|(show aA _ 192 _ _ _;refine CA (h:=w9 (l:=q.1) (ck:=q.2) hco (by omega) ?_))|(show aA _ 194 _ _ _;refine CA (h:=lP (x:=x) (a:=a) (s:= { s with pk:=(kO id (sY id q.1 - fY ((⟨#[]⟩:ByteArray).size:Nat)) q).1,pc:=(kO id (sY id q.1 - fY ((⟨#[]⟩:ByteArray).size:Nat)) q).2 }) (M:=M) (mc:=mc) (T:=OM a.l s.l (cI id s.l) bq) (by show s.mv.length<=1000000000;omega) (fun _ _=>?_)))|(show aA _ 146 _ _ _;refine CA (h:=mD (x:=x) (a:=a) (s:=t7 ⟨1,id,1,⟨#[]⟩,false⟩ ({ s with pk:=(kO id (sY id q.1 - fY ((⟨#[]⟩:ByteArray).size:Nat)) q).1,pc:=(kO id (sY id q.1 - fY ((⟨#[]⟩:ByteArray).size:Nat)) q).2 })) (i:=cI id s.l) (m:=m) (m':=DL m (bB id s.ld)) hi xJ hI2 hat (fun _ _=>?_))))
    all_goals(refine aC ?_;exact aB (hK _ _))
   ·have hN:CP id m s=0:=by unfold CP;rw[if_neg hx2,if_pos ⟨hd,he⟩]
    rw[hN] at hK hI2
    rw[hd] at hK hI2 hsz hco
    rw[he] at hK hI2
    refine aH Tryz.func110 ?_
    repeat' (first|refine ZQ ?_|refine dw iY ?_|refine dw iN ?_|refine w5 ?_ ?_|((refine bh fun h=>?_) <;> try exact w6 h)|(refine aE fun hA=>?_;subst hA)|intro _|(show aA _ 189 _ _ _;refine CA (h:=vG (x:=x) (a:=a) (s:=s) (M:=M) (mc:=mc) hI hk (fun _ _=>?_)))|(show aA _ 188 _ _ _;refine CA (h:=x7 (s:=(s.pk,s.pc)) (l:=eK s) hln hI.pk ?_);rw[hV,h])|(show aA _ 126 _ _ _;refine CA (h:=gR (l:=s.l) hI.sm hm (fun bq=>?_)))|(show aA _ 182 _ _ _;refine CA (h:=u9 (s:=s.ld) hld ?_))|(show aA _ 190 _ _ _;refine CA (h:=BU (m:=m) hr ?_);rw[hx1,hmid,hd,he])|(show aA _ 193 _ _ _;refine CA (h:=Co (by omega) ?_))|(show aA _ 192 _ _ _;refine CA (h:=w9 (l:=q.1) (ck:=q.2) hco (by omega) ?_))|(show aA _ 194 _ _ _;refine CA (h:=lP (x:=x) (a:=a) (s:= { s with pk:=(kO id (sY id q.1 - fY ((⟨#[]⟩:ByteArray).size:Nat)) q).1,pc:=(kO id (sY id q.1 - fY ((⟨#[]⟩:ByteArray).size:Nat)) q).2 }) (M:=M) (mc:=mc) (T:=OM a.l s.l (cI id s.l) bq) (by show s.mv.length<=1000000000;omega) (fun _ _=>?_)))|(show aA _ 146 _ _ _;refine CA (h:=mD (x:=x) (a:=a) (s:=t7 ⟨1,id,0,⟨#[]⟩,true⟩ ({ s with pk:=(kO id (sY id q.1 - fY ((⟨#[]⟩:ByteArray).size:Nat)) q).1,pc:=(kO id (sY id q.1 - fY ((⟨#[]⟩:ByteArray).size:Nat)) q).2 })) (i:=cI id s.l) (m:=m) (m':=DL m (bB id s.ld)) hi xJ hI2 hat (fun _ _=>?_))))
    all_goals(refine aC ?_;exact aB (hK _ _))
  ·have hN:CP id m s=1:=by unfold CP;rw[if_neg hx2,if_neg (fun q=>hd q.1)]
   rw[hN] at hK hI2
   have hbq:=Anz hd
   refine aH Tryz.func110 ?_
   repeat' (first|(show cL _ _ _;rw[hbq])|refine ZQ ?_|refine dw iY ?_|refine dw iN ?_|refine w5 ?_ ?_|((refine bh fun h=>?_) <;> try exact w6 h)|(refine aE fun hA=>?_;subst hA)|intro _|(show aA _ 189 _ _ _;refine CA (h:=vG (x:=x) (a:=a) (s:=s) (M:=M) (mc:=mc) hI hk (fun _ _=>?_)))|(show aA _ 188 _ _ _;refine CA (h:=x7 (s:=(s.pk,s.pc)) (l:=eK s) hln hI.pk ?_);rw[hV,h])|(show aA _ 126 _ _ _;refine CA (h:=gR (l:=s.l) hI.sm hm (fun bq=>?_)))|(show aA _ 182 _ _ _;refine CA (h:=u9 (s:=s.ld) hld ?_))|(show aA _ 190 _ _ _;refine CA (h:=BU (m:=m) hr ?_);rw[hx1,hmid])|(show aA _ 193 _ _ _;refine CA (h:=Co (by omega) ?_))|(show aA _ 192 _ _ _;refine CA (h:=w9 (l:=q.1) (ck:=q.2) hco (by omega) ?_))|(show aA _ 194 _ _ _;refine CA (h:=lP (x:=x) (a:=a) (s:= { s with pk:=(kO id (sY id q.1 - fY ((iP m.x (bB id s.ld)).size:Nat)) q).1,pc:=(kO id (sY id q.1 - fY ((iP m.x (bB id s.ld)).size:Nat)) q).2 }) (M:=M) (mc:=mc) (T:=OM a.l s.l (cI id s.l) bq) (by show s.mv.length<=1000000000;omega) (fun _ _=>?_)))|(show aA _ 146 _ _ _;refine CA (h:=mD (x:=x) (a:=a) (s:=t7 ⟨1,id,1,(iP m.x (bB id s.ld)),(Be m.x (bB id s.ld))⟩ ({ s with pk:=(kO id (sY id q.1 - fY ((iP m.x (bB id s.ld)).size:Nat)) q).1,pc:=(kO id (sY id q.1 - fY ((iP m.x (bB id s.ld)).size:Nat)) q).2 })) (i:=cI id s.l) (m:=m) (m':=DL m (bB id s.ld)) hi xJ hI2 hat (fun _ _=>?_))))
   all_goals(refine aC ?_;exact aB (hK _ _))
end Go.Proofs.YtepnmcipkangkaaGreat
