/- A part of the proof: lemmas; each with the conditions that it states. -/
import Derived.Test.YtffnpejdkkohcaaGreatBbh
set_option linter.unusedVariables false
set_option linter.unusedSimpArgs false
set_option maxRecDepth 100000
set_option maxHeartbeats 40000000
namespace Go.Proofs.YtffnpejdkkohcaaGreat
open Go Go.Proofs Go.Sl
attribute [local irreducible] aM eY cU bQ aL aW aA dS dT aZ dR pt ro fN star sep bH
attribute [local irreducible] mp FV
variable {R C:List HP} {K:KP} {x mc i b p r k j:Nat} {a:Ca} {s:Cn} {M:Option Addr} {B id n st t:Int} {m:Sm} {l:List Sm} {fs:List Fm} {c:Cf} {q:wX} {g:dI} {mv:Mv}
def V3 (r:Nat) (fs:List Fm):HP:=fN fun F=>fN fun c=>sep (pt r [.slice F fs.length c] 24) (bU F c 45 tC fs)
theorem Aju:aG (pt r [.slice none 0 0] 24::R) (V3 r []::R):=aG.ex none (aG.ex 0 (aG.sep (aG.cons (aG.nilrow _ _ _))))
theorem SR {F:Option Addr} {k2:Nat} (h:fs.length=k2):aG (pt r [.slice F k2 k] 24::bU F k 45 tC fs::R) (V3 r fs::R):=by
 subst h
 exact aG.ex F (aG.ex k (aG.sep (aG.refl _)))
theorem zG (hl:fs.length<=1000) (hK:K (.tuple #[]) (V3 r (fs++K2 t st n)::R)):CT 137 #[I6 t,I6 st,I6 n,PO r] (V3 r fs::R) K:=by
 refine aA.ex fun F=>aA.ex fun k=>aA.sep ?_
 unfold K2 at hK
 by_cases h:0<n
 ·rw[if_pos h] at hK
  refine aJ Tryz.func137 ?_
  repeat' (first|(show aM _ _ _ _ _ _ _;(refine mD (E:=tC) (xs:=fs) (ys:= [D4 t st n]) ?_;intro _ _))|refine v36 ?_|refine w5 ?_ ?_|((refine bh fun h=>?_) <;> try exact w6 h)|(refine aF fun hA=>?_;subst hA)|intro _)
  all_goals(refine aC ?_;exact aQ (aG.trans (by exact bE) ((SR (fs:=fs++ [D4 t st n]) rfl))) (hK))
 ·rw[if_neg h,List.append_nil] at hK
  refine aJ Tryz.func137 ?_
  repeat' (first|refine v36 ?_|refine w5 ?_ ?_|((refine bh fun h=>?_) <;> try exact w6 h)|(refine aF fun hA=>?_;subst hA)|intro _)
  all_goals(refine aC ?_;exact aQ (aG.trans (by exact bE) ((SR (fs:=fs) rfl))) (hK))
theorem Ahf {y:Ys}:jH (yGr y)=jH y:=by cases y <;> rfl
theorem Ei:(l8 m).id=m.id:=by unfold l8;split <;> rfl
theorem OP:(l8 m).own=m.own:=by unfold l8;split <;> rfl
theorem Aj2 (h:Ey B m):Ey B (l8 m):=by
 obtain⟨h1,h2,h3,h4⟩:=h
 unfold l8
 split
 ·refine⟨h1,h2,?_,?_⟩
  ·cases hy:m.y <;> (rw[hy] at h3;exact h3)
  ·cases hy:m.y <;> (rw[hy] at h4;exact h4)
 ·exact⟨h1,h2,h3,h4⟩
theorem Ajm {z:Yp} (h:Ha B z):Ha B (Rw z):=by
 obtain⟨h1,h2,h3,h4,h5,h6⟩:=h
 have:z.gr<=z.gr+vE z/\z.gr+vE z<=z.us+512:=by
  unfold vE uF
  split <;> omega
 exact⟨h1,h2,h3,by show z.got<=z.gr+vE z;omega,this.2,h6⟩
theorem Qs (h:bR B s):bR B (BV s):=
 { h with
   rv:=Ajm h.rv
   sm:=Uu h.sm fun m=>Ei
   st:=fun q hq=>by
    obtain⟨m,hm,rfl⟩:=List.mem_map.1 hq
    exact Aj2 (h.st m hm)
   ids:=fun q hq=>by
    obtain⟨m,hm,rfl⟩:=List.mem_map.1 hq
    rw[Ei];exact h.ids m hm
   own:=fun b=>by
    have h1:=h.own b
    unfold fJ at h1
    show((s.l.map l8).filter fun m=>m.own == b).length<=32
    rw[nF,List.map_map]
    rw[nF] at h1
    have e:(Sm.own ∘ l8)=Sm.own:=funext fun m=>OP
    rw[e];exact h1
   mv:=by
    have:=h.mv
    show(s.mv.length:Int)+((s.l.map l8).length:Int)<=B
    rw[List.length_map];exact this }
theorem Akx:kb (l8 m)=kb m:=by
 unfold l8
 split
 ·unfold kb
  cases hy:m.y <;> rfl
 ·rfl
theorem Sn (h:fM c s):fM c (BV s):=
 { h with
   tn:=fun j hj=>by
    obtain⟨z,hz,hzi⟩:=h.tn j hj
    exact⟨_,List.mem_map_of_mem hz,by rw[Ei];exact hzi⟩
   cl:=fun ho=>by
    show s.l.map _= []
    rw[h.cl ho];rfl
   mo:=fun z hz=>by
    obtain⟨m,hm,rfl⟩:=List.mem_map.1 hz
    have h1:=h.mo m hm
    unfold l8
    split
    ·refine Uj h1 ?_ Ahf
     have:=h1.y
     cases hy:m.y <;> (rw[hy] at this;exact this)
    ·exact h1
   nf:=by
    have h1:=h.nf
    unfold fJ at h1
    show(((s.l.map l8).filter fun m=>m.own == false).length:Int)<=s.sh.g.st
    rw[nF,List.map_map]
    rw[nF] at h1
    have e:(Sm.own ∘ l8)=Sm.own:=funext fun m=>OP
    rw[e];exact h1
   kp:=by
    have h1:=h.kp
    show s.rv.us+xA (s.l.map l8)<=s.rv.got
    rw[UE fun m=>Akx];exact h1
   lk:=fun j=>(h.lk j).trans (Kc (q:=l8) (fun _=>Ei) fun m=>by unfold l8;split <;> rfl) }
theorem Aks (h:x6 m):x6 { m with y:=yGr m.y }:=⟨h.1.trans Ahf.symm,h.2⟩
theorem VT (h:l[j]?=some m):(l.take (j+1)).flatMap rY=(l.take j).flatMap rY++rY m:=by
 rw[List.take_add_one,h]
 simp
theorem Gt:(K2 t st n).length<=1:=by unfold K2;split <;> simp
theorem Wr:(rY m).length<=1:=by
 unfold rY
 split
 ·exact Gt
 ·simp
theorem flat_len:∀ {l:List Sm},(l.flatMap rY).length<=l.length
 | []=>by simp
 |m::l=>by
  have h1:=Wr (m:=m)
  have h2:=flat_len (l:=l)
  rw[List.flatMap_cons,List.length_append,List.length_cons]
  omega
theorem PF (hI:bR B s) (hK:∀A c,K (.slice A (uU s).length c) (bU A c 45 tC (uU s)::cY x a (BV s) M mc R)):CT 74 #[PO x] (cY x a s M mc R) K:=by
 have hbb:=hI.bb
 have hrv:=hI.rv
 unfold Ha at hrv
 have h64:=hI.sm.1
 dsimp only[cY,p8]
 refine aJ Tryz.func74 ?_
 repeat' (first|refine v79 ?_|refine w5 ?_ ?_|((refine bh fun h=>?_) <;> try exact w6 h)|(refine aF fun hA=>?_;subst hA)|intro _|(show aA _ 138 _ _ _;refine CA (h:=IE (cap:=s.rv.cap) (gr:=s.rv.gr) (us:=s.rv.us) (by omega) (by omega) ?_))|(show aA _ 137 _ _ _;refine CA (h:=aA.ent Aju (zG (fs:= []) (by decide) ?_)))|(show aA _ 61 _ _ _;refine CA (h:=yF (l:=s.l) ?_)))
 rename_i r3
 refine iH (fun n a' C'=>∃(j:Nat) (L:List Fm),j+n=s.l.length/\L=K2 10 0 (vE s.rv)++(s.l.take j).flatMap rY/\cW a' [(0,PO x),(3,PO r3),(4,.func (.func 137) #[] #[PO r3]),(22,I6 s.l.length),(23,I6 j)]/\C'=V3 r3 L::cY x a { s with rv:=Rw s.rv,l:=(s.l.take j).map l8++s.l.drop j } M mc R) s.l.length (cG s.l.length ⟨0,[]++K2 10 0 (vE s.rv),by omega,by simp,⟨rfl,rfl,rfl,rfl,rfl,trivial⟩,rfl⟩ (by omega)) ?_
 rintro n a' C' ⟨j,L,hj,hL,ha,rfl⟩
 refine gJ _ ha ?_
 simp only[fF]
 have hLl:=congrArg List.length hL
 rw[List.length_append] at hLl
 have hl1:=Gt (t:=10) (st:=0) (n:=vE s.rv)
 have hl2:=flat_len (l:=s.l.take j)
 rw[List.length_take] at hl2
 by_cases hlt:j<s.l.length
 ·obtain⟨m,hm⟩:∃m,s.l[j]?=some m:=⟨_,List.getElem?_eq_getElem hlt⟩
  have hat:=Ug (g:=l8) hm
  have hset:=Nw (g:=l8) hm
  have hS:=Uw hI.sm (OR (g:=l8) (l:=s.l) (j:=j) fun _=>Ei)
  have hft:=VT hm
  have hkk:bA m.x=1\/bA m.x=2:=by cases m.x;exact .inl rfl;exact .inr rfl
  dsimp only[cY,p8]
  cases hr:SY m
  ·have hr2:decide (m.sta=1\/m.sta=2)=false:=hr
   have e1:l8 m=m:=by unfold l8;rw[hr];rfl
   have e2:rY m= []:=by unfold rY;rw[hr];rfl
   rw[e2,List.append_nil] at hft
   rcases hkk with hk|hk
   ·repeat' (first|refine v79 ?_|refine w5 ?_ ?_|((refine bh fun h=>?_) <;> try exact w6 h)|(refine aF fun hA=>?_;subst hA)|intro _|(show aA _ 63 _ _ _;refine CA (h:=A7 (l:=(s.l.take j).map l8++s.l.drop j) hS hat (fun bq li t r hok=>?_)))|(show aA _ 139 _ _ _;refine CA (h:=rL (x:=m.x) ?_);rw[hk])|(show aA _ 140 _ _ _;refine CA (h:=eI (s:=m.sta) ?_);rw[hr2]))
    all_goals(show aZ _ _ _ _;exact s8 (m:=n - 1) (by omega) (aG.trans (by exact bE) (aG.trans (aG.cons (A:=V3 r3 L) (cX (m:=m) hok)) (aG.cons (A:=V3 r3 L) (pG (x:=x) (a:=a) (s:= { s with rv:=Rw s.rv,l:=(s.l.take j).map l8++s.l.drop j }) (M:=M) (mc:=mc) (R:=R) (m':=m) hat rfl)))) ⟨j+1,L,by omega,by rw[hL,hft],⟨rfl,rfl,rfl,rfl,rfl,trivial⟩,by rw[<- hset,e1]⟩)
   ·repeat' (first|refine v79 ?_|refine w5 ?_ ?_|((refine bh fun h=>?_) <;> try exact w6 h)|(refine aF fun hA=>?_;subst hA)|intro _|(show aA _ 63 _ _ _;refine CA (h:=A7 (l:=(s.l.take j).map l8++s.l.drop j) hS hat (fun bq li t r hok=>?_)))|(show aA _ 139 _ _ _;refine CA (h:=rL (x:=m.x) ?_);rw[hk])|(show aA _ 140 _ _ _;refine CA (h:=eI (s:=m.sta) ?_);rw[hr2]))
    all_goals(show aZ _ _ _ _;exact s8 (m:=n - 1) (by omega) (aG.trans (by exact bE) (aG.trans (aG.cons (A:=V3 r3 L) (cX (m:=m) hok)) (aG.cons (A:=V3 r3 L) (pG (x:=x) (a:=a) (s:= { s with rv:=Rw s.rv,l:=(s.l.take j).map l8++s.l.drop j }) (M:=M) (mc:=mc) (R:=R) (m':=m) hat rfl)))) ⟨j+1,L,by omega,by rw[hL,hft],⟨rfl,rfl,rfl,rfl,rfl,trivial⟩,by rw[<- hset,e1]⟩)
  ·have hr2:decide (m.sta=1\/m.sta=2)=true:=hr
   have e1:l8 m= { m with y:=yGr m.y }:=by unfold l8;rw[hr];rfl
   rcases hkk with hk|hk
   ·have e2:rY m=K2 10 m.id (GV m.y):=by unfold rY;rw[hr,hk];rfl
    rw[e2] at hft
    repeat' (first|refine v79 ?_|refine w5 ?_ ?_|((refine bh fun h=>?_) <;> try exact w6 h)|(refine aF fun hA=>?_;subst hA)|intro _|(show aA _ 63 _ _ _;refine CA (h:=A7 (l:=(s.l.take j).map l8++s.l.drop j) hS hat (fun bq li t r hok=>?_)))|(show aA _ 139 _ _ _;refine CA (h:=rL (x:=m.x) ?_);rw[hk])|(show aA _ 140 _ _ _;refine CA (h:=eI (s:=m.sta) ?_);rw[hr2])|(show aA _ 67 _ _ _;refine CA (h:=Yn ?_))|(show aA _ 141 _ _ _;refine CA (h:=JU (y:=m.y) ?_))|(show aA _ 137 _ _ _;refine CA (h:=zG (fs:=L) (by omega) ?_)))
    all_goals(show aZ _ _ _ _;exact s8 (m:=n - 1) (by omega) (aG.trans (by exact bE) (aG.trans (aG.cons (A:=V3 r3 (L++K2 10 m.id (GV m.y))) (cX (m:= { m with y:=yGr m.y }) (Aks hok))) (aG.cons (A:=V3 r3 (L++K2 10 m.id (GV m.y))) (pG (x:=x) (a:=a) (s:= { s with rv:=Rw s.rv,l:=(s.l.take j).map l8++s.l.drop j }) (M:=M) (mc:=mc) (R:=R) (m':= { m with y:=yGr m.y }) hat rfl)))) ⟨j+1,L++K2 10 m.id (GV m.y),by omega,by rw[hL,hft,List.append_assoc],⟨rfl,rfl,rfl,rfl,rfl,trivial⟩,by rw[<- hset,e1]⟩)
   ·have e2:rY m=K2 11 m.id (GV m.y):=by unfold rY;rw[hr,hk];rfl
    rw[e2] at hft
    repeat' (first|refine v79 ?_|refine w5 ?_ ?_|((refine bh fun h=>?_) <;> try exact w6 h)|(refine aF fun hA=>?_;subst hA)|intro _|(show aA _ 63 _ _ _;refine CA (h:=A7 (l:=(s.l.take j).map l8++s.l.drop j) hS hat (fun bq li t r hok=>?_)))|(show aA _ 139 _ _ _;refine CA (h:=rL (x:=m.x) ?_);rw[hk])|(show aA _ 140 _ _ _;refine CA (h:=eI (s:=m.sta) ?_);rw[hr2])|(show aA _ 67 _ _ _;refine CA (h:=Yn ?_))|(show aA _ 141 _ _ _;refine CA (h:=JU (y:=m.y) ?_))|(show aA _ 137 _ _ _;refine CA (h:=zG (fs:=L) (by omega) ?_)))
    all_goals(show aZ _ _ _ _;exact s8 (m:=n - 1) (by omega) (aG.trans (by exact bE) (aG.trans (aG.cons (A:=V3 r3 (L++K2 11 m.id (GV m.y))) (cX (m:= { m with y:=yGr m.y }) (Aks hok))) (aG.cons (A:=V3 r3 (L++K2 11 m.id (GV m.y))) (pG (x:=x) (a:=a) (s:= { s with rv:=Rw s.rv,l:=(s.l.take j).map l8++s.l.drop j }) (M:=M) (mc:=mc) (R:=R) (m':= { m with y:=yGr m.y }) hat rfl)))) ⟨j+1,L++K2 11 m.id (GV m.y),by omega,by rw[hL,hft,List.append_assoc],⟨rfl,rfl,rfl,rfl,rfl,trivial⟩,by rw[<- hset,e1]⟩)
 ·obtain rfl:j=s.l.length:=by omega
  rw[List.take_length] at hL
  have hL:L=uU s:=hL
  subst hL
  rw[List.take_length,List.drop_length,List.append_nil]
  refine vX fun F=>vX fun k=>GB ?_
  repeat' (first|refine v79 ?_|refine w5 ?_ ?_|((refine bh fun h=>?_) <;> try exact w6 h)|(refine aF fun hA=>?_;subst hA)|intro _)
  all_goals(refine aC ?_;exact aB (hK _ _))
theorem S8 (hI:bR B s) (hk:fM c s) (h:(eE s.tr)[j]?=some id):∃m,bX id s.l=some m/\m.id=id:=by
 have h1:=JL hI.tr (n:=s.tr.1.length+1) (lv:=cC 0 s.tr.1) (fun y hy=>(kZ hI.tr.nd hy).1) id (List.mem_of_getElem? h)
 obtain⟨m,hm,rfl⟩:=hk.tn id h1
 exact⟨m,EO hI.sm hm,rfl⟩
theorem SS {z:eS} (h:Mt z):∀ {n:Nat} {lv:List Int},lv.Nodup->(∀y∈lv,eX z y)->(yN z n lv).length<=64 * n
 |0,_,_,_=>Nat.zero_le _
 |n+1,lv,hn,hl=>by
  have h64:=h.len
  have h1:=IX (s:=z) hn hl
  have h2:=SS h (n:=n) (Ahh h.nd hn) (fun q hq=>by
   unfold Jv at hq
   exact(Aj h.nd q (Au.1 hq)).1)
  unfold yN
  split
  ·simp
  ·rw[List.length_append];omega
theorem Fi (hI:bR B s):(eE s.tr).length<=10000:=by
 have h1:=hI.tr.len
 have h2:=SS hI.tr (n:=s.tr.1.length+1) (lv:=cC 0 s.tr.1) (Bp hI.tr.nd) fun y hy=>(kZ hI.tr.nd hy).1
 unfold eE
 omega
theorem map_take {α β:Type} {f:α->β} {l:List α} {z:α} (h:l[j]?=some z):(l.take (j+1)).map f=(l.take j).map f++ [f z]:=by
 rw[List.take_add_one,h]
 simp
def jY:List Nat:= [0,0,0,4,12,28,0,124,0,256,768,1792,4092,8188,16380,32764,16380,81916,212988,475132,16380,2097148,4194300,8388604,16777214,33554430,67108863,134217727]
def jZ:List Nat:= [134217727,67108863,33554430,16777214,8388604,4194300,2097148,16380,475132,212988,81916,16380,32764,16380,8188,4092,1792,768,256,0,124,0,28,12,4,0,0,0]
def j6:List (Nat×Nat):= [(2,0),(3,0),(4,0),(5,0),(6,0),(7,1),(8,1),(9,1),(10,1),(11,1),(12,1),(13,0),(14,0),(15,1),(16,1),(17,1),(18,1),(19,1),(20,1),(21,1),(22,1),(1,5),(23,0),(24,0),(25,1),(0,6),(26,1),(27,0)]
theorem uB (hI:bR B s) (hk:fM c s) (hK:∀A c,K (.slice A (eO s).length c) (bU A c 274 LQ (eO s)::cY x a s M mc R)):CT 143 #[PO x] (cY x a s M mc R) K:=by
 have hbb:=hI.bb
 have hld:=hI.ld.ok (by omega)
 have htl:=hI.tr.len
 obtain⟨rk,hrk⟩:=hI.tr.rk
 have hll:=Fi hI
 unfold eO at hK
 dsimp only[cY,p8]
 refine aJ Tryz.func143 ?_
 repeat' (first|refine Xt ?_|refine ON jY jZ j6 ?_|refine w5 ?_ ?_|((refine bh fun h=>?_) <;> try exact w6 h)|(refine aF fun hA=>?_;subst hA)|intro _|(show aA _ 226 _ _ _;refine CA (h:=Rr (s:=s.tr) (r:=rk) hI.tr.kok (by omega) hI.tr.nd hrk (fun Bq dq=>?_))))
 refine iH (fun n a' C'=>∃(j:Nat) (A:Option Addr) (k:Nat),j+n=(eE s.tr).length/\cW a' [(0,PO x),(3,.slice A (((eE s.tr).take j).map (nT s)).length k),(12,.slice Bq (eE s.tr).length dq),(13,I6 (eE s.tr).length),(14,I6 j)]/\C'=bU A k 274 LQ (((eE s.tr).take j).map (nT s))::bU Bq dq 3 mI (eE s.tr)::cY x a s M mc R) (eE s.tr).length (cG (eE s.tr).length ⟨0,none,0,by omega,⟨rfl,rfl,rfl,rfl,rfl,trivial⟩,rfl⟩) ?_
 rintro n a' C' ⟨j,A,k,hj,ha,rfl⟩
 refine gJ _ ha ?_
 simp only[fF]
 have hlt0:(((eE s.tr).take j).map (nT s)).length=min j (eE s.tr).length:=by rw[List.length_map,List.length_take]
 by_cases hlt:j<(eE s.tr).length
 ·obtain⟨id,hid⟩:∃id,(eE s.tr)[j]?=some id:=⟨_,List.getElem?_eq_getElem hlt⟩
  obtain⟨m,hm,hmid⟩:=S8 hI hk hid
  have hi:=(aX hm).1
  have hmt:=map_take (f:=nT s) hid
  have hv:(eE s.tr)[((j:Nat):Int).toNat]?=some id:=by rw[Int.toNat_natCast];exact hid
  have hlj:(((eE s.tr).take j).map (nT s)).length=j:=by omega
  dsimp only[cY,p8]
  cases hg:VN m
  ·have hg2:decide (m.sta=1\/m.sta=3)=false:=hg
   have e:nT s id=⟨id,if dZ id s.tr.1=true then(dD id s.tr).w else 0,false⟩:=by unfold nT;rw[hm];dsimp only;rw[hg];rfl
   repeat' (first|(show aM _ _ _ _ _ _ _;(refine mD (E:=LQ) (xs:=((eE s.tr).take j).map (nT s)) (ys:= [⟨id,if dZ id s.tr.1=true then(dD id s.tr).w else 0,false⟩]) ?_;intro A2 k2))|refine Xt ?_|refine ON jY jZ j6 ?_|refine w5 ?_ ?_|((refine bh fun h=>?_) <;> try exact w6 h)|(refine aF fun hA=>?_;subst hA)|intro _|(show aA _ 144 _ _ _;refine CA (h:=OY (l:=s.l) hI.sm hm (fun bq li t r hok=>?_)))|(show aA _ 227 _ _ _;refine CA (h:=FX (s:=s.tr) ?_))|(show aA _ 133 _ _ _;refine CA (h:=oP (s:=m.sta) ?_);rw[hg2]))
   all_goals rw[<- e,<- hmt]
   all_goals(show aZ _ _ _ _;exact s8 (m:=n - 1) (by omega) (aG.trans (by exact bE) (aG.cons (A:=bU A2 k2 274 LQ (((eE s.tr).take (j+1)).map (nT s))) (aG.cons (A:=bU _ dq 3 mI (eE s.tr)) (aG.trans (cX (m:=m) hok) (f3 (x:=x) (a:=a) (s:=s) (M:=M) (mc:=mc) (R:=R) hi))))) ⟨j+1,A2,k2,by omega,⟨rfl,rfl,rfl,rfl,rfl,trivial⟩,rfl⟩)
  ·have hg2:decide (m.sta=1\/m.sta=3)=true:=hg
   have e:nT s id=⟨id,if dZ id s.tr.1=true then(dD id s.tr).w else 0,OM m.x (bC id s.ld)⟩:=by unfold nT;rw[hm];dsimp only;rw[hg];rfl
   repeat' (first|(show aM _ _ _ _ _ _ _;(refine mD (E:=LQ) (xs:=((eE s.tr).take j).map (nT s)) (ys:= [⟨id,if dZ id s.tr.1=true then(dD id s.tr).w else 0,OM m.x (bC id s.ld)⟩]) ?_;intro A2 k2))|refine Xt ?_|refine ON jY jZ j6 ?_|refine w5 ?_ ?_|((refine bh fun h=>?_) <;> try exact w6 h)|(refine aF fun hA=>?_;subst hA)|intro _|(show aA _ 144 _ _ _;refine CA (h:=OY (l:=s.l) hI.sm hm (fun bq li t r hok=>?_)))|(show aA _ 227 _ _ _;refine CA (h:=FX (s:=s.tr) ?_))|(show aA _ 133 _ _ _;refine CA (h:=oP (s:=m.sta) ?_);rw[hg2])|(show aA _ 64 _ _ _;refine CA (h:=Ml ?_))|(show aA _ 135 _ _ _;refine CA (h:=tT (s:=s.ld) hld ?_))|(show aA _ 211 _ _ _;refine CA (h:=Afd (x:=m.x) ?_)))
   all_goals rw[<- e,<- hmt]
   all_goals(show aZ _ _ _ _;exact s8 (m:=n - 1) (by omega) (aG.trans (by exact bE) (aG.cons (A:=bU A2 k2 274 LQ (((eE s.tr).take (j+1)).map (nT s))) (aG.cons (A:=bU _ dq 3 mI (eE s.tr)) (aG.trans (cX (m:=m) hok) (f3 (x:=x) (a:=a) (s:=s) (M:=M) (mc:=mc) (R:=R) hi))))) ⟨j+1,A2,k2,by omega,⟨rfl,rfl,rfl,rfl,rfl,trivial⟩,rfl⟩)
 ·obtain rfl:j=(eE s.tr).length:=by omega
  rw[List.take_length]
  repeat' (first|refine Xt ?_|refine ON jY jZ j6 ?_|refine w5 ?_ ?_|((refine bh fun h=>?_) <;> try exact w6 h)|(refine aF fun hA=>?_;subst hA)|intro _)
  all_goals(refine aC ?_;exact aB (hK _ _))
def Aca (q:wX) (s:Cn):Cn:= { s with pk:=q.1,pc:=q.2 }
def T0 (id:Int) (m:Sm) (s:Cn):Fm:=qQ (bA m.x - 1) id (iL m.x (bC id s.ld)) (BY m.x (bC id s.ld))
def Em (id:Int) (m:Sm) (s:Cn):Int:=if bA m.x=1 then((iL m.x (bC id s.ld)).size:Nat) else if iL m.x (bC id s.ld)=⟨#[]⟩/\BY m.x (bC id s.ld)=true then 0 else 1
def u3 (id:Int) (m:Sm) (q:wX) (s:Cn):Cn:= { s with ld:=(if bA m.x=1 then mB id ((iL m.x (bC id s.ld)).size:Nat) s.ld else s.ld),pk:=(jW id (qY id q.1 - fV ((iL m.x (bC id s.ld)).size:Nat)) q).1,pc:=(jW id (qY id q.1 - fV ((iL m.x (bC id s.ld)).size:Nat)) q).2 }
def AB (id:Int) (m:Sm) (q:wX) (s:Cn):Cn:=kT (CX m (bC id s.ld)) (tI ⟨1,id,Em id m s,iL m.x (bC id s.ld),BY m.x (bC id s.ld)⟩ (zM (CX m (bC id s.ld)) (u3 id m q s)))
theorem MW (h:AO (s.pk,s.pc) (eO s)=(none,q)):qN s=(none,Aca q s):=by
 unfold qN;rw[h];rfl
theorem Ir (h:AO (s.pk,s.pc) (eO s)=(some id,q)) (hm:bX id s.l=some m) (hr:Hm m (bC id s.ld)=true):qN s=(some (T0 id m s),AB id m q s):=by
 unfold qN;rw[h];dsimp only;rw[hm];dsimp only;rw[if_neg (by rw[hr];decide)];rfl
theorem SO {pk:List (KE Int)}:∀ {l:List Tu},sG pk l=some id->∃y∈l,y.id=id
 | [],h=>by cases h
 |x::r,h=>by
  unfold sG at h
  split at h
  ·cases h;exact⟨x,List.mem_cons_self ..,rfl⟩
  ·obtain⟨y,hy,e⟩:=SO h
   exact⟨y,List.mem_cons_of_mem _ hy,e⟩
theorem Ls:∀ {l:List Tu} {seen:List (KE Bool)} {ck:Nat},∀y∈qH seen ck l,y∈l/\y.rd=true
 | [],_,_,_,hy=>by cases hy
 |x::r,seen,ck,y,hy=>by
  unfold qH at hy
  split at hy
  ·rename_i hc
   rcases List.mem_cons.1 hy with rfl|hy
   ·exact⟨List.mem_cons_self ..,hc.2⟩
   ·obtain⟨h1,h2⟩:=Ls y hy
    exact⟨List.mem_cons_of_mem _ h1,h2⟩
  ·obtain⟨h1,h2⟩:=Ls y hy
   exact⟨List.mem_cons_of_mem _ h1,h2⟩
theorem Akd {z:wX} {l:List Tu} (h:AO z l=(some id,q)):∃y∈l,y.id=id/\y.rd=true:=by
 unfold AO at h
 cases hw:qH [] 0 l with
 |nil=>rw[hw] at h;cases h
 |cons x r=>
  rw[hw] at h
  dsimp only at h
  have key:∀ {pk:List (KE Int)},sG pk (x::r)=some id->∃y∈l,y.id=id/\y.rd=true:=fun hf=>by
   obtain⟨y,hy,e⟩:=SO hf
   rw[<- hw] at hy
   obtain⟨h1,h2⟩:=Ls y hy
   exact⟨y,h1,e,h2⟩
  cases hf:sG z.1 (x::r) with
  |some k=>
   rw[hf] at h
   cases h
   exact key hf
  |none=>
   rw[hf] at h
   exact key (congrArg Prod.fst h)
theorem EE (hI:bR B s) (hk:fM c s) (h:AO (s.pk,s.pc) (eO s)=(some id,q)):∃m,bX id s.l=some m/\Hm m (bC id s.ld)=true:=by
 obtain⟨y,hy,hid,hrd⟩:=Akd h
 obtain⟨k,hk2,rfl⟩:=List.mem_map.1 hy
 have hid:k=id:=hid
 subst hid
 obtain⟨j,hj⟩:=List.getElem?_of_mem hk2
 obtain⟨m,hm,_⟩:=S8 hI hk hj
 refine⟨m,hm,?_⟩
 unfold nT at hrd
 rw[hm] at hrd
 exact hrd
theorem VE {z:Ld}:0<=bC id z:=by
 unfold bC
 split
 ·omega
 ·exact Int.le_refl 0
theorem Mj {x:Xs} (h:xSz x):(iL x n).size<=256:=by
 cases x with
 |b z=>
  have e:(iL (.b z) n).size=min (B5 z.bs n) z.bs.length:=by
   show((z.bs.take (B5 z.bs n)).toArray).size=_
   simp
  rw[e];unfold B5;omega
 |i z=>
  cases hl:z.l with
  |nil=>
   have e:iL (.i z) n=⟨#[]⟩:=by simp only[iL,hl]
   rw[e];decide
  |cons d r=>
   have e:iL (.i z) n=d:=by simp only[iL,hl]
   rw[e]
   exact h d (by rw[hl];exact List.mem_cons_self ..)
theorem Ako {x:Xs} (hk:bA x=1) (hn:0<=n):((iL x n).size:Int)<=n:=by
 cases x with
 |b z=>
  have e:(iL (.b z) n).size=min (B5 z.bs n) z.bs.length:=by
   show((z.bs.take (B5 z.bs n)).toArray).size=_
   simp
  rw[e];unfold B5;omega
 |i z=>cases hk
theorem Ae7 (hI:bR B s) (hk:fM c s) (hm:bX id s.l=some m) (hx:bA m.x=1):sJ id ((iL m.x (bC id s.ld)).size:Nat) s.ld=0:=by
 obtain⟨hi,hmid⟩:=aX hm
 have h1:=(IY hI.ld).2 ((hk.lk id).2 ⟨m,List.mem_of_getElem? hi,hmid,hx⟩)
 have h2:=Ako hx (VE (id:=id) (z:=s.ld))
 unfold sJ
 rw[if_neg (by rw[h1];decide),if_neg (by omega),if_neg (by omega)]
theorem XP (h:k<=256):1<=fV k/\fV k<=1024:=by
 unfold fV
 split <;> omega
theorem vW:(CX m n).id=m.id:=by unfold CX;split <;> rfl
theorem Te:(CX m n).own=m.own:=by unfold CX;split <;> rfl
theorem X7:bA (CX m n).x=bA m.x:=by
 unfold CX
 split
 ·exact Dw
 ·rfl
theorem Aiq (h:Ey B m):Ey B (CX m n):=by
 obtain⟨h1,h2,h3,h4⟩:=h
 unfold CX
 split
 ·refine⟨h1,?_,h3,h4⟩
  show K0 (xTk m.x n)<=B
  cases hx:m.x with
  |b z=>rw[hx] at h2;exact h2
  |i z=>
   rw[hx] at h2
   unfold xTk
   dsimp only
   split <;> exact h2
 ·exact⟨h1,h2,h3,h4⟩
theorem Ah8 (h:OZ c g m):OZ c g (CX m n):=by
 obtain⟨h1,h2,h3,h4⟩:=h
 unfold CX
 split
 ·refine⟨h1,?_,Dw.trans h3,?_⟩
  ·show Zb c (xTk m.x n)
   cases hx:m.x with
   |b z=>rw[hx] at h2;exact h2
   |i z=>
    rw[hx] at h2
    unfold xTk
    dsimp only
    split <;> exact h2
  ·show xSz (xTk m.x n)
   cases hx:m.x with
   |b z=>trivial
   |i z=>
    rw[hx] at h4
    unfold xTk
    dsimp only
    split
    ·exact h4
    ·rename_i d r hl
     exact fun y hy=>h4 y (by rw[hl];exact List.mem_cons_of_mem _ hy)
 ·exact⟨h1,h2,h3,h4⟩
theorem Akr:kb (CX m n)=kb m:=by
 unfold kb
 rw[X7]
 have:gH (CX m n).y=gH m.y:=by unfold CX;split <;> rfl
 rw[this]
theorem Aia (h:bR B s) (hq:KN q):bR B (Aca q s):= { h with pk:=hq }
theorem Wt (h:bR B s) (hk:fM c s) (hm:bX id s.l=some m) (hq:KN q) (hB:B+300<=250000000):bR (B+300) (u3 id m q s):=by
 have hs:=Mj (n:=bC id s.ld) (hk.mo m (List.mem_of_getElem? (aX hm).1)).sz
 exact { h.mono (B':=B+300) (by omega) hB with
  pk:=MH hq
  ld:=by
   show F4 (B+300) (if bA m.x=1 then mB id ((iL m.x (bC id s.ld)).size:Nat) s.ld else s.ld)
   split
   ·exact Wd h.ld (by omega) (by omega)
   ·exact h.ld.mono (by omega) }
theorem E0 (hm:bX id s.l=some m):zM (CX m (bC id s.ld)) (u3 id m q s)= { u3 id m q s with l:=s.l.set (cB id s.l) (CX m (bC id s.ld)) }:=fS (s:=u3 id m q s) (id:=id) (vW.trans (aX hm).2)
theorem EP (h:bR B s) (hk:fM c s) (hm:bX id s.l=some m) (hq:KN q) (hB:B+300<=250000000):bR (B+300) { tI mv (u3 id m q s) with l:=s.l.set (cB id s.l) (CX m (bC id s.ld)) }:=by
 obtain⟨hi,hmid⟩:=aX hm
 have h1:=Wt h hk hm hq hB
 refine mA (s:=tI mv (u3 id m q s)) (m:=m) ?_ hi vW Te (Aiq (h1.st m (List.mem_of_getElem? hi)))
 exact { h1 with
  mv:=by
   have:=h.mv
   show((s.mv++ [mv]).length:Int)+s.l.length<=B+300
   rw[List.length_append,List.length_singleton];omega }
theorem WT (hk:fM c s) (hm:bX id s.l=some m):fM c { tI mv (u3 id m q s) with l:=s.l.set (cB id s.l) (CX m (bC id s.ld)) }:=by
 obtain⟨hi,hmid⟩:=aX hm
 have h1:fM c (tI mv (u3 id m q s)):= { hk with
  lk:=fun j=>by
   show j∈(if bA m.x=1 then mB id ((iL m.x (bC id s.ld)).size:Nat) s.ld else s.ld).l.map fD.id↔_
   split
   ·rw[V0];exact hk.lk j
   ·exact hk.lk j }
 exact x5 (s:=tI mv (u3 id m q s)) h1 hi vW Te (Ah8 (hk.mo m (List.mem_of_getElem? hi))) (by rw[Akr];exact Nat.le_refl _) X7
theorem O4 (h:bR B s) (hk:fM c s) (hm:bX id s.l=some m) (hq:KN q) (hB:B+300<=250000000):bR (B+300) (AB id m q s):=by
 unfold AB
 rw[E0 hm]
 exact Dl (EP h hk hm hq hB) (mM (m':=CX m (bC id s.ld)) hm vW)
theorem OB (h:bR B s) (hk:fM c s) (hm:bX id s.l=some m) (hq:KN q) (hB:B+300<=250000000):fM c (AB id m q s):=by
 unfold AB
 rw[E0 hm]
 exact DG (EP h hk hm hq hB) (WT hk hm) (mM (m':=CX m (bC id s.ld)) hm vW)
theorem Ai0 {d:ByteArray} (h:d≠⟨#[]⟩):(d.toList == (ByteArray.mk #[]).toList)=false:=by
 rw[beq_eq_false_iff_ne]
 intro e
 apply h
 rw[ByteArray.toList_eq,ByteArray.toList_eq] at e
 exact ByteArray.ext (Array.toList_inj.1 e)
def iY:List (Nat×Nat):= [(4,0),(5,1),(0,1),(1,1),(2,1),(3,1),(6,1),(7,0),(8,0),(9,0),(10,0),(11,0)]
def iE:List (Nat×Nat):= [(5,0),(6,0),(7,0),(8,1),(0,1),(1,1),(2,1),(3,1),(4,1),(9,1)]
theorem Si (hI:bR B s) (hk:fM c s) (h:AO (s.pk,s.pc) (eO s)=(none,q)) (hK:K (.tuple #[.agg #[I6 0,I6 0,.bool false,.string ⟨#[]⟩,I6 0,I6 0,I6 0,.bool false,I6 0,I6 0,I6 0,.slice none 0 0],.bool false]) (cY x a (Aca q s) M mc R)):CT 75 #[PO x] (cY x a s M mc R) K:=by
 have hV:KI (s.pk,s.pc) (eO s)=.tuple #[I6 0,.bool false]:=by unfold KI;rw[h]
 have hln:(eO s).length<=10000:=by unfold eO;rw[List.length_map];exact Fi hI
 refine aJ Tryz.func75 ?_
 repeat' (first|refine Xv ?_|refine dw iY ?_|refine dw iE ?_|refine w5 ?_ ?_|((refine bh fun h=>?_) <;> try exact w6 h)|(refine aF fun hA=>?_;subst hA)|intro _|(show aA _ 143 _ _ _;refine CA (h:=uB (x:=x) (a:=a) (s:=s) (M:=M) (mc:=mc) hI hk (fun _ _=>?_)))|(show aA _ 142 _ _ _;refine CA (h:=wF (s:=(s.pk,s.pc)) (l:=eO s) hln hI.pk ?_);rw[hV,h]))
 all_goals(refine aC ?_;exact aB (hK))
theorem Sj (hI:bR B s) (hk:fM c s) (hB:B+300<=250000000) (h:AO (s.pk,s.pc) (eO s)=(some id,q)) (hm:bX id s.l=some m) (hr:Hm m (bC id s.ld)=true) (hK:∀M mc,K (.tuple #[.agg #[I6 (bA m.x - 1),I6 id,.bool (BY m.x (bC id s.ld)),.string (iL m.x (bC id s.ld)),I6 0,I6 0,I6 0,.bool false,I6 0,I6 0,I6 0,.slice none 0 0],.bool true]) (cY x a (AB id m q s) M mc R)):CT 75 #[PO x] (cY x a s M mc R) K:=by
 have hV:KI (s.pk,s.pc) (eO s)=.tuple #[I6 id,.bool true]:=by unfold KI;rw[h]
 have hln:(eO s).length<=10000:=by unfold eO;rw[List.length_map];exact Fi hI
 have hbb:=hI.bb
 have hmv:=hI.mv
 have hld:=hI.ld.ok (by omega)
 obtain⟨hi,hmid⟩:=aX hm
 have hq:KN q:=by
  have:=LB (s:=(s.pk,s.pc)) (l:=eO s) hI.pk
  rw[h] at this;exact this
 have hql:=EL hq id
 have hsz:=Mj (n:=bC id s.ld) (hk.mo m (List.mem_of_getElem? hi)).sz
 have hco:=XP hsz
 have hI2:=EP (mv:=⟨1,id,Em id m s,iL m.x (bC id s.ld),BY m.x (bC id s.ld)⟩) hI hk hm hq hB
 have hat:=mM (m':=CX m (bC id s.ld)) hm vW
 unfold AB at hK
 rw[E0 hm] at hK
 have hkk:bA m.x=1\/bA m.x=2:=by cases m.x;exact .inl rfl;exact .inr rfl
 rcases hkk with hx|hx
 ·have hsp:=Ae7 hI hk hm hx
  have hx1:bA m.x - 1=0:=by omega
  have hN:Em id m s=((iL m.x (bC id s.ld)).size:Nat):=if_pos hx
  rw[hN] at hK hI2
  rw[hx1] at hK
  have e1:u3 id m q s= { s with ld:=mB id ((iL m.x (bC id s.ld)).size:Nat) s.ld,pk:=(jW id (qY id q.1 - fV ((iL m.x (bC id s.ld)).size:Nat)) q).1,pc:=(jW id (qY id q.1 - fV ((iL m.x (bC id s.ld)).size:Nat)) q).2 }:=by unfold u3;rw[if_pos hx]
  rw[e1] at hK hI2
  refine aJ Tryz.func75 ?_
  repeat' (first|refine Xv ?_|refine dw iY ?_|refine dw iE ?_|refine w5 ?_ ?_|((refine bh fun h=>?_) <;> try exact w6 h)|(refine aF fun hA=>?_;subst hA)|intro _|(show aA _ 143 _ _ _;refine CA (h:=uB (x:=x) (a:=a) (s:=s) (M:=M) (mc:=mc) hI hk (fun _ _=>?_)))|(show aA _ 142 _ _ _;refine CA (h:=wF (s:=(s.pk,s.pc)) (l:=eO s) hln hI.pk ?_);rw[hV,h])|(show aA _ 144 _ _ _;refine CA (h:=gG (l:=s.l) hI.sm hm (fun bq=>?_)))|(show aA _ 135 _ _ _;refine CA (h:=tT (s:=s.ld) hld ?_))|(show aA _ 145 _ _ _;refine CA (h:=Bd (m:=m) hr ?_);rw[hx1,hmid])|(show aA _ 146 _ _ _;refine CA (h:=QR (s:=s.ld) hld ?_ hsp))|(show aA _ 148 _ _ _;refine CA (h:=Bo (by omega) ?_))|(show aA _ 147 _ _ _;refine CA (h:=vH (l:=q.1) (ck:=q.2) hco (by omega) ?_))|(show aA _ 149 _ _ _;refine CA (h:=kR (x:=x) (a:=a) (s:= { s with ld:=mB id ((iL m.x (bC id s.ld)).size:Nat) s.ld,pk:=(jW id (qY id q.1 - fV ((iL m.x (bC id s.ld)).size:Nat)) q).1,pc:=(jW id (qY id q.1 - fV ((iL m.x (bC id s.ld)).size:Nat)) q).2 }) (M:=M) (mc:=mc) (T:=Na a.l s.l (cB id s.l) bq) (by show s.mv.length<=1000000000;omega) (fun _ _=>?_)))|(show aA _ 89 _ _ _;refine CA (h:=mC (x:=x) (a:=a) (s:=tI ⟨1,id,((iL m.x (bC id s.ld)).size:Nat),(iL m.x (bC id s.ld)),(BY m.x (bC id s.ld))⟩ ({ s with ld:=mB id ((iL m.x (bC id s.ld)).size:Nat) s.ld,pk:=(jW id (qY id q.1 - fV ((iL m.x (bC id s.ld)).size:Nat)) q).1,pc:=(jW id (qY id q.1 - fV ((iL m.x (bC id s.ld)).size:Nat)) q).2 })) (i:=cB id s.l) (m:=m) (m':=CX m (bC id s.ld)) hi vW hI2 hat (fun _ _=>?_))))
  all_goals(refine aC ?_;exact aB (hK _ _))
 ·have hx1:bA m.x - 1=1:=by omega
  have hx2:¬bA m.x=1:=by omega
  rw[hx1] at hK
  have e1:u3 id m q s= { s with pk:=(jW id (qY id q.1 - fV ((iL m.x (bC id s.ld)).size:Nat)) q).1,pc:=(jW id (qY id q.1 - fV ((iL m.x (bC id s.ld)).size:Nat)) q).2 }:=by unfold u3;rw[if_neg hx2]
  rw[e1] at hK hI2
  by_cases hd:(iL m.x (bC id s.ld))=⟨#[]⟩
  ·cases he:(BY m.x (bC id s.ld))
   ·have hN:Em id m s=1:=by unfold Em;rw[if_neg hx2,if_neg (by rw[he];simp)]
    rw[hN] at hK hI2
    rw[hd] at hK hI2 hsz hco
    rw[he] at hK hI2
    refine aJ Tryz.func75 ?_
    repeat' (first|refine Xv ?_|refine dw iY ?_|refine dw iE ?_|refine w5 ?_ ?_|((refine bh fun h=>?_) <;> try exact w6 h)|(refine aF fun hA=>?_;subst hA)|intro _|(show aA _ 143 _ _ _;refine CA (h:=uB (x:=x) (a:=a) (s:=s) (M:=M) (mc:=mc) hI hk (fun _ _=>?_)))|(show aA _ 142 _ _ _;refine CA (h:=wF (s:=(s.pk,s.pc)) (l:=eO s) hln hI.pk ?_);rw[hV,h])|(show aA _ 144 _ _ _;refine CA (h:=gG (l:=s.l) hI.sm hm (fun bq=>?_)))|(show aA _ 135 _ _ _;refine CA (h:=tT (s:=s.ld) hld ?_))|(show aA _ 145 _ _ _;refine CA (h:=Bd (m:=m) hr ?_);rw[hx1,hmid,hd,he])|(show aA _ 148 _ _ _;refine CA (h:=Bo (by omega) ?_))|(show aA _ 147 _ _ _;refine CA (h:=vH (l:=q.1) (ck:=q.2) hco (by omega) ?_))|(show aA _ 149 _ _ _;refine CA (h:=kR (x:=x) (a:=a) (s:= { s with pk:=(jW id (qY id q.1 - fV ((⟨#[]⟩:ByteArray).size:Nat)) q).1,pc:=(jW id (qY id q.1 - fV ((⟨#[]⟩:ByteArray).size:Nat)) q).2 }) (M:=M) (mc:=mc) (T:=Na a.l s.l (cB id s.l) bq) (by show s.mv.length<=1000000000;omega) (fun _ _=>?_)))|(show aA _ 89 _ _ _;refine CA (h:=mC (x:=x) (a:=a) (s:=tI ⟨1,id,1,⟨#[]⟩,false⟩ ({ s with pk:=(jW id (qY id q.1 - fV ((⟨#[]⟩:ByteArray).size:Nat)) q).1,pc:=(jW id (qY id q.1 - fV ((⟨#[]⟩:ByteArray).size:Nat)) q).2 })) (i:=cB id s.l) (m:=m) (m':=CX m (bC id s.ld)) hi vW hI2 hat (fun _ _=>?_))))
    all_goals(refine aC ?_;exact aB (hK _ _))
   ·have hN:Em id m s=0:=by unfold Em;rw[if_neg hx2,if_pos ⟨hd,he⟩]
    rw[hN] at hK hI2
    rw[hd] at hK hI2 hsz hco
    rw[he] at hK hI2
    refine aJ Tryz.func75 ?_
    repeat' (first|refine Xv ?_|refine dw iY ?_|refine dw iE ?_|refine w5 ?_ ?_|((refine bh fun h=>?_) <;> try exact w6 h)|(refine aF fun hA=>?_;subst hA)|intro _|(show aA _ 143 _ _ _;refine CA (h:=uB (x:=x) (a:=a) (s:=s) (M:=M) (mc:=mc) hI hk (fun _ _=>?_)))|(show aA _ 142 _ _ _;refine CA (h:=wF (s:=(s.pk,s.pc)) (l:=eO s) hln hI.pk ?_);rw[hV,h])|(show aA _ 144 _ _ _;refine CA (h:=gG (l:=s.l) hI.sm hm (fun bq=>?_)))|(show aA _ 135 _ _ _;refine CA (h:=tT (s:=s.ld) hld ?_))|(show aA _ 145 _ _ _;refine CA (h:=Bd (m:=m) hr ?_);rw[hx1,hmid,hd,he])|(show aA _ 148 _ _ _;refine CA (h:=Bo (by omega) ?_))|(show aA _ 147 _ _ _;refine CA (h:=vH (l:=q.1) (ck:=q.2) hco (by omega) ?_))|(show aA _ 149 _ _ _;refine CA (h:=kR (x:=x) (a:=a) (s:= { s with pk:=(jW id (qY id q.1 - fV ((⟨#[]⟩:ByteArray).size:Nat)) q).1,pc:=(jW id (qY id q.1 - fV ((⟨#[]⟩:ByteArray).size:Nat)) q).2 }) (M:=M) (mc:=mc) (T:=Na a.l s.l (cB id s.l) bq) (by show s.mv.length<=1000000000;omega) (fun _ _=>?_)))|(show aA _ 89 _ _ _;refine CA (h:=mC (x:=x) (a:=a) (s:=tI ⟨1,id,0,⟨#[]⟩,true⟩ ({ s with pk:=(jW id (qY id q.1 - fV ((⟨#[]⟩:ByteArray).size:Nat)) q).1,pc:=(jW id (qY id q.1 - fV ((⟨#[]⟩:ByteArray).size:Nat)) q).2 })) (i:=cB id s.l) (m:=m) (m':=CX m (bC id s.ld)) hi vW hI2 hat (fun _ _=>?_))))
    all_goals(refine aC ?_;exact aB (hK _ _))
  ·have hN:Em id m s=1:=by unfold Em;rw[if_neg hx2,if_neg (fun q=>hd q.1)]
   rw[hN] at hK hI2
   have hbq:=Ai0 hd
   refine aJ Tryz.func75 ?_
   repeat' (first|(show cU _ _ _;rw[hbq])|refine Xv ?_|refine dw iY ?_|refine dw iE ?_|refine w5 ?_ ?_|((refine bh fun h=>?_) <;> try exact w6 h)|(refine aF fun hA=>?_;subst hA)|intro _|(show aA _ 143 _ _ _;refine CA (h:=uB (x:=x) (a:=a) (s:=s) (M:=M) (mc:=mc) hI hk (fun _ _=>?_)))|(show aA _ 142 _ _ _;refine CA (h:=wF (s:=(s.pk,s.pc)) (l:=eO s) hln hI.pk ?_);rw[hV,h])|(show aA _ 144 _ _ _;refine CA (h:=gG (l:=s.l) hI.sm hm (fun bq=>?_)))|(show aA _ 135 _ _ _;refine CA (h:=tT (s:=s.ld) hld ?_))|(show aA _ 145 _ _ _;refine CA (h:=Bd (m:=m) hr ?_);rw[hx1,hmid])|(show aA _ 148 _ _ _;refine CA (h:=Bo (by omega) ?_))|(show aA _ 147 _ _ _;refine CA (h:=vH (l:=q.1) (ck:=q.2) hco (by omega) ?_))|(show aA _ 149 _ _ _;refine CA (h:=kR (x:=x) (a:=a) (s:= { s with pk:=(jW id (qY id q.1 - fV ((iL m.x (bC id s.ld)).size:Nat)) q).1,pc:=(jW id (qY id q.1 - fV ((iL m.x (bC id s.ld)).size:Nat)) q).2 }) (M:=M) (mc:=mc) (T:=Na a.l s.l (cB id s.l) bq) (by show s.mv.length<=1000000000;omega) (fun _ _=>?_)))|(show aA _ 89 _ _ _;refine CA (h:=mC (x:=x) (a:=a) (s:=tI ⟨1,id,1,(iL m.x (bC id s.ld)),(BY m.x (bC id s.ld))⟩ ({ s with pk:=(jW id (qY id q.1 - fV ((iL m.x (bC id s.ld)).size:Nat)) q).1,pc:=(jW id (qY id q.1 - fV ((iL m.x (bC id s.ld)).size:Nat)) q).2 })) (i:=cB id s.l) (m:=m) (m':=CX m (bC id s.ld)) hi vW hI2 hat (fun _ _=>?_))))
   all_goals(refine aC ?_;exact aB (hK _ _))
end Go.Proofs.YtffnpejdkkohcaaGreat
