/- A part of the proof: lemmas; each with the conditions that it states. -/
import Derived.Test.YtepnmcipkangkaaGreatCbb
set_option linter.unusedVariables false
set_option linter.unusedSimpArgs false
set_option maxRecDepth 100000
set_option maxHeartbeats 40000000
namespace Go.Proofs.YtepnmcipkangkaaGreat
open Go Go.Proofs Go.Sl
attribute [local irreducible] aN fL cL bM aL aR aA dJ dK aU dI pt ro fC star sep bF
attribute [local irreducible] mp DG
variable {R C:List HP} {K:KP} {ck p q c n j:Nat} {A:Option Addr} {pk:List (KE Int)} {m:Int}
structure Tu where
 id:Int
 w:Int
 rd:Bool
variable {x:Tu} {l:List Tu}
def tuD:List Value->Option Tu
 | [.int .i64 a,.int .i64 b,.bool c]=>some ⟨a,b,c⟩
 |_=>none
theorem Aod (cs:List Value) (y:Tu) (h:tuD cs=some y): [I6 y.id,I6 y.w,.bool y.rd]=cs:=by
 unfold tuD at h
 split at h
 ·cases h;rfl
 ·cases h
def NR:u6 Tu:= { enc:=fun y=> [I6 y.id,I6 y.w,.bool y.rd],sz:=3,dec:=tuD,len:=fun _=>rfl,one:=fun _=>rfl,ok:=Aod }
def blE:Bool->Value:=fun b=>.bool b
def rS:List (KE Bool)->Nat->List Tu->List Tu
 |_,_,[]=> []
 |seen,ck,x::r=>if(iF x.id seen).getD false=false/\x.rd=true then x::rS (uU x.id true ck seen) (kCk x.id ck seen) r else rS (uU x.id true ck seen) (kCk x.id ck seen) r
def DU (x:Tu):Int:=max (min x.w 256) 1
def tP (pk:List (KE Int)):List Tu->Option Int
 | []=>none
 |x::r=>if 1<=sY x.id pk then some x.id else tP pk r
def wQ (pk:List (KE Int)) (x:Tu):Int:=(DU x - sY x.id pk) / DU x
def Gv (pk:List (KE Int)):List Tu->Int->Int
 | [],n=>n
 |x::r,n=>Gv pk r (min n (wQ pk x))
abbrev xP:=List (KE Int)×Nat
variable {s:xP}
def kO (id n:Int) (s:xP):xP:=(JL id n s.2 s.1,Xk id n s.2 s.1)
def yF (n:Int):List Tu->xP->xP
 | [],s=>s
 |x::r,s=>yF n r (kO x.id (sY x.id s.1+n * DU x) s)
def Ax (s:xP) (l:List Tu):Option Int×xP:=match rS [] 0 l with
 | []=>(none,s)
 |x::r=>match tP s.1 (x::r) with
  |some id=>(some id,s)
  |none=>(tP (yF (Gv s.1 (x::r) (wQ s.1 x)) (x::r) s).1 (x::r),yF (Gv s.1 (x::r) (wQ s.1 x)) (x::r) s)
def K4 (s:xP):Prop:=∀e∈s.1,-1024<=e.v/\e.v<=1024
theorem Wv {id v:Int}:∀ {l:List (KE Int)},iF id l=some v->∃e∈l,e.v=v
 | [],h=>by cases h
 |e::r,h=>by
  unfold iF at h
  split at h
  ·cases h;exact⟨e,List.mem_cons_self ..,rfl⟩
  ·obtain⟨z,hz,he⟩:=Wv h
   exact⟨z,List.mem_cons_of_mem _ hz,he⟩
theorem F7 (h:K4 s) (id:Int):-1024<=sY id s.1/\sY id s.1<=1024:=by
 unfold sY
 cases hg:iF id s.1 with
 |none=>simp
 |some v=>
  obtain⟨e,he,rfl⟩:=Wv hg
  exact h e he
theorem HY {α:Type} {id:Int} {e:KE α}:∀ {l:List (KE α)},e∈nX id l->e∈l
 | [],h=>h
 |z::r,h=>by
  unfold nX at h
  split at h
  ·exact List.mem_cons_of_mem _ h
  ·rcases List.mem_cons.1 h with rfl|h
   ·exact List.mem_cons_self ..
   ·exact List.mem_cons_of_mem _ (HY h)
theorem Qa {α:Type} {id:Int} {v:α} {ck:Nat} {e:KE α}:∀ {l:List (KE α)},e∈uU id v ck l->e.v=v\/e∈l
 | [],h=>.inl (by rw[List.mem_singleton.1 h])
 |z::r,h=>by
  unfold uU at h
  split at h
  ·rcases List.mem_cons.1 h with rfl|h
   ·exact .inl rfl
   ·exact .inr (List.mem_cons_of_mem _ h)
  ·rcases List.mem_cons.1 h with rfl|h
   ·exact .inr (List.mem_cons_self ..)
   ·rcases Qa h with h|h
    ·exact .inl h
    ·exact .inr (List.mem_cons_of_mem _ h)
theorem Aee {seen:List (KE Bool)} {r:List Tu}:rS seen ck (x::r)=(if(iF x.id seen).getD false=false/\x.rd=true then [x] else [])++rS (uU x.id true ck seen) (kCk x.id ck seen) r:=by
 conv=>lhs;unfold rS
 split <;> simp
theorem JF {id:Int} {l:List (KE Bool)}:I0 false (.bool false) (jT id (kM blE l) 0)=.bool ((iF id l).getD false):=by
 rw[Wu]
 cases iF id l <;> rfl
theorem V4 (hK:K (I6 (DU x)) R):CT 277 #[.agg #[I6 x.id,I6 x.w,.bool x.rd]] R K:=by
 refine aH Tryz.func277 ?_
 repeat' (first|refine v39 ?_|refine w5 ?_ ?_|((refine bh fun h=>?_) <;> try exact w6 h)|(refine aE fun hA=>?_;subst hA)|intro _)
 all_goals(refine aC ?_;exact aB (hK))
theorem Db (hv:dW C A NR l) (hn:l.length=n) (hs:n<=100000) (hK:∀B d,K (.slice B (rS [] 0 l).length d) (bT B d 354 NR (rS [] 0 l)::C)):CT 274 #[.slice A n c] C K:=by
 subst hn
 refine aH Tryz.func274 ?_
 repeat' (first|(show aN _ _ _ _ _ _ _;refine Fv ?_;intro _)|refine Wi ?_|refine w5 ?_ ?_|((refine bh fun h=>?_) <;> try exact w6 h)|(refine aE fun hA=>?_;subst hA)|intro _)
 rename_i m
 refine o7 (aG.nilrow 354 NR _) ?_
 refine jA (fun kk a C'=>∃(j ck:Nat) (seen:List (KE Bool)) (os:List Tu) (B:Option Addr) (d:Nat),j+kk=l.length/\os.length<=j/\os++rS seen ck (l.drop j)=rS [] 0 l/\dH a [(0,.slice A l.length c),(3,.map (some m)),(4,.slice B os.length d),(8,.slice A l.length c),(9,I6 l.length),(10,I6 j)]/\C'=bT B d 354 NR os::mp m (kM blE seen) ck::C) l.length (cJ l.length ⟨0,0,[],[],none,0,by omega,by simp,rfl,⟨rfl,rfl,rfl,rfl,rfl,rfl,trivial⟩,rfl⟩ (by omega)) ?_
 rintro kk a C' ⟨j,ck,seen,os,B,d,hj,hol,hos,ha,rfl⟩
 have hv':dW (bT B d 354 NR os::mp m (kM blE seen) ck::C) A NR l:=bN (bN hv)
 refine i6 _ ha ?_
 simp only[gJ]
 by_cases hlt:j<l.length
 ·obtain⟨x,hx⟩:∃x,l[j]?=some x:=⟨_,List.getElem?_eq_getElem hlt⟩
  have hx':l[((j:Nat):Int).toNat]?=some x:=by rw[Int.toNat_natCast];exact hx
  have hd:l.drop j=x::l.drop (j+1):=by rw[List.drop_eq_getElem_cons hlt,(List.getElem?_eq_some_iff.1 hx).2]
  rw[hd,Aee] at hos
  by_cases hc:(iF x.id seen).getD false=false/\x.rd=true
  ·rw[if_pos hc,<- List.append_assoc] at hos
   obtain⟨hc1,hc2⟩:=hc
   repeat' (first|(show aN _ _ _ _ _ _ _;first|(refine j0 ?_ (hv:=JF);rw[hc1])|refine lN ?_ (hv:=RN (enc:=blE) (v:=true)) (hu:=by exact rfl)|(refine dD (E:=NR) (xs:=os) (ys:= [x]) ?_;intro B2 d2))|refine Wi ?_|refine w5 ?_ ?_|((refine bh fun h=>?_) <;> try exact w6 h)|(refine aE fun hA=>?_;subst hA)|intro _)
   all_goals(show aU _ _ _ _;exact cJ (kk - 1) ⟨j+1,_,_,os++ [x],B2,d2,by omega,by rw[List.length_append];exact Nat.succ_le_succ hol,hos,⟨rfl,rfl,rfl,rfl,rfl,rfl,trivial⟩,rfl⟩)
  ·rw[if_neg hc,List.nil_append] at hos
   cases hc1:(iF x.id seen).getD false
   ·have hc2:x.rd=false:=by
     cases hx2:x.rd
     ·rfl
     ·exact absurd ⟨hc1,hx2⟩ hc
    repeat' (first|(show aN _ _ _ _ _ _ _;first|(refine j0 ?_ (hv:=JF);rw[hc1])|refine lN ?_ (hv:=RN (enc:=blE) (v:=true)) (hu:=by exact rfl))|refine Wi ?_|refine w5 ?_ ?_|((refine bh fun h=>?_) <;> try exact w6 h)|(refine aE fun hA=>?_;subst hA)|intro _)
    all_goals(show aU _ _ _ _;exact cJ (kk - 1) ⟨j+1,_,_,os,B,d,by omega,by omega,hos,⟨rfl,rfl,rfl,rfl,rfl,rfl,trivial⟩,rfl⟩)
   ·repeat' (first|(show aN _ _ _ _ _ _ _;first|(refine j0 ?_ (hv:=JF);rw[hc1])|refine lN ?_ (hv:=RN (enc:=blE) (v:=true)) (hu:=by exact rfl))|refine Wi ?_|refine w5 ?_ ?_|((refine bh fun h=>?_) <;> try exact w6 h)|(refine aE fun hA=>?_;subst hA)|intro _)
    all_goals(show aU _ _ _ _;exact cJ (kk - 1) ⟨j+1,_,_,os,B,d,by omega,by omega,hos,⟨rfl,rfl,rfl,rfl,rfl,rfl,trivial⟩,rfl⟩)
 ·rw[List.drop_eq_nil_of_le (by omega)] at hos
  have hos:os=rS [] 0 l:=by simpa[rS] using hos
  subst hos
  repeat' (first|refine Wi ?_|refine w5 ?_ ?_|((refine bh fun h=>?_) <;> try exact w6 h)|(refine aE fun hA=>?_;subst hA)|intro _)
  all_goals(refine aC ?_;exact aB (hK _ _))
def Bo (pk:List (KE Int)) (l:List Tu):Value:=match tP pk l with
 |some id=>.tuple #[I6 id,.bool true]
 |none=>.tuple #[I6 0,.bool false]
theorem Abn (h:l[j]?=some x):tP pk (l.drop j)=if 1<=sY x.id pk then some x.id else tP pk (l.drop (j+1)):=by
 have hj:=(List.getElem?_eq_some_iff.1 h).1
 rw[List.drop_eq_getElem_cons hj,(List.getElem?_eq_some_iff.1 h).2]
 rfl
theorem Af0 (h:l[j]?=some x):Gv pk (l.drop j) m=Gv pk (l.drop (j+1)) (min m (wQ pk x)):=by
 have hj:=(List.getElem?_eq_some_iff.1 h).1
 rw[List.drop_eq_getElem_cons hj,(List.getElem?_eq_some_iff.1 h).2]
 rfl
theorem Aba (h:l[j]?=some x):yF m (l.drop j) s=yF m (l.drop (j+1)) (kO x.id (sY x.id s.1+m * DU x) s):=by
 have hj:=(List.getElem?_eq_some_iff.1 h).1
 rw[List.drop_eq_getElem_cons hj,(List.getElem?_eq_some_iff.1 h).2]
 rfl
theorem If {pk:List (KE Int)}:∀ {l:List Tu},tP pk l=none->∀x∈l,sY x.id pk<=0
 | [],_,x,hx=>by cases hx
 |z::r,h,x,hx=>by
  unfold tP at h
  split at h
  ·cases h
  ·rename_i hz
   rcases List.mem_cons.1 hx with rfl|hx
   ·omega
   ·exact If h x hx
theorem zI (hs:l.length<=100000) (hK:K (Bo pk l) (bT A c 354 NR l::pt p [.map (some q)] 275::mp q (kM LY pk) ck::R)):CT 275 #[PO p,.slice A l.length c] (bT A c 354 NR l::pt p [.map (some q)] 275::mp q (kM LY pk) ck::R) K:=by
 refine aH Tryz.func275 ?_
 repeat' (first|refine Ng ?_|refine w5 ?_ ?_|((refine bh fun h=>?_) <;> try exact w6 h)|(refine aE fun hA=>?_;subst hA)|intro _)
 refine jA (fun kk a C'=>∃j:Nat,j+kk=l.length/\tP pk (l.drop j)=tP pk l/\dH a [(0,PO p),(6,I6 0),(7,.bool false),(10,.slice A l.length c),(11,I6 l.length),(12,I6 j)]/\C'=bT A c 354 NR l::pt p [.map (some q)] 275::mp q (kM LY pk) ck::R) l.length (cJ l.length ⟨0,by omega,rfl,⟨rfl,rfl,rfl,rfl,rfl,rfl,trivial⟩,rfl⟩ (by omega)) ?_
 rintro kk a C' ⟨j,hj,hf,ha,rfl⟩
 refine i6 _ ha ?_
 simp only[gJ]
 by_cases hlt:j<l.length
 ·obtain⟨x,hx⟩:∃x,l[j]?=some x:=⟨_,List.getElem?_eq_getElem hlt⟩
  have hx':l[((j:Nat):Int).toNat]?=some x:=by rw[Int.toNat_natCast];exact hx
  rw[Abn hx] at hf
  by_cases h1:1<=sY x.id pk
  ·rw[if_pos h1] at hf
   unfold Bo at hK
   rw[<- hf] at hK
   repeat' (first|refine Ng ?_|refine w5 ?_ ?_|((refine bh fun h=>?_) <;> try exact w6 h)|(refine aE fun hA=>?_;subst hA)|intro _|(show aA _ 278 _ _ _;refine CA (h:=sZ ?_)))
   all_goals(refine aC ?_;exact aB (hK))
  ·rw[if_neg h1] at hf
   repeat' (first|refine Ng ?_|refine w5 ?_ ?_|((refine bh fun h=>?_) <;> try exact w6 h)|(refine aE fun hA=>?_;subst hA)|intro _|(show aA _ 278 _ _ _;refine CA (h:=sZ ?_)))
   all_goals(show aU _ _ _ _;exact cJ (kk - 1) ⟨j+1,by omega,hf,⟨rfl,rfl,rfl,rfl,rfl,rfl,trivial⟩,rfl⟩)
 ·rw[List.drop_eq_nil_of_le (by omega)] at hf
  unfold Bo at hK
  rw[<- hf] at hK
  repeat' (first|refine Ng ?_|refine w5 ?_ ?_|((refine bh fun h=>?_) <;> try exact w6 h)|(refine aE fun hA=>?_;subst hA)|intro _)
  all_goals(refine aC ?_;exact aB (hK))
theorem TT (x:Tu):1<=DU x/\DU x<=256:=by unfold DU;omega
theorem OC (h0:sY x.id pk<=0) (h1:-1024<=sY x.id pk):0<=wQ pk x/\wQ pk x<=1280:=by
 have hw:=TT x
 unfold wQ
 have h2:0<=DU x - sY x.id pk:=by omega
 exact⟨Int.ediv_nonneg h2 (by omega),Int.le_trans (Int.ediv_le_self _ h2) (by omega)⟩
def Ed:List (Nat×Nat):= [(0,0),(1,1),(2,1),(3,1),(4,1),(5,1),(7,2),(8,1),(6,1),(9,0),(10,0)]
theorem Px {r2:Nat} (h0:sY x.id pk<=0) (h1:-1024<=sY x.id pk) (hK:K (I6 (wQ pk x)) (pt r2 [PO p] 112::pt p [.map (some q)] 275::mp q (kM LY pk) ck::R)):CT 276 #[.agg #[I6 x.id,I6 x.w,.bool x.rd],PO r2] (pt r2 [PO p] 112::pt p [.map (some q)] 275::mp q (kM LY pk) ck::R) K:=by
 have hw:=TT x
 have hb:=OC h0 h1
 have hm:IntKind.wrap .i64 ((DU x - sY x.id pk) / DU x)=(DU x - sY x.id pk) / DU x:=vM (by unfold wQ at hb;omega) (by unfold wQ at hb;omega)
 refine aH Tryz.func276 ?_
 repeat' (first|refine v84 ?_|refine dw Ed ?_|refine w5 ?_ ?_|((refine bh fun h=>?_) <;> try exact w6 h)|(refine aE fun hA=>?_;subst hA)|intro _|(show aA _ 277 _ _ _;refine CA (h:=V4 ?_))|(show aA _ 278 _ _ _;refine CA (h:=sZ ?_)))
 all_goals(refine aC ?_;exact aB (hK))
theorem NB {id n:Int} (h:K4 s):K4 (kO id n s):=fun e he=>by
 unfold kO JL at he
 simp only at he
 split at he
 ·exact h e (HY he)
 ·rcases Qa he with hv|he
  ·rw[hv];unfold NP;omega
  ·exact h e he
theorem Ahg {id:Int} (h:K4 s):K4 (nX id s.1,s.2):=fun e he=>h e (HY he)
theorem WZ {m:Int}:∀ {l:List Tu} {s:xP},K4 s->K4 (yF m l s)
 | [],_,h=>h
 |_::_,_,h=>by unfold yF;exact WZ (NB h)
theorem NN (h:K4 s):K4 (Ax s l).2:=by
 unfold Ax
 split
 ·exact h
 ·split
  ·exact h
  ·exact WZ h
def Lb (s:xP) (l:List Tu):Value:=match (Ax s l).1 with
 |some id=>.tuple #[I6 id,.bool true]
 |none=>.tuple #[I6 0,.bool false]
theorem K1:∀(l:List Tu) (seen:List (KE Bool)) (ck:Nat),(rS seen ck l).length<=l.length
 | [],_,_=>Nat.le_refl _
 |x::r,seen,ck=>by
  have h:=K1 r (uU x.id true ck seen) (kCk x.id ck seen)
  unfold rS
  split
  ·simp only[List.length_cons];omega
  ·simp only[List.length_cons];omega
def eA:List (Nat×Nat):= [(3,0),(4,0),(5,0),(6,1),(8,1),(9,1),(0,2),(1,2),(2,2),(7,2),(10,0),(11,0),(12,1)]
theorem x7 (hs:l.length<=10000) (hb:K4 s) (hK:K (Lb s l) (pt p [.map (some q)] 275::mp q (kM LY (Ax s l).2.1) (Ax s l).2.2::R)):CT 188 #[PO p,.slice A l.length c] (bT A c 354 NR l::pt p [.map (some q)] 275::mp q (kM LY s.1) s.2::R) K:=by
 have hle:=K1 l [] 0
 unfold Lb Ax at hK
 generalize hw:rS [] 0 l=w at hK hle
 cases w with
 |nil=>
  refine aH Tryz.func188 ?_
  repeat' (first|refine v94 ?_|refine dw eA ?_|refine w5 ?_ ?_|((refine bh fun h=>?_) <;> try exact w6 h)|(refine aE fun hA=>?_;subst hA)|intro _|(show aA _ 274 _ _ _;refine CA (h:=Db (l:=l) (by exact lL) rfl (by omega) (fun B d=>?_));rw[hw]))
  all_goals(refine aC ?_;exact aB (hK))
 |cons x0 w=>
  simp only at hK
  cases hf:tP s.1 (x0::w) with
  |some id=>
   rw[hf] at hK
   simp only at hK
   have hv:Bo s.1 (x0::w)=.tuple #[I6 id,.bool true]:=by unfold Bo;rw[hf]
   refine aH Tryz.func188 ?_
   repeat' (first|refine v94 ?_|refine dw eA ?_|refine w5 ?_ ?_|((refine bh fun h=>?_) <;> try exact w6 h)|(refine aE fun hA=>?_;subst hA)|intro _|(show aA _ 274 _ _ _;refine CA (h:=Db (l:=l) (by exact lL) rfl (by omega) (fun B d=>?_));rw[hw])|(show aA _ 275 _ _ _;refine CA (h:=zI (l:=x0::w) (by omega) ?_);rw[hv]))
   all_goals(refine aC ?_;exact aB (hK))
  |none=>
   rw[hf] at hK
   simp only at hK
   have hv:Bo s.1 (x0::w)=.tuple #[I6 0,.bool false]:=by unfold Bo;rw[hf]
   have h0:=If hf
   have hx0:(x0::w)[(0:Int).toNat]?=some x0:=rfl
   have hpos:0<(x0::w).length:=by simp
   have hr0:=OC (h0 x0 (List.mem_cons_self ..)) (F7 hb _).1
   refine aH Tryz.func188 ?_
   repeat' (first|refine v94 ?_|refine dw eA ?_|refine w5 ?_ ?_|((refine bh fun h=>?_) <;> try exact w6 h)|(refine aE fun hA=>?_;subst hA)|intro _|(show aA _ 274 _ _ _;refine CA (h:=Db (l:=l) (by exact lL) rfl (by omega) (fun B d=>?_));rw[hw])|(show aA _ 275 _ _ _;refine CA (h:=zI (l:=x0::w) (by omega) ?_);rw[hv])|(show aA _ 276 _ _ _;refine CA (h:=Px (h0 _ (List.mem_cons_self ..)) (F7 hb _).1 ?_)))
   rename_i r2 B0 o0
   refine jA (fun kk a C'=>∃(j:Nat) (m:Int),j+kk=(x0::w).length/\Gv s.1 ((x0::w).drop j) m=Gv s.1 (x0::w) (wQ s.1 x0)/\0<=m/\m<=1280/\dH a [(1,.slice (some ⟨B0,o0,none⟩) (x0::w).length d),(2,PO r2),(8,.func (.func 276) #[] #[PO r2]),(9,I6 m),(37,.slice (some ⟨B0,o0,none⟩) (x0::w).length d),(38,I6 (x0::w).length),(39,I6 j)]/\C'=bT (some ⟨B0,o0,none⟩) d 354 NR (x0::w)::pt p [.map (some q)] 275::mp q (kM LY s.1) s.2::pt r2 [PO p] 112::R) (x0::w).length (cJ (x0::w).length ⟨0,wQ s.1 x0,by omega,rfl,hr0.1,hr0.2,⟨rfl,rfl,rfl,rfl,rfl,rfl,rfl,trivial⟩,rfl⟩ (by omega)) ?_
   rintro kk a C' ⟨j,m,hj,hm,hm0,hm1,ha,rfl⟩
   refine i6 _ ha ?_
   simp only[gJ]
   by_cases hlt:j<(x0::w).length
   ·obtain⟨x,hx⟩:∃x,(x0::w)[j]?=some x:=⟨_,List.getElem?_eq_getElem hlt⟩
    have hx':(x0::w)[((j:Nat):Int).toNat]?=some x:=by rw[Int.toNat_natCast];exact hx
    have hxm:=List.mem_of_getElem? hx
    have hrx:=OC (h0 x hxm) (F7 hb _).1
    rw[Af0 hx] at hm
    repeat' (first|refine v94 ?_|refine dw eA ?_|refine w5 ?_ ?_|((refine bh fun h=>?_) <;> try exact w6 h)|(refine aE fun hA=>?_;subst hA)|intro _|(show aA _ 276 _ _ _;refine CA (h:=Px (h0 _ hxm) (F7 hb _).1 ?_)))
    all_goals(show aU _ _ _ _;exact cJ (kk - 1) ⟨j+1,min m (wQ s.1 x),by omega,hm,by omega,by omega,⟨rfl,rfl,rfl,rfl,rfl,rfl,rfl,trivial⟩,rfl⟩)
   ·rw[List.drop_eq_nil_of_le (by omega)] at hm
    have hm:m=Gv s.1 (x0::w) (wQ s.1 x0):=hm
    rw[<- hm] at hK
    repeat' (first|refine v94 ?_|refine dw eA ?_|refine w5 ?_ ?_|((refine bh fun h=>?_) <;> try exact w6 h)|(refine aE fun hA=>?_;subst hA)|intro _)
    refine jA (fun kk a C'=>∃(j:Nat) (s':xP),j+kk=(x0::w).length/\yF m ((x0::w).drop j) s'=yF m (x0::w) s/\K4 s'/\dH a [(1,.slice (some ⟨B0,o0,none⟩) (x0::w).length d),(2,PO r2),(9,I6 m),(49,.slice (some ⟨B0,o0,none⟩) (x0::w).length d),(50,I6 (x0::w).length),(51,I6 j)]/\C'=bT (some ⟨B0,o0,none⟩) d 354 NR (x0::w)::pt p [.map (some q)] 275::mp q (kM LY s'.1) s'.2::pt r2 [PO p] 112::R) (x0::w).length (cJ (x0::w).length ⟨0,s,by omega,rfl,hb,⟨rfl,rfl,rfl,rfl,rfl,rfl,trivial⟩,rfl⟩ (by omega)) ?_
    rintro kk a C' ⟨j,s',hj,hs',hb',ha,rfl⟩
    refine i6 _ ha ?_
    simp only[gJ]
    by_cases hlt:j<(x0::w).length
    ·obtain⟨x,hx⟩:∃x,(x0::w)[j]?=some x:=⟨_,List.getElem?_eq_getElem hlt⟩
     have hx':(x0::w)[((j:Nat):Int).toNat]?=some x:=by rw[Int.toNat_natCast];exact hx
     have hwt:=TT x
     have hlx:=F7 hb' x.id
     have hp0:0<=m * DU x:=Int.mul_nonneg hm0 (by omega)
     have Fw:m * DU x<=1280 * 256:=Int.mul_le_mul hm1 hwt.2 (by omega) (by omega)
     rw[Aba hx] at hs'
     repeat' (first|refine v94 ?_|refine dw eA ?_|refine w5 ?_ ?_|((refine bh fun h=>?_) <;> try exact w6 h)|(refine aE fun hA=>?_;subst hA)|intro _|(show aA _ 278 _ _ _;refine CA (h:=sZ ?_))|(show aA _ 277 _ _ _;refine CA (h:=V4 ?_))|(show aA _ 279 _ _ _;refine CA (h:=IZ ?_)))
     all_goals(show aU _ _ _ _;exact cJ (kk - 1) ⟨j+1,_,by omega,hs',NB hb',⟨rfl,rfl,rfl,rfl,rfl,rfl,trivial⟩,rfl⟩)
    ·rw[List.drop_eq_nil_of_le (by omega)] at hs'
     have hs':s'=yF m (x0::w) s:=hs'
     subst hs'
     have hfv:Bo (yF m (x0::w) s).1 (x0::w)=match tP (yF m (x0::w) s).1 (x0::w) with
      |some id=>.tuple #[I6 id,.bool true]
      |none=>.tuple #[I6 0,.bool false]:=rfl
     cases hf2:tP (yF m (x0::w) s).1 (x0::w) with
     |some id=>
      rw[hf2] at hK hfv
      repeat' (first|refine v94 ?_|refine dw eA ?_|refine w5 ?_ ?_|((refine bh fun h=>?_) <;> try exact w6 h)|(refine aE fun hA=>?_;subst hA)|intro _|(show aA _ 275 _ _ _;refine CA (h:=zI (l:=x0::w) (by omega) ?_);rw[hfv]))
      all_goals(refine aC ?_;exact aB (hK))
     |none=>
      rw[hf2] at hK hfv
      repeat' (first|refine v94 ?_|refine dw eA ?_|refine w5 ?_ ?_|((refine bh fun h=>?_) <;> try exact w6 h)|(refine aE fun hA=>?_;subst hA)|intro _|(show aA _ 275 _ _ _;refine CA (h:=zI (l:=x0::w) (by omega) ?_);rw[hfv]))
      all_goals(refine aC ?_;exact aB (hK))
end Go.Proofs.YtepnmcipkangkaaGreat
