/- A part of the proof: lemmas; each with the conditions that it states. -/
import Derived.Test.YtepnmcipkangkaaGreatPaz
import Derived.Test.YtepnmcipkangkaaGreatPap
set_option linter.unusedVariables false
set_option linter.unusedSimpArgs false
set_option maxRecDepth 100000
set_option maxHeartbeats 40000000
namespace Go.Proofs.YtepnmcipkangkaaGreat
open Go Go.Proofs Go.Sl
attribute [local irreducible] aN fJ cY bN aM aS aA dM dN aV dL pt ro fB star sep bF
attribute [local irreducible] mp CV
variable {R C:List HP} {K:KP} {p q ck c j i:Nat} {k m t a b:Int} {A:Option Addr} {pk:List (KE Int)} {X Y Z:HP} {e:gQ}
def Mu:Int->Value:=fun n=>I6 n
def sP (id:Int) (l:List (KE Int)):Int:=(gZ id l).getD 0
def Ng (n:Int):Int:=max (min n 1024) (-1024)
def JN (id n:Int) (ck:Nat) (l:List (KE Int)):List (KE Int):=if n=0 then nJ id l else uK id (Ng n) ck l
def YJ (id n:Int) (ck:Nat) (l:List (KE Int)):Nat:=if n=0 then ck else kCk id ck l
def fU (n:Int):Int:=if n<=16 then 1 else(n - 1) / 16+1
theorem Akm {id:Int} {l:List (KE Int)}:IZ false (I6 0) (jJ id (kM Mu l) 0)=I6 (sP id l):=by
 rw[Xc]
 unfold sP
 cases gZ id l <;> rfl
section
variable {id n:Int} {l:List (KE Int)}
theorem Aa7 (hK:∀p q,K (PO p) (pt p [.map (some q)] 275::mp q (kM Mu []) 0::R)):CT 85 #[] R K:=by
 refine aH Tryz.func85 ?_
 repeat' (first|refine v6 ?_|refine w5 ?_ ?_|((refine bh fun h=>?_) <;> try exact w6 h)|(refine aE fun hA=>?_;subst hA)|intro _|(show aN _ _ _ _ _ _ _;refine GA ?_;intro _))
 all_goals(refine aC ?_;exact aB (hK _ _))
theorem Ci (h:0<=n/\n<=100000000) (hK:K (I6 (fU n)) R):CT 193 #[I6 n] R K:=by
 by_cases h1:n<=16
 ·simp only[fU,if_pos h1] at hK
  refine aH Tryz.func193 ?_
  repeat' (first|refine v24 ?_|refine w5 ?_ ?_|((refine bh fun h=>?_) <;> try exact w6 h)|(refine aE fun hA=>?_;subst hA)|intro _)
  all_goals(refine aC ?_;exact aB (hK))
 ·simp only[fU,if_neg h1] at hK
  refine aH Tryz.func193 ?_
  repeat' (first|refine v24 ?_|refine w5 ?_ ?_|((refine bh fun h=>?_) <;> try exact w6 h)|(refine aE fun hA=>?_;subst hA)|intro _)
  all_goals(refine aC ?_;exact aB (hK))
theorem sB (hK:K (I6 (sP id l)) (pt p [.map (some q)] 275::mp q (kM Mu l) ck::R)):CT 278 #[PO p,I6 id] (pt p [.map (some q)] 275::mp q (kM Mu l) ck::R) K:=by
 refine aH Tryz.func278 ?_
 repeat' (first|refine v4 ?_|refine w5 ?_ ?_|((refine bh fun h=>?_) <;> try exact w6 h)|(refine aE fun hA=>?_;subst hA)|intro _|(show aN _ _ _ _ _ _ _;refine jS ?_ (hv:=Akm)))
 all_goals(refine aC ?_;exact aB (hK))
theorem H9 (hK:K (.tuple #[]) (pt p [.map (some q)] 275::mp q (kM Mu (JN id n ck l)) (YJ id n ck l)::R)):CT 279 #[PO p,I6 id,I6 n] (pt p [.map (some q)] 275::mp q (kM Mu l) ck::R) K:=by
 by_cases h:n=0
 ·subst h
  simp only[JN,YJ,if_true] at hK
  refine aH Tryz.func279 ?_
  repeat' (first|refine v39 ?_|refine w5 ?_ ?_|((refine bh fun h=>?_) <;> try exact w6 h)|(refine aE fun hA=>?_;subst hA)|intro _|(show aN _ _ _ _ _ _ _;first|refine G_delete ?_ (hv:=Ahh)|refine Li ?_ (hv:=Ahh)))
  all_goals(refine aC ?_;exact aB (hK))
 ·simp only[JN,YJ,if_neg h] at hK
  refine aH Tryz.func279 ?_
  repeat' (first|refine v39 ?_|refine w5 ?_ ?_|((refine bh fun h=>?_) <;> try exact w6 h)|(refine aE fun hA=>?_;subst hA)|intro _|(show aN _ _ _ _ _ _ _;refine lA ?_ (hv:=Rs (v:=Ng n)) (hu:=by exact rfl)))
  all_goals(refine aC ?_;exact aB (hK))
theorem wZ (hk:1<=k/\k<=1024) (hb:-10000<=sP id l/\sP id l<=10000) (hK:K (I6 0) (pt p [.map (some q)] 275::mp q (kM Mu (JN id (sP id l - k) ck l)) (YJ id (sP id l - k) ck l)::R)):CT 192 #[PO p,I6 id,I6 k] (pt p [.map (some q)] 275::mp q (kM Mu l) ck::R) K:=by
 refine aH Tryz.func192 ?_
 repeat' (first|refine v15 ?_|refine w5 ?_ ?_|((refine bh fun h=>?_) <;> try exact w6 h)|(refine aE fun hA=>?_;subst hA)|intro _|(show aA _ 278 _ _ _;refine CA (h:=sB ?_))|(show aA _ 279 _ _ _;refine CA (h:=H9 ?_)))
 all_goals(refine aC ?_;exact aB (hK))
theorem QX (hK:K (.bool (sP id l != 0)) (pt p [.map (some q)] 275::mp q (kM Mu (if sP id l=0 then l else nJ id l)) ck::R)):CT 351 #[PO p,I6 id] (pt p [.map (some q)] 275::mp q (kM Mu l) ck::R) K:=by
 by_cases h:sP id l=0
 ·simp only[h,if_true] at hK
  refine aH Tryz.func351 ?_
  repeat' (first|refine v2 ?_|refine w5 ?_ ?_|((refine bh fun h=>?_) <;> try exact w6 h)|(refine aE fun hA=>?_;subst hA)|intro _|(show aA _ 278 _ _ _;refine CA (h:=sB ?_);rw[h]))
  all_goals(refine aC ?_;exact aB (hK))
 ·simp only[if_neg h] at hK
  have hb:(sP id l != 0)=true:=by simpa using h
  refine aH Tryz.func351 ?_
  repeat' (first|(show Br _ _ _;refine Br.t hb ?_)|refine v2 ?_|refine w5 ?_ ?_|((refine bh fun h=>?_) <;> try exact w6 h)|(refine aE fun hA=>?_;subst hA)|intro _|(show aA _ 278 _ _ _;refine CA (h:=sB ?_))|(show aA _ 279 _ _ _;refine CA (h:=H9 ?_);simp only[JN,YJ,if_true]))
  all_goals(refine aC ?_;exact aB (hK))
end
structure Tu where
 id:Int
 w:Int
 rd:Bool
def tuD:List Value->Option Tu
 | [.int .i64 a,.int .i64 b,.bool c]=>some ⟨a,b,c⟩
 |_=>none
theorem Aop (cs:List Value) (y:Tu) (h:tuD cs=some y): [I6 y.id,I6 y.w,.bool y.rd]=cs:=by
 unfold tuD at h
 split at h
 ·cases h;rfl
 ·cases h
def OS:u5 Tu:= { enc:=fun y=> [I6 y.id,I6 y.w,.bool y.rd],sz:=3,dec:=tuD,len:=fun _=>rfl,one:=fun _=>rfl,ok:=Aop }
def blE:Bool->Value:=fun b=>.bool b
def rN:List (KE Bool)->Nat->List Tu->List Tu
 |_,_,[]=> []
 |seen,ck,x::r=>if(gZ x.id seen).getD false=false/\x.rd=true then x::rN (uK x.id true ck seen) (kCk x.id ck seen) r else rN (uK x.id true ck seen) (kCk x.id ck seen) r
def Dy (x:Tu):Int:=max (min x.w 256) 1
def tL (pk:List (KE Int)):List Tu->Option Int
 | []=>none
 |x::r=>if 1<=sP x.id pk then some x.id else tL pk r
def xH (pk:List (KE Int)) (x:Tu):Int:=(Dy x - sP x.id pk) / Dy x
def Hl (pk:List (KE Int)):List Tu->Int->Int
 | [],n=>n
 |x::r,n=>Hl pk r (min n (xH pk x))
abbrev xN:=List (KE Int)×Nat
def kB (id n:Int) (s:xN):xN:=(JN id n s.2 s.1,YJ id n s.2 s.1)
def yZ (n:Int):List Tu->xN->xN
 | [],s=>s
 |x::r,s=>yZ n r (kB x.id (sP x.id s.1+n * Dy x) s)
def AD (s:xN) (l:List Tu):Option Int×xN:=match rN [] 0 l with
 | []=>(none,s)
 |x::r=>match tL s.1 (x::r) with
  |some id=>(some id,s)
  |none=>(tL (yZ (Hl s.1 (x::r) (xH s.1 x)) (x::r) s).1 (x::r),yZ (Hl s.1 (x::r) (xH s.1 x)) (x::r) s)
def Lu (s:xN):Prop:=∀e∈s.1,-1024<=e.v/\e.v<=1024
theorem WF {id v:Int}:∀ {l:List (KE Int)},gZ id l=some v->∃e∈l,e.v=v
 | [],h=>by cases h
 |e::r,h=>by
  unfold gZ at h
  split at h
  ·cases h;exact⟨e,List.mem_cons_self ..,rfl⟩
  ·obtain⟨z,hz,he⟩:=WF h
   exact⟨z,List.mem_cons_of_mem _ hz,he⟩
theorem F9 {s:xN} (h:Lu s) (id:Int):-1024<=sP id s.1/\sP id s.1<=1024:=by
 unfold sP
 cases hg:gZ id s.1 with
 |none=>simp
 |some v=>
  obtain⟨e,he,rfl⟩:=WF hg
  exact h e he
theorem IY {α:Type} {id:Int} {e:KE α}:∀ {l:List (KE α)},e∈nJ id l->e∈l
 | [],h=>h
 |z::r,h=>by
  unfold nJ at h
  split at h
  ·exact List.mem_cons_of_mem _ h
  ·rcases List.mem_cons.1 h with rfl|h
   ·exact List.mem_cons_self ..
   ·exact List.mem_cons_of_mem _ (IY h)
theorem PD {α:Type} {id:Int} {v:α} {ck:Nat} {e:KE α}:∀ {l:List (KE α)},e∈uK id v ck l->e.v=v\/e∈l
 | [],h=>.inl (by rw[List.mem_singleton.1 h])
 |z::r,h=>by
  unfold uK at h
  split at h
  ·rcases List.mem_cons.1 h with rfl|h
   ·exact .inl rfl
   ·exact .inr (List.mem_cons_of_mem _ h)
  ·rcases List.mem_cons.1 h with rfl|h
   ·exact .inr (List.mem_cons_self ..)
   ·rcases PD h with h|h
    ·exact .inl h
    ·exact .inr (List.mem_cons_of_mem _ h)
theorem Agy {seen:List (KE Bool)} {x:Tu} {r:List Tu}:rN seen ck (x::r)=(if(gZ x.id seen).getD false=false/\x.rd=true then [x] else [])++rN (uK x.id true ck seen) (kCk x.id ck seen) r:=by
 conv=>lhs;unfold rN
 split <;> simp
theorem Io {id:Int} {l:List (KE Bool)}:IZ false (.bool false) (jJ id (kM blE l) 0)=.bool ((gZ id l).getD false):=by
 rw[Xc]
 cases gZ id l <;> rfl
section
variable {n:Nat} {l:List Tu} {x:Tu} {s:xN}
theorem V1 (hK:K (I6 (Dy x)) R):CT 277 #[.agg #[I6 x.id,I6 x.w,.bool x.rd]] R K:=by
 refine aH Tryz.func277 ?_
 repeat' (first|refine v39 ?_|refine w5 ?_ ?_|((refine bh fun h=>?_) <;> try exact w6 h)|(refine aE fun hA=>?_;subst hA)|intro _)
 all_goals(refine aC ?_;exact aB (hK))
theorem Dm (hv:d4 C A OS l) (hn:l.length=n) (hs:n<=100000) (hK:∀B d,K (.slice B (rN [] 0 l).length d) (bV B d 354 OS (rN [] 0 l)::C)):CT 274 #[.slice A n c] C K:=by
 subst hn
 refine aH Tryz.func274 ?_
 repeat' (first|(show aN _ _ _ _ _ _ _;refine GA ?_;intro _)|refine Vv ?_|refine w5 ?_ ?_|((refine bh fun h=>?_) <;> try exact w6 h)|(refine aE fun hA=>?_;subst hA)|intro _)
 rename_i m
 refine oR (aG.nilrow 354 OS _) ?_
 refine jG (fun kk a C'=>∃(j ck:Nat) (seen:List (KE Bool)) (os:List Tu) (B:Option Addr) (d:Nat),j+kk=l.length/\os.length<=j/\os++rN seen ck (l.drop j)=rN [] 0 l/\dP a [(0,.slice A l.length c),(3,.map (some m)),(4,.slice B os.length d),(8,.slice A l.length c),(9,I6 l.length),(10,I6 j)]/\C'=bV B d 354 OS os::mp m (kM blE seen) ck::C) l.length (cN l.length ⟨0,0,[],[],none,0,by omega,by simp,rfl,⟨rfl,rfl,rfl,rfl,rfl,rfl,trivial⟩,rfl⟩ (by omega)) ?_
 rintro kk a C' ⟨j,ck,seen,os,B,d,hj,hol,hos,ha,rfl⟩
 have hv':d4 (bV B d 354 OS os::mp m (kM blE seen) ck::C) A OS l:=bM (bM hv)
 refine iT _ ha ?_
 simp only[gH]
 by_cases hlt:j<l.length
 ·obtain⟨x,hx⟩:∃x,l[j]?=some x:=⟨_,List.getElem?_eq_getElem hlt⟩
  have hx':l[((j:Nat):Int).toNat]?=some x:=by rw[Int.toNat_natCast];exact hx
  have hd:l.drop j=x::l.drop (j+1):=by rw[List.drop_eq_getElem_cons hlt,(List.getElem?_eq_some_iff.1 hx).2]
  rw[hd,Agy] at hos
  by_cases hc:(gZ x.id seen).getD false=false/\x.rd=true
  ·rw[if_pos hc,<- List.append_assoc] at hos
   obtain⟨hc1,hc2⟩:=hc
   repeat' (first|(show aN _ _ _ _ _ _ _;first|(refine jS ?_ (hv:=Io);rw[hc1])|refine lA ?_ (hv:=Rs (enc:=blE) (v:=true)) (hu:=by exact rfl)|(refine dD (E:=OS) (xs:=os) (ys:= [x]) ?_;intro B2 d2))|refine Vv ?_|refine w5 ?_ ?_|((refine bh fun h=>?_) <;> try exact w6 h)|(refine aE fun hA=>?_;subst hA)|intro _)
   all_goals(show aV _ _ _ _;exact cN (kk - 1) ⟨j+1,_,_,os++ [x],B2,d2,by omega,by rw[List.length_append];exact Nat.succ_le_succ hol,hos,⟨rfl,rfl,rfl,rfl,rfl,rfl,trivial⟩,rfl⟩)
  ·rw[if_neg hc,List.nil_append] at hos
   cases hc1:(gZ x.id seen).getD false
   ·have hc2:x.rd=false:=by
     cases hx2:x.rd
     ·rfl
     ·exact absurd ⟨hc1,hx2⟩ hc
    repeat' (first|(show aN _ _ _ _ _ _ _;first|(refine jS ?_ (hv:=Io);rw[hc1])|refine lA ?_ (hv:=Rs (enc:=blE) (v:=true)) (hu:=by exact rfl))|refine Vv ?_|refine w5 ?_ ?_|((refine bh fun h=>?_) <;> try exact w6 h)|(refine aE fun hA=>?_;subst hA)|intro _)
    all_goals(show aV _ _ _ _;exact cN (kk - 1) ⟨j+1,_,_,os,B,d,by omega,by omega,hos,⟨rfl,rfl,rfl,rfl,rfl,rfl,trivial⟩,rfl⟩)
   ·repeat' (first|(show aN _ _ _ _ _ _ _;first|(refine jS ?_ (hv:=Io);rw[hc1])|refine lA ?_ (hv:=Rs (enc:=blE) (v:=true)) (hu:=by exact rfl))|refine Vv ?_|refine w5 ?_ ?_|((refine bh fun h=>?_) <;> try exact w6 h)|(refine aE fun hA=>?_;subst hA)|intro _)
    all_goals(show aV _ _ _ _;exact cN (kk - 1) ⟨j+1,_,_,os,B,d,by omega,by omega,hos,⟨rfl,rfl,rfl,rfl,rfl,rfl,trivial⟩,rfl⟩)
 ·rw[List.drop_eq_nil_of_le (by omega)] at hos
  have hos:os=rN [] 0 l:=by simpa[rN] using hos
  subst hos
  repeat' (first|refine Vv ?_|refine w5 ?_ ?_|((refine bh fun h=>?_) <;> try exact w6 h)|(refine aE fun hA=>?_;subst hA)|intro _)
  all_goals(refine aC ?_;exact aB (hK _ _))
def A7 (pk:List (KE Int)) (l:List Tu):Value:=match tL pk l with
 |some id=>.tuple #[I6 id,.bool true]
 |none=>.tuple #[I6 0,.bool false]
theorem Agd {x:Tu} (h:l[j]?=some x):tL pk (l.drop j)=if 1<=sP x.id pk then some x.id else tL pk (l.drop (j+1)):=by
 have hj:=(List.getElem?_eq_some_iff.1 h).1
 rw[List.drop_eq_getElem_cons hj,(List.getElem?_eq_some_iff.1 h).2]
 rfl
theorem Ags {x:Tu} (h:l[j]?=some x):Hl pk (l.drop j) m=Hl pk (l.drop (j+1)) (min m (xH pk x)):=by
 have hj:=(List.getElem?_eq_some_iff.1 h).1
 rw[List.drop_eq_getElem_cons hj,(List.getElem?_eq_some_iff.1 h).2]
 rfl
theorem Acw {x:Tu} (h:l[j]?=some x):yZ m (l.drop j) s=yZ m (l.drop (j+1)) (kB x.id (sP x.id s.1+m * Dy x) s):=by
 have hj:=(List.getElem?_eq_some_iff.1 h).1
 rw[List.drop_eq_getElem_cons hj,(List.getElem?_eq_some_iff.1 h).2]
 rfl
theorem Im {pk:List (KE Int)}:∀ {l:List Tu},tL pk l=none->∀x∈l,sP x.id pk<=0
 | [],_,x,hx=>by cases hx
 |z::r,h,x,hx=>by
  unfold tL at h
  split at h
  ·cases h
  ·rename_i hz
   rcases List.mem_cons.1 hx with rfl|hx
   ·omega
   ·exact Im h x hx
theorem zZ (hs:l.length<=100000) (hK:K (A7 pk l) (bV A c 354 OS l::pt p [.map (some q)] 275::mp q (kM Mu pk) ck::R)):CT 275 #[PO p,.slice A l.length c] (bV A c 354 OS l::pt p [.map (some q)] 275::mp q (kM Mu pk) ck::R) K:=by
 refine aH Tryz.func275 ?_
 repeat' (first|refine Lc ?_|refine w5 ?_ ?_|((refine bh fun h=>?_) <;> try exact w6 h)|(refine aE fun hA=>?_;subst hA)|intro _)
 refine jG (fun kk a C'=>∃j:Nat,j+kk=l.length/\tL pk (l.drop j)=tL pk l/\dP a [(0,PO p),(6,I6 0),(7,.bool false),(10,.slice A l.length c),(11,I6 l.length),(12,I6 j)]/\C'=bV A c 354 OS l::pt p [.map (some q)] 275::mp q (kM Mu pk) ck::R) l.length (cN l.length ⟨0,by omega,rfl,⟨rfl,rfl,rfl,rfl,rfl,rfl,trivial⟩,rfl⟩ (by omega)) ?_
 rintro kk a C' ⟨j,hj,hf,ha,rfl⟩
 refine iT _ ha ?_
 simp only[gH]
 by_cases hlt:j<l.length
 ·obtain⟨x,hx⟩:∃x,l[j]?=some x:=⟨_,List.getElem?_eq_getElem hlt⟩
  have hx':l[((j:Nat):Int).toNat]?=some x:=by rw[Int.toNat_natCast];exact hx
  rw[Agd hx] at hf
  by_cases h1:1<=sP x.id pk
  ·rw[if_pos h1] at hf
   unfold A7 at hK
   rw[<- hf] at hK
   repeat' (first|refine Lc ?_|refine w5 ?_ ?_|((refine bh fun h=>?_) <;> try exact w6 h)|(refine aE fun hA=>?_;subst hA)|intro _|(show aA _ 278 _ _ _;refine CA (h:=sB ?_)))
   all_goals(refine aC ?_;exact aB (hK))
  ·rw[if_neg h1] at hf
   repeat' (first|refine Lc ?_|refine w5 ?_ ?_|((refine bh fun h=>?_) <;> try exact w6 h)|(refine aE fun hA=>?_;subst hA)|intro _|(show aA _ 278 _ _ _;refine CA (h:=sB ?_)))
   all_goals(show aV _ _ _ _;exact cN (kk - 1) ⟨j+1,by omega,hf,⟨rfl,rfl,rfl,rfl,rfl,rfl,trivial⟩,rfl⟩)
 ·rw[List.drop_eq_nil_of_le (by omega)] at hf
  unfold A7 at hK
  rw[<- hf] at hK
  repeat' (first|refine Lc ?_|refine w5 ?_ ?_|((refine bh fun h=>?_) <;> try exact w6 h)|(refine aE fun hA=>?_;subst hA)|intro _)
  all_goals(refine aC ?_;exact aB (hK))
theorem Ub (x:Tu):1<=Dy x/\Dy x<=256:=by unfold Dy;omega
theorem MU {x:Tu} (h0:sP x.id pk<=0) (h1:-1024<=sP x.id pk):0<=xH pk x/\xH pk x<=1280:=by
 have hw:=Ub x
 unfold xH
 have h2:0<=Dy x - sP x.id pk:=by omega
 exact⟨Int.ediv_nonneg h2 (by omega),Int.le_trans (Int.ediv_le_self _ h2) (by omega)⟩
def EE:List (Nat×Nat):= [(0,0),(1,1),(2,1),(3,1),(4,1),(5,1),(7,2),(8,1),(6,1),(9,0),(10,0)]
theorem O9 {r2:Nat} (h0:sP x.id pk<=0) (h1:-1024<=sP x.id pk) (hK:K (I6 (xH pk x)) (pt r2 [PO p] 112::pt p [.map (some q)] 275::mp q (kM Mu pk) ck::R)):CT 276 #[.agg #[I6 x.id,I6 x.w,.bool x.rd],PO r2] (pt r2 [PO p] 112::pt p [.map (some q)] 275::mp q (kM Mu pk) ck::R) K:=by
 have hw:=Ub x
 have hb:=MU h0 h1
 have hm:IntKind.wrap .i64 ((Dy x - sP x.id pk) / Dy x)=(Dy x - sP x.id pk) / Dy x:=wG (by unfold xH at hb;omega) (by unfold xH at hb;omega)
 refine aH Tryz.func276 ?_
 repeat' (first|refine v84 ?_|refine dw EE ?_|refine w5 ?_ ?_|((refine bh fun h=>?_) <;> try exact w6 h)|(refine aE fun hA=>?_;subst hA)|intro _|(show aA _ 277 _ _ _;refine CA (h:=V1 ?_))|(show aA _ 278 _ _ _;refine CA (h:=sB ?_)))
 all_goals(refine aC ?_;exact aB (hK))
theorem N5 {id n:Int} (h:Lu s):Lu (kB id n s):=fun e he=>by
 unfold kB JN at he
 simp only at he
 split at he
 ·exact h e (IY he)
 ·rcases PD he with hv|he
  ·rw[hv];unfold Ng;omega
  ·exact h e he
theorem Ake {id:Int} (h:Lu s):Lu (nJ id s.1,s.2):=fun e he=>h e (IY he)
theorem WC {m:Int}:∀ {l:List Tu} {s:xN},Lu s->Lu (yZ m l s)
 | [],_,h=>h
 |_::_,_,h=>by unfold yZ;exact WC (N5 h)
theorem OC {l:List Tu} (h:Lu s):Lu (AD s l).2:=by
 unfold AD
 split
 ·exact h
 ·split
  ·exact h
  ·exact WC h
def MD (s:xN) (l:List Tu):Value:=match (AD s l).1 with
 |some id=>.tuple #[I6 id,.bool true]
 |none=>.tuple #[I6 0,.bool false]
theorem LY:∀(l:List Tu) (seen:List (KE Bool)) (ck:Nat),(rN seen ck l).length<=l.length
 | [],_,_=>Nat.le_refl _
 |x::r,seen,ck=>by
  have h:=LY r (uK x.id true ck seen) (kCk x.id ck seen)
  unfold rN
  split
  ·simp only[List.length_cons];omega
  ·simp only[List.length_cons];omega
def d7:List (Nat×Nat):= [(3,0),(4,0),(5,0),(6,1),(8,1),(9,1),(0,2),(1,2),(2,2),(7,2),(10,0),(11,0),(12,1)]
theorem yG (hs:l.length<=10000) (hb:Lu s) (hK:K (MD s l) (pt p [.map (some q)] 275::mp q (kM Mu (AD s l).2.1) (AD s l).2.2::R)):CT 188 #[PO p,.slice A l.length c] (bV A c 354 OS l::pt p [.map (some q)] 275::mp q (kM Mu s.1) s.2::R) K:=by
 have hle:=LY l [] 0
 unfold MD AD at hK
 generalize hw:rN [] 0 l=w at hK hle
 cases w with
 |nil=>
  refine aH Tryz.func188 ?_
  repeat' (first|refine v94 ?_|refine dw d7 ?_|refine w5 ?_ ?_|((refine bh fun h=>?_) <;> try exact w6 h)|(refine aE fun hA=>?_;subst hA)|intro _|(show aA _ 274 _ _ _;refine CA (h:=Dm (l:=l) (by exact lF) rfl (by omega) (fun B d=>?_));rw[hw]))
  all_goals(refine aC ?_;exact aB (hK))
 |cons x0 w=>
  simp only at hK
  cases hf:tL s.1 (x0::w) with
  |some id=>
   rw[hf] at hK
   simp only at hK
   have hv:A7 s.1 (x0::w)=.tuple #[I6 id,.bool true]:=by unfold A7;rw[hf]
   refine aH Tryz.func188 ?_
   repeat' (first|refine v94 ?_|refine dw d7 ?_|refine w5 ?_ ?_|((refine bh fun h=>?_) <;> try exact w6 h)|(refine aE fun hA=>?_;subst hA)|intro _|(show aA _ 274 _ _ _;refine CA (h:=Dm (l:=l) (by exact lF) rfl (by omega) (fun B d=>?_));rw[hw])|(show aA _ 275 _ _ _;refine CA (h:=zZ (l:=x0::w) (by omega) ?_);rw[hv]))
   all_goals(refine aC ?_;exact aB (hK))
  |none=>
   rw[hf] at hK
   simp only at hK
   have hv:A7 s.1 (x0::w)=.tuple #[I6 0,.bool false]:=by unfold A7;rw[hf]
   have h0:=Im hf
   have hx0:(x0::w)[(0:Int).toNat]?=some x0:=rfl
   have hpos:0<(x0::w).length:=by simp
   have hr0:=MU (h0 x0 (List.mem_cons_self ..)) (F9 hb _).1
   refine aH Tryz.func188 ?_
   repeat' (first|refine v94 ?_|refine dw d7 ?_|refine w5 ?_ ?_|((refine bh fun h=>?_) <;> try exact w6 h)|(refine aE fun hA=>?_;subst hA)|intro _|(show aA _ 274 _ _ _;refine CA (h:=Dm (l:=l) (by exact lF) rfl (by omega) (fun B d=>?_));rw[hw])|(show aA _ 275 _ _ _;refine CA (h:=zZ (l:=x0::w) (by omega) ?_);rw[hv])|(show aA _ 276 _ _ _;refine CA (h:=O9 (h0 _ (List.mem_cons_self ..)) (F9 hb _).1 ?_)))
   rename_i r2 B0 o0
   refine jG (fun kk a C'=>∃(j:Nat) (m:Int),j+kk=(x0::w).length/\Hl s.1 ((x0::w).drop j) m=Hl s.1 (x0::w) (xH s.1 x0)/\0<=m/\m<=1280/\dP a [(1,.slice (some ⟨B0,o0,none⟩) (x0::w).length d),(2,PO r2),(8,.func (.func 276) #[] #[PO r2]),(9,I6 m),(37,.slice (some ⟨B0,o0,none⟩) (x0::w).length d),(38,I6 (x0::w).length),(39,I6 j)]/\C'=bV (some ⟨B0,o0,none⟩) d 354 OS (x0::w)::pt p [.map (some q)] 275::mp q (kM Mu s.1) s.2::pt r2 [PO p] 112::R) (x0::w).length (cN (x0::w).length ⟨0,xH s.1 x0,by omega,rfl,hr0.1,hr0.2,⟨rfl,rfl,rfl,rfl,rfl,rfl,rfl,trivial⟩,rfl⟩ (by omega)) ?_
   rintro kk a C' ⟨j,m,hj,hm,hm0,hm1,ha,rfl⟩
   refine iT _ ha ?_
   simp only[gH]
   by_cases hlt:j<(x0::w).length
   ·obtain⟨x,hx⟩:∃x,(x0::w)[j]?=some x:=⟨_,List.getElem?_eq_getElem hlt⟩
    have hx':(x0::w)[((j:Nat):Int).toNat]?=some x:=by rw[Int.toNat_natCast];exact hx
    have hxm:=List.mem_of_getElem? hx
    have hrx:=MU (h0 x hxm) (F9 hb _).1
    rw[Ags hx] at hm
    repeat' (first|refine v94 ?_|refine dw d7 ?_|refine w5 ?_ ?_|((refine bh fun h=>?_) <;> try exact w6 h)|(refine aE fun hA=>?_;subst hA)|intro _|(show aA _ 276 _ _ _;refine CA (h:=O9 (h0 _ hxm) (F9 hb _).1 ?_)))
    all_goals(show aV _ _ _ _;exact cN (kk - 1) ⟨j+1,min m (xH s.1 x),by omega,hm,by omega,by omega,⟨rfl,rfl,rfl,rfl,rfl,rfl,rfl,trivial⟩,rfl⟩)
   ·rw[List.drop_eq_nil_of_le (by omega)] at hm
    have hm:m=Hl s.1 (x0::w) (xH s.1 x0):=hm
    rw[<- hm] at hK
    repeat' (first|refine v94 ?_|refine dw d7 ?_|refine w5 ?_ ?_|((refine bh fun h=>?_) <;> try exact w6 h)|(refine aE fun hA=>?_;subst hA)|intro _)
    refine jG (fun kk a C'=>∃(j:Nat) (s':xN),j+kk=(x0::w).length/\yZ m ((x0::w).drop j) s'=yZ m (x0::w) s/\Lu s'/\dP a [(1,.slice (some ⟨B0,o0,none⟩) (x0::w).length d),(2,PO r2),(9,I6 m),(49,.slice (some ⟨B0,o0,none⟩) (x0::w).length d),(50,I6 (x0::w).length),(51,I6 j)]/\C'=bV (some ⟨B0,o0,none⟩) d 354 OS (x0::w)::pt p [.map (some q)] 275::mp q (kM Mu s'.1) s'.2::pt r2 [PO p] 112::R) (x0::w).length (cN (x0::w).length ⟨0,s,by omega,rfl,hb,⟨rfl,rfl,rfl,rfl,rfl,rfl,trivial⟩,rfl⟩ (by omega)) ?_
    rintro kk a C' ⟨j,s',hj,hs',hb',ha,rfl⟩
    refine iT _ ha ?_
    simp only[gH]
    by_cases hlt:j<(x0::w).length
    ·obtain⟨x,hx⟩:∃x,(x0::w)[j]?=some x:=⟨_,List.getElem?_eq_getElem hlt⟩
     have hx':(x0::w)[((j:Nat):Int).toNat]?=some x:=by rw[Int.toNat_natCast];exact hx
     have hwt:=Ub x
     have hlx:=F9 hb' x.id
     have hp0:0<=m * Dy x:=Int.mul_nonneg hm0 (by omega)
     have Ex:m * Dy x<=1280 * 256:=Int.mul_le_mul hm1 hwt.2 (by omega) (by omega)
     rw[Acw hx] at hs'
     repeat' (first|refine v94 ?_|refine dw d7 ?_|refine w5 ?_ ?_|((refine bh fun h=>?_) <;> try exact w6 h)|(refine aE fun hA=>?_;subst hA)|intro _|(show aA _ 278 _ _ _;refine CA (h:=sB ?_))|(show aA _ 277 _ _ _;refine CA (h:=V1 ?_))|(show aA _ 279 _ _ _;refine CA (h:=H9 ?_)))
     all_goals(show aV _ _ _ _;exact cN (kk - 1) ⟨j+1,_,by omega,hs',N5 hb',⟨rfl,rfl,rfl,rfl,rfl,rfl,trivial⟩,rfl⟩)
    ·rw[List.drop_eq_nil_of_le (by omega)] at hs'
     have hs':s'=yZ m (x0::w) s:=hs'
     subst hs'
     have hfv:A7 (yZ m (x0::w) s).1 (x0::w)=match tL (yZ m (x0::w) s).1 (x0::w) with
      |some id=>.tuple #[I6 id,.bool true]
      |none=>.tuple #[I6 0,.bool false]:=rfl
     cases hf2:tL (yZ m (x0::w) s).1 (x0::w) with
     |some id=>
      rw[hf2] at hK hfv
      repeat' (first|refine v94 ?_|refine dw d7 ?_|refine w5 ?_ ?_|((refine bh fun h=>?_) <;> try exact w6 h)|(refine aE fun hA=>?_;subst hA)|intro _|(show aA _ 275 _ _ _;refine CA (h:=zZ (l:=x0::w) (by omega) ?_);rw[hfv]))
      all_goals(refine aC ?_;exact aB (hK))
     |none=>
      rw[hf2] at hK hfv
      repeat' (first|refine v94 ?_|refine dw d7 ?_|refine w5 ?_ ?_|((refine bh fun h=>?_) <;> try exact w6 h)|(refine aE fun hA=>?_;subst hA)|intro _|(show aA _ 275 _ _ _;refine CA (h:=zZ (l:=x0::w) (by omega) ?_);rw[hfv]))
      all_goals(refine aC ?_;exact aB (hK))
end
theorem Aoi {q:List (iO×Int)} {w:Nat} {n:Int} {z:iO} (hw:z.w=w):aG (uC w n::X::Y::Z::eG CZ q::R) (X::Y::Z::eG CZ (q.take i++(z,n)::q.drop i)::R):=by
 subst hw
 have h1:aG (uC z.w n::eG CZ q::R) (eG CZ (q.take i++(z,n)::q.drop i)::R):=Md (f:=CZ) (b:=(z,n))
 exact aG.trans (fun _ h=>h.perm (List.perm_middle (l₁:= [X,Y,Z]) (a:=uC z.w n) (l₂:=eG CZ q::R)).symm) (aG.cons (aG.cons (aG.cons h1)))
theorem Amu {q:List (iO×Int)} {z:iO×Int} (hz:q[i]?=some z):aG (X::Y::Z::eG CZ q::R) (X::Y::Z::eG CZ (q.eraseIdx i)::R):=
 aG.cons (aG.cons (aG.cons (aG.trans (u4 (f:=CZ) hz) (aG.drop (aG.refl _)))))
section
variable {s:Ld} {n:Int}
theorem Xy (hok:Ud s) (hK:∀v,K v (SI p (gG t n s)::R)):CT 235 #[PO p,I6 t,I6 n] (SI p s::R) K:=by
 refine Cq fun w0 A c q hq=>?_
 obtain⟨h1,h2,h3,h4,h5⟩:=hok
 have hl:=FM hq
 have hp:=I7 hq h2
 by_cases g1:t<1\/2147483647<t
 ·have e:gG t n s=s:=by unfold gG;rw[if_pos (by omega)]
  rw[e] at hK
  refine aH Tryz.func235 ?_
  repeat' (first|refine v90 ?_|refine w5 ?_ ?_|((refine bh fun h=>?_) <;> try exact w6 h)|(refine aE fun hA=>?_;subst hA)|intro _)
  all_goals(refine aC ?_;exact aK (aG.trans (by exact aZ) ((jX hq rfl rfl))) ((hK _)))
 ·cases g2:lZ n
  ·have e:gG t n s=s:=by unfold gG;rw[if_pos (.inr (.inr (.inl g2)))]
   rw[e] at hK
   refine aH Tryz.func235 ?_
   repeat' (first|refine v90 ?_|refine w5 ?_ ?_|((refine bh fun h=>?_) <;> try exact w6 h)|(refine aE fun hA=>?_;subst hA)|intro _|(show aA _ 168 _ _ _;refine CA (h:=Y9 g2 ?_)))
   all_goals(refine aC ?_;exact aK (aG.trans (by exact aZ) ((jX hq rfl rfl))) ((hK _)))
  ·cases g3:pL t s.l with
   |some z=>
    have e:gG t n s=s:=by unfold gG;rw[if_pos (.inr (.inr (.inr (.inl (by rw[g3];rfl)))))]
    rw[e] at hK
    have g3':=g3
    rw[<- hq] at g3'
    obtain⟨_,_,_,_,hf⟩:=yA g3'
    refine aH Tryz.func235 ?_
    repeat' (first|refine v90 ?_|refine w5 ?_ ?_|((refine bh fun h=>?_) <;> try exact w6 h)|(refine aE fun hA=>?_;subst hA)|intro _|(show aA _ 168 _ _ _;refine CA (h:=BQ g2 (fun w1=>?_)))|(show aA _ 159 _ _ _;refine CA (h:=wC (l:=q.map Prod.fst) (by omega) hp ?_);rw[hf]))
    all_goals(refine aC ?_;exact aK (aG.trans (by exact aZ) ((jX hq rfl rfl))) ((hK _)))
   |none=>
    have g3':=g3
    rw[<- hq] at g3'
    have hf:=CG g3'
    by_cases g4:64<=s.l.length
    ·have e:gG t n s=s:=by unfold gG;rw[if_pos (.inr (.inr (.inr (.inr g4))))]
     rw[e] at hK
     refine aH Tryz.func235 ?_
     repeat' (first|refine v90 ?_|refine w5 ?_ ?_|((refine bh fun h=>?_) <;> try exact w6 h)|(refine aE fun hA=>?_;subst hA)|intro _|(show aA _ 168 _ _ _;refine CA (h:=BQ g2 (fun w1=>?_)))|(show aA _ 159 _ _ _;refine CA (h:=wC (l:=q.map Prod.fst) (by omega) hp ?_);rw[hf]))
     all_goals(refine aC ?_;exact aK (aG.trans (by exact aZ) ((jX hq rfl rfl))) ((hK _)))
    ·have e:gG t n s= { s with l:=s.l.take (nI t s.l)++⟨t,n,0⟩::s.l.drop (nI t s.l) }:=by
      unfold gG
      rw[if_neg]
      rintro(h|h|h|h|h)
      ·omega
      ·omega
      ·rw[g2] at h;cases h
      ·rw[g3] at h;cases h
      ·exact g4 h
     rw[e] at hK
     have hix:Bn t (q.map Prod.fst)=nI t s.l:=by rw[<- hq,zC]
     have hle:=TH t (q.map Prod.fst)
     refine aH Tryz.func235 ?_
     repeat' (first|refine v90 ?_|refine w5 ?_ ?_|((refine bh fun h=>?_) <;> try exact w6 h)|(refine aE fun hA=>?_;subst hA)|intro _|(show aA _ 168 _ _ _;refine CA (h:=BQ g2 (fun w1=>?_)))|(show aA _ 159 _ _ _;refine CA (h:=wC (l:=q.map Prod.fst) (by omega) hp ?_);rw[hf])|(show aA _ 341 _ _ _;refine CA (h:=Ajp (xs:=q.map Prod.fst) (y:=⟨t,w1,0⟩) rfl hle (by omega) (fun A' c'=>?_))))
     all_goals(refine aC ?_;exact aK (aG.trans (by exact aZ) ((aG.trans (Aoi (i:=nI t s.l) (z:=⟨t,w1,0⟩) rfl) (jX (q:=q.take (nI t s.l)++(⟨t,w1,0⟩,n)::q.drop (nI t s.l)) (l:=s.l.take (nI t s.l)++⟨t,n,0⟩::s.l.drop (nI t s.l)) (by rw[<- hq];simp[L1]) (by rw[hix];simp) (by simp only[List.length_append,List.length_cons,List.length_take,List.length_drop];omega))))) ((hK _)))
theorem T8 (hok:Ud s) (hK:∀v,K v (SI p (kJ t s)::R)):CT 352 #[PO p,I6 t] (SI p s::R) K:=by
 refine Cq fun w0 A c q hq=>?_
 obtain⟨h1,h2,h3,h4,h5⟩:=hok
 have hl:=FM hq
 have hp:=I7 hq h2
 cases g3:pL t s.l with
 |none=>
  have e:kJ t s=s:=by unfold kJ;rw[g3];rfl
  rw[e] at hK
  rw[<- hq] at g3
  have hf:=CG g3
  refine aH Tryz.func352 ?_
  repeat' (first|refine v68 ?_|refine w5 ?_ ?_|((refine bh fun h=>?_) <;> try exact w6 h)|(refine aE fun hA=>?_;subst hA)|intro _|(show aA _ 159 _ _ _;refine CA (h:=wC (l:=q.map Prod.fst) (by omega) hp ?_);rw[hf]))
  all_goals(refine aC ?_;exact aK (aG.trans (by exact aZ) ((jX hq rfl rfl))) ((hK _)))
 |some z=>
  have e:kJ t s= { s with l:=s.l.eraseIdx (nI t s.l) }:=by unfold kJ;rw[g3];rfl
  rw[e] at hK
  rw[<- hq] at g3
  obtain⟨z,hz,rfl,hid,hf⟩:=yA g3
  have hlt:Bn t (q.map Prod.fst)<(q.map Prod.fst).length:=by rw[List.length_map];exact(List.getElem?_eq_some_iff.1 hz).1
  have hix:Bn t (q.map Prod.fst)=nI t s.l:=by rw[<- hq,zC]
  refine aH Tryz.func352 ?_
  repeat' (first|refine v68 ?_|refine w5 ?_ ?_|((refine bh fun h=>?_) <;> try exact w6 h)|(refine aE fun hA=>?_;subst hA)|intro _|(show aA _ 159 _ _ _;refine CA (h:=wC (l:=q.map Prod.fst) (by omega) hp ?_);rw[hf])|(show aA _ 424 _ _ _;refine CA (h:=Ajw (xs:=q.map Prod.fst) rfl hlt (by omega) (fun A' c'=>?_))))
  all_goals(refine aC ?_;exact aK (aG.trans (by exact aZ) ((aG.trans (Amu hz) (jX (q:=q.eraseIdx (Bn t (q.map Prod.fst))) (l:=s.l.eraseIdx (nI t s.l)) (by rw[<- nZ,hq,hix]) (nZ ..) (by rw[List.length_eraseIdx,if_pos hlt]))))) ((hK _)))
theorem Se {l:List gQ} (h:l[j]?=some e):w7 a b (l.drop j)=if j7 e.n a b≠0 then j7 e.n a b else w7 a b (l.drop (j+1)):=by
 have hj:=(List.getElem?_eq_some_iff.1 h).1
 rw[List.drop_eq_getElem_cons hj,(List.getElem?_eq_some_iff.1 h).2]
 rfl
theorem Ahl {l:List gQ} {n:Int} (h:l[j]?=some e) (hn:e.n=n) (h0:j7 n a b=0):w7 a b (l.drop (j+1))=w7 a b (l.drop j):=by
 subst hn
 rw[Se h,if_neg (by simpa using h0)]
theorem Alq {l:List gQ} {n:Int} (h:l[j]?=some e) (hn:e.n=n) (h0:j7 n a b≠0):j7 n a b=w7 a b (l.drop j):=by
 subst hn
 rw[Se h,if_pos h0]
def Ay (a b:Int) (e:iO×Int):iO×Int:=(e.1,uD e.2 a b)
def Er:List (Nat×Nat):= [(0,0),(1,0),(2,1),(3,1),(4,1),(5,1),(6,0)]
theorem Ab6 {r4 r5 w:Nat} {i sp:Int} (hm:-4294967296<=m/\m<=4294967296) (hK:∀w',K (I6 (j7 m a b)) (uC w' (uD m a b)::pt r4 [I6 a] 3::pt r5 [I6 b] 3::uC w m::R)):CT 384 #[.agg #[I6 i,PO w,I6 sp],PO r4,PO r5] (pt r4 [I6 a] 3::pt r5 [I6 b] 3::uC w m::R) K:=by
 refine aH Tryz.func384 ?_
 repeat' (first|refine v19 ?_|refine dw Er ?_|refine w5 ?_ ?_|((refine bh fun h=>?_) <;> try exact w6 h)|(refine aE fun hA=>?_;subst hA)|intro _|(show aA _ 385 _ _ _;refine CA (h:=Zh (fun q=>?_)))|(show aA _ 383 _ _ _;refine CA (h:=IT (p:=q) hm ?_)))
 all_goals(refine aC ?_;exact aB (hK _))
theorem Aoj (h:lZ a=true/\lZ b=true):j7 0 a b=0:=by
 have h2:=h
 unfold lZ at h2
 simp only[Bool.and_eq_true,decide_eq_true_eq] at h2
 unfold j7 xM vW
 rw[if_pos h,if_pos]
 simp only[Bool.and_eq_true,decide_eq_true_eq]
 omega
theorem RF (hok:Ud s) (hab:lZ a=true/\lZ b=true) (hK:K (I6 (Bd a b s)) (SI p (mA a b s)::R)):CT 295 #[PO p,I6 a,I6 b] (SI p s::R) K:=by
 have hv:=Aoj hab
 have hE:Bd a b s=w7 a b s.l:=by unfold Bd;rw[hv];rfl
 refine Cq fun w0 A c q hq=>?_
 obtain⟨h1,h2,h3,h4,h5⟩:=hok
 have hl:=FM hq
 have hql:(q.map Prod.fst).length=q.length:=List.length_map ..
 refine aH Tryz.func295 ?_
 repeat' (first|refine KA ?_|refine w5 ?_ ?_|((refine bh fun h=>?_) <;> try exact w6 h)|(refine aE fun hA=>?_;subst hA)|intro _|(show aA _ 168 _ _ _;refine CA (h:=BQ (n:=0) (by decide) (fun w1=>?_)))|(show aA _ 383 _ _ _;refine CA (h:=IT (p:=w1) (n:=0) (by omega) ?_);rw[hv]))
 rename_i r4 r5
 refine jG (fun kk f C'=>∃(j:Nat) (er:Int),j+kk=q.length/\((er=0/\w7 a b (s.l.drop j)=w7 a b s.l)\/(er≠0/\er=w7 a b s.l))/\dP f [(0,PO p),(4,PO r4),(5,PO r5),(9,I6 er),(10,.func (.func 384) #[] #[PO r4,PO r5]),(31,.slice A (q.map Prod.fst).length c),(32,I6 (q.map Prod.fst).length),(33,I6 j)]/\C'=pt r4 [I6 a] 3::pt r5 [I6 b] 3::pt p [PO w0,I6 s.sp,.slice A (q.map Prod.fst).length c] 131::uC w0 s.n0::bV A c 136 yI (q.map Prod.fst)::eG CZ q::R) q.length (cN q.length ⟨0,0,by omega,.inl ⟨rfl,rfl⟩,⟨rfl,rfl,rfl,rfl,rfl,rfl,rfl,rfl,trivial⟩,rfl⟩ (by omega)) ?_
 rintro kk f C' ⟨j,er,hj,her,ha,rfl⟩
 refine iT _ ha ?_
 simp only[gH]
 by_cases hlt:j<q.length
 ·obtain⟨z,hz⟩:∃z,q[j]?=some z:=⟨_,List.getElem?_eq_getElem hlt⟩
  have hz1:(q.map Prod.fst)[j]?=some z.1:=by rw[List.getElem?_map,hz];rfl
  have hz':(q.map Prod.fst)[((j:Nat):Int).toNat]?=some z.1:=by rw[Int.toNat_natCast];exact hz1
  have hlj:s.l[j]?=some (L1 z):=by rw[<- hq,List.getElem?_map,hz];rfl
  rcases her with⟨rfl,he⟩|⟨hne,he⟩
  ·have hzm:=h3 _ (MS hq hz)
   simp only[L1] at hzm
   have hout:aG (eG CZ q::R) (uC z.1.w z.2::eG CZ (q.eraseIdx j)::R):=u4 (f:=CZ) hz
   have hin:aG (uC z.1.w z.2::eG CZ (q.eraseIdx j)::R) (eG CZ q::R):=by
    have h:=Fq (f:=CZ) (b':=z) (R:=R) hz
    rw[k6 j hz] at h
    exact h
   refine oR (aG.cons (aG.cons (aG.cons (aG.cons (aG.cons hout))))) ?_
   repeat' (first|refine KA ?_|refine w5 ?_ ?_|((refine bh fun h=>?_) <;> try exact w6 h)|(refine aE fun hA=>?_;subst hA)|intro _|(show aA _ 384 _ _ _;refine CA (h:=Ab6 (w:=z.1.w) (m:=z.2) (by omega) (fun w'=>?_))))
   all_goals(show aV _ _ _ _;refine cN (kk - 1) ⟨j+1,j7 z.2 a b,by omega,?_,⟨rfl,rfl,rfl,rfl,rfl,rfl,rfl,rfl,trivial⟩,rfl⟩ (by omega) (aG.trans (by exact aZ) (aG.cons (aG.cons (aG.cons (aG.cons (aG.cons hin)))))))
   by_cases hz0:j7 z.2 a b=0
   ·exact .inl ⟨hz0,(Ahl hlj rfl hz0).trans he⟩
   ·exact .inr ⟨hz0,(Alq hlj rfl hz0).trans he⟩
  ·have hR:mA a b s=s:=by unfold mA;rw[if_pos (by rw[hE,<- he];exact hne)]
   rw[hR,hE,<- he] at hK
   repeat' (first|refine KA ?_|refine w5 ?_ ?_|((refine bh fun h=>?_) <;> try exact w6 h)|(refine aE fun hA=>?_;subst hA)|intro _)
   all_goals(refine aC ?_;exact aK (aG.trans (by exact aZ) ((jX hq rfl rfl))) (hK))
 ·have hjl:j=q.length:=by omega
  subst hjl
  rcases her with⟨rfl,he⟩|⟨hne,he⟩
  ·have hd:s.l.drop q.length= []:=List.drop_eq_nil_of_le (by omega)
   rw[hd] at he
   have he:w7 a b s.l=0:=he.symm
   have hR:mA a b s= { s with l:=s.l.map fun e=>⟨e.id,uD e.n a b,e.sp⟩ }:=by unfold mA;rw[if_neg (by rw[hE,he];decide)]
   rw[hR,hE,he] at hK
   repeat' (first|refine KA ?_|refine w5 ?_ ?_|((refine bh fun h=>?_) <;> try exact w6 h)|(refine aE fun hA=>?_;subst hA)|intro _)
   refine jG (fun kk f C'=>∃j:Nat,j+kk=q.length/\dP f [(4,PO r4),(5,PO r5),(49,.slice A (q.map Prod.fst).length c),(50,I6 (q.map Prod.fst).length),(51,I6 j)]/\C'=pt r4 [I6 a] 3::pt r5 [I6 b] 3::pt p [PO w0,I6 s.sp,.slice A (q.map Prod.fst).length c] 131::uC w0 s.n0::bV A c 136 yI (q.map Prod.fst)::eG CZ ((q.take j).map (Ay a b)++q.drop j)::R) q.length (cN q.length ⟨0,by omega,⟨rfl,rfl,rfl,rfl,rfl,trivial⟩,rfl⟩ (by omega)) ?_
   rintro kk f C' ⟨j,hj,ha,rfl⟩
   refine iT _ ha ?_
   simp only[gH]
   by_cases hlt:j<q.length
   ·obtain⟨z,hz⟩:∃z,q[j]?=some z:=⟨_,List.getElem?_eq_getElem hlt⟩
    have hz1:(q.map Prod.fst)[j]?=some z.1:=by rw[List.getElem?_map,hz];rfl
    have hz':(q.map Prod.fst)[((j:Nat):Int).toNat]?=some z.1:=by rw[Int.toNat_natCast];exact hz1
    have hzm:=h3 _ (MS hq hz)
    simp only[L1] at hzm
    have htl:((q.take j).map (Ay a b)).length=j:=by rw[List.length_map,List.length_take];omega
    have hzq:((q.take j).map (Ay a b)++q.drop j)[j]?=some z:=by rw[List.getElem?_append_right (by omega),htl,Nat.sub_self,List.getElem?_drop,Nat.add_zero];exact hz
    have hset:((q.take j).map (Ay a b)++q.drop j).set j (Ay a b z)=(q.take (j+1)).map (Ay a b)++q.drop (j+1):=by
     rw[List.set_append_right _ _ (by omega),htl,Nat.sub_self,List.drop_eq_getElem_cons hlt,List.set_cons_zero,List.take_add_one,hz]
     simp
    have hout:aG (eG CZ ((q.take j).map (Ay a b)++q.drop j)::R) (uC z.1.w z.2::eG CZ (((q.take j).map (Ay a b)++q.drop j).eraseIdx j)::R):=u4 (f:=CZ) hzq
    have hin:aG (uC z.1.w (uD z.2 a b)::eG CZ (((q.take j).map (Ay a b)++q.drop j).eraseIdx j)::R) (eG CZ ((q.take (j+1)).map (Ay a b)++q.drop (j+1))::R):=by
     have h:=Fq (f:=CZ) (b':=Ay a b z) (R:=R) hzq
     rw[hset] at h
     exact h
    refine oR (aG.cons (aG.cons (aG.cons (aG.cons (aG.cons hout))))) ?_
    repeat' (first|refine KA ?_|refine w5 ?_ ?_|((refine bh fun h=>?_) <;> try exact w6 h)|(refine aE fun hA=>?_;subst hA)|intro _|(show aA _ 383 _ _ _;refine CA (h:=IT (p:=z.1.w) (n:=z.2) (by omega) ?_)))
    all_goals(show aV _ _ _ _;refine cN (kk - 1) ⟨j+1,by omega,⟨rfl,rfl,rfl,rfl,rfl,trivial⟩,rfl⟩ (by omega) (aG.trans (by exact aZ) (aG.cons (aG.cons (aG.cons (aG.cons (aG.cons hin)))))))
   ·have hjl:j=q.length:=by omega
    subst hjl
    rw[List.take_length,List.drop_length,List.append_nil]
    repeat' (first|refine KA ?_|refine w5 ?_ ?_|((refine bh fun h=>?_) <;> try exact w6 h)|(refine aE fun hA=>?_;subst hA)|intro _)
    all_goals(refine aC ?_;exact aK (aG.trans (by exact aZ) ((jX (q:=q.map (Ay a b)) (l:=s.l.map fun e=>⟨e.id,uD e.n a b,e.sp⟩) (by rw[<- hq,List.map_map,List.map_map];rfl) (by rw[List.map_map];rfl) rfl))) (hK))
  ·have hR:mA a b s=s:=by unfold mA;rw[if_pos (by rw[hE,<- he];exact hne)]
   rw[hR,hE,<- he] at hK
   repeat' (first|refine KA ?_|refine w5 ?_ ?_|((refine bh fun h=>?_) <;> try exact w6 h)|(refine aE fun hA=>?_;subst hA)|intro _)
   all_goals(refine aC ?_;exact aK (aG.trans (by exact aZ) ((jX hq rfl rfl))) (hK))
end
end Go.Proofs.YtepnmcipkangkaaGreat
namespace Go.Proofs.YtepnmcipkangkaaGreat
open Go Go.Proofs Go.Sl
attribute [local irreducible] aN fJ cY bN aM aS aA dM dN aV dL pt ro fB star sep bF
variable {R C:List HP} {K:KP} {w st o last:Int}
def Aa8:List (Int×Bool):= [(1,true),(1,true),(1,true),(7,false),(7,false),(1,true),(1,false),(5,false),(3,false),(3,true),(9,false),(1,false),(1,true),(3,false),(3,true),(1,true),(4,true),(3,true),(11,true),(10,true),(12,true)]
def Aoy:List Value:=Aa8.flatMap fun x=> [I6 x.1,.bool x.2]
def Ajx (w:Int):Int:=(Aa8.getD w.toNat (0,false)).1
def K0 (w:Int):Bool:=(Aa8.getD w.toNat (0,false)).2
theorem w21 (h:0<=w/\w<=20):w=0\/w=1\/w=2\/w=3\/w=4\/w=5\/w=6\/w=7\/w=8\/w=9\/w=10\/w=11\/w=12\/w=13\/w=14\/w=15\/w=16\/w=17\/w=18\/w=19\/w=20:=by omega
theorem NX (h:0<=w/\w<=20):1<=Ajx w/\Ajx w<=12:=by
 rcases w21 h with rfl|rfl|rfl|rfl|rfl|rfl|rfl|rfl|rfl|rfl|rfl|rfl|rfl|rfl|rfl|rfl|rfl|rfl|rfl|rfl|rfl <;> decide
theorem Ad3 (hK:K (.agg Aoy.toArray) R):CT 438 #[] R K:=by
 refine aH Tryz.func438 ?_
 repeat' (first|refine v5 ?_|refine w5 ?_ ?_|((refine bh fun h=>?_) <;> try exact w6 h)|(refine aE fun hA=>?_;subst hA)|intro _)
 (refine aC ?_;exact aB (hK))
theorem NY (h:0<=w/\w<=20) (hK:K (.agg #[I6 (Ajx w),.bool (K0 w)]) R):CT 391 #[.agg #[I6 w,I6 st,I6 o]] R K:=by
 rcases w21 h with rfl|rfl|rfl|rfl|rfl|rfl|rfl|rfl|rfl|rfl|rfl|rfl|rfl|rfl|rfl|rfl|rfl|rfl|rfl|rfl|rfl
 all_goals
  refine aH Tryz.func391 ?_
  repeat' (first|refine v82 ?_|refine w5 ?_ ?_|((refine bh fun h=>?_) <;> try exact w6 h)|(refine aE fun hA=>?_;subst hA)|intro _|(show aA _ 438 _ _ _;refine CA (h:=Ad3 ?_)))
  (refine aC ?_;exact aB (hK))
def iY (w o:Int):Int:=if w=0/\0<o/\o<=12 then o else Ajx w
theorem Mp (h:0<=w/\w<=20):1<=iY w o/\iY w o<=12:=by
 have:=NX h
 unfold iY
 split <;> omega
theorem K9 {r:Nat} (hK:K (.bool (decide (w=0) && decide (0<o) && decide (o<=12))) (pt r [I6 w,I6 st,I6 o] 201::R)):CT 392 #[PO r] (pt r [I6 w,I6 st,I6 o] 201::R) K:=by
 refine aH Tryz.func392 ?_
 repeat' (first|refine v23 ?_|refine w5 ?_ ?_|((refine bh fun h=>?_) <;> try exact w6 h)|(refine aE fun hA=>?_;subst hA)|intro _)
 all_goals(refine aC ?_;exact aB (kb hK (by simp[*] <;> omega)))
theorem PC (hw:0<=w/\w<=20) (hK:K (.tuple #[I6 (iY w o),I6 0]) R):CT 308 #[.agg #[I6 w,I6 st,I6 o]] R K:=by
 have ht:=NX hw
 by_cases hc:w=0/\0<o/\o<=12
 ·unfold iY at hK
  rw[if_pos hc] at hK
  obtain⟨c1,c2,c3⟩:=hc
  refine aH Tryz.func308 ?_
  repeat' (first|refine v79 ?_|refine w5 ?_ ?_|((refine bh fun h=>?_) <;> try exact w6 h)|(refine aE fun hA=>?_;subst hA)|intro _|(show aA _ 391 _ _ _;refine CA (h:=NY hw ?_))|(show aA _ 392 _ _ _;refine CA (h:=K9 ?_)))
  all_goals(refine aC ?_;exact aB (hK))
 ·unfold iY at hK
  rw[if_neg hc] at hK
  have hc2:w≠0\/o<=0\/12<o:=by omega
  refine aH Tryz.func308 ?_
  repeat' (first|refine v79 ?_|refine w5 ?_ ?_|((refine bh fun h=>?_) <;> try exact w6 h)|(refine aE fun hA=>?_;subst hA)|intro _|(show aA _ 391 _ _ _;refine CA (h:=NY hw ?_))|(show aA _ 392 _ _ _;refine CA (h:=K9 ?_)))
  all_goals(refine aC ?_;exact aB (hK))
theorem y9 (hw:0<=w/\w<=20) (hK:K (.bool (K0 w)) R):CT 309 #[.agg #[I6 w,I6 st,I6 o]] R K:=by
 have ht:=NX hw
 refine aH Tryz.func309 ?_
 repeat' (first|refine v82 ?_|refine w5 ?_ ?_|((refine bh fun h=>?_) <;> try exact w6 h)|(refine aE fun hA=>?_;subst hA)|intro _|(show aA _ 391 _ _ _;refine CA (h:=NY hw ?_)))
 all_goals(refine aC ?_;exact aB (hK))
theorem QJ {n l:Int} (hK:K (.bool (decide (l<=n) && decide (n<=2147483647))) R):CT 310 #[I6 n,I6 l] R K:=by
 refine aH Tryz.func310 ?_
 repeat' (first|refine v1 ?_|refine w5 ?_ ?_|((refine bh fun h=>?_) <;> try exact w6 h)|(refine aE fun hA=>?_;subst hA)|intro _)
 all_goals(refine aC ?_;exact aB (kb hK (by simp[*] <;> omega)))
theorem Aki (hw:0<=w/\w<=20) (hb1:K0 w=true) (hb2:0<=last/\last<=2147483647) (hK:K (.tuple #[.agg #[I6 9,I6 0,.bool false,.string ⟨#[]⟩,I6 0,I6 0,I6 0,.bool false,I6 (iY w o),I6 last,I6 0,.slice none 0 0],I6 0]) R):CT 217 #[.agg #[I6 w,I6 st,I6 o],I6 last] R K:=by
 refine aH Tryz.func217 ?_
 repeat' (first|refine HN ?_|refine w5 ?_ ?_|((refine bh fun h=>?_) <;> try exact w6 h)|(refine aE fun hA=>?_;subst hA)|intro _|(show aA _ 308 _ _ _;refine CA (h:=PC hw ?_))|(show aA _ 309 _ _ _;refine CA (h:=y9 hw ?_))|(show aA _ 310 _ _ _;refine CA (h:=QJ ?_)))
 all_goals(refine aC ?_;exact aB (hK))
theorem Vr (hw:0<=w/\w<=20) (hb1:K0 w=false) (hb2:1<=st/\st<=2147483647) (hK:K (.tuple #[.agg #[I6 4,I6 st,.bool false,.string ⟨#[]⟩,I6 0,I6 0,I6 0,.bool false,I6 (iY w o),I6 0,I6 0,.slice none 0 0],I6 0]) R):CT 217 #[.agg #[I6 w,I6 st,I6 o],I6 last] R K:=by
 refine aH Tryz.func217 ?_
 repeat' (first|refine HN ?_|refine w5 ?_ ?_|((refine bh fun h=>?_) <;> try exact w6 h)|(refine aE fun hA=>?_;subst hA)|intro _|(show aA _ 308 _ _ _;refine CA (h:=PC hw ?_))|(show aA _ 309 _ _ _;refine CA (h:=y9 hw ?_))|(show aA _ 310 _ _ _;refine CA (h:=QJ ?_)))
 all_goals(refine aC ?_;exact aB (hK))
end Go.Proofs.YtepnmcipkangkaaGreat
