/- A part of the proof: lemmas; each with the conditions that it states. -/
import Derived.Test.YtepnmcipkangkaaGreatCav
set_option linter.unusedVariables false
set_option linter.unusedSimpArgs false
set_option maxRecDepth 100000
set_option maxHeartbeats 40000000
namespace Go.Proofs.YtepnmcipkangkaaGreat
open Go Go.Proofs Go.Sl
attribute [local irreducible] aN fL cL bM aL aR aA dJ dK aU dI pt ro fC star sep bF
variable {R C:List HP} {K:KP} {p r q:Nat} {n la co id:Int} {b:Bool} {d:Dr}
structure PM where
 li:Int
 nw:Int
 si:Int
 st:Bool
 fi:Bool
def slP (p:Nat) (s:PM):HP:=pt p [I6 s.li,I6 s.nw,I6 s.si,.bool s.st,.bool s.fi] 284
def f6 (s:PM) (n:Int):PM:=if s.fi=true then s else⟨s.li,max s.nw n,if s.st=true then max s.nw n else s.si,s.st,s.fi⟩
def nW (s:PM) (n:Int) (b:Bool):PM:=if s.li=0 then s else if s.fi=true then⟨s.li,max s.nw n,s.si,s.st,s.fi⟩ else if b=false then⟨s.li,max s.nw n,0,false,s.fi⟩ else if s.st=false then⟨s.li,max s.nw n,max s.nw n,true,decide (s.li<=max s.nw n - max s.nw n)⟩ else⟨s.li,max s.nw n,s.si,s.st,decide (s.li<=max s.nw n - s.si)⟩
def Ae (s:PM) (n:Int) (b:Bool):Bool:=if s.li=0 then false else if s.fi=true then true else if b=false then false else(nW s n b).fi
section
variable {s:PM} {li nw si:Int} {st fi:Bool}
theorem KU (hK:K (I6 (max nw n)) (pt p [I6 li,I6 (max nw n),I6 si,.bool st,.bool fi] 284::R)):CT 269 #[PO p,I6 n] (pt p [I6 li,I6 nw,I6 si,.bool st,.bool fi] 284::R) K:=by
 refine aH Tryz.func269 ?_
 repeat' (first|refine v14 ?_|refine w5 ?_ ?_|((refine bh fun h=>?_) <;> try exact w6 h)|(refine aE fun hA=>?_;subst hA)|intro _)
 all_goals(refine aC ?_;exact aB (hK))
theorem AU (hK:K (.tuple #[]) (slP p (f6 s n)::R)):CT 304 #[PO p,I6 n] (slP p s::R) K:=by
 obtain⟨li,nw,si,st,fi⟩:=s
 cases fi <;> cases st <;> simp only[slP,f6,if_true,if_false,Bool.false_eq_true,reduceCtorEq] at hK ⊢
 all_goals
  refine aH Tryz.func304 ?_
  repeat' (first|refine AB ?_|refine w5 ?_ ?_|((refine bh fun h=>?_) <;> try exact w6 h)|(refine aE fun hA=>?_;subst hA)|intro _|(show aA _ 269 _ _ _;refine CA (h:=KU ?_)))
  all_goals(refine aC ?_;exact aB (hK))
def Dj:List (Nat×Nat):= [(0,0),(1,0),(2,0),(3,0),(4,0),(5,0),(6,0),(7,0),(8,0),(9,0),(10,0),(11,0)]
theorem X9 (hb:-1000000000000000<=si/\si<=1000000000000000) (hn:-1000000000000000<=n/\n<=1000000000000000) (hK:K (.bool (decide (li<=n - si))) (pt q [I6 n] 3::pt r [PO p] 115::pt p [I6 li,I6 nw,I6 si,.bool st,.bool fi] 284::R)):CT 270 #[PO q,PO r] (pt q [I6 n] 3::pt r [PO p] 115::pt p [I6 li,I6 nw,I6 si,.bool st,.bool fi] 284::R) K:=by
 refine aH Tryz.func270 ?_
 repeat' (first|refine v22 ?_|refine dw Dj ?_|refine w5 ?_ ?_|((refine bh fun h=>?_) <;> try exact w6 h)|(refine aE fun hA=>?_;subst hA)|intro _)
 all_goals(refine aC ?_;exact aB (kb hK (by simp)))
def vL:List (Nat×Nat):= [(0,0),(2,0),(3,0),(4,1),(1,1),(5,0),(6,0),(7,1)]
def uH:List (Nat×Nat):= [(0,0),(3,0),(4,0),(5,1),(1,1),(2,1),(6,0),(7,0),(8,1)]
def uP:List (Nat×Nat):= [(1,0),(2,1),(0,1),(3,0),(4,0),(5,1)]
theorem Gp (h1:0<=s.nw/\s.nw<=100000000000000) (h2:0<=s.si/\s.si<=100000000000000) (h3:0<=n/\n<=100000000000000) (hK:K (.bool (Ae s n b)) (slP p (nW s n b)::R)):CT 183 #[PO p,I6 n,.bool b] (slP p s::R) K:=by
 obtain⟨li,nw,si,st,fi⟩:=s
 simp only at h1 h2
 by_cases hl:li=0
 ·subst hl
  simp only[slP,nW,Ae,if_true] at hK ⊢
  refine aH Tryz.func183 ?_
  repeat' (first|refine Sn ?_|refine dw vL ?_|refine dw uH ?_|refine dw uP ?_|refine w5 ?_ ?_|((refine bh fun h=>?_) <;> try exact w6 h)|(refine aE fun hA=>?_;subst hA)|intro _)
  all_goals(refine aC ?_;exact aB (hK))
 ·cases fi <;> cases b <;> cases st <;> simp only[slP,nW,Ae,hl,if_true,if_false,Bool.false_eq_true,reduceCtorEq] at hK ⊢
  all_goals
   refine aH Tryz.func183 ?_
   repeat' (first|refine Sn ?_|refine dw vL ?_|refine dw uH ?_|refine dw uP ?_|refine w5 ?_ ?_|((refine bh fun h=>?_) <;> try exact w6 h)|(refine aE fun hA=>?_;subst hA)|intro _|(show aA _ 269 _ _ _;refine CA (h:=KU ?_))|(show aA _ 270 _ _ _;refine CA (h:=X9 (by omega) (by omega) ?_)))
   all_goals(refine aC ?_;exact aB (hK))
end
def DZ (p:Nat) (d:Dr):HP:=pt p [.bool d.se,.bool d.go,.bool d.ov,I6 d.la,I6 d.th,I6 d.co] 256
theorem JQ (hK:K (.tuple #[.bool d.ov,I6 d.co]) (DZ p d::R)):CT 59 #[PO p] (DZ p d::R) K:=YT hK
theorem Aco (hK:K (I6 (Hj d la)) (DZ p (BI d la)::R)):CT 149 #[PO p,I6 la] (DZ p d::R) K:=by
 obtain⟨se,go,ov,ll,th,cc⟩:=d
 cases ov <;> cases hn:pO la 0 <;> cases se <;> simp only[DZ,BI,Hj,hn,if_true,if_false,Bool.false_eq_true,reduceCtorEq,Int.reduceEq] at hK ⊢
 all_goals
  refine aH Tryz.func149 ?_
  repeat' (first|refine v48 ?_|refine w5 ?_ ?_|((refine bh fun h=>?_) <;> try exact w6 h)|(refine aE fun hA=>?_;subst hA)|intro _|(show aA _ 196 _ _ _;first|refine CA (h:=mZ ?_)|refine CA (h:=nE ?_))|(show aA _ 245 _ _ _;refine CA (h:=xG ?_);rw[hn]))
  all_goals(refine aC ?_;exact aB (hK))
theorem V1 (hK:K (I6 (Mh d la co)) (DZ p (mI d la co)::R)):CT 298 #[PO p,I6 la,I6 co] (DZ p d::R) K:=by
 obtain⟨se,go,ov,ll,th,cc⟩:=d
 by_cases hc:co=0
 ·subst hc
  have hm:pO 0 0=true:=by decide
  cases ov <;> cases hn:pO la 0 <;> cases go <;> by_cases ht:th<=la <;> simp only[DZ,mI,Mh,hn,hm,ht,if_true,if_false,Bool.false_eq_true,reduceCtorEq,Int.reduceEq,or_true,or_false,true_or,false_or,true_and,false_and,and_true,and_false,ne_eq,not_true_eq_false,not_false_eq_true,Int.reduceNeg] at hK ⊢
  all_goals
   refine aH Tryz.func298 ?_
   repeat' (first|refine v48 ?_|refine w5 ?_ ?_|((refine bh fun h=>?_) <;> try exact w6 h)|(refine aE fun hA=>?_;subst hA)|intro _|(show aA _ 196 _ _ _;first|refine CA (h:=mZ ?_)|refine CA (h:=nE ?_))|(show aA _ 245 _ _ _;refine CA (h:=xG ?_);first|rw[hn]|rw[hm])|(show aA _ 197 _ _ _;refine CA (h:=EN ?_)))
   all_goals(refine aC ?_;exact aB (hK))
 ·cases ov <;> cases hn:pO la 0 <;> cases hm:pO co 0 <;> simp only[DZ,mI,Mh,hn,hm,hc,if_true,if_false,Bool.false_eq_true,reduceCtorEq,Int.reduceEq,or_true,or_false,true_or,false_or,true_and,false_and,and_true,and_false,ne_eq,not_true_eq_false,not_false_eq_true,Int.reduceNeg] at hK ⊢
  all_goals
   refine aH Tryz.func298 ?_
   repeat' (first|refine v48 ?_|refine w5 ?_ ?_|((refine bh fun h=>?_) <;> try exact w6 h)|(refine aE fun hA=>?_;subst hA)|intro _|(show aA _ 196 _ _ _;first|refine CA (h:=mZ ?_)|refine CA (h:=nE ?_))|(show aA _ 245 _ _ _;refine CA (h:=xG ?_);first|rw[hn]|rw[hm])|(show aA _ 197 _ _ _;refine CA (h:=EN ?_)))
   all_goals(refine aC ?_;exact aB (hK))
theorem Ab4 (hK:K (I6 (EH d co)) (DZ p (vY d co)::R)):CT 218 #[PO p,I6 co] (DZ p d::R) K:=by
 obtain⟨se,go,ov,ll,th,cc⟩:=d
 cases ov <;> cases hn:pO co 1 <;> simp only[DZ,vY,EH,hn,if_true,if_false,Bool.false_eq_true,reduceCtorEq,Int.reduceEq] at hK ⊢
 all_goals
  refine aH Tryz.func218 ?_
  repeat' (first|refine v21 ?_|refine w5 ?_ ?_|((refine bh fun h=>?_) <;> try exact w6 h)|(refine aE fun hA=>?_;subst hA)|intro _|(show aA _ 196 _ _ _;first|refine CA (h:=mZ ?_)|refine CA (h:=nE ?_))|(show aA _ 245 _ _ _;refine CA (h:=xG ?_);rw[hn])|(show aA _ 197 _ _ _;refine CA (h:=EN ?_)))
  all_goals(refine aC ?_;exact aB (hK))
theorem B7 (hK:K (.bool (KL d)) (DZ p d::R)):CT 136 #[PO p] (DZ p d::R) K:=by
 obtain⟨se,go,ov,ll,th,cc⟩:=d
 cases ov <;> cases se <;> cases go <;> simp only[DZ,KL,Bool.not_true,Bool.not_false,Bool.and_true,Bool.and_false,Bool.true_and,Bool.false_and] at hK ⊢
 all_goals
  refine aH Tryz.func136 ?_
  repeat' (first|refine J5 ?_|refine w5 ?_ ?_|((refine bh fun h=>?_) <;> try exact w6 h)|(refine aE fun hA=>?_;subst hA)|intro _|(show aA _ 196 _ _ _;first|refine CA (h:=mZ ?_)|refine CA (h:=nE ?_)))
  all_goals(refine aC ?_;exact aB (hK))
theorem F9 (hK:K (.bool (EB d id)) (DZ p d::R)):CT 301 #[PO p,I6 id] (DZ p d::R) K:=by
 obtain⟨se,go,ov,ll,th,cc⟩:=d
 cases ov <;> cases se <;> simp only[DZ,EB,Bool.not_true,Bool.not_false,Bool.and_true,Bool.and_false,Bool.true_and,Bool.false_and,Bool.true_or,Bool.false_or] at hK ⊢
 all_goals
  refine aH Tryz.func301 ?_
  repeat' (first|refine J5 ?_|refine w5 ?_ ?_|((refine bh fun h=>?_) <;> try exact w6 h)|(refine aE fun hA=>?_;subst hA)|intro _|(show aA _ 196 _ _ _;first|refine CA (h:=mZ ?_)|refine CA (h:=nE ?_)))
  all_goals(refine aC ?_;exact aB (hK))
theorem Vy (hK:K (.bool (Ih d id)) (DZ p d::R)):CT 299 #[PO p,I6 id] (DZ p d::R) K:=by
 obtain⟨se,go,ov,ll,th,cc⟩:=d
 cases go <;> simp only[DZ,Ih,Bool.true_and,Bool.false_and] at hK ⊢
 all_goals
  refine aH Tryz.func299 ?_
  repeat' (first|refine v16 ?_|refine w5 ?_ ?_|((refine bh fun h=>?_) <;> try exact w6 h)|(refine aE fun hA=>?_;subst hA)|intro _)
  all_goals(refine aC ?_;exact aB (hK))
theorem Aeu {s:Nat} {se go ov:Bool} {ll th cc:Int} (hK:K (.bool ((se || go) && decide (n<=0))) (pt r [PO p] 116::pt s [I6 n] 3::pt p [.bool se,.bool go,.bool ov,I6 ll,I6 th,I6 cc] 256::R)):CT 195 #[PO r,PO s] (pt r [PO p] 116::pt s [I6 n] 3::pt p [.bool se,.bool go,.bool ov,I6 ll,I6 th,I6 cc] 256::R) K:=by
 cases se <;> cases go <;> simp only[Bool.true_and,Bool.false_and,Bool.true_or,Bool.false_or] at hK
 all_goals
  refine aH Tryz.func195 ?_
  repeat' (first|refine v16 ?_|refine w5 ?_ ?_|((refine bh fun h=>?_) <;> try exact w6 h)|(refine aE fun hA=>?_;subst hA)|intro _)
  all_goals(refine aC ?_;exact aB (hK))
theorem Pz (hK:K (.bool (uF d n).ov) (DZ p (uF d n)::R)):CT 111 #[PO p,I6 n] (DZ p d::R) K:=by
 obtain⟨se,go,ov,ll,th,cc⟩:=d
 cases ov <;> cases se <;> cases go <;> by_cases hn:n<=0 <;> simp only[DZ,uF,hn,if_true,if_false,Bool.false_eq_true,reduceCtorEq,or_true,or_false,true_or,false_or,true_and,false_and,and_true,and_false] at hK ⊢
 all_goals
  refine aH Tryz.func111 ?_
  repeat' (first|refine v58 ?_|refine w5 ?_ ?_|((refine bh fun h=>?_) <;> try exact w6 h)|(refine aE fun hA=>?_;subst hA)|intro _|(show aA _ 196 _ _ _;first|refine CA (h:=mZ ?_)|refine CA (h:=nE ?_))|(show aA _ 195 _ _ _;refine CA (h:=Aeu ?_);simp only[hn,decide_true,decide_false,Bool.or_true,Bool.or_false,Bool.true_or,Bool.false_or,Bool.and_true,Bool.and_false,Bool.true_and,Bool.false_and])|(show aA _ 197 _ _ _;refine CA (h:=EN ?_)))
  all_goals(refine aC ?_;exact aB (hK))
end Go.Proofs.YtepnmcipkangkaaGreat
namespace Go.Proofs.YtepnmcipkangkaaGreat
open Go Go.Proofs Go.Sl
attribute [local irreducible] aN fL cL bM aL aR aA dJ dK aU dI pt ro fC star sep bF
attribute [local irreducible] mp DG
variable {R C:List HP} {K:KP} {id n k most on w low xw all:Int} {l:List (KE Int)} {p q ck j r5 r7:Nat} {x:Bool} {s:eX} {r:Int->Nat} {ks lv:List Int}
def LY:Int->Value:=fun n=>I6 n
def sY (id:Int) (l:List (KE Int)):Int:=(iF id l).getD 0
def NP (n:Int):Int:=max (min n 1024) (-1024)
def JL (id n:Int) (ck:Nat) (l:List (KE Int)):List (KE Int):=if n=0 then nX id l else uU id (NP n) ck l
def Xk (id n:Int) (ck:Nat) (l:List (KE Int)):Nat:=if n=0 then ck else kCk id ck l
def fY (n:Int):Int:=if n<=16 then 1 else(n - 1) / 16+1
theorem Ajr:I0 false (I6 0) (jT id (kM LY l) 0)=I6 (sY id l):=by
 rw[Wu]
 unfold sY
 cases iF id l <;> rfl
theorem Ady (hK:∀p q,K (PO p) (pt p [.map (some q)] 275::mp q (kM LY []) 0::R)):CT 85 #[] R K:=by
 refine aH Tryz.func85 ?_
 repeat' (first|refine v6 ?_|refine w5 ?_ ?_|((refine bh fun h=>?_) <;> try exact w6 h)|(refine aE fun hA=>?_;subst hA)|intro _|(show aN _ _ _ _ _ _ _;refine Fv ?_;intro _))
 all_goals(refine aC ?_;exact aB (hK _ _))
theorem Co (h:0<=n/\n<=100000000) (hK:K (I6 (fY n)) R):CT 193 #[I6 n] R K:=by
 by_cases h1:n<=16
 ·simp only[fY,if_pos h1] at hK
  refine aH Tryz.func193 ?_
  repeat' (first|refine v24 ?_|refine w5 ?_ ?_|((refine bh fun h=>?_) <;> try exact w6 h)|(refine aE fun hA=>?_;subst hA)|intro _)
  all_goals(refine aC ?_;exact aB (hK))
 ·simp only[fY,if_neg h1] at hK
  refine aH Tryz.func193 ?_
  repeat' (first|refine v24 ?_|refine w5 ?_ ?_|((refine bh fun h=>?_) <;> try exact w6 h)|(refine aE fun hA=>?_;subst hA)|intro _)
  all_goals(refine aC ?_;exact aB (hK))
theorem sZ (hK:K (I6 (sY id l)) (pt p [.map (some q)] 275::mp q (kM LY l) ck::R)):CT 278 #[PO p,I6 id] (pt p [.map (some q)] 275::mp q (kM LY l) ck::R) K:=by
 refine aH Tryz.func278 ?_
 repeat' (first|refine v4 ?_|refine w5 ?_ ?_|((refine bh fun h=>?_) <;> try exact w6 h)|(refine aE fun hA=>?_;subst hA)|intro _|(show aN _ _ _ _ _ _ _;refine j0 ?_ (hv:=Ajr)))
 all_goals(refine aC ?_;exact aB (hK))
theorem IZ (hK:K (.tuple #[]) (pt p [.map (some q)] 275::mp q (kM LY (JL id n ck l)) (Xk id n ck l)::R)):CT 279 #[PO p,I6 id,I6 n] (pt p [.map (some q)] 275::mp q (kM LY l) ck::R) K:=by
 by_cases h:n=0
 ·subst h
  simp only[JL,Xk,if_true] at hK
  refine aH Tryz.func279 ?_
  repeat' (first|refine v39 ?_|refine w5 ?_ ?_|((refine bh fun h=>?_) <;> try exact w6 h)|(refine aE fun hA=>?_;subst hA)|intro _|(show aN _ _ _ _ _ _ _;first|refine G_delete ?_ (hv:=Abg)|refine K3 ?_ (hv:=Abg)))
  all_goals(refine aC ?_;exact aB (hK))
 ·simp only[JL,Xk,if_neg h] at hK
  refine aH Tryz.func279 ?_
  repeat' (first|refine v39 ?_|refine w5 ?_ ?_|((refine bh fun h=>?_) <;> try exact w6 h)|(refine aE fun hA=>?_;subst hA)|intro _|(show aN _ _ _ _ _ _ _;refine lN ?_ (hv:=RN (v:=NP n)) (hu:=by exact rfl)))
  all_goals(refine aC ?_;exact aB (hK))
theorem w9 (hk:1<=k/\k<=1024) (hb:-10000<=sY id l/\sY id l<=10000) (hK:K (I6 0) (pt p [.map (some q)] 275::mp q (kM LY (JL id (sY id l - k) ck l)) (Xk id (sY id l - k) ck l)::R)):CT 192 #[PO p,I6 id,I6 k] (pt p [.map (some q)] 275::mp q (kM LY l) ck::R) K:=by
 refine aH Tryz.func192 ?_
 repeat' (first|refine v15 ?_|refine w5 ?_ ?_|((refine bh fun h=>?_) <;> try exact w6 h)|(refine aE fun hA=>?_;subst hA)|intro _|(show aA _ 278 _ _ _;refine CA (h:=sZ ?_))|(show aA _ 279 _ _ _;refine CA (h:=IZ ?_)))
 all_goals(refine aC ?_;exact aB (hK))
theorem Rj (hK:K (.bool (sY id l != 0)) (pt p [.map (some q)] 275::mp q (kM LY (if sY id l=0 then l else nX id l)) ck::R)):CT 351 #[PO p,I6 id] (pt p [.map (some q)] 275::mp q (kM LY l) ck::R) K:=by
 by_cases h:sY id l=0
 ·simp only[h,if_true] at hK
  refine aH Tryz.func351 ?_
  repeat' (first|refine v2 ?_|refine w5 ?_ ?_|((refine bh fun h=>?_) <;> try exact w6 h)|(refine aE fun hA=>?_;subst hA)|intro _|(show aA _ 278 _ _ _;refine CA (h:=sZ ?_);rw[h]))
  all_goals(refine aC ?_;exact aB (hK))
 ·simp only[if_neg h] at hK
  have hb:(sY id l != 0)=true:=by simpa using h
  refine aH Tryz.func351 ?_
  repeat' (first|(show Br _ _ _;refine Br.t hb ?_)|refine v2 ?_|refine w5 ?_ ?_|((refine bh fun h=>?_) <;> try exact w6 h)|(refine aE fun hA=>?_;subst hA)|intro _|(show aA _ 278 _ _ _;refine CA (h:=sZ ?_))|(show aA _ 279 _ _ _;refine CA (h:=IZ ?_);simp only[JL,Xk,if_true]))
  all_goals(refine aC ?_;exact aB (hK))
theorem Eg {n:Nd}:∀ {l:List (KE Nd)} {ck:Nat},Si l ck->Si (uU id n ck l) (kCk id ck l):=fun {l ck} h=>by
 obtain⟨h1,h2⟩:=h
 unfold kCk
 cases hg:(iF id l).isSome
 ·have hg':iF id l=none:=by simpa using hg
  rw[EZ hg',if_neg (by decide)]
  refine⟨?_,fun e he=>?_⟩
  ·rw[List.map_append]
   refine List.nodup_append.2 ⟨h1,by simp,?_⟩
   intro b hb b' hb' he
   obtain⟨z,hz,rfl⟩:=List.mem_map.1 hb
   have:=h2 z hz
   simp at hb'
   omega
  ·rcases List.mem_append.1 he with he|he
   ·have:=h2 e he;omega
   ·rw[List.mem_singleton.1 he];exact Nat.lt_succ_self _
 ·rw[if_pos rfl]
  have key:∀l:List (KE Nd),(iF id l).isSome=true->(uU id n ck l).map KE.b=l.map KE.b:=by
   intro l
   induction l with
   |nil=>intro h;cases h
   |cons e r ih=>
    intro h
    unfold uU
    by_cases hk:id=e.k
    ·rw[if_pos hk];rfl
    ·rw[if_neg hk,List.map_cons,List.map_cons,ih (by unfold iF at h;rwa[if_neg hk] at h)]
  have hb:=key l hg
  refine⟨by rw[hb];exact h1,fun e he=>?_⟩
  have hm:e.b∈l.map KE.b:=by rw[<- hb];exact List.mem_map_of_mem he
  obtain⟨z,hz,hzb⟩:=List.mem_map.1 hm
  rw[<- hzb]
  exact h2 z hz
def j8:List (Nat×Nat):= [(0,0),(1,0),(2,0),(3,0),(4,0),(5,0),(6,0),(7,0),(8,0),(9,0),(10,1)]
theorem xR (hok:Si s.1 s.2) (hl:s.1.length<=100000) (hK:K (.tuple #[]) (pt p [I6 most,.map (some q)] 287::mp q (kM sR (qT id on w x s).1) (qT id on w x s).2::R)):CT 339 #[PO p,I6 id,.agg #[I6 on,I6 w,.bool x]] (pt p [I6 most,.map (some q)] 287::mp q (kM sR s.1) s.2::R) K:=by
 cases x with
 |false=>
  simp only[qT,fR,Bool.false_eq_true,if_false] at hK
  refine aH Tryz.func339 ?_
  repeat' (first|refine v60 ?_|refine dw j8 ?_|refine w5 ?_ ?_|((refine bh fun h=>?_) <;> try exact w6 h)|(refine aE fun hA=>?_;subst hA)|intro _|(show aN _ _ _ _ _ _ _;refine lN ?_ (hv:=RN (enc:=sR) (v:=⟨on,w⟩)) (hu:=by exact rfl)))
  all_goals(refine aC ?_;exact aB (hK))
 |true=>
  simp only[qT,if_true] at hK
  generalize hks:cD on s.1=ks at hK
  have hkl:ks.length<=100000:=by
   rw[<- hks]
   unfold cD
   rw[Bs,List.length_map]
   exact Nat.le_trans (List.length_filter_le _ _) hl
  refine aH Tryz.func339 ?_
  repeat' (first|refine v60 ?_|refine dw j8 ?_|refine w5 ?_ ?_|((refine bh fun h=>?_) <;> try exact w6 h)|(refine aE fun hA=>?_;subst hA)|intro _|(show aA _ 373 _ _ _;refine CA (h:=B5 hok hl (fun A c=>?_));rw[hks]))
  rename_i r5
  refine jA (fun kk a C'=>∃(j:Nat) (s':eX),j+kk=ks.length/\i9 id (ks.drop j) s'=i9 id ks s/\dH a [(0,PO p),(1,I6 id),(5,PO r5),(13,.slice A ks.length c),(14,I6 ks.length),(15,I6 j)]/\C'=bT A c 3 k8 ks::pt r5 [I6 on,I6 w,.bool true] 32::pt p [I6 most,.map (some q)] 287::mp q (kM sR s'.1) s'.2::R) ks.length (cJ ks.length ⟨0,s,by omega,rfl,⟨rfl,rfl,rfl,rfl,rfl,rfl,trivial⟩,rfl⟩ (by omega)) ?_
  rintro kk a C' ⟨j,s',hj,hs,ha,rfl⟩
  refine i6 _ ha ?_
  simp only[gJ]
  by_cases hlt:j<ks.length
  ·obtain⟨k,hk⟩:∃k,ks[j]?=some k:=⟨_,List.getElem?_eq_getElem hlt⟩
   rw[UI hk] at hs
   by_cases he:k=id
   ·subst he
    rw[if_pos rfl] at hs
    repeat' (first|refine v60 ?_|refine dw j8 ?_|refine w5 ?_ ?_|((refine bh fun h=>?_) <;> try exact w6 h)|(refine aE fun hA=>?_;subst hA)|intro _)
    all_goals(show aU _ _ _ _;exact cJ (kk - 1) ⟨j+1,s',by omega,hs,⟨rfl,rfl,rfl,rfl,rfl,rfl,trivial⟩,rfl⟩)
   ·rw[if_neg he] at hs
    repeat' (first|refine v60 ?_|refine dw j8 ?_|refine w5 ?_ ?_|((refine bh fun h=>?_) <;> try exact w6 h)|(refine aE fun hA=>?_;subst hA)|intro _|(show aA _ 357 _ _ _;refine CA (h:=Ge ?_)))
    all_goals(show aU _ _ _ _;exact cJ (kk - 1) ⟨j+1,_,by omega,hs,⟨rfl,rfl,rfl,rfl,rfl,rfl,trivial⟩,rfl⟩)
  ·rw[List.drop_eq_nil_of_le (by omega)] at hs
   have hs:s'=i9 id ks s:=hs
   subst hs
   simp only[fR] at hK
   repeat' (first|refine v60 ?_|refine dw j8 ?_|refine w5 ?_ ?_|((refine bh fun h=>?_) <;> try exact w6 h)|(refine aE fun hA=>?_;subst hA)|intro _|(show aN _ _ _ _ _ _ _;refine lN ?_ (hv:=RN (enc:=sR) (v:=⟨on,w⟩)) (hu:=by exact rfl)))
   all_goals(refine aC ?_;exact aB (hK))
def nV (id on w:Int) (most:Int) (s:eX):Int:=if id<1\/2147483647<id\/Aj on w=false then 2 else if on=id then 12 else if d6 id s.1=true then 8 else if most<=(s.1.length:Nat) then 16 else 0
def oI (id on w:Int) (x:Bool) (most:Int) (s:eX):eX:=if nV id on w most s≠0 then s else if Bf on s=true then qT id 0 w false s else qT id on w x s
def eP:List (Nat×Nat):= [(0,0),(1,0),(2,0),(3,0),(4,0),(5,0),(6,0),(7,0),(8,0),(9,0),(10,0)]
theorem GC (hok:Si s.1 s.2) (hl:s.1.length<=100000) (hm:0<=most/\most<=100000) (hK:K (I6 (nV id on w most s)) (pt p [I6 most,.map (some q)] 287::mp q (kM sR (oI id on w x most s).1) (oI id on w x most s).2::R)):CT 234 #[PO p,I6 id,.agg #[I6 on,I6 w,.bool x]] (pt p [I6 most,.map (some q)] 287::mp q (kM sR s.1) s.2::R) K:=by
 have hkl:(kM sR s.1).length=s.1.length:=by simp[kM]
 by_cases h1:id<1\/2147483647<id
 ·have e:nV id on w most s=2:=by unfold nV;rw[if_pos (by omega)]
  have e2:oI id on w x most s=s:=by unfold oI;rw[e];rfl
  rw[e,e2] at hK
  refine aH Tryz.func234 ?_
  repeat' (first|refine v44 ?_|refine dw eP ?_|refine w5 ?_ ?_|((refine bh fun h=>?_) <;> try exact w6 h)|(refine aE fun hA=>?_;subst hA)|intro _|(show aA _ 337 _ _ _;refine CA (h:=kZ ?_)))
  all_goals(refine aC ?_;exact aB (hK))
 ·cases h2:Aj on w
  ·have e:nV id on w most s=2:=by unfold nV;rw[h2,if_pos (by simp)]
   have e2:oI id on w x most s=s:=by unfold oI;rw[e];rfl
   rw[e,e2] at hK
   refine aH Tryz.func234 ?_
   repeat' (first|refine v44 ?_|refine dw eP ?_|refine w5 ?_ ?_|((refine bh fun h=>?_) <;> try exact w6 h)|(refine aE fun hA=>?_;subst hA)|intro _|(show aA _ 337 _ _ _;refine CA (h:=kZ ?_);rw[h2]))
   all_goals(refine aC ?_;exact aB (hK))
  ·have e1:¬(id<1\/2147483647<id\/Aj on w=false):=by rw[h2];simp;omega
   by_cases h3:on=id
   ·have e:nV id on w most s=12:=by unfold nV;rw[if_neg e1,if_pos h3]
    have e2:oI id on w x most s=s:=by unfold oI;rw[e];rfl
    rw[e,e2] at hK
    refine aH Tryz.func234 ?_
    repeat' (first|refine v44 ?_|refine dw eP ?_|refine w5 ?_ ?_|((refine bh fun h=>?_) <;> try exact w6 h)|(refine aE fun hA=>?_;subst hA)|intro _|(show aA _ 337 _ _ _;refine CA (h:=kZ ?_);rw[h2]))
    all_goals(refine aC ?_;exact aB (hK))
   ·cases h4:d6 id s.1
    ·by_cases h5:most<=(s.1.length:Nat)
     ·have e:nV id on w most s=16:=by unfold nV;rw[if_neg e1,if_neg h3,h4,if_neg (by decide),if_pos h5]
      have e2:oI id on w x most s=s:=by unfold oI;rw[e];rfl
      rw[e,e2] at hK
      refine aH Tryz.func234 ?_
      repeat' (first|(show aN _ _ _ _ _ _ _;refine IA ?_)|refine v44 ?_|refine dw eP ?_|refine w5 ?_ ?_|((refine bh fun h=>?_) <;> try exact w6 h)|(refine aE fun hA=>?_;subst hA)|intro _|(show aA _ 337 _ _ _;refine CA (h:=kZ ?_);rw[h2])|(show aA _ 338 _ _ _;refine CA (h:=fS ?_);rw[h4]))
      all_goals(refine aC ?_;exact aB (hK))
     ·have e:nV id on w most s=0:=by unfold nV;rw[if_neg e1,if_neg h3,h4,if_neg (by decide),if_neg h5]
      cases h6:Bf on s
      ·have e2:oI id on w x most s=qT id on w x s:=by unfold oI;rw[e,h6];rfl
       rw[e,e2] at hK
       refine aH Tryz.func234 ?_
       repeat' (first|(show aN _ _ _ _ _ _ _;refine IA ?_)|refine v44 ?_|refine dw eP ?_|refine w5 ?_ ?_|((refine bh fun h=>?_) <;> try exact w6 h)|(refine aE fun hA=>?_;subst hA)|intro _|(show aA _ 337 _ _ _;refine CA (h:=kZ ?_);rw[h2])|(show aA _ 338 _ _ _;refine CA (h:=fS ?_);rw[h4])|(show aA _ 340 _ _ _;refine CA (h:=BH h6 ?_))|(show aA _ 339 _ _ _;refine CA (h:=xR hok hl ?_)))
       all_goals(refine aC ?_;exact aB (hK))
      ·have e2:oI id on w x most s=qT id 0 w false s:=by unfold oI;rw[e,h6];rfl
       rw[e,e2] at hK
       refine aH Tryz.func234 ?_
       repeat' (first|(show aN _ _ _ _ _ _ _;refine IA ?_)|refine v44 ?_|refine dw eP ?_|refine w5 ?_ ?_|((refine bh fun h=>?_) <;> try exact w6 h)|(refine aE fun hA=>?_;subst hA)|intro _|(show aA _ 337 _ _ _;refine CA (h:=kZ ?_);rw[h2])|(show aA _ 338 _ _ _;refine CA (h:=fS ?_);rw[h4])|(show aA _ 340 _ _ _;refine CA (h:=AX h6 ?_))|(show aA _ 339 _ _ _;refine CA (h:=xR hok hl ?_)))
       all_goals(refine aC ?_;exact aB (hK))
    ·have e:nV id on w most s=8:=by unfold nV;rw[if_neg e1,if_neg h3,h4,if_pos rfl]
     have e2:oI id on w x most s=s:=by unfold oI;rw[e];rfl
     rw[e,e2] at hK
     refine aH Tryz.func234 ?_
     repeat' (first|refine v44 ?_|refine dw eP ?_|refine w5 ?_ ?_|((refine bh fun h=>?_) <;> try exact w6 h)|(refine aE fun hA=>?_;subst hA)|intro _|(show aA _ 337 _ _ _;refine CA (h:=kZ ?_);rw[h2])|(show aA _ 338 _ _ _;refine CA (h:=fS ?_);rw[h4]))
     all_goals(refine aC ?_;exact aB (hK))
def SS (r:Int->Nat) (s:eX):Prop:=∀id,d6 id s.1=true->d6 (dG id s).on s.1=true->r (dG id s).on<r id
def tN (id:Int) (s:eX):Nat->Int->Bool
 |0,_=>false
 |n+1,low=>if d6 low s.1=true then(if(dG low s).on=id then true else tN id s n (dG low s).on) else false
theorem y8 {l:List (KE Nd)} (h:(iF id l).isSome=true):id∈l.map KE.k:=by
 induction l with
 |nil=>cases h
 |cons e r ih=>
  unfold iF at h
  by_cases hk:id=e.k
  ·rw[hk];exact List.mem_cons_self ..
  ·rw[if_neg hk] at h
   exact List.mem_cons_of_mem _ (ih h)
theorem z7 (hr:SS r s) (hK:K (.bool (tN id s (s.1.length+1) low)) (pt p [I6 most,.map (some q)] 287::mp q (kM sR s.1) s.2::R)):CT 356 #[PO p,I6 id,I6 low] (pt p [I6 most,.map (some q)] 287::mp q (kM sR s.1) s.2::R) K:=by
 refine aH Tryz.func356 ?_
 repeat' (first|refine ZR ?_|refine w5 ?_ ?_|((refine bh fun h=>?_) <;> try exact w6 h)|(refine aE fun hA=>?_;subst hA)|intro _)
 refine jA (fun kk a C'=>∃(seen:List Int) (lw:Int),seen.length+kk=s.1.length/\seen.Nodup/\(∀z∈seen,z∈s.1.map KE.k/\(d6 lw s.1=true->r lw<r z))/\tN id s (kk+1) lw=tN id s (s.1.length+1) low/\dH a [(0,PO p),(1,I6 id),(2,I6 lw)]/\C'=pt p [I6 most,.map (some q)] 287::mp q (kM sR s.1) s.2::R) s.1.length (cJ s.1.length ⟨[],low,by simp,List.nodup_nil,(fun z hz=>by cases hz),rfl,⟨rfl,rfl,rfl,trivial⟩,rfl⟩ (by omega)) ?_
 rintro kk a C' ⟨seen,lw,hk,hnd,hse,hab,ha,rfl⟩
 refine i6 _ ha ?_
 simp only[gJ]
 rw[<- hab] at hK
 cases hh:d6 lw s.1
 ·have e:tN id s (kk+1) lw=false:=by unfold tN;rw[hh,if_neg (by decide)]
  rw[e] at hK
  repeat' (first|refine ZR ?_|refine w5 ?_ ?_|((refine bh fun h=>?_) <;> try exact w6 h)|(refine aE fun hA=>?_;subst hA)|intro _|(show aA _ 338 _ _ _;refine CA (h:=fS ?_);rw[hh]))
  all_goals(refine aC ?_;exact aB (hK))
 ·have hns:lw ∉ seen:=fun hm=>by have:=(hse lw hm).2 hh;omega
  have hlk:lw∈s.1.map KE.k:=y8 hh
  have hlen:(lw::seen).length<=(s.1.map KE.k).length:=List.Nodup.length_le_of_subset (List.nodup_cons.2 ⟨hns,hnd⟩) (fun z hz=>by
   rcases List.mem_cons.1 hz with rfl|hz
   ·exact hlk
   ·exact(hse z hz).1)
  rw[List.length_map,List.length_cons] at hlen
  have hnx:∀z∈lw::seen,z∈s.1.map KE.k/\(d6 (dG lw s).on s.1=true->r (dG lw s).on<r z):=fun z hz=>by
   rcases List.mem_cons.1 hz with rfl|hz
   ·exact⟨hlk,fun q=>hr _ hh q⟩
   ·exact⟨(hse z hz).1,fun q=>Nat.lt_trans (hr _ hh q) ((hse z hz).2 hh)⟩
  by_cases ho:(dG lw s).on=id
  ·have e:tN id s (kk+1) lw=true:=by unfold tN;rw[hh,if_pos rfl,if_pos ho]
   rw[e] at hK
   simp only[dG] at ho
   repeat' (first|refine ZR ?_|refine w5 ?_ ?_|((refine bh fun h=>?_) <;> try exact w6 h)|(refine aE fun hA=>?_;subst hA)|intro _|(show aA _ 338 _ _ _;refine CA (h:=fS ?_);rw[hh])|(show aN _ _ _ _ _ _ _;first|(refine j0 ?_ (hv:=rG);simp only[sR])|refine fU ?_))
   all_goals(refine aC ?_;exact aB (hK))
  ·have e:tN id s (kk+1) lw=tN id s kk (dG lw s).on:=by
    conv=>lhs;unfold tN
    rw[hh,if_pos rfl,if_neg ho]
   have ho':=ho
   simp only[dG] at ho'
   obtain⟨k1,rfl⟩:∃k1,kk=k1+1:=⟨kk - 1,by omega⟩
   repeat' (first|refine ZR ?_|refine w5 ?_ ?_|((refine bh fun h=>?_) <;> try exact w6 h)|(refine aE fun hA=>?_;subst hA)|intro _|(show aA _ 338 _ _ _;refine CA (h:=fS ?_);rw[hh])|(show aN _ _ _ _ _ _ _;first|(refine j0 ?_ (hv:=rG);simp only[sR])|refine fU ?_))
   all_goals(show aU _ _ _ _;exact cJ k1 ⟨lw::seen,(dG lw s).on,by rw[List.length_cons];omega,List.nodup_cons.2 ⟨hns,hnd⟩,hnx,by rw[<- hab,e],⟨rfl,rfl,rfl,trivial⟩,rfl⟩)
def rC (id on w:Int) (s:eX):Int:=if d6 id s.1=false then 7 else if Aj on w=false then 2 else if on=id then 12 else 0
def lO (id on w:Int) (x:Bool) (s:eX):eX:=if rC id on w s≠0 then s else if Bf on s=true then(if tN id s (s.1.length+1) 0=true then qT id 0 w false (jJ 0 (dG id s).on s) else qT id 0 w false s) else(if tN id s (s.1.length+1) on=true then qT id on w x (jJ on (dG id s).on s) else qT id on w x s)
theorem J3 (h:Si s.1 s.2):Si (jJ id on s).1 (jJ id on s).2:=Eg h
theorem H5 {id:Int} {n:Nd} {ck:Nat}:∀l:List (KE Nd),(uU id n ck l).length<=l.length+1
 | []=>Nat.le_refl _
 |e::r=>by
  unfold uU
  split
  ·simp
  ·have:=H5 (id:=id) (n:=n) (ck:=ck) r
   simp only[List.length_cons]
   omega
theorem PU:(jJ id on s).1.length<=s.1.length+1:=H5 _
def eY:List (Nat×Nat):= [(3,0),(4,0),(5,0),(6,0),(7,0),(8,1),(0,1),(1,1),(2,1),(9,0),(10,1)]
theorem LR (hok:Si s.1 s.2) (hl:s.1.length<=1000) (hr:SS r s) (hK:K (I6 (rC id on w s)) (pt p [I6 most,.map (some q)] 287::mp q (kM sR (lO id on w x s).1) (lO id on w x s).2::R)):CT 249 #[PO p,I6 id,.agg #[I6 on,I6 w,.bool x]] (pt p [I6 most,.map (some q)] 287::mp q (kM sR s.1) s.2::R) K:=by
 cases h1:d6 id s.1
 ·have e:rC id on w s=7:=by unfold rC;rw[h1,if_pos rfl]
  have e2:lO id on w x s=s:=by unfold lO;rw[e];rfl
  rw[e,e2] at hK
  refine aH Tryz.func249 ?_
  repeat' (first|refine Sn ?_|refine dw eY ?_|refine w5 ?_ ?_|((refine bh fun h=>?_) <;> try exact w6 h)|(refine aE fun hA=>?_;subst hA)|intro _|(show aA _ 338 _ _ _;refine CA (h:=fS ?_);rw[h1]))
  all_goals(refine aC ?_;exact aB (hK))
 ·cases h2:Aj on w
  ·have e:rC id on w s=2:=by unfold rC;rw[h1,if_neg (by decide),h2,if_pos rfl]
   have e2:lO id on w x s=s:=by unfold lO;rw[e];rfl
   rw[e,e2] at hK
   refine aH Tryz.func249 ?_
   repeat' (first|refine Sn ?_|refine dw eY ?_|refine w5 ?_ ?_|((refine bh fun h=>?_) <;> try exact w6 h)|(refine aE fun hA=>?_;subst hA)|intro _|(show aA _ 338 _ _ _;refine CA (h:=fS ?_);rw[h1])|(show aA _ 337 _ _ _;refine CA (h:=kZ ?_);rw[h2]))
   all_goals(refine aC ?_;exact aB (hK))
  ·by_cases h3:on=id
   ·have e:rC id on w s=12:=by unfold rC;rw[h1,if_neg (by decide),h2,if_neg (by decide),if_pos h3]
    have e2:lO id on w x s=s:=by unfold lO;rw[e];rfl
    rw[e,e2] at hK
    refine aH Tryz.func249 ?_
    repeat' (first|refine Sn ?_|refine dw eY ?_|refine w5 ?_ ?_|((refine bh fun h=>?_) <;> try exact w6 h)|(refine aE fun hA=>?_;subst hA)|intro _|(show aA _ 338 _ _ _;refine CA (h:=fS ?_);rw[h1])|(show aA _ 337 _ _ _;refine CA (h:=kZ ?_);rw[h2]))
    all_goals(refine aC ?_;exact aB (hK))
   ·have e:rC id on w s=0:=by unfold rC;rw[h1,if_neg (by decide),h2,if_neg (by decide),if_neg h3]
    cases h4:Bf on s
    ·cases h5:tN id s (s.1.length+1) on
     ·have e2:lO id on w x s=qT id on w x s:=by unfold lO;rw[e,h4,h5];rfl
      rw[e,e2] at hK
      refine aH Tryz.func249 ?_
      repeat' (first|refine Sn ?_|refine dw eY ?_|refine w5 ?_ ?_|((refine bh fun h=>?_) <;> try exact w6 h)|(refine aE fun hA=>?_;subst hA)|intro _|(show aA _ 338 _ _ _;refine CA (h:=fS ?_);rw[h1])|(show aA _ 337 _ _ _;refine CA (h:=kZ ?_);rw[h2])|(show aA _ 340 _ _ _;refine CA (h:=BH h4 ?_))|(show aA _ 356 _ _ _;refine CA (h:=z7 hr ?_);rw[h5])|(show aA _ 339 _ _ _;refine CA (h:=xR hok (by omega) ?_)))
      all_goals(refine aC ?_;exact aB (hK))
     ·have e2:lO id on w x s=qT id on w x (jJ on (dG id s).on s):=by unfold lO;rw[e,h4,h5];rfl
      have hgl:=PU (s:=s) (id:=on) (on:=(dG id s).on)
      rw[e,e2] at hK
      refine aH Tryz.func249 ?_
      repeat' (first|refine Sn ?_|refine dw eY ?_|refine w5 ?_ ?_|((refine bh fun h=>?_) <;> try exact w6 h)|(refine aE fun hA=>?_;subst hA)|intro _|(show aA _ 338 _ _ _;refine CA (h:=fS ?_);rw[h1])|(show aA _ 337 _ _ _;refine CA (h:=kZ ?_);rw[h2])|(show aA _ 340 _ _ _;refine CA (h:=BH h4 ?_))|(show aA _ 356 _ _ _;refine CA (h:=z7 hr ?_);rw[h5])|(show aA _ 357 _ _ _;refine CA (h:=Ge (on:=(dG id s).on) ?_))|(show aA _ 339 _ _ _;refine CA (h:=xR (J3 hok) (by omega) ?_))|(show aN _ _ _ _ _ _ _;first|(refine j0 ?_ (hv:=rG);simp only[sR])|refine fU ?_))
      all_goals(refine aC ?_;exact aB (hK))
    ·cases h5:tN id s (s.1.length+1) 0
     ·have e2:lO id on w x s=qT id 0 w false s:=by unfold lO;rw[e,h4,h5];rfl
      rw[e,e2] at hK
      refine aH Tryz.func249 ?_
      repeat' (first|refine Sn ?_|refine dw eY ?_|refine w5 ?_ ?_|((refine bh fun h=>?_) <;> try exact w6 h)|(refine aE fun hA=>?_;subst hA)|intro _|(show aA _ 338 _ _ _;refine CA (h:=fS ?_);rw[h1])|(show aA _ 337 _ _ _;refine CA (h:=kZ ?_);rw[h2])|(show aA _ 340 _ _ _;refine CA (h:=AX h4 ?_))|(show aA _ 356 _ _ _;refine CA (h:=z7 hr ?_);rw[h5])|(show aA _ 339 _ _ _;refine CA (h:=xR hok (by omega) ?_)))
      all_goals(refine aC ?_;exact aB (hK))
     ·have e2:lO id on w x s=qT id 0 w false (jJ 0 (dG id s).on s):=by unfold lO;rw[e,h4,h5];rfl
      have hgl:=PU (s:=s) (id:=0) (on:=(dG id s).on)
      rw[e,e2] at hK
      refine aH Tryz.func249 ?_
      repeat' (first|refine Sn ?_|refine dw eY ?_|refine w5 ?_ ?_|((refine bh fun h=>?_) <;> try exact w6 h)|(refine aE fun hA=>?_;subst hA)|intro _|(show aA _ 338 _ _ _;refine CA (h:=fS ?_);rw[h1])|(show aA _ 337 _ _ _;refine CA (h:=kZ ?_);rw[h2])|(show aA _ 340 _ _ _;refine CA (h:=AX h4 ?_))|(show aA _ 356 _ _ _;refine CA (h:=z7 hr ?_);rw[h5])|(show aA _ 357 _ _ _;refine CA (h:=Ge (on:=(dG id s).on) ?_))|(show aA _ 339 _ _ _;refine CA (h:=xR (J3 hok) (by omega) ?_))|(show aN _ _ _ _ _ _ _;first|(refine j0 ?_ (hv:=rG);simp only[sR])|refine fU ?_))
      all_goals(refine aC ?_;exact aB (hK))
def TrW (s:eX):Prop:=∀id,d6 id s.1=true->1<=(dG id s).w/\(dG id s).w<=256
def OL (s:eX):Prop:=(s.1.map KE.k).Nodup
def rK (s:eX):List Int->Int
 | []=>0
 |k::r=>(dG k s).w+rK s r
def D9 (w xw all:Int):Int:=max 1 (w * xw / all)
def qX (on xw all:Int):List Int->eX->eX
 | [],s=>s
 |k::r,s=>qX on xw all r (fR k ⟨on,D9 (dG k s).w xw all⟩ s)
def Ar (id:Int) (s:eX):eX:=if d6 id s.1=true then(nX id (qX (dG id s).on (dG id s).w (rK s (cD id s.1)) (cD id s.1) s).1,(qX (dG id s).on (dG id s).w (rK s (cD id s.1)) (cD id s.1) s).2) else s
theorem Bz {l:List Int}:k∈N1 l↔k∈l:=(List.mergeSort_perm l _).mem_iff
theorem WP {l:List Int} (h:l.Nodup):(N1 l).Nodup:=(List.mergeSort_perm l _).nodup_iff.2 h
theorem Cd (h:OL s):(cD id s.1).Nodup:=WP (List.Nodup.sublist ((List.filter_sublist ..).map _) h)
theorem L9 {e:KE Nd}:∀ {l:List (KE Nd)},(l.map KE.k).Nodup->e∈l->iF e.k l=some e.v
 | [],_,h=>by cases h
 |z::r,hnd,h=>by
  rw[List.map_cons] at hnd
  obtain⟨h1,h2⟩:=List.nodup_cons.1 hnd
  unfold iF
  rcases List.mem_cons.1 h with rfl|h
  ·rw[if_pos rfl]
  ·rw[if_neg (fun q=>h1 (by rw[<- q];exact List.mem_map_of_mem h)),L9 h2 h]
theorem lW (h:OL s) (hk:k∈cD id s.1):d6 k s.1=true/\(dG k s).on=id:=by
 unfold cD at hk
 rw[Bz] at hk
 obtain⟨e,he,rfl⟩:=List.mem_map.1 hk
 obtain⟨h1,h2⟩:=List.mem_filter.1 he
 have:=L9 h h1
 exact⟨by unfold d6;rw[this];rfl,by unfold dG;rw[this];simpa using h2⟩
theorem II {j:Int} {n:Nd}:dG j (fR id n s)=if j=id then n else dG j s:=by
 unfold dG fR
 simp only
 rw[Jl]
 split <;> rfl
theorem Ip {s:eX} (h:TrW s):∀ {l:List Int},(∀k∈l,d6 k s.1=true)->(l.length:Int)<=rK s l/\rK s l<=256 * l.length
 | [],_=>by simp[rK]
 |k::r,hh=>by
  have h1:=h k (hh k (List.mem_cons_self ..))
  have h2:=Ip h (l:=r) fun z hz=>hh z (List.mem_cons_of_mem _ hz)
  simp only[rK,List.length_cons]
  omega
theorem Z0 (h:ks[j]?=some k):rK s (ks.drop j)=(dG k s).w+rK s (ks.drop (j+1)):=by
 have hj:=(List.getElem?_eq_some_iff.1 h).1
 rw[List.drop_eq_getElem_cons hj,(List.getElem?_eq_some_iff.1 h).2]
 rfl
theorem Adg (h:ks[j]?=some k):qX on xw all (ks.drop j) s=qX on xw all (ks.drop (j+1)) (fR k ⟨on,D9 (dG k s).w xw all⟩ s):=by
 have hj:=(List.getElem?_eq_some_iff.1 h).1
 rw[List.drop_eq_getElem_cons hj,(List.getElem?_eq_some_iff.1 h).2]
 rfl
theorem SL (hw:0<=w/\w<=100000) (hx:0<=xw/\xw<=100000) (ha:0<all) (hK:K (I6 (D9 w xw all)) (pt r5 [I6 on,I6 xw] 410::pt r7 [I6 all] 3::R)):CT 423 #[I6 w,PO r5,PO r7] (pt r5 [I6 on,I6 xw] 410::pt r7 [I6 all] 3::R) K:=by
 have h1:0<=w * xw:=Int.mul_nonneg hw.1 hx.1
 have h2:w * xw<=100000 * 100000:=Int.mul_le_mul hw.2 hx.2 hx.1 (by omega)
 have hq1:0<=w * xw / all:=Int.ediv_nonneg h1 (by omega)
 have hq2:w * xw / all<=w * xw:=Int.ediv_le_self all h1
 have hm:IntKind.wrap .i64 (w * xw / all)=w * xw / all:=vM (by omega) (by omega)
 refine aH Tryz.func423 ?_
 repeat' (first|refine v43 ?_|refine w5 ?_ ?_|((refine bh fun h=>?_) <;> try exact w6 h)|(refine aE fun hA=>?_;subst hA)|intro _)
 all_goals(refine aC ?_;exact aB (hK))
def fH:List (Nat×Nat):= [(1,0),(2,0),(3,0),(4,0),(5,0),(6,1),(0,1),(7,0),(8,0),(9,1)]
def fI:List (Nat×Nat):= [(8,0),(9,0),(10,0),(11,0),(12,0),(13,1),(7,1),(14,0),(15,1),(0,2),(1,2),(2,2),(3,2),(4,2),(5,2),(6,2),(16,0),(17,1)]
theorem O6 (hok:Si s.1 s.2) (hl:s.1.length<=1000) (hw:TrW s) (hn:OL s) (hK:∀v,K v (pt p [I6 most,.map (some q)] 287::mp q (kM sR (Ar id s).1) (Ar id s).2::R)):CT 350 #[PO p,I6 id] (pt p [I6 most,.map (some q)] 287::mp q (kM sR s.1) s.2::R) K:=by
 cases h1:d6 id s.1
 ·have e:Ar id s=s:=by unfold Ar;rw[h1,if_neg (by decide)]
  rw[e] at hK
  refine aH Tryz.func350 ?_
  repeat' (first|refine ZQ ?_|refine dw fH ?_|refine dw fI ?_|refine w5 ?_ ?_|((refine bh fun h=>?_) <;> try exact w6 h)|(refine aE fun hA=>?_;subst hA)|intro _|(show aA _ 338 _ _ _;refine CA (h:=fS ?_);rw[h1]))
  all_goals(refine aC ?_;exact aB (hK _))
 ·have hx:=hw id h1
  have hnd:=Cd (id:=id) hn
  have hkh:∀k∈cD id s.1,d6 k s.1=true:=fun k hk=>(lW hn hk).1
  have hkl:(cD id s.1).length<=1000:=by
   unfold cD
   rw[Bs,List.length_map]
   exact Nat.le_trans (List.length_filter_le _ _) hl
  have hal:=Ip hw hkh
  have e:Ar id s=(nX id (qX (dG id s).on (dG id s).w (rK s (cD id s.1)) (cD id s.1) s).1,(qX (dG id s).on (dG id s).w (rK s (cD id s.1)) (cD id s.1) s).2):=by unfold Ar;rw[h1,if_pos rfl]
  rw[e] at hK
  have hxe:(iF id s.1).getD ⟨0,0⟩=dG id s:=rfl
  generalize hks:cD id s.1=ks at hK hnd hkh hkl hal
  generalize hxo:dG id s=X at hK hx hxe
  generalize hA:rK s ks=AL at hK hal
  refine aH Tryz.func350 ?_
  repeat' (first|refine ZQ ?_|refine dw fH ?_|refine dw fI ?_|refine w5 ?_ ?_|((refine bh fun h=>?_) <;> try exact w6 h)|(refine aE fun hA=>?_;subst hA)|intro _|(show aA _ 338 _ _ _;refine CA (h:=fS ?_);rw[h1])|(show aN _ _ _ _ _ _ _;first|(refine j0 ?_ (hv:=rG);simp only[sR];rw[hxe])|refine fU ?_)|(show aA _ 373 _ _ _;refine CA (h:=B5 hok (by omega) (fun A c=>?_));rw[hks]))
  rename_i r5 r7
  refine jA (fun kk a C'=>∃(j:Nat) (acc:Int),j+kk=ks.length/\acc+rK s (ks.drop j)=AL/\0<=acc/\acc<=256 * j/\dH a [(0,PO p),(1,I6 id),(5,PO r5),(6,.slice A ks.length c),(7,PO r7),(30,.slice A ks.length c),(31,I6 ks.length),(32,I6 j)]/\C'=pt r7 [I6 acc] 3::bT A c 3 k8 ks::pt p [I6 most,.map (some q)] 287::mp q (kM sR s.1) s.2::pt r5 [I6 X.on,I6 X.w] 410::R) ks.length (cJ ks.length ⟨0,0,by omega,by rw[List.drop_zero,hA];omega,by omega,by omega,⟨rfl,rfl,rfl,rfl,rfl,rfl,rfl,rfl,trivial⟩,rfl⟩ (by omega)) ?_
  rintro kk a C' ⟨j,acc,hj,hac,h0,h2,ha,rfl⟩
  refine i6 _ ha ?_
  simp only[gJ]
  by_cases hlt:j<ks.length
  ·obtain⟨k,hk⟩:∃k,ks[j]?=some k:=⟨_,List.getElem?_eq_getElem hlt⟩
   have hk':ks[((j:Nat):Int).toNat]?=some k:=by rw[Int.toNat_natCast];exact hk
   have hkw:=hw k (hkh k (List.mem_of_getElem? hk))
   rw[Z0 hk] at hac
   have hke:(iF k s.1).getD ⟨0,0⟩=dG k s:=rfl
   repeat' (first|refine ZQ ?_|refine dw fH ?_|refine dw fI ?_|refine w5 ?_ ?_|((refine bh fun h=>?_) <;> try exact w6 h)|(refine aE fun hA=>?_;subst hA)|intro _|(show aN _ _ _ _ _ _ _;first|(refine j0 ?_ (hv:=rG);simp only[sR];rw[hke])|refine fU ?_))
   all_goals(show aU _ _ _ _;exact cJ (kk - 1) ⟨j+1,acc+(dG k s).w,by omega,by omega,by omega,by omega,⟨rfl,rfl,rfl,rfl,rfl,rfl,rfl,rfl,trivial⟩,rfl⟩)
  ·have hd:ks.drop j= []:=List.drop_eq_nil_of_le (by omega)
   rw[hd] at hac
   simp only[rK] at hac
   obtain rfl:acc=AL:=by omega
   repeat' (first|refine ZQ ?_|refine dw fH ?_|refine dw fI ?_|refine w5 ?_ ?_|((refine bh fun h=>?_) <;> try exact w6 h)|(refine aE fun hA=>?_;subst hA)|intro _)
   refine jA (fun kk a C'=>∃(j:Nat) (s':eX),j+kk=ks.length/\qX X.on X.w acc (ks.drop j) s'=qX X.on X.w acc ks s/\(∀k∈ks.drop j,dG k s'=dG k s)/\dH a [(0,PO p),(1,I6 id),(5,PO r5),(7,PO r7),(10,.func (.func 423) #[] #[PO r5,PO r7]),(47,.slice A ks.length c),(48,I6 ks.length),(49,I6 j)]/\C'=pt r7 [I6 acc] 3::bT A c 3 k8 ks::pt p [I6 most,.map (some q)] 287::mp q (kM sR s'.1) s'.2::pt r5 [I6 X.on,I6 X.w] 410::R) ks.length (cJ ks.length ⟨0,s,by omega,rfl,(fun _ _=>rfl),⟨rfl,rfl,rfl,rfl,rfl,rfl,rfl,rfl,trivial⟩,rfl⟩ (by omega)) ?_
   rintro kk a C' ⟨j,s',hj,hs',hsame,ha,rfl⟩
   refine i6 _ ha ?_
   simp only[gJ]
   by_cases hlt:j<ks.length
   ·obtain⟨k,hk⟩:∃k,ks[j]?=some k:=⟨_,List.getElem?_eq_getElem hlt⟩
    have hk':ks[((j:Nat):Int).toNat]?=some k:=by rw[Int.toNat_natCast];exact hk
    have hkw:=hw k (hkh k (List.mem_of_getElem? hk))
    have hdr:ks.drop j=k::ks.drop (j+1):=by rw[List.drop_eq_getElem_cons hlt,(List.getElem?_eq_some_iff.1 hk).2]
    have hks':=hsame k (by rw[hdr];exact List.mem_cons_self ..)
    rw[Adg hk] at hs'
    have hnk:k ∉ ks.drop (j+1):=by
     have:=List.Nodup.sublist (List.drop_sublist j ks) hnd
     rw[hdr] at this
     exact(List.nodup_cons.1 this).1
    have hsm:∀z∈ks.drop (j+1),dG z (fR k ⟨X.on,D9 (dG k s').w X.w acc⟩ s')=dG z s:=fun z hz=>by
     rw[II,if_neg (fun e:z=k=>hnk (e▸hz))]
     exact hsame z (by rw[hdr];exact List.mem_cons_of_mem _ hz)
    have hke:(iF k s'.1).getD ⟨0,0⟩=dG k s':=rfl
    rw[<- hks'] at hkw
    simp only[fR] at hs' hsm
    repeat' (first|refine ZQ ?_|refine dw fH ?_|refine dw fI ?_|refine w5 ?_ ?_|((refine bh fun h=>?_) <;> try exact w6 h)|(refine aE fun hA=>?_;subst hA)|intro _|(show aN _ _ _ _ _ _ _;first|(refine j0 ?_ (hv:=rG);simp only[sR];rw[hke])|refine fU ?_|refine lN ?_ (hv:=RN (enc:=sR) (v:=⟨X.on,D9 (dG k s').w X.w acc⟩)) (hu:=by exact rfl))|(show aA _ 423 _ _ _;refine CA (h:=SL (by omega) (by omega) (by omega) ?_)))
    all_goals(show aU _ _ _ _;exact cJ (kk - 1) ⟨j+1,_,by omega,hs',hsm,⟨rfl,rfl,rfl,rfl,rfl,rfl,rfl,rfl,trivial⟩,rfl⟩)
   ·have hd:ks.drop j= []:=List.drop_eq_nil_of_le (by omega)
    rw[hd] at hs'
    simp only[qX] at hs'
    subst hs'
    repeat' (first|refine ZQ ?_|refine dw fH ?_|refine dw fI ?_|refine w5 ?_ ?_|((refine bh fun h=>?_) <;> try exact w6 h)|(refine aE fun hA=>?_;subst hA)|intro _|(show aN _ _ _ _ _ _ _;first|refine G_delete ?_ (hv:=Abg)|refine K3 ?_ (hv:=Abg)))
    all_goals(refine aC ?_;exact aB (hK _))
def Kn (s:eX) (lv:List Int):List Int:=N1 (lv.flatMap fun k=>cD k s.1)
def Av (s:eX):Nat->List Int->List Int
 |0,_=> []
 |n+1,lv=>if lv= [] then [] else lv++Av s n (Kn s lv)
def eI (s:eX):List Int:=Av s (s.1.length+1) (cD 0 s.1)
theorem u2 {s:eX} (h:OL s):∀ {lv:List Int},lv.Nodup->(lv.flatMap fun k=>cD k s.1).Nodup
 | [],_=>List.nodup_nil
 |k::r,hn=>by
  obtain⟨h1,h2⟩:=List.nodup_cons.1 hn
  rw[List.flatMap_cons]
  refine List.nodup_append.2 ⟨Cd h,u2 h h2,?_⟩
  intro a ha b hb e
  subst e
  obtain⟨z,hz,hzb⟩:=List.mem_flatMap.1 hb
  have e1:=(lW h ha).2
  have e2:=(lW h hzb).2
  exact h1 (by rw[<- e1,e2];exact hz)
theorem Aha {l:List Int} (h:∀k∈l,d6 k s.1=true):∀k∈l,k∈s.1.map KE.k:=fun k hk=>y8 (h k hk)
theorem IQ {l:List Int} (hn:l.Nodup) (h:∀k∈l,d6 k s.1=true):l.length<=s.1.length:=by
 have:=List.Nodup.length_le_of_subset hn (Aha h)
 rwa[List.length_map] at this
theorem BN (h:OL s):∀y∈lv.flatMap fun k=>cD k s.1,d6 y s.1=true/\(dG y s).on∈lv:=fun y hy=>by
 obtain⟨k,hk,hy⟩:=List.mem_flatMap.1 hy
 obtain⟨h1,h2⟩:=lW h hy
 exact⟨h1,by rw[h2];exact hk⟩
def Afg (s:eX) (r:Int->Nat) (n:Nat) (lv:List Int):Prop:=∀x∈lv,d6 x s.1=true/\∃c:List Int,c.Nodup/\c.length=n/\∀z∈c,d6 z s.1=true/\r z<r x
theorem Aph {n:Nat} (hr:SS r s) (hk:OL s) (h:Afg s r n lv):Afg s r (n+1) (Kn s lv):=fun y hy=>by
 unfold Kn at hy
 rw[Bz] at hy
 obtain⟨h1,h2⟩:=BN hk y hy
 obtain⟨h3,c,h4,h5,h6⟩:=h _ h2
 have h7:=hr y h1 h3
 refine⟨h1,(dG y s).on::c,List.nodup_cons.2 ⟨fun q=>by have:=(h6 _ q).2;omega,h4⟩,by rw[List.length_cons,h5],fun z hz=>?_⟩
 rcases List.mem_cons.1 hz with rfl|hz
 ·exact⟨h3,h7⟩
 ·exact⟨(h6 z hz).1,Nat.lt_trans (h6 z hz).2 h7⟩
theorem Apx {n:Nat} (h:Afg s r n lv) (hn:lv≠ []):n<s.1.length:=by
 obtain⟨x,hx⟩:=List.exists_mem_of_ne_nil lv hn
 obtain⟨h1,c,h2,h3,h4⟩:=h x hx
 have:=IQ (s:=s) (l:=x::c) (List.nodup_cons.2 ⟨fun q=>by have:=(h4 _ q).2;omega,h2⟩) (fun z hz=>by
  rcases List.mem_cons.1 hz with rfl|hz
  ·exact h1
  ·exact(h4 z hz).1)
 rw[List.length_cons,h3] at this
 exact this
theorem Al3 (hk:OL s) (h:lv.Nodup):(Kn s lv).Nodup:=WP (u2 hk h)
theorem SV (hok:Si s.1 s.2) (hl:s.1.length<=1000) (hn:OL s) (hr:SS r s) (hK:∀B d,K (.slice B (eI s).length d) (bT B d 3 k8 (eI s)::pt p [I6 most,.map (some q)] 287::mp q (kM sR s.1) s.2::R)):CT 280 #[PO p] (pt p [I6 most,.map (some q)] 287::mp q (kM sR s.1) s.2::R) K:=by
 have hc0:Afg s r 0 (cD 0 s.1):=fun x hx=>⟨(lW hn hx).1,[],List.nodup_nil,rfl,fun z hz=>by cases hz⟩
 refine aH Tryz.func280 ?_
 repeat' (first|refine v45 ?_|refine w5 ?_ ?_|((refine bh fun h=>?_) <;> try exact w6 h)|(refine aE fun hA=>?_;subst hA)|intro _|(show aA _ 373 _ _ _;refine CA (h:=B5 hok (by omega) (fun A c=>?_))))
 refine o7 (aG.nilrow 3 k8 _) ?_
 refine jA (fun kk a C'=>∃(n:Nat) (acc lv:List Int) (A:Option Addr) (c:Nat) (B:Option Addr) (d:Nat),n+kk=s.1.length/\acc++Av s (kk+1) lv=eI s/\acc.length<=1000 * n/\lv.Nodup/\Afg s r n lv/\dH a [(0,PO p),(3,.slice B acc.length d),(4,.slice A lv.length c)]/\C'=bT B d 3 k8 acc::bT A c 3 k8 lv::pt p [I6 most,.map (some q)] 287::mp q (kM sR s.1) s.2::R) s.1.length (cJ s.1.length ⟨0,[],_,A,c,none,0,by omega,rfl,by simp,Cd hn,hc0,⟨rfl,rfl,rfl,trivial⟩,rfl⟩ (by omega)) ?_
 rintro kk a C' ⟨n,acc,lv,A,c,B,d,hk,hac,hal,hnd,hch,ha,rfl⟩
 refine i6 _ ha ?_
 simp only[gJ]
 by_cases h0:lv= []
 ·subst h0
  have e:Av s (kk+1) []= []:=by unfold Av;rw[if_pos rfl]
  rw[e,List.append_nil] at hac
  subst hac
  repeat' (first|refine v45 ?_|refine w5 ?_ ?_|((refine bh fun h=>?_) <;> try exact w6 h)|(refine aE fun hA=>?_;subst hA)|intro _)
  all_goals(refine aC ?_;exact aB (hK _ _))
 ·have hlt:=Apx hch h0
  have e:Av s (kk+1) lv=lv++Av s kk (Kn s lv):=by
   conv=>lhs;unfold Av
   rw[if_neg h0]
  rw[e,<- List.append_assoc] at hac
  have hll:lv.length<=s.1.length:=IQ hnd fun k hk=>(hch k hk).1
  have hl0:0<lv.length:=List.length_pos_iff.2 h0
  have hn1:1000 * n<=1000 * 1000:=Nat.mul_le_mul_left _ (by omega)
  repeat' (first|(show aN _ _ _ _ _ _ _;(refine dD (E:=k8) (xs:=acc) (ys:=lv) ?_;intro B2 d2))|refine v45 ?_|refine w5 ?_ ?_|((refine bh fun h=>?_) <;> try exact w6 h)|(refine aE fun hA=>?_;subst hA)|intro _)
  refine o7 (aG.nilrow 3 k8 _) ?_
  refine jA (fun k2 a C'=>∃(j:Nat) (N:Option Addr) (e:Nat),j+k2=lv.length/\dH a [(0,PO p),(3,.slice B2 (acc++lv).length d2),(5,.slice N ((lv.take j).flatMap fun k=>cD k s.1).length e),(16,.slice A lv.length c),(17,I6 lv.length),(18,I6 j)]/\C'=bT N e 3 k8 ((lv.take j).flatMap fun k=>cD k s.1)::bT B2 d2 3 k8 (acc++lv)::bT A c 3 k8 lv::pt p [I6 most,.map (some q)] 287::mp q (kM sR s.1) s.2::R) lv.length (cJ lv.length ⟨0,none,0,by omega,⟨rfl,rfl,rfl,rfl,rfl,rfl,trivial⟩,rfl⟩ (by omega)) ?_
  rintro k2 a2 C' ⟨j,N,e2,hj,ha,rfl⟩
  refine i6 _ ha ?_
  simp only[gJ]
  by_cases hlt2:j<lv.length
  ·obtain⟨k,hkj⟩:∃k,lv[j]?=some k:=⟨_,List.getElem?_eq_getElem hlt2⟩
   have hk':lv[((j:Nat):Int).toNat]?=some k:=by rw[Int.toNat_natCast];exact hkj
   have hfl:((lv.take j).flatMap fun k=>cD k s.1).length<=1000:=Nat.le_trans (IQ (u2 hn (List.Nodup.sublist (List.take_sublist ..) hnd)) fun y hy=>(BN hn y hy).1) hl
   have hkl:(cD k s.1).length<=1000:=by
    unfold cD
    rw[Bs,List.length_map]
    exact Nat.le_trans (List.length_filter_le _ _) hl
   have hnx:((lv.take j).flatMap fun k=>cD k s.1)++cD k s.1=(lv.take (j+1)).flatMap fun k=>cD k s.1:=by rw[List.take_add_one,hkj];simp
   repeat' (first|(show aN _ _ _ _ _ _ _;(refine dD (E:=k8) (xs:=(lv.take j).flatMap fun k=>cD k s.1) (ys:=cD k s.1) ?_;intro N2 e3))|refine v45 ?_|refine w5 ?_ ?_|((refine bh fun h=>?_) <;> try exact w6 h)|(refine aE fun hA=>?_;subst hA)|intro _|(show aA _ 373 _ _ _;refine CA (h:=B5 hok (by omega) (fun A3 c3=>?_))))
   all_goals rw[hnx]
   all_goals(show aU _ _ _ _;exact cJ (k2 - 1) ⟨j+1,_,_,by omega,⟨rfl,rfl,rfl,rfl,rfl,rfl,trivial⟩,rfl⟩)
  ·have hjl:lv.take j=lv:=List.take_of_length_le (by omega)
   rw[hjl]
   have hfl:(lv.flatMap fun k=>cD k s.1).length<=1000:=Nat.le_trans (IQ (u2 hn hnd) fun y hy=>(BN hn y hy).1) hl
   have hsl:(Kn s lv).length=(lv.flatMap fun k=>cD k s.1).length:=Bs _
   repeat' (first|refine v45 ?_|refine w5 ?_ ?_|((refine bh fun h=>?_) <;> try exact w6 h)|(refine aE fun hA=>?_;subst hA)|intro _|(show aA _ 124 _ _ _;refine CA (h:=R1 (xs:=lv.flatMap fun k=>cD k s.1) rfl (by omega) ?_)))
   all_goals rw[<- hsl]
   all_goals(show aU _ _ _ _;exact cJ (kk - 1) ⟨n+1,acc++lv,Kn s lv,N,e2,B2,d2,by omega,by rw[show kk - 1+1=kk by omega];exact hac,by rw[List.length_append];omega,Al3 hn hnd,Aph hr hn hch,⟨rfl,rfl,rfl,trivial⟩,rfl⟩)
end Go.Proofs.YtepnmcipkangkaaGreat
namespace Go.Proofs.YtepnmcipkangkaaGreat
open Go Go.Proofs Go.Sl
attribute [local irreducible] aN fL cL bM aL aR aA dJ dK aU dI pt ro fC star sep bF
variable {has has':Int->Prop} {k j id on low:Int} {r:Int->Nat} {on':Int->Int} {n:Nd} {s:eX} {x:Bool}
inductive Sk (has:Int->Prop) (on:Int->Int) (k:Int):Int->Prop
 |base {j:Int}:has j->on j=k->Sk has on k j
 |step {j:Int}:has j->Sk has on k (on j)->Sk has on k j
theorem zR {on:Int->Int} (h:Sk has on k j):has j:=by cases h <;> assumption
theorem Oy {on:Int->Int} (hr:∀j,has j->has (on j)->r (on j)<r j) (hk:has k) (h:Sk has on k j):r k<r j:=by
 induction h with
 |base h1 h2=>have:=hr _ h1 (by rw[h2];exact hk);rw[h2] at this;exact this
 |step h1 h2 ih=>exact Nat.lt_trans ih (hr _ h1 (zR h2))
theorem Ac8 {on:Int->Int} (hr:∀j,has j->has (on j)->r (on j)<r j) (U:Int->Prop) (q:Int) (hU:∀j,has j->has (on j)->U (on j)->U j) (hq:¬U q)
  (hn:∀j,has' j->has' (on' j)->(has j/\has (on j)/\on' j=on j)\/(U j/\on' j=q)):∃r':Int->Nat,∀j,has' j->has' (on' j)->r' (on' j)<r' j:=by
 classical
 refine⟨fun j=>if U j then r j+r q+1 else r j,fun j h1 h2=>?_⟩
 rcases hn j h1 h2 with⟨a,b,c⟩|⟨a,b⟩
 ·rw[c]
  have h:=hr j a b
  show(if U (on j) then r (on j)+r q+1 else r (on j))<(if U j then r j+r q+1 else r j)
  by_cases hu:U (on j)
  ·rw[if_pos hu,if_pos (hU j a b hu)];omega
  ·rw[if_neg hu]
   split <;> omega
 ·rw[b]
  show(if U q then r q+r q+1 else r q)<(if U j then r j+r q+1 else r j)
  rw[if_neg hq,if_pos a];omega
theorem Agz {on:Int->Int} {p:Int} (hr:∀j,has j->has (on j)->r (on j)<r j) (hkp:p≠k) (hu:¬Sk has on k p) (h1:∀j,has' j->j=k\/has j) (h3:on' k=p) (h4:∀j,j≠k->on' j=on j) (h5:∀j,j≠k->has' j->has' (on j)->has (on j)):
  ∃r':Int->Nat,∀j,has' j->has' (on' j)->r' (on' j)<r' j:=by
 refine Ac8 hr (fun j=>j=k\/Sk has on k j) p (fun j a b c=>?_) (fun h=>h.elim hkp hu) fun j a b=>?_
 ·rcases c with c|c
  ·exact .inr (.base a c)
  ·exact .inr (.step a c)
 ·by_cases hj:j=k
  ·subst hj;exact .inr ⟨.inl rfl,h3⟩
  ·rw[h4 j hj] at b ⊢
   exact .inl ⟨(h1 j a).resolve_left hj,h5 j hj a b,rfl⟩
theorem Ze {on:Int->Int} {q:Int} (hr:∀j,has j->has (on j)->r (on j)<r j) (hid:on id=q) (hq:has q\/∀j,has j->j≠q) (hqi:q≠id)
  (h1:∀j,has' j->has j) (h2:∀j,has j->j≠id->on j=q->on' j=id) (h3:∀j,has j->(j=id\/on j≠q)->on' j=on j):
  ∃r':Int->Nat,∀j,has' j->has' (on' j)->r' (on' j)<r' j:=by
 refine Ac8 hr (fun j=>∃k,has k/\k≠id/\on k=q/\(j=k\/Sk has on k j)) id (fun j a b c=>?_) (fun h=>?_) fun j a b=>?_
 ·obtain⟨k,c1,c2,c3,c4⟩:=c
  refine⟨k,c1,c2,c3,?_⟩
  rcases c4 with c4|c4
  ·exact .inr (.base a c4)
  ·exact .inr (.step a c4)
 ·obtain⟨k,c1,c2,c3,c4⟩:=h
  rcases c4 with c4|c4
  ·exact c2 c4.symm
  ·have hlt:¬Sk has on k q:=fun h=>by
    have h1:=zR h
    have h2:=Oy hr c1 h
    have h3:=hr k c1 (by rw[c3];exact h1)
    rw[c3] at h3
    omega
   cases c4 with
   |base d1 d2=>
    rw[hid] at d2
    rcases hq with e|e
    ·have:=hr k c1 (by rw[c3];exact e)
     rw[c3,d2] at this
     omega
    ·exact e k c1 d2.symm
   |step d1 d2=>rw[hid] at d2;exact hlt d2
 ·have ha:=h1 j a
  by_cases hj:j=id\/on j≠q
  ·rw[h3 j ha hj] at b ⊢
   exact .inl ⟨ha,h1 _ b,rfl⟩
  ·have hj1:j≠id:=fun h=>hj (.inl h)
   have hj2:on j=q:=Classical.byContradiction fun h=>hj (.inr h)
   rw[h2 j ha hj1 hj2]
   exact .inr ⟨⟨j,ha,hj1,hj2,.inl rfl⟩,rfl⟩
section
variable {w:Int}
theorem Ais:d6 j (fR id n s).1=(decide (j=id) || d6 j s.1):=by
 unfold d6 fR
 simp only
 rw[Jl]
 by_cases h:j=id
 ·rw[if_pos h,decide_eq_true h];rfl
 ·rw[if_neg h,decide_eq_false h];rfl
theorem FK {id:Int} {n:Nd} {ck:Nat}:∀ {l:List (KE Nd)},(iF id l).isSome=true->(uU id n ck l).map KE.k=l.map KE.k
 | [],h=>by cases h
 |e::r,h=>by
  unfold iF at h
  unfold uU
  by_cases he:id=e.k
  ·rw[if_pos he];rfl
  ·rw[if_neg he] at h ⊢
   rw[List.map_cons,List.map_cons,FK h]
theorem MK (h:d6 id s.1=true):(fR id n s).1.length=s.1.length:=by
 have:=congrArg List.length (FK (n:=n) (ck:=s.2) h)
 simpa[fR] using this
theorem V6 {id:Int}:∀ {l:List (KE Nd)},iF id l=none->∀e∈l,e.k≠id
 | [],_,e,he=>by cases he
 |z::r,h,e,he=>by
  unfold iF at h
  split at h
  ·cases h
  ·rename_i hz
   rcases List.mem_cons.1 he with rfl|he
   ·exact fun h'=>hz h'.symm
   ·exact V6 h e he
theorem Jz (h:OL s):OL (fR id n s):=by
 unfold OL fR
 simp only
 cases hg:iF id s.1 with
 |some v=>rw[FK (by rw[hg];rfl)];exact h
 |none=>
  rw[EZ hg,List.map_append,List.nodup_append]
  refine⟨h,by simp,fun a ha b hb=>?_⟩
  simp only[List.map_cons,List.map_nil,List.mem_cons,List.not_mem_nil,or_false] at hb
  obtain⟨e,he,rfl⟩:=List.mem_map.1 ha
  subst hb
  exact V6 hg e he
theorem EV {id j:Int}:∀ {l:List (KE Nd)},(l.map KE.k).Nodup->iF j (nX id l)=if j=id then none else iF j l
 | [],_=>by split <;> rfl
 |e::r,h=>by
  rw[List.map_cons,List.nodup_cons] at h
  unfold nX
  by_cases he:id=e.k
  ·rw[if_pos he]
   by_cases hj:j=id
   ·rw[if_pos hj]
    cases hg:iF j r with
    |none=>rfl
    |some v=>
     have:=y8 (id:=j) (l:=r) (by rw[hg];rfl)
     rw[hj,he] at this
     exact absurd this h.1
   ·rw[if_neg hj]
    show _=if j=e.k then _ else _
    rw[if_neg (by rw[<- he];exact hj)]
  ·rw[if_neg he]
   show(if j=e.k then _ else iF j (nX id r))=if j=id then none else if j=e.k then _ else iF j r
   rw[EV h.2]
   by_cases hj:j=id
   ·rw[if_pos hj,if_pos hj,if_neg (by rw[hj];exact he)]
   ·rw[if_neg hj,if_neg hj]
theorem F5 {id:Int}:∀ {l:List (KE Nd)},((nX id l).map KE.k).Sublist (l.map KE.k)
 | []=>List.Sublist.refl _
 |e::r=>by
  unfold nX
  split
  ·exact List.sublist_cons_self ..
  ·exact List.Sublist.cons_cons _ F5
theorem Af9 {id:Int}:∀ {l:List (KE Nd)},((nX id l).map KE.b).Sublist (l.map KE.b)
 | []=>List.Sublist.refl _
 |e::r=>by
  unfold nX
  split
  ·exact List.sublist_cons_self ..
  ·exact List.Sublist.cons_cons _ Af9
theorem LD {id:Int} {e:KE Nd}:∀ {l:List (KE Nd)},e∈nX id l->e∈l
 | [],h=>h
 |z::r,h=>by
  unfold nX at h
  split at h
  ·exact List.mem_cons_of_mem _ h
  ·exact(List.mem_cons.1 h).elim (fun e=>by rw[e];exact List.mem_cons_self ..) fun h=>List.mem_cons_of_mem _ (LD h)
theorem Ade {l:List (KE Nd)}:(nX id l).length<=l.length:=by
 have:=(F5 (id:=id) (l:=l)).length_le
 simpa using this
end
structure NJ (s:eX):Prop where
 kok:Si s.1 s.2
 nd:OL s
 len:s.1.length<=64
 w:TrW s
 ky:∀id,d6 id s.1=true->1<=id/\id<=2147483647
 cl:∀id,d6 id s.1=true->(dG id s).on=0\/d6 (dG id s).on s.1=true
 rk:∃r,SS r s
abbrev fE (s:eX) (j:Int):Prop:=d6 j s.1=true
abbrev rT (s:eX) (j:Int):Int:=(dG j s).on
section
variable {w:Int}
theorem Aok (hr:SS r s) (h:Sk (fE s) (rT s) id low):∀(kk:Nat) (seen:List Int),seen.length+kk=s.1.length->seen.Nodup->(∀z∈seen,z∈s.1.map KE.k/\r low<r z)->tN id s (kk+1) low=true:=by
 induction h with
 |base h1 h2=>
  intro kk seen _ _ _
  unfold tN
  rw[if_pos h1,if_pos h2]
 |step h1 h2 ih=>
  rename_i lw
  intro kk seen hk hnd hse
  unfold tN
  rw[if_pos h1]
  split
  ·rfl
  ·have hns:lw ∉ seen:=fun hm=>by have:=(hse lw hm).2;omega
   have hlen:(lw::seen).length<=(s.1.map KE.k).length:=List.Nodup.length_le_of_subset (List.nodup_cons.2 ⟨hns,hnd⟩) (fun z hz=>by
    rcases List.mem_cons.1 hz with rfl|hz
    ·exact y8 h1
    ·exact(hse z hz).1)
   rw[List.length_map,List.length_cons] at hlen
   obtain⟨k1,rfl⟩:∃k1,kk=k1+1:=⟨kk - 1,by omega⟩
   have h3:=hr lw h1 (zR h2)
   refine ih k1 (lw::seen) (by rw[List.length_cons];omega) (List.nodup_cons.2 ⟨hns,hnd⟩) fun z hz=>?_
   rcases List.mem_cons.1 hz with rfl|hz
   ·exact⟨y8 h1,h3⟩
   ·exact⟨(hse z hz).1,Nat.lt_trans h3 (hse z hz).2⟩
theorem U2:∀ {n:Nat} {low:Int},tN id s n low=true->Sk (fE s) (rT s) id low
 |0,_,h=>by cases h
 |n+1,low,h=>by
  unfold tN at h
  split at h
  ·rename_i hh
   split at h
   ·rename_i ho;exact .base hh ho
   ·exact .step hh (U2 h)
  ·cases h
theorem Apd (hr:SS r s) (h:tN id s (s.1.length+1) low=false):¬Sk (fE s) (rT s) id low:=fun hu=>by
 rw[Aok hr hu s.1.length [] (by simp) List.nodup_nil (fun z hz=>by cases hz)] at h
 cases h
theorem dX:fE (fR id n s) j↔j=id\/fE s j:=by
 unfold fE;rw[Ais];simp
theorem vW:rT (fR id n s) j=if j=id then n.on else rT s j:=by
 unfold rT;rw[II];split <;> rfl
theorem QV:(dG j (fR id n s)).w=if j=id then n.w else(dG j s).w:=by
 rw[II];split <;> rfl
theorem Eb:∀ {ks:List Int} {s:eX},(∀k∈ks,fE s k)->Si s.1 s.2->OL s->(∀j,fE (i9 id ks s) j↔fE s j)/\(∀j,rT (i9 id ks s) j=if j∈ks/\j≠id then id else rT s j)/\(∀j,(dG j (i9 id ks s)).w=(dG j s).w)/\Si (i9 id ks s).1 (i9 id ks s).2/\OL (i9 id ks s)/\(i9 id ks s).1.length=s.1.length
 | [],s,_,h1,h2=>⟨fun j=>Iff.rfl,fun j=>by rw[if_neg (by simp)];rfl,fun j=>rfl,h1,h2,rfl⟩
 |k::ks,s,hk,h1,h2=>by
  unfold i9
  by_cases hki:k=id
  ·rw[if_pos hki]
   obtain⟨a1,a2,a3,a4,a5,a6⟩:=Eb (ks:=ks) (s:=s) (fun z hz=>hk z (List.mem_cons_of_mem _ hz)) h1 h2
   refine⟨a1,fun j=>?_,a3,a4,a5,a6⟩
   rw[a2 j]
   by_cases hj:j∈ks/\j≠id
   ·rw[if_pos hj,if_pos ⟨List.mem_cons_of_mem _ hj.1,hj.2⟩]
   ·rw[if_neg hj,if_neg (fun h=>hj ⟨(List.mem_cons.1 h.1).resolve_left (fun e=>h.2 (e.trans hki)),h.2⟩)]
  ·rw[if_neg hki]
   have hkk:=hk k (List.mem_cons_self ..)
   obtain⟨a1,a2,a3,a4,a5,a6⟩:=Eb (ks:=ks) (s:=jJ k id s) (fun z hz=>dX.2 (.inr (hk z (List.mem_cons_of_mem _ hz)))) (Eg h1) (Jz h2)
   refine⟨fun j=>(a1 j).trans (dX.trans ⟨fun h=>h.elim (fun e=>by rw[e];exact hkk) (fun h=>h),.inr⟩),fun j=>?_,fun j=>?_,a4,a5,a6.trans (MK hkk)⟩
   ·rw[a2 j]
    unfold jJ
    rw[vW]
    by_cases hj:j∈ks/\j≠id
    ·rw[if_pos hj,if_pos ⟨List.mem_cons_of_mem _ hj.1,hj.2⟩]
    ·rw[if_neg hj]
     by_cases hjk:j=k
     ·rw[if_pos hjk,if_pos ⟨by rw[hjk];exact List.mem_cons_self ..,by rw[hjk];exact hki⟩]
     ·rw[if_neg hjk,if_neg (fun h=>hj ⟨(List.mem_cons.1 h.1).resolve_left hjk,h.2⟩)]
   ·rw[a3 j]
    unfold jJ
    rw[QV]
    split
    ·rename_i e;rw[e]
    ·rfl
theorem y7 (h:OL s):k∈cD id s.1↔fE s k/\rT s k=id:=by
 refine⟨fun hk=>lW h hk,fun hk=>?_⟩
 obtain⟨h1,h2⟩:=hk
 unfold cD
 rw[Bz]
 have hm:=y8 h1
 obtain⟨e,he,hek⟩:=List.mem_map.1 hm
 refine List.mem_map.2 ⟨e,List.mem_filter.2 ⟨he,?_⟩,hek⟩
 have hg:=L9 h he
 rw[hek] at hg
 unfold rT dG at h2
 rw[hg] at h2
 exact decide_eq_true h2
theorem Ck (h:NJ s) (hi:1<=id/\id<=2147483647) (hon:on=0\/fE s on) (hne:on≠id) (hu:¬Sk (fE s) (rT s) id on) (hw:1<=w/\w<=256) (hl:fE s id\/s.1.length<64):NJ (qT id on w x s):=by
 obtain⟨r,hr⟩:=h.rk
 have hz:∀j,fE s j->j≠0:=fun j hj=>by have:=(h.ky j hj).1;omega
 obtain⟨r1,hr1⟩:∃r':Int->Nat,∀j,fE (fR id ⟨on,w⟩ s) j->fE (fR id ⟨on,w⟩ s) (rT (fR id ⟨on,w⟩ s) j)->r' (rT (fR id ⟨on,w⟩ s) j)<r' j:=by
  refine Agz (k:=id) (p:=on) hr hne hu (fun j hj=>dX.1 hj) (by rw[vW,if_pos rfl]) (fun j hj=>by rw[vW,if_neg hj]) fun j hj h1 h2=>?_
  have h1:=(dX.1 h1).resolve_left hj
  rcases dX.1 h2 with e|e
  ·rcases h.cl j h1 with e'|e'
   ·exact absurd (e.symm.trans e') (by omega)
   ·exact e'
  ·exact e
 have hcl:∀j,fE (fR id ⟨on,w⟩ s) j->rT (fR id ⟨on,w⟩ s) j=0\/fE (fR id ⟨on,w⟩ s) (rT (fR id ⟨on,w⟩ s) j):=fun j hj=>by
  rw[vW]
  by_cases hji:j=id
  ·rw[if_pos hji]
   exact hon.imp (fun e=>e) fun e=>dX.2 (.inr e)
  ·rw[if_neg hji]
   exact(h.cl j ((dX.1 hj).resolve_left hji)).imp (fun e=>e) fun e=>dX.2 (.inr e)
 have hlen:∀(t:eX),t.1.length=s.1.length->(∀j,fE t j↔fE s j)->(fR id ⟨on,w⟩ t).1.length<=64:=fun t ht hh=>by
  rcases hl with e|e
  ·rw[MK ((hh id).2 e),ht];exact h.len
  ·have:=H5 (id:=id) (n:=⟨on,w⟩) (ck:=t.2) t.1
   show(uU id ⟨on,w⟩ t.2 t.1).length<=64
   omega
 have hky:∀j,j=id\/fE s j->1<=j/\j<=2147483647:=fun j hj=>hj.elim (fun e=>by rw[e];exact hi) (h.ky j)
 cases x with
 |false=>
  show NJ (fR id ⟨on,w⟩ s)
  refine⟨Eg h.kok,Jz h.nd,hlen s rfl fun j=>Iff.rfl,fun j hj=>?_,fun j hj=>hky j (dX.1 hj),hcl,r1,hr1⟩
  rw[QV]
  split
  ·exact hw
  ·rename_i hji;exact h.w j ((dX.1 hj).resolve_left hji)
 |true=>
  show NJ (fR id ⟨on,w⟩ (i9 id (cD on s.1) s))
  obtain⟨a1,a2,a3,a4,a5,a6⟩:=Eb (id:=id) (ks:=cD on s.1) (s:=s) (fun k hk=>((y7 h.nd).1 hk).1) h.kok h.nd
  have b1:∀j,fE (fR id ⟨on,w⟩ (i9 id (cD on s.1) s)) j↔fE (fR id ⟨on,w⟩ s) j:=fun j=>dX.trans ((or_congr Iff.rfl (a1 j)).trans dX.symm)
  have b2:∀j,fE (fR id ⟨on,w⟩ s) j->j≠id->rT (fR id ⟨on,w⟩ s) j=on->rT (fR id ⟨on,w⟩ (i9 id (cD on s.1) s)) j=id:=fun j hj hji ho=>by
   rw[vW,if_neg hji] at ho ⊢
   rw[a2,if_pos ⟨(y7 h.nd).2 ⟨(dX.1 hj).resolve_left hji,ho⟩,hji⟩]
  have b3:∀j,fE (fR id ⟨on,w⟩ s) j->(j=id\/rT (fR id ⟨on,w⟩ s) j≠on)->rT (fR id ⟨on,w⟩ (i9 id (cD on s.1) s)) j=rT (fR id ⟨on,w⟩ s) j:=fun j hj ho=>by
   rw[vW,vW] at *
   by_cases hji:j=id
   ·rw[if_pos hji,if_pos hji]
   ·rw[if_neg hji] at ho ⊢
    rw[if_neg hji,a2,if_neg (fun hk=>((ho.resolve_left hji) ((y7 h.nd).1 hk.1).2))]
  refine⟨Eg a4,Jz a5,hlen _ a6 a1,fun j hj=>?_,fun j hj=>hky j (dX.1 ((b1 j).1 hj)),fun j hj=>?_,?_⟩
  ·rw[QV]
   split
   ·exact hw
   ·rename_i hji
    rw[a3]
    exact h.w j ((dX.1 ((b1 j).1 hj)).resolve_left hji)
  ·have hj':=(b1 j).1 hj
   show rT _ j=0\/fE _ (rT _ j)
   by_cases hjo:j=id\/rT (fR id ⟨on,w⟩ s) j≠on
   ·rw[b3 j hj' hjo]
    exact(hcl j hj').imp (fun e=>e) fun e=>(b1 _).2 e
   ·rw[b2 j hj' (fun e=>hjo (.inl e)) (Classical.byContradiction fun e=>hjo (.inr e))]
    exact .inr (dX.2 (.inl rfl))
  ·refine Ze (id:=id) (q:=on) hr1 (by rw[vW,if_pos rfl]) ?_ hne (fun j hj=>(b1 j).1 hj) b2 b3
   rcases hon with e|e
   ·exact .inr fun j hj=>by
     have:=(hky j (dX.1 hj)).1
     omega
   ·exact .inl (dX.2 (.inr e))
theorem Aku (h:NJ s) (hu:Sk (fE s) (rT s) id low):id=0\/fE s id:=by
 induction hu with
 |base h1 h2=>rw[<- h2];exact h.cl _ h1
 |step _ _ ih=>exact ih
theorem Ajg (h:NJ s):NJ (oI id on w x 64 s):=by
 unfold oI
 split
 ·exact h
 ·rename_i he
  have he:nV id on w 64 s=0:=Classical.byContradiction he
  unfold nV at he
  split at he
  ·cases he
  ·rename_i h1
   split at he
   ·cases he
   ·rename_i h2
    split at he
    ·cases he
    ·rename_i h3
     split at he
     ·cases he
     ·rename_i h4
      have hmay:Aj on w=true:=by simpa using fun hf=>h1 (.inr (.inr hf))
      unfold Aj at hmay
      simp only[Bool.and_eq_true,decide_eq_true_eq] at hmay
      have hid:1<=id/\id<=2147483647:=by omega
      have hnu:∀low,¬Sk (fE s) (rT s) id low:=fun low hu=>(Aku h hu).elim (fun e=>by omega) h3
      split
      ·exact Ck h hid (.inl rfl) (by omega) (hnu 0) ⟨hmay.1.2,hmay.2⟩ (.inr (by omega))
      ·rename_i h5
       refine Ck h hid ?_ h2 (hnu on) ⟨hmay.1.2,hmay.2⟩ (.inr (by omega))
       unfold Bf at h5
       by_cases h0:on=0
       ·exact .inl h0
       ·right
        cases hh:d6 on s.1
        ·exact absurd (by rw[hh];simp[h0]) h5
        ·exact hh
end
end Go.Proofs.YtepnmcipkangkaaGreat
