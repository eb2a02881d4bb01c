/- The document's endpoint: where it lies; its small functions: lemmas; each with the conditions that it states. -/
import Derived.Test.YtffnpejdkkohcaaGreatBag
import Derived.Test.YtffnpejdkkohcaaGreatBbk
import Derived.Test.YtffnpejdkkohcaaGreatBau
import Derived.Test.YtffnpejdkkohcaaGreatQx
namespace Go.Proofs.YtffnpejdkkohcaaGreat
open Go Go.Proofs Go.Sl
set_option maxRecDepth 100000
set_option maxHeartbeats 40000000
set_option linter.unusedSimpArgs false
set_option linter.unusedVariables false
attribute [local irreducible] aM eY cU bQ aL aW aA dS dT aZ dR pt ro fN star sep bH
variable {R C:List HP} {K:Value→List HP→Prop}
structure Rqq0 where
 id:Int
 k:Int
 p:Nat
 en:Bool
 n:Int
def rqD:List Value→Option Rqq0
 | [.int .i64 id,.int .i64 k,.pointer (some ⟨p,0,none⟩),.bool en,.int .i64 n]=>some ⟨id,k,p,en,n⟩
 |_=>none
theorem rqD_ok (cs:List Value) (y:Rqq0) (h:rqD cs=some y): [.int .i64 y.id,.int .i64 y.k,.pointer (some ⟨y.p,0,none⟩),.bool y.en,.int .i64 y.n]=cs:=by
 unfold rqD at h
 split at h
 ·cases h;rfl
 ·cases h
def rqC:tP Rqq0:= { enc:=fun y=> [.int .i64 y.id,.int .i64 y.k,.pointer (some ⟨y.p,0,none⟩),.bool y.en,.int .i64 y.n],sz:=5,dec:=rqD,len:=fun _=>rfl,one:=fun _=>rfl,ok:=rqD_ok }
def rqe (s:Rs):Rqq0:=⟨s.id,s.k,s.p,s.en,s.n⟩
abbrev rsP (s:Rs):HP:=pt s.p [.int .i64 s.cap,.int .i64 s.most,.int .i64 s.gr,.int .i64 s.got,.int .i64 s.us] 188
abbrev rcX (p:Nat) (A:Option Addr) (c rv:Nat) (W:Option Addr) (wc:Nat) (O:Option Addr) (oc:Nat) (x:Rc) (R:List HP):List HP:=
 pt p [.slice A (x.l.map rqe).length c,.pointer (some ⟨rv,0,none⟩),.int .i64 x.sd,.int .i64 x.h.w,.int .i64 x.h.st,.int .i64 x.h.it,.int .i64 x.pe.w,.int .i64 x.pe.st,.int .i64 x.pe.it,.slice W x.w.length wc,.int .i64 x.la,.bool false,.slice O x.o.length oc,.bool x.cl,.int .i64 x.co] 40::bU A c 51 rqC (x.l.map rqe)::R
abbrev rcL (p:Nat) (A:Option Addr) (c rv:Nat) (W:Option Addr) (wc:Nat) (O:Option Addr) (oc:Nat) (x:Rc) (R:List HP):List HP:=
 rcX p A c rv W wc O oc x (eC rsP x.l::pt rv [.int .i64 x.cap,.int .i64 x.most,.int .i64 x.gr,.int .i64 x.got,.int .i64 x.us] 188::bU O oc 3 mI x.o::bU W wc 23 F0 x.w::R)
theorem pt_row {α:Type} {E:tP α} {r n:Nat} {cs:List Value} {e:TypeId} {xs:List α} (h:xs.flatMap E.enc=cs) (hn:xs.length=n):aG (pt r cs e::C) (bU (some ⟨r,0,none⟩) n e E xs::C):=fun H hs=>by
 subst h
 refine gQ (pre:= []) (post:= []) rfl ?_ (by omega) (by rw[hn,Nat.sub_self];simp)
 rw[List.nil_append,List.append_nil]
 exact hs
theorem rs_at {id:Int}:∀ {l:List Rs},(∀s,zR id l=some s→∃i,l[i]?=some s∧s.id=id∧∀(j:Nat) (z:Rs),j<i→l[j]?=some z→z.id≠id)∧(zR id l=none→∀z∈l,z.id≠id)
 | []=>⟨fun s h=>(by cases h),fun _ z hz=>(by cases hz)⟩
 |y::l=>by
  obtain⟨i1,i2⟩:=rs_at (id:=id) (l:=l)
  have e:zR id (y::l)=if y.id=id then some y else zR id l:=rfl
  rw[e]
  by_cases hd:y.id=id
  ·rw[if_pos hd]
   exact⟨fun z hz=>⟨0,by rw[← hz];rfl,by cases hz;exact hd,fun j z hj=>absurd hj (Nat.not_lt_zero j)⟩,fun h=>(by cases h)⟩
  ·rw[if_neg hd]
   refine⟨fun z hz=>?_,fun hz z hm=>?_⟩
   ·obtain⟨i,q1,q2,q3⟩:=i1 z hz
    refine⟨i+1,q1,q2,fun j z hj hz2=>?_⟩
    cases j with
    |zero=>cases hz2;exact hd
    |succ j=>exact q3 j z (by omega) hz2
   ·rcases List.mem_cons.1 hm with rfl|hm
    ·exact hd
    ·exact i2 hz z hm
theorem r08n_ok {n:Int} (hK:∀p,K (.pointer (some ⟨p,0,none⟩)) (pt p [.int .i64 n,.int .i64 n,.int .i64 n,.int .i64 0,.int .i64 0] 188::R)):aA Tryz.prog 39 #[.int .i64 n] R K:=by
 refine aJ Tryz.func39 ?_
 repeat' (first|refine v6 ?_|refine w5 ?_ ?_|((refine bh fun h=>?_) <;> try exact w6 h)|(refine aF fun hA=>?_;subst hA)|intro _)
 all_goals(refine aC ?_;exact aB (hK _))
def d102_0_0_r08z_ok:List (Nat×Nat):= [(0,0),(1,0),(2,0),(3,0),(4,0),(5,0),(6,0),(7,0),(8,0),(9,0),(10,0),(11,0),(12,0),(13,0),(14,1)]
theorem r08z_ok {p:Nat} {cap most gr got us to:Int} (hb:0≤cap∧cap≤900000000∧-900000000≤gr∧gr≤900000000∧0≤to∧to≤900000000) (hK:K (.tuple #[]) (pt p [.int .i64 to,.int .i64 (max most to),.int .i64 (gr+to - cap),.int .i64 got,.int .i64 us] 188::R)):aA Tryz.prog 102 #[.pointer (some ⟨p,0,none⟩),.int .i64 to] (pt p [.int .i64 cap,.int .i64 most,.int .i64 gr,.int .i64 got,.int .i64 us] 188::R) K:=by
 by_cases h:most<to
 ·rw[show max most to=to by omega] at hK
  refine aJ Tryz.func102 ?_
  repeat' (first|refine v33 ?_|refine dw d102_0_0_r08z_ok ?_|refine w5 ?_ ?_|((refine bh fun h=>?_) <;> try exact w6 h)|(refine aF fun hA=>?_;subst hA)|intro _)
  all_goals(refine aC ?_;exact aB (hK))
 ·rw[show max most to=most by omega] at hK
  refine aJ Tryz.func102 ?_
  repeat' (first|refine v33 ?_|refine dw d102_0_0_r08z_ok ?_|refine w5 ?_ ?_|((refine bh fun h=>?_) <;> try exact w6 h)|(refine aF fun hA=>?_;subst hA)|intro _)
  all_goals(refine aC ?_;exact aB (hK))
theorem wi_fit {n:Int} (h:-2147483647≤n):CQ n=decide (n≤2147483647):=by
 unfold CQ
 rw[decide_eq_true h];rfl
theorem r05grow_ok {n b:Int} (hn:-2147483647≤n∧n≤2147483647) (hb:0≤b∧b≤2147483647) (hK:K (.tuple #[.int .i64 (gA n b),.int .i64 (j5 n b)]) R):aA Tryz.prog 103 #[.int .i64 n,.int .i64 b] R K:=by
 by_cases h1:1≤b
 ·have hp:1≤b∧b≤2147483647:=⟨h1,hb.2⟩
  by_cases h2:n+b≤2147483647
  ·have hd:CQ (n+b)=true:=by rw[wi_fit (by omega),decide_eq_true h2]
   have e1:gA n b=n+b:=by unfold gA DK;rw[if_pos hp,if_pos hd]
   have e2:j5 n b=0:=by unfold j5 zU;rw[if_pos hp,if_pos hd]
   rw[e1,e2] at hK
   refine aJ Tryz.func103 ?_
   repeat' (first|refine v24 ?_|refine w5 ?_ ?_|((refine bh fun h=>?_) <;> try exact w6 h)|(refine aF fun hA=>?_;subst hA)|intro _)
   all_goals(refine aC ?_;exact aB (hK))
  ·have hd:CQ (n+b)≠true:=by rw[wi_fit (by omega),decide_eq_false h2];decide
   have e1:gA n b=n:=by unfold gA DK;rw[if_pos hp,if_neg hd]
   have e2:j5 n b=10:=by unfold j5 zU;rw[if_pos hp,if_neg hd]
   rw[e1,e2] at hK
   refine aJ Tryz.func103 ?_
   repeat' (first|refine v24 ?_|refine w5 ?_ ?_|((refine bh fun h=>?_) <;> try exact w6 h)|(refine aF fun hA=>?_;subst hA)|intro _)
   all_goals(refine aC ?_;exact aB (hK))
 ·have hp:¬(1≤b∧b≤2147483647):=fun h=>h1 h.1
  have e1:gA n b=n:=by unfold gA;rw[if_neg hp]
  have e2:j5 n b=2:=by unfold j5;rw[if_neg hp]
  rw[e1,e2] at hK
  refine aJ Tryz.func103 ?_
  repeat' (first|refine v24 ?_|refine w5 ?_ ?_|((refine bh fun h=>?_) <;> try exact w6 h)|(refine aF fun hA=>?_;subst hA)|intro _)
  all_goals(refine aC ?_;exact aB (hK))
theorem wi_res {n a b:Int} (ha:0≤a∧a≤2147483647) (hb:0≤b∧b≤2147483647):(vR n a b=if -2147483647≤n+b - a∧n+b - a≤2147483647 then n+b - a else n)∧gR n a b=if -2147483647≤n+b - a∧n+b - a≤2147483647 then 0 else 10:=by
 have e:n+(b - a)=n+b - a:=by omega
 have hi:lL a=true∧lL b=true:=by
  unfold lL
  rw[decide_eq_true ha.1,decide_eq_true ha.2,decide_eq_true hb.1,decide_eq_true hb.2]
  exact⟨rfl,rfl⟩
 have e1:vR n a b=DK n (b - a):=if_pos hi
 have e2:gR n a b=zU n (b - a):=if_pos hi
 have hf:CQ (n+b - a)=true↔-2147483647≤n+b - a∧n+b - a≤2147483647:=by
  unfold CQ
  rw[Bool.and_eq_true,decide_eq_true_eq,decide_eq_true_eq]
 rw[e1,e2]
 unfold DK zU
 rw[e]
 by_cases h:-2147483647≤n+b - a∧n+b - a≤2147483647
 ·rw[if_pos (hf.2 h),if_pos (hf.2 h),if_pos h,if_pos h];exact⟨rfl,rfl⟩
 ·rw[if_neg (fun q=>h (hf.1 q)),if_neg (fun q=>h (hf.1 q)),if_neg h,if_neg h];exact⟨rfl,rfl⟩
theorem r05res_ok {n a b:Int} (hn:-2147483647≤n∧n≤2147483647) (ha:0≤a∧a≤2147483647) (hb:0≤b∧b≤2147483647) (hK:K (.tuple #[.int .i64 (vR n a b),.int .i64 (gR n a b)]) R):aA Tryz.prog 101 #[.int .i64 n,.int .i64 a,.int .i64 b] R K:=by
 rw[(wi_res ha hb).1,(wi_res ha hb).2] at hK
 by_cases h:-2147483647≤n+b - a∧n+b - a≤2147483647
 ·rw[if_pos h,if_pos h] at hK
  refine aJ Tryz.func101 ?_
  repeat' (first|refine v24 ?_|refine w5 ?_ ?_|((refine bh fun h=>?_) <;> try exact w6 h)|(refine aF fun hA=>?_;subst hA)|intro _)
  all_goals(refine aC ?_;exact aB (hK))
 ·rw[if_neg h,if_neg h] at hK
  refine aJ Tryz.func101 ?_
  repeat' (first|refine v24 ?_|refine w5 ?_ ?_|((refine bh fun h=>?_) <;> try exact w6 h)|(refine aF fun hA=>?_;subst hA)|intro _)
  all_goals(refine aC ?_;exact aB (hK))
theorem rc_new {Z1q0 Z2q0:HP} {rOq0 rWq0:Nat} {s:dI}:aG (Z1q0::Z2q0::pt rOq0 [.int .i64 5] 3::pt rWq0 [.int .i64 s.w,.int .i64 s.st,.int .i64 s.it] 23::R) (Z1q0::bU none 0 51 rqC []::eC rsP []::Z2q0::bU (some ⟨rOq0,0,none⟩) 1 3 mI [5]::bU (some ⟨rWq0,0,none⟩) 1 23 F0 [s]::R):=
 aG.cons (aG.nilrow' (aG.trans (aG.cons (aG.trans (pt_row (E:=mI) (xs:= [5]) rfl rfl) (aG.cons (pt_row (E:=F0) (xs:= [s]) rfl rfl)))) K1))
def d7_2_0_rcnew_ok:Tr:=(.br (.br (.st 0 3 (.br (.st 3 2 (.st 4 3 (.st 5 3 (.st 1 3 (.st 2 3 (.st 6 0 (.st 7 1 (.st 8 0 .nil)))))))) (.st 5 3 (.st 3 2 (.st 4 3 (.st 1 3 (.st 2 3 (.st 6 0 (.st 7 1 (.st 8 0 .nil)))))))))) (.st 3 2 (.st 4 3 (.br (.st 0 3 (.st 5 3 (.st 1 3 (.st 2 3 (.st 6 0 (.st 7 1 (.st 8 0 .nil))))))) (.st 5 3 (.st 0 3 (.st 1 3 (.st 2 3 (.st 6 0 (.st 7 1 (.st 8 0 .nil))))))))))) (.st 5 3 (.br (.st 0 3 (.st 3 2 (.st 4 3 (.st 1 3 (.st 2 3 (.st 6 0 (.st 7 1 (.st 8 0 .nil)))))))) (.st 3 2 (.st 4 3 (.st 0 3 (.st 1 3 (.st 2 3 (.st 6 0 (.st 7 1 (.st 8 0 .nil)))))))))))
theorem rcnew_ok {s:dI} (hK:∀p rv W wc O oc,K (.pointer (some ⟨p,0,none⟩)) (rcL p none 0 rv W wc O oc (Alg s) R)):aA Tryz.prog 7 #[.agg #[.int .i64 s.w,.int .i64 s.st,.int .i64 s.it]] R K:=by
 refine aJ Tryz.func7 ?_
 repeat' (first|refine v51 ?_|refine Hq d7_2_0_rcnew_ok ?_|refine w5 ?_ ?_|((refine bh fun h=>?_) <;> try exact w6 h)|(refine aF fun hA=>?_;subst hA)|intro _|(show aA _ 39 _ _ _;refine CA (h:=r08n_ok (fun rv=>?_))))
 all_goals(refine aC ?_;exact aQ (aG.trans (by exact bE) ((rc_new (s:=s)))) ((hK _ _ _ _ _ _)))
variable {p c rv wc oc:Nat} {A W O:Option Addr} {x:Rc}
theorem star_none:aG (eC rsP x.l::R) (eC rsP []::R):=aG.drop (K1)
theorem rcfail_ok {co:Int} (hK:K (.tuple #[]) (rcL p none 0 rv W wc none 0 (rK co x) R)):aA Tryz.prog 49 #[.pointer (some ⟨p,0,none⟩),.int .i64 co] (rcL p A c rv W wc O oc x R) K:=by
 refine aA.ent (aG.cons (aG.cons star_none)) ?_
 dsimp only[rcL,rcX,rK,List.map_nil,List.length_nil] at hK ⊢
 refine aJ Tryz.func49 ?_
 repeat' (first|refine v13 ?_|refine w5 ?_ ?_|((refine bh fun h=>?_) <;> try exact w6 h)|(refine aF fun hA=>?_;subst hA)|intro _)
 all_goals(refine aC ?_;exact aB (hK))
theorem rcpush_ok {k:Int} (hl:x.o.length≤1000) (hK:∀A c O oc,K (.tuple #[]) (rcL p A c rv W wc O oc (AN k x) R)):aA Tryz.prog 48 #[.pointer (some ⟨p,0,none⟩),.int .i64 k] (rcL p A c rv W wc O oc x R) K:=by
 unfold AN at hK
 by_cases h:64≤x.o.length
 ·rw[if_pos h] at hK
  refine aJ Tryz.func48 ?_
  repeat' (first|refine v54 ?_|refine w5 ?_ ?_|((refine bh fun h=>?_) <;> try exact w6 h)|(refine aF fun hA=>?_;subst hA)|intro _|(show aA _ 49 _ _ _;refine CA (h:=rcfail_ok (x:=x) ?_)))
  all_goals(refine aC ?_;exact aB (hK _ _ _ _))
 ·rw[if_neg h] at hK
  dsimp only[rcL,rcX] at hK ⊢
  refine aJ Tryz.func48 ?_
  repeat' (first|(show aM _ _ _ _ _ _ _;first|(refine Ajs ?_;intro _ _)|(refine Acv ?_;intro _))|refine v54 ?_|refine w5 ?_ ?_|((refine bh fun h=>?_) <;> try exact w6 h)|(refine aF fun hA=>?_;subst hA)|intro _)
  all_goals(refine aC ?_;exact aB (hK _ _ _ _))
end Go.Proofs.YtffnpejdkkohcaaGreat
