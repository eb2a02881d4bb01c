/- A part of the proof: lemmas; each with the conditions that it states. -/
import Derived.Test.YtifgibijcmppmaaGreatMbd
set_option linter.unusedVariables false
set_option linter.unusedSimpArgs false
namespace Go.Proofs.YtifgibijcmppmaaGreat
open Go Go.Proofs Go.Sl
set_option maxRecDepth 100000
set_option maxHeartbeats 40000000
attribute [local irreducible] aM fG cV bP aN aW aA dP dX aV dO pt ro eW star sep bH
attribute [local irreducible] mp Ec
section
variable {R C:List HP} {K:Value→List HP→Prop} {x mc i b p r:Nat} {a:Ca} {s:Cn} {M:Option Addr} {B id n:Int} {m:Sm} {d:ByteArray} {y:Ys} {t:eE}
theorem IM {i u v:Int} {l:List Pr}:(Kg i u v l).length≤l.length+1:=by
 unfold Kg
 split <;> simp
theorem TQ {u v:eE}:(LG u v).length≤3:=by
 unfold LG
 have h1:=IM (i:=1) (u:=u.w) (v:=v.w) (l:= [])
 have h2:=IM (i:=2) (u:=u.st) (v:=v.st) (l:=Kg 1 u.w v.w [])
 have h3:=IM (i:=3) (u:=u.it) (v:=v.it) (l:=Kg 2 u.st v.st (Kg 1 u.w v.w []))
 simp only[List.length_nil] at h1
 omega
def kX:List (Nat×Nat):= [(0,0),(1,0),(2,0),(3,0),(4,0),(5,1),(6,0),(7,0),(8,0),(9,0),(10,0)]
theorem Nq (hI:bS B s) (hK:K (.int .i64 (Qz t s)) (bY x a (BW t s) none 0 R)):aA Tryz.prog 101 #[.pointer (some ⟨x,0,none⟩),.agg #[.int .i64 t.w,.int .i64 t.st,.int .i64 t.it]] (bY x a s M mc R) K:=by
 have h64:=hI.ou.1
 unfold Qz BW at hK
 cases ho:s.dr.ov
 ·by_cases h1:64≤s.out.length
  ·simp only[ho,h1,Bool.false_eq_true,if_false,if_true,false_or,true_or] at hK
   refine aH Tryz.func101 ?_
   repeat' (first|refine v46 ?_|refine dw kX ?_|refine wr ?_|refine w5 ?_ ?_|((refine bh fun h=>?_) <;> try exact w6 h)|(refine aE fun hA=>?_;subst hA)|intro _|(show aA _ 75 _ _ _;refine CA (h:=b5 (x:=x) (a:=a) (s:=s) (M:=M) (mc:=mc) ?_);rw[ho,if_neg Bool.false_ne_true])|(show aA _ 113 _ _ _;refine CA (h:=wG (out:=s.out) hI.ou ?_)))
   all_goals(refine aC ?_;exact aB (hK))
  ·by_cases hs:iA s.sh t=0
   ·simp only[ho,h1,hs,Bool.false_eq_true,if_false,false_or,ne_eq,not_true_eq_false] at hK
    have hlen:=TQ (u:=rD s.sh) (v:=t)
    refine aH Tryz.func101 ?_
    repeat' (first|refine v46 ?_|refine dw kX ?_|refine wr ?_|refine w5 ?_ ?_|((refine bh fun h=>?_) <;> try exact w6 h)|(refine aE fun hA=>?_;subst hA)|intro _|(show aA _ 75 _ _ _;refine CA (h:=b5 (x:=x) (a:=a) (s:=s) (M:=M) (mc:=mc) ?_);rw[ho,if_neg Bool.false_ne_true])|(show aA _ 113 _ _ _;refine CA (h:=wG (out:=s.out) hI.ou ?_))|(show aA _ 59 _ _ _;refine CA (h:=E8 (s:=s.sh) (t:=t) hI.sh.1 (fun Aq cq=>?_));rw[hs];simp only[if_true])|(show aA _ 60 _ _ _;refine CA (h:=jR (out:=s.out) (f:=⟨5,0,false,⟨#[]⟩,0,0,0,false,0,0,0,Aq,(LG (rD s.sh) t).length,cq,LG (rD s.sh) t⟩) hI.ou (by exact jY) rfl (by show(LG (rD s.sh) t).length<1000000000000000;omega) ?_)))
    all_goals(refine aC ?_;exact aB (hK))
   ·simp only[ho,h1,hs,Bool.false_eq_true,if_false,if_true,false_or,ne_eq,not_false_eq_true] at hK
    have hsm:d8 s.sh t=s.sh:=by unfold d8;rw[if_neg hs]
    refine aH Tryz.func101 ?_
    repeat' (first|(show Br _ _ _;refine Br.t (by first | (simp <;> done) | simpa using hs) ?_)|refine v46 ?_|refine dw kX ?_|refine wr ?_|refine w5 ?_ ?_|((refine bh fun h=>?_) <;> try exact w6 h)|(refine aE fun hA=>?_;subst hA)|intro _|(show aA _ 75 _ _ _;refine CA (h:=b5 (x:=x) (a:=a) (s:=s) (M:=M) (mc:=mc) ?_);rw[ho,if_neg Bool.false_ne_true])|(show aA _ 113 _ _ _;refine CA (h:=wG (out:=s.out) hI.ou ?_))|(show aA _ 59 _ _ _;refine CA (h:=E8 (s:=s.sh) (t:=t) hI.sh.1 (fun Aq cq=>?_));rw[hsm]))
    all_goals(refine aC ?_;exact aB (hK))
 ·simp only[ho,if_true,true_or] at hK
  refine aH Tryz.func101 ?_
  repeat' (first|refine v46 ?_|refine dw kX ?_|refine wr ?_|refine w5 ?_ ?_|((refine bh fun h=>?_) <;> try exact w6 h)|(refine aE fun hA=>?_;subst hA)|intro _|(show aA _ 75 _ _ _;refine CA (h:=b5 (x:=x) (a:=a) (s:=s) (M:=M) (mc:=mc) ?_);rw[ho,if_pos rfl]))
  all_goals(refine aC ?_;exact aB (hK))
end
section
variable {R C:List HP} {K:Value→List HP→Prop} {x mc i b p r:Nat} {a:Ca} {s:Cn} {M:Option Addr} {B kind sg on w:Int} {xx:Bool} {m:Sm}
theorem Tb (h:bS B s) (hn:s.nx≤2147483647):XH s.sd s.nx=true:=by
 have h1:=h.nx
 have h2:=h.sd
 unfold XH
 simp only[Bool.and_eq_true,decide_eq_true_eq,beq_iff_eq,decide_eq_decide]
 refine⟨by omega,h1.2.2⟩
theorem Fl (h:bS B s) (hn:s.nx≤2147483647):b7 s.nx s.l=none:=by
 cases hm:b7 s.nx s.l with
 |none=>rfl
 |some m=>
  obtain⟨hi,hid⟩:=aZ hm
  have h4:=h.ids m (List.mem_of_getElem? hi)
  rw[hid] at h4
  unfold nS at h4
  rw[Tb h hn] at h4
  simp only[Bool.and_eq_true,decide_eq_true_eq,if_true] at h4
  omega
theorem Mp (h:bS B s) (ho:fH s true<32):s.l.length<64:=by
 have h2:=h.own false
 have h3:=MR s.l
 unfold fH at *
 omega
theorem II (h:bS B s) (hn:s.nx≤2147483647):bS B { s with nx:=s.nx+2 }:=
 { h with
   nx:=by
    have:=h.nx
    show 1≤s.nx+2∧s.nx+2≤2147483649∧((s.nx+2) % 2=1↔s.sd=0)
    omega
   ids:=fun z hz=>by
    have h1:=h.ids z hz
    show nS s.sd (s.nx+2) s.la z.id=true
    unfold nS at h1 ⊢
    simp only[Bool.and_eq_true,decide_eq_true_eq] at h1 ⊢
    refine⟨h1.1,?_⟩
    have h3:=h1.2
    split at h3
    ·rename_i hq;rw[if_pos hq];simp only[decide_eq_true_eq] at h3 ⊢;omega
    ·rename_i hq;rw[if_neg hq];exact h3 }
end
section
variable {R C:List HP} {K:Value→List HP→Prop} {x mc i b p r:Nat} {a:Ca} {s:Cn} {M:Option Addr} {B kind sg on w:Int} {xx:Bool} {m:Sm}
theorem BX (h:mY kind sg on w xx s=0):s.dr.ov=false∧(kind=1∨kind=2)∧(0≤sg∧sg≤2)∧K6 s.dr=true∧s.nx≤2147483647∧(fH s true:Nat)<min s.pe.st 32∧l8 (qE s.nx kind on w xx)=true∧on≠s.nx∧s.out.length<64:=by
 unfold mY at h
 repeat' split at h
 all_goals first|(exfalso;revert h;decide)|skip
 rename_i h1 h2 h3 h4 h5 h6 h7 h8
 refine⟨by cases hq:s.dr.ov <;> first|rfl|exact absurd hq h1,by omega,by omega,by cases hq:K6 s.dr <;> first|rfl|exact absurd hq h4,by omega,by omega,by cases hq:l8 (qE s.nx kind on w xx) <;> first|rfl|exact absurd hq h6,h7,by omega⟩
def Bs:List (Nat×Nat):= [(0,0),(1,0),(2,0),(3,0),(4,1),(5,1),(6,1),(7,1),(8,1),(9,1),(10,1),(11,0),(12,0),(13,0)]
def Bz:List (Nat×Nat):= [(0,0),(1,0),(2,0),(3,0),(4,0),(5,1)]
theorem R1 (hI:bS B s) (hE:mY kind sg on w xx s=0) (hK:K (.tuple #[.int .i64 (s.nx+2 - 2),.int .i64 0]) (bY x a (rU kind sg on w xx s) none 0 R)):aA Tryz.prog 25 #[.pointer (some ⟨x,0,none⟩),.int .i64 kind,.int .i64 sg,.agg #[.int .i64 on,.int .i64 w,.bool xx]] (bY x a s M mc R) K:=by
 obtain⟨e1,e2,e3,e4,e5,e6,e7,e8,e9⟩:=BX hE
 have hnx:=hI.nx
 unfold rU at hK
 rw[if_neg (fun q=>q hE)] at hK
 have hown:fH (aD s) true=fH s true:=rfl
 have hI1:=II (qN (f:=qE s.nx kind on w xx) (bF hI)) e5
 have hpe:(aD s).pe.st=s.pe.st:=rfl
 have q1:=Fl hI e5
 have q2:=Mp hI (by omega)
 have hnn:s.nx+2 - 2=s.nx:=by omega
 rw[hnn] at hK
 refine aH Tryz.func25 ?_
 repeat' (first|refine Gw ?_|refine dw Bs ?_|refine dw Bz ?_|refine wr ?_|refine w5 ?_ ?_|((refine bh fun h=>?_) <;> try exact w6 h)|(refine aE fun hA=>?_;subst hA)|intro _|(show aA _ 75 _ _ _;refine CA (h:=b5 (x:=x) (a:=a) (s:=s) (M:=M) (mc:=mc) ?_);rw[e1,if_neg Bool.false_ne_true])|(show aA _ 110 _ _ _;refine CA (h:=lG (sd:=s.sd) (nx:=s.nx) (la:=s.la) ?_))|(show aA _ 111 _ _ _;refine CA (h:=AE (d:=s.dr) ?_);rw[e4])|(show aA _ 84 _ _ _;refine CA (h:=qZ (x:=x) (a:=a) (s:=aD s) (M:=none) (mc:=0) (bF hI) ?_);rw[hown])|(show aA _ 112 _ _ _;refine CA (h:=iD (ps:= []) (show uP 2 s.nx false ⟨#[]⟩ kind on w xx 0 0 0 []=true from e7) eD rfl (show(0:Nat)<1000000000000000 by decide) ?_))|(show aA _ 113 _ _ _;refine CA (h:=wG (out:=s.out) hI.ou ?_))|(show aA _ 114 _ _ _;refine CA (h:=U3 (sd:=s.sd) (nx:=s.nx) (la:=s.la) e5 (by omega) ?_))|(show aA _ 60 _ _ _;refine CA (h:=jR (out:=s.out) (f:=qE s.nx kind on w xx) hI.ou eD rfl (show(0:Nat)<1000000000000000 by decide) ?_))|(show aA _ 115 _ _ _;refine CA (h:=P6 (x:=x) (a:=a) (s:= { aD s with nx:=s.nx+2,out:=yZ (qE s.nx kind on w xx) s.out }) (M:=none) (mc:=0) (id:=s.nx) hI1 e2 e3 q1 q2 ⟨by omega,e5⟩ ?_)))
 all_goals(refine aC ?_;exact aB (hK))
end
section
variable {R C:List HP} {K:Value→List HP→Prop} {x mc i b p r:Nat} {a:Ca} {s:Cn} {M:Option Addr} {B kind sg on w:Int} {xx:Bool} {m:Sm}
def dV:List (Nat×Nat):= [(0,0),(1,0),(2,0),(3,0),(4,1),(5,1),(6,1),(7,1),(8,1),(9,1),(10,1),(11,0),(12,0),(13,0)]
def dQ:List (Nat×Nat):= [(0,0),(1,0),(2,0),(3,0),(4,0),(5,1)]
theorem Sw (hI:bS B s) (hE:mY kind sg on w xx s≠0) (hK:K (.tuple #[.int .i64 0,.int .i64 (mY kind sg on w xx s)]) (bY x a (aD s) none 0 R)):aA Tryz.prog 25 #[.pointer (some ⟨x,0,none⟩),.int .i64 kind,.int .i64 sg,.agg #[.int .i64 on,.int .i64 w,.bool xx]] (bY x a s M mc R) K:=by
 have hnx:=hI.nx
 have hown:fH (aD s) true=fH s true:=rfl
 have hpe:(aD s).pe.st=s.pe.st:=rfl
 have h64:=hI.ou.1
 unfold mY at hE hK
 cases c1:s.dr.ov
 ·rw[c1,if_neg Bool.false_ne_true] at hE hK
  by_cases c2:kind≠1∧kind≠2
  ·rw[if_pos c2] at hK
   refine aH Tryz.func25 ?_
   repeat' (first|refine Gw ?_|refine dw dV ?_|refine dw dQ ?_|refine wr ?_|refine w5 ?_ ?_|((refine bh fun h=>?_) <;> try exact w6 h)|(refine aE fun hA=>?_;subst hA)|intro _|(show aA _ 75 _ _ _;refine CA (h:=b5 (x:=x) (a:=a) (s:=s) (M:=M) (mc:=mc) ?_);rw[c1,if_neg Bool.false_ne_true])|(show aA _ 110 _ _ _;refine CA (h:=lG (sd:=s.sd) (nx:=s.nx) (la:=s.la) ?_)))
   all_goals(refine aC ?_;exact aB (hK))
  ·rw[if_neg c2] at hE hK
   by_cases c3:sg<0∨2<sg
   ·rw[if_pos c3] at hK
    refine aH Tryz.func25 ?_
    repeat' (first|refine Gw ?_|refine dw dV ?_|refine dw dQ ?_|refine wr ?_|refine w5 ?_ ?_|((refine bh fun h=>?_) <;> try exact w6 h)|(refine aE fun hA=>?_;subst hA)|intro _|(show aA _ 75 _ _ _;refine CA (h:=b5 (x:=x) (a:=a) (s:=s) (M:=M) (mc:=mc) ?_);rw[c1,if_neg Bool.false_ne_true])|(show aA _ 110 _ _ _;refine CA (h:=lG (sd:=s.sd) (nx:=s.nx) (la:=s.la) ?_)))
    all_goals(refine aC ?_;exact aB (hK))
   ·rw[if_neg c3] at hE hK
    cases c4:K6 s.dr
    ·rw[if_pos c4] at hK
     refine aH Tryz.func25 ?_
     repeat' (first|refine Gw ?_|refine dw dV ?_|refine dw dQ ?_|refine wr ?_|refine w5 ?_ ?_|((refine bh fun h=>?_) <;> try exact w6 h)|(refine aE fun hA=>?_;subst hA)|intro _|(show aA _ 75 _ _ _;refine CA (h:=b5 (x:=x) (a:=a) (s:=s) (M:=M) (mc:=mc) ?_);rw[c1,if_neg Bool.false_ne_true])|(show aA _ 110 _ _ _;refine CA (h:=lG (sd:=s.sd) (nx:=s.nx) (la:=s.la) ?_))|(show aA _ 111 _ _ _;refine CA (h:=AE (d:=s.dr) ?_);rw[c4]))
     all_goals(refine aC ?_;exact aB (hK))
    ·rw[if_neg (by rw[c4];decide)] at hE hK
     by_cases c5:2147483647<s.nx∨min s.pe.st 32≤(fH s true:Nat)
     ·rw[if_pos c5] at hK
      refine aH Tryz.func25 ?_
      repeat' (first|refine Gw ?_|refine dw dV ?_|refine dw dQ ?_|refine wr ?_|refine w5 ?_ ?_|((refine bh fun h=>?_) <;> try exact w6 h)|(refine aE fun hA=>?_;subst hA)|intro _|(show aA _ 75 _ _ _;refine CA (h:=b5 (x:=x) (a:=a) (s:=s) (M:=M) (mc:=mc) ?_);rw[c1,if_neg Bool.false_ne_true])|(show aA _ 110 _ _ _;refine CA (h:=lG (sd:=s.sd) (nx:=s.nx) (la:=s.la) ?_))|(show aA _ 111 _ _ _;refine CA (h:=AE (d:=s.dr) ?_);rw[c4])|(show aA _ 84 _ _ _;refine CA (h:=qZ (x:=x) (a:=a) (s:=aD s) (M:=none) (mc:=0) (bF hI) ?_);rw[hown]))
      all_goals(refine aC ?_;exact aB (hK))
     ·rw[if_neg c5] at hE hK
      cases c6:l8 (qE s.nx kind on w xx)
      ·rw[if_pos c6] at hK
       refine aH Tryz.func25 ?_
       repeat' (first|refine Gw ?_|refine dw dV ?_|refine dw dQ ?_|refine wr ?_|refine w5 ?_ ?_|((refine bh fun h=>?_) <;> try exact w6 h)|(refine aE fun hA=>?_;subst hA)|intro _|(show aA _ 75 _ _ _;refine CA (h:=b5 (x:=x) (a:=a) (s:=s) (M:=M) (mc:=mc) ?_);rw[c1,if_neg Bool.false_ne_true])|(show aA _ 110 _ _ _;refine CA (h:=lG (sd:=s.sd) (nx:=s.nx) (la:=s.la) ?_))|(show aA _ 111 _ _ _;refine CA (h:=AE (d:=s.dr) ?_);rw[c4])|(show aA _ 84 _ _ _;refine CA (h:=qZ (x:=x) (a:=a) (s:=aD s) (M:=none) (mc:=0) (bF hI) ?_);rw[hown])|(show aA _ 112 _ _ _;refine CA (h:=Be (ps:= []) (show uP 2 s.nx false ⟨#[]⟩ kind on w xx 0 0 0 []=false from c6) eD rfl (show(0:Nat)<1000000000000000 by decide) ?_)))
       all_goals(refine aC ?_;exact aB (hK))
      ·rw[if_neg (by rw[c6];decide)] at hE hK
       by_cases c7:on=s.nx
       ·rw[if_pos c7] at hK
        refine aH Tryz.func25 ?_
        repeat' (first|refine Gw ?_|refine dw dV ?_|refine dw dQ ?_|refine wr ?_|refine w5 ?_ ?_|((refine bh fun h=>?_) <;> try exact w6 h)|(refine aE fun hA=>?_;subst hA)|intro _|(show aA _ 75 _ _ _;refine CA (h:=b5 (x:=x) (a:=a) (s:=s) (M:=M) (mc:=mc) ?_);rw[c1,if_neg Bool.false_ne_true])|(show aA _ 110 _ _ _;refine CA (h:=lG (sd:=s.sd) (nx:=s.nx) (la:=s.la) ?_))|(show aA _ 111 _ _ _;refine CA (h:=AE (d:=s.dr) ?_);rw[c4])|(show aA _ 84 _ _ _;refine CA (h:=qZ (x:=x) (a:=a) (s:=aD s) (M:=none) (mc:=0) (bF hI) ?_);rw[hown])|(show aA _ 112 _ _ _;refine CA (h:=iD (ps:= []) (show uP 2 s.nx false ⟨#[]⟩ kind on w xx 0 0 0 []=true from c6) eD rfl (show(0:Nat)<1000000000000000 by decide) ?_)))
        all_goals(refine aC ?_;exact aB (hK))
       ·rw[if_neg c7] at hE hK
        by_cases c8:64≤s.out.length
        ·rw[if_pos c8] at hK
         refine aH Tryz.func25 ?_
         repeat' (first|refine Gw ?_|refine dw dV ?_|refine dw dQ ?_|refine wr ?_|refine w5 ?_ ?_|((refine bh fun h=>?_) <;> try exact w6 h)|(refine aE fun hA=>?_;subst hA)|intro _|(show aA _ 75 _ _ _;refine CA (h:=b5 (x:=x) (a:=a) (s:=s) (M:=M) (mc:=mc) ?_);rw[c1,if_neg Bool.false_ne_true])|(show aA _ 110 _ _ _;refine CA (h:=lG (sd:=s.sd) (nx:=s.nx) (la:=s.la) ?_))|(show aA _ 111 _ _ _;refine CA (h:=AE (d:=s.dr) ?_);rw[c4])|(show aA _ 84 _ _ _;refine CA (h:=qZ (x:=x) (a:=a) (s:=aD s) (M:=none) (mc:=0) (bF hI) ?_);rw[hown])|(show aA _ 112 _ _ _;refine CA (h:=iD (ps:= []) (show uP 2 s.nx false ⟨#[]⟩ kind on w xx 0 0 0 []=true from c6) eD rfl (show(0:Nat)<1000000000000000 by decide) ?_))|(show aA _ 113 _ _ _;refine CA (h:=wG (out:=s.out) hI.ou ?_)))
         all_goals(refine aC ?_;exact aB (hK))
        ·rw[if_neg c8] at hE
         exact absurd rfl hE
 ·rw[c1,if_pos rfl] at hK
  refine aH Tryz.func25 ?_
  repeat' (first|refine Gw ?_|refine dw dV ?_|refine dw dQ ?_|refine wr ?_|refine w5 ?_ ?_|((refine bh fun h=>?_) <;> try exact w6 h)|(refine aE fun hA=>?_;subst hA)|intro _|(show aA _ 75 _ _ _;refine CA (h:=b5 (x:=x) (a:=a) (s:=s) (M:=M) (mc:=mc) ?_);rw[c1,if_pos rfl]))
  all_goals(refine aC ?_;exact aB (hK))
end
section
variable {s:Cn} {B id n kind sg on w:Int} {xx:Bool} {m:Sm} {d:ByteArray} {t:eE} {u:List UInt8} {f:Fm}
theorem Ae5 {cap:Nat} {bs:List UInt8} {en:Bool}:EO cap bs en d≤d.size:=by
 unfold EO
 split
 ·omega
 ·omega
theorem Aes {x:Xs}:JK (zO x d)≤JK x+d.size+1:=by
 cases x with
 |b z=>
  have:=Ae5 (cap:=z.cap) (bs:=z.bs) (en:=z.en) (d:=d)
  show z.ac+((EO z.cap z.bs z.en d:Nat):Int)≤z.ac+d.size+1
  omega
 |i z=>
  show(if z.en=true∨256<d.size then z else if z.l.length<z.cap then { z with l:=z.l++ [d],ac:=z.ac+1 } else if z.st=0 then z else if z.st=1∨z.cap=0 then { z with ac:=z.ac+1,dr:=z.dr+1 } else { z with l:=z.l.tail++ [d],ac:=z.ac+1,dr:=z.dr+1 }).ac≤z.ac+d.size+1
  repeat' split
  all_goals first|(dsimp only;omega)|omega
theorem Aex (h:ED B m):ED (B+d.size+1) (Al m d):=by
 obtain⟨h1,h2,h3,h4⟩:=h
 unfold Al
 split
 ·refine⟨h1,?_,by show Jn m.y≤_;omega,by show(hO m.y:Int)≤_;omega⟩
  have:=Aes (x:=m.x) (d:=d)
  show JK (zO m.x d)≤_
  omega
 ·exact⟨h1,by omega,by omega,by omega⟩
theorem NH:(Al m d).own=m.own:=by unfold Al;split <;> rfl
theorem Oe:(Au m).own=m.own:=by unfold Au;split <;> rfl
theorem Ag0 (h:ED B m):ED B (Au m):=by
 obtain⟨h1,h2,h3,h4⟩:=h
 unfold Au
 split
 ·refine⟨h1,?_,h3,h4⟩
  show JK (Ja m.x)≤B
  cases hx:m.x with
  |b z=>rw[hx] at h2;exact h2
  |i z=>rw[hx] at h2;exact h2
 ·exact⟨h1,h2,h3,h4⟩
theorem Afj (h:ED B m):ED B { m with y:=FX m.y n }:=by
 obtain⟨h1,h2,h3,h4⟩:=h
 refine⟨h1,h2,?_,?_⟩
 ·cases hy:m.y with
  |b z=>rw[hy] at h3;exact h3
  |i z=>
   rw[hy] at h3
   show(if 1≤n then { z with ask:=z.ask+min n (2147483647 - z.ask) } else z).ac≤B
   split <;> exact h3
 ·cases hy:m.y with
  |b z=>rw[hy] at h4;exact h4
  |i z=>
   rw[hy] at h4
   show((if 1≤n then { z with ask:=z.ask+min n (2147483647 - z.ask) } else z).l.length:Int)≤B
   split <;> exact h4
theorem U1 (h:bS B s) (hB:B+d.size+1≤250000000):bS (B+d.size+1) (qK id d s):=by
 have hb:=h.bb
 unfold qK
 split
 ·exact(bF h).mono (by omega) hB
 ·split
  ·rename_i m hm
   obtain⟨hi,hmid⟩:=aZ hm
   rw[eB (id:=id) (A8.trans hmid)]
   exact kZ (s:=aD s) ((bF h).mono (by omega) hB) hi A8 NH (Aex (h.st m (List.mem_of_getElem? hi)))
  ·exact h.mono (by omega) hB
theorem Agw (h:bS B s):bS B (BQ id s):=by
 unfold BQ
 split
 ·exact bF h
 ·split
  ·rename_i m hm
   obtain⟨hi,hmid⟩:=aZ hm
   rw[eB (id:=id) (AF.trans hmid)]
   exact kZ (s:=aD s) (bF h) hi AF Oe (Ag0 (h.st m (List.mem_of_getElem? hi)))
  ·exact h
theorem Y6 (h:bS B s):bS B (vQ id n s):=by
 unfold vQ
 split
 ·exact bF h
 ·split
  ·rename_i m hm
   obtain⟨hi,hmid⟩:=aZ hm
   split
   ·exact bF h
   ·rw[eB (id:=id) (show({ m with y:=Ej m.y n }:Sm).id=id from hmid)]
    have hI2:bS B { ({ aD s with rv:=fT s.rv ((BC m.y n).size:Nat) }:Cn) with l:=s.l.set (cB id s.l) { m with y:=Ej m.y n } }:=kZ (s:= { aD s with rv:=fT s.rv ((BC m.y n).size:Nat) }) (oM (bF h)) hi rfl rfl (Rw (h.st m (List.mem_of_getElem? hi)))
    exact D4 hI2 (lN (m':= { m with y:=Ej m.y n }) hm rfl)
  ·exact h
theorem Ya (h:bS B s):bS B (vO id s):=by
 unfold vO
 split
 ·exact bF h
 ·split
  ·rename_i m hm
   obtain⟨hi,hmid⟩:=aZ hm
   split
   ·exact bF h
   ·rw[eB (id:=id) (show({ m with y:=Ek m.y }:Sm).id=id from hmid)]
    have hI2:bS B { aD s with l:=s.l.set (cB id s.l) { m with y:=Ek m.y } }:=kZ (s:=aD s) (bF h) hi rfl rfl (QY (h.st m (List.mem_of_getElem? hi)))
    exact D4 hI2 (lN (m':= { m with y:=Ek m.y }) hm rfl)
  ·exact h
theorem Af0 (h:bS B s):bS B (BJ id n s):=by
 unfold BJ
 split
 ·exact bF h
 ·split
  ·rename_i m hm
   obtain⟨hi,hmid⟩:=aZ hm
   rw[eB (id:=id) (show({ m with y:=FX m.y n }:Sm).id=id from hmid)]
   exact kZ (s:=aD s) (bF h) hi rfl rfl (Afj (h.st m (List.mem_of_getElem? hi)))
  ·exact h
theorem Z3 (h:bS B s):bS B (vR id on w xx s):=by
 unfold vR
 split
 ·exact bF h
 ·exact Tl (qN (bF h))
theorem Ww (h:bS B s):bS B (qQ id n s):=by
 unfold qQ
 split
 ·exact bF h
 ·split
  ·rename_i m hm
   exact rS (s:= { aD s with out:=yZ (lX id n) s.out }) (qN (bF h)) hm
  ·exact h
theorem Ahk (h:bS B s):bS B (Jp s):=by
 unfold Jp
 split
 ·exact bF h
 ·exact Eu (qN (bF h))
theorem WW {z:F0} (h:z.l.length≤4∧vT z.h∧vT z.g∧∀t∈z.l,vT t):(d8 z t).l.length≤4∧vT (d8 z t).h∧vT (d8 z t).g∧∀q∈(d8 z t).l,vT q:=by
 obtain⟨h1,h2,h3,h4⟩:=h
 unfold d8
 by_cases hq:iA z t=0
 ·rw[if_pos hq]
  unfold iA at hq
  split at hq
  ·cases hq
  ·rename_i hc
   split at hq
   ·cases hq
   ·rename_i hl
    have hc:rY t.w t.st t.it=true:=by simpa using hc
    refine⟨by show(z.l++ [t]).length≤4;rw[List.length_append,List.length_singleton];omega,h2,?_,?_⟩
    ·unfold vT rY at *
     rw[decide_eq_true_eq] at *
     show _
     simp only[LL]
     omega
    ·intro q hq
     rcases List.mem_append.1 hq with hq|hq
     ·exact h4 q hq
     ·rw[List.mem_singleton.1 hq];exact hc
 ·rw[if_neg hq];exact⟨h1,h2,h3,h4⟩
theorem Zy (h:bS B s):bS B (BW t s):=by
 unfold BW
 split
 ·exact bF h
 ·exact { qN (f:=KM (LG (rD s.sh) t)) (bF h) with sh:=WW h.sh }
theorem ZW (h:bS B s) (hB:B+1≤250000000):bS (B+1) (qH s):=
 { h.mono (B':=B+1) (by omega) hB with now:=by have:=h.now;show 0≤s.now+1∧s.now+1≤B+1;omega }
theorem ZG (h:bS B s) (hB:B+1≤250000000):bS (B+1) (rU kind sg on w xx s):=by
 unfold rU
 split
 ·exact(bF h).mono (by omega) hB
 ·rename_i hE
  have hE:mY kind sg on w xx s=0:=by simpa using hE
  obtain⟨e1,e2,e3,e4,e5,e6,e7,e8,e9⟩:=BX hE
  have hnx:=h.nx
  have h64:=h.sm.1
  have hmv:=h.mv
  have hI1:=(II (qN (f:=qE s.nx kind on w xx) (bF h)) e5).mono (B':=B+1) (by omega) hB
  have hof:=Tb h e5
  refine TP (s:= { aD s with nx:=s.nx+2,out:=yZ (qE s.nx kind on w xx) s.out }) hI1 (Fl h e5) (show s.l.length<64 from Mp h (by omega)) ⟨by omega,e5⟩ ?_ (by show fH s true<32;omega) (by show(([]:List Mv).length:Int)+s.l.length+1≤B+1;simp only[List.length_nil];omega)
  show nS s.sd (s.nx+2) s.la s.nx=true
  unfold nS
  rw[hof]
  simp only[Bool.and_eq_true,decide_eq_true_eq,if_true]
  omega
theorem Ar:∀ {fs:List Fm} {s:Cn} {B:Int},bS B s→(∀f∈fs,cX f)→B+300 * fs.length≤250000000→bS (B+300 * fs.length) (d4 fs s)
 | [],s,B,h,_,hB=>h.mono (by simp) hB
 |f::r,s,B,h,hr,hB=>by
  have e:(f::r).length=r.length+1:=rfl
  rw[e] at hB ⊢
  have h1:=Cx h (by omega) (hr f (List.mem_cons_self ..))
  unfold d4
  split
  ·exact h1.mono (by omega) hB
  ·exact(Ar h1 (fun z hz=>hr z (List.mem_cons_of_mem _ hz)) (by omega)).mono (by omega) hB
theorem Cd {bs:List UInt8}:∀f∈(pF bs).1.map Ke,cX f:=fun f hf=>by
 obtain⟨p,hp,rfl⟩:=List.mem_map.1 hf
 exact Qd (Zi bs.length bs (Nat.le_refl _) p hp)
theorem YT (h:bS B s) (hB:B+u.length+300 * (pF (s.inb++u)).1.length≤250000000):bS (B+u.length+300 * (pF (s.inb++u)).1.length) (lB u s):=by
 have hb:=h.bb
 unfold lB
 split
 ·exact(bF h).mono (by omega) hB
 ·have h1:=HZ (u:=u) h (by omega)
  have hl:((pF (s.inb++u)).1.map Ke).length=(pF (s.inb++u)).1.length:=List.length_map ..
  have h2:=Ar (fs:=(iQ u (aD s)).1) h1 Cd (by show B+u.length+300 * ((((pF (s.inb++u)).1.map Ke).length:Nat):Int)≤250000000;rw[hl];exact hB)
  have h3:bS (B+u.length+300 * (pF (s.inb++u)).1.length) (d4 (iQ u (aD s)).1 (iQ u (aD s)).2):=h2.mono (by show B+u.length+300 * ((((pF (s.inb++u)).1.map Ke).length:Nat):Int)≤_;rw[hl];omega) hB
  split
  ·exact h3
  ·exact iM h3
end
section
variable {R C:List HP} {K:Value→List HP→Prop} {x mc i b p r t:Nat} {a:Ca} {s:Cn} {M:Option Addr} {B id n:Int} {m:Sm} {l:List Sm} {z:Xs} {y:Ys}
def Y9:Xs→Prop
 |.b x=>TB x.cap x.bs x.en x.ou x.ac x.se x.dr
 |.i x=>TI x.cap x.st x.l x.w x.en x.ou x.ac x.se x.dr
def TN:Ys→Prop
 |.b y=>RB y.cap y.most y.gr y.got y.us y.bs
 |.i y=>RI y.mr y.room y.op y.ask y.l y.ac y.tk y.dr
theorem TW {H:Hp} (h:bV (AV t z::R) H):Y9 z:=by
 cases z with
 |b z=>
  obtain⟨r,h⟩:=h.ex
  exact(aG.cons aG.unsep H (aG.unsep H h)).tail.tail.pure.1
 |i z=>
  obtain⟨q,h⟩:=h.ex
  obtain⟨d,h⟩:=h.ex
  exact(aG.cons (aG.cons aG.unsep) H (aG.cons aG.unsep H (aG.unsep H h))).tail.tail.tail.pure.1
theorem Un {H:Hp} (h:bV (CO r y::R) H):TN y:=by
 cases y with
 |b y=>
  obtain⟨q,h⟩:=h.ex
  obtain⟨d,h⟩:=h.ex
  exact(aG.cons (aG.cons aG.unsep) H (aG.cons aG.unsep H (aG.unsep H h))).tail.tail.tail.pure.1
 |i y=>
  obtain⟨q,h⟩:=h.ex
  obtain⟨d,h⟩:=h.ex
  exact(aG.cons (aG.cons aG.unsep) H (aG.cons aG.unsep H (aG.unsep H h))).tail.tail.tail.pure.1
def Q9 (m:Sm):Prop:=Y9 m.x∧TN m.y∧xA m
theorem Aa1 {H:Hp} (h:bV (rT b m::R) H):Q9 m:=by
 obtain⟨li,h⟩:=h.ex
 obtain⟨t,h⟩:=h.ex
 obtain⟨r,h⟩:=h.ex
 obtain⟨hok,h⟩:=(rR H h).pure
 exact⟨TW h.tail.tail,Un h.tail.tail.tail,hok⟩
theorem HI:∀ {q:List (i6×Sm)} {R:List HP} {H:Hp},bV (d5 Qv q::R) H→∀e∈q,Q9 e.2
 | [],_,_,_,e,he=>by cases he
 |e0::q,R,H,h,e,he=>by
  have h1:=Dv H h
  rcases List.mem_cons.1 he with rfl|he
  ·exact Aa1 h1
  ·exact HI h1.tail e he
theorem PI {H:Hp} (h:bV (Hg p l::R) H):∀m∈l,Q9 m:=fun m hm=>by
 obtain⟨A,h⟩:=h.ex
 obtain⟨c,h⟩:=h.ex
 obtain⟨q,h⟩:=h.ex
 obtain⟨hI,h⟩:=(rG H h).pure
 rw[← hI.1] at hm
 obtain⟨e,he,rfl⟩:=List.mem_map.1 hm
 exact HI h.tail.tail e he
theorem Ab7 {f:FuncId} {args:Array Value} {P:Program} (h:(∀m∈s.l,Q9 m)→aA P f args (bY x a s M mc R) K):aA P f args (bY x a s M mc R) K:=aA.fact (fun _ hs=>PI hs.tail.tail) h
theorem Ae9 (h:Y9 z):He z≤4096∧JK z=xSe z+xDr z+He z∧0≤xSe z∧0≤xDr z∧JK z≤900000000:=by
 cases z with
 |b z=>obtain⟨h1,h2,h3,h4,h5,h6,h7⟩:=h;simp only[He,JK,xSe,xDr];omega
 |i z=>obtain⟨h1,h2,h3,h4,h5,h6,h7⟩:=h;simp only[He,JK,xSe,xDr];omega
theorem Ael (h:TN y):hO y≤4096:=by
 cases y with
 |b y=>obtain⟨h1,h2,h3,h4,h5,h6,h7,h8,h9⟩:=h;simp only[hO];omega
 |i y=>obtain⟨h1,h2,h3,h4,h5,h6,h7,h8,h9⟩:=h;simp only[hO];omega
theorem X1 (hK:He z≤4096→K (.int .i64 (He z:Nat)) (AV t z::R)):aA Tryz.prog 88 #[.agg #[.int .i64 (JK z),.int .i64 (xSe z),.int .i64 (xDr z)]] (AV t z::R) K:=aA.fact (fun _ hs=>TW hs) fun hf=>by
 obtain⟨h1,h2,h3,h4,h5⟩:=Ae9 hf
 have hK:=hK h1
 have e:((He z:Nat):Int)=JK z - xSe z - xDr z:=by omega
 rw[e] at hK
 exact fZ ⟨h3,h4,by omega,by omega,by omega,by omega⟩ hK
theorem WI (hK:hO y≤4096→K (.int .i64 (hO y:Nat)) (CO r y::R)):aA Tryz.prog 90 #[.pointer (some ⟨r,0,none⟩)] (CO r y::R) K:=aA.fact (fun _ hs=>Un hs) fun hf=>Acr (hK (Ael hf))
theorem Bh (hs:FY l) (hm:l[i]?=some m) (hK:∀b li t r,xA m→K (.tuple #[.int .i64 m.id,.pointer (some ⟨b,0,none⟩),.bool true]) (pt b [.pointer (some ⟨li,0,none⟩),.pointer (some ⟨t,0,none⟩),.pointer (some ⟨r,0,none⟩),.int .i64 m.id,.bool m.own] 258::oR li m.sta::AV t m.x::CO r m.y::Nh p l i b::R)):aA Tryz.prog 85 #[.pointer (some ⟨p,0,none⟩),.int .i64 i] (Hg p l::R) K:=
 aA.satsK (K':=fun v C'=>∃b,v=.tuple #[.int .i64 m.id,.pointer (some ⟨b,0,none⟩),.bool true]∧C'=rT b m::Nh p l i b::R) (Em hs hm fun b=>⟨b,rfl,rfl⟩) fun v C' H ⟨b,hv,hC⟩ hS=>by
  subst hv hC
  obtain⟨li,hS⟩:=hS.ex
  obtain⟨t,hS⟩:=hS.ex
  obtain⟨r,hS⟩:=hS.ex
  obtain⟨hok,hS⟩:=(rR H hS).pure
  exact⟨_,hS,hK b li t r hok⟩
theorem OI (hs:FY l) (hm:b7 id l=some m) (hK:∀b li t r,xA m→K (.tuple #[.pointer (some ⟨b,0,none⟩),.bool true]) (pt b [.pointer (some ⟨li,0,none⟩),.pointer (some ⟨t,0,none⟩),.pointer (some ⟨r,0,none⟩),.int .i64 m.id,.bool m.own] 258::oR li m.sta::AV t m.x::CO r m.y::Nh p l (cB id l) b::R)):aA Tryz.prog 192 #[.pointer (some ⟨p,0,none⟩),.int .i64 id] (Hg p l::R) K:=
 aA.satsK (K':=fun v C'=>∃b,v=.tuple #[.pointer (some ⟨b,0,none⟩),.bool true]∧C'=rT b m::Nh p l (cB id l) b::R) (f7 hs hm fun b=>⟨b,rfl,rfl⟩) fun v C' H ⟨b,hv,hC⟩ hS=>by
  subst hv hC
  obtain⟨li,hS⟩:=hS.ex
  obtain⟨t,hS⟩:=hS.ex
  obtain⟨r,hS⟩:=hS.ex
  obtain⟨hok,hS⟩:=(rR H hS).pure
  exact⟨_,hS,hK b li t r hok⟩
def Zs (l:List Sm):Nat:=(l.map fun m=>He m.x).sum
def Z9 (l:List Sm):Nat:=(l.map fun m=>hO m.y).sum
theorem Yk {j:Nat} (h:l[j]?=some m):Zs (l.take (j+1))=Zs (l.take j)+He m.x:=by
 unfold Zs
 rw[List.take_add_one,h]
 simp
theorem Ab6 {j:Nat} (h:l[j]?=some m):Z9 (l.take (j+1))=Z9 (l.take j)+hO m.y:=by
 unfold Z9
 rw[List.take_add_one,h]
 simp
def GO (s:Cn):Value:=.agg #[.int .i64 s.l.length,.int .i64 (fH s true:Nat),.int .i64 (Zs s.l:Nat),.int .i64 (Z9 s.l:Nat),.bool s.dr.ov,.int .i64 s.dr.co,.int .i64 s.now]
def oP:Tr:=(.br (.st 0 1 (.st 1 1 (.st 2 1 (.st 3 1 (.st 4 2 (.br (.st 5 2 (.st 6 2 (.st 14 3 (.st 7 3 (.st 8 3 (.st 9 3 (.st 10 3 (.st 11 3 (.st 12 3 (.st 13 1 (.st 15 1 .nil))))))))))) (.st 14 3 (.st 5 2 (.st 6 2 (.st 7 3 (.st 8 3 (.st 9 3 (.st 10 3 (.st 11 3 (.st 12 3 (.st 13 1 (.st 15 1 .nil))))))))))))))))) (.st 14 3 (.st 0 1 (.st 1 1 (.st 2 1 (.st 3 1 (.st 4 2 (.st 5 2 (.st 6 2 (.st 7 3 (.st 8 3 (.st 9 3 (.st 10 3 (.st 11 3 (.st 12 3 (.st 13 1 (.st 15 1 .nil)))))))))))))))))
def nZ:List (Nat×Nat):= [(2,0),(3,1),(4,1),(5,1),(0,3),(1,3),(6,0),(7,0),(8,1)]
def nJ:List (Nat×Nat):= [(2,0),(3,1),(4,1),(0,2),(1,2),(5,0),(6,0),(7,1)]
theorem WA (hI:bS B s) (hK:K (GO s) (bY x a s M mc R)):aA Tryz.prog 16 #[.pointer (some ⟨x,0,none⟩)] (bY x a s M mc R) K:=by
 have h64:=hI.sm.1
 unfold GO at hK
 dsimp only[bY,pM] at hK ⊢
 refine aH Tryz.func16 ?_
 repeat' (first|refine Yq ?_|refine Gm oP ?_|refine dw nZ ?_|refine dw nJ ?_|refine wr ?_|refine w5 ?_ ?_|((refine bh fun h=>?_) <;> try exact w6 h)|(refine aE fun hA=>?_;subst hA)|intro _|(show aA _ 82 _ _ _;refine CA (h:=HQ (d:=s.dr) ?_))|(show aA _ 83 _ _ _;refine CA (h:=x8 (l:=s.l) ?_))|(show aA _ 84 _ _ _;refine CA (h:=qZ (x:=x) (a:=a) (s:=s) (M:=M) (mc:=mc) hI ?_)))
 all_goals
  rename_i r2 r5
  refine iL (fun n a' C'=>∃j:Nat,j+n=s.l.length∧Zs (s.l.take j)≤4096 * j∧Z9 (s.l.take j)≤4096 * j∧dC a' [(0,.pointer (some ⟨x,0,none⟩)),(2,.pointer (some ⟨r2,0,none⟩)),(5,.pointer (some ⟨r5,0,none⟩)),(39,.int .i64 s.l.length),(40,.int .i64 j)]∧C'=pt r2 [.int .i64 0,.int .i64 0,.int .i64 0,.int .i64 0,.bool false,.int .i64 0,.int .i64 0] 53::pt r5 [.int .i64 s.l.length,.int .i64 (fH s true:Nat),.int .i64 (Zs (s.l.take j):Nat),.int .i64 (Z9 (s.l.take j):Nat),.bool s.dr.ov,.int .i64 s.dr.co,.int .i64 s.now] 53::bY x a s M mc R) s.l.length (cC s.l.length ⟨0,by omega,by simp[Zs],by simp[Z9],⟨rfl,rfl,rfl,rfl,rfl,trivial⟩,rfl⟩ (by omega)) ?_
  rintro n a' C' ⟨j,hj,hw,hk,ha,rfl⟩
  refine gV _ ha ?_
  simp only[fN]
  by_cases hlt:j<s.l.length
  ·obtain⟨m,hm⟩:∃m,s.l[j]?=some m:=⟨_,List.getElem?_eq_getElem hlt⟩
   have hw2:=Yk hm
   have hk2:=Ab6 hm
   have hw3:((Zs (s.l.take j):Nat):Int)+((He m.x:Nat):Int)=(Zs (s.l.take (j+1)):Nat):=by omega
   have hk3:((Z9 (s.l.take j):Nat):Int)+((hO m.y:Nat):Int)=(Z9 (s.l.take (j+1)):Nat):=by omega
   repeat' (first|refine Yq ?_|refine Gm oP ?_|refine dw nZ ?_|refine dw nJ ?_|refine wr ?_|refine w5 ?_ ?_|((refine bh fun h=>?_) <;> try exact w6 h)|(refine aE fun hA=>?_;subst hA)|intro _|(show aA _ 85 _ _ _;refine CA (h:=Em (l:=s.l) hI.sm hm (fun _=>?_)))|(show aA _ 86 _ _ _;refine CA (h:=L8 (m:=m) (fun _=>?_)))|(show aA _ 87 _ _ _;refine CA (h:=Zw (x:=m.x) ?_))|(show aA _ 88 _ _ _;refine CA (h:=X1 (z:=m.x) (fun hxl=>?_)))|(show aA _ 89 _ _ _;refine CA (h:=aA.ent (HS (m:=m) (z:=m.x) rfl) (qP (m:=m) (fun _=>?_))))|(show aA _ 90 _ _ _;refine CA (h:=WI (y:=m.y) (fun hyl=>?_))))
   all_goals rw[hw3,hk3]
   all_goals(show aV _ _ _ _;exact sO (m:=n - 1) (C':=pt r2 [.int .i64 0,.int .i64 0,.int .i64 0,.int .i64 0,.bool false,.int .i64 0,.int .i64 0] 53::pt r5 [.int .i64 s.l.length,.int .i64 (fH s true:Nat),.int .i64 (Zs (s.l.take (j+1)):Nat),.int .i64 (Z9 (s.l.take (j+1)):Nat),.bool s.dr.ov,.int .i64 s.dr.co,.int .i64 s.now] 53::bY x a s M mc R) (by omega) (aG.trans (by exact aY) (aG.trans (aG.cons (A:=pt r2 [.int .i64 0,.int .i64 0,.int .i64 0,.int .i64 0,.bool false,.int .i64 0,.int .i64 0] 53) (aG.cons (A:=pt r5 [.int .i64 s.l.length,.int .i64 (fH s true:Nat),.int .i64 (Zs (s.l.take (j+1)):Nat),.int .i64 (Z9 (s.l.take (j+1)):Nat),.bool s.dr.ov,.int .i64 s.dr.co,.int .i64 s.now] 53) (mM (m:=m) (y:=m.y) rfl))) (aG.cons (aG.cons (dY (x:=x) (a:=a) (s:=s) (M:=M) (mc:=mc) (R:=R) hm))))) ⟨j+1,by omega,by omega,by omega,⟨rfl,rfl,rfl,rfl,rfl,trivial⟩,rfl⟩)
  ·obtain rfl:j=s.l.length:=by omega
   rw[List.take_length]
   repeat' (first|refine Yq ?_|refine Gm oP ?_|refine dw nZ ?_|refine dw nJ ?_|refine wr ?_|refine w5 ?_ ?_|((refine bh fun h=>?_) <;> try exact w6 h)|(refine aE fun hA=>?_;subst hA)|intro _)
   all_goals(refine aC ?_;exact aB (hK))
end
section
variable {R C:List HP} {K:Value→List HP→Prop} {x mc i b p r:Nat} {a:Ca} {s:Cn} {M:Option Addr} {B id n:Int} {m:Sm} {l:List Sm}
theorem Ac3 {f:Fm}:aG (pt r [.int .i64 f.t,.int .i64 f.st,.bool f.e,.string f.d,.int .i64 f.k,.int .i64 f.on,.int .i64 f.w,.bool f.x,.int .i64 f.c,.int .i64 f.la,.int .i64 f.n,.slice f.pa f.pn f.pc] 45::R) (bU (some ⟨r,0,none⟩) 1 45 uM [f]::R):=fun H hs=>by
 refine hJ (pre:= []) (post:= []) rfl ?_ (Nat.le_refl _) (by simp)
 rw[show [f].flatMap uM.enc=uM.enc f from by simp,List.nil_append,List.append_nil]
 exact hs
theorem LM (h:bS B s) (hB:B+1≤250000000):bS (B+1) { s with bt:=gA s.bt s.now }:=
 { h.mono (B':=B+1) (by omega) hB with
   bt:=by
    have h1:=h.bt
    have h2:=h.now
    show(0≤(gA s.bt s.now).no∧(gA s.bt s.now).no≤B+1)∧(0≤(gA s.bt s.now).he∧(gA s.bt s.now).he≤B+1)∧(0≤(gA s.bt s.now).si∧(gA s.bt s.now).si≤B+1)∧0≤(gA s.bt s.now).nn∧(gA s.bt s.now).nn≤B+1
    unfold gA
    repeat' split
    all_goals first|(dsimp only;omega)|omega }
theorem Gd {q:Bool} (h:bS B s):bS B { s with sl:=nC s.sl s.now q }:=
 { h with
   sl:=by
    have h1:=h.sl
    have h2:=h.now
    show(0≤(nC s.sl s.now q).nw∧(nC s.sl s.now q).nw≤B)∧0≤(nC s.sl s.now q).si∧(nC s.sl s.now q).si≤B
    unfold nC
    repeat' split
    all_goals first|(dsimp only;omega)|omega }
theorem Ih (h:bS B s) (hB:B+1≤250000000):bS (B+1) (bG s):=by
 have h1:=LM h hB
 unfold bG
 split
 ·exact iM h1
 ·split
  ·exact iM (s:= { s with bt:=gA s.bt s.now,sl:=nC s.sl s.now (sK s) }) (Gd (q:=sK s) h1)
  ·exact Gd (q:=sK s) h1
theorem ZA {f:Sm→Bool} {j:Nat} (h:l[j]?=some m):(l.take (j+1)).any f=((l.take j).any f || f m):=by
 rw[List.take_add_one,h]
 simp
def dW:List (Nat×Nat):= [(0,0),(1,0),(2,0),(3,0),(4,0),(5,0),(6,0),(7,0),(8,1),(9,0),(10,0),(11,0),(12,0),(13,0)]
def dU:List (Nat×Nat):= [(0,0),(1,0),(2,0),(3,0),(4,0),(5,0),(6,1),(7,0),(8,0),(9,1),(10,1),(11,1),(12,1),(13,1),(14,1),(15,1),(16,1),(17,0),(18,0),(19,0)]
def dE:List (Nat×Nat):= [(0,0),(1,0),(2,0),(3,0),(4,0),(5,0),(6,0),(7,0),(8,0),(9,1),(10,0)]
theorem FH (hI:bS B s) (hB:B+1≤250000000) (hK:∀A c M mc,K (.slice A (fC s).length c) (bU A c 45 uM (fC s)::bY x a (bG s) M mc R)):aA Tryz.prog 92 #[.pointer (some ⟨x,0,none⟩)] (bY x a s M mc R) K:=by
 have hbb:=hI.bb
 have hnw:=hI.now
 have hsl:=hI.sl
 have h64:=hI.sm.1
 have hI1:=LM hI hB
 have hld:=hI.ld.ok (by omega)
 dsimp only[bY,pM]
 refine aH Tryz.func92 ?_
 repeat' (first|refine XD ?_|refine dw dW ?_|refine dw dU ?_|refine dw dE ?_|refine wr ?_|refine w5 ?_ ?_|((refine bh fun h=>?_) <;> try exact w6 h)|(refine aE fun hA=>?_;subst hA)|intro _|(show aA _ 181 _ _ _;refine CA (h:=Xa (b:=s.bt) (Ag4 hI) (by omega) ?_))|(show aA _ 83 _ _ _;refine CA (h:=x8 (l:=s.l) ?_)))
 refine iL (fun n a' C'=>∃(j:Nat) (q:Bool),j+n=s.l.length∧q=(s.l.take j).any (HJ s.ld)∧dC a' [(0,.pointer (some ⟨x,0,none⟩)),(3,.int .i64 (Qt s.bt s.now)),(4,.string (btD s.bt s.now)),(5,.bool q),(26,.int .i64 s.l.length),(27,.int .i64 j)]∧C'=bY x a { s with bt:=gA s.bt s.now } M mc R) s.l.length (cC s.l.length ⟨0,false,by omega,by simp,⟨rfl,rfl,rfl,rfl,rfl,rfl,trivial⟩,rfl⟩ (by omega)) ?_
 rintro n a' C' ⟨j,q,hj,hq,ha,rfl⟩
 refine gV _ ha ?_
 simp only[fN]
 by_cases hlt:j<s.l.length
 ·obtain⟨m,hm⟩:∃m,s.l[j]?=some m:=⟨_,List.getElem?_eq_getElem hlt⟩
  have hany:=ZA (f:=HJ s.ld) hm
  rw[← hq] at hany
  dsimp only[bY,pM]
  cases q
  ·rw[Bool.false_or] at hany
   cases hg:SH m
   ·have hs:HJ s.ld m=false:=by unfold HJ;rw[hg];rfl
    have hg2:decide (m.sta=1∨m.sta=3)=false:=hg
    repeat' (first|refine XD ?_|refine dw dW ?_|refine dw dU ?_|refine dw dE ?_|refine wr ?_|refine w5 ?_ ?_|((refine bh fun h=>?_) <;> try exact w6 h)|(refine aE fun hA=>?_;subst hA)|intro _|(show aA _ 85 _ _ _;refine CA (h:=Bh (l:=s.l) hI.sm hm (fun bq li t r hok=>?_)))|(show aA _ 182 _ _ _;refine CA (h:=nU (s:=m.sta) ?_);rw[hg2]))
    all_goals(show aV _ _ _ _;exact sO (m:=n - 1) (by omega) (aG.trans (by exact aY) (aG.trans (cK (m:=m) hok) (dY (x:=x) (a:=a) (s:= { s with bt:=gA s.bt s.now }) (M:=M) (mc:=mc) (R:=R) hm))) ⟨j+1,false,by omega,by rw[hany,hs],⟨rfl,rfl,rfl,rfl,rfl,rfl,trivial⟩,rfl⟩)
   ·have hs:HJ s.ld m=Afr m.x (bC m.id s.ld):=by unfold HJ;rw[hg];rfl
    have hg2:decide (m.sta=1∨m.sta=3)=true:=hg
    repeat' (first|refine XD ?_|refine dw dW ?_|refine dw dU ?_|refine dw dE ?_|refine wr ?_|refine w5 ?_ ?_|((refine bh fun h=>?_) <;> try exact w6 h)|(refine aE fun hA=>?_;subst hA)|intro _|(show aA _ 85 _ _ _;refine CA (h:=Bh (l:=s.l) hI.sm hm (fun bq li t r hok=>?_)))|(show aA _ 182 _ _ _;refine CA (h:=nU (s:=m.sta) ?_);rw[hg2])|(show aA _ 86 _ _ _;refine CA (h:=L9 ?_))|(show aA _ 184 _ _ _;refine CA (h:=tD (s:=s.ld) hld ?_))|(show aA _ 183 _ _ _;refine CA (h:=Ado (x:=m.x) ?_)))
    all_goals(show aV _ _ _ _;exact sO (m:=n - 1) (by omega) (aG.trans (by exact aY) (aG.trans (cK (m:=m) hok) (dY (x:=x) (a:=a) (s:= { s with bt:=gA s.bt s.now }) (M:=M) (mc:=mc) (R:=R) hm))) ⟨j+1,Afr m.x (bC m.id s.ld),by omega,by rw[hany,hs],⟨rfl,rfl,rfl,rfl,rfl,rfl,trivial⟩,rfl⟩)
  ·rw[Bool.true_or] at hany
   repeat' (first|refine XD ?_|refine dw dW ?_|refine dw dU ?_|refine dw dE ?_|refine wr ?_|refine w5 ?_ ?_|((refine bh fun h=>?_) <;> try exact w6 h)|(refine aE fun hA=>?_;subst hA)|intro _|(show aA _ 85 _ _ _;refine CA (h:=Em (l:=s.l) hI.sm hm (fun _=>?_))))
   all_goals(show aV _ _ _ _;exact sO (m:=n - 1) (by omega) (aG.trans (by exact aY) (dY (x:=x) (a:=a) (s:= { s with bt:=gA s.bt s.now }) (M:=M) (mc:=mc) (R:=R) hm)) ⟨j+1,true,by omega,hany.symm,⟨rfl,rfl,rfl,rfl,rfl,rfl,trivial⟩,rfl⟩)
 ·obtain rfl:j=s.l.length:=by omega
  rw[List.take_length] at hq
  have hq:q=sK s:=hq
  subst hq
  dsimp only[bY,pM]
  unfold fC bG at hK
  by_cases h2:Qt s.bt s.now=2
  ·rw[if_pos (.inl h2)] at hK
   simp only[if_pos h2] at hK
   repeat' (first|(show Br _ _ _;refine Br.t (by first | (simp <;> done) | simpa using h2) ?_)|refine XD ?_|refine dw dW ?_|refine dw dU ?_|refine dw dE ?_|refine wr ?_|refine w5 ?_ ?_|((refine bh fun h=>?_) <;> try exact w6 h)|(refine aE fun hA=>?_;subst hA)|intro _|(show aA _ 79 _ _ _;refine CA (h:=dH (x:=x) (a:=a) (s:= { s with bt:=gA s.bt s.now }) hI1 (by decide) (by decide) (fun _ _=>?_))))
   all_goals(refine aC ?_;exact aB (hK none 0 _ _))
  ·cases hf:AY s.sl s.now (sK s)
   ·by_cases h1:Qt s.bt s.now=1
    ·rw[if_neg (by rw[hf];simp[h1])] at hK
     simp only[if_neg h2,hf,Bool.false_eq_true,if_false] at hK
     repeat' (first|(show Br _ _ _;first|refine Br.f (by first | (simp <;> done) | simpa using h2) ?_|refine Br.t (by first | (simp <;> done) | simpa using h1) ?_)|refine XD ?_|refine dw dW ?_|refine dw dU ?_|refine dw dE ?_|refine wr ?_|refine w5 ?_ ?_|((refine bh fun h=>?_) <;> try exact w6 h)|(refine aE fun hA=>?_;subst hA)|intro _|(show aA _ 185 _ _ _;refine CA (h:=EX (s:=s.sl) (n:=s.now) (b:=sK s) (by omega) (by omega) (by omega) ?_);rw[hf]))
     all_goals(refine aC ?_;exact aK (aG.trans (by exact aY) ((Ac3 (f:=vW 7 0 (btD s.bt s.now) false)))) (hK _ _ _ _))
    ·rw[if_pos (.inr (.inr h1))] at hK
     simp only[if_neg h2,hf,Bool.false_eq_true,if_false] at hK
     repeat' (first|(show Br _ _ _;first|refine Br.f (by first | (simp <;> done) | simpa using h2) ?_|refine Br.f (by first | (simp <;> done) | simpa using h1) ?_)|refine XD ?_|refine dw dW ?_|refine dw dU ?_|refine dw dE ?_|refine wr ?_|refine w5 ?_ ?_|((refine bh fun h=>?_) <;> try exact w6 h)|(refine aE fun hA=>?_;subst hA)|intro _|(show aA _ 185 _ _ _;refine CA (h:=EX (s:=s.sl) (n:=s.now) (b:=sK s) (by omega) (by omega) (by omega) ?_);rw[hf]))
     all_goals(refine aC ?_;exact aB (hK none 0 _ _))
   ·rw[if_pos (.inr (.inl hf))] at hK
    simp only[if_neg h2,hf,if_true] at hK
    repeat' (first|(show Br _ _ _;refine Br.f (by first | (simp <;> done) | simpa using h2) ?_)|refine XD ?_|refine dw dW ?_|refine dw dU ?_|refine dw dE ?_|refine wr ?_|refine w5 ?_ ?_|((refine bh fun h=>?_) <;> try exact w6 h)|(refine aE fun hA=>?_;subst hA)|intro _|(show aA _ 185 _ _ _;refine CA (h:=EX (s:=s.sl) (n:=s.now) (b:=sK s) (by omega) (by omega) (by omega) ?_);rw[hf])|(show aA _ 79 _ _ _;refine CA (h:=dH (x:=x) (a:=a) (s:= { s with bt:=gA s.bt s.now,sl:=nC s.sl s.now (sK s) }) (Gd (q:=sK s) hI1) (by decide) (by decide) (fun _ _=>?_))))
    all_goals(refine aC ?_;exact aB (hK none 0 _ _))
end
end Go.Proofs.YtifgibijcmppmaaGreat
