/- A part of the proof: lemmas; each with the conditions that it states. -/
import Derived.Test.YtffnpejdkkohcaaGreatBbf
set_option linter.unusedVariables false
set_option linter.unusedSimpArgs false
set_option maxRecDepth 100000
set_option maxHeartbeats 40000000
namespace Go.Proofs.YtffnpejdkkohcaaGreat
open Go Go.Proofs Go.Sl
attribute [local irreducible] aM eY cU bQ aL aW aA dS dT aZ dR pt ro fN star sep bH
attribute [local irreducible] mp FV
variable {R C:List HP} {K:KP} {x mc i b p r j:Nat} {a:Ca} {s:Cn} {M:Option Addr} {B id n kind sg on w:Int} {m:Sm} {d:ByteArray} {f:Fm} {xx:Bool} {u bs:List UInt8} {l:List Sm} {z:Xs} {H:Hp}
section
variable {y:Ys}
theorem tM (h:bR B s):bR B { s with out:=z8 f s.out }:= { h with ou:=Fj h.ou }
end
section
variable {y:Ys} {t:dI}
theorem IL {i u v:Int} {l:List Pr}:(I2 i u v l).length<=l.length+1:=by
 unfold I2
 split <;> simp
theorem UL {u v:dI}:(Ix u v).length<=3:=by
 unfold Ix
 have h1:=IL (i:=1) (u:=u.w) (v:=v.w) (l:= [])
 have h2:=IL (i:=2) (u:=u.st) (v:=v.st) (l:=I2 1 u.w v.w [])
 have h3:=IL (i:=3) (u:=u.it) (v:=v.it) (l:=I2 2 u.st v.st (I2 1 u.w v.w []))
 simp only[List.length_nil] at h1
 omega
end
theorem S1 (h:bR B s) (hn:s.nx<=2147483647):Qm s.sd s.nx=true:=by
 have h1:=h.nx
 have h2:=h.sd
 unfold Qm
 simp only[Bool.and_eq_true,decide_eq_true_eq,beq_iff_eq,decide_eq_decide]
 refine⟨by omega,h1.2.2⟩
theorem Et (h:bR B s) (hn:s.nx<=2147483647):bX s.nx s.l=none:=by
 cases hm:bX s.nx s.l with
 |none=>rfl
 |some m=>
  obtain⟨hi,hid⟩:=aX hm
  have h4:=h.ids m (List.mem_of_getElem? hi)
  rw[hid] at h4
  unfold jV at h4
  rw[S1 h hn] at h4
  simp only[Bool.and_eq_true,decide_eq_true_eq,if_true] at h4
  omega
theorem Mi (h:bR B s) (ho:fJ s true<32):s.l.length<64:=by
 have h2:=h.own false
 have h3:=LU s.l
 unfold fJ at *
 omega
theorem IP (h:bR B s) (hn:s.nx<=2147483647):bR B { s with nx:=s.nx+2 }:=
 { h with
   nx:=by
    have:=h.nx
    show 1<=s.nx+2/\s.nx+2<=2147483649/\((s.nx+2) % 2=1↔s.sd=0)
    omega
   ids:=fun z hz=>by
    have h1:=h.ids z hz
    show jV s.sd (s.nx+2) s.la z.id=true
    unfold jV at h1 ⊢
    simp only[Bool.and_eq_true,decide_eq_true_eq] at h1 ⊢
    refine⟨h1.1,?_⟩
    have h3:=h1.2
    split at h3
    ·rename_i hq;rw[if_pos hq];simp only[decide_eq_true_eq] at h3 ⊢;omega
    ·rename_i hq;rw[if_neg hq];exact h3 }
theorem CV (h:j2 kind sg on w xx s=0):s.dr.ov=false/\(kind=1\/kind=2)/\(0<=sg/\sg<=2)/\KW s.dr=true/\s.nx<=2147483647/\(fJ s true:Nat)<min s.pe.st 32/\l7 (q6 s.nx kind on w xx)=true/\on≠s.nx/\s.out.length<64:=by
 unfold j2 at h
 repeat' split at h
 all_goals first|(exfalso;revert h;decide)|skip
 rename_i h1 h2 h3 h4 h5 h6 h7 h8
 refine⟨by cases hq:s.dr.ov <;> first|rfl|exact absurd hq h1,by omega,by omega,by cases hq:KW s.dr <;> first|rfl|exact absurd hq h4,by omega,by omega,by cases hq:l7 (q6 s.nx kind on w xx) <;> first|rfl|exact absurd hq h6,h7,by omega⟩
def BJ:List (Nat×Nat):= [(0,0),(1,0),(2,0),(3,0),(4,1),(5,1),(6,1),(7,1),(8,1),(9,1),(10,1),(11,0),(12,0),(13,0)]
def BW:List (Nat×Nat):= [(0,0),(1,0),(2,0),(3,0),(4,0),(5,1)]
theorem Rt (hI:bR B s) (hE:j2 kind sg on w xx s=0) (hK:K (.tuple #[I6 (s.nx+2 - 2),I6 0]) (cY x a (pT kind sg on w xx s) none 0 R)):CT 20 #[PO x,I6 kind,I6 sg,.agg #[I6 on,I6 w,.bool xx]] (cY x a s M mc R) K:=by
 obtain⟨e1,e2,e3,e4,e5,e6,e7,e8,e9⟩:=CV hE
 have hnx:=hI.nx
 unfold pT at hK
 rw[if_neg (fun q=>q hE)] at hK
 have hown:fJ (aD s) true=fJ s true:=rfl
 have hI1:=IP (tM (f:=q6 s.nx kind on w xx) (bK hI)) e5
 have hpe:(aD s).pe.st=s.pe.st:=rfl
 have q1:=Et hI e5
 have q2:=Mi hI (by omega)
 have hnn:s.nx+2 - 2=s.nx:=by omega
 rw[hnn] at hK
 refine aJ Tryz.func20 ?_
 repeat' (first|refine Gr ?_|refine dw BJ ?_|refine dw BW ?_|refine w5 ?_ ?_|((refine bh fun h=>?_) <;> try exact w6 h)|(refine aF fun hA=>?_;subst hA)|intro _|(show aA _ 53 _ _ _;refine CA (h:=d6 (x:=x) (a:=a) (s:=s) (M:=M) (mc:=mc) ?_);rw[e1,if_neg Bool.false_ne_true])|(show aA _ 78 _ _ _;refine CA (h:=l5 (sd:=s.sd) (nx:=s.nx) (la:=s.la) ?_))|(show aA _ 79 _ _ _;refine CA (h:=Bc (d:=s.dr) ?_);rw[e4])|(show aA _ 62 _ _ _;refine CA (h:=sC (x:=x) (a:=a) (s:=aD s) (M:=none) (mc:=0) (bK hI) ?_);rw[hown])|(show aA _ 80 _ _ _;refine CA (h:=oR (ps:= []) (show vY 2 s.nx false ⟨#[]⟩ kind on w xx 0 0 0 []=true from e7) nD rfl (show(0:Nat)<1000000000000000 by decide) ?_))|(show aA _ 81 _ _ _;refine CA (h:=Kt (out:=s.out) hI.ou ?_))|(show aA _ 82 _ _ _;refine CA (h:=VQ (sd:=s.sd) (nx:=s.nx) (la:=s.la) e5 (by omega) ?_))|(show aA _ 38 _ _ _;refine CA (h:=Bw (out:=s.out) (f:=q6 s.nx kind on w xx) hI.ou nD rfl (show(0:Nat)<1000000000000000 by decide) ?_))|(show aA _ 83 _ _ _;refine CA (h:=NW (x:=x) (a:=a) (s:= { aD s with nx:=s.nx+2,out:=z8 (q6 s.nx kind on w xx) s.out }) (M:=none) (mc:=0) (id:=s.nx) hI1 e2 e3 q1 q2 ⟨by omega,e5⟩ ?_)))
 all_goals(refine aC ?_;exact aB (hK))
def d5:List (Nat×Nat):= [(0,0),(1,0),(2,0),(3,0),(4,1),(5,1),(6,1),(7,1),(8,1),(9,1),(10,1),(11,0),(12,0),(13,0)]
def dW:List (Nat×Nat):= [(0,0),(1,0),(2,0),(3,0),(4,0),(5,1)]
theorem Rp (hI:bR B s) (hE:j2 kind sg on w xx s≠0) (hK:K (.tuple #[I6 0,I6 (j2 kind sg on w xx s)]) (cY x a (aD s) none 0 R)):CT 20 #[PO x,I6 kind,I6 sg,.agg #[I6 on,I6 w,.bool xx]] (cY x a s M mc R) K:=by
 have hnx:=hI.nx
 have hown:fJ (aD s) true=fJ s true:=rfl
 have hpe:(aD s).pe.st=s.pe.st:=rfl
 have h64:=hI.ou.1
 unfold j2 at hE hK
 cases c1:s.dr.ov
 ·rw[c1,if_neg Bool.false_ne_true] at hE hK
  by_cases c2:kind≠1/\kind≠2
  ·rw[if_pos c2] at hK
   refine aJ Tryz.func20 ?_
   repeat' (first|refine Gr ?_|refine dw d5 ?_|refine dw dW ?_|refine w5 ?_ ?_|((refine bh fun h=>?_) <;> try exact w6 h)|(refine aF fun hA=>?_;subst hA)|intro _|(show aA _ 53 _ _ _;refine CA (h:=d6 (x:=x) (a:=a) (s:=s) (M:=M) (mc:=mc) ?_);rw[c1,if_neg Bool.false_ne_true])|(show aA _ 78 _ _ _;refine CA (h:=l5 (sd:=s.sd) (nx:=s.nx) (la:=s.la) ?_)))
   all_goals(refine aC ?_;exact aB (hK))
  ·rw[if_neg c2] at hE hK
   by_cases c3:sg<0\/2<sg
   ·rw[if_pos c3] at hK
    refine aJ Tryz.func20 ?_
    repeat' (first|refine Gr ?_|refine dw d5 ?_|refine dw dW ?_|refine w5 ?_ ?_|((refine bh fun h=>?_) <;> try exact w6 h)|(refine aF fun hA=>?_;subst hA)|intro _|(show aA _ 53 _ _ _;refine CA (h:=d6 (x:=x) (a:=a) (s:=s) (M:=M) (mc:=mc) ?_);rw[c1,if_neg Bool.false_ne_true])|(show aA _ 78 _ _ _;refine CA (h:=l5 (sd:=s.sd) (nx:=s.nx) (la:=s.la) ?_)))
    all_goals(refine aC ?_;exact aB (hK))
   ·rw[if_neg c3] at hE hK
    cases c4:KW s.dr
    ·rw[if_pos c4] at hK
     refine aJ Tryz.func20 ?_
     repeat' (first|refine Gr ?_|refine dw d5 ?_|refine dw dW ?_|refine w5 ?_ ?_|((refine bh fun h=>?_) <;> try exact w6 h)|(refine aF fun hA=>?_;subst hA)|intro _|(show aA _ 53 _ _ _;refine CA (h:=d6 (x:=x) (a:=a) (s:=s) (M:=M) (mc:=mc) ?_);rw[c1,if_neg Bool.false_ne_true])|(show aA _ 78 _ _ _;refine CA (h:=l5 (sd:=s.sd) (nx:=s.nx) (la:=s.la) ?_))|(show aA _ 79 _ _ _;refine CA (h:=Bc (d:=s.dr) ?_);rw[c4]))
     all_goals(refine aC ?_;exact aB (hK))
    ·rw[if_neg (by rw[c4];decide)] at hE hK
     by_cases c5:2147483647<s.nx\/min s.pe.st 32<=(fJ s true:Nat)
     ·rw[if_pos c5] at hK
      refine aJ Tryz.func20 ?_
      repeat' (first|refine Gr ?_|refine dw d5 ?_|refine dw dW ?_|refine w5 ?_ ?_|((refine bh fun h=>?_) <;> try exact w6 h)|(refine aF fun hA=>?_;subst hA)|intro _|(show aA _ 53 _ _ _;refine CA (h:=d6 (x:=x) (a:=a) (s:=s) (M:=M) (mc:=mc) ?_);rw[c1,if_neg Bool.false_ne_true])|(show aA _ 78 _ _ _;refine CA (h:=l5 (sd:=s.sd) (nx:=s.nx) (la:=s.la) ?_))|(show aA _ 79 _ _ _;refine CA (h:=Bc (d:=s.dr) ?_);rw[c4])|(show aA _ 62 _ _ _;refine CA (h:=sC (x:=x) (a:=a) (s:=aD s) (M:=none) (mc:=0) (bK hI) ?_);rw[hown]))
      all_goals(refine aC ?_;exact aB (hK))
     ·rw[if_neg c5] at hE hK
      cases c6:l7 (q6 s.nx kind on w xx)
      ·rw[if_pos c6] at hK
       refine aJ Tryz.func20 ?_
       repeat' (first|refine Gr ?_|refine dw d5 ?_|refine dw dW ?_|refine w5 ?_ ?_|((refine bh fun h=>?_) <;> try exact w6 h)|(refine aF fun hA=>?_;subst hA)|intro _|(show aA _ 53 _ _ _;refine CA (h:=d6 (x:=x) (a:=a) (s:=s) (M:=M) (mc:=mc) ?_);rw[c1,if_neg Bool.false_ne_true])|(show aA _ 78 _ _ _;refine CA (h:=l5 (sd:=s.sd) (nx:=s.nx) (la:=s.la) ?_))|(show aA _ 79 _ _ _;refine CA (h:=Bc (d:=s.dr) ?_);rw[c4])|(show aA _ 62 _ _ _;refine CA (h:=sC (x:=x) (a:=a) (s:=aD s) (M:=none) (mc:=0) (bK hI) ?_);rw[hown])|(show aA _ 80 _ _ _;refine CA (h:=KZ (ps:= []) (show vY 2 s.nx false ⟨#[]⟩ kind on w xx 0 0 0 []=false from c6) nD rfl (show(0:Nat)<1000000000000000 by decide) ?_)))
       all_goals(refine aC ?_;exact aB (hK))
      ·rw[if_neg (by rw[c6];decide)] at hE hK
       by_cases c7:on=s.nx
       ·rw[if_pos c7] at hK
        refine aJ Tryz.func20 ?_
        repeat' (first|refine Gr ?_|refine dw d5 ?_|refine dw dW ?_|refine w5 ?_ ?_|((refine bh fun h=>?_) <;> try exact w6 h)|(refine aF fun hA=>?_;subst hA)|intro _|(show aA _ 53 _ _ _;refine CA (h:=d6 (x:=x) (a:=a) (s:=s) (M:=M) (mc:=mc) ?_);rw[c1,if_neg Bool.false_ne_true])|(show aA _ 78 _ _ _;refine CA (h:=l5 (sd:=s.sd) (nx:=s.nx) (la:=s.la) ?_))|(show aA _ 79 _ _ _;refine CA (h:=Bc (d:=s.dr) ?_);rw[c4])|(show aA _ 62 _ _ _;refine CA (h:=sC (x:=x) (a:=a) (s:=aD s) (M:=none) (mc:=0) (bK hI) ?_);rw[hown])|(show aA _ 80 _ _ _;refine CA (h:=oR (ps:= []) (show vY 2 s.nx false ⟨#[]⟩ kind on w xx 0 0 0 []=true from c6) nD rfl (show(0:Nat)<1000000000000000 by decide) ?_)))
        all_goals(refine aC ?_;exact aB (hK))
       ·rw[if_neg c7] at hE hK
        by_cases c8:64<=s.out.length
        ·rw[if_pos c8] at hK
         refine aJ Tryz.func20 ?_
         repeat' (first|refine Gr ?_|refine dw d5 ?_|refine dw dW ?_|refine w5 ?_ ?_|((refine bh fun h=>?_) <;> try exact w6 h)|(refine aF fun hA=>?_;subst hA)|intro _|(show aA _ 53 _ _ _;refine CA (h:=d6 (x:=x) (a:=a) (s:=s) (M:=M) (mc:=mc) ?_);rw[c1,if_neg Bool.false_ne_true])|(show aA _ 78 _ _ _;refine CA (h:=l5 (sd:=s.sd) (nx:=s.nx) (la:=s.la) ?_))|(show aA _ 79 _ _ _;refine CA (h:=Bc (d:=s.dr) ?_);rw[c4])|(show aA _ 62 _ _ _;refine CA (h:=sC (x:=x) (a:=a) (s:=aD s) (M:=none) (mc:=0) (bK hI) ?_);rw[hown])|(show aA _ 80 _ _ _;refine CA (h:=oR (ps:= []) (show vY 2 s.nx false ⟨#[]⟩ kind on w xx 0 0 0 []=true from c6) nD rfl (show(0:Nat)<1000000000000000 by decide) ?_))|(show aA _ 81 _ _ _;refine CA (h:=Kt (out:=s.out) hI.ou ?_)))
         all_goals(refine aC ?_;exact aB (hK))
        ·rw[if_neg c8] at hE
         exact absurd rfl hE
 ·rw[c1,if_pos rfl] at hK
  refine aJ Tryz.func20 ?_
  repeat' (first|refine Gr ?_|refine dw d5 ?_|refine dw dW ?_|refine w5 ?_ ?_|((refine bh fun h=>?_) <;> try exact w6 h)|(refine aF fun hA=>?_;subst hA)|intro _|(show aA _ 53 _ _ _;refine CA (h:=d6 (x:=x) (a:=a) (s:=s) (M:=M) (mc:=mc) ?_);rw[c1,if_pos rfl]))
  all_goals(refine aC ?_;exact aB (hK))
section
variable {t:dI}
theorem Agq {cap:Nat} {en:Bool}:EK cap bs en d<=d.size:=by
 unfold EK
 split
 ·omega
 ·omega
theorem Af9 {x:Xs}:K0 (zI x d)<=K0 x+d.size+1:=by
 cases x with
 |b z=>
  have:=Agq (cap:=z.cap) (bs:=z.bs) (en:=z.en) (d:=d)
  show z.ac+((EK z.cap z.bs z.en d:Nat):Int)<=z.ac+d.size+1
  omega
 |i z=>
  show(if z.en=true\/256<d.size then z else if z.l.length<z.cap then { z with l:=z.l++ [d],ac:=z.ac+1 } else if z.st=0 then z else if z.st=1\/z.cap=0 then { z with ac:=z.ac+1,dr:=z.dr+1 } else { z with l:=z.l.tail++ [d],ac:=z.ac+1,dr:=z.dr+1 }).ac<=z.ac+d.size+1
  repeat' split
  all_goals first|(dsimp only;omega)|omega
theorem Acw (h:Ey B m):Ey (B+d.size+1) (zN m d):=by
 obtain⟨h1,h2,h3,h4⟩:=h
 unfold zN
 split
 ·refine⟨h1,?_,by show Jk m.y<=_;omega,by show(gH m.y:Int)<=_;omega⟩
  have:=Af9 (x:=m.x) (d:=d)
  show K0 (zI m.x d)<=_
  omega
 ·exact⟨h1,by omega,by omega,by omega⟩
theorem NP:(zN m d).own=m.own:=by unfold zN;split <;> rfl
theorem OU:(E7 m).own=m.own:=by unfold E7;split <;> rfl
theorem Agr (h:Ey B m):Ey B (E7 m):=by
 obtain⟨h1,h2,h3,h4⟩:=h
 unfold E7
 split
 ·refine⟨h1,?_,h3,h4⟩
  show K0 (R6 m.x)<=B
  cases hx:m.x with
  |b z=>rw[hx] at h2;exact h2
  |i z=>rw[hx] at h2;exact h2
 ·exact⟨h1,h2,h3,h4⟩
theorem Ac3 (h:Ey B m):Ey B { m with y:=SI m.y n }:=by
 obtain⟨h1,h2,h3,h4⟩:=h
 refine⟨h1,h2,?_,?_⟩
 ·cases hy:m.y with
  |b z=>rw[hy] at h3;exact h3
  |i z=>
   rw[hy] at h3
   show(if 1<=n then { z with ask:=z.ask+min n (2147483647 - z.ask) } else z).ac<=B
   split <;> exact h3
 ·cases hy:m.y with
  |b z=>rw[hy] at h4;exact h4
  |i z=>
   rw[hy] at h4
   show((if 1<=n then { z with ask:=z.ask+min n (2147483647 - z.ask) } else z).l.length:Int)<=B
   split <;> exact h4
theorem VI (h:bR B s) (hB:B+d.size+1<=250000000):bR (B+d.size+1) (nH id d s):=by
 have hb:=h.bb
 unfold nH
 split
 ·exact(bK h).mono (by omega) hB
 ·split
  ·rename_i m hm
   obtain⟨hi,hmid⟩:=aX hm
   rw[fS (id:=id) (AZ.trans hmid)]
   exact mA (s:=aD s) ((bK h).mono (by omega) hB) hi AZ NP (Acw (h.st m (List.mem_of_getElem? hi)))
  ·exact h.mono (by omega) hB
theorem Af0 (h:bR B s):bR B (FE id s):=by
 unfold FE
 split
 ·exact bK h
 ·split
  ·rename_i m hm
   obtain⟨hi,hmid⟩:=aX hm
   rw[fS (id:=id) (Gm.trans hmid)]
   exact mA (s:=aD s) (bK h) hi Gm OU (Agr (h.st m (List.mem_of_getElem? hi)))
  ·exact h
theorem YR (h:bR B s):bR B (pU id n s):=by
 unfold pU
 split
 ·exact bK h
 ·split
  ·rename_i m hm
   obtain⟨hi,hmid⟩:=aX hm
   split
   ·exact bK h
   ·rw[fS (id:=id) (show({ m with y:=Es m.y n }:Sm).id=id from hmid)]
    have hI2:bR B { ({ aD s with rv:=d8 s.rv ((BN m.y n).size:Nat) }:Cn) with l:=s.l.set (cB id s.l) { m with y:=Es m.y n } }:=mA (s:= { aD s with rv:=d8 s.rv ((BN m.y n).size:Nat) }) (nE (bK h)) hi rfl rfl (Sx (h.st m (List.mem_of_getElem? hi)))
    exact Dl hI2 (mM (m':= { m with y:=Es m.y n }) hm rfl)
  ·exact h
theorem Aba (h:bR B s):bR B (zK id s):=by
 unfold zK
 split
 ·exact bK h
 ·split
  ·rename_i m hm
   obtain⟨hi,hmid⟩:=aX hm
   split
   ·exact bK h
   ·rw[fS (id:=id) (show({ m with y:=Ng m.y }:Sm).id=id from hmid)]
    have hI2:bR B { aD s with l:=s.l.set (cB id s.l) { m with y:=Ng m.y } }:=mA (s:=aD s) (bK h) hi rfl rfl (Aci (h.st m (List.mem_of_getElem? hi)))
    exact Dl hI2 (mM (m':= { m with y:=Ng m.y }) hm rfl)
  ·exact h
theorem Agv (h:bR B s):bR B (Fv id n s):=by
 unfold Fv
 split
 ·exact bK h
 ·split
  ·rename_i m hm
   obtain⟨hi,hmid⟩:=aX hm
   rw[fS (id:=id) (show({ m with y:=SI m.y n }:Sm).id=id from hmid)]
   exact mA (s:=aD s) (bK h) hi rfl rfl (Ac3 (h.st m (List.mem_of_getElem? hi)))
  ·exact h
theorem YA (h:bR B s):bR B (Ad id on w xx s):=by
 unfold Ad
 split
 ·exact bK h
 ·exact UC (tM (bK h))
theorem WW (h:bR B s):bR B (vM id n s):=by
 unfold vM
 split
 ·exact bK h
 ·split
  ·rename_i m hm
   exact o5 (s:= { aD s with out:=z8 (nJ id n) s.out }) (tM (bK h)) hm
  ·exact h
theorem Ajp (h:bR B s):bR B (Of s):=by
 unfold Of
 split
 ·exact bK h
 ·exact EX (tM (bK h))
theorem WB {z:EC} (h:z.l.length<=4/\qF z.h/\qF z.g/\∀t∈z.l,qF t):(eR z t).l.length<=4/\qF (eR z t).h/\qF (eR z t).g/\∀q∈(eR z t).l,qF q:=by
 obtain⟨h1,h2,h3,h4⟩:=h
 unfold eR
 by_cases hq:i8 z t=0
 ·rw[if_pos hq]
  unfold i8 at hq
  split at hq
  ·cases hq
  ·rename_i hc
   split at hq
   ·cases hq
   ·rename_i hl
    have hc:pP t.w t.st t.it=true:=by simpa using hc
    refine⟨by show(z.l++ [t]).length<=4;rw[List.length_append,List.length_singleton];omega,h2,?_,?_⟩
    ·unfold qF pP at *
     rw[decide_eq_true_eq] at *
     show _
     simp only[M6]
     omega
    ·intro q hq
     rcases List.mem_append.1 hq with hq|hq
     ·exact h4 q hq
     ·rw[List.mem_singleton.1 hq];exact hc
 ·rw[if_neg hq];exact⟨h1,h2,h3,h4⟩
theorem Abh (h:bR B s):bR B (FP t s):=by
 unfold FP
 split
 ·exact bK h
 ·exact { tM (f:=B4 (Ix (wK s.sh) t)) (bK h) with sh:=WB h.sh }
theorem Aa5 (h:bR B s) (hB:B+1<=250000000):bR (B+1) (pT kind sg on w xx s):=by
 unfold pT
 split
 ·exact(bK h).mono (by omega) hB
 ·rename_i hE
  have hE:j2 kind sg on w xx s=0:=by simpa using hE
  obtain⟨e1,e2,e3,e4,e5,e6,e7,e8,e9⟩:=CV hE
  have hnx:=h.nx
  have h64:=h.sm.1
  have hmv:=h.mv
  have hI1:=(IP (tM (f:=q6 s.nx kind on w xx) (bK h)) e5).mono (B':=B+1) (by omega) hB
  have hof:=S1 h e5
  refine TW (s:= { aD s with nx:=s.nx+2,out:=z8 (q6 s.nx kind on w xx) s.out }) hI1 (Et h e5) (show s.l.length<64 from Mi h (by omega)) ⟨by omega,e5⟩ ?_ (by show fJ s true<32;omega) (by show(([]:List Mv).length:Int)+s.l.length+1<=B+1;simp only[List.length_nil];omega)
  show jV s.sd (s.nx+2) s.la s.nx=true
  unfold jV
  rw[hof]
  simp only[Bool.and_eq_true,decide_eq_true_eq,if_true]
  omega
theorem AJ:∀ {fs:List Fm} {s:Cn} {B:Int},bR B s->(∀f∈fs,bV f)->B+300 * fs.length<=250000000->bR (B+300 * fs.length) (eD fs s)
 | [],s,B,h,_,hB=>h.mono (by simp) hB
 |f::r,s,B,h,hr,hB=>by
  have e:(f::r).length=r.length+1:=rfl
  rw[e] at hB ⊢
  have h1:=CL h (by omega) (hr f (List.mem_cons_self ..))
  unfold eD
  split
  ·exact h1.mono (by omega) hB
  ·exact(AJ h1 (fun z hz=>hr z (List.mem_cons_of_mem _ hz)) (by omega)).mono (by omega) hB
theorem Ce:∀f∈(pF bs).1.map F5,bV f:=fun f hf=>by
 obtain⟨p,hp,rfl⟩:=List.mem_map.1 hf
 exact Px (YS bs.length bs (Nat.le_refl _) p hp)
theorem Zi (h:bR B s) (hB:B+u.length+300 * (pF (s.inb++u)).1.length<=250000000):bR (B+u.length+300 * (pF (s.inb++u)).1.length) (kC u s):=by
 have hb:=h.bb
 unfold kC
 split
 ·exact(bK h).mono (by omega) hB
 ·have h1:=Db (u:=u) h (by omega)
  have hl:((pF (s.inb++u)).1.map F5).length=(pF (s.inb++u)).1.length:=List.length_map ..
  have h2:=AJ (fs:=(iC u (aD s)).1) h1 Ce (by show B+u.length+300 * ((((pF (s.inb++u)).1.map F5).length:Nat):Int)<=250000000;rw[hl];exact hB)
  have h3:bR (B+u.length+300 * (pF (s.inb++u)).1.length) (eD (iC u (aD s)).1 (iC u (aD s)).2):=h2.mono (by show B+u.length+300 * ((((pF (s.inb++u)).1.map F5).length:Nat):Int)<=_;rw[hl];omega) hB
  split
  ·exact h3
  ·exact iZ h3
end
section
variable {t:Nat} {y:Ys}
def X8:Xs->Prop
 |.b x=>TB x.cap x.bs x.en x.ou x.ac x.se x.dr
 |.i x=>TI x.cap x.st x.l x.w x.en x.ou x.ac x.se x.dr
def UK:Ys->Prop
 |.b y=>RB y.cap y.most y.gr y.got y.us y.bs
 |.i y=>RI y.mr y.room y.op y.ask y.l y.ac y.tk y.dr
theorem UN (h:bZ (B9 t z::R) H):X8 z:=by
 cases z with
 |b z=>
  obtain⟨r,h⟩:=h.ex
  exact(aG.cons aG.unsep H (aG.unsep H h)).tail.tail.pure.1
 |i z=>
  obtain⟨q,h⟩:=h.ex
  obtain⟨d,h⟩:=h.ex
  exact(aG.cons (aG.cons aG.unsep) H (aG.cons aG.unsep H (aG.unsep H h))).tail.tail.tail.pure.1
theorem Tf (h:bZ (F2 r y::R) H):UK y:=by
 cases y with
 |b y=>
  obtain⟨q,h⟩:=h.ex
  obtain⟨d,h⟩:=h.ex
  exact(aG.cons (aG.cons aG.unsep) H (aG.cons aG.unsep H (aG.unsep H h))).tail.tail.tail.pure.1
 |i y=>
  obtain⟨q,h⟩:=h.ex
  obtain⟨d,h⟩:=h.ex
  exact(aG.cons (aG.cons aG.unsep) H (aG.cons aG.unsep H (aG.unsep H h))).tail.tail.tail.pure.1
def smF (m:Sm):Prop:=X8 m.x/\UK m.y/\x6 m
theorem ZQ (h:bZ (sR b m::R) H):smF m:=by
 obtain⟨li,h⟩:=h.ex
 obtain⟨t,h⟩:=h.ex
 obtain⟨r,h⟩:=h.ex
 obtain⟨hok,h⟩:=(sD H h).pure
 exact⟨UN h.tail.tail,Tf h.tail.tail.tail,hok⟩
theorem Iu:∀ {q:List (jR×Sm)} {R:List HP} {H:Hp},bZ (eC Qn q::R) H->∀e∈q,smF e.2
 | [],_,_,_,e,he=>by cases he
 |e0::q,R,H,h,e,he=>by
  have h1:=DU H h
  rcases List.mem_cons.1 he with rfl|he
  ·exact ZQ h1
  ·exact Iu h1.tail e he
theorem YU (h:bZ (HT p l::R) H):∀m∈l,smF m:=fun m hm=>by
 obtain⟨A,h⟩:=h.ex
 obtain⟨c,h⟩:=h.ex
 obtain⟨q,h⟩:=h.ex
 obtain⟨hI,h⟩:=(sK H h).pure
 rw[<- hI.1] at hm
 obtain⟨e,he,rfl⟩:=List.mem_map.1 hm
 exact Iu h.tail.tail e he
theorem Y1 {f:FuncId} {args:Array Value} {P:Program} (h:(∀m∈s.l,smF m)->aA P f args (cY x a s M mc R) K):aA P f args (cY x a s M mc R) K:=aA.fact (fun _ hs=>YU hs.tail.tail) h
theorem Adk (h:X8 z):HC z<=4096/\K0 z=xSe z+xDr z+HC z/\0<=xSe z/\0<=xDr z/\K0 z<=900000000:=by
 cases z with
 |b z=>obtain⟨h1,h2,h3,h4,h5,h6,h7⟩:=h;simp only[HC,K0,xSe,xDr];omega
 |i z=>obtain⟨h1,h2,h3,h4,h5,h6,h7⟩:=h;simp only[HC,K0,xSe,xDr];omega
theorem Ag2 (h:UK y):gH y<=4096:=by
 cases y with
 |b y=>obtain⟨h1,h2,h3,h4,h5,h6,h7,h8,h9⟩:=h;simp only[gH];omega
 |i y=>obtain⟨h1,h2,h3,h4,h5,h6,h7,h8,h9⟩:=h;simp only[gH];omega
theorem YE (hK:HC z<=4096->K (I6 (HC z:Nat)) (B9 t z::R)):CT 66 #[.agg #[I6 (K0 z),I6 (xSe z),I6 (xDr z)]] (B9 t z::R) K:=aA.fact (fun _ hs=>UN hs) fun hf=>by
 obtain⟨h1,h2,h3,h4,h5⟩:=Adk hf
 have hK:=hK h1
 have e:((HC z:Nat):Int)=K0 z - xSe z - xDr z:=by omega
 rw[e] at hK
 exact f7 ⟨h3,h4,by omega,by omega,by omega,by omega⟩ hK
theorem WM (hK:gH y<=4096->K (I6 (gH y:Nat)) (F2 r y::R)):CT 68 #[PO r] (F2 r y::R) K:=aA.fact (fun _ hs=>Tf hs) fun hf=>Abf (hK (Ag2 hf))
theorem A7 (hs:Ga l) (hm:l[i]?=some m) (hK:∀b li t r,x6 m->K (.tuple #[I6 m.id,PO b,.bool true]) (pt b [PO li,PO t,PO r,I6 m.id,.bool m.own] 206::p6 li m.sta::B9 t m.x::F2 r m.y::Na p l i b::R)):CT 63 #[PO p,I6 i] (HT p l::R) K:=
 aA.satsK (K':=fun v C'=>∃b,v=.tuple #[I6 m.id,PO b,.bool true]/\C'=sR b m::Na p l i b::R) (Fq hs hm fun b=>⟨b,rfl,rfl⟩) fun v C' H ⟨b,hv,hC⟩ hS=>by
  subst hv hC
  obtain⟨li,hS⟩:=hS.ex
  obtain⟨t,hS⟩:=hS.ex
  obtain⟨r,hS⟩:=hS.ex
  obtain⟨hok,hS⟩:=(sD H hS).pure
  exact⟨_,hS,hK b li t r hok⟩
theorem OY (hs:Ga l) (hm:bX id l=some m) (hK:∀b li t r,x6 m->K (.tuple #[PO b,.bool true]) (pt b [PO li,PO t,PO r,I6 m.id,.bool m.own] 206::p6 li m.sta::B9 t m.x::F2 r m.y::Na p l (cB id l) b::R)):CT 144 #[PO p,I6 id] (HT p l::R) K:=
 aA.satsK (K':=fun v C'=>∃b,v=.tuple #[PO b,.bool true]/\C'=sR b m::Na p l (cB id l) b::R) (gG hs hm fun b=>⟨b,rfl,rfl⟩) fun v C' H ⟨b,hv,hC⟩ hS=>by
  subst hv hC
  obtain⟨li,hS⟩:=hS.ex
  obtain⟨t,hS⟩:=hS.ex
  obtain⟨r,hS⟩:=hS.ex
  obtain⟨hok,hS⟩:=(sD H hS).pure
  exact⟨_,hS,hK b li t r hok⟩
theorem Aax (hI:bR B s) (hK:∀B d,K (.slice B (s.l.map Sm.id).length d) (bU B d 3 mI (s.l.map Sm.id)::cY x a s M mc R)):CT 15 #[PO x] (cY x a s M mc R) K:=by
 dsimp only[cY,p8] at hK ⊢
 refine aJ Tryz.func15 ?_
 repeat' (first|refine Y9 ?_|refine w5 ?_ ?_|((refine bh fun h=>?_) <;> try exact w6 h)|(refine aF fun hA=>?_;subst hA)|intro _|(show aA _ 69 _ _ _;refine CA (h:=Lx (l:=s.l) hI.sm (fun _ _=>?_))))
 all_goals(refine aC ?_;exact aB (hK _ _))
theorem Ait (hK:K (PO a.ou) (cY x a s M mc R)):CT 16 #[PO x] (cY x a s M mc R) K:=by
 dsimp only[cY,p8] at hK ⊢
 refine aJ Tryz.func16 ?_
 repeat' (first|refine v4 ?_|refine w5 ?_ ?_|((refine bh fun h=>?_) <;> try exact w6 h)|(refine aF fun hA=>?_;subst hA)|intro _)
 all_goals(refine aC ?_;exact aB (hK))
def Yt (l:List Sm):Nat:=(l.map fun m=>HC m.x).sum
def kpL (l:List Sm):Nat:=(l.map fun m=>gH m.y).sum
theorem Yb (h:l[j]?=some m):Yt (l.take (j+1))=Yt (l.take j)+HC m.x:=by
 unfold Yt
 rw[List.take_add_one,h]
 simp
theorem ZA (h:l[j]?=some m):kpL (l.take (j+1))=kpL (l.take j)+gH m.y:=by
 unfold kpL
 rw[List.take_add_one,h]
 simp
def LL (s:Cn):Value:=.agg #[I6 s.l.length,I6 (fJ s true:Nat),I6 (Yt s.l:Nat),I6 (kpL s.l:Nat),.bool s.dr.ov,I6 s.dr.co,I6 s.now]
def qE:Tr:=(.br (.st 0 1 (.st 1 1 (.st 2 1 (.st 3 1 (.st 4 2 (.br (.st 5 2 (.st 6 2 (.st 14 3 (.st 7 3 (.st 8 3 (.st 9 3 (.st 10 3 (.st 11 3 (.st 12 3 (.st 13 1 (.st 15 1 .nil))))))))))) (.st 14 3 (.st 5 2 (.st 6 2 (.st 7 3 (.st 8 3 (.st 9 3 (.st 10 3 (.st 11 3 (.st 12 3 (.st 13 1 (.st 15 1 .nil))))))))))))))))) (.st 14 3 (.st 0 1 (.st 1 1 (.st 2 1 (.st 3 1 (.st 4 2 (.st 5 2 (.st 6 2 (.st 7 3 (.st 8 3 (.st 9 3 (.st 10 3 (.st 11 3 (.st 12 3 (.st 13 1 (.st 15 1 .nil)))))))))))))))))
def pL:List (Nat×Nat):= [(2,0),(3,1),(4,1),(5,1),(0,3),(1,3),(6,0),(7,0),(8,1)]
def oA:List (Nat×Nat):= [(2,0),(3,1),(4,1),(0,2),(1,2),(5,0),(6,0),(7,1)]
theorem Xc (hI:bR B s) (hK:K (LL s) (cY x a s M mc R)):CT 13 #[PO x] (cY x a s M mc R) K:=by
 have h64:=hI.sm.1
 unfold LL at hK
 dsimp only[cY,p8] at hK ⊢
 refine aJ Tryz.func13 ?_
 repeat' (first|refine v79 ?_|refine Hq qE ?_|refine dw pL ?_|refine dw oA ?_|refine w5 ?_ ?_|((refine bh fun h=>?_) <;> try exact w6 h)|(refine aF fun hA=>?_;subst hA)|intro _|(show aA _ 60 _ _ _;refine CA (h:=GG (d:=s.dr) ?_))|(show aA _ 61 _ _ _;refine CA (h:=yF (l:=s.l) ?_))|(show aA _ 62 _ _ _;refine CA (h:=sC (x:=x) (a:=a) (s:=s) (M:=M) (mc:=mc) hI ?_)))
 all_goals
  rename_i r2 r5
  refine iH (fun n a' C'=>∃j:Nat,j+n=s.l.length/\Yt (s.l.take j)<=4096 * j/\kpL (s.l.take j)<=4096 * j/\cW a' [(0,PO x),(2,PO r2),(5,PO r5),(39,I6 s.l.length),(40,I6 j)]/\C'=pt r2 [I6 0,I6 0,I6 0,I6 0,.bool false,I6 0,I6 0] 53::pt r5 [I6 s.l.length,I6 (fJ s true:Nat),I6 (Yt (s.l.take j):Nat),I6 (kpL (s.l.take j):Nat),.bool s.dr.ov,I6 s.dr.co,I6 s.now] 53::cY x a s M mc R) s.l.length (cG s.l.length ⟨0,by omega,by simp[Yt],by simp[kpL],⟨rfl,rfl,rfl,rfl,rfl,trivial⟩,rfl⟩ (by omega)) ?_
  rintro n a' C' ⟨j,hj,hw,hk,ha,rfl⟩
  refine gJ _ ha ?_
  simp only[fF]
  by_cases hlt:j<s.l.length
  ·obtain⟨m,hm⟩:∃m,s.l[j]?=some m:=⟨_,List.getElem?_eq_getElem hlt⟩
   have hw2:=Yb hm
   have hk2:=ZA hm
   have hw3:((Yt (s.l.take j):Nat):Int)+((HC m.x:Nat):Int)=(Yt (s.l.take (j+1)):Nat):=by omega
   have hk3:((kpL (s.l.take j):Nat):Int)+((gH m.y:Nat):Int)=(kpL (s.l.take (j+1)):Nat):=by omega
   repeat' (first|refine v79 ?_|refine Hq qE ?_|refine dw pL ?_|refine dw oA ?_|refine w5 ?_ ?_|((refine bh fun h=>?_) <;> try exact w6 h)|(refine aF fun hA=>?_;subst hA)|intro _|(show aA _ 63 _ _ _;refine CA (h:=Fq (l:=s.l) hI.sm hm (fun _=>?_)))|(show aA _ 64 _ _ _;refine CA (h:=Lc (m:=m) (fun _=>?_)))|(show aA _ 65 _ _ _;refine CA (h:=XD (x:=m.x) ?_))|(show aA _ 66 _ _ _;refine CA (h:=YE (z:=m.x) (fun hxl=>?_)))|(show aA _ 67 _ _ _;refine CA (h:=aA.ent (G6 (m:=m) (z:=m.x) rfl) (BG (m:=m) (fun _=>?_))))|(show aA _ 68 _ _ _;refine CA (h:=WM (y:=m.y) (fun hyl=>?_))))
   all_goals rw[hw3,hk3]
   all_goals(show aZ _ _ _ _;exact s8 (m:=n - 1) (C':=pt r2 [I6 0,I6 0,I6 0,I6 0,.bool false,I6 0,I6 0] 53::pt r5 [I6 s.l.length,I6 (fJ s true:Nat),I6 (Yt (s.l.take (j+1)):Nat),I6 (kpL (s.l.take (j+1)):Nat),.bool s.dr.ov,I6 s.dr.co,I6 s.now] 53::cY x a s M mc R) (by omega) (aG.trans (by exact bE) (aG.trans (aG.cons (A:=pt r2 [I6 0,I6 0,I6 0,I6 0,.bool false,I6 0,I6 0] 53) (aG.cons (A:=pt r5 [I6 s.l.length,I6 (fJ s true:Nat),I6 (Yt (s.l.take (j+1)):Nat),I6 (kpL (s.l.take (j+1)):Nat),.bool s.dr.ov,I6 s.dr.co,I6 s.now] 53) (xO (m:=m) (y:=m.y) rfl))) (aG.cons (aG.cons (f3 (x:=x) (a:=a) (s:=s) (M:=M) (mc:=mc) (R:=R) hm))))) ⟨j+1,by omega,by omega,by omega,⟨rfl,rfl,rfl,rfl,rfl,trivial⟩,rfl⟩)
  ·obtain rfl:j=s.l.length:=by omega
   rw[List.take_length]
   repeat' (first|refine v79 ?_|refine Hq qE ?_|refine dw pL ?_|refine dw oA ?_|refine w5 ?_ ?_|((refine bh fun h=>?_) <;> try exact w6 h)|(refine aF fun hA=>?_;subst hA)|intro _)
   all_goals(refine aC ?_;exact aB (hK))
end
theorem Afl:aG (pt r [I6 f.t,I6 f.st,.bool f.e,.string f.d,I6 f.k,I6 f.on,I6 f.w,.bool f.x,I6 f.c,I6 f.la,I6 f.n,.slice f.pa f.pn f.pc] 45::R) (bU (some ⟨r,0,none⟩) 1 45 tC [f]::R):=fun H hs=>by
 refine gQ (pre:= []) (post:= []) rfl ?_ (Nat.le_refl _) (by simp)
 rw[show [f].flatMap tC.enc=tC.enc f from by simp,List.nil_append,List.append_nil]
 exact hs
theorem Mb (h:bR B s) (hB:B+1<=250000000):bR (B+1) { s with bt:=g0 s.bt s.now }:=
 { h.mono (B':=B+1) (by omega) hB with
   bt:=by
    have h1:=h.bt
    have h2:=h.now
    show(0<=(g0 s.bt s.now).no/\(g0 s.bt s.now).no<=B+1)/\(0<=(g0 s.bt s.now).he/\(g0 s.bt s.now).he<=B+1)/\(0<=(g0 s.bt s.now).si/\(g0 s.bt s.now).si<=B+1)/\0<=(g0 s.bt s.now).nn/\(g0 s.bt s.now).nn<=B+1
    unfold g0
    repeat' split
    all_goals first|(dsimp only;omega)|omega }
theorem Gx {q:Bool} (h:bR B s):bR B { s with sl:=nS s.sl s.now q }:=
 { h with
   sl:=by
    have h1:=h.sl
    have h2:=h.now
    show(0<=(nS s.sl s.now q).nw/\(nS s.sl s.now q).nw<=B)/\0<=(nS s.sl s.now q).si/\(nS s.sl s.now q).si<=B
    unfold nS
    repeat' split
    all_goals first|(dsimp only;omega)|omega }
theorem IB (h:bR B s) (hB:B+1<=250000000):bR (B+1) (bI s):=by
 have h1:=Mb h hB
 unfold bI
 split
 ·exact iZ h1
 ·split
  ·exact iZ (s:= { s with bt:=g0 s.bt s.now,sl:=nS s.sl s.now (s6 s) }) (Gx (q:=s6 s) h1)
  ·exact Gx (q:=s6 s) h1
theorem Z5 {f:Sm->Bool} (h:l[j]?=some m):(l.take (j+1)).any f=((l.take j).any f || f m):=by
 rw[List.take_add_one,h]
 simp
def dV:List (Nat×Nat):= [(0,0),(1,0),(2,0),(3,0),(4,0),(5,0),(6,0),(7,0),(8,1),(9,0),(10,0),(11,0),(12,0),(13,0)]
def dY:List (Nat×Nat):= [(0,0),(1,0),(2,0),(3,0),(4,0),(5,0),(6,1),(7,0),(8,0),(9,1),(10,1),(11,1),(12,1),(13,1),(14,1),(15,1),(16,1),(17,0),(18,0),(19,0)]
def dJ:List (Nat×Nat):= [(0,0),(1,0),(2,0),(3,0),(4,0),(5,0),(6,0),(7,0),(8,0),(9,1),(10,0)]
theorem F1 (hI:bR B s) (hB:B+1<=250000000) (hK:∀A c M mc,K (.slice A (fT s).length c) (bU A c 45 tC (fT s)::cY x a (bI s) M mc R)):CT 70 #[PO x] (cY x a s M mc R) K:=by
 have hbb:=hI.bb
 have hnw:=hI.now
 have hsl:=hI.sl
 have h64:=hI.sm.1
 have hI1:=Mb hI hB
 have hld:=hI.ld.ok (by omega)
 dsimp only[cY,p8]
 refine aJ Tryz.func70 ?_
 repeat' (first|refine Xt ?_|refine dw dV ?_|refine dw dY ?_|refine dw dJ ?_|refine w5 ?_ ?_|((refine bh fun h=>?_) <;> try exact w6 h)|(refine aF fun hA=>?_;subst hA)|intro _|(show aA _ 132 _ _ _;refine CA (h:=Xo (b:=s.bt) (Aha hI) (by omega) ?_))|(show aA _ 61 _ _ _;refine CA (h:=yF (l:=s.l) ?_)))
 refine iH (fun n a' C'=>∃(j:Nat) (q:Bool),j+n=s.l.length/\q=(s.l.take j).any (G9 s.ld)/\cW a' [(0,PO x),(3,I6 (Qi s.bt s.now)),(4,.string (btD s.bt s.now)),(5,.bool q),(26,I6 s.l.length),(27,I6 j)]/\C'=cY x a { s with bt:=g0 s.bt s.now } M mc R) s.l.length (cG s.l.length ⟨0,false,by omega,by simp,⟨rfl,rfl,rfl,rfl,rfl,rfl,trivial⟩,rfl⟩ (by omega)) ?_
 rintro n a' C' ⟨j,q,hj,hq,ha,rfl⟩
 refine gJ _ ha ?_
 simp only[fF]
 by_cases hlt:j<s.l.length
 ·obtain⟨m,hm⟩:∃m,s.l[j]?=some m:=⟨_,List.getElem?_eq_getElem hlt⟩
  have hany:=Z5 (f:=G9 s.ld) hm
  rw[<- hq] at hany
  dsimp only[cY,p8]
  cases q
  ·rw[Bool.false_or] at hany
   cases hg:VN m
   ·have hs:G9 s.ld m=false:=by unfold G9;rw[hg];rfl
    have hg2:decide (m.sta=1\/m.sta=3)=false:=hg
    repeat' (first|refine Xt ?_|refine dw dV ?_|refine dw dY ?_|refine dw dJ ?_|refine w5 ?_ ?_|((refine bh fun h=>?_) <;> try exact w6 h)|(refine aF fun hA=>?_;subst hA)|intro _|(show aA _ 63 _ _ _;refine CA (h:=A7 (l:=s.l) hI.sm hm (fun bq li t r hok=>?_)))|(show aA _ 133 _ _ _;refine CA (h:=oP (s:=m.sta) ?_);rw[hg2]))
    all_goals(show aZ _ _ _ _;exact s8 (m:=n - 1) (by omega) (aG.trans (by exact bE) (aG.trans (cX (m:=m) hok) (f3 (x:=x) (a:=a) (s:= { s with bt:=g0 s.bt s.now }) (M:=M) (mc:=mc) (R:=R) hm))) ⟨j+1,false,by omega,by rw[hany,hs],⟨rfl,rfl,rfl,rfl,rfl,rfl,trivial⟩,rfl⟩)
   ·have hs:G9 s.ld m=Acy m.x (bC m.id s.ld):=by unfold G9;rw[hg];rfl
    have hg2:decide (m.sta=1\/m.sta=3)=true:=hg
    repeat' (first|refine Xt ?_|refine dw dV ?_|refine dw dY ?_|refine dw dJ ?_|refine w5 ?_ ?_|((refine bh fun h=>?_) <;> try exact w6 h)|(refine aF fun hA=>?_;subst hA)|intro _|(show aA _ 63 _ _ _;refine CA (h:=A7 (l:=s.l) hI.sm hm (fun bq li t r hok=>?_)))|(show aA _ 133 _ _ _;refine CA (h:=oP (s:=m.sta) ?_);rw[hg2])|(show aA _ 64 _ _ _;refine CA (h:=Ml ?_))|(show aA _ 135 _ _ _;refine CA (h:=tT (s:=s.ld) hld ?_))|(show aA _ 134 _ _ _;refine CA (h:=Afm (x:=m.x) ?_)))
    all_goals(show aZ _ _ _ _;exact s8 (m:=n - 1) (by omega) (aG.trans (by exact bE) (aG.trans (cX (m:=m) hok) (f3 (x:=x) (a:=a) (s:= { s with bt:=g0 s.bt s.now }) (M:=M) (mc:=mc) (R:=R) hm))) ⟨j+1,Acy m.x (bC m.id s.ld),by omega,by rw[hany,hs],⟨rfl,rfl,rfl,rfl,rfl,rfl,trivial⟩,rfl⟩)
  ·rw[Bool.true_or] at hany
   repeat' (first|refine Xt ?_|refine dw dV ?_|refine dw dY ?_|refine dw dJ ?_|refine w5 ?_ ?_|((refine bh fun h=>?_) <;> try exact w6 h)|(refine aF fun hA=>?_;subst hA)|intro _|(show aA _ 63 _ _ _;refine CA (h:=Fq (l:=s.l) hI.sm hm (fun _=>?_))))
   all_goals(show aZ _ _ _ _;exact s8 (m:=n - 1) (by omega) (aG.trans (by exact bE) (f3 (x:=x) (a:=a) (s:= { s with bt:=g0 s.bt s.now }) (M:=M) (mc:=mc) (R:=R) hm)) ⟨j+1,true,by omega,hany.symm,⟨rfl,rfl,rfl,rfl,rfl,rfl,trivial⟩,rfl⟩)
 ·obtain rfl:j=s.l.length:=by omega
  rw[List.take_length] at hq
  have hq:q=s6 s:=hq
  subst hq
  dsimp only[cY,p8]
  unfold fT bI at hK
  by_cases h2:Qi s.bt s.now=2
  ·rw[if_pos (.inl h2)] at hK
   simp only[if_pos h2] at hK
   repeat' (first|(show Br _ _ _;refine Br.t (by first|(simp <;> done)|simpa using h2) ?_)|refine Xt ?_|refine dw dV ?_|refine dw dY ?_|refine dw dJ ?_|refine w5 ?_ ?_|((refine bh fun h=>?_) <;> try exact w6 h)|(refine aF fun hA=>?_;subst hA)|intro _|(show aA _ 57 _ _ _;refine CA (h:=dK (x:=x) (a:=a) (s:= { s with bt:=g0 s.bt s.now }) hI1 (by decide) (by decide) (fun _ _=>?_))))
   all_goals(refine aC ?_;exact aB (hK none 0 _ _))
  ·cases hf:AV s.sl s.now (s6 s)
   ·by_cases h1:Qi s.bt s.now=1
    ·rw[if_neg (by rw[hf];simp[h1])] at hK
     simp only[if_neg h2,hf,Bool.false_eq_true,if_false] at hK
     repeat' (first|(show Br _ _ _;first|refine Br.f (by first|(simp <;> done)|simpa using h2) ?_|refine Br.t (by first|(simp <;> done)|simpa using h1) ?_)|refine Xt ?_|refine dw dV ?_|refine dw dY ?_|refine dw dJ ?_|refine w5 ?_ ?_|((refine bh fun h=>?_) <;> try exact w6 h)|(refine aF fun hA=>?_;subst hA)|intro _|(show aA _ 136 _ _ _;refine CA (h:=E6 (s:=s.sl) (n:=s.now) (b:=s6 s) (by omega) (by omega) (by omega) ?_);rw[hf]))
     all_goals(refine aC ?_;exact aQ (aG.trans (by exact bE) ((Afl (f:=qQ 7 0 (btD s.bt s.now) false)))) (hK _ _ _ _))
    ·rw[if_pos (.inr (.inr h1))] at hK
     simp only[if_neg h2,hf,Bool.false_eq_true,if_false] at hK
     repeat' (first|(show Br _ _ _;first|refine Br.f (by first|(simp <;> done)|simpa using h2) ?_|refine Br.f (by first|(simp <;> done)|simpa using h1) ?_)|refine Xt ?_|refine dw dV ?_|refine dw dY ?_|refine dw dJ ?_|refine w5 ?_ ?_|((refine bh fun h=>?_) <;> try exact w6 h)|(refine aF fun hA=>?_;subst hA)|intro _|(show aA _ 136 _ _ _;refine CA (h:=E6 (s:=s.sl) (n:=s.now) (b:=s6 s) (by omega) (by omega) (by omega) ?_);rw[hf]))
     all_goals(refine aC ?_;exact aB (hK none 0 _ _))
   ·rw[if_pos (.inr (.inl hf))] at hK
    simp only[if_neg h2,hf,if_true] at hK
    repeat' (first|(show Br _ _ _;refine Br.f (by first|(simp <;> done)|simpa using h2) ?_)|refine Xt ?_|refine dw dV ?_|refine dw dY ?_|refine dw dJ ?_|refine w5 ?_ ?_|((refine bh fun h=>?_) <;> try exact w6 h)|(refine aF fun hA=>?_;subst hA)|intro _|(show aA _ 136 _ _ _;refine CA (h:=E6 (s:=s.sl) (n:=s.now) (b:=s6 s) (by omega) (by omega) (by omega) ?_);rw[hf])|(show aA _ 57 _ _ _;refine CA (h:=dK (x:=x) (a:=a) (s:= { s with bt:=g0 s.bt s.now,sl:=nS s.sl s.now (s6 s) }) (Gx (q:=s6 s) hI1) (by decide) (by decide) (fun _ _=>?_))))
    all_goals(refine aC ?_;exact aB (hK none 0 _ _))
end Go.Proofs.YtffnpejdkkohcaaGreat
